/- FnExactRunSwept, a part. -/
import Derived.Test.YtcmhjdkpbgncfaaGreatDoorFw4
import Derived.Test.YtcmhjdkpbgncfaaGreatDoorFw3
import Derived.WalkKit
import Derived.Lib.Walk
import Derived.Lib.SliceRun
import Derived.Shelf.Spec.SlicesInsert
import Derived.Test.YtcmhjdkpbgncfaaGreatDoorProg
set_option maxRecDepth 100000
namespace Go.Av
open Go.Proofs
open Tryz
set_option maxHeartbeats 4000000
noncomputable section
def Hu:List K:=[.str,.int .i64,.int .i64]
def vo:List K:=[.int .i64]
def xN:List K:=[.int .u8]
def Ge:List K:=[.str,.str,.sl 5 xN]
def CB:List K:=[.str,.int .i64,.int .i64,.int .i64,.int .i64,.sl 214 Hu,.int .i64,.int .i64,.sl 3 vo,.sl 3 vo,.sl 216 Ge]
def af5:List K:=[.int .i64,.sl 5 xN,.sl 5 xN]
def ny:List K:=[.str,.int .i64,.int .i64]
def u0:List K:=[.str,.str,.sl 5 xN]
def XI:List K:=[.str,.int .i64,.int .i64,.int .i64,.int .i64,.sl 192 ny,.int .i64,.int .i64,.sl 3 vo,.sl 3 vo,.sl 100 u0]
def aff:List K:=[.int .i64,.sl 5 xN,.sl 5 xN]
def ae4:List K:=[.sl 5 xN]
def KI:List K:=[.int .i64,.str]
def Lv:List K:=[.str,.str,.str,.sl 3 vo]
def kk9:List K:=[.str]
def P6:List K:=[.int .i64,.int .i64,.int .i64]
def Ti:List K:=[.sl 3 vo]
abbrev kK:=(S8×Int×Int×Unit)
def d214:kK:=([],0,0,())
abbrev R3:=(Int×Unit)
def d3:R3:=(0,())
abbrev R5:=(Int×Unit)
def d5:R5:=(0,())
abbrev jD:=(S8×S8×(List R5)×Unit)
def d216:jD:=([],[],[],())
abbrev jG:=(S8×Int×Int×Int×Int×(List kK)×Int×Int×(List R3)×(List R3)×(List jD)×Unit)
def d109:jG:=([],0,0,0,0,[],0,0,[],[],[],())
abbrev vZ:=(Int×(List R5)×(List R5)×Unit)
def d61:vZ:=(0,[],[],())
abbrev bA:=(S8×Int×Int×Unit)
def d192:bA:=([],0,0,())
abbrev ch:=(S8×S8×(List R5)×Unit)
def d100:ch:=([],[],[],())
abbrev gr:=(S8×Int×Int×Int×Int×(List bA)×Int×Int×(List R3)×(List R3)×(List ch)×Unit)
def d94:gr:=([],0,0,0,0,[],0,0,[],[],[],())
abbrev xK:=(Int×(List R5)×(List R5)×Unit)
def d62:xK:=(0,[],[],())
abbrev rV:=((List R5)×Unit)
def d38:rV:=([],())
abbrev fR:=(Int×S8×Unit)
def d117:fR:=(0,[],())
abbrev Oh:=(S8×S8×S8×(List R3)×Unit)
def d146:Oh:=([],[],[],[],())
abbrev R9:=(S8×Unit)
def d9:R9:=([],())
abbrev II:=(Int×Int×Int×Unit)
def d188:II:=(0,0,0,())
abbrev O5:=((List R3)×Unit)
def d52:O5:=([],())
abbrev fU (ps:List PK) (rs:List (Bool × List K)) (f:PT ps → Option (uy ps × CT rs)):Su:=⟨ps, rs, true, .inl f⟩
abbrev aS (x:List K):PK:= .c false x
abbrev dL (x:List K):PK:= .c true x
abbrev bj (n:Nat) (s:Su):Prop:=lV prog n s
abbrev eA {A B C:Type} (x:A):Option (Sum A (Sum B C)):=some (.inl x)
abbrev eB {A B C:Type} (x:B):Option (Sum A (Sum B C)):=some (.inr (.inl x))
abbrev eC {A B C:Type} (x:C):Option (Sum A (Sum B C)):=some (.inr (.inr x))
def tt:List (Nat×TI):=[(2,⟨false,[.int .i64],0,8,[]⟩), (3,⟨false,[.int .i64],0,8,[]⟩), (4,⟨false,[.bool],0,1,[]⟩), (5,⟨false,[.int .u8],0,1,[]⟩), (6,⟨false,[.int .u8],0,1,[]⟩), (7,⟨true,[.int .i64,.int .i64,.bool,.int .u8],0,24,[(0,2),(1,3),(2,4),(3,6)]⟩), (8,⟨true,[.int .i64,.int .i64,.bool,.int .u8],0,24,[(0,2),(1,3),(2,4),(3,6)]⟩), (9,⟨false,[.str],0,16,[]⟩), (10,⟨false,[.str],0,16,[]⟩), (11,⟨false,[.str],0,16,[]⟩), (12,⟨false,[.int .u64],0,8,[]⟩), (13,⟨true,[.str,.int .u64],0,24,[(0,9),(1,12)]⟩), (14,⟨true,[.str,.int .u64],0,24,[(0,9),(1,12)]⟩), (21,⟨false,[.int .i32],0,4,[]⟩), (22,⟨false,[.sl 109 CB],109,24,[]⟩), (23,⟨true,[.sl 109 CB],0,24,[(0,22)]⟩), (24,⟨true,[.sl 109 CB],0,24,[(0,22)]⟩), (25,⟨false,[.sl 61 af5],61,24,[]⟩), (29,⟨false,[.sl 94 XI],94,24,[]⟩), (30,⟨true,[.sl 94 XI],0,24,[(0,29)]⟩), (31,⟨true,[.sl 94 XI],0,24,[(0,29)]⟩), (33,⟨false,[.sl 62 aff],62,24,[]⟩), (38,⟨false,[.sl 5 xN],5,24,[]⟩), (46,⟨false,[.sl 38 ae4],38,24,[]⟩), (52,⟨false,[.sl 3 vo],3,24,[]⟩), (60,⟨true,[.int .i64,.sl 5 xN,.sl 5 xN],0,56,[(0,3),(1,38),(2,38)]⟩), (61,⟨true,[.int .i64,.sl 5 xN,.sl 5 xN],0,56,[(0,3),(1,38),(2,38)]⟩), (62,⟨true,[.int .i64,.sl 5 xN,.sl 5 xN],0,56,[(0,3),(1,38),(2,38)]⟩), (70,⟨false,[.sl 117 KI],117,24,[]⟩), (71,⟨true,[.str,.sl 117 KI],0,40,[(0,9),(1,70)]⟩), (72,⟨true,[.str,.sl 117 KI],0,40,[(0,9),(1,70)]⟩), (82,⟨true,[.int .i64,.str,.str,.str,.str,.str,.int .i64,.int .i64],0,104,[(0,3),(1,9),(2,9),(3,9),(4,9),(5,9),(6,3),(7,3)]⟩), (83,⟨true,[.int .i64,.str,.str,.str,.str,.str,.int .i64,.int .i64],0,104,[(0,3),(1,9),(2,9),(3,9),(4,9),(5,9),(6,3),(7,3)]⟩), (89,⟨false,[.sl 192 ny],192,24,[]⟩), (90,⟨true,[.int .i64,.int .i64,.sl 3 vo,.sl 3 vo],0,64,[(0,3),(1,3),(2,52),(3,52)]⟩), (91,⟨true,[.int .i64,.int .i64,.sl 3 vo,.sl 3 vo],0,64,[(0,3),(1,3),(2,52),(3,52)]⟩), (92,⟨false,[.sl 100 u0],100,24,[]⟩), (93,⟨true,[.str,.int .i64,.int .i64,.int .i64,.int .i64,.sl 192 ny,.int .i64,.int .i64,.sl 3 vo,.sl 3 vo,.sl 100 u0],0,160,[(0,9),(1,3),(2,3),(3,3),(4,3),(5,89),(6,91),(10,92)]⟩), (94,⟨true,[.str,.int .i64,.int .i64,.int .i64,.int .i64,.sl 192 ny,.int .i64,.int .i64,.sl 3 vo,.sl 3 vo,.sl 100 u0],0,160,[(0,9),(1,3),(2,3),(3,3),(4,3),(5,89),(6,91),(10,92)]⟩), (99,⟨true,[.str,.str,.sl 5 xN],0,56,[(0,9),(1,9),(2,38)]⟩), (100,⟨true,[.str,.str,.sl 5 xN],0,56,[(0,9),(1,9),(2,38)]⟩), (105,⟨false,[.sl 214 Hu],214,24,[]⟩), (106,⟨true,[.int .i64,.int .i64,.sl 3 vo,.sl 3 vo],0,64,[(0,3),(1,3),(2,52),(3,52)]⟩), (107,⟨false,[.sl 216 Ge],216,24,[]⟩), (108,⟨true,[.str,.int .i64,.int .i64,.int .i64,.int .i64,.sl 214 Hu,.int .i64,.int .i64,.sl 3 vo,.sl 3 vo,.sl 216 Ge],0,160,[(0,9),(1,3),(2,3),(3,3),(4,3),(5,105),(6,106),(10,107)]⟩), (109,⟨true,[.str,.int .i64,.int .i64,.int .i64,.int .i64,.sl 214 Hu,.int .i64,.int .i64,.sl 3 vo,.sl 3 vo,.sl 216 Ge],0,160,[(0,9),(1,3),(2,3),(3,3),(4,3),(5,105),(6,106),(10,107)]⟩), (116,⟨true,[.int .i64,.str],0,24,[(0,3),(1,9)]⟩), (117,⟨true,[.int .i64,.str],0,24,[(0,3),(1,9)]⟩), (141,⟨false,[.int .u64],0,8,[]⟩), (144,⟨false,[.sl 146 Lv],146,24,[]⟩), (145,⟨true,[.str,.str,.str,.sl 3 vo],0,72,[(0,9),(1,9),(2,9),(3,52)]⟩), (146,⟨true,[.str,.str,.str,.sl 3 vo],0,72,[(0,9),(1,9),(2,9),(3,52)]⟩), (181,⟨false,[.sl 9 kk9],9,24,[]⟩), (187,⟨true,[.int .i64,.int .i64,.int .i64],0,24,[(0,3),(1,3),(2,3)]⟩), (188,⟨true,[.int .i64,.int .i64,.int .i64],0,24,[(0,3),(1,3),(2,3)]⟩), (191,⟨true,[.str,.int .i64,.int .i64],0,32,[(0,9),(1,3),(2,3)]⟩), (192,⟨true,[.str,.int .i64,.int .i64],0,32,[(0,9),(1,3),(2,3)]⟩), (214,⟨true,[.str,.int .i64,.int .i64],0,32,[(0,9),(1,3),(2,3)]⟩), (216,⟨true,[.str,.str,.sl 5 xN],0,56,[(0,9),(1,9),(2,38)]⟩), (225,⟨false,[.sl 188 P6],188,24,[]⟩), (245,⟨false,[.sl 52 Ti],52,24,[]⟩), (247,⟨false,[.int .i64],0,8,[]⟩), (269,⟨false,[.int .u64],0,8,[]⟩), (276,⟨false,[.int .u32],0,4,[]⟩), (285,⟨true,[.str],0,16,[(0,9)]⟩), (286,⟨true,[.str],0,16,[(0,9)]⟩), (299,⟨true,[.int .u8,.int .u8],0,2,[(0,5),(1,5)]⟩), (300,⟨true,[.int .u8,.int .u8],0,2,[(0,5),(1,5)]⟩), (314,⟨false,[.int .u8],0,1,[]⟩), (315,⟨false,[.int .u8],0,1,[]⟩), (317,⟨false,[.int .i32],0,4,[]⟩), (318,⟨false,[.int .i32],0,4,[]⟩)]
def E0:En:=xL 0 tt [] [] (fun _=>none) [] fun _=>none
theorem hT:cH prog E0:=Wp (by kernel_rfl)
theorem iO:prog.follows .mixedOrders=true:=by kernel_rfl
theorem fl{f:Nat}{s:Su}{l:List (Nat×SS)}(hl:pS prog l)(ρ:List SE)(los:List (Nat×Lo ρ))(pins:List Nat)(fn:Func)
 (Pe:GLo prog (O2 fn.ntmps tt l ρ los pins) (aw fn) (aw fn))
 (h:(prog.funcs[f]?, (fn.name == "runtime.NumGoroutine"), fn.body.isSome) = (some fn, false, true):=by kernel_rfl)
 (ht:∀ x,(Ik (O2 fn.ntmps tt l ρ los pins) (aw fn) fn.results.toList s.ps s.rs s.fresh x).run=s.v7 x:=by intro x;kernel_rfl):lV prog f s:=by
 simp only[amO]at h
 exact flq hT iO hl (fn:=fn) (by rw[h.1,h.2.1,h.2.2]) Pe ht
theorem fq{f:Nat}{s:Su}{l:List (Nat×SS)}(hl:pS prog l)(fn:Func)
 (h:(prog.funcs[f]?, (fn.name == "runtime.NumGoroutine"), fn.body.isSome, fz (fun _=>false) (aw fn)) = (some fn, false, true, []):=by kernel_rfl)
 (ht:∀ x,(Ik (O2 fn.ntmps tt l [] [] []) (aw fn) fn.results.toList s.ps s.rs s.fresh x).run=s.v7 x:=by intro x;kernel_rfl):lV prog f s:=by
 simp only[amO]at h
 exact flq hT iO hl (fn:=fn) (by rw[h.1,h.2.1,h.2.2.1]) (lp (n:=fn.ntmps) (tt:=tt) (l:=l) (ρ:=[]) (los:=[]) (pins:=[]) [] sn h.2.2.2) ht
abbrev Y0:=Nat×SS
abbrev Y1:=Int×Unit
abbrev Y2:=Bool×Unit
abbrev Y4:=(List R5)×Unit
abbrev Y5:=(List gr)×Unit
abbrev Y7:=(List bA)×Unit
abbrev Y6:=(List ch)×Unit
abbrev Y9:=S8×Unit
abbrev Y8:=Y1×Unit
abbrev Y15:=Int×S8×Unit
abbrev Y14:=S8×Int×Unit
abbrev iP:=Unit×Y8
abbrev iG:=Unit×(Y2×Unit)
abbrev Y21:=(List R3)×Int×Bool×Unit
abbrev Y23:=S8×Int×Int×Unit
abbrev xJ:=S8×(List fR)×Unit
abbrev Y27:=Unit×(((List R9)×Unit)×Unit)
abbrev Y26:=Unit×(Y4×Unit)
abbrev Y25:=Unit×(O5×Unit)
abbrev Y29:=Unit×(Y5×Unit)
abbrev Y31:=Unit×(Y7×Unit)
abbrev Y30:=Unit×(Y6×Unit)
abbrev EP:=Unit×(Y9×Unit)
abbrev Y33:=Int×Int×(List R3)×(List R3)×Unit
abbrev Y36:=Unit×(Y1×Y2×Unit)
abbrev Y35:=(List ch)×(List ch)×Int×Int×Unit
abbrev Y39:=Int×xJ×Unit
abbrev O4:=Unit×(Y4×Y2×Unit)
abbrev Y55:=Unit×(Y33×Unit)
abbrev Y58:=(List bA)×(Y9×Unit)×Int×Int×Unit
abbrev Y60:=Unit×(O5×Y1×Y2×Unit)
abbrev Y62:=Unit×(xJ×Y2×Unit)
abbrev Y64:=Unit×(Y9×Y1×Y2×Unit)
abbrev Y66:=Int×S8×S8×S8×S8×S8×Int×Int×Unit
abbrev BW:=S8×Int×Int×Int×Int×(List bA)×Int×Int×(List R3)×(List R3)×(List ch)×Unit
abbrev Y72:=Unit×(BW×Unit)
abbrev Hr:=Unit×(BW×Y1×Unit)
abbrev af:K:= .int .i64
abbrev Ox:K:= .sl 214 Hu
abbrev q3:K:= .sl 3 vo
abbrev q5:K:= .sl 5 xN
abbrev MG:K:= .sl 216 Ge
abbrev Kc:K:= .sl 109 CB
abbrev q61:K:= .sl 61 af5
abbrev bH:K:= .sl 192 ny
abbrev ck:K:= .sl 100 u0
abbrev jZ:K:= .sl 94 XI
abbrev O0:K:= .sl 62 aff
abbrev eO:K:= .sl 117 KI
abbrev Lf:K:= .sl 38 ae4
abbrev c0:Option iG:=zR false
abbrev c1:Option (Unit×(Y66×Y1×Unit)):=some ((),((0,[],[],[],[],[],0,0,()),(1,()),()))
abbrev c2:Option iP:=zR (-1)
abbrev c3:Option iG:=zR true
abbrev c4:Option Y64:=some ((),(([],()),(0,()),(false,()),()))
abbrev c5:Option iP:=zR 0
abbrev c6:Option EP:=zR []
abbrev c7:Option O4:=some ((),(([],()),(false,()),()))
abbrev c8:Option Hr:=some ((),(([],0,0,0,0,[],0,0,[],[],[],()),(1,()),()))
abbrev c9:Option iP:=zR 2
abbrev XF:Option Y62:=some ((),(([],[],()),(false,()),()))
abbrev c11:Option iP:=zR 1
abbrev c12:Option Hr:=some ((),(([],0,0,0,0,[],0,0,[],[],[],()),(4,()),()))
abbrev c13:Option (Unit×(Y5×Y1×Y9×Unit)):=some ((),(([],()),(1,()),([],()),()))
abbrev c14:Option (Unit×(Y5×Y1×Y9×Unit)):=some ((),(([],()),(3,()),([],()),()))
abbrev c15:Option (Unit×(Y7×Y2×Unit)):=some ((),(([],()),(false,()),()))
abbrev c16:Option Y60:=some ((),(([],()),(0,()),(false,()),()))
abbrev c17:Option iP:=zR 3
abbrev c18:Option (Unit×(BW×BW×Y1×Unit)):=some ((),(([],0,0,0,0,[],0,0,[],[],[],()),([],0,0,0,0,[],0,0,[],[],[],()),(1,()),()))
abbrev c19:Option Y36:=some ((),((0,()),(false,()),()))
abbrev c20:Option iP:=zR 4
abbrev c21:Option iP:=zR 6
abbrev c22:Option iP:=zR 12
abbrev c23:Option iP:=zR 8
abbrev c24:Option (Unit×(Y1×Y1×Y2×Unit)):=some ((),((0,()),(0,()),(false,()),()))
abbrev c25:Option (Unit×(xJ×Y1×Unit)):=some ((),(([],[],()),(2,()),()))
abbrev c26:Option (Unit×(xJ×Y1×Unit)):=some ((),(([],[],()),(4,()),()))
abbrev c27:Option Hr:=some ((),(([],0,0,0,0,[],0,0,[],[],[],()),(5,()),()))
abbrev c28:Option iP:=zR 4611686018427387904
abbrev c29:Option Y27:=zR [([48,48],()),([51,48],()),([49,50],()),([49,52],()),([49,51],()),([50,53],()),([57,52],()),([53,49],()),([54,53],()),([54,49],()),([57,54],())]
abbrev c30:Option (Unit×(Y66×Y1×Unit)):=some ((),((0,[],[],[],[],[],0,0,()),(2,()),()))
abbrev c31:Option Hr:=some ((),(([],0,0,0,0,[],0,0,[],[],[],()),(6,()),()))
abbrev c32:Option Hr:=some ((),(([],0,0,0,0,[],0,0,[],[],[],()),(10,()),()))
abbrev c33:Option Hr:=some ((),(([],0,0,0,0,[],0,0,[],[],[],()),(7,()),()))
abbrev c34:Option (Unit×(BW×BW×Y1×Unit)):=some ((),(([],0,0,0,0,[],0,0,[],[],[],()),([],0,0,0,0,[],0,0,[],[],[],()),(4,()),()))
abbrev c35:Option (Unit×(BW×BW×Y1×Unit)):=some ((),(([],0,0,0,0,[],0,0,[],[],[],()),([],0,0,0,0,[],0,0,[],[],[],()),(5,()),()))
abbrev c36:Option (Unit×(BW×BW×Y1×Unit)):=some ((),(([],0,0,0,0,[],0,0,[],[],[],()),([],0,0,0,0,[],0,0,[],[],[],()),(6,()),()))
abbrev c37:Option (Unit×(BW×BW×Y1×Unit)):=some ((),(([],0,0,0,0,[],0,0,[],[],[],()),([],0,0,0,0,[],0,0,[],[],[],()),(10,()),()))
abbrev c38:Option (Unit×(BW×BW×Y1×Unit)):=some ((),(([],0,0,0,0,[],0,0,[],[],[],()),([],0,0,0,0,[],0,0,[],[],[],()),(7,()),()))
abbrev c39:Option (Unit×(BW×Y1×Y1×Unit)):=some ((),(([],0,0,0,0,[],0,0,[],[],[],()),(0,()),(1,()),()))
section
open Go.Shelf Go.RowKit Go.Lib
def sρ:Ren:=⟨fun | 99=>287 | 105=>255 | 129=>327 | 165=>288 | 166=>289 | 169=>291 | 170=>290 | 171=>265 | 172=>201 | 205=>300 | 206=>306 | 212=>286 | 240=>307 | 241=>308 | 243=>296 | 244=>248 | 245=>249 | 246=>310 | 247=>277 | 263=>304 | 264=>305 | 276=>318 | 277=>319 | 279=>278 | 280=>279 | 281=>280 | 282=>281 | 283=>321 | 284=>322 | 285=>323 | 286=>324 | 287=>298 | 316=>299 | 317=>326 | 318=>328 | 319=>329 | 320=>330 | 321=>311 | 322=>312 | 337=>332 | 338=>333 | n=>n,fun | 0=>0 | 2=>2 | 3=>3 | 4=>4 | 5=>5 | 9=>9 | 20=>20 | 21=>21 | 37=>38 | 46=>141 | 51=>276 | 53=>269 | 70=>260 | 72=>262 | 75=>195 | 76=>196 | 80=>265 | 85=>248 | 109=>257 | 127=>281 | 143=>284 | 145=>286 | 146=>277 | 148=>279 | 164=>289 | 167=>247 | 168=>250 | 171=>293 | 173=>296 | 175=>270 | 210=>273 | 212=>303 | 213=>304 | 232=>307 | 233=>308 | n=>n,fun | 15=>0 | 16=>1 | 17=>5 | 18=>6 | 19=>7 | n=>n⟩
theorem AP:LaysC.n172 prog sρ:=by repeat' first | kernel_rfl | (intro _;kernel_rfl) | decide | constructor
theorem BE:LaysM.n171 prog sρ:=by repeat' first | kernel_rfl | (intro _;kernel_rfl) | decide | constructor
theorem Ch:Lays.n105 prog sρ:=by repeat' first | kernel_rfl | (intro _;kernel_rfl) | decide | constructor
theorem uF:Builder.Extra prog sρ:=by repeat' first | kernel_rfl | (intro _;kernel_rfl) | decide | constructor
end
def VX(p0:S8×Int×Int×Unit)(p1:Int):Option iP:=let u1:=(bf .i64 p1 (ae p0.1));cond (aE u1 0) (c2) (zR u1)
abbrev iN:List (Bool × List K):=[(false,[.bool])]
abbrev jd:List (Bool × List K):=[(false,[af])]
abbrev Fm:List (Bool × List K):=[(false,[.str])]
abbrev TJ:List (Bool × List K):=[(true,[.str,af,af,af,af,bH,af,af,q3,q3,ck]),(false,[af])]
abbrev US:List (Bool × List K):=[(false,[q5]),(false,[.bool])]
abbrev Wj:List (Bool × List K):=[(false,[bH])]
abbrev w6R:List (Bool × List K):=[(true,[af,af,q3,q3])]
abbrev w7R:List (Bool × List K):=[(true,[jZ])]
abbrev w8R:List (Bool × List K):=[(false,[q5])]
abbrev w9R:List (Bool × List K):=[(true,[.str,af,af,af,af,bH,af,af,q3,q3,ck])]
abbrev VZ:List (Bool × List K):=[(false,[.str]),(false,[af]),(false,[.bool])]
def ajY:=fU [dL [.str,af,af],aS [af]] jd fun x=>VX x.1 x.2.1.1
theorem afJ:bj 221 ajY:=fq an f221
def sV(t0:List kK)(t1 t5:Int):Rd ((List kK)×Int×Int×Unit) Y1:=cond (aE t5 (ae t0)) (cond (aX t5 t0) ((VX (gt d214 t0 t5) t1).bind fun y1=>cond (aE y1.2.1.1 0) (eC ((-1),())) (eA (t0,y1.2.1.1,(ak .i64 t5 1),()))) none) (eB (t0,t1,t5,()))
def Rl:=pk (aq (fJ sV))
def XR(p0:List kK)(p1:Int):Option iP:=let u1:=(bf .i64 p1 (ae p0));cond (aE u1 0) (c2) ((Rl p0 u1 0).bind (Sum.elim (fun y1=>zR y1.2.1) (fun y1=>some ((),(y1,())))))
def ak6:=fU [aS [Ox],aS [af]] jd fun x=>XR x.1.1 x.2.1.1
theorem afG:bj 148 ak6:=fl (ac afJ an) [.d 4 af] [(0,⟨[.d 0 Ox,.d 1 af,.d 5 af],aq (fJ sV)⟩)] [] f148 (lp [0] (sc dU sn))
def Q7(p0:List R3)(p1:Int):Option iP:=let u1:=(bf .i64 p1 (ae p0));cond (aE u1 0) (c2) (zR u1)
def akD:=fU [aS [q3],aS [af]] jd fun x=>Q7 x.1.1 x.2.1.1
theorem agf:bj 222 akD:=fq an f222
def Xx(p0:Int×Int×(List R3)×(List R3)×Unit)(p1:Int):Option iP:=(Q7 p0.2.2.1 p1).bind fun y1=>cond (aE y1.2.1.1 0) (c2) ((Q7 p0.2.2.2.1 y1.2.1.1).bind fun y2=>cond (aE y2.2.1.1 0) (c2) (some ((),(y2.2.1,()))))
def akh:=fU [dL [af,af,q3,q3],aS [af]] jd fun x=>Xx x.1 x.2.1.1
theorem aeM:bj 149 akh:=fq (ac agf an) f149
def g74(p0:List R5)(p1:Int):Option iP:=let u1:=(bf .i64 p1 (ae p0));cond (aE u1 0) (c2) (zR u1)
def s74:=fU [aS [q5],aS [af]] jd fun x=>g74 x.1.1 x.2.1.1
theorem ae1:bj 74 s74:=fq an f74
def VI(p0:S8×S8×(List R5)×Unit)(p1:Int):Option iP:=let u1:=(bf .i64 p1 (ae p0.1));cond (aE u1 0) (c2) (let u2:=(bf .i64 u1 (ae p0.2.1));cond (aE u2 0) (c2) ((g74 p0.2.2.1 u2).bind fun y1=>cond (aE y1.2.1.1 0) (c2) (some ((),(y1.2.1,())))))
def aks:=fU [dL [.str,.str,q5],aS [af]] jd fun x=>VI x.1 x.2.1.1
theorem ahC:bj 223 aks:=fq (ac ae1 an) f223
def ua(t0:List jD)(t1 t5:Int):Rd ((List jD)×Int×Int×Unit) Y1:=cond (aE t5 (ae t0)) (cond (aX t5 t0) ((VI (gt d216 t0 t5) t1).bind fun y1=>cond (aE y1.2.1.1 0) (eC ((-1),())) (eA (t0,y1.2.1.1,(ak .i64 t5 1),()))) none) (eB (t0,t1,t5,()))
def PX:=pk (aq (fJ ua))
def VR(p0:List jD)(p1:Int):Option iP:=let u1:=(bf .i64 p1 (ae p0));cond (aE u1 0) (c2) ((PX p0 u1 0).bind (Sum.elim (fun y1=>zR y1.2.1) (fun y1=>some ((),(y1,())))))
def ak3:=fU [aS [MG],aS [af]] jd fun x=>VR x.1.1 x.2.1.1
theorem aeT:bj 150 ak3:=fl (ac ahC an) [.d 4 af] [(0,⟨[.d 0 MG,.d 1 af,.d 5 af],aq (fJ ua)⟩)] [] f150 (lp [0] (sc dU sn))
def g73(p0:S8×Int×Int×Int×Int×(List kK)×Int×Int×(List R3)×(List R3)×(List jD)×Unit)(p1:Int):Option iP:=let u1:=(bf .i64 p1 (ae p0.1));cond (aE u1 0) (c2) ((XR p0.2.2.2.2.2.1 u1).bind fun y1=>cond (aE y1.2.1.1 0) (c2) ((Xx (p0.2.2.2.2.2.2.1,p0.2.2.2.2.2.2.2.1,p0.2.2.2.2.2.2.2.2.1,p0.2.2.2.2.2.2.2.2.2.1,()) y1.2.1.1).bind fun y2=>cond (aE y2.2.1.1 0) (c2) ((VR p0.2.2.2.2.2.2.2.2.2.2.1 y2.2.1.1).bind fun y3=>cond (aE y3.2.1.1 0) (c2) (some ((),(y3.2.1,()))))))
def s73:=fU [dL [.str,af,af,af,af,Ox,af,af,q3,q3,MG],aS [af]] jd fun x=>g73 x.1 x.2.1.1
theorem akp:bj 73 s73:=fq (ac afG (ac aeM (ac aeT an))) f73
def zI(t0:List jG)(t1 t5:Int):Rd ((List jG)×Int×Int×Unit) Y1:=cond (aE t5 (ae t0)) (cond (aX t5 t0) ((g73 (gt d109 t0 t5) t1).bind fun y1=>cond (aE y1.2.1.1 0) (eC ((-1),())) (eA (t0,y1.2.1.1,(ak .i64 t5 1),()))) none) (eB (t0,t1,t5,()))
def ZL:=pk (aq (fJ zI))
def g34(p0:List jG)(p1:Int):Option iP:=let u1:=(bf .i64 p1 (ae p0));cond (aE u1 0) (c2) ((ZL p0 u1 0).bind (Sum.elim (fun y1=>zR y1.2.1) (fun y1=>some ((),(y1,())))))
def s34:=fU [aS [Kc],aS [af]] jd fun x=>g34 x.1.1 x.2.1.1
theorem aj6:bj 34 s34:=fl (ac akp an) [.d 4 af] [(0,⟨[.d 0 Kc,.d 1 af,.d 5 af],aq (fJ zI)⟩)] [] f34 (lp [0] (sc dU sn))
def g7(p0:(List jG)×Unit)(p1:Int):Option iP:=(g34 p0.1 p1).bind fun y1=>cond (aE y1.2.1.1 0) (c2) (some ((),(y1.2.1,())))
def s7:=fU [dL [Kc],aS [af]] jd fun x=>g7 x.1 x.2.1.1
theorem ok7:bj 7 s7:=fq (ac aj6 an) f7
def g35(p0:Int×(List R5)×(List R5)×Unit)(p1:Int):Option iP:=(g74 p0.2.1 p1).bind fun y1=>cond (aE y1.2.1.1 0) (c2) ((g74 p0.2.2.1 y1.2.1.1).bind fun y2=>cond (aE y2.2.1.1 0) (c2) (some ((),(y2.2.1,()))))
def s35:=fU [dL [af,q5,q5],aS [af]] jd fun x=>g35 x.1 x.2.1.1
theorem ajF:bj 35 s35:=fq (ac ae1 an) f35
def JM(t0:List vZ)(t1 t5:Int):Rd ((List vZ)×Int×Int×Unit) Y1:=cond (aE t5 (ae t0)) (cond (aX t5 t0) ((g35 (gt d61 t0 t5) t1).bind fun y1=>cond (aE y1.2.1.1 0) (eC ((-1),())) (eA (t0,y1.2.1.1,(ak .i64 t5 1),()))) none) (eB (t0,t1,t5,()))
def agt:=pk (aq (fJ JM))
def g8(p0:List vZ)(p1:Int):Option iP:=let u1:=(bf .i64 p1 (ae p0));cond (aE u1 0) (c2) ((agt p0 u1 0).bind (Sum.elim (fun y1=>zR y1.2.1) (fun y1=>some ((),(y1,())))))
def s8:=fU [aS [q61],aS [af]] jd fun x=>g8 x.1.1 x.2.1.1
theorem ok8:bj 8 s8:=fl (ac ajF an) [.d 4 af] [(0,⟨[.d 0 q61,.d 1 af,.d 5 af],aq (fJ JM)⟩)] [] f8 (lp [0] (sc dU sn))
def WB(p0:S8×Int×Int×Unit):Option (Unit×(Y23×Unit)):=some ((),(p0,()))
def aiT:=fU [dL [.str,af,af]] [(true,[.str,af,af])] fun x=>WB x.1
theorem ae7:bj 224 aiT:=fq an f224
def tJ(t0:List kK)(t3:List bA)(t4:Int):Rd ((List kK)×(List bA)×Int×Unit) Unit:=cond (aE t4 (ae t0)) (cond (aX t4 t0) ((WB (gt d214 t0 t4)).bind fun y1=>cond (aX t4 t3) (let u1:=(gt d192 t3 t4);let u2:=(cZ t3 t4 (y1.2.1.1,u1.2.1,u1.2.2.1,()));let u3:=(gt d192 u2 t4);let u4:=(cZ u2 t4 (u3.1,y1.2.1.2.1,u3.2.2.1,()));let u5:=(gt d192 u4 t4);eA (t0,(cZ u4 t4 (u5.1,u5.2.1,y1.2.1.2.2.1,())),(ak .i64 t4 1),())) none) none) (eB (t0,t3,t4,()))
def PD:=pk (aq (fJ tJ))
def VP(p0:List kK):Option Y31:=let u1:=(ae p0);cond (WS 32 u1) ((PD p0 (xh d192 u1) 0).bind (Sum.elim (fun y1=>zR y1.2.1) (fun _=>none))) none
def ajV:=fU [aS [Ox]] Wj fun x=>VP x.1.1
theorem ahm:bj 151 ajV:=fl (ac ae7 an) [] [(0,⟨[.d 0 Ox,.own 3 bH,.d 4 af],aq (fJ tJ)⟩)] [] f151 (lp [0] (sc dU sn))
def Bh(t0 t3:List R3)(t4:Int):Rd ((List R3)×(List R3)×Int×Unit) Unit:=cond (aE t4 (ae t0)) (cond (aX t4 t0) (cond (aX t4 t3) (eA (t0,(cZ t3 t4 (gt d3 t0 t4)),(ak .i64 t4 1),())) none) none) (eB (t0,t3,t4,()))
def ZO:=pk (aq (fJ Bh))
def g30(p0:List R3):Option Y25:=let u1:=(ae p0);cond (WS 8 u1) ((ZO p0 (xh d3 u1) 0).bind (Sum.elim (fun y1=>zR y1.2.1) (fun _=>none))) none
def s30:=fU [aS [q3]] [(false,[q3])] fun x=>g30 x.1.1
theorem afi:bj 30 s30:=fl an [] [(0,⟨[.d 0 q3,.own 3 q3,.d 4 af],aq (fJ Bh)⟩)] [] f30 (lp [0] (sc dU sn))
def VH(p0:Int×Int×(List R3)×(List R3)×Unit):Option Y55:=(g30 p0.2.2.1).bind fun y1=>(g30 p0.2.2.2.1).bind fun y2=>some ((),((p0.1,p0.2.1,y1.2.1.1,y2.2.1.1,()),()))
def ak8:=fU [dL [af,af,q3,q3]] w6R fun x=>VH x.1
theorem agw:bj 152 ak8:=fq (ac afi an) f152
def BJ(t0 t3:List R5)(t4:Int):Rd ((List R5)×(List R5)×Int×Unit) Unit:=cond (aE t4 (ae t0)) (cond (aX t4 t0) (cond (aX t4 t3) (eA (t0,(cZ t3 t4 (gt d5 t0 t4)),(ak .i64 t4 1),())) none) none) (eB (t0,t3,t4,()))
def YW:=pk (aq (fJ BJ))
def g16(p0:List R5):Option Y26:=let u1:=(ae p0);cond (WS 1 u1) ((YW p0 (xh d5 u1) 0).bind (Sum.elim (fun y1=>zR y1.2.1) (fun _=>none))) none
def s16:=fU [aS [q5]] w8R fun x=>g16 x.1.1
theorem agL:bj 16 s16:=fl an [] [(0,⟨[.d 0 q5,.own 3 q5,.d 4 af],aq (fJ BJ)⟩)] [] f16 (lp [0] (sc dU sn))
def Ws(p0:S8×S8×(List R5)×Unit):Option (Unit×(jD×Unit)):=(g16 p0.2.2.1).bind fun y1=>some ((),((p0.1,p0.2.1,y1.2.1.1,()),()))
def ak2:=fU [dL [.str,.str,q5]] [(true,[.str,.str,q5])] fun x=>Ws x.1
theorem aeN:bj 225 ak2:=fq (ac agL an) f225
def uk(t0:List jD)(t3:List ch)(t4:Int):Rd ((List jD)×(List ch)×Int×Unit) Unit:=cond (aE t4 (ae t0)) (cond (aX t4 t0) ((Ws (gt d216 t0 t4)).bind fun y1=>cond (aX t4 t3) (let u1:=(gt d100 t3 t4);let u2:=(cZ t3 t4 (y1.2.1.1,u1.2.1,u1.2.2.1,()));let u3:=(gt d100 u2 t4);let u4:=(cZ u2 t4 (u3.1,y1.2.1.2.1,u3.2.2.1,()));let u5:=(gt d100 u4 t4);eA (t0,(cZ u4 t4 (u5.1,u5.2.1,y1.2.1.2.2.1,())),(ak .i64 t4 1),())) none) none) (eB (t0,t3,t4,()))
def Pu:=pk (aq (fJ uk))
def Vw(p0:List jD):Option Y30:=let u1:=(ae p0);cond (WS 56 u1) ((Pu p0 (xh d100 u1) 0).bind (Sum.elim (fun y1=>zR y1.2.1) (fun _=>none))) none
def ajK:=fU [aS [MG]] [(false,[ck])] fun x=>Vw x.1.1
theorem ahG:bj 153 ajK:=fl (ac aeN an) [] [(0,⟨[.d 0 MG,.own 3 ck,.d 4 af],aq (fJ uk)⟩)] [] f153 (lp [0] (sc dU sn))
def g75(p0:S8×Int×Int×Int×Int×(List kK)×Int×Int×(List R3)×(List R3)×(List jD)×Unit):Option Y72:=(VP p0.2.2.2.2.2.1).bind fun y1=>(VH (p0.2.2.2.2.2.2.1,p0.2.2.2.2.2.2.2.1,p0.2.2.2.2.2.2.2.2.1,p0.2.2.2.2.2.2.2.2.2.1,())).bind fun y2=>(Vw p0.2.2.2.2.2.2.2.2.2.2.1).bind fun y3=>some ((),((p0.1,p0.2.1,p0.2.2.1,p0.2.2.2.1,p0.2.2.2.2.1,y1.2.1.1,y2.2.1.1,y2.2.1.2.1,y2.2.1.2.2.1,y2.2.1.2.2.2.1,y3.2.1.1,()),()))
def s75:=fU [dL [.str,af,af,af,af,Ox,af,af,q3,q3,MG]] w9R fun x=>g75 x.1
theorem akm:bj 75 s75:=fq (ac ahm (ac agw (ac ahG an))) f75
def Aa(t0:List jG)(t3:List gr)(t4:Int):Rd ((List jG)×(List gr)×Int×Unit) Unit:=cond (aE t4 (ae t0)) (cond (aX t4 t0) ((g75 (gt d109 t0 t4)).bind fun y1=>cond (aX t4 t3) (eA (t0,(cZ t3 t4 y1.2.1),(ak .i64 t4 1),())) none) none) (eB (t0,t3,t4,()))
def aau:=pk (aq (fJ Aa))
def g36(p0:List jG):Option Y29:=let u1:=(ae p0);cond (WS 160 u1) ((aau p0 (xh d94 u1) 0).bind (Sum.elim (fun y1=>zR y1.2.1) (fun _=>none))) none
def s36:=fU [aS [Kc]] [(false,[jZ])] fun x=>g36 x.1.1
theorem akx:bj 36 s36:=fl (ac akm an) [] [(0,⟨[.d 0 Kc,.own 3 jZ,.d 4 af],aq (fJ Aa)⟩)] [] f36 (lp [0] (sc dU sn))
def g10(p0:(List jG)×Unit):Option Y29:=(g36 p0.1).bind fun y1=>some ((),(y1.2.1,()))
def s10:=fU [dL [Kc]] w7R fun x=>g10 x.1
theorem akr:bj 10 s10:=fq (ac akx an) f10
def g37(p0:Int×(List R5)×(List R5)×Unit):Option (Unit×(vZ×Unit)):=(g16 p0.2.1).bind fun y1=>(g16 p0.2.2.1).bind fun y2=>some ((),((p0.1,y1.2.1.1,y2.2.1.1,()),()))
def s37:=fU [dL [af,q5,q5]] [(true,[af,q5,q5])] fun x=>g37 x.1
theorem ak7:bj 37 s37:=fq (ac agL an) f37
def Bo(t0:List vZ)(t3:List xK)(t4:Int):Rd ((List vZ)×(List xK)×Int×Unit) Unit:=cond (aE t4 (ae t0)) (cond (aX t4 t0) ((g37 (gt d61 t0 t4)).bind fun y1=>cond (aX t4 t3) (let u1:=(gt d62 t3 t4);let u2:=(cZ t3 t4 (y1.2.1.1,u1.2.1,u1.2.2.1,()));let u3:=(gt d62 u2 t4);let u4:=(cZ u2 t4 (u3.1,y1.2.1.2.1,u3.2.2.1,()));let u5:=(gt d62 u4 t4);eA (t0,(cZ u4 t4 (u5.1,u5.2.1,y1.2.1.2.2.1,())),(ak .i64 t4 1),())) none) none) (eB (t0,t3,t4,()))
def YV:=pk (aq (fJ Bo))
def g11(p0:List vZ):Option (Unit×(((List xK)×Unit)×Unit)):=let u1:=(ae p0);cond (WS 56 u1) ((YV p0 (xh d62 u1) 0).bind (Sum.elim (fun y1=>zR y1.2.1) (fun _=>none))) none
def s11:=fU [aS [q61]] [(false,[O0])] fun x=>g11 x.1.1
theorem akd:bj 11 s11:=fl (ac ak7 an) [] [(0,⟨[.d 0 q61,.own 3 O0,.d 4 af],aq (fJ Bo)⟩)] [] f11 (lp [0] (sc dU sn))
def EO(p0:Int×Int×(List R3)×(List R3)×Unit):Option Y55:=cond (bk 8 [] p0.2.2.1) (cond (bk 8 [] p0.2.2.2.1) (some ((),((p0.1,p0.2.1,(fE [] p0.2.2.1),(fE [] p0.2.2.2.1),()),()))) none) none
def akw:=fU [dL [af,af,q3,q3]] w6R fun x=>EO x.1
theorem R6:bj 157 akw:=fq an f157
def zY(t3 t7:List ch)(t8 t9:Int):Rd Y35 Unit:=cond (aE t9 t8) (cond (aX t9 t7) (let u1:=(gt d100 t7 t9);cond (bk 1 [] u1.2.2.1) (cond (bk 56 t3 [(u1.1,u1.2.1,(fE [] u1.2.2.1),())]) (eA ((fE t3 [(u1.1,u1.2.1,(fE [] u1.2.2.1),())]),t7,t8,(ak .i64 t9 1),())) none) none) none) (eB (t3,t7,t8,t9,()))
def ZX:=rA (aq (ep zY))
def g98(p0:List ch):Option Y30:=(ZX [] p0 (ae p0) 0).bind (Sum.elim (fun y1=>zR y1.1) (fun _=>none))
def s98:=fU [aS [ck]] [(false,[ck])] fun x=>g98 x.1.1
theorem ag1:bj 98 s98:=fl an [] [(0,⟨[.own 3 ck,.d 7 ck,.d 8 af,.d 9 af],aq (ep zY)⟩)] [] f98 (lp [0] (sc dU sn))
def PC(p0:S8×Int×Int×Int×Int×(List bA)×Int×Int×(List R3)×(List R3)×(List ch)×Unit):Option Y72:=cond (bk 32 [] p0.2.2.2.2.2.1) ((EO (p0.2.2.2.2.2.2.1,p0.2.2.2.2.2.2.2.1,p0.2.2.2.2.2.2.2.2.1,p0.2.2.2.2.2.2.2.2.2.1,())).bind fun y1=>(g98 p0.2.2.2.2.2.2.2.2.2.2.1).bind fun y2=>some ((),((p0.1,p0.2.1,p0.2.2.1,p0.2.2.2.1,p0.2.2.2.2.1,(fE [] p0.2.2.2.2.2.1),y1.2.1.1,y1.2.1.2.1,y1.2.1.2.2.1,y1.2.1.2.2.2.1,y2.2.1.1,()),()))) none
def s77:=fU [dL [.str,af,af,af,af,bH,af,af,q3,q3,ck]] w9R fun x=>PC x.1
theorem V6:bj 77 s77:=fq (ac R6 (ac ag1 an)) f77
def Af(t8:List gr)(t9 t10:Int)(b2 b3:(List gr)×Unit):Rd ((List gr)×Int×Int×Y5×Y5×Unit) Unit:=cond (aE t10 t9) (cond (aX t10 t8) ((PC (gt d94 t8 t10)).bind fun y1=>cond (bk 160 b3.1 [y1.2.1]) (eA (t8,t9,(ak .i64 t10 1),b2,((fE b3.1 [y1.2.1]),()),())) none) none) (eB (t8,t9,t10,b2,b3,()))
def Z7:=O6 (aq (pY Af))
def g41(p0:(List gr)×Unit):Option Y29:=(Z7 p0.1 (ae p0.1) 0 ([],()) ([],())).bind (Sum.elim (fun y1=>some ((),(y1.2.2.2.2.1,()))) (fun _=>none))
def s41:=fU [dL [jZ]] w7R fun x=>g41 x.1
theorem MV:bj 41 s41:=fl (ac V6 an) [] [(0,⟨[.d 8 jZ,.d 9 af,.d 10 af,.box 2 [(true,jZ)],.box 3 [(true,jZ)]],aq (pY Af)⟩)] [] f41 (lp [0] (sc dU sn))
def zp(t0:S8)(t3:Int):Rd Y14 Y2:=cond (aE t3 (ae t0)) (cond (aX t3 t0) (let u1:=(fh t0 t3);cond (aE u1 48) (eC (false,())) (cond (aX t3 t0) (cond (aE 57 u1) (eC (false,())) (eA (t0,(ak .i64 t3 1),()))) none)) none) (eB (t0,t3,()))
def YL:=U4 (aq (yZ zp))
def Ih(p0:S8):Option iG:=(YL p0 0).bind (Sum.elim (fun y1=>zR (aE 0 (ae y1.1))) (fun y1=>some ((),(y1,()))))
def s78:=fU [aS [.str]] iN fun x=>Ih x.1.1
theorem B4:bj 78 s78:=fl an [.d 2 .bool] [(0,⟨[.d 0 .str,.d 3 af],aq (yZ zp)⟩)] [] f78 (lp [0] (sc dU sn))
def wx(t0:S8)(t3:Int)(t4:Bool)(t5:Int):Rd (S8×Int×Bool×Int×Unit) Unit:=cond (cl 0 t5) (cond (aX t5 t0) (cond t4 (let u1:=(bf .i64 (dC .i64 (fh t0 t5)) 48);let u2:=(yj .i64 2 u1);cond (aE 9 u2) (let u3:=(bf .i64 t5 1);eA (t0,(eH (ak .i64 t3 (bf .i64 u2 9)) 10),(!t4),u3,())) (let u3:=(bf .i64 t5 1);eA (t0,(eH (ak .i64 t3 u2) 10),(!t4),u3,()))) (let u1:=(bf .i64 (dC .i64 (fh t0 t5)) 48);let u2:=(bf .i64 t5 1);eA (t0,(eH (ak .i64 t3 u1) 10),(!t4),u2,()))) none) (eB (t0,t3,t4,t5,()))
def Rv:=rA (aq (ep wx))
def X1(p0:S8):Option iP:=(Ih p0).bind fun y1=>cond (!y1.2.1.1) (c2) ((Rv p0 0 true (bf .i64 (ae p0) 1)).bind (Sum.elim (fun y2=>zR (eH (bf .i64 10 y2.2.1) 10)) (fun _=>none)))
def ale:=fU [aS [.str]] jd fun x=>X1 x.1.1
theorem agu:bj 269 ale:=fl (ac B4 an) [] [(0,⟨[.d 0 .str,.d 3 af,.d 4 .bool,.d 5 af],aq (ep wx)⟩)] [] f269 (lp [0] (sc dU sn))
def XE(p0:S8):Option iG:=(Ih p0).bind fun y1=>let u1:=(ae p0);cond (cond (!y1.2.1.1) true (aE u1 2)) (c0) (let u2:=(bf .i64 u1 1);cond (eY 0 u2 p0) ((X1 (sub p0 0 u2)).bind fun y2=>cond (aX u2 p0) (zR (aj y2.2.1.1 (bf .i64 (dC .i64 (fh p0 u2)) 48))) none) none)
def aje:=fU [aS [.str]] iN fun x=>XE x.1.1
theorem aeJ:bj 228 aje:=fq (ac B4 (ac agu an)) f228
def wZ(p0:S8):Option iG:=cond (cl (ae p0) 19) ((XE p0).bind fun y1=>some ((),(y1.2.1,()))) (c0)
def aiQ:=fU [aS [.str]] iN fun x=>wZ x.1.1
theorem YH:bj 164 aiQ:=fq (ac aeJ an) f164
def uI(p0 p1 p2:Int):Option iG:=zR (cond (cl p1 p0) (cl p0 p2) false)
def s82:=fU [aS [af],aS [af],aS [af]] iN fun x=>uI x.1.1 x.2.1.1 x.2.2.1.1
theorem rL:bj 82 s82:=fq an f82
def EC(p0:Int):Option iG:=zR (cond (cl 0 p0) (cl p0 4611686018427387904) false)
def ajn:=fU [aS [af]] iN fun x=>EC x.1.1
theorem GO:bj 165 ajn:=fq an f165
def tS(t0:S8)(t3:Int):Rd Y14 Y2:=cond (aE t3 (ae t0)) (cond (aX t3 t0) (let u1:=(fh t0 t3);cond (aE u1 48) (cond (aX t3 t0) (cond (aE u1 97) (eC (false,())) (cond (aX t3 t0) (cond (aE 122 u1) (eC (false,())) (eA (t0,(ak .i64 t3 1),()))) none)) none) (cond (aX t3 t0) (cond (aE 57 u1) (cond (aX t3 t0) (cond (aE u1 97) (eC (false,())) (cond (aX t3 t0) (cond (aE 122 u1) (eC (false,())) (eA (t0,(ak .i64 t3 1),()))) none)) none) (eA (t0,(ak .i64 t3 1),()))) none)) none) (eB (t0,t3,()))
def PU:=U4 (aq (yZ tS))
def Oq(p0:S8):Option iG:=(PU p0 0).bind (Sum.elim (fun y1=>(uI (ae y1.1) 1 6).bind fun y2=>some ((),(y2.2.1,()))) (fun y1=>some ((),(y1,()))))
def ajP:=fU [aS [.str]] iN fun x=>Oq x.1.1
theorem Tb:bj 176 ajP:=fl (ac rL an) [.d 2 .bool] [(0,⟨[.d 0 .str,.d 3 af],aq (yZ tS)⟩)] [] f176 (lp [0] (sc dU sn))
def LM(p0:Int):Option iG:=(uI p0 0 1000000000).bind fun y1=>some ((),(y1.2.1,()))
def s45:=fU [aS [af]] iN fun x=>LM x.1.1
theorem tQ:bj 45 s45:=fq (ac rL an) f45
def Vn(p0:S8×Int×Int×Unit):Option iG:=(Oq p0.1).bind fun y1=>cond y1.2.1.1 ((uI p0.2.1 1 9007199254740992).bind fun y2=>cond y2.2.1.1 ((LM p0.2.2.1).bind fun y3=>some ((),(y3.2.1,()))) (c0)) (c0)
def ali:=fU [dL [.str,af,af]] iN fun x=>Vn x.1
theorem aeD:bj 229 ali:=fq (ac rL (ac Tb (ac tQ an))) f229
def th(t0 t5:List bA)(t6 t7:Int):Rd ((List bA)×(List bA)×Int×Int×Unit) Y2:=cond (aE t7 t6) (cond (aX t7 t5) (let u1:=(gt d192 t5 t7);(Vn u1).bind fun y1=>cond (!y1.2.1.1) (eC (false,())) (cond (aE 0 t7) (let u2:=(bf .i64 t7 1);cond (aX u2 t0) (cond (!(BX (gt d192 t0 u2).1 u1.1)) (eC (false,())) (eA (t0,t5,t6,(ak .i64 t7 1),()))) none) (eA (t0,t5,t6,(ak .i64 t7 1),())))) none) (eB (t0,t5,t6,t7,()))
def QF:=rA (aq (ep th))
def Jj(p0:List bA):Option iG:=(QF p0 p0 (ae p0) 0).bind (Sum.elim (fun y1=>zR (cl (ae y1.1) 4)) (fun y1=>some ((),(y1,()))))
def aiw:=fU [aS [bH]] iN fun x=>Jj x.1.1
theorem YU:bj 166 aiw:=fl (ac aeD an) [.d 2 .bool] [(0,⟨[.d 0 bH,.d 5 bH,.d 6 af,.d 7 af],aq (ep th)⟩)] [] f166 (lp [0] (sc dU sn))
def sC(t32 t33:Int)(b1:Int×Int×(List R3)×(List R3)×Unit):Rd (Int×Int×Y33×Unit) Y2:=cond (aE t33 t32) (cond (aX t33 b1.2.2.1) ((EC (gt d3 b1.2.2.1 t33).1).bind fun y1=>cond (!y1.2.1.1) (eC (false,())) (cond (aX t33 b1.2.2.2.1) ((EC (gt d3 b1.2.2.2.1 t33).1).bind fun y2=>cond (!y2.2.1.1) (eC (false,())) (eA (t32,(ak .i64 t33 1),b1,()))) none)) none) (eB (t32,t33,b1,()))
def QU:=pk (aq (fJ sC))
def HR(p0:Int×Int×(List R3)×(List R3)×Unit):Option iG:=(uI p0.1 1 1000).bind fun y1=>cond (!y1.2.1.1) (c0) (let u1:=(ae p0.2.2.1);(uI u1 1 8).bind fun y2=>cond (cond (!y2.2.1.1) true (!(aj (ae p0.2.2.2.1) u1))) (c0) ((LM p0.2.1).bind fun y3=>cond (!y3.2.1.1) (c0) ((QU u1 0 p0).bind (Sum.elim (fun _=>c3) (fun y4=>some ((),(y4,())))))))
def akK:=fU [dL [af,af,q3,q3]] iN fun x=>HR x.1
theorem K7:bj 167 akK:=fl (ac rL (ac GO (ac tQ an))) [.d 2 .bool] [(0,⟨[.d 32 af,.d 33 af,.box 1 [(false,.int .i64),(false,.int .i64),(false,q3),(false,q3)]],aq (fJ sC)⟩)] [] f167 (lp [0] (sc dU sn))
def Xw(p0:S8×S8×(List R5)×Unit):Option iG:=(Ih p0.1).bind fun y1=>cond (cond y1.2.1.1 (aj (ae p0.1) 6) false) ((Ih p0.2.1).bind fun y2=>cond (cond y2.2.1.1 (aj (ae p0.2.1) 4) false) ((uI (ae p0.2.2.1) 1 200).bind fun y3=>some ((),(y3.2.1,()))) (c0)) (c0)
def aj2:=fU [dL [.str,.str,q5]] iN fun x=>Xw x.1
theorem afb:bj 185 aj2:=fq (ac B4 (ac rL an)) f185
def Am(t0 t7:List ch)(t8 t9:Int)(t19:List ch)(t20 t21:Int)(b4:S8×S8×(List R5)×Unit):Rd ((List ch)×(List ch)×Int×Int×(List ch)×Int×Int×jD×Unit) Y2:=cond (aE t21 t20) (cond (aX t21 t19) (let u1:=(gt d100 t19 t21);cond (cond (bF u1.1 b4.1) (bF u1.2.1 b4.2.1) false) (eC (false,())) (eA (t0,t7,t8,t9,t19,t20,(ak .i64 t21 1),b4,()))) none) (eB (t0,t7,t8,t9,t19,t20,t21,b4,()))
def YX:=cu8 (aq (X4 Am))
def Bg(t0 t7:List ch)(t8 t9:Int):Rd Y35 Y2:=cond (aE t9 t8) (cond (aX t9 t7) (let u1:=(gt d100 t7 t9);(Xw u1).bind fun y1=>cond (!y1.2.1.1) (eC (false,())) (cond (eY 0 t9 t0) (let u2:=(sub t0 0 t9);(YX t0 t7 t8 t9 u2 (ae u2) 0 u1).bind (Sum.elim (fun y2=>eA (y2.1,y2.2.1,y2.2.2.1,(ak .i64 y2.2.2.2.1 1),())) (fun y2=>eC (y2.1,())))) none)) none) (eB (t0,t7,t8,t9,()))
def aak:=rA (aq (ep Bg))
def g99(p0:List ch):Option iG:=(aak p0 p0 (ae p0) 0).bind (Sum.elim (fun y1=>zR (cl (ae y1.1) 6)) (fun y1=>some ((),(y1,()))))
def s99:=fU [aS [ck]] iN fun x=>g99 x.1.1
theorem aeZ:bj 99 s99:=fl (ac afb an) [.d 2 .bool] [(2,⟨[.d 0 ck,.d 7 ck,.d 8 af,.d 9 af,.d 19 ck,.d 20 af,.d 21 af,.box 4 [(false,.str),(false,.str),(false,q5)]],aq (X4 Am)⟩),(0,⟨[.d 0 ck,.d 7 ck,.d 8 af,.d 9 af],aq (ep Bg)⟩)] [] f99 (lp [0] (sc (lp [2] (sc dU sn)) sn))
def P8(p0 p1 p2:Int):Option iP:=cond (aE p0 p1) (zR p1) (cond (aE p2 p0) (zR p2) (zR p0))
def akU:=fU [aS [af],aS [af],aS [af]] jd fun x=>P8 x.1.1 x.2.1.1 x.2.2.1.1
theorem ael:bj 231 akU:=fq an f231
def aci(p0 p1:Int):Option Y36:=(EC p0).bind fun y1=>cond (!y1.2.1.1) (c19) ((EC p1).bind fun y2=>cond (cond (!y2.2.1.1) true (aE (bf .i64 4611686018427387904 p1) p0)) (c19) (some ((),(((ak .i64 p0 p1),()),(true,()),()))))
def akj:=fU [aS [af],aS [af]] [(false,[af]),(false,[.bool])] fun x=>aci x.1.1 x.2.1.1
theorem ahi:bj 230 akj:=fq (ac GO an) f230
def An(p0 p1:Int):Option iP:=(P8 p0 0 4611686018427387904).bind fun y1=>(P8 p1 0 4611686018427387904).bind fun y2=>(aci y1.2.1.1 y2.2.1.1).bind fun y3=>cond (!y3.2.2.1.1) (c28) (some ((),(y3.2.1,())))
def aj9:=fU [aS [af],aS [af]] jd fun x=>An x.1.1 x.2.1.1
theorem Gt:bj 168 aj9:=fq (ac ael (ac ahi an)) f168
def tV(t3:Int)(t6:List bA)(t7 t8:Int):Rd (Int×(List bA)×Int×Int×Unit) Unit:=cond (aE t8 t7) (cond (aX t8 t6) ((An t3 (gt d192 t6 t8).2.1).bind fun y1=>eA (y1.2.1.1,t6,t7,(ak .i64 t8 1),())) none) (eB (t3,t6,t7,t8,()))
def QK:=rA (aq (ep tV))
def Q3(p0:List bA):Option iP:=(QK 0 p0 (ae p0) 0).bind (Sum.elim (fun y1=>zR y1.1) (fun _=>none))
def ak9:=fU [aS [bH]] jd fun x=>Q3 x.1.1
theorem aaT:bj 169 ak9:=fl (ac Gt an) [] [(0,⟨[.d 3 af,.d 6 bH,.d 7 af,.d 8 af],aq (ep tV)⟩)] [] f169 (lp [0] (sc dU sn))
def UX(p0:S8×Int×Int×Int×Int×(List bA)×Int×Int×(List R3)×(List R3)×(List ch)×Unit):Option iG:=(wZ p0.1).bind fun y1=>cond (!y1.2.1.1) (c0) ((uI p0.2.1 0 9007199254740992).bind fun y2=>cond (!y2.2.1.1) (c0) ((uI p0.2.2.2.1 0 1000).bind fun y3=>cond (!y3.2.1.1) (c0) ((uI p0.2.2.2.2.1 0 9007199254740992).bind fun y4=>cond (!y4.2.1.1) (c0) ((EC p0.2.2.1).bind fun y5=>cond (!y5.2.1.1) (c0) ((Jj p0.2.2.2.2.2.1).bind fun y6=>cond y6.2.1.1 ((HR (p0.2.2.2.2.2.2.1,p0.2.2.2.2.2.2.2.1,p0.2.2.2.2.2.2.2.2.1,p0.2.2.2.2.2.2.2.2.2.1,())).bind fun y7=>cond y7.2.1.1 ((g99 p0.2.2.2.2.2.2.2.2.2.2.1).bind fun y8=>cond y8.2.1.1 ((Q3 p0.2.2.2.2.2.1).bind fun y9=>(An p0.2.2.1 y9.2.1.1).bind fun iz=>zR (cl iz.2.1.1 p0.2.1)) (c0)) (c0)) (c0))))))
def s81:=fU [dL [.str,af,af,af,af,bH,af,af,q3,q3,ck]] iN fun x=>UX x.1
theorem Eu:bj 81 s81:=fq (ac YH (ac rL (ac GO (ac YU (ac K7 (ac aeZ (ac Gt (ac aaT an)))))))) f81
def abn(p0:S8×Int×Int×Unit)(p1:Int):Option iG:=zR (aE p1 p0.2.2.1)
def ai0:=fU [dL [.str,af,af],aS [af]] iN fun x=>abn x.1 x.2.1.1
theorem aeV:bj 266 ai0:=fq an f266
def tW(t1:Int)(t5 t9:List bA)(t10 t11:Int):Rd (Int×(List bA)×(List bA)×Int×Int×Unit) Unit:=cond (aE t11 t10) (cond (aX t11 t9) (let u1:=(gt d192 t9 t11);(abn u1 t1).bind fun y1=>cond y1.2.1.1 (cond (bk 32 t5 [u1]) (let u2:=(ak .i64 t11 1);eA (t1,(fE t5 [u1]),t9,t10,u2,())) none) (let u2:=(ak .i64 t11 1);eA (t1,t5,t9,t10,u2,()))) none) (eB (t1,t5,t9,t10,t11,()))
def RM:=O6 (aq (pY tW))
def Sf(p0:List bA)(p1:Int):Option Y31:=(RM p1 [] p0 (ae p0) 0).bind (Sum.elim (fun y1=>zR y1.2.1) (fun _=>none))
def aiD:=fU [aS [bH],aS [af]] Wj fun x=>Sf x.1.1 x.2.1.1
theorem Zy:bj 219 aiD:=fl (ac aeV an) [] [(0,⟨[.d 1 af,.own 5 bH,.d 9 bH,.d 10 af,.d 11 af],aq (pY tW)⟩)] [] f219 (lp [0] (sc dU sn))
def Bp(p0:S8×Int×Int×Int×Int×(List bA)×Int×Int×(List R3)×(List R3)×(List ch)×Unit)(p1:Int):Option Y72:=(PC p0).bind fun y1=>(UX p0).bind fun y2=>cond y2.2.1.1 ((LM p1).bind fun y3=>cond y3.2.1.1 ((Sf p0.2.2.2.2.2.1 p1).bind fun y4=>some ((),((y1.2.1.1,y1.2.1.2.1,y1.2.1.2.2.1,y1.2.1.2.2.2.1,y1.2.1.2.2.2.2.1,y4.2.1.1,y1.2.1.2.2.2.2.2.2.1,y1.2.1.2.2.2.2.2.2.2.1,y1.2.1.2.2.2.2.2.2.2.2.1,y1.2.1.2.2.2.2.2.2.2.2.2.1,y1.2.1.2.2.2.2.2.2.2.2.2.2.1,()),()))) (some ((),(y1.2.1,())))) (some ((),(y1.2.1,())))
def aeq:=fU [dL [.str,af,af,af,af,bH,af,af,q3,q3,ck],aS [af]] w9R fun x=>Bp x.1 x.2.1.1
theorem uN:bj 145 aeq:=fq (ac V6 (ac tQ (ac Eu (ac Zy an)))) f145
def Ar(t1:Int)(t10:List gr)(t11 t12:Int)(b4 b5:(List gr)×Unit):Rd (Int×(List gr)×Int×Int×Y5×Y5×Unit) Unit:=cond (aE t12 t11) (cond (aX t12 t10) ((Bp (gt d94 t10 t12) t1).bind fun y1=>cond (bk 160 b5.1 [y1.2.1]) (eA (t1,t10,t11,(ak .i64 t12 1),b4,((fE b5.1 [y1.2.1]),()),())) none) none) (eB (t1,t10,t11,t12,b4,b5,()))
def ZP:=cu6 (aq (Fo Ar))
def g71(p0:(List gr)×Unit)(p1:Int):Option Y29:=(ZP p1 p0.1 (ae p0.1) 0 ([],()) ([],())).bind (Sum.elim (fun y1=>some ((),(y1.2.2.2.2.2.1,()))) (fun _=>none))
def s71:=fU [dL [jZ],aS [af]] w7R fun x=>g71 x.1 x.2.1.1
theorem ajb:bj 71 s71:=fl (ac uN an) [] [(0,⟨[.d 1 af,.d 10 jZ,.d 11 af,.d 12 af,.box 4 [(true,jZ)],.box 5 [(true,jZ)]],aq (Fo Ar)⟩)] [] f71 (lp [0] (sc dU sn))
def AJ(t0:List R5)(t1 t2:Int)(t9:S8)(t10:Int):Rd ((List R5)×Int×Int×S8×Int×Unit) Unit:=cond (aE t10 (ak .i64 t1 (kr .i64 (ak .i64 t2 1) 2))) (cond (aX t10 t0) (cond (aX t10 t0) (let u1:=(dC .i64 (gt d5 t0 t10).1);let u2:=(strOf [((dC .u8 (ak .i64 48 (kr .i64 u1 16))),()),((dC .u8 (ak .i64 48 (eH u1 16))),())]);cond (jx t9 u2) (eA (t0,t1,t2,(uz t9 u2),(ak .i64 t10 1),())) none) none) none) (eB (t0,t1,t2,t9,t10,()))
def YQ:=O6 (aq (pY AJ))
def N6(p0:List R5)(p1 p2:Int):Option Y64:=let u1:=(ae p0);cond (cond (cond (cond (aE p2 1) true (aE 38 p2)) true (aE p1 0)) true (aE u1 p1)) (c4) (cond (aE (bf .i64 u1 p1) (kr .i64 (ak .i64 p2 1) 2)) (c4) ((YQ p0 p1 p2 [] p1).bind (Sum.elim (fun y1=>cond (aj (eH y1.2.2.1 2) 1) (cond (aX 0 y1.2.2.2.1) (cond (!(aj (fh y1.2.2.2.1 0) 48)) (c4) (let u2:=(ae y1.2.2.2.1);cond (eY 1 u2 y1.2.2.2.1) (let u3:=(sub y1.2.2.2.1 1 u2);(Ih u3).bind fun y2=>cond (!y2.2.1.1) (c4) (some ((),((u3,()),((ak .i64 y1.2.1 (kr .i64 (ak .i64 y1.2.2.1 1) 2)),()),(true,()),())))) none)) none) ((Ih y1.2.2.2.1).bind fun y2=>cond (!y2.2.1.1) (c4) (some ((),((y1.2.2.2.1,()),((ak .i64 y1.2.1 (kr .i64 (ak .i64 y1.2.2.1 1) 2)),()),(true,()),()))))) (fun _=>none))))
def s42:=fU [aS [q5],aS [af],aS [af]] VZ fun x=>N6 x.1.1 x.2.1.1 x.2.2.1.1
theorem OC:bj 42 s42:=fl (ac B4 an) [] [(0,⟨[.d 0 q5,.d 1 af,.d 2 af,.d 9 .str,.d 10 af],aq (pY AJ)⟩)] [] f42 (lp [0] (sc dU sn))
def xp(t0:List R5)(t1:Int)(t7:List R3)(t8:Int):Rd ((List R5)×Int×(List R3)×Int×Unit) Unit:=cond (cl t8 64) (let u1:=(bf .i64 t8 1);let u2:=(ak .i64 t1 (kr .i64 u1 8));cond (aX u2 t0) (let u3:=(bf .i64 7 (eH u1 8));cond (cl 0 u3) (cond (aj (eH (rJ .i64 (dC .i64 (gt d5 t0 u2).1) u3) 2) 1) (cond (bk 8 t7 [(t8,())]) (let u4:=(ak .i64 t8 1);eA (t0,t1,(fE t7 [(t8,())]),u4,())) none) (let u4:=(ak .i64 t8 1);eA (t0,t1,t7,u4,()))) none) none) (eB (t0,t1,t7,t8,()))
def Ub:=rA (aq (ep xp))
def JY(p0:List R5)(p1:Int):Option Y60:=cond (cond (aE p1 0) true (aE (bf .i64 (ae p0) 8) p1)) (c16) ((Ub p0 p1 [] 1).bind (Sum.elim (fun y1=>some ((),((y1.2.2.1,()),((ak .i64 y1.2.1 8),()),(true,()),()))) (fun _=>none)))
def akf:=fU [aS [q5],aS [af]] [(false,[q3]),(false,[af]),(false,[.bool])] fun x=>JY x.1.1 x.2.1.1
theorem ag6:bj 158 akf:=fl an [] [(0,⟨[.d 0 q5,.d 1 af,.own 7 q3,.d 8 af],aq (ep xp)⟩)] [] f158 (lp [0] (sc dU sn))
def EZ(p0:Int):Option iP:=cond (aj p0 3) (c11) (cond (aj p0 4) (c11) (cond (aj p0 7) (c11) (cond (aj p0 11) (c11) (cond (aj p0 14) (c11) (cond (aj p0 49) (c11) (cond (aj p0 37) (c9) (cond (aj p0 38) (c9) (cond (aj p0 39) (c9) (cond (aj p0 41) (c9) (cond (aj p0 95) (c9) (cond (aj p0 2) (c17) (cond (aj p0 102) (c20) (cond (aj p0 103) (c20) (cond (aj p0 48) (zR 5) (cond (aj p0 54) (zR 5) (c5))))))))))))))))
def ajq:=fU [aS [af]] jd fun x=>EZ x.1.1
theorem Hp:bj 159 ajq:=fq an f159
def Al(t0:List R5)(t6:Int)(t8:List R3)(t9:Bool)(t28:List R3)(t29 t30:Int):Rd ((List R5)×Int×(List R3)×Bool×(List R3)×Int×Int×Unit) Y21:=cond (aE t30 t29) (cond (aX t30 t28) (let u1:=(gt d3 t28 t30);cond (aj u1.1 1) (let u2:=(ak .i64 t30 1);eA (t0,t6,t8,true,t28,t29,u2,())) (cond (bk 8 t8 [u1]) (let u2:=(ak .i64 t30 1);eA (t0,t6,(fE t8 [u1]),t9,t28,t29,u2,())) none)) none) (eB (t0,t6,t8,t9,t28,t29,t30,()))
def ZV:=cu7 (aq (Az Al))
def BL(t8:List R3)(t13:Int)(t56:List R3)(t57 t58:Int):Rd ((List R3)×Int×(List R3)×Int×Int×Unit) Y21:=cond (aE t58 t57) (cond (aX t58 t56) (cond (bk 8 t8 [((ak .i64 (gt d3 t56 t58).1 64),())]) (eA ((fE t8 [((ak .i64 (gt d3 t56 t58).1 64),())]),t13,t56,t57,(ak .i64 t58 1),())) none) none) (eB (t8,t13,t56,t57,t58,()))
def aaE:=O6 (aq (pY BL))
def zi(_:Unit)(t6:Int)(t8:List R3)(t70 t71:Int):Rd (Unit×Int×(List R3)×Int×Int×Unit) Y21:=cond (aE t71 t70) (cond (aX t71 t8) ((EZ (gt d3 t8 t71).1).bind fun y1=>cond (aj y1.2.1.1 0) (eC ([],0,false,())) (eA ((),t6,t8,t70,(ak .i64 t71 1),()))) none) (eB ((),t6,t8,t70,t71,()))
def SH:=O6 (aq (pY zi))
def g79(p0:List R5):Option Y60:=(JY p0 2).bind fun y1=>cond (!y1.2.2.2.1.1) (c16) ((ZV p0 y1.2.2.1.1 [] false y1.2.1.1 (ae y1.2.1.1) 0).bind (Sum.elim (fun y2=>cond y2.2.2.2.1 ((JY y2.1 y2.2.1).bind fun y3=>let u1:=(ae y3.2.1.1);cond (cond (!y3.2.2.2.1.1) true (aj u1 0)) (c16) ((aaE y2.2.2.1 y3.2.2.1.1 y3.2.1.1 u1 0).bind (Sum.elim (fun y4=>(SH () y4.2.1 y4.1 (ae y4.1) 0).bind (Sum.elim (fun y5=>some ((),((y5.2.2.1,()),(y5.2.1,()),(true,()),()))) (fun y5=>some ((),((y5.1,()),(y5.2.1,()),(y5.2.2.1,()),()))))) (fun y4=>some ((),((y4.1,()),(y4.2.1,()),(y4.2.2.1,()),())))))) ((SH () y2.2.1 y2.2.2.1 (ae y2.2.2.1) 0).bind (Sum.elim (fun y3=>some ((),((y3.2.2.1,()),(y3.2.1,()),(true,()),()))) (fun y3=>some ((),((y3.1,()),(y3.2.1,()),(y3.2.2.1,()),())))))) (fun y2=>some ((),((y2.1,()),(y2.2.1,()),(y2.2.2.1,()),())))))
def s79:=fU [aS [q5]] [(false,[q3]),(false,[af]),(false,[.bool])] fun x=>g79 x.1.1
theorem aj8:bj 79 s79:=fl (ac ag6 (ac Hp an)) [.own 2 q3,.d 3 af,.d 4 .bool] [(0,⟨[.d 0 q5,.d 6 af,.own 8 q3,.d 9 .bool,.own 28 q3,.d 29 af,.d 30 af],aq (Az Al)⟩),(2,⟨[.own 8 q3,.d 13 af,.own 56 q3,.d 57 af,.d 58 af],aq (pY BL)⟩),(4,⟨[.al 69 8,.d 6 af,.own 8 q3,.d 70 af,.d 71 af],aq (pY zi)⟩)] [] f79 (lp [0,2,4] (sc dU (sc dU (sc dU sn))))
def JV(p0:Int):Option iP:=cond (aj p0 2) (zR 19) (cond (aj p0 3) (c21) (cond (aj p0 11) (c21) (cond (aj p0 38) (c21) (cond (aj p0 4) (c22) (cond (aj p0 37) (c22) (cond (aj p0 95) (c22) (cond (aj p0 7) (zR 10) (cond (aj p0 14) (c20) (cond (aj p0 39) (c9) (cond (aj p0 41) (c23) (cond (aj p0 49) (c17) (cond (aj p0 102) (zR 20) (cond (aj p0 103) (zR 20) (cond (aj p0 48) (zR 60) (cond (aj p0 54) (zR 60) (c5))))))))))))))))
def ajN:=fU [aS [af]] jd fun x=>JV x.1.1
theorem PZ:bj 160 ajN:=fq an f160
def adU(p0:Int):Option iP:=cond (aj p0 3) (c9) (cond (aj p0 4) (c9) (cond (aj p0 5) (c17) (c5)))
def ain:=fU [aS [af]] jd fun x=>adU x.1.1
theorem aaW:bj 161 ain:=fq an f161
def Ba(t0:S8)(t4 t5:Int):Rd Y23 Unit:=cond (aE t5 (ae t0)) (cond (aX t5 t0) (eA (t0,(bf .i64 (ak .i64 (yj .i64 t4 10) (dC .i64 (fh t0 t5))) 48),(ak .i64 t5 1),())) none) (eB (t0,t4,t5,()))
def Zr:=pk (aq (fJ Ba))
def O3(p0:S8):Option Y36:=(Ih p0).bind fun y1=>cond (cond (!y1.2.1.1) true (aE 18 (ae p0))) (c19) ((Zr p0 0 0).bind (Sum.elim (fun y2=>some ((),((y2.2.1,()),(true,()),()))) (fun _=>none)))
def s94:=fU [aS [.str]] [(false,[af]),(false,[.bool])] fun x=>O3 x.1.1
theorem ahr:bj 94 s94:=fl (ac B4 an) [] [(0,⟨[.d 0 .str,.d 4 af,.d 5 af],aq (fJ Ba)⟩)] [] f94 (lp [0] (sc dU sn))
def P5(p0:List R5)(p1 p2:Int):Option (Unit×(Y1×Y1×Y2×Unit)):=cond (cond (!(aj p2 2)) (!(aj p2 3)) false) (c24) ((N6 p0 p1 p2).bind fun y1=>(O3 y1.2.1.1).bind fun y2=>some ((),(y2.2.1,y1.2.2.1,y1.2.2.2.1,())))
def akG:=fU [aS [q5],aS [af],aS [af]] [(false,[af]),(false,[af]),(false,[.bool])] fun x=>P5 x.1.1 x.2.1.1 x.2.2.1.1
theorem afr:bj 162 akG:=fq (ac OC (ac ahr an)) f162
def sR(t0:S8)(t3:Int):Rd Y14 Y2:=cond (aE t3 (ae t0)) (cond (aX t3 t0) (let u1:=(fh t0 t3);cond (aE u1 32) (eC (false,())) (cond (aX t3 t0) (cond (aE 126 u1) (eC (false,())) (eA (t0,(ak .i64 t3 1),()))) none)) none) (eB (t0,t3,()))
def Th:=U4 (aq (yZ sR))
def DL(p0:S8):Option iG:=(Th p0 0).bind (Sum.elim (fun _=>c3) (fun y1=>some ((),(y1,()))))
def ako:=fU [aS [.str]] iN fun x=>DL x.1.1
theorem aai:bj 163 ako:=fl an [.d 2 .bool] [(0,⟨[.d 0 .str,.d 3 af],aq (yZ sR)⟩)] [] f163 (lp [0] (sc dU sn))
def g80(p0:List R5)(p1 p2:Int):Option Y64:=(EZ p2).bind fun y1=>(JV p2).bind fun y2=>cond (cond (aj y1.2.1.1 0) true (aE p1 0)) (c4) (let u1:=(adU y1.2.1.1);Option.bind u1 fun y3=>cond (aE 0 y3.2.1.1) (Option.bind u1 fun y4=>(P5 p0 p1 y4.2.1.1).bind fun y5=>cond (!y5.2.2.2.1.1) (c4) ((uI y5.2.1.1 1 y2.2.1.1).bind fun y6=>cond (!y6.2.1.1) (c4) (let u2:=(cond (aj y1.2.1.1 1) true (aj y1.2.1.1 3));cond u2 ((N6 p0 y5.2.2.1.1 y5.2.1.1).bind fun y7=>some ((),(y7.2.1,y7.2.2.1,y7.2.2.2.1,()))) (let u3:=(ae p0);cond (cond (aE u3 y5.2.2.1.1) true (aE (bf .i64 u3 y5.2.2.1.1) y5.2.1.1)) (c4) (let u4:=(ak .i64 y5.2.2.1.1 y5.2.1.1);let u5:=(eY y5.2.2.1.1 u4 p0);cond u5 (let u6:=(strOf (sub p0 y5.2.2.1.1 u4));(DL u6).bind fun y7=>cond (!y7.2.1.1) (c4) (cond u5 (some ((),((u6,()),(u4,()),(true,()),()))) none)) none))))) (let u2:=(cond (aj y1.2.1.1 1) true (aj y1.2.1.1 3));cond u2 ((N6 p0 p1 y2.2.1.1).bind fun y4=>some ((),(y4.2.1,y4.2.2.1,y4.2.2.2.1,()))) (let u3:=(ae p0);cond (cond (aE u3 p1) true (aE (bf .i64 u3 p1) y2.2.1.1)) (c4) (let u4:=(ak .i64 p1 y2.2.1.1);let u5:=(eY p1 u4 p0);cond u5 (let u6:=(strOf (sub p0 p1 u4));(DL u6).bind fun y4=>cond (!y4.2.1.1) (c4) (cond u5 (some ((),((u6,()),(u4,()),(true,()),()))) none)) none))))
def s80:=fU [aS [q5],aS [af],aS [af]] VZ fun x=>g80 x.1.1 x.2.1.1 x.2.2.1.1
theorem ai4:bj 80 s80:=fq (ac rL (ac OC (ac Hp (ac PZ (ac aaW (ac afr (ac aai an))))))) f80
def zC(t0:List R5)(t8:Int)(t35:List R3)(t36 t37:Int)(b2 b9:S8×(List fR)×Unit):Rd ((List R5)×Int×(List R3)×Int×Int×xJ×xJ×Unit) Y39:=cond (aE t37 t36) (cond (aX t37 t35) ((g80 t0 t8 (gt d3 t35 t37).1).bind fun y1=>cond (!y1.2.2.2.1.1) (eC (3,([],[],()),())) (cond (bk 24 b9.2.1 [((gt d3 t35 t37).1,y1.2.1.1,())]) (eA (t0,y1.2.2.1.1,t35,t36,(ak .i64 t37 1),b2,(b9.1,(fE b9.2.1 [((gt d3 t35 t37).1,y1.2.1.1,())]),()),())) none)) none) (eB (t0,t8,t35,t36,t37,b2,b9,()))
def aac:=cu7 (aq (Az zC))
def g43(p0:List R5):Option (Unit×(xJ×Y1×Unit)):=(N6 p0 0 4).bind fun y1=>cond (!y1.2.2.2.1.1) (some ((),(([],[],()),(1,()),()))) ((g79 p0).bind fun y2=>cond (!y2.2.2.2.1.1) (c25) ((aac p0 y2.2.2.1.1 y2.2.1.1 (ae y2.2.1.1) 0 ([],[],()) (y1.2.1.1,[],())).bind (Sum.elim (fun y3=>cond (!(aj y3.2.1 (ae y3.1))) (c26) (some ((),(y3.2.2.2.2.2.2.1,(0,()),())))) (fun y3=>some ((),(y3.2.1,(y3.1,()),()))))))
def s43:=fU [aS [q5]] [(true,[.str,eO]),(false,[af])] fun x=>g43 x.1.1
theorem abQ:bj 43 s43:=fl (ac OC (ac aj8 (ac ai4 an))) [.d 3 af,.box 2 [(false,.str),(true,eO)]] [(0,⟨[.d 0 q5,.d 8 af,.own 35 q3,.d 36 af,.d 37 af,.box 2 [(false,.str),(true,eO)],.box 9 [(false,.str),(true,eO)]],aq (Az zC)⟩)] [] f43 (lp [0] (sc dU sn))
def AB(t6:List gr)(t7 t8:Int)(b1:(List gr)×Unit):Rd ((List gr)×Int×Int×Y5×Unit) Y2:=cond (aE t8 t7) (cond (aX t8 t6) (let u1:=(gt d94 t6 t8);(UX u1).bind fun y1=>cond (!y1.2.1.1) (eC (false,())) (cond (aE 0 t8) (let u2:=(bf .i64 t8 1);cond (aX u2 b1.1) (cond (!(BX (gt d94 b1.1 u2).1 u1.1)) (eC (false,())) (eA (t6,t7,(ak .i64 t8 1),b1,()))) none) (eA (t6,t7,(ak .i64 t8 1),b1,())))) none) (eB (t6,t7,t8,b1,()))
def Zl:=rA (aq (ep AB))
def g44(p0:(List gr)×Unit):Option iG:=(Zl p0.1 (ae p0.1) 0 p0).bind (Sum.elim (fun y1=>zR (cl (ae y1.2.2.2.1.1) 6)) (fun y1=>some ((),(y1,()))))
def s44:=fU [dL [jZ]] iN fun x=>g44 x.1
theorem Qg:bj 44 s44:=fl (ac Eu an) [.d 2 .bool] [(0,⟨[.d 6 jZ,.d 7 af,.d 8 af,.box 1 [(false,jZ)]],aq (ep AB)⟩)] [] f44 (lp [0] (sc dU sn))
def g46(p0:S8):Option EP:=(Ih p0).bind fun y1=>let u1:=(ae p0);cond (cond (!y1.2.1.1) true (!(aj u1 4))) (c6) (cond (aX 2 p0) (let u2:=(fh p0 2);cond (aj (eH u2 2) 1) (c6) (cond (eY 0 2 p0) (cond (aX 2 p0) (let u3:=(sub p0 0 2);let u4:=(strOf [((ak .u8 u2 1),())]);cond (jx u3 u4) (cond (eY 3 u1 p0) (let u5:=(uz u3 u4);let u6:=(sub p0 3 u1);cond (jx u5 u6) (zR (uz u5 u6)) none) none) none) none) none)) none)
def s46:=fU [aS [.str]] Fm fun x=>g46 x.1.1
theorem RU:bj 46 s46:=fq (ac B4 an) f46
def abC:Option Y27:=c29
def akk:=fU [] [(false,[.sl 9 kk9])] fun x=>abC 
theorem aeI:bj 170 akk:=fq an f170
def g83(p0:Int):Option EP:=(abC).bind fun y1=>(uI p0 0 (bf .i64 (ae y1.2.1.1) 1)).bind fun y2=>cond (!y2.2.1.1) (c6) (cond (aX p0 y1.2.1.1) (some ((),((gt d9 y1.2.1.1 p0),()))) none)
def s83:=fU [aS [af]] Fm fun x=>g83 x.1.1
theorem af9:bj 83 s83:=fq (ac rL (ac aeI an)) f83
def yh(p0:Int)(p1:S8):Option iG:=(JV p0).bind fun y1=>(EZ p0).bind fun y2=>cond (aj y2.2.1.1 1) (let u1:=(Ih p1);Option.bind u1 fun y3=>let u2:=(ae p1);zR (cond y3.2.1.1 (aj u2 y1.2.1.1) false)) (cond (aj y2.2.1.1 2) (let u1:=(DL p1);Option.bind u1 fun y3=>let u2:=(ae p1);zR (cond y3.2.1.1 (aj u2 y1.2.1.1) false)) (cond (aj y2.2.1.1 3) (let u1:=(Ih p1);Option.bind u1 fun y3=>let u2:=(ae p1);zR (cond y3.2.1.1 (cl u2 y1.2.1.1) false)) (cond (aj y2.2.1.1 4) (let u1:=(DL p1);Option.bind u1 fun y3=>cond y3.2.1.1 (let u2:=(ae p1);let u3:=(uI u2 1 y1.2.1.1);Option.bind u3 fun y4=>some ((),(y4.2.1,()))) (c0)) (cond (aj y2.2.1.1 5) (let u1:=(DL p1);Option.bind u1 fun y3=>cond y3.2.1.1 (let u2:=(ae p1);let u3:=(uI u2 1 y1.2.1.1);Option.bind u3 fun y4=>some ((),(y4.2.1,()))) (c0)) (c0)))))
def aiU:=fU [aS [af],aS [.str]] iN fun x=>yh x.1.1 x.2.1.1
theorem LW:bj 171 aiU:=fq (ac B4 (ac rL (ac Hp (ac PZ (ac aai an))))) f171
def Bm(t16:List fR)(t17 t18:Int)(b1:S8×(List fR)×Unit):Rd ((List fR)×Int×Int×xJ×Unit) Y2:=cond (aE t18 t17) (cond (aX t18 t16) (let u1:=(gt d117 t16 t18);(yh u1.1 u1.2.1).bind fun y1=>cond (!y1.2.1.1) (eC (false,())) (cond (aE 0 t18) (let u2:=(bf .i64 t18 1);cond (aX u2 b1.2.1) (cond (cl u1.1 (gt d117 b1.2.1 u2).1) (eC (false,())) (eA (t16,t17,(ak .i64 t18 1),b1,()))) none) (eA (t16,t17,(ak .i64 t18 1),b1,())))) none) (eB (t16,t17,t18,b1,()))
def PA:=rA (aq (ep Bm))
def g84(p0:S8×(List fR)×Unit):Option iG:=(Ih p0.1).bind fun y1=>cond (cond (!y1.2.1.1) true (!(aj (ae p0.1) 4))) (c0) ((PA p0.2.1 (ae p0.2.1) 0 p0).bind (Sum.elim (fun _=>c3) (fun y2=>some ((),(y2,())))))
def s84:=fU [dL [.str,eO]] iN fun x=>g84 x.1
theorem X9:bj 84 s84:=fl (ac B4 (ac LW an)) [.d 2 .bool] [(0,⟨[.d 16 eO,.d 17 af,.d 18 af,.box 1 [(false,.str),(false,eO)]],aq (ep Bm)⟩)] [] f84 (lp [0] (sc dU sn))
def g47(p0:S8)(p1:Int):Option Y62:=(g46 p0).bind fun y1=>(g83 p1).bind fun y2=>(g84 (y1.2.1.1,[(39,y2.2.1.1,())],())).bind fun y3=>cond (!y3.2.1.1) (XF) (some ((),((y1.2.1.1,[(39,y2.2.1.1,())],()),(true,()),())))
def s47:=fU [aS [.str],aS [af]] [(true,[.str,eO]),(false,[.bool])] fun x=>g47 x.1.1 x.2.1.1
theorem abi:bj 47 s47:=fq (ac RU (ac af9 (ac X9 an))) f47
def zk(t0:S8)(t4:List R5)(t5:Int):Rd (S8×(List R5)×Int×Unit) Unit:=cond (aE t5 (ae t0)) (cond (aX t5 t0) (let u1:=(ak .i64 t5 1);cond (aX u1 t0) (cond (bk 1 t4 [((dC .u8 (bf .i64 (ak .i64 (yj .i64 (bf .i64 (dC .i64 (fh t0 t5)) 48) 16) (dC .i64 (fh t0 u1))) 48)),())]) (eA (t0,(fE t4 [((dC .u8 (bf .i64 (ak .i64 (yj .i64 (bf .i64 (dC .i64 (fh t0 t5)) 48) 16) (dC .i64 (fh t0 u1))) 48)),())]),(ak .i64 t5 2),())) none) none) none) (eB (t0,t4,t5,()))
def Pn:=pk (aq (fJ zk))
def UU(p0:S8):Option O4:=(Ih p0).bind fun y1=>let u1:=(ae p0);cond (cond (!y1.2.1.1) true (aE 38 u1)) (c7) (cond (aj (eH u1 2) 1) (cond (jx [48] p0) ((Pn (uz [48] p0) [] 0).bind (Sum.elim (fun y2=>some ((),((y2.2.1,()),(true,()),()))) (fun _=>none))) none) ((Pn p0 [] 0).bind (Sum.elim (fun y2=>some ((),((y2.2.1,()),(true,()),()))) (fun _=>none))))
def s85:=fU [aS [.str]] US fun x=>UU x.1.1
theorem acK:bj 85 s85:=fl (ac B4 an) [] [(0,⟨[.d 0 .str,.own 4 q5,.d 5 af],aq (fJ zk)⟩)] [] f85 (lp [0] (sc dU sn))
def BB(t3:List R5)(t7:List R3)(t8 t9:Int):Rd ((List R5)×(List R3)×Int×Int×Unit) Unit:=cond (aE t9 t8) (cond (aX t9 t7) ((uI (gt d3 t7 t9).1 1 64).bind fun y1=>cond y1.2.1.1 (let u1:=(bf .i64 (gt d3 t7 t9).1 1);let u2:=(kr .i64 u1 8);cond (aX u2 t3) (let u3:=(eH u1 8);cond (cl 0 u3) (cond (aX u2 t3) (let u4:=(ak .i64 t9 1);eA ((cZ t3 u2 ((U3 .u8 (gt d5 t3 u2).1 (rJ .u8 128 u3)),())),t7,t8,u4,())) none) none) none) (let u1:=(ak .i64 t9 1);eA (t3,t7,t8,u1,()))) none) (eB (t3,t7,t8,t9,()))
def ahO:=rA (aq (ep BB))
def V0(p0:List R3):Option Y26:=(ahO (xh d5 8) p0 (ae p0) 0).bind (Sum.elim (fun y1=>zR y1.1) (fun _=>none))
def s86:=fU [aS [q3]] w8R fun x=>V0 x.1.1
theorem aji:bj 86 s86:=fl (ac rL an) [] [(0,⟨[.own 3 q5,.d 7 q3,.d 8 af,.d 9 af],aq (ep BB)⟩)] [] f86 (lp [0] (sc dU sn))
def qN(t0:Int)(t3:S8):Rd Y15 Unit:=cond (aE 9 t0) (let u1:=(strOf [((dC .u8 (ak .i64 48 (eH t0 10))),())]);cond (jx u1 t3) (eA ((kr .i64 t0 10),(uz u1 t3),())) none) (eB (t0,t3,()))
def Pt:=U4 (aq (yZ qN))
def WK(p0:Int):Option EP:=(EC p0).bind fun y1=>cond (!y1.2.1.1) (c6) ((Pt p0 []).bind (Sum.elim (fun y2=>let u1:=(strOf [((dC .u8 (ak .i64 48 y2.1)),())]);cond (jx u1 y2.2.1) (zR (uz u1 y2.2.1)) none) (fun _=>none)))
def aiF:=fU [aS [af]] Fm fun x=>WK x.1.1
theorem agr:bj 270 aiF:=fl (ac GO an) [] [(0,⟨[.d 0 af,.d 3 .str],aq (yZ qN)⟩)] [] f270 (lp [0] (sc dU sn))
def wB(t1:Int)(t5:S8):Rd Y15 Unit:=cond (aE (ae t5) t1) (cond (jx [48] t5) (eA (t1,(uz [48] t5),())) none) (eB (t1,t5,()))
def S4:=U4 (aq (yZ wB))
def Nu(p0 p1:Int):Option EP:=(WK p0).bind fun y1=>cond (cond (cond (cond (bF y1.2.1.1 []) true (aE p1 1)) true (aE 18 p1)) true (aE p1 (ae y1.2.1.1))) (c6) ((S4 p1 y1.2.1.1).bind (Sum.elim (fun y2=>zR y2.2.1) (fun _=>none)))
def ajQ:=fU [aS [af],aS [af]] Fm fun x=>Nu x.1.1 x.2.1.1
theorem aaQ:bj 232 ajQ:=fl (ac agr an) [] [(0,⟨[.d 1 af,.d 5 .str],aq (yZ wB)⟩)] [] f232 (lp [0] (sc dU sn))
def I8(p0 p1:Int):Option O4:=cond (cond (!(aj p1 2)) (!(aj p1 3)) false) (c7) ((Nu p0 p1).bind fun y1=>(UU y1.2.1.1).bind fun y2=>some ((),(y2.2.1,y2.2.2.1,())))
def aja:=fU [aS [af],aS [af]] US fun x=>I8 x.1.1 x.2.1.1
theorem afv:bj 172 aja:=fq (ac acK (ac aaQ an)) f172
def g87(p0:Int)(p1:S8):Option O4:=(yh p0 p1).bind fun y1=>cond (!y1.2.1.1) (c7) ((EZ p0).bind fun y2=>let u1:=(adU y2.2.1.1);Option.bind u1 fun y3=>cond (aE 0 y3.2.1.1) (Option.bind u1 fun y4=>(I8 (ae p1) y4.2.1.1).bind fun y5=>let u2:=(cond (aj y2.2.1.1 1) true (aj y2.2.1.1 3));cond u2 (let u3:=(UU p1);Option.bind u3 fun y6=>cond (bk 1 y5.2.1.1 y6.2.1.1) (some ((),(((fE y5.2.1.1 y6.2.1.1),()),(true,()),()))) none) (let u3:=(bytesOf p1);cond (bk 1 y5.2.1.1 u3) (some ((),(((fE y5.2.1.1 u3),()),(true,()),()))) none)) (let u2:=(cond (aj y2.2.1.1 1) true (aj y2.2.1.1 3));cond u2 (let u3:=(UU p1);Option.bind u3 fun y4=>cond (bk 1 [] y4.2.1.1) (some ((),(((fE [] y4.2.1.1),()),(true,()),()))) none) (let u3:=(bytesOf p1);cond (bk 1 [] u3) (some ((),(((fE [] u3),()),(true,()),()))) none)))
def s87:=fU [aS [af],aS [.str]] US fun x=>g87 x.1.1 x.2.1.1
theorem ajI:bj 87 s87:=fq (ac Hp (ac aaW (ac LW (ac acK (ac afv an))))) f87
def Ah(t4 t5:List R3)(t20:List fR)(t21 t22:Int)(b1:S8×(List fR)×Unit):Rd ((List R3)×(List R3)×(List fR)×Int×Int×xJ×Unit) Unit:=cond (aE t22 t21) (cond (aX t22 t20) (cond (aE 64 (gt d117 t20 t22).1) (cond (bk 8 t5 [((bf .i64 (gt d117 t20 t22).1 64),())]) (let u1:=(ak .i64 t22 1);eA (t4,(fE t5 [((bf .i64 (gt d117 t20 t22).1 64),())]),t20,t21,u1,b1,())) none) (cond (bk 8 t4 [((gt d117 t20 t22).1,())]) (let u1:=(ak .i64 t22 1);eA ((fE t4 [((gt d117 t20 t22).1,())]),t5,t20,t21,u1,b1,())) none)) none) (eB (t4,t5,t20,t21,t22,b1,()))
def Z6:=cu6 (aq (Fo Ah))
def zu(t8:List R5)(t65:List fR)(t66 t67:Int):Rd ((List R5)×(List fR)×Int×Int×Unit) Unit:=cond (aE t67 t66) (cond (aX t67 t65) (let u1:=(gt d117 t65 t67);(g87 u1.1 u1.2.1).bind fun y1=>cond (bk 1 t8 y1.2.1.1) (eA ((fE t8 y1.2.1.1),t65,t66,(ak .i64 t67 1),())) none) none) (eB (t8,t65,t66,t67,()))
def zB:=rA (aq (ep zu))
def g48(p0:S8×(List fR)×Unit):Option O4:=(g84 p0).bind fun y1=>cond (!y1.2.1.1) (c7) ((Z6 [] [] p0.2.1 (ae p0.2.1) 0 p0).bind (Sum.elim (fun y2=>(UU y2.2.2.2.2.2.1.1).bind fun y3=>cond (aE 0 (ae y2.2.1)) (cond (bk 8 y2.1 [(1,())]) ((V0 (fE y2.1 [(1,())])).bind fun y4=>let u1:=(bk 1 y3.2.1.1 y4.2.1.1);cond u1 (cond (aE 0 (ae y2.2.1)) (let u2:=(V0 y2.2.1);Option.bind u2 fun y5=>let u3:=(fE y3.2.1.1 y4.2.1.1);let u4:=(bk 1 u3 y5.2.1.1);cond u4 (let u5:=(ae y2.2.2.2.2.2.1.2.1);let u6:=(zB (fE u3 y5.2.1.1) y2.2.2.2.2.2.1.2.1 u5 0);Option.bind u6 (Sum.elim (fun y6=>some ((),((y6.1,()),(true,()),()))) (fun _=>none))) none) (let u2:=(fE y3.2.1.1 y4.2.1.1);let u3:=(ae y2.2.2.2.2.2.1.2.1);let u4:=(zB u2 y2.2.2.2.2.2.1.2.1 u3 0);Option.bind u4 (Sum.elim (fun y5=>some ((),((y5.1,()),(true,()),()))) (fun _=>none)))) none) none) ((V0 y2.1).bind fun y4=>let u1:=(bk 1 y3.2.1.1 y4.2.1.1);cond u1 (cond (aE 0 (ae y2.2.1)) (let u2:=(V0 y2.2.1);Option.bind u2 fun y5=>let u3:=(fE y3.2.1.1 y4.2.1.1);let u4:=(bk 1 u3 y5.2.1.1);cond u4 (let u5:=(ae y2.2.2.2.2.2.1.2.1);let u6:=(zB (fE u3 y5.2.1.1) y2.2.2.2.2.2.1.2.1 u5 0);Option.bind u6 (Sum.elim (fun y6=>some ((),((y6.1,()),(true,()),()))) (fun _=>none))) none) (let u2:=(fE y3.2.1.1 y4.2.1.1);let u3:=(ae y2.2.2.2.2.2.1.2.1);let u4:=(zB u2 y2.2.2.2.2.2.1.2.1 u3 0);Option.bind u4 (Sum.elim (fun y5=>some ((),((y5.1,()),(true,()),()))) (fun _=>none)))) none)) (fun _=>none)))
def s48:=fU [dL [.str,eO]] US fun x=>g48 x.1
theorem Vl:bj 48 s48:=fl (ac X9 (ac acK (ac aji (ac ajI an)))) [] [(0,⟨[.own 4 q3,.own 5 q3,.d 20 eO,.d 21 af,.d 22 af,.box 1 [(false,.str),(false,eO)]],aq (Fo Ah)⟩),(2,⟨[.own 8 q5,.d 65 eO,.d 66 af,.d 67 af],aq (ep zu)⟩)] [] f48 (lp [0,2] (sc dU (sc dU sn)))
def g88(p0:S8):Option iG:=zR (cond (cond (bF p0 [48,49,48,48]) true (bF p0 [48,50,48,48])) true (bF p0 [48,50,50,48]))
def s88:=fU [aS [.str]] iN fun x=>g88 x.1.1
theorem ajC:bj 88 s88:=fq an f88
def zn(t1:Int)(t9:List fR)(t10 t11:Int):Rd (Int×(List fR)×Int×Int×Unit) (S8×Bool×Unit):=cond (aE t11 t10) (cond (aX t11 t9) (let u1:=(gt d117 t9 t11);cond (aj u1.1 t1) (eC (u1.2.1,true,())) (eA (t1,t9,t10,(ak .i64 t11 1),()))) none) (eB (t1,t9,t10,t11,()))
def ZN:=rA (aq (ep zn))
def AO(p0:S8×(List fR)×Unit)(p1:Int):Option (Unit×(Y9×Y2×Unit)):=(ZN p1 p0.2.1 (ae p0.2.1) 0).bind (Sum.elim (fun _=>some ((),(([],()),(false,()),()))) (fun y1=>some ((),((y1.1,()),(y1.2.1,()),()))))
def s89:=fU [dL [.str,eO],aS [af]] [(false,[.str]),(false,[.bool])] fun x=>AO x.1 x.2.1.1
theorem ag2:bj 89 s89:=fl an [.d 4 .str,.d 5 .bool] [(0,⟨[.d 1 af,.d 9 eO,.d 10 af,.d 11 af],aq (ep zn)⟩)] [] f89 (lp [0] (sc dU sn))
def HS(p0:Int):Option iG:=(uI p0 1 8).bind fun y1=>some ((),(y1.2.1,()))
def aiG:=fU [aS [af]] iN fun x=>HS x.1.1
theorem KA:bj 175 aiG:=fq (ac rL an) f175
def afK:Option Y27:=zR [([],()),([48,49,48,48],()),([48,49,48,48],()),([48,50,50,48],()),([48,50,50,48],()),([48,50,50,48],()),([48,50,48,48],()),([48,49,48,48],()),([48,50,48,48],())]
def aiN:=fU [] [(false,[.sl 9 kk9])] fun x=>afK 
theorem ahs:bj 233 aiN:=fq an f233
def OM(p0:Int):Option EP:=(HS p0).bind fun y1=>cond (!y1.2.1.1) (c6) ((afK).bind fun y2=>cond (aX p0 y2.2.1.1) (some ((),((gt d9 y2.2.1.1 p0),()))) none)
def ai1:=fU [aS [af]] Fm fun x=>OM x.1.1
theorem aas:bj 173 ai1:=fq (ac KA (ac ahs an)) f173
def agI:Option Y27:=zR [([],()),([48,48],()),([48,50],()),([48,49],()),([48,48],()),([50,48],()),([52,48],()),([51,49],()),([57,48],())]
def aiz:=fU [] [(false,[.sl 9 kk9])] fun x=>agI 
theorem agb:bj 234 aiz:=fq an f234
def abz(p0:Int):Option EP:=(HS p0).bind fun y1=>cond (!y1.2.1.1) (c6) ((agI).bind fun y2=>cond (aX p0 y2.2.1.1) (some ((),((gt d9 y2.2.1.1 p0),()))) none)
def ajf:=fU [aS [af]] Fm fun x=>abz x.1.1
theorem afI:bj 174 ajf:=fq (ac KA (ac agb an)) f174
def G3(t0 t1:S8)(t5:Int):Rd (S8×S8×Int×Unit) Y1:=cond (cl t5 8) ((OM t5).bind fun y1=>cond (bF y1.2.1.1 t0) ((abz t5).bind fun y2=>cond (eY 0 2 t1) (cond (bF y2.2.1.1 (sub t1 0 2)) (eC (t5,())) (eA (t0,t1,(ak .i64 t5 1),()))) none) (eA (t0,t1,(ak .i64 t5 1),()))) (eB (t0,t1,t5,()))
def ZM:=pk (aq (fJ G3))
def g90(p0 p1:S8):Option iP:=(ZM p0 p1 1).bind (Sum.elim (fun _=>c5) (fun y1=>some ((),(y1,()))))
def s90:=fU [aS [.str],aS [.str]] jd fun x=>g90 x.1.1 x.2.1.1
theorem ai7:bj 90 s90:=fl (ac aas (ac afI an)) [.d 4 af] [(0,⟨[.d 0 .str,.d 1 .str,.d 5 af],aq (fJ G3)⟩)] [] f90 (lp [0] (sc dU sn))
def g91(p0:Int):Option iG:=(HS p0).bind fun y1=>zR (cond y1.2.1.1 (aE p0 7) false)
def s91:=fU [aS [af]] iN fun x=>g91 x.1.1
theorem aeL:bj 91 s91:=fq (ac KA an) f91
def Lj(t0:S8)(t3:Int):Rd Y14 Unit:=cond (aE 0 t3) (let u1:=(bf .i64 t3 1);cond (aX u1 t0) (cond (aj (fh t0 u1) 32) (eA (t0,u1,())) (eB (t0,t3,()))) none) (eB (t0,t3,()))
def Zv:=U4 (aq (yZ Lj))
def g92(p0:S8):Option EP:=(Zv p0 (ae p0)).bind (Sum.elim (fun y1=>cond (eY 0 y1.2.1 y1.1) (zR (sub y1.1 0 y1.2.1)) none) (fun _=>none))
def s92:=fU [aS [.str]] Fm fun x=>g92 x.1.1
theorem ak0:bj 92 s92:=fl an [] [(0,⟨[.d 0 .str,.d 3 af],aq (yZ Lj)⟩)] [] f92 (lp [0] (sc dU sn))
def g93(p0:Int):Option iG:=(uI p0 1 4).bind fun y1=>some ((),(y1.2.1,()))
def s93:=fU [aS [af]] iN fun x=>g93 x.1.1
theorem agk:bj 93 s93:=fq (ac rL an) f93
def Cj(p0:Int×S8×S8×S8×S8×S8×Int×Int×Unit):Option iG:=(HS p0.1).bind fun y1=>cond (!y1.2.1.1) (c0) ((OM p0.1).bind fun y2=>cond (!(bF p0.2.2.2.2.2.1 y2.2.1.1)) (c0) ((wZ p0.2.1).bind fun y3=>cond (!y3.2.1.1) (c0) ((Ih p0.2.2.2.2.1).bind fun y4=>cond (cond (!y4.2.1.1) true (!(aj (ae p0.2.2.2.2.1) 6))) (c0) (let u1:=(g91 p0.1);Option.bind u1 fun y5=>cond y5.2.1.1 ((Oq p0.2.2.2.1).bind fun y6=>cond (!y6.2.1.1) (c0) (Option.bind u1 fun y7=>cond (cond (!y7.2.1.1) (!(bF p0.2.2.2.1 [])) false) (c0) (let u2:=(g93 p0.1);Option.bind u2 fun y8=>cond y8.2.1.1 (let u3:=(uI p0.2.2.2.2.2.2.1 0 999999999999);Option.bind u3 fun y9=>cond (!y9.2.1.1) (c0) (Option.bind u2 fun iz=>cond (cond (!iz.2.1.1) (!(aj p0.2.2.2.2.2.2.1 0)) false) (c0) (cond (aj p0.1 1) (let u4:=(uI p0.2.2.2.2.2.2.2.1 0 9999);Option.bind u4 fun lq=>cond (!lq.2.1.1) (c0) (let u5:=(cond (!(aj p0.1 1)) (!(aj p0.2.2.2.2.2.2.2.1 0)) false);cond u5 (c0) (cond (aj p0.1 6) (let u6:=(wZ p0.2.2.1);Option.bind u6 fun qS=>cond qS.2.1.1 (c3) (zR (cond (!(aj p0.1 6)) (bF p0.2.2.1 []) false))) (zR (cond (!(aj p0.1 6)) (bF p0.2.2.1 []) false))))) (let u4:=(cond (!(aj p0.1 1)) (!(aj p0.2.2.2.2.2.2.2.1 0)) false);cond u4 (c0) (cond (aj p0.1 6) (let u5:=(wZ p0.2.2.1);Option.bind u5 fun lq=>cond lq.2.1.1 (c3) (zR (cond (!(aj p0.1 6)) (bF p0.2.2.1 []) false))) (zR (cond (!(aj p0.1 6)) (bF p0.2.2.1 []) false))))))) (Option.bind u2 fun y9=>let u3:=(cond (!y9.2.1.1) (!(aj p0.2.2.2.2.2.2.1 0)) false);cond u3 (c0) (cond (aj p0.1 1) (let u4:=(uI p0.2.2.2.2.2.2.2.1 0 9999);Option.bind u4 fun iz=>cond (!iz.2.1.1) (c0) (let u5:=(cond (!(aj p0.1 1)) (!(aj p0.2.2.2.2.2.2.2.1 0)) false);cond u5 (c0) (cond (aj p0.1 6) (let u6:=(wZ p0.2.2.1);Option.bind u6 fun lq=>cond lq.2.1.1 (c3) (zR (cond (!(aj p0.1 6)) (bF p0.2.2.1 []) false))) (zR (cond (!(aj p0.1 6)) (bF p0.2.2.1 []) false))))) (let u4:=(cond (!(aj p0.1 1)) (!(aj p0.2.2.2.2.2.2.2.1 0)) false);cond u4 (c0) (cond (aj p0.1 6) (let u5:=(wZ p0.2.2.1);Option.bind u5 fun iz=>cond iz.2.1.1 (c3) (zR (cond (!(aj p0.1 6)) (bF p0.2.2.1 []) false))) (zR (cond (!(aj p0.1 6)) (bF p0.2.2.1 []) false))))))))) (Option.bind u1 fun y6=>cond (cond (!y6.2.1.1) (!(bF p0.2.2.2.1 [])) false) (c0) (let u2:=(g93 p0.1);Option.bind u2 fun y7=>cond y7.2.1.1 (let u3:=(uI p0.2.2.2.2.2.2.1 0 999999999999);Option.bind u3 fun y8=>cond (!y8.2.1.1) (c0) (Option.bind u2 fun y9=>let u4:=(cond (!y9.2.1.1) (!(aj p0.2.2.2.2.2.2.1 0)) false);cond u4 (c0) (cond (aj p0.1 1) (let u5:=(uI p0.2.2.2.2.2.2.2.1 0 9999);Option.bind u5 fun iz=>cond (!iz.2.1.1) (c0) (let u6:=(cond (!(aj p0.1 1)) (!(aj p0.2.2.2.2.2.2.2.1 0)) false);cond u6 (c0) (cond (aj p0.1 6) (let u7:=(wZ p0.2.2.1);Option.bind u7 fun lq=>cond lq.2.1.1 (c3) (zR (cond (!(aj p0.1 6)) (bF p0.2.2.1 []) false))) (zR (cond (!(aj p0.1 6)) (bF p0.2.2.1 []) false))))) (let u5:=(cond (!(aj p0.1 1)) (!(aj p0.2.2.2.2.2.2.2.1 0)) false);cond u5 (c0) (cond (aj p0.1 6) (let u6:=(wZ p0.2.2.1);Option.bind u6 fun iz=>cond iz.2.1.1 (c3) (zR (cond (!(aj p0.1 6)) (bF p0.2.2.1 []) false))) (zR (cond (!(aj p0.1 6)) (bF p0.2.2.1 []) false))))))) (Option.bind u2 fun y8=>cond (cond (!y8.2.1.1) (!(aj p0.2.2.2.2.2.2.1 0)) false) (c0) (cond (aj p0.1 1) (let u3:=(uI p0.2.2.2.2.2.2.2.1 0 9999);Option.bind u3 fun y9=>cond (!y9.2.1.1) (c0) (let u4:=(cond (!(aj p0.1 1)) (!(aj p0.2.2.2.2.2.2.2.1 0)) false);cond u4 (c0) (cond (aj p0.1 6) (let u5:=(wZ p0.2.2.1);Option.bind u5 fun iz=>cond iz.2.1.1 (c3) (zR (cond (!(aj p0.1 6)) (bF p0.2.2.1 []) false))) (zR (cond (!(aj p0.1 6)) (bF p0.2.2.1 []) false))))) (let u3:=(cond (!(aj p0.1 1)) (!(aj p0.2.2.2.2.2.2.2.1 0)) false);cond u3 (c0) (cond (aj p0.1 6) (let u4:=(wZ p0.2.2.1);Option.bind u4 fun y9=>cond y9.2.1.1 (c3) (zR (cond (!(aj p0.1 6)) (bF p0.2.2.1 []) false))) (zR (cond (!(aj p0.1 6)) (bF p0.2.2.1 []) false))))))))))))
def s95:=fU [dL [af,.str,.str,.str,.str,.str,af,af]] iN fun x=>Cj x.1
theorem ace:bj 95 s95:=fq (ac B4 (ac YH (ac rL (ac Tb (ac KA (ac aas (ac aeL (ac agk an)))))))) f95
def g49(p0:S8×(List fR)×Unit):Option (Unit×(Y66×Y1×Unit)):=(g84 p0).bind fun y1=>cond (!y1.2.1.1) (c1) ((g88 p0.1).bind fun y2=>cond (!y2.2.1.1) (c30) ((AO p0 3).bind fun y3=>cond (!y3.2.2.1.1) (c1) ((g90 p0.1 y3.2.1.1).bind fun y4=>(AO p0 2).bind fun y5=>(AO p0 11).bind fun y6=>(g91 y4.2.1.1).bind fun y7=>cond y7.2.1.1 ((AO p0 38).bind fun y8=>(g92 y8.2.1.1).bind fun y9=>let u1:=(g93 y4.2.1.1);Option.bind u1 fun iz=>cond iz.2.1.1 (let u2:=(AO p0 4);Option.bind u2 fun lq=>let u3:=(O3 lq.2.1.1);Option.bind u3 fun qS=>cond (aj y4.2.1.1 1) (let u4:=(AO p0 14);Option.bind u4 fun Dw=>(O3 Dw.2.1.1).bind fun Pm=>cond (aj y4.2.1.1 6) (let u5:=(AO p0 103);Option.bind u5 fun y15=>let u6:=(cond y3.2.2.1.1 lq.2.2.1.1 false);cond (!(cond u6 Dw.2.2.1.1 false)) (c1) ((Cj (y4.2.1.1,y5.2.1.1,y15.2.1.1,y9.2.1.1,y6.2.1.1,p0.1,qS.2.1.1,Pm.2.1.1,())).bind fun y16=>cond (!y16.2.1.1) (c1) (some ((),((y4.2.1.1,y5.2.1.1,y15.2.1.1,y9.2.1.1,y6.2.1.1,p0.1,qS.2.1.1,Pm.2.1.1,()),(0,()),()))))) (let u5:=(cond y3.2.2.1.1 lq.2.2.1.1 false);cond (!(cond u5 Dw.2.2.1.1 false)) (c1) ((Cj (y4.2.1.1,y5.2.1.1,[],y9.2.1.1,y6.2.1.1,p0.1,qS.2.1.1,Pm.2.1.1,())).bind fun y15=>cond (!y15.2.1.1) (c1) (some ((),((y4.2.1.1,y5.2.1.1,[],y9.2.1.1,y6.2.1.1,p0.1,qS.2.1.1,Pm.2.1.1,()),(0,()),())))))) (cond (aj y4.2.1.1 6) (let u4:=(AO p0 103);Option.bind u4 fun Dw=>let u5:=(cond y3.2.2.1.1 lq.2.2.1.1 false);cond (!u5) (c1) ((Cj (y4.2.1.1,y5.2.1.1,Dw.2.1.1,y9.2.1.1,y6.2.1.1,p0.1,qS.2.1.1,0,())).bind fun Pm=>cond (!Pm.2.1.1) (c1) (some ((),((y4.2.1.1,y5.2.1.1,Dw.2.1.1,y9.2.1.1,y6.2.1.1,p0.1,qS.2.1.1,0,()),(0,()),()))))) (let u4:=(cond y3.2.2.1.1 lq.2.2.1.1 false);cond (!u4) (c1) ((Cj (y4.2.1.1,y5.2.1.1,[],y9.2.1.1,y6.2.1.1,p0.1,qS.2.1.1,0,())).bind fun Dw=>cond (!Dw.2.1.1) (c1) (some ((),((y4.2.1.1,y5.2.1.1,[],y9.2.1.1,y6.2.1.1,p0.1,qS.2.1.1,0,()),(0,()),()))))))) (cond (aj y4.2.1.1 1) (let u2:=(AO p0 14);Option.bind u2 fun lq=>let u3:=(O3 lq.2.1.1);Option.bind u3 fun qS=>cond (aj y4.2.1.1 6) (let u4:=(AO p0 103);Option.bind u4 fun Dw=>let u5:=(cond y3.2.2.1.1 lq.2.2.1.1 false);cond (!u5) (c1) ((Cj (y4.2.1.1,y5.2.1.1,Dw.2.1.1,y9.2.1.1,y6.2.1.1,p0.1,0,qS.2.1.1,())).bind fun Pm=>cond (!Pm.2.1.1) (c1) (some ((),((y4.2.1.1,y5.2.1.1,Dw.2.1.1,y9.2.1.1,y6.2.1.1,p0.1,0,qS.2.1.1,()),(0,()),()))))) (let u4:=(cond y3.2.2.1.1 lq.2.2.1.1 false);cond (!u4) (c1) ((Cj (y4.2.1.1,y5.2.1.1,[],y9.2.1.1,y6.2.1.1,p0.1,0,qS.2.1.1,())).bind fun Dw=>cond (!Dw.2.1.1) (c1) (some ((),((y4.2.1.1,y5.2.1.1,[],y9.2.1.1,y6.2.1.1,p0.1,0,qS.2.1.1,()),(0,()),())))))) (cond (aj y4.2.1.1 6) (let u2:=(AO p0 103);Option.bind u2 fun lq=>cond (!y3.2.2.1.1) (c1) ((Cj (y4.2.1.1,y5.2.1.1,lq.2.1.1,y9.2.1.1,y6.2.1.1,p0.1,0,0,())).bind fun qS=>cond (!qS.2.1.1) (c1) (some ((),((y4.2.1.1,y5.2.1.1,lq.2.1.1,y9.2.1.1,y6.2.1.1,p0.1,0,0,()),(0,()),()))))) (cond (!y3.2.2.1.1) (c1) ((Cj (y4.2.1.1,y5.2.1.1,[],y9.2.1.1,y6.2.1.1,p0.1,0,0,())).bind fun lq=>cond (!lq.2.1.1) (c1) (some ((),((y4.2.1.1,y5.2.1.1,[],y9.2.1.1,y6.2.1.1,p0.1,0,0,()),(0,()),())))))))) (let u1:=(g93 y4.2.1.1);Option.bind u1 fun y8=>cond y8.2.1.1 (let u2:=(AO p0 4);Option.bind u2 fun y9=>let u3:=(O3 y9.2.1.1);Option.bind u3 fun iz=>cond (aj y4.2.1.1 1) (let u4:=(AO p0 14);Option.bind u4 fun lq=>let u5:=(O3 lq.2.1.1);Option.bind u5 fun qS=>cond (aj y4.2.1.1 6) (let u6:=(AO p0 103);Option.bind u6 fun Dw=>let u7:=(cond y3.2.2.1.1 y9.2.2.1.1 false);cond (!(cond u7 lq.2.2.1.1 false)) (c1) ((Cj (y4.2.1.1,y5.2.1.1,Dw.2.1.1,[],y6.2.1.1,p0.1,iz.2.1.1,qS.2.1.1,())).bind fun Pm=>cond (!Pm.2.1.1) (c1) (some ((),((y4.2.1.1,y5.2.1.1,Dw.2.1.1,[],y6.2.1.1,p0.1,iz.2.1.1,qS.2.1.1,()),(0,()),()))))) (let u6:=(cond y3.2.2.1.1 y9.2.2.1.1 false);cond (!(cond u6 lq.2.2.1.1 false)) (c1) ((Cj (y4.2.1.1,y5.2.1.1,[],[],y6.2.1.1,p0.1,iz.2.1.1,qS.2.1.1,())).bind fun Dw=>cond (!Dw.2.1.1) (c1) (some ((),((y4.2.1.1,y5.2.1.1,[],[],y6.2.1.1,p0.1,iz.2.1.1,qS.2.1.1,()),(0,()),())))))) (cond (aj y4.2.1.1 6) (let u4:=(AO p0 103);Option.bind u4 fun lq=>let u5:=(cond y3.2.2.1.1 y9.2.2.1.1 false);cond (!u5) (c1) ((Cj (y4.2.1.1,y5.2.1.1,lq.2.1.1,[],y6.2.1.1,p0.1,iz.2.1.1,0,())).bind fun qS=>cond (!qS.2.1.1) (c1) (some ((),((y4.2.1.1,y5.2.1.1,lq.2.1.1,[],y6.2.1.1,p0.1,iz.2.1.1,0,()),(0,()),()))))) (let u4:=(cond y3.2.2.1.1 y9.2.2.1.1 false);cond (!u4) (c1) ((Cj (y4.2.1.1,y5.2.1.1,[],[],y6.2.1.1,p0.1,iz.2.1.1,0,())).bind fun lq=>cond (!lq.2.1.1) (c1) (some ((),((y4.2.1.1,y5.2.1.1,[],[],y6.2.1.1,p0.1,iz.2.1.1,0,()),(0,()),()))))))) (cond (aj y4.2.1.1 1) (let u2:=(AO p0 14);Option.bind u2 fun y9=>let u3:=(O3 y9.2.1.1);Option.bind u3 fun iz=>cond (aj y4.2.1.1 6) (let u4:=(AO p0 103);Option.bind u4 fun lq=>let u5:=(cond y3.2.2.1.1 y9.2.2.1.1 false);cond (!u5) (c1) ((Cj (y4.2.1.1,y5.2.1.1,lq.2.1.1,[],y6.2.1.1,p0.1,0,iz.2.1.1,())).bind fun qS=>cond (!qS.2.1.1) (c1) (some ((),((y4.2.1.1,y5.2.1.1,lq.2.1.1,[],y6.2.1.1,p0.1,0,iz.2.1.1,()),(0,()),()))))) (let u4:=(cond y3.2.2.1.1 y9.2.2.1.1 false);cond (!u4) (c1) ((Cj (y4.2.1.1,y5.2.1.1,[],[],y6.2.1.1,p0.1,0,iz.2.1.1,())).bind fun lq=>cond (!lq.2.1.1) (c1) (some ((),((y4.2.1.1,y5.2.1.1,[],[],y6.2.1.1,p0.1,0,iz.2.1.1,()),(0,()),())))))) (cond (aj y4.2.1.1 6) (let u2:=(AO p0 103);Option.bind u2 fun y9=>cond (!y3.2.2.1.1) (c1) ((Cj (y4.2.1.1,y5.2.1.1,y9.2.1.1,[],y6.2.1.1,p0.1,0,0,())).bind fun iz=>cond (!iz.2.1.1) (c1) (some ((),((y4.2.1.1,y5.2.1.1,y9.2.1.1,[],y6.2.1.1,p0.1,0,0,()),(0,()),()))))) (cond (!y3.2.2.1.1) (c1) ((Cj (y4.2.1.1,y5.2.1.1,[],[],y6.2.1.1,p0.1,0,0,())).bind fun y9=>cond (!y9.2.1.1) (c1) (some ((),((y4.2.1.1,y5.2.1.1,[],[],y6.2.1.1,p0.1,0,0,()),(0,()),())))))))))))
def s49:=fU [dL [.str,eO]] [(true,[af,.str,.str,.str,.str,.str,af,af]),(false,[af])] fun x=>g49 x.1
theorem ado:bj 49 s49:=fq (ac ahr (ac X9 (ac ajC (ac ag2 (ac ai7 (ac aeL (ac ak0 (ac agk (ac ace an))))))))) f49
def D4(t0:Int)(t1:S8):Rd Y15 Unit:=(JV t0).bind fun y1=>cond (aE (ae t1) y1.2.1.1) ((EZ t0).bind fun y2=>cond (aj y2.2.1.1 1) (cond (jx [48] t1) (eA (t0,(uz [48] t1),())) none) (eB (t0,t1,()))) (eB (t0,t1,()))
def R4:=U4 (aq (yZ D4))
def xj(t0:Int)(t1:S8):Rd Y15 Unit:=(JV t0).bind fun y1=>cond (aE (ae t1) y1.2.1.1) ((EZ t0).bind fun y2=>cond (aj y2.2.1.1 2) (cond (jx t1 [32]) (eA (t0,(uz t1 [32]),())) none) (eB (t0,t1,()))) (eB (t0,t1,()))
def TM:=U4 (aq (yZ xj))
def Ww(p0:Int)(p1:S8):Option EP:=(R4 p0 p1).bind (Sum.elim (fun y1=>(TM y1.1 y1.2.1).bind (Sum.elim (fun y2=>(yh y2.1 y2.2.1).bind fun y3=>cond (!y3.2.1.1) (c6) (zR y2.2.1)) (fun _=>none))) (fun _=>none))
def aij:=fU [aS [af],aS [.str]] Fm fun x=>Ww x.1.1 x.2.1.1
theorem ahd:bj 177 aij:=fl (ac Hp (ac PZ (ac LW an))) [] [(0,⟨[.d 0 af,.d 1 .str],aq (yZ D4)⟩),(2,⟨[.d 0 af,.d 1 .str],aq (yZ xj)⟩)] [] f177 (lp [0,2] (sc dU (sc dU sn)))
def Ad(t1:Int)(t2 t3:S8)(t11:Bool)(t34:List R3)(t35 t36:Int)(b4 b8 pX:S8×(List fR)×Unit):Rd (Int×S8×S8×Bool×(List R3)×Int×Int×xJ×xJ×xJ×Unit) Unit:=cond (aE t36 t35) (cond (aX t36 t34) ((AO b4 (gt d3 t34 t36).1).bind fun y1=>cond (aj (gt d3 t34 t36).1 38) ((Ww 38 t2).bind fun y2=>cond (cond (aj t1 0) (!(bF t2 [])) false) (cond t11 (let u1:=(yh (gt d3 t34 t36).1 y2.2.1.1);Option.bind u1 fun y3=>let u2:=(bk 24 pX.2.1 [((gt d3 t34 t36).1,y2.2.1.1,())]);cond u2 (let u3:=(ak .i64 t36 1);eA (t1,t2,t3,y3.2.1.1,t34,t35,u3,b4,b8,(pX.1,(fE pX.2.1 [((gt d3 t34 t36).1,y2.2.1.1,())]),()),())) none) (let u1:=(bk 24 pX.2.1 [((gt d3 t34 t36).1,y2.2.1.1,())]);cond u1 (let u2:=(ak .i64 t36 1);eA (t1,t2,t3,false,t34,t35,u2,b4,b8,(pX.1,(fE pX.2.1 [((gt d3 t34 t36).1,y2.2.1.1,())]),()),())) none)) (let u1:=(ak .i64 t36 1);eA (t1,t2,t3,t11,t34,t35,u1,b4,b8,pX,()))) (cond (aj (gt d3 t34 t36).1 39) ((g83 t1).bind fun y2=>cond t11 (let u1:=(yh (gt d3 t34 t36).1 y2.2.1.1);Option.bind u1 fun y3=>let u2:=(bk 24 pX.2.1 [((gt d3 t34 t36).1,y2.2.1.1,())]);cond u2 (let u3:=(ak .i64 t36 1);eA (t1,t2,t3,y3.2.1.1,t34,t35,u3,b4,b8,(pX.1,(fE pX.2.1 [((gt d3 t34 t36).1,y2.2.1.1,())]),()),())) none) (let u1:=(bk 24 pX.2.1 [((gt d3 t34 t36).1,y2.2.1.1,())]);cond u1 (let u2:=(ak .i64 t36 1);eA (t1,t2,t3,false,t34,t35,u2,b4,b8,(pX.1,(fE pX.2.1 [((gt d3 t34 t36).1,y2.2.1.1,())]),()),())) none)) (cond (aj (gt d3 t34 t36).1 54) (cond (!(bF t3 [])) (cond t11 ((yh (gt d3 t34 t36).1 t3).bind fun y2=>let u1:=(bk 24 pX.2.1 [((gt d3 t34 t36).1,t3,())]);cond u1 (let u2:=(ak .i64 t36 1);eA (t1,t2,t3,y2.2.1.1,t34,t35,u2,b4,b8,(pX.1,(fE pX.2.1 [((gt d3 t34 t36).1,t3,())]),()),())) none) (let u1:=(bk 24 pX.2.1 [((gt d3 t34 t36).1,t3,())]);cond u1 (let u2:=(ak .i64 t36 1);eA (t1,t2,t3,false,t34,t35,u2,b4,b8,(pX.1,(fE pX.2.1 [((gt d3 t34 t36).1,t3,())]),()),())) none)) (let u1:=(ak .i64 t36 1);eA (t1,t2,t3,t11,t34,t35,u1,b4,b8,pX,()))) (cond y1.2.2.1.1 (cond t11 ((yh (gt d3 t34 t36).1 y1.2.1.1).bind fun y2=>let u1:=(bk 24 pX.2.1 [((gt d3 t34 t36).1,y1.2.1.1,())]);cond u1 (let u2:=(ak .i64 t36 1);eA (t1,t2,t3,y2.2.1.1,t34,t35,u2,b4,b8,(pX.1,(fE pX.2.1 [((gt d3 t34 t36).1,y1.2.1.1,())]),()),())) none) (let u1:=(bk 24 pX.2.1 [((gt d3 t34 t36).1,y1.2.1.1,())]);cond u1 (let u2:=(ak .i64 t36 1);eA (t1,t2,t3,false,t34,t35,u2,b4,b8,(pX.1,(fE pX.2.1 [((gt d3 t34 t36).1,y1.2.1.1,())]),()),())) none)) (let u1:=(ak .i64 t36 1);eA (t1,t2,t3,t11,t34,t35,u1,b4,b8,pX,())))))) none) (eB (t1,t2,t3,t11,t34,t35,t36,b4,b8,pX,()))
def ZW:=ahh (aq (OK Ad))
def g96(p0:S8×(List fR)×Unit)(p1:Int)(p2 p3:S8):Option Y62:=(g46 p0.1).bind fun y1=>(g84 p0).bind fun y2=>cond (cond (!y2.2.1.1) true (bF y1.2.1.1 [])) (XF) ((g83 p1).bind fun y3=>cond (bF y3.2.1.1 []) (XF) ((ZW p1 p2 p3 true [(2,()),(3,()),(4,()),(7,()),(11,()),(37,()),(38,()),(39,()),(41,()),(49,()),(54,()),(102,()),(103,())] (ae [(2,()),(3,()),(4,()),(7,()),(11,()),(37,()),(38,()),(39,()),(41,()),(49,()),(54,()),(102,()),(103,())]) 0 p0 ([],[],()) (y1.2.1.1,[],())).bind (Sum.elim (fun y4=>cond (!y4.2.2.2.1) (XF) (some ((),(y4.2.2.2.2.2.2.2.2.2.1,(true,()),())))) (fun _=>none))))
def s96:=fU [dL [.str,eO],aS [af],aS [.str],aS [.str]] [(true,[.str,eO]),(false,[.bool])] fun x=>g96 x.1 x.2.1.1 x.2.2.1.1 x.2.2.2.1.1
theorem aj4:bj 96 s96:=fl (ac RU (ac af9 (ac LW (ac X9 (ac ag2 (ac ahd an)))))) [] [(0,⟨[.d 1 af,.d 2 .str,.d 3 .str,.d 11 .bool,.own 34 q3,.d 35 af,.d 36 af,.box 4 [(false,.str),(false,eO)],.box 8 [(false,.str),(true,eO)],.box 10 [(false,.str),(true,eO)]],aq (OK Ad)⟩)] [] f96 (lp [0] (sc dU sn))
def YC(p0:S8×(List fR)×Unit)(p1:Int)(p2 p3:S8):Option Y26:=(g96 p0 p1 p2 p3).bind fun y1=>(g48 y1.2.1).bind fun y2=>some ((),(y2.2.1,()))
def s50:=fU [dL [.str,eO],aS [af],aS [.str],aS [.str]] w8R fun x=>YC x.1 x.2.1.1 x.2.2.1.1 x.2.2.2.1.1
theorem ade:bj 50 s50:=fq (ac Vl (ac aj4 an)) f50
def zv(t1:S8)(t8:List gr)(t9 t10:Int):Rd (S8×(List gr)×Int×Int×Unit) Y1:=cond (aE t10 t9) (cond (aX t10 t8) (cond (bF (gt d94 t8 t10).1 t1) (eC (t10,())) (eA (t1,t8,t9,(ak .i64 t10 1),()))) none) (eB (t1,t8,t9,t10,()))
def YS:=rA (aq (ep zv))
def g51(p0:(List gr)×Unit)(p1:S8):Option iP:=(YS p1 p0.1 (ae p0.1) 0).bind (Sum.elim (fun _=>c2) (fun y1=>some ((),(y1,()))))
def s51:=fU [dL [jZ],aS [.str]] jd fun x=>g51 x.1 x.2.1.1
theorem QQ:bj 51 s51:=fl an [.d 4 af] [(0,⟨[.d 1 .str,.d 8 jZ,.d 9 af,.d 10 af],aq (ep zv)⟩)] [] f51 (lp [0] (sc dU sn))
def zS(t1 t2:S8)(t10:List ch)(t11 t12:Int):Rd (S8×S8×(List ch)×Int×Int×Unit) ((List R5)×Bool×Unit):=cond (aE t12 t11) (cond (aX t12 t10) (let u1:=(gt d100 t10 t12);cond (cond (bF u1.1 t1) (bF u1.2.1 t2) false) (cond (bk 1 [] u1.2.2.1) (eC ((fE [] u1.2.2.1),true,())) none) (eA (t1,t2,t10,t11,(ak .i64 t12 1),()))) none) (eB (t1,t2,t10,t11,t12,()))
def Zh:=O6 (aq (pY zS))
def g52(p0:List ch)(p1 p2:S8):Option O4:=(Zh p1 p2 p0 (ae p0) 0).bind (Sum.elim (fun _=>c7) (fun y1=>some ((),((y1.1,()),(y1.2.1,()),()))))
def s52:=fU [aS [ck],aS [.str],aS [.str]] US fun x=>g52 x.1.1 x.2.1.1 x.2.2.1.1
theorem acT:bj 52 s52:=fl an [.own 6 q5,.d 7 .bool] [(0,⟨[.d 1 .str,.d 2 .str,.d 10 ck,.d 11 af,.d 12 af],aq (pY zS)⟩)] [] f52 (lp [0] (sc dU sn))
def Ab(p0:S8×Int×Int×Int×Int×(List bA)×Int×Int×(List R3)×(List R3)×(List ch)×Unit)(p1:S8)(p2:Int):Option iG:=(UX p0).bind fun y1=>cond y1.2.1.1 ((LM p2).bind fun y2=>cond y2.2.1.1 ((Oq p1).bind fun y3=>some ((),(y3.2.1,()))) (c0)) (c0)
def agh:=fU [dL [.str,af,af,af,af,bH,af,af,q3,q3,ck],aS [.str],aS [af]] iN fun x=>Ab x.1 x.2.1.1 x.2.2.1.1
theorem AI:bj 235 agh:=fq (ac Tb (ac tQ (ac Eu an))) f235
def tD(t1:S8)(t7:List bA)(t8 t9:Int):Rd (S8×(List bA)×Int×Int×Unit) Y1:=cond (aE t9 t8) (cond (aX t9 t7) (cond (bF (gt d192 t7 t9).1 t1) (eC (t9,())) (eA (t1,t7,t8,(ak .i64 t9 1),()))) none) (eB (t1,t7,t8,t9,()))
def RZ:=rA (aq (ep tD))
def E1(p0:List bA)(p1:S8):Option iP:=(RZ p1 p0 (ae p0) 0).bind (Sum.elim (fun _=>c2) (fun y1=>some ((),(y1,()))))
def ag3:=fU [aS [bH],aS [.str]] jd fun x=>E1 x.1.1 x.2.1.1
theorem A5:bj 236 ag3:=fl an [.d 4 af] [(0,⟨[.d 1 .str,.d 7 bH,.d 8 af,.d 9 af],aq (ep tD)⟩)] [] f236 (lp [0] (sc dU sn))
def Xs(p0:List bA)(p1:Int):Option iP:=(Sf p0 p1).bind fun y1=>(Q3 y1.2.1.1).bind fun y2=>some ((),(y2.2.1,()))
def ajU:=fU [aS [bH],aS [af]] jd fun x=>Xs x.1.1 x.2.1.1
theorem agN:bj 274 ajU:=fq (ac aaT (ac Zy an)) f274
def OD(p0:S8×Int×Int×Int×Int×(List bA)×Int×Int×(List R3)×(List R3)×(List ch)×Unit)(p1:Int):Option iP:=(UX p0).bind fun y1=>cond (!y1.2.1.1) (c5) ((LM p1).bind fun y2=>cond (!y2.2.1.1) (c5) ((Xs p0.2.2.2.2.2.1 p1).bind fun y3=>zR (bf .i64 (bf .i64 p0.2.1 p0.2.2.1) y3.2.1.1)))
def afT:=fU [dL [.str,af,af,af,af,bH,af,af,q3,q3,ck],aS [af]] jd fun x=>OD x.1 x.2.1.1
theorem Ga:bj 241 afT:=fq (ac tQ (ac Eu (ac agN an))) f241
def tg(t1 t6 t37 t38:Int)(b2 b4 b5:Int×Int×(List R3)×(List R3)×Unit):Rd (Int×Int×Int×Int×Y33×Y33×Y33×Unit) Unit:=cond (aE t38 t37) (cond (aX t38 b5.2.2.1) (cond (aX t38 b5.2.2.2.1) (cond (cl t6 t38) (let u1:=(bf .i64 t38 t6);cond (aX u1 b2.2.2.1) (let u2:=(cZ b5.2.2.1 t38 (0,()));cond (aX t38 u2) (cond (aX u1 b2.2.2.2.1) (let u3:=(cZ b5.2.2.2.1 t38 (0,()));cond (aX t38 u3) (let u4:=(ak .i64 t38 1);eA (t1,t6,t37,u4,b2,b4,(b5.1,b5.2.1,(cZ u2 t38 (gt d3 b2.2.2.1 u1)),(cZ u3 t38 (gt d3 b2.2.2.2.1 u1)),()),())) none) none) none) none) (let u1:=(ak .i64 t38 1);let u2:=(cZ b5.2.2.1 t38 (0,()));let u3:=(cZ b5.2.2.2.1 t38 (0,()));eA (t1,t6,t37,u1,b2,b4,(b5.1,b5.2.1,u2,u3,()),()))) none) none) (eB (t1,t6,t37,t38,b2,b4,b5,()))
def Tp:=cu7 (aq (Az tg))
def PF(p0:Int×Int×(List R3)×(List R3)×Unit)(p1:Int):Option Y55:=(EO p0).bind fun y1=>(HR p0).bind fun y2=>cond (!y2.2.1.1) (some ((),(y1.2.1,()))) ((LM p1).bind fun y3=>cond (!y3.2.1.1) (some ((),(y1.2.1,()))) (cond (!(aj p0.1 0)) (let u1:=(kr .i64 p1 p0.1);cond (cl u1 p0.2.1) (some ((),(y1.2.1,()))) (cond (!(aj p0.1 0)) ((Tp p1 (bf .i64 u1 p0.2.1) (ae p0.2.2.1) 0 p0 (0,0,[],[],()) y1.2.1).bind (Sum.elim (fun y4=>cond (!(aj y4.2.2.2.2.1.1 0)) (some ((),((y4.2.2.2.2.2.2.1.1,(kr .i64 y4.1 y4.2.2.2.2.1.1),y4.2.2.2.2.2.2.1.2.2.1,y4.2.2.2.2.2.2.1.2.2.2.1,()),()))) none) (fun _=>none))) none)) none))
def akW:=fU [dL [af,af,q3,q3],aS [af]] w6R fun x=>PF x.1 x.2.1.1
theorem aaS:bj 273 akW:=fl (ac R6 (ac tQ (ac K7 an))) [] [(0,⟨[.d 1 af,.d 6 af,.d 37 af,.d 38 af,.box 2 [(false,.int .i64),(false,.int .i64),(false,q3),(false,q3)],.box 4 [(false,.int .i64),(false,.int .i64),(true,q3),(true,q3)],.box 5 [(false,.int .i64),(false,.int .i64),(true,q3),(true,q3)]],aq (Az tg)⟩)] [] f273 (lp [0] (sc dU sn))
def lC(t2:Bool)(t8 t23 t24:Int)(b7:Int×Int×(List R3)×(List R3)×Unit):Rd (Bool×Int×Int×Int×Y33×Unit) Unit:=cond (aE t24 t23) (cond t2 (cond (aX t24 b7.2.2.2.1) ((An t8 (gt d3 b7.2.2.2.1 t24).1).bind fun y1=>eA (t2,y1.2.1.1,t23,(ak .i64 t24 1),b7,())) none) (cond (aX t24 b7.2.2.1) ((An t8 (gt d3 b7.2.2.1 t24).1).bind fun y1=>eA (t2,y1.2.1.1,t23,(ak .i64 t24 1),b7,())) none)) (eB (t2,t8,t23,t24,b7,()))
def JI:=O6 (aq (pY lC))
def Qe(p0:Int×Int×(List R3)×(List R3)×Unit)(p1:Int)(p2:Bool):Option iP:=(HR p0).bind fun y1=>cond (!y1.2.1.1) (c5) ((LM p1).bind fun y2=>cond (!y2.2.1.1) (c5) ((PF p0 p1).bind fun y3=>(JI p2 0 (ae y3.2.1.2.2.1) 0 y3.2.1).bind (Sum.elim (fun y4=>zR y4.2.1) (fun _=>none))))
def ajv:=fU [dL [af,af,q3,q3],aS [af],aS [.bool]] jd fun x=>Qe x.1 x.2.1.1 x.2.2.1.1
theorem Yy:bj 297 ajv:=fl (ac tQ (ac K7 (ac Gt (ac aaS an)))) [] [(0,⟨[.d 2 .bool,.d 8 af,.d 23 af,.d 24 af,.box 7 [(false,.int .i64),(false,.int .i64),(true,q3),(true,q3)]],aq (pY lC)⟩)] [] f297 (lp [0] (sc dU sn))
def TW(p0:Int×Int×(List R3)×(List R3)×Unit)(p1:Int):Option iP:=(Qe p0 p1 false).bind fun y1=>some ((),(y1.2.1,()))
def akz:=fU [dL [af,af,q3,q3],aS [af]] jd fun x=>TW x.1 x.2.1.1
theorem ahb:bj 271 akz:=fq (ac Yy an) f271
def RD(p0:Int×Int×(List R3)×(List R3)×Unit)(p1:Int):Option iP:=(Qe p0 p1 true).bind fun y1=>some ((),(y1.2.1,()))
def aiZ:=fU [dL [af,af,q3,q3],aS [af]] jd fun x=>RD x.1 x.2.1.1
theorem agd:bj 272 aiZ:=fq (ac Yy an) f272
def Ry(p0:S8×Int×Int×Int×Int×(List bA)×Int×Int×(List R3)×(List R3)×(List ch)×Unit)(p1 p2:Int):Option iP:=(OD p0 p2).bind fun y1=>cond (aE y1.2.1.1 p1) (zR 7) ((TW (p0.2.2.2.2.2.2.1,p0.2.2.2.2.2.2.2.1,p0.2.2.2.2.2.2.2.2.1,p0.2.2.2.2.2.2.2.2.2.1,()) p2).bind fun y2=>(An y2.2.1.1 1).bind fun y3=>cond (aE p0.2.2.2.1 y3.2.1.1) (c23) ((RD (p0.2.2.2.2.2.2.1,p0.2.2.2.2.2.2.2.1,p0.2.2.2.2.2.2.2.2.1,p0.2.2.2.2.2.2.2.2.2.1,()) p2).bind fun y4=>(An y4.2.1.1 p1).bind fun y5=>cond (aE p0.2.2.2.2.1 y5.2.1.1) (zR 9) (c5)))
def ail:=fU [dL [.str,af,af,af,af,bH,af,af,q3,q3,ck],aS [af],aS [af]] jd fun x=>Ry x.1 x.2.1.1 x.2.2.1.1
theorem Zk:bj 237 ail:=fq (ac Gt (ac Ga (ac ahb (ac agd an)))) f237
def sM(t6:List bA)(t7:Bool)(t14:List bA)(t15 t16:Int)(b3:S8×Int×Int×Unit):Rd ((List bA)×Bool×(List bA)×Int×Int×Y23×Unit) Unit:=cond (aE t16 t15) (cond (aX t16 t14) (let u1:=(gt d192 t14 t16);cond (cond (!t7) (!(BX u1.1 b3.1)) false) (cond (bk 32 t6 [b3]) (cond (!(bF u1.1 b3.1)) (let u2:=(fE t6 [b3]);cond (bk 32 u2 [u1]) (let u3:=(ak .i64 t16 1);eA ((fE u2 [u1]),true,t14,t15,u3,b3,())) none) (let u2:=(fE t6 [b3]);let u3:=(ak .i64 t16 1);eA (u2,true,t14,t15,u3,b3,()))) none) (cond (!(bF u1.1 b3.1)) (cond (bk 32 t6 [u1]) (let u2:=(ak .i64 t16 1);eA ((fE t6 [u1]),t7,t14,t15,u2,b3,())) none) (let u2:=(ak .i64 t16 1);eA (t6,t7,t14,t15,u2,b3,())))) none) (eB (t6,t7,t14,t15,t16,b3,()))
def S6:=cu6 (aq (Fo sM))
def Q0(p0:List bA)(p1:S8×Int×Int×Unit):Option (Unit×(Y7×Y2×Unit)):=(Jj p0).bind fun y1=>cond (!y1.2.1.1) (c15) ((S6 [] false p0 (ae p0) 0 p1).bind (Sum.elim (fun y2=>cond (!y2.2.1) (cond (bk 32 y2.1 [y2.2.2.2.2.2.1]) (let u1:=(fE y2.1 [y2.2.2.2.2.2.1]);(Jj u1).bind fun y3=>cond (!y3.2.1.1) (c15) (some ((),((u1,()),(true,()),())))) none) ((Jj y2.1).bind fun y3=>cond (!y3.2.1.1) (c15) (some ((),((y2.1,()),(true,()),()))))) (fun _=>none)))
def afk:=fU [aS [bH],dL [.str,af,af]] [(false,[bH]),(false,[.bool])] fun x=>Q0 x.1.1 x.2.1
theorem Mf:bj 238 afk:=fl (ac YU an) [] [(0,⟨[.own 6 bH,.d 7 .bool,.d 14 bH,.d 15 af,.d 16 af,.box 3 [(false,.str),(false,.int .i64),(false,.int .i64)]],aq (Fo sM)⟩)] [] f238 (lp [0] (sc dU sn))
def Ix(p0:Int×Int×(List R3)×(List R3)×Unit)(p1 p2:Int):Option Y55:=(HR p0).bind fun y1=>cond (!y1.2.1.1) (let u1:=(EO p0);Option.bind u1 fun y2=>some ((),(y2.2.1,()))) ((LM p1).bind fun y2=>cond (!y2.2.1.1) (let u1:=(EO p0);Option.bind u1 fun y3=>some ((),(y3.2.1,()))) ((EC p2).bind fun y3=>cond (!y3.2.1.1) (let u1:=(EO p0);Option.bind u1 fun y4=>some ((),(y4.2.1,()))) ((PF p0 p1).bind fun y4=>cond (aX 0 y4.2.1.2.2.1) ((An (gt d3 y4.2.1.2.2.1 0).1 1).bind fun y5=>cond (aX 0 y4.2.1.2.2.1) (cond (aX 0 y4.2.1.2.2.2.1) ((An (gt d3 y4.2.1.2.2.2.1 0).1 p2).bind fun y6=>cond (aX 0 y4.2.1.2.2.2.1) (some ((),((y4.2.1.1,y4.2.1.2.1,(cZ y4.2.1.2.2.1 0 y5.2.1),(cZ y4.2.1.2.2.2.1 0 y6.2.1),()),()))) none) none) none) none)))
def aii:=fU [dL [af,af,q3,q3],aS [af],aS [af]] w6R fun x=>Ix x.1 x.2.1.1 x.2.2.1.1
theorem YP:bj 239 aii:=fq (ac R6 (ac GO (ac tQ (ac K7 (ac Gt (ac aaS an)))))) f239
def VT(p0:S8×Int×Int×Int×Int×(List bA)×Int×Int×(List R3)×(List R3)×(List ch)×Unit)(p1:S8)(p2 p3 p4:Int):Option Hr:=(Ab p0 p1 p4).bind fun y1=>cond (!y1.2.1.1) (c8) ((uI p2 1 9007199254740992).bind fun y2=>cond (!y2.2.1.1) (c12) ((uI p3 1 9999).bind fun y3=>let u1:=(ak .i64 p4 p3);cond (cond (!y3.2.1.1) true (aE 1000000000 u1)) (c12) ((Bp p0 p4).bind fun y4=>(E1 y4.2.1.2.2.2.2.2.1 p1).bind fun y5=>cond (cl 0 y5.2.1.1) (c31) (cond (aj (ae y4.2.1.2.2.2.2.2.1) 4) (c32) ((Ry y4.2.1 p2 p4).bind fun y6=>cond (!(aj y6.2.1.1 0)) (some ((),(([],0,0,0,0,[],0,0,[],[],[],()),y6.2.1,()))) ((Q0 y4.2.1.2.2.2.2.2.1 (p1,p2,u1,())).bind fun y7=>(Ix (y4.2.1.2.2.2.2.2.2.1,y4.2.1.2.2.2.2.2.2.2.1,y4.2.1.2.2.2.2.2.2.2.2.1,y4.2.1.2.2.2.2.2.2.2.2.2.1,()) p4 p2).bind fun y8=>some ((),((y4.2.1.1,y4.2.1.2.1,y4.2.1.2.2.1,y4.2.1.2.2.2.1,y4.2.1.2.2.2.2.1,y7.2.1.1,y8.2.1.1,y8.2.1.2.1,y8.2.1.2.2.1,y8.2.1.2.2.2.1,y4.2.1.2.2.2.2.2.2.2.2.2.2.1,()),(0,()),()))))))))
def agU:=fU [dL [.str,af,af,af,af,bH,af,af,q3,q3,ck],aS [.str],aS [af],aS [af],aS [af]] TJ fun x=>VT x.1 x.2.1.1 x.2.2.1.1 x.2.2.2.1.1 x.2.2.2.2.1.1
theorem Ze:bj 178 agU:=fq (ac rL (ac uN (ac AI (ac A5 (ac Zk (ac Mf (ac YP an))))))) f178
def Xa(p0:S8×Int×Int×Int×Int×(List bA)×Int×Int×(List R3)×(List R3)×(List ch)×Unit)(p1:S8)(p2 p3:Int):Option Hr:=(Ab p0 p1 p3).bind fun y1=>cond (!y1.2.1.1) (c8) ((uI p2 1 9007199254740992).bind fun y2=>cond (!y2.2.1.1) (c12) ((Bp p0 p3).bind fun y3=>(E1 y3.2.1.2.2.2.2.2.1 p1).bind fun y4=>cond (aE y4.2.1.1 0) (c27) ((Ry y3.2.1 p2 p3).bind fun y5=>cond (!(aj y5.2.1.1 0)) (some ((),(([],0,0,0,0,[],0,0,[],[],[],()),y5.2.1,()))) (cond (aX y4.2.1.1 y3.2.1.2.2.2.2.2.1) (cond (aX y4.2.1.1 y3.2.1.2.2.2.2.2.1) ((Ix (y3.2.1.2.2.2.2.2.2.1,y3.2.1.2.2.2.2.2.2.2.1,y3.2.1.2.2.2.2.2.2.2.2.1,y3.2.1.2.2.2.2.2.2.2.2.2.1,()) p3 p2).bind fun y6=>let u1:=(gt d192 y3.2.1.2.2.2.2.2.1 y4.2.1.1);some ((),((y3.2.1.1,y3.2.1.2.1,y3.2.1.2.2.1,y3.2.1.2.2.2.1,y3.2.1.2.2.2.2.1,(cZ y3.2.1.2.2.2.2.2.1 y4.2.1.1 (u1.1,(ak .i64 u1.2.1 p2),u1.2.2.1,())),y6.2.1.1,y6.2.1.2.1,y6.2.1.2.2.1,y6.2.1.2.2.2.1,y3.2.1.2.2.2.2.2.2.2.2.2.2.1,()),(0,()),()))) none) none))))
def af0:=fU [dL [.str,af,af,af,af,bH,af,af,q3,q3,ck],aS [.str],aS [af],aS [af]] TJ fun x=>Xa x.1 x.2.1.1 x.2.2.1.1 x.2.2.2.1.1
theorem Yx:bj 179 af0:=fq (ac rL (ac uN (ac AI (ac A5 (ac Zk (ac YP an)))))) f179
def sa(t1:S8)(t5 t9:List bA)(t10 t11:Int):Rd (S8×(List bA)×(List bA)×Int×Int×Unit) Unit:=cond (aE t11 t10) (cond (aX t11 t9) (let u1:=(gt d192 t9 t11);cond (!(bF u1.1 t1)) (cond (bk 32 t5 [u1]) (let u2:=(ak .i64 t11 1);eA (t1,(fE t5 [u1]),t9,t10,u2,())) none) (let u2:=(ak .i64 t11 1);eA (t1,t5,t9,t10,u2,()))) none) (eB (t1,t5,t9,t10,t11,()))
def Qd:=O6 (aq (pY sa))
def Jr(p0:List bA)(p1:S8):Option Y31:=(Qd p1 [] p0 (ae p0) 0).bind (Sum.elim (fun y1=>zR y1.2.1) (fun _=>none))
def agn:=fU [aS [bH],aS [.str]] Wj fun x=>Jr x.1.1 x.2.1.1
theorem HP:bj 240 agn:=fl an [] [(0,⟨[.d 1 .str,.own 5 bH,.d 9 bH,.d 10 af,.d 11 af],aq (pY sa)⟩)] [] f240 (lp [0] (sc dU sn))
def Qp(p0:S8×Int×Int×Int×Int×(List bA)×Int×Int×(List R3)×(List R3)×(List ch)×Unit)(p1:S8)(p2:Int)(p3:Bool)(p4:Int):Option Hr:=(Ab p0 p1 p4).bind fun y1=>cond (!y1.2.1.1) (c8) ((uI p2 1 9007199254740992).bind fun y2=>cond (!y2.2.1.1) (c12) ((Bp p0 p4).bind fun y3=>(E1 y3.2.1.2.2.2.2.2.1 p1).bind fun y4=>cond (aE y4.2.1.1 0) (c27) (cond (aX y4.2.1.1 y3.2.1.2.2.2.2.2.1) (let u1:=(gt d192 y3.2.1.2.2.2.2.2.1 y4.2.1.1);cond (aE u1.2.1 p2) (c33) (cond p3 (let u2:=(Jr y3.2.1.2.2.2.2.2.1 p1);Option.bind u2 fun y5=>let u3:=(ak .i64 y3.2.1.2.2.1 p2);some ((),((y3.2.1.1,y3.2.1.2.1,u3,y3.2.1.2.2.2.1,y3.2.1.2.2.2.2.1,y5.2.1.1,y3.2.1.2.2.2.2.2.2.1,y3.2.1.2.2.2.2.2.2.2.1,y3.2.1.2.2.2.2.2.2.2.2.1,y3.2.1.2.2.2.2.2.2.2.2.2.1,y3.2.1.2.2.2.2.2.2.2.2.2.2.1,()),(0,()),()))) (cond (aX y4.2.1.1 y3.2.1.2.2.2.2.2.1) (cond (aj p2 u1.2.1) (let u2:=(Jr y3.2.1.2.2.2.2.2.1 p1);Option.bind u2 fun y5=>let u3:=(ak .i64 y3.2.1.2.2.1 p2);some ((),((y3.2.1.1,y3.2.1.2.1,u3,y3.2.1.2.2.2.1,y3.2.1.2.2.2.2.1,y5.2.1.1,y3.2.1.2.2.2.2.2.2.1,y3.2.1.2.2.2.2.2.2.2.1,y3.2.1.2.2.2.2.2.2.2.2.1,y3.2.1.2.2.2.2.2.2.2.2.2.1,y3.2.1.2.2.2.2.2.2.2.2.2.2.1,()),(0,()),()))) (cond (aX y4.2.1.1 y3.2.1.2.2.2.2.2.1) (cond (aX y4.2.1.1 y3.2.1.2.2.2.2.2.1) (let u2:=(ak .i64 y3.2.1.2.2.1 p2);some ((),((y3.2.1.1,y3.2.1.2.1,u2,y3.2.1.2.2.2.1,y3.2.1.2.2.2.2.1,(cZ y3.2.1.2.2.2.2.2.1 y4.2.1.1 (u1.1,(bf .i64 u1.2.1 p2),u1.2.2.1,())),y3.2.1.2.2.2.2.2.2.1,y3.2.1.2.2.2.2.2.2.2.1,y3.2.1.2.2.2.2.2.2.2.2.1,y3.2.1.2.2.2.2.2.2.2.2.2.1,y3.2.1.2.2.2.2.2.2.2.2.2.2.1,()),(0,()),()))) none) none)) none))) none)))
def agG:=fU [dL [.str,af,af,af,af,bH,af,af,q3,q3,ck],aS [.str],aS [af],aS [.bool],aS [af]] TJ fun x=>Qp x.1 x.2.1.1 x.2.2.1.1 x.2.2.2.1.1 x.2.2.2.2.1.1
theorem Zz:bj 180 agG:=fq (ac rL (ac uN (ac AI (ac A5 (ac HP an))))) f180
def Wn(p0:S8×Int×Int×Int×Int×(List bA)×Int×Int×(List R3)×(List R3)×(List ch)×Unit)(p1:S8)(p2:Int):Option Hr:=(Ab p0 p1 p2).bind fun y1=>cond (!y1.2.1.1) (c8) ((Bp p0 p2).bind fun y2=>(E1 y2.2.1.2.2.2.2.2.1 p1).bind fun y3=>cond (aE y3.2.1.1 0) (c27) ((Jr y2.2.1.2.2.2.2.2.1 p1).bind fun y4=>some ((),((y2.2.1.1,y2.2.1.2.1,y2.2.1.2.2.1,y2.2.1.2.2.2.1,y2.2.1.2.2.2.2.1,y4.2.1.1,y2.2.1.2.2.2.2.2.2.1,y2.2.1.2.2.2.2.2.2.2.1,y2.2.1.2.2.2.2.2.2.2.2.1,y2.2.1.2.2.2.2.2.2.2.2.2.1,y2.2.1.2.2.2.2.2.2.2.2.2.2.1,()),(0,()),()))))
def afl:=fU [dL [.str,af,af,af,af,bH,af,af,q3,q3,ck],aS [.str],aS [af]] TJ fun x=>Wn x.1 x.2.1.1 x.2.2.1.1
theorem aax:bj 181 afl:=fq (ac uN (ac AI (ac A5 (ac HP an)))) f181
def RK(p0 p1:S8×Int×Int×Int×Int×(List bA)×Int×Int×(List R3)×(List R3)×(List ch)×Unit)(p2:S8)(p3:Int):Option (Unit×(BW×BW×Y1×Unit)):=(Ab p0 p2 p3).bind fun y1=>cond (!y1.2.1.1) (c18) ((UX p1).bind fun y2=>cond (!y2.2.1.1) (c18) (cond (bF p0.1 p1.1) (c34) ((Bp p0 p3).bind fun y3=>(Bp p1 p3).bind fun y4=>(E1 y3.2.1.2.2.2.2.2.1 p2).bind fun y5=>cond (aE y5.2.1.1 0) (c35) ((E1 y4.2.1.2.2.2.2.2.1 p2).bind fun y6=>cond (cl 0 y6.2.1.1) (c36) (cond (aj (ae y4.2.1.2.2.2.2.2.1) 4) (c37) (cond (aX y5.2.1.1 y3.2.1.2.2.2.2.2.1) ((OD y4.2.1 p3).bind fun y7=>let u1:=(gt d192 y3.2.1.2.2.2.2.2.1 y5.2.1.1);cond (aE y7.2.1.1 u1.2.1) (c38) (cond (aX y5.2.1.1 y3.2.1.2.2.2.2.2.1) ((Q0 y4.2.1.2.2.2.2.2.1 u1).bind fun y8=>(Jr y3.2.1.2.2.2.2.2.1 p2).bind fun y9=>some ((),((y3.2.1.1,y3.2.1.2.1,y3.2.1.2.2.1,y3.2.1.2.2.2.1,y3.2.1.2.2.2.2.1,y9.2.1.1,y3.2.1.2.2.2.2.2.2.1,y3.2.1.2.2.2.2.2.2.2.1,y3.2.1.2.2.2.2.2.2.2.2.1,y3.2.1.2.2.2.2.2.2.2.2.2.1,y3.2.1.2.2.2.2.2.2.2.2.2.2.1,()),(y4.2.1.1,y4.2.1.2.1,y4.2.1.2.2.1,y4.2.1.2.2.2.1,y4.2.1.2.2.2.2.1,y8.2.1.1,y4.2.1.2.2.2.2.2.2.1,y4.2.1.2.2.2.2.2.2.2.1,y4.2.1.2.2.2.2.2.2.2.2.1,y4.2.1.2.2.2.2.2.2.2.2.2.1,y4.2.1.2.2.2.2.2.2.2.2.2.2.1,()),(0,()),()))) none)) none))))))
def Sv:=fU [dL [.str,af,af,af,af,bH,af,af,q3,q3,ck],dL [.str,af,af,af,af,bH,af,af,q3,q3,ck],aS [.str],aS [af]] [(true,[.str,af,af,af,af,bH,af,af,q3,q3,ck]),(true,[.str,af,af,af,af,bH,af,af,q3,q3,ck]),(false,[af])] fun x=>RK x.1 x.2.1 x.2.2.1.1 x.2.2.2.1.1
def QI:List SE:=[]
def ZU:Nat->Option (Lo QI)
 | _=>none
def Hh:List Y0:=[(81,iS s81),(145,iS aeq),(235,iS agh),(236,iS ag3),(241,iS afT),(238,iS afk),(240,iS agn)]
def xB:En:=xL 95 tt Hh QI ZU [] fun _=>none
def agC:Nat->Option (St->Tr St)
 | 16=>some (iq xB (opsOf (bq 16 (aw f182))) [(12,10)])
 | 18=>some (ot xB (opsOf (bq 18 (aw f182))) 2 [1])
 | _=>none
def QB:En:=xL 95 tt Hh QI ZU [] (agC)
theorem t182(x:PT Sv.ps):(Ik QB (aw f182) f182.results.toList Sv.ps Sv.rs true x).run=RK x.1 x.2.1 x.2.2.1.1 x.2.2.2.1.1:=by kernel_rfl
theorem abg:dQ prog QB:=cD (l:=Hh) ⟨Eu,uN,AI,A5,Ga,Mf,HP,trivial⟩
theorem J8:dQ prog xB:=cD (l:=Hh) ⟨Eu,uN,AI,A5,Ga,Mf,HP,trivial⟩
theorem Xm:dA prog QB (bq 16 (aw f182)) (iq xB (opsOf (bq 16 (aw f182))) [(12,10)]):=
 eK rfl rfl (me (E:=xB) (rk hT) J8 iO (c:=(bq 16 (aw f182))) (id:=16) (by kernel_rfl))
theorem IQ:dQ prog xB:=cD (l:=Hh) ⟨Eu,uN,AI,A5,Ga,Mf,HP,trivial⟩
theorem W0:dA prog QB (bq 18 (aw f182)) (ot xB (opsOf (bq 18 (aw f182))) 2 [1]):=
 eK rfl rfl (yI (E:=xB) (rk hT) IQ iO (c:=(bq 18 (aw f182))) (id:=18) (by kernel_rfl))
theorem aaN:bj 182 Sv:=
 pP (E:=QB) (rk hT) abg iO (fn:=f182) (c:=(aw f182)) (by kernel_rfl) (by kernel_rfl) (by kernel_rfl) rfl (db [] (by kernel_rfl) trivial [(16,bq 16 (aw f182)),(18,bq 18 (aw f182))] (by kernel_rfl) ⟨tH rfl Xm,tH rfl W0,trivial⟩) fun x y h=>⟨y.1,fun _=>rfl,(t182 x).trans h⟩
def XZ(p0:S8×Int×Int×Int×Int×(List bA)×Int×Int×(List R3)×(List R3)×(List ch)×Unit)(p1:Int):Option (Unit×(Y9×Y1×Unit)):=(UX p0).bind fun y1=>cond (!y1.2.1.1) (some ((),(([],()),(1,()),()))) ((LM p1).bind fun y2=>cond (!y2.2.1.1) (some ((),(([],()),(1,()),()))) ((OD p0 p1).bind fun y3=>(Nu y3.2.1.1 16).bind fun y4=>cond (jx y4.2.1.1 [32]) ((Nu p0.2.2.1 16).bind fun y5=>let u1:=(uz y4.2.1.1 [32]);cond (jx u1 y5.2.1.1) (some ((),(((uz u1 y5.2.1.1),()),(0,()),()))) none) none))
def agB:=fU [dL [.str,af,af,af,af,bH,af,af,q3,q3,ck],aS [af]] [(false,[.str]),(false,[af])] fun x=>XZ x.1 x.2.1.1
theorem aaX:bj 183 agB:=fq (ac tQ (ac Eu (ac aaQ (ac Ga an)))) f183
def Wm(p0:S8×Int×Int×Int×Int×(List bA)×Int×Int×(List R3)×(List R3)×(List ch)×Unit)(p1:Int):Option Hr:=(UX p0).bind fun y1=>cond (!y1.2.1.1) (c8) ((LM p1).bind fun y2=>cond (!y2.2.1.1) (c8) ((Bp p0 p1).bind fun y3=>some ((),(y3.2.1,(0,()),()))))
def ahw:=fU [dL [.str,af,af,af,af,bH,af,af,q3,q3,ck],aS [af]] TJ fun x=>Wm x.1 x.2.1.1
theorem YO:bj 184 ahw:=fq (ac tQ (ac Eu (ac uN an))) f184
def g97(p0 p1:S8×Int×Int×Int×Int×(List bA)×Int×Int×(List R3)×(List R3)×(List ch)×Unit)(p2:Int×S8×S8×S8×S8×S8×Int×Int×Unit)(p3:Int):Option (Unit×(BW×BW×Y1×Y9×Unit)):=cond (aj p2.1 1) ((VT p0 p2.2.2.2.1 p2.2.2.2.2.2.2.1 p2.2.2.2.2.2.2.2.1 p3).bind fun y1=>some ((),(y1.2.1,p1,y1.2.2.1,([],()),()))) (cond (aj p2.1 2) ((Xa p0 p2.2.2.2.1 p2.2.2.2.2.2.2.1 p3).bind fun y1=>some ((),(y1.2.1,p1,y1.2.2.1,([],()),()))) (cond (aj p2.1 3) (let u1:=(Qp p0 p2.2.2.2.1 p2.2.2.2.2.2.2.1 (aj p2.1 4) p3);Option.bind u1 fun y1=>some ((),(y1.2.1,p1,y1.2.2.1,([],()),()))) (cond (aj p2.1 4) (let u1:=(Qp p0 p2.2.2.2.1 p2.2.2.2.2.2.2.1 (aj p2.1 4) p3);Option.bind u1 fun y1=>some ((),(y1.2.1,p1,y1.2.2.1,([],()),()))) (cond (aj p2.1 5) ((Wn p0 p2.2.2.2.1 p3).bind fun y1=>some ((),(y1.2.1,p1,y1.2.2.1,([],()),()))) (cond (aj p2.1 6) ((RK p0 p1 p2.2.2.2.1 p3).bind fun y1=>some ((),(y1.2.1,y1.2.2.1,y1.2.2.2.1,([],()),()))) (cond (aj p2.1 7) ((XZ p0 p3).bind fun y1=>some ((),(p0,p1,y1.2.2.1,y1.2.1,()))) ((Wm p0 p3).bind fun y1=>some ((),(y1.2.1,p1,y1.2.2.1,([],()),())))))))))
def s97:Su:=⟨[.c true [.str,af,af,af,af,bH,af,af,q3,q3,ck],.c true [.str,af,af,af,af,bH,af,af,q3,q3,ck],.c true [af,.str,.str,.str,.str,.str,af,af],.c false [af]],[(true,[.str,af,af,af,af,bH,af,af,q3,q3,ck]),(true,[.str,af,af,af,af,bH,af,af,q3,q3,ck]),(false,[af]),(false,[.str])],false,.inl fun x=>g97 x.1 x.2.1 x.2.2.1 x.2.2.2.1.1⟩
def adL:List SE:=[]
def ag4:Nat->Option (Lo adL)
 | _=>none
def V1:List Y0:=[(178,iS agU.ro),(179,iS af0.ro),(180,iS agG.ro),(181,iS afl.ro),(182,iS Sv.ro),(183,iS agB),(184,iS ahw.ro)]
def Xn:En:=xL 102 tt V1 adL ag4 [999999] fun _=>none
def akB:Nat->Option (St->Tr St)
 | 20=>some (hlT Xn (opsOf (bq 20 (aw f97))) [(4,2),(4,3)] 4 [1])
 | _=>none
def E97:En:=xL 102 tt V1 adL ag4 [999999] (akB)
theorem t97(x:PT s97.ps):(Ik E97 (aw f97) f97.results.toList s97.ps s97.rs false x).run=g97 x.1 x.2.1 x.2.2.1 x.2.2.2.1.1:=by kernel_rfl
theorem afx:dQ prog E97:=cD (l:=V1) ⟨(Ze.ro rfl rfl),(Yx.ro rfl rfl),(Zz.ro rfl rfl),(aax.ro rfl rfl),(aaN.ro rfl rfl),aaX,(YO.ro rfl rfl),trivial⟩
theorem NI:dQ prog Xn:=cD (l:=V1) ⟨(Ze.ro rfl rfl),(Yx.ro rfl rfl),(Zz.ro rfl rfl),(aax.ro rfl rfl),(aaN.ro rfl rfl),aaX,(YO.ro rfl rfl),trivial⟩
theorem acR:dA prog E97 (bq 20 (aw f97)) (hlT Xn (opsOf (bq 20 (aw f97))) [(4,2),(4,3)] 4 [1]):=
 eK rfl rfl (aaA (E:=Xn) (rk hT) NI iO (c:=(bq 20 (aw f97))) (id:=20) (by kernel_rfl))
theorem afq:bj 97 s97:=
 pP (E:=E97) (rk hT) afx iO (fn:=f97) (c:=(aw f97)) (by kernel_rfl) (by kernel_rfl) (by kernel_rfl) rfl (db [] (by kernel_rfl) trivial [(20,bq 20 (aw f97))] (by kernel_rfl) ⟨tH rfl acR,trivial⟩) fun x y h=>⟨y.1,fun _=>rfl,(t97 x).trans h⟩
def g53(p0:(List gr)×Unit)(p1:Int×S8×S8×S8×S8×S8×Int×Int×Unit)(p2:Int):Option (Unit×(Y5×Y1×Y9×Unit)):=(g44 p0).bind fun y1=>cond (!y1.2.1.1) (c13) ((Cj p1).bind fun y2=>cond (!y2.2.1.1) (c13) ((LM p2).bind fun y3=>cond (!y3.2.1.1) (c13) ((g51 p0 p1.2.1).bind fun y4=>cond (aj p1.1 6) ((g51 p0 p1.2.2.1).bind fun y5=>cond (cond (aE y4.2.1.1 0) true (aE y5.2.1.1 0)) (c14) (cond (aX y4.2.1.1 p0.1) (cond (aX y5.2.1.1 p0.1) (let u1:=(gt d94 p0.1 y4.2.1.1);(g97 u1 (gt d94 p0.1 y5.2.1.1) p1 p2).bind fun y6=>cond (!(aj y6.2.2.2.1.1 0)) (some ((),(([],()),y6.2.2.2.1,([],()),()))) (let u2:=(g41 p0);Option.bind u2 fun y7=>cond (!(aj y5.2.1.1 y4.2.1.1)) ((PC y6.2.2.1).bind fun y8=>cond (aX y5.2.1.1 y7.2.1.1) (let u3:=(PC y6.2.1);Option.bind u3 fun y9=>let u4:=(cZ y7.2.1.1 y5.2.1.1 y8.2.1);cond (aX y4.2.1.1 u4) (some ((),(((cZ u4 y4.2.1.1 y9.2.1),()),(0,()),y6.2.2.2.2.1,()))) none) none) (let u3:=(PC y6.2.1);Option.bind u3 fun y8=>cond (aX y4.2.1.1 y7.2.1.1) (some ((),(((cZ y7.2.1.1 y4.2.1.1 y8.2.1),()),(0,()),y6.2.2.2.2.1,()))) none))) none) none)) (cond (cond (aE y4.2.1.1 0) true (aE y4.2.1.1 0)) (c14) (cond (aX y4.2.1.1 p0.1) (cond (aX y4.2.1.1 p0.1) (let u1:=(gt d94 p0.1 y4.2.1.1);(g97 u1 u1 p1 p2).bind fun y5=>cond (!(aj y5.2.2.2.1.1 0)) (some ((),(([],()),y5.2.2.2.1,([],()),()))) (let u2:=(g41 p0);Option.bind u2 fun y6=>cond (!(aj y4.2.1.1 y4.2.1.1)) ((PC y5.2.2.1).bind fun y7=>cond (aX y4.2.1.1 y6.2.1.1) (let u3:=(PC y5.2.1);Option.bind u3 fun y8=>let u4:=(cZ y6.2.1.1 y4.2.1.1 y7.2.1);cond (aX y4.2.1.1 u4) (some ((),(((cZ u4 y4.2.1.1 y8.2.1),()),(0,()),y5.2.2.2.2.1,()))) none) none) (let u3:=(PC y5.2.1);Option.bind u3 fun y7=>cond (aX y4.2.1.1 y6.2.1.1) (let u4:=(cZ y6.2.1.1 y4.2.1.1 y7.2.1);some ((),((u4,()),(0,()),y5.2.2.2.2.1,()))) none))) none) none)))))
def s53:=fU [dL [jZ],dL [af,.str,.str,.str,.str,.str,af,af],aS [af]] [(true,[jZ]),(false,[af]),(false,[.str])] fun x=>g53 x.1 x.2.1 x.2.2.1.1
def abe:List SE:=[]
def af7:Nat->Option (Lo abe)
 | _=>none
def X2:List Y0:=[(77,iS s77),(41,iS s41),(45,iS s45),(44,iS s44),(95,iS s95),(51,iS s51),(97,iS s97)]
def Xz:En:=xL 90 tt X2 abe af7 [] fun _=>none
def akC:Nat->Option (St->Tr St)
 | 9=>some (iq Xz (opsOf (bq 9 (aw f53))) [(20,15),(20,16),(20,17)])
 | _=>none
def E53:En:=xL 90 tt X2 abe af7 [] (akC)
theorem t53(x:PT s53.ps):(Ik E53 (aw f53) f53.results.toList s53.ps s53.rs true x).run=g53 x.1 x.2.1 x.2.2.1.1:=by kernel_rfl
theorem afH:dQ prog E53:=cD (l:=X2) ⟨V6,MV,tQ,Qg,ace,QQ,afq,trivial⟩
theorem RE:dQ prog Xz:=cD (l:=X2) ⟨V6,MV,tQ,Qg,ace,QQ,afq,trivial⟩
theorem aeu:dA prog E53 (bq 9 (aw f53)) (iq Xz (opsOf (bq 9 (aw f53))) [(20,15),(20,16),(20,17)]):=
 eK rfl rfl (me (E:=Xz) (rk hT) RE iO (c:=(bq 9 (aw f53))) (id:=9) (by kernel_rfl))
theorem adP:bj 53 s53:=
 pP (E:=E53) (rk hT) afH iO (fn:=f53) (c:=(aw f53)) (by kernel_rfl) (by kernel_rfl) (by kernel_rfl) rfl (db [] (by kernel_rfl) trivial [(9,bq 9 (aw f53))] (by kernel_rfl) ⟨tH rfl aeu,trivial⟩) fun x y h=>⟨y.1,fun _=>rfl,(t53 x).trans h⟩
def g54(p0:List ch)(p1:S8×S8×(List R5)×Unit):Option (Unit×(Y6×Y2×Unit)):=(g98 p0).bind fun y1=>cond (bk 56 y1.2.1.1 [p1]) ((g98 (fE y1.2.1.1 [p1])).bind fun y2=>(g99 y2.2.1.1).bind fun y3=>cond (!y3.2.1.1) (some ((),(([],()),(false,()),()))) (some ((),(y2.2.1,(true,()),())))) none
def s54:=fU [aS [ck],dL [.str,.str,q5]] [(false,[ck]),(false,[.bool])] fun x=>g54 x.1.1 x.2.1
theorem abk:bj 54 s54:=fq (ac ag1 (ac aeZ an)) f54
def g15(p0:(List gr)×Unit)(p1:List R5)(p2:Int):Option (Unit×(Y5×Y4×Unit)):=(g41 p0).bind fun y1=>(N6 p1 0 4).bind fun y2=>(g43 p1).bind fun y3=>(g44 p0).bind fun y4=>cond (!y4.2.1.1) (some ((),(y1.2.1,([],()),()))) ((LM p2).bind fun y5=>cond (cond (!y5.2.1.1) true (aj y3.2.2.1.1 1)) (some ((),(y1.2.1,([],()),()))) ((g46 y2.2.1.1).bind fun y6=>cond (bF y6.2.1.1 []) (some ((),(y1.2.1,([],()),()))) (cond (!(aj y3.2.2.1.1 0)) ((g47 y2.2.1.1 1).bind fun y7=>(g48 y7.2.1).bind fun y8=>some ((),(y1.2.1,y8.2.1,()))) ((g49 y3.2.1).bind fun y7=>cond (!(aj y7.2.2.1.1 0)) ((YC y3.2.1 y7.2.2.1.1 [] []).bind fun y8=>some ((),(y1.2.1,y8.2.1,()))) ((g51 p0 y7.2.1.2.1).bind fun y8=>cond (aE y8.2.1.1 0) ((YC y3.2.1 3 [] []).bind fun y9=>some ((),(y1.2.1,y9.2.1,()))) (cond (aX y8.2.1.1 p0.1) ((g52 (gt d94 p0.1 y8.2.1.1).2.2.2.2.2.2.2.2.2.2.1 y7.2.1.2.2.2.2.1 y7.2.1.2.2.2.2.2.1).bind fun y9=>cond y9.2.2.1.1 (some ((),(y1.2.1,y9.2.1,()))) (cond (aX y8.2.1.1 p0.1) (cond (aj (ae (gt d94 p0.1 y8.2.1.1).2.2.2.2.2.2.2.2.2.2.1) 6) ((YC y3.2.1 10 [] []).bind fun iz=>some ((),(y1.2.1,iz.2.1,()))) ((g53 p0 y7.2.1 p2).bind fun iz=>cond (aj iz.2.2.1.1 0) (let u1:=(YC y3.2.1 iz.2.2.1.1 y7.2.1.2.2.2.1 iz.2.2.2.1.1);Option.bind u1 fun lq=>cond (aX y8.2.1.1 iz.2.1.1) (let u2:=(gt d94 iz.2.1.1 y8.2.1.1);(g54 u2.2.2.2.2.2.2.2.2.2.2.1 (y7.2.1.2.2.2.2.1,y7.2.1.2.2.2.2.2.1,lq.2.1.1,())).bind fun qS=>cond (aX y8.2.1.1 iz.2.1.1) (some ((),(((cZ iz.2.1.1 y8.2.1.1 (u2.1,u2.2.1,u2.2.2.1,u2.2.2.2.1,u2.2.2.2.2.1,u2.2.2.2.2.2.1,u2.2.2.2.2.2.2.1,u2.2.2.2.2.2.2.2.1,u2.2.2.2.2.2.2.2.2.1,u2.2.2.2.2.2.2.2.2.2.1,qS.2.1.1,())),()),lq.2.1,()))) none) none) (let u1:=(YC y3.2.1 iz.2.2.1.1 y7.2.1.2.2.2.1 iz.2.2.2.1.1);Option.bind u1 fun lq=>cond (aX y8.2.1.1 y1.2.1.1) (let u2:=(gt d94 y1.2.1.1 y8.2.1.1);(g54 u2.2.2.2.2.2.2.2.2.2.2.1 (y7.2.1.2.2.2.2.1,y7.2.1.2.2.2.2.2.1,lq.2.1.1,())).bind fun qS=>cond (aX y8.2.1.1 y1.2.1.1) (some ((),(((cZ y1.2.1.1 y8.2.1.1 (u2.1,u2.2.1,u2.2.2.1,u2.2.2.2.1,u2.2.2.2.2.1,u2.2.2.2.2.2.1,u2.2.2.2.2.2.2.1,u2.2.2.2.2.2.2.2.1,u2.2.2.2.2.2.2.2.2.1,u2.2.2.2.2.2.2.2.2.2.1,qS.2.1.1,())),()),lq.2.1,()))) none) none))) none)) none))))))
def s15:=fU [dL [jZ],aS [q5],aS [af]] [(true,[jZ]),(false,[q5])] fun x=>g15 x.1 x.2.1.1 x.2.2.1.1
def abw:List SE:=[]
def ag8:Nat->Option (Lo abw)
 | _=>none
def QM:List Y0:=[(41,iS s41),(45,iS s45),(42,iS s42),(43,iS s43),(44,iS s44),(46,iS s46),(47,iS s47),(48,iS s48),(49,iS s49),(50,iS s50),(51,iS s51),(52,iS s52),(53,iS s53),(54,iS s54)]
def FO:En:=xL 160 tt QM abw ag8 [] fun _=>none
def aj1:Nat->Option (St->Tr St)
 | 16=>some (iq FO (opsOf (bq 16 (aw f15))) [(14,13)])
 | 25=>some (iq FO (opsOf (bq 25 (aw f15))) [(21,18)])
 | _=>none
def E15:En:=xL 160 tt QM abw ag8 [] (aj1)
theorem t15(x:PT s15.ps):(Ik E15 (aw f15) f15.results.toList s15.ps s15.rs true x).run=g15 x.1 x.2.1.1 x.2.2.1.1:=by kernel_rfl
theorem aeK:dQ prog E15:=cD (l:=QM) ⟨MV,tQ,OC,abQ,Qg,RU,abi,Vl,ado,ade,QQ,acT,adP,abk,trivial⟩
theorem MQ:dQ prog FO:=cD (l:=QM) ⟨MV,tQ,OC,abQ,Qg,RU,abi,Vl,ado,ade,QQ,acT,adP,abk,trivial⟩
theorem ab3:dA prog E15 (bq 16 (aw f15)) (iq FO (opsOf (bq 16 (aw f15))) [(14,13)]):=
 eK rfl rfl (me (E:=FO) (rk hT) MQ iO (c:=(bq 16 (aw f15))) (id:=16) (by kernel_rfl))
theorem OL:dQ prog FO:=cD (l:=QM) ⟨MV,tQ,OC,abQ,Qg,RU,abi,Vl,ado,ade,QQ,acT,adP,abk,trivial⟩
theorem acO:dA prog E15 (bq 25 (aw f15)) (iq FO (opsOf (bq 25 (aw f15))) [(21,18)]):=
 eK rfl rfl (me (E:=FO) (rk hT) OL iO (c:=(bq 25 (aw f15))) (id:=25) (by kernel_rfl))
theorem aka:bj 15 s15:=
 pP (E:=E15) (rk hT) aeK iO (fn:=f15) (c:=(aw f15)) (by kernel_rfl) (by kernel_rfl) (by kernel_rfl) rfl (db [] (by kernel_rfl) trivial [(16,bq 16 (aw f15)),(25,bq 25 (aw f15))] (by kernel_rfl) ⟨tH rfl ab3,tH rfl acO,trivial⟩) fun x y h=>⟨y.1,fun _=>rfl,(t15 x).trans h⟩
def zy(t2:List R3)(t9:List rV)(t17:List xK)(t18 t19:Int)(b6 b8:(List gr)×Unit):Rd ((List R3)×(List rV)×(List xK)×Int×Int×Y5×Y5×Unit) Unit:=cond (aE t19 t18) (cond (aX t19 t17) (cond (aE t19 (ae t2)) (cond (aX t19 t2) (cond (aj (gt d3 t2 t19).1 1) (let u1:=(gt d62 t17 t19);(g71 b8 u1.1).bind fun y1=>(g15 y1.2.1 u1.2.1 u1.1).bind fun y2=>cond (bk 24 t9 [y2.2.2.1]) (let u2:=(ak .i64 t19 1);eA (t2,(fE t9 [y2.2.2.1]),t17,t18,u2,b6,y2.2.1,())) none) (let u1:=(gt d62 t17 t19);let u2:=(g15 b8 u1.2.1 u1.1);Option.bind u2 fun y1=>let u3:=(bk 24 t9 [y1.2.2.1]);cond u3 (let u4:=(ak .i64 t19 1);eA (t2,(fE t9 [y1.2.2.1]),t17,t18,u4,b6,y1.2.1,())) none)) none) (let u1:=(gt d62 t17 t19);let u2:=(g15 b8 u1.2.1 u1.1);Option.bind u2 fun y1=>let u3:=(bk 24 t9 [y1.2.2.1]);cond u3 (let u4:=(ak .i64 t19 1);eA (t2,(fE t9 [y1.2.2.1]),t17,t18,u4,b6,y1.2.1,())) none)) none) (eB (t2,t9,t17,t18,t19,b6,b8,()))
def aeX:=cu7 (aq (Az zy))
def g29(p0:(List gr)×Unit)(p1:List xK)(p2:List R3):Option (Unit×(Y5×((List rV)×Unit)×Unit)):=(g41 p0).bind fun y1=>(aeX p2 [] p1 (ae p1) 0 ([],()) y1.2.1).bind (Sum.elim (fun y2=>some ((),(y2.2.2.2.2.2.2.1,(y2.2.1,()),()))) (fun _=>none))
def s29:=fU [dL [jZ],aS [O0],aS [q3]] [(true,[jZ]),(false,[Lf])] fun x=>g29 x.1 x.2.1.1 x.2.2.1.1
theorem ajH:bj 29 s29:=fl (ac MV (ac ajb (ac aka an))) [] [(0,⟨[.d 2 q3,.own 9 Lf,.d 17 O0,.d 18 af,.d 19 af,.box 6 [(true,jZ)],.box 8 [(true,jZ)]],aq (Az zy)⟩)] [] f29 (lp [0] (sc dU sn))
def DW(p0:List bA):Option (Unit×Y7×Unit):=cond (bk 32 ([]:List bA) p0) (zR p0) none
def N8:=fU [aS [bH]] Wj fun x=>DW x.1.1
def acQ:En:=xL 8 tt [] [] (fun _=>none) [] fun _=>none
def aaZ(x:PT N8.ps):St:=⟨[(2,.v .nil),(0,.v (.d bH x.1.1))],[]⟩
theorem t197(x:PT N8.ps)(b:Bool):((da acQ (.seq (df (dZ (df (aw f197)))) (df (df (aw f197)))) (((aaZ x).ba 3 (.v (.d bH x.1.1),none)).ba 4 (.v (.d .bool b),none))).bind (Gi acQ f197.results.toList N8.ps N8.rs N8.fresh)).run =
 cond b (zR []) (DW x.1.1):=by kernel_rfl
theorem PE:bj 197 N8:=
 Jf (E:=acQ) (rk hT) (cD (l:=[]) trivial) iO (fn:=f197) (c0:=dZ (aw f197)) (cc:=df (dZ (df (aw f197)))) (c3:=df (df (aw f197))) (id:=K5 (dZ (dZ (df (aw f197)))))
  (o1:=pU (dZ (dZ (df (aw f197)))) 0) (o2:=pU (dZ (dZ (df (aw f197)))) 1) (by kernel_rfl) (by kernel_rfl) (by kernel_rfl) rfl
  (bP (fun _=>rfl) _ (by kernel_rfl)) (bP (fun _=>rfl) _ (by kernel_rfl)) (bP (fun _=>rfl) _ (by kernel_rfl)) (t0:=0) (t3:=3) (t4:=4) (ty:=89) (Yp:=89) (e:=192) (e':=192) (HV:=24) (fl:=[]) (ks:=ny) (by kernel_rfl) (by kernel_rfl) (by kernel_rfl) (by kernel_rfl) (by kernel_rfl) (by kernel_rfl) (by kernel_rfl) (by kernel_rfl) (by kernel_rfl)
  aaZ (fun x=>x.1.1) (fun x=>by kernel_rfl) (fun x=>by kernel_rfl) fun x y hy b hb=>by
   refine⟨y.1,fun _=>rfl,?_⟩
   rw[t197]
   have hy:DW x.1.1=some y:=hy
   cases b with
   | false=>exact hy
   | true=>
     have he:x.1.1=([]:List bA):=hb rfl
     rw[he]at hy
     exact hy
def MI(p0:List R3):Option (Unit×O5×Unit):=cond (bk 8 ([]:List R3) p0) (zR p0) none
def NB:=fU [aS [q3]] [(false,[q3])] fun x=>MI x.1.1
def adF:En:=xL 8 tt [] [] (fun _=>none) [] fun _=>none
def aab(x:PT NB.ps):St:=⟨[(2,.v .nil),(0,.v (.d q3 x.1.1))],[]⟩
theorem t247(x:PT NB.ps)(b:Bool):((da adF (.seq (df (dZ (df (aw f247)))) (df (df (aw f247)))) (((aab x).ba 3 (.v (.d q3 x.1.1),none)).ba 4 (.v (.d .bool b),none))).bind (Gi adF f247.results.toList NB.ps NB.rs NB.fresh)).run =
 cond b (zR []) (MI x.1.1):=by kernel_rfl
theorem ahy:bj 247 NB:=
 Jf (E:=adF) (rk hT) (cD (l:=[]) trivial) iO (fn:=f247) (c0:=dZ (aw f247)) (cc:=df (dZ (df (aw f247)))) (c3:=df (df (aw f247))) (id:=K5 (dZ (dZ (df (aw f247)))))
  (o1:=pU (dZ (dZ (df (aw f247)))) 0) (o2:=pU (dZ (dZ (df (aw f247)))) 1) (by kernel_rfl) (by kernel_rfl) (by kernel_rfl) rfl
  (bP (fun _=>rfl) _ (by kernel_rfl)) (bP (fun _=>rfl) _ (by kernel_rfl)) (bP (fun _=>rfl) _ (by kernel_rfl)) (t0:=0) (t3:=3) (t4:=4) (ty:=52) (Yp:=52) (e:=3) (e':=3) (HV:=24) (fl:=[]) (ks:=vo) (by kernel_rfl) (by kernel_rfl) (by kernel_rfl) (by kernel_rfl) (by kernel_rfl) (by kernel_rfl) (by kernel_rfl) (by kernel_rfl) (by kernel_rfl)
  aab (fun x=>x.1.1) (fun x=>by kernel_rfl) (fun x=>by kernel_rfl) fun x y hy b hb=>by
   refine⟨y.1,fun _=>rfl,?_⟩
   rw[t247]
   have hy:MI x.1.1=some y:=hy
   cases b with
   | false=>exact hy
   | true=>
     have he:x.1.1=([]:List R3):=hb rfl
     rw[he]at hy
     exact hy
def E4(p0:Int×Int×(List R3)×(List R3)×Unit):Option Y55:=(MI p0.2.2.1).bind fun y1=>(MI p0.2.2.2.1).bind fun y2=>some ((),((p0.1,p0.2.1,y1.2.1.1,y2.2.1.1,()),()))
def afC:=fU [dL [af,af,q3,q3]] w6R fun x=>E4 x.1
theorem KV:bj 198 afC:=fq (ac ahy an) f198
def J9(p0:List R5):Option (Unit×Y4×Unit):=cond (bk 1 ([]:List R5) p0) (zR p0) none
def Oy:=fU [aS [q5]] w8R fun x=>J9 x.1.1
def abh:En:=xL 8 tt [] [] (fun _=>none) [] fun _=>none
def YE(x:PT Oy.ps):St:=⟨[(2,.v .nil),(0,.v (.d q5 x.1.1))],[]⟩
theorem t128(x:PT Oy.ps)(b:Bool):((da abh (.seq (df (dZ (df (aw f128)))) (df (df (aw f128)))) (((YE x).ba 3 (.v (.d q5 x.1.1),none)).ba 4 (.v (.d .bool b),none))).bind (Gi abh f128.results.toList Oy.ps Oy.rs Oy.fresh)).run =
 cond b (zR []) (J9 x.1.1):=by kernel_rfl
theorem ZD:bj 128 Oy:=
 Jf (E:=abh) (rk hT) (cD (l:=[]) trivial) iO (fn:=f128) (c0:=dZ (aw f128)) (cc:=df (dZ (df (aw f128)))) (c3:=df (df (aw f128))) (id:=K5 (dZ (dZ (df (aw f128)))))
  (o1:=pU (dZ (dZ (df (aw f128)))) 0) (o2:=pU (dZ (dZ (df (aw f128)))) 1) (by kernel_rfl) (by kernel_rfl) (by kernel_rfl) rfl
  (bP (fun _=>rfl) _ (by kernel_rfl)) (bP (fun _=>rfl) _ (by kernel_rfl)) (bP (fun _=>rfl) _ (by kernel_rfl)) (t0:=0) (t3:=3) (t4:=4) (ty:=38) (Yp:=38) (e:=5) (e':=5) (HV:=24) (fl:=[]) (ks:=xN) (by kernel_rfl) (by kernel_rfl) (by kernel_rfl) (by kernel_rfl) (by kernel_rfl) (by kernel_rfl) (by kernel_rfl) (by kernel_rfl) (by kernel_rfl)
  YE (fun x=>x.1.1) (fun x=>by kernel_rfl) (fun x=>by kernel_rfl) fun x y hy b hb=>by
   refine⟨y.1,fun _=>rfl,?_⟩
   rw[t128]
   have hy:J9 x.1.1=some y:=hy
   cases b with
   | false=>exact hy
   | true=>
     have he:x.1.1=([]:List R5):=hb rfl
     rw[he]at hy
     exact hy
def um(t3 t7:List ch)(t8 t9:Int):Rd Y35 Unit:=cond (aE t9 t8) (cond (aX t9 t7) (let u1:=(gt d100 t7 t9);(J9 u1.2.2.1).bind fun y1=>cond (bk 56 t3 [(u1.1,u1.2.1,y1.2.1.1,())]) (eA ((fE t3 [(u1.1,u1.2.1,y1.2.1.1,())]),t7,t8,(ak .i64 t9 1),())) none) none) (eB (t3,t7,t8,t9,()))
def SL:=rA (aq (ep um))
def No(p0:List ch):Option Y30:=(SL [] p0 (ae p0) 0).bind (Sum.elim (fun y1=>zR y1.1) (fun _=>none))
def aiS:=fU [aS [ck]] [(false,[ck])] fun x=>No x.1.1
theorem aaM:bj 136 aiS:=fl (ac ZD an) [] [(0,⟨[.own 3 ck,.d 7 ck,.d 8 af,.d 9 af],aq (ep um)⟩)] [] f136 (lp [0] (sc dU sn))
def Sw(p0:S8×Int×Int×Int×Int×(List bA)×Int×Int×(List R3)×(List R3)×(List ch)×Unit):Option Y72:=(DW p0.2.2.2.2.2.1).bind fun y1=>(E4 (p0.2.2.2.2.2.2.1,p0.2.2.2.2.2.2.2.1,p0.2.2.2.2.2.2.2.2.1,p0.2.2.2.2.2.2.2.2.2.1,())).bind fun y2=>(No p0.2.2.2.2.2.2.2.2.2.2.1).bind fun y3=>some ((),((p0.1,p0.2.1,p0.2.2.1,p0.2.2.2.1,p0.2.2.2.2.1,y1.2.1.1,y2.2.1.1,y2.2.1.2.1,y2.2.1.2.2.1,y2.2.1.2.2.2.1,y3.2.1.1,()),()))
def ajZ:=fU [dL [.str,af,af,af,af,bH,af,af,q3,q3,ck]] w9R fun x=>Sw x.1
theorem Za:bj 106 ajZ:=fq (ac PE (ac KV (ac aaM an))) f106
def tY(_:Unit)(t10:List gr)(t11 t12:Int)(b4 b5:(List gr)×Unit):Rd (Unit×(List gr)×Int×Int×Y5×Y5×Unit) Unit:=cond (aE t12 t11) (cond (aX t12 t10) ((Sw (gt d94 t10 t12)).bind fun y1=>cond (bk 160 b5.1 [y1.2.1]) (eA ((),t10,t11,(ak .i64 t12 1),b4,((fE b5.1 [y1.2.1]),()),())) none) none) (eB ((),t10,t11,t12,b4,b5,()))
def QH:=cu6 (aq (Fo tY))
def adG(p0:(List gr)×Unit):Option Y29:=(QH () p0.1 (ae p0.1) 0 ([],()) ([],())).bind (Sum.elim (fun y1=>some ((),(y1.2.2.2.2.2.1,()))) (fun _=>none))
def aju:=fU [dL [jZ],.fn 106 []] w7R fun x=>adG x.1
theorem afS:bj 105 aju:=fl (ac Za an) [] [(0,⟨[.fn 1 106 [],.d 10 jZ,.d 11 af,.d 12 af,.box 4 [(true,jZ)],.box 5 [(true,jZ)]],aq (Fo tY)⟩)] [] f105 (lp [0] (sc dU sn))
def J6(p0:(List gr)×Unit):Option Y29:=(adG p0).bind fun y1=>some ((),(y1.2.1,()))
def s58:=fU [dL [jZ]] w7R fun x=>J6 x.1
theorem Iy:bj 58 s58:=fq (ac afS an) f58
def r9(t0:S8)(t5 t6:Int):Rd Y23 Y2:=cond (aE t6 t5) (cond (aX t6 t0) (let u1:=(fh t0 t6);cond (aE u1 48) (eC (false,())) (cond (aX t6 t0) (cond (aE 57 u1) (eC (false,())) (eA (t0,t5,(ak .i64 t6 1),()))) none)) none) (eB (t0,t5,t6,()))
def SY:=pk (aq (fJ r9))
def xa(p0:S8):Option iG:=(SY p0 (ae p0) 0).bind (Sum.elim (fun y1=>zR (!(bF y1.1 []))) (fun y1=>some ((),(y1,()))))
def ais:=fU [aS [.str]] iN fun x=>xa x.1.1
theorem A1:bj 108 ais:=fl an [.d 2 .bool] [(0,⟨[.d 0 .str,.d 5 af,.d 6 af],aq (fJ r9)⟩)] [] f108 (lp [0] (sc dU sn))
def xd(t0:S8)(t3:Int)(t4:Bool)(t5:Int):Rd (S8×Int×Bool×Int×Unit) Unit:=cond (cl 0 t5) (cond (aX t5 t0) (cond t4 (let u1:=(dC .i64 (bf .u8 (fh t0 t5) 48));let u2:=(yj .i64 u1 2);cond (aE 9 u2) (let u3:=(bf .i64 t5 1);eA (t0,(ak .i64 t3 (bf .i64 u2 9)),(!t4),u3,())) (let u3:=(bf .i64 t5 1);eA (t0,(ak .i64 t3 u2),(!t4),u3,()))) (let u1:=(dC .i64 (bf .u8 (fh t0 t5) 48));let u2:=(bf .i64 t5 1);eA (t0,(ak .i64 t3 u1),(!t4),u2,()))) none) (eB (t0,t3,t4,t5,()))
def Rs:=rA (aq (ep xd))
def Vt(p0:S8):Option iP:=(xa p0).bind fun y1=>cond (!y1.2.1.1) (c2) ((Rs p0 0 true (bf .i64 (ae p0) 1)).bind (Sum.elim (fun y2=>zR (eH (bf .i64 10 (eH y2.2.1 10)) 10)) (fun _=>none)))
def akl:=fU [aS [.str]] jd fun x=>Vt x.1.1
theorem ae8:bj 275 akl:=fl (ac A1 an) [] [(0,⟨[.d 0 .str,.d 3 af,.d 4 .bool,.d 5 af],aq (ep xd)⟩)] [] f275 (lp [0] (sc dU sn))
def VJ(p0:S8):Option iG:=let u1:=(bf .i64 (ae p0) 1);cond (cl 1 u1) ((xa p0).bind fun y1=>cond y1.2.1.1 (cond (eY 0 u1 p0) ((Vt (sub p0 0 u1)).bind fun y2=>cond (aX u1 p0) (zR (aj y2.2.1.1 (dC .i64 (bf .u8 (fh p0 u1) 48)))) none) none) (c0)) (c0)
def alg:=fU [aS [.str]] iN fun x=>VJ x.1.1
theorem ahn:bj 244 alg:=fq (ac A1 (ac ae8 an)) f244
def xg(p0:S8):Option iG:=cond (cl (ae p0) 19) ((VJ p0).bind fun y1=>some ((),(y1.2.1,()))) (c0)
def ajJ:=fU [aS [.str]] iN fun x=>xg x.1.1
theorem Zf:bj 191 ajJ:=fq (ac ahn an) f191
def iZ(p0 p1 p2:Int):Option iG:=zR (cond (cl p1 p0) (cl p0 p2) false)
def akR:=fU [aS [af],aS [af],aS [af]] iN fun x=>iZ x.1.1 x.2.1.1 x.2.2.1.1
theorem ke:bj 104 akR:=fq an f104
def Pq(p0:Int):Option iG:=(iZ p0 0 4611686018427387904).bind fun y1=>some ((),(y1.2.1,()))
def aeQ:=fU [aS [af]] iN fun x=>Pq x.1.1
theorem LB:bj 192 aeQ:=fq (ac ke an) f192
def sE(t0:S8)(t5 t6:Int):Rd Y23 Y2:=cond (aE t6 t5) (cond (aX t6 t0) (let u1:=(fh t0 t6);cond (aE u1 48) (cond (aX t6 t0) (cond (aE u1 97) (eC (false,())) (cond (aX t6 t0) (cond (aE 122 u1) (eC (false,())) (eA (t0,t5,(ak .i64 t6 1),()))) none)) none) (cond (aX t6 t0) (cond (aE 57 u1) (cond (aX t6 t0) (cond (aE u1 97) (eC (false,())) (cond (aX t6 t0) (cond (aE 122 u1) (eC (false,())) (eA (t0,t5,(ak .i64 t6 1),()))) none)) none) (eA (t0,t5,(ak .i64 t6 1),()))) none)) none) (eB (t0,t5,t6,()))
def Rn:=pk (aq (fJ sE))
def HF(p0:S8):Option iG:=(Rn p0 (ae p0) 0).bind (Sum.elim (fun y1=>(iZ (ae y1.1) 1 6).bind fun y2=>some ((),(y2.2.1,()))) (fun y1=>some ((),(y1,()))))
def ahI:=fU [aS [.str]] iN fun x=>HF x.1.1
theorem Ac:bj 204 ahI:=fl (ac ke an) [.d 2 .bool] [(0,⟨[.d 0 .str,.d 5 af,.d 6 af],aq (fJ sE)⟩)] [] f204 (lp [0] (sc dU sn))
def M8(p0:Int):Option iG:=(iZ p0 0 1000000000).bind fun y1=>some ((),(y1.2.1,()))
def s57:=fU [aS [af]] iN fun x=>M8 x.1.1
theorem sP:bj 57 s57:=fq (ac ke an) f57
def V2(p0:S8×Int×Int×Unit):Option iG:=(HF p0.1).bind fun y1=>cond y1.2.1.1 ((iZ p0.2.1 1 9007199254740992).bind fun y2=>cond y2.2.1.1 ((M8 p0.2.2.1).bind fun y3=>some ((),(y3.2.1,()))) (c0)) (c0)
def ak5:=fU [dL [.str,af,af]] iN fun x=>V2 x.1
theorem afQ:bj 245 ak5:=fq (ac ke (ac Ac (ac sP an))) f245
def uq(t0 t5:List bA)(t6 t7:Int):Rd ((List bA)×(List bA)×Int×Int×Unit) Y2:=cond (aE t7 t6) (cond (aX t7 t5) (let u1:=(gt d192 t5 t7);(V2 u1).bind fun y1=>cond (!y1.2.1.1) (eC (false,())) (cond (aE 0 t7) (let u2:=(bf .i64 t7 1);cond (aX u2 t0) (cond (leS u1.1 (gt d192 t0 u2).1) (eC (false,())) (eA (t0,t5,t6,(ak .i64 t7 1),()))) none) (eA (t0,t5,t6,(ak .i64 t7 1),())))) none) (eB (t0,t5,t6,t7,()))
def R8:=rA (aq (ep uq))
def NO(p0:List bA):Option iG:=(R8 p0 p0 (ae p0) 0).bind (Sum.elim (fun y1=>zR (cl (ae y1.1) 4)) (fun y1=>some ((),(y1,()))))
def aiL:=fU [aS [bH]] iN fun x=>NO x.1.1
theorem ZR:bj 193 aiL:=fl (ac afQ an) [.d 2 .bool] [(0,⟨[.d 0 bH,.d 5 bH,.d 6 af,.d 7 af],aq (ep uq)⟩)] [] f193 (lp [0] (sc dU sn))
def XO(p1:Int):Option Y25:=cond (aE p1 0) (none) (let u1:=(bf .i64 p1 (bf .i64 0 0));cond (aE 0 u1) (cond (ahq 0 0) (cond (mzB 8 u1) (let u2:=(xh d3 u1);cond (eY 0 0 u2) (zR (Wy u2 0)) none) none) none) (zR []))
def ajc:=fU [.nil,aS [af]] [(false,[q3])] fun x=>XO x.1.1
theorem afX:bj 276 ajc:=fq an f276
def wO(t0:List O5)(t3:Int)(t9:List O5)(t10 t11:Int):Rd ((List O5)×Int×(List O5)×Int×Int×Unit) Unit:=cond (aE t11 t10) (cond (aX t11 t9) (let u1:=(ak .i64 t3 (ae (gt d52 t9 t11).1));cond (aE u1 0) (none) (eA (t0,u1,t9,t10,(ak .i64 t11 1),()))) none) (eB (t0,t3,t9,t10,t11,()))
def JB:=O6 (aq (pY wO))
def wm(t6:List R3)(t25:List O5)(t26 t27:Int):Rd ((List R3)×(List O5)×Int×Int×Unit) Unit:=cond (aE t27 t26) (cond (aX t27 t25) (cond (bk 8 t6 (gt d52 t25 t27).1) (eA ((fE t6 (gt d52 t25 t27).1),t25,t26,(ak .i64 t27 1),())) none) none) (eB (t6,t25,t26,t27,()))
def Jl:=rA (aq (ep wm))
def W4(p0:List O5):Option Y25:=(JB p0 0 p0 (ae p0) 0).bind (Sum.elim (fun y1=>(XO y1.2.1).bind fun y2=>(Jl y2.2.1.1 y1.1 (ae y1.1) 0).bind (Sum.elim (fun y3=>zR y3.1) (fun _=>none))) (fun _=>none))
def aky:=fU [aS [.sl 52 Ti]] [(false,[q3])] fun x=>W4 x.1.1
theorem ag7:bj 246 aky:=fl (ac afX an) [] [(0,⟨[.d 0 (.sl 52 Ti),.d 3 af,.d 9 (.sl 52 Ti),.d 10 af,.d 11 af],aq (pY wO)⟩),(2,⟨[.own 6 q3,.d 25 (.sl 52 Ti),.d 26 af,.d 27 af],aq (ep wm)⟩)] [] f246 (lp [0,2] (sc dU (sc dU sn)))
def tz(t3:Int)(t14:List R3)(t15 t16:Int)(b1:Int×Int×(List R3)×(List R3)×Unit):Rd (Int×(List R3)×Int×Int×Y33×Unit) Y2:=cond (aE t16 t15) (cond (aX t16 t14) ((Pq (gt d3 t14 t16).1).bind fun y1=>cond (!y1.2.1.1) (eC (false,())) (eA (t3,t14,t15,(ak .i64 t16 1),b1,()))) none) (eB (t3,t14,t15,t16,b1,()))
def RI:=O6 (aq (pY tz))
def E3(p0:Int×Int×(List R3)×(List R3)×Unit):Option iG:=(W4 [(p0.2.2.1,()),(p0.2.2.2.1,())]).bind fun y1=>(RI (ae p0.2.2.1) y1.2.1.1 (ae y1.2.1.1) 0 p0).bind (Sum.elim (fun y2=>(iZ y2.2.2.2.2.1.1 1 1000).bind fun y3=>cond y3.2.1.1 ((iZ y2.1 1 8).bind fun y4=>cond (cond y4.2.1.1 (aj (ae y2.2.2.2.2.1.2.2.2.1) y2.1) false) ((M8 y2.2.2.2.2.1.2.1).bind fun y5=>some ((),(y5.2.1,()))) (c0)) (c0)) (fun y2=>some ((),(y2,()))))
def afW:=fU [dL [af,af,q3,q3]] iN fun x=>E3 x.1
theorem C0:bj 194 afW:=fl (ac ke (ac LB (ac sP (ac ag7 an)))) [.d 2 .bool] [(0,⟨[.d 3 af,.own 14 q3,.d 15 af,.d 16 af,.box 1 [(false,.int .i64),(false,.int .i64),(false,q3),(false,q3)]],aq (pY tz)⟩)] [] f194 (lp [0] (sc dU sn))
def yi(p0:S8)(p1:Int):Option iG:=(xa p0).bind fun y1=>zR (cond y1.2.1.1 (aj (ae p0) p1) false)
def akT:=fU [aS [.str],aS [af]] iN fun x=>yi x.1.1 x.2.1.1
theorem K9:bj 109 akT:=fq (ac A1 an) f109
def VC(p0:S8×S8×(List R5)×Unit):Option iG:=(yi p0.1 6).bind fun y1=>cond y1.2.1.1 ((yi p0.2.1 4).bind fun y2=>cond y2.2.1.1 ((iZ (ae p0.2.2.1) 1 200).bind fun y3=>some ((),(y3.2.1,()))) (c0)) (c0)
def ajh:=fU [dL [.str,.str,q5]] iN fun x=>VC x.1
theorem agy:bj 218 ajh:=fq (ac ke (ac K9 an)) f218
def aco(p0:S8×S8×(List R5)×Unit)(p1 p2:S8×Unit):Option iG:=zR (cond (bF p0.1 p1.1) (bF p0.2.1 p2.1) false)
def aj0:=fU [dL [.str,.str,q5],.pt [.str],.pt [.str]] iN fun x=>aco x.1 x.2.1 x.2.2.1
theorem af3:bj 208 aj0:=fq an f208
def sy(t0:List ch)(f1:Y9×Y9×Unit)(t7 t8:Int):Rd ((List ch)×(Y9×Y9×Unit)×Int×Int×Unit) Y1:=cond (aE t8 t7) (cond (aX t8 t0) ((aco (gt d100 t0 t8) f1.1 f1.2.1).bind fun y1=>cond y1.2.1.1 (eC (t8,())) (eA (t0,f1,t7,(ak .i64 t8 1),()))) none) (eB (t0,f1,t7,t8,()))
def Qq:=rA (aq (ep sy))
def adN(p0:List ch)(c1_0 c1_1:S8×Unit):Option iP:=(Qq p0 (c1_0,c1_1,()) (ae p0) 0).bind (Sum.elim (fun _=>c2) (fun y1=>some ((),(y1,()))))
def aku:=fU [aS [ck],.fn 208 [.p [.str],.p [.str]]] jd fun x=>adN x.1.1 x.2.1.1 x.2.1.2.1
theorem afj:bj 207 aku:=fl (ac af3 an) [.d 4 af] [(0,⟨[.d 0 ck,.fn 1 208 [.p [.str],.p [.str]],.d 7 af,.d 8 af],aq (ep sy)⟩)] [] f207 (lp [0] (sc dU sn))
def PR(p0:List ch)(p1 p2:S8):Option iP:=(adN p0 (p1,()) (p2,())).bind fun y1=>some ((),(y1.2.1,()))
def aiY:=fU [aS [ck],aS [.str],aS [.str]] jd fun x=>PR x.1.1 x.2.1.1 x.2.2.1.1
theorem aaJ:bj 127 aiY:=fq (ac afj an) f127
def tM(t0 t5:List ch)(t6 t7:Int):Rd Y35 Y2:=cond (aE t7 t6) (cond (aX t7 t5) (let u1:=(gt d100 t5 t7);(VC u1).bind fun y1=>cond (!y1.2.1.1) (eC (false,())) ((PR t0 u1.1 u1.2.1).bind fun y2=>cond (!(aj y2.2.1.1 t7)) (eC (false,())) (eA (t0,t5,t6,(ak .i64 t7 1),())))) none) (eB (t0,t5,t6,t7,()))
def QN:=rA (aq (ep tM))
def S2(p0:List ch):Option iG:=(QN p0 p0 (ae p0) 0).bind (Sum.elim (fun y1=>zR (cl (ae y1.1) 6)) (fun y1=>some ((),(y1,()))))
def akE:=fU [aS [ck]] iN fun x=>S2 x.1.1
theorem aaj:bj 138 akE:=fl (ac agy (ac aaJ an)) [.d 2 .bool] [(0,⟨[.d 0 ck,.d 5 ck,.d 6 af,.d 7 af],aq (ep tM)⟩)] [] f138 (lp [0] (sc dU sn))
def B6(p0 p1:Int):Option iP:=let u1:=(Jd 0 (UT p1 4611686018427387904));let u2:=(Jd 0 (UT p0 4611686018427387904));cond (aE (bf .i64 4611686018427387904 u1) u2) (c28) (zR (ak .i64 u2 u1))
def agX:=fU [aS [af],aS [af]] jd fun x=>B6 x.1.1 x.2.1.1
theorem Dl:bj 195 agX:=fq an f195
def so(t3:Int)(t6:List bA)(t7 t8:Int):Rd (Int×(List bA)×Int×Int×Unit) Unit:=cond (aE t8 t7) (cond (aX t8 t6) ((B6 t3 (gt d192 t6 t8).2.1).bind fun y1=>eA (y1.2.1.1,t6,t7,(ak .i64 t8 1),())) none) (eB (t3,t6,t7,t8,()))
def TR:=rA (aq (ep so))
def TY(p0:List bA):Option iP:=(TR 0 p0 (ae p0) 0).bind (Sum.elim (fun y1=>zR y1.1) (fun _=>none))
def ake:=fU [aS [bH]] jd fun x=>TY x.1.1
theorem aaL:bj 196 ake:=fl (ac Dl an) [] [(0,⟨[.d 3 af,.d 6 bH,.d 7 af,.d 8 af],aq (ep so)⟩)] [] f196 (lp [0] (sc dU sn))
def IZ(p0:S8×Int×Int×Int×Int×(List bA)×Int×Int×(List R3)×(List R3)×(List ch)×Unit):Option iG:=(xg p0.1).bind fun y1=>cond y1.2.1.1 ((iZ p0.2.1 0 9007199254740992).bind fun y2=>cond y2.2.1.1 ((iZ p0.2.2.2.1 0 1000).bind fun y3=>cond y3.2.1.1 ((iZ p0.2.2.2.2.1 0 9007199254740992).bind fun y4=>cond y4.2.1.1 ((Pq p0.2.2.1).bind fun y5=>cond y5.2.1.1 ((NO p0.2.2.2.2.2.1).bind fun y6=>cond y6.2.1.1 ((E3 (p0.2.2.2.2.2.2.1,p0.2.2.2.2.2.2.2.1,p0.2.2.2.2.2.2.2.2.1,p0.2.2.2.2.2.2.2.2.2.1,())).bind fun y7=>cond y7.2.1.1 ((S2 p0.2.2.2.2.2.2.2.2.2.2.1).bind fun y8=>cond y8.2.1.1 ((TY p0.2.2.2.2.2.1).bind fun y9=>(B6 p0.2.2.1 y9.2.1.1).bind fun iz=>zR (cl iz.2.1.1 p0.2.1)) (c0)) (c0)) (c0)) (c0)) (c0)) (c0)) (c0)) (c0)
def ajt:=fU [dL [.str,af,af,af,af,bH,af,af,q3,q3,ck]] iN fun x=>IZ x.1
theorem K6:bj 103 ajt:=fq (ac Zf (ac ke (ac LB (ac ZR (ac C0 (ac aaj (ac Dl (ac aaL an)))))))) f103
def Vr(p0:S8×Int×Int×Unit)(p1:Int):Option iG:=zR (aE p1 p0.2.2.1)
def ala:=fU [dL [.str,af,af],aS [af]] iN fun x=>Vr x.1 x.2.1.1
theorem ahk:bj 268 ala:=fq an f268
def Tq(p0:S8×Int×Int×Unit)(p1:Int×Unit):Option iG:=(Vr p0 p1.1).bind fun y1=>zR (!y1.2.1.1)
def agT:=fU [dL [.str,af,af],.pt [af]] iN fun x=>Tq x.1 x.2.1
theorem Y3:bj 267 agT:=fq (ac ahk an) f267
def tO(t0:List bA)(f1:Y1×Unit)(t7 t8:Int):Rd ((List bA)×Y8×Int×Int×Unit) Y1:=cond (aE t8 t7) (cond (aX t8 t0) ((Tq (gt d192 t0 t8) f1.1).bind fun y1=>cond y1.2.1.1 (eC (t8,())) (eA (t0,f1,t7,(ak .i64 t8 1),()))) none) (eB (t0,f1,t7,t8,()))
def TD:=rA (aq (ep tO))
def XM(p0:List bA)(c1_0:Int×Unit):Option iP:=(TD p0 (c1_0,()) (ae p0) 0).bind (Sum.elim (fun _=>c2) (fun y1=>some ((),(y1,()))))
def ae2:=fU [aS [bH],.fn 267 [.p [af]]] jd fun x=>XM x.1.1 x.2.1.1
theorem agH:bj 256 ae2:=fl (ac Y3 an) [.d 4 af] [(0,⟨[.d 0 bH,.fn 1 267 [.p [af]],.d 7 af,.d 8 af],aq (ep tO)⟩)] [] f256 (lp [0] (sc dU sn))
def qj(t0:List bA)(f1:Y1×Unit)(t5 t6:Int):Rd ((List bA)×Y8×Int×Int×Unit) Unit:=cond (aE t6 (ae t0)) (cond (aX t6 t0) (let u1:=(gt d192 t0 t6);(Tq u1 f1.1).bind fun y1=>cond (!y1.2.1.1) (cond (aX t5 t0) (let u2:=(gt d192 t0 t5);let u3:=(cZ t0 t5 (u1.1,u2.2.1,u2.2.2.1,()));let u4:=(gt d192 u3 t5);let u5:=(cZ u3 t5 (u4.1,u1.2.1,u4.2.2.1,()));let u6:=(gt d192 u5 t5);let u7:=(ak .i64 t6 1);eA ((cZ u5 t5 (u6.1,u6.2.1,u1.2.2.1,())),f1,(ak .i64 t5 1),u7,())) none) (let u2:=(ak .i64 t6 1);eA (t0,f1,t5,u2,()))) none) (eB (t0,f1,t5,t6,()))
def EK:=rA (aq (ep qj))
def TH(p0:List bA)(c1_0:Int×Unit):Option Y31:=(XM p0 c1_0).bind fun y1=>cond (aj y1.2.1.1 (-1)) (zR p0) ((EK p0 (c1_0,()) y1.2.1.1 (ak .i64 y1.2.1.1 1)).bind (Sum.elim (fun y2=>cond (eY y2.2.2.1 (ae y2.1) y2.1) (let u1:=(nI d192 y2.1 y2.2.2.1);cond (eY 0 y2.2.2.1 u1) (zR (Wy u1 y2.2.2.1)) none) none) (fun _=>none)))
def WU:=fU [.mv bH,.fn 267 [.p [af]]] Wj fun x=>TH x.1 x.2.1.1
def vj:List SE:=[.own 0 bH,.fn 1 267 [.p [af]],.d 5 af,.d 6 af]
def Zo:List SE:=[]
def aha:Nat->Option (Lo Zo)
 | 0=>some ⟨vj,ep EK⟩
 | _=>none
def aaf:List Y0:=[(267,iS agT),(256,iS ae2)]
def aep:Nat->Option (St->Tr St)
 | 11=>some (wM 36 37 38 0 5 ny)
 | _=>none
def J1:En:=xL 42 tt aaf Zo aha [] (aep)
theorem adl(x:fg vj):(nE J1 0 vj (kI 0 (aw f262)) x).run=ep qj x:=by kernel_rfl
theorem t262(x:PT WU.ps):(Ik J1 (aw f262) f262.results.toList WU.ps WU.rs true x).run=TH x.1 x.2.1.1:=by kernel_rfl
theorem SX:dQ prog J1:=cD (l:=aaf) ⟨Y3,agH,trivial⟩
theorem VB:dA prog J1 (bq 11 (aw f262)) (wM 36 37 38 0 5 ny):=
 CR (E:=J1) (rk hT) (rid:=11) (ta:=36) (tb:=37) (tc:=38) (t0:=0) (tI:=5) (ty:=89) (o1:=pU (bq 11 (aw f262)) 0) (o2:=pU (bq 11 (aw f262)) 1) (o3:=pU (bq 11 (aw f262)) 2) (o4:=pU (bq 11 (aw f262)) 3) (c:=QX (pU (bq 11 (aw f262)) 3)) (te:=⟨true,ny,0,32,[(0,9),(1,3),(2,3)]⟩)
  (by kernel_rfl) (by kernel_rfl) (by kernel_rfl) (by kernel_rfl) (by kernel_rfl) (by kernel_rfl) (by kernel_rfl) (by kernel_rfl) (by kernel_rfl) (by kernel_rfl) (by kernel_rfl) (by kernel_rfl) (by kernel_rfl) (by kernel_rfl) (by kernel_rfl) (by kernel_rfl) (by kernel_rfl) (by kernel_rfl) (by kernel_rfl) (by kernel_rfl) (by kernel_rfl)
theorem acM:kl prog J1 0 (.loop (kI 0 (aw f262))) ⟨vj,ep EK⟩:=
 EL (rk hT) SX iO (step:=fun(x:fg vj)=>qj x.1 x.2.1 x.2.2.1 x.2.2.2.1) adl (db [] (by kernel_rfl) trivial [] (by kernel_rfl) trivial)
theorem ahp:bj 262 WU:=
 pP (E:=J1) (rk hT) SX iO (fn:=f262) (c:=(aw f262)) (by kernel_rfl) (by kernel_rfl) (by kernel_rfl) rfl (db [(0,.loop (kI 0 (aw f262)))] (by kernel_rfl) ⟨WA rfl acM,trivial⟩ [(11,bq 11 (aw f262))] (by kernel_rfl) ⟨tH rfl VB,trivial⟩) fun x y h=>⟨y.1,fun _=>rfl,(t262 x).trans h⟩
def Sd(p0:List bA)(p1:Int):Option Y31:=(DW p0).bind fun y1=>(TH y1.2.1.1 (p1,())).bind fun y2=>some ((),(y2.2.1,()))
def akM:=fU [aS [bH],aS [af]] Wj fun x=>Sd x.1.1 x.2.1.1
theorem ZB:bj 220 akM:=fq (ac PE (ac ahp an)) f220
def Sr(p0:S8×Int×Int×Int×Int×(List bA)×Int×Int×(List R3)×(List R3)×(List ch)×Unit)(p1:Int):Option Y72:=(Sw p0).bind fun y1=>(IZ p0).bind fun y2=>cond y2.2.1.1 ((M8 p1).bind fun y3=>cond y3.2.1.1 ((Sd p0.2.2.2.2.2.1 p1).bind fun y4=>some ((),((y1.2.1.1,y1.2.1.2.1,y1.2.1.2.2.1,y1.2.1.2.2.2.1,y1.2.1.2.2.2.2.1,y4.2.1.1,y1.2.1.2.2.2.2.2.2.1,y1.2.1.2.2.2.2.2.2.2.1,y1.2.1.2.2.2.2.2.2.2.2.1,y1.2.1.2.2.2.2.2.2.2.2.2.1,y1.2.1.2.2.2.2.2.2.2.2.2.2.1,()),()))) (some ((),(y1.2.1,())))) (some ((),(y1.2.1,())))
def akO:=fU [dL [.str,af,af,af,af,bH,af,af,q3,q3,ck],aS [af]] w9R fun x=>Sr x.1 x.2.1.1
theorem Zt:bj 147 akO:=fq (ac Za (ac sP (ac K6 (ac ZB an)))) f147
def acj(p0:S8×Int×Int×Int×Int×(List bA)×Int×Int×(List R3)×(List R3)×(List ch)×Unit)(p1:Int×Unit):Option Y72:=(Sr p0 p1.1).bind fun y1=>some ((),(y1.2.1,()))
def ajG:=fU [dL [.str,af,af,af,af,bH,af,af,q3,q3,ck],.pt [af]] w9R fun x=>acj x.1 x.2.1
theorem aeo:bj 146 ajG:=fq (ac Zt an) f146
def mi(f1:Y1×Unit)(t10:List gr)(t11 t12:Int)(b4 b5:(List gr)×Unit):Rd (Y8×(List gr)×Int×Int×Y5×Y5×Unit) Unit:=cond (aE t12 t11) (cond (aX t12 t10) ((acj (gt d94 t10 t12) f1.1).bind fun y1=>cond (bk 160 b5.1 [y1.2.1]) (eA (f1,t10,t11,(ak .i64 t12 1),b4,((fE b5.1 [y1.2.1]),()),())) none) none) (eB (f1,t10,t11,t12,b4,b5,()))
def FQ:=cu6 (aq (Fo mi))
def JA(p0:(List gr)×Unit)(c1_0:Int×Unit):Option Y29:=(FQ (c1_0,()) p0.1 (ae p0.1) 0 ([],()) ([],())).bind (Sum.elim (fun y1=>some ((),(y1.2.2.2.2.2.1,()))) (fun _=>none))
def abM:=fU [dL [jZ],.fn 146 [.p [af]]] w7R fun x=>JA x.1 x.2.1.1
theorem V7:bj 105 abM:=fl (ac aeo an) [] [(0,⟨[.fn 1 146 [.p [af]],.d 10 jZ,.d 11 af,.d 12 af,.box 4 [(true,jZ)],.box 5 [(true,jZ)]],aq (Fo mi)⟩)] [] f105 (lp [0] (sc dU sn))
def g72(p0:(List gr)×Unit)(p1:Int):Option Y29:=(JA p0 (p1,())).bind fun y1=>some ((),(y1.2.1,()))
def s72:=fU [dL [jZ],aS [af]] w7R fun x=>g72 x.1 x.2.1.1
theorem aeP:bj 72 s72:=fq (ac V7 an) f72
def EF(p0:List R5)(p1 p2:Int):Option O4:=let u1:=(ae p0);(iZ p1 0 u1).bind fun y1=>cond (cond (cond (!y1.2.1.1) true (aE p2 0)) true (aE (bf .i64 u1 p1) p2)) (c7) (let u2:=(ak .i64 p1 p2);cond (eY p1 u2 p0) (some ((),(((sub p0 p1 u2),()),(true,()),()))) none)
def ajX:Su:=⟨[.c false [q5],.c false [af],.c false [af]],[(false,[q5]),(false,[.bool])],false,.inl fun x=>EF x.1.1 x.2.1.1 x.2.2.1.1⟩
theorem SU:bj 107 ajX:=fq (ac ke an) f107
def Bu(t1 t2:Int)(t9:List R5)(t10:Bool)(t11 t27:List R5)(t28 t29:Int):Rd (Int×Int×(List R5)×Bool×(List R5)×(List R5)×Int×Int×Unit) Unit:=cond (aE t29 t28) (cond (aX t29 t27) (cond (bk 1 t11 [((ak .u8 48 (rJ .u8 (gt d5 t27 t29).1 4)),()),((ak .u8 48 (Ng .u8 (gt d5 t27 t29).1 15)),())]) (eA (t1,t2,t9,t10,(fE t11 [((ak .u8 48 (rJ .u8 (gt d5 t27 t29).1 4)),()),((ak .u8 48 (Ng .u8 (gt d5 t27 t29).1 15)),())]),t27,t28,(ak .i64 t29 1),())) none) none) (eB (t1,t2,t9,t10,t11,t27,t28,t29,()))
def aaO:=cu8 (aq (X4 Bu))
def Pz(p0:List R5)(p1 p2:Int):Option Y64:=(iZ p2 1 38).bind fun y1=>cond (!y1.2.1.1) (c4) ((EF p0 p1 (kr .i64 (ak .i64 p2 1) 2)).bind fun y2=>(aaO p1 p2 y2.2.1.1 y2.2.2.1.1 [] y2.2.1.1 (ae y2.2.1.1) 0).bind (Sum.elim (fun y3=>cond (!y3.2.2.2.1) (c4) ((xa (strOf y3.2.2.2.2.1)).bind fun y4=>cond (!y4.2.1.1) (c4) (cond (aj (eH y3.2.1 2) 1) (cond (aX 0 y3.2.2.2.2.1) (cond (!(aj (gt d5 y3.2.2.2.2.1 0).1 48)) (c4) (let u1:=(ae y3.2.2.2.2.1);let u2:=(bf .i64 u1 y3.2.1);let u3:=(eY u2 u1 y3.2.2.2.2.1);cond u3 (some ((),(((strOf (sub y3.2.2.2.2.1 u2 u1)),()),((ak .i64 y3.1 (ae y3.2.2.1)),()),(true,()),()))) none)) none) (let u1:=(ae y3.2.2.2.2.1);let u2:=(bf .i64 u1 y3.2.1);let u3:=(eY u2 u1 y3.2.2.2.2.1);cond u3 (some ((),(((strOf (sub y3.2.2.2.2.1 u2 u1)),()),((ak .i64 y3.1 (ae y3.2.2.1)),()),(true,()),()))) none)))) (fun _=>none)))
def s59:=fU [aS [q5],aS [af],aS [af]] VZ fun x=>Pz x.1.1 x.2.1.1 x.2.2.1.1
theorem MH:bj 59 s59:=fl (ac A1 (ac ke (ac SU an))) [] [(0,⟨[.d 1 af,.d 2 af,.d 9 q5,.d 10 .bool,.own 11 q5,.d 27 q5,.d 28 af,.d 29 af],aq (X4 Bu)⟩)] [] f59 (lp [0] (sc dU sn))
def wA(t1:Int)(t7:List R5)(t9:List R3)(t10:Int):Rd (Int×(List R5)×(List R3)×Int×Unit) Unit:=cond (cl t10 64) (let u1:=(bf .i64 t10 1);let u2:=(kr .i64 u1 8);cond (aX u2 t7) (let u3:=(eH u1 8);cond (cl 0 u3) (cond (!(aj (Ng .u8 (gt d5 t7 u2).1 (rJ .u8 128 u3)) 0)) (cond (bk 8 t9 [(t10,())]) (let u4:=(ak .i64 t10 1);eA (t1,t7,(fE t9 [(t10,())]),u4,())) none) (let u4:=(ak .i64 t10 1);eA (t1,t7,t9,u4,()))) none) none) (eB (t1,t7,t9,t10,()))
def Qc:=rA (aq (ep wA))
def Ho(p0:List R5)(p1:Int):Option Y60:=(EF p0 p1 8).bind fun y1=>cond (!y1.2.2.1.1) (c16) ((Qc p1 y1.2.1.1 [] 1).bind (Sum.elim (fun y2=>some ((),((y2.2.2.1,()),((ak .i64 y2.1 8),()),(true,()),()))) (fun _=>none)))
def ajT:=fU [aS [q5],aS [af]] [(false,[q3]),(false,[af]),(false,[.bool])] fun x=>Ho x.1.1 x.2.1.1
theorem ahF:bj 100 ajT:=fl (ac SU an) [] [(0,⟨[.d 1 af,.d 7 q5,.own 9 q3,.d 10 af],aq (ep wA)⟩)] [] f100 (lp [0] (sc dU sn))
def agF:Option (Unit×(((List II)×Unit)×Unit)):=zR [(2,3,19,()),(3,1,6,()),(4,1,12,()),(7,1,10,()),(11,1,6,()),(14,1,4,()),(37,2,12,()),(38,2,6,()),(39,2,2,()),(41,2,8,()),(48,5,60,()),(49,1,3,()),(54,5,60,()),(95,2,12,()),(102,4,20,()),(103,4,20,())]
def akL:=fU [] [(false,[.sl 188 P6])] fun x=>agF 
theorem afs:bj 242 akL:=fq an f242
def xi(t0:Int)(t5:List II)(t6 t7:Int)(b2:Int×Int×Int×Unit):Rd (Int×(List II)×Int×Int×II×Unit) (II×Unit):=cond (aE t7 t6) (cond (aX t7 t5) (let u1:=(gt d188 t5 t7);cond (aj u1.1 t0) (eC (u1,())) (eA (t0,t5,t6,(ak .i64 t7 1),b2,()))) none) (eB (t0,t5,t6,t7,b2,()))
def SI:=O6 (aq (pY xi))
def Nn(p0:Int):Option (Unit×(II×Unit)):=(agF).bind fun y1=>(SI p0 y1.2.1.1 (ae y1.2.1.1) 0 (0,0,0,())).bind (Sum.elim (fun _=>some ((),((0,0,0,()),()))) (fun y2=>some ((),(y2.1,()))))
def ajz:=fU [aS [af]] [(true,[af,af,af])] fun x=>Nn x.1.1
theorem PO:bj 186 ajz:=fl (ac afs an) [.box 2 [(false,.int .i64),(false,.int .i64),(false,.int .i64)]] [(0,⟨[.d 0 af,.own 5 (.sl 188 P6),.d 6 af,.d 7 af,.box 2 [(false,.int .i64),(false,.int .i64),(false,.int .i64)]],aq (pY xi)⟩)] [] f186 (lp [0] (sc dU sn))
def DP(p0:Int):Option iP:=(Nn p0).bind fun y1=>zR y1.2.1.2.1
def aiW:=fU [aS [af]] jd fun x=>DP x.1.1
theorem FY:bj 101 aiW:=fq (ac PO an) f101
def SW(p0:Int):Option iP:=(Nn p0).bind fun y1=>zR y1.2.1.2.2.1
def ak1:=fU [aS [af]] jd fun x=>SW x.1.1
theorem aag:bj 187 ak1:=fq (ac PO an) f187
def He(p0:Int):Option iP:=(DP p0).bind fun y1=>cond (aj y1.2.1.1 5) (c17) (c9)
def ajB:=fU [aS [af]] jd fun x=>He x.1.1
theorem Zu:bj 189 ajB:=fq (ac FY an) f189
section
open Go.RowKit Go.Lib
theorem aiJ:KJ prog 121 108 201:=by
 intro s b v w R R2 hd ha
 have e1:Enters prog 108:=enters_of (fn:=f108) (c:=aw f108) (by kernel_rfl) (by kernel_rfl) (by kernel_rfl)
 have e2:Enters prog 201:=enters_of (fn:=f201) (c:=aw f201) (by kernel_rfl) (by kernel_rfl) (by kernel_rfl)
 have dh:s.size<9223372036854775808∨9223372036854775808<=s.size:=amz _ _
 cases b with
 | false=>
   go_enter Tryz.func121,Tryz.ntmps121
   go_wp2_with (go_at_call 108;refine hd.mono ?_;rintro e W1 ⟨rfl,hW⟩)
   go_ret2
   exact .inr ⟨by simp,rfl,hW⟩
 | true=>
   by_cases hs:s.size<=18
   . have hb:=ha rfl hs
     have h1:¬ (18:Int)<(s.size:Int):=by omega
     go_enter Tryz.func121,Tryz.ntmps121
     go_wp2_with (first
      | (go_at_call 108;refine hd.mono ?_;rintro e W1 ⟨rfl,hW⟩)
      | (go_at_call 201;refine(hb _ hW).mono ?_;rintro e W2 ⟨rfl,hW2⟩))
     go_ret2
     exact .inl ⟨by trivial,hs,rfl,hW2⟩
   . have h1:(18:Int)<(s.size:Int):=by omega
     go_enter Tryz.func121,Tryz.ntmps121
     go_wp2_with (go_at_call 108;refine hd.mono ?_;rintro e W1 ⟨rfl,hW⟩)
     go_ret2
     exact .inr ⟨by simp[hs],rfl,hW⟩
end
def Jy(p0:S8):Option Y36:=yF xa p0
def akN:=fU [aS [.str]] [(false,[af]),(false,[.bool])] fun x=>Jy x.1.1
theorem aan:bj 121 akN:=NZ AP (gd:=xa) A1 (fnd:=f108) (cd:=aw f108) (by kernel_rfl) (by kernel_rfl) (by kernel_rfl) rfl aiJ (fn:=f121) (c:=aw f121) (by kernel_rfl) (by kernel_rfl) (by kernel_rfl)
def Nq(p0:List R5)(p1 p2:Int):Option (Unit×(Y1×Y1×Y2×Unit)):=(iZ p2 2 3).bind fun y1=>cond (!y1.2.1.1) (c24) ((Pz p0 p1 p2).bind fun y2=>cond (!y2.2.2.2.1.1) (c24) ((Jy y2.2.1.1).bind fun y3=>some ((),(y3.2.1,y2.2.2.1,(true,()),()))))
def alk:=fU [aS [q5],aS [af],aS [af]] [(false,[af]),(false,[af]),(false,[.bool])] fun x=>Nq x.1.1 x.2.1.1 x.2.2.1.1
theorem agx:bj 188 alk:=fq (ac ke (ac MH (ac aan an))) f188
def sJ(t0:S8)(t5 t6:Int):Rd Y23 Y2:=cond (aE t6 t5) (cond (aX t6 t0) (let u1:=(fh t0 t6);cond (aE u1 32) (eC (false,())) (cond (aX t6 t0) (cond (aE 126 u1) (eC (false,())) (eA (t0,t5,(ak .i64 t6 1),()))) none)) none) (eB (t0,t5,t6,()))
def Rq:=pk (aq (fJ sJ))
def MN(p0:S8):Option iG:=(Rq p0 (ae p0) 0).bind (Sum.elim (fun _=>c3) (fun y1=>some ((),(y1,()))))
def ajO:=fU [aS [.str]] iN fun x=>MN x.1.1
theorem ahA:bj 243 ajO:=fl an [.d 2 .bool] [(0,⟨[.d 0 .str,.d 5 af,.d 6 af],aq (fJ sJ)⟩)] [] f243 (lp [0] (sc dU sn))
def sH(p0:Int)(p1:S8):Option iG:=(Nn p0).bind fun y1=>cond (aj y1.2.1.2.1 1) (let u1:=(xa p1);Option.bind u1 fun y2=>let u2:=(ae p1);zR (cond y2.2.1.1 (aj u2 y1.2.1.2.2.1) false)) (cond (aj y1.2.1.2.1 2) (let u1:=(MN p1);Option.bind u1 fun y2=>let u2:=(ae p1);zR (cond y2.2.1.1 (aj u2 y1.2.1.2.2.1) false)) (cond (aj y1.2.1.2.1 3) (let u1:=(xa p1);Option.bind u1 fun y2=>cond y2.2.1.1 (let u2:=(ae p1);let u3:=(iZ u2 1 y1.2.1.2.2.1);Option.bind u3 fun y3=>some ((),(y3.2.1,()))) (c0)) (cond (aj y1.2.1.2.1 4) (let u1:=(MN p1);Option.bind u1 fun y2=>cond y2.2.1.1 (let u2:=(ae p1);let u3:=(iZ u2 1 y1.2.1.2.2.1);Option.bind u3 fun y3=>some ((),(y3.2.1,()))) (c0)) (cond (aj y1.2.1.2.1 5) (let u1:=(MN p1);Option.bind u1 fun y2=>cond y2.2.1.1 (let u2:=(ae p1);let u3:=(iZ u2 1 y1.2.1.2.2.1);Option.bind u3 fun y3=>some ((),(y3.2.1,()))) (c0)) (c0)))))
def akc:=fU [aS [af],aS [.str]] iN fun x=>sH x.1.1 x.2.1.1
theorem La:bj 190 akc:=fq (ac A1 (ac ke (ac PO (ac ahA an)))) f190
def Ql(p0:List R5)(p1 p2:Int):Option Y64:=(SW p2).bind fun y1=>(DP p2).bind fun y2=>cond (cond (cond (aj y2.2.1.1 3) true (aj y2.2.1.1 4)) true (aj y2.2.1.1 5)) ((He p2).bind fun y3=>(Nq p0 p1 y3.2.1.1).bind fun y4=>cond (!y4.2.2.2.1.1) (c4) (let u1:=(cond (aj y2.2.1.1 1) true (aj y2.2.1.1 3));cond u1 ((Pz p0 y4.2.2.1.1 y4.2.1.1).bind fun y5=>cond (!y5.2.2.2.1.1) (c4) ((sH p2 y5.2.1.1).bind fun y6=>cond (!y6.2.1.1) (c4) (some ((),(y5.2.1,y5.2.2.1,(true,()),()))))) ((EF p0 y4.2.2.1.1 y4.2.1.1).bind fun y5=>cond (!y5.2.2.1.1) (c4) (let u2:=(strOf y5.2.1.1);(sH p2 u2).bind fun y6=>cond (!y6.2.1.1) (c4) (some ((),((u2,()),((ak .i64 y4.2.2.1.1 y4.2.1.1),()),(true,()),()))))))) (let u1:=(cond (aj y2.2.1.1 1) true (aj y2.2.1.1 3));cond u1 ((Pz p0 p1 y1.2.1.1).bind fun y3=>cond (!y3.2.2.2.1.1) (c4) ((sH p2 y3.2.1.1).bind fun y4=>cond (!y4.2.1.1) (c4) (some ((),(y3.2.1,y3.2.2.1,(true,()),()))))) ((EF p0 p1 y1.2.1.1).bind fun y3=>cond (!y3.2.2.1.1) (c4) (let u2:=(strOf y3.2.1.1);(sH p2 u2).bind fun y4=>cond (!y4.2.1.1) (c4) (some ((),((u2,()),((ak .i64 p1 y1.2.1.1),()),(true,()),()))))))
def aiK:=fU [aS [q5],aS [af],aS [af]] VZ fun x=>Ql x.1.1 x.2.1.1 x.2.2.1.1
theorem af2:bj 102 aiK:=fq (ac SU (ac MH (ac FY (ac aag (ac Zu (ac agx (ac La an))))))) f102
def Ay(t0:List R5)(t4:S8)(t5:Int)(t8:List R3)(t9:Bool)(t41:List R3)(t42 t43:Int)(b2:S8×(List fR)×Unit):Rd ((List R5)×S8×Int×(List R3)×Bool×(List R3)×Int×Int×xJ×Unit) Y39:=cond (aE t43 t42) (cond (aX t43 t41) (let u1:=(gt d3 t41 t43);cond (aj u1.1 1) (let u2:=(ak .i64 t43 1);eA (t0,t4,t5,t8,true,t41,t42,u2,b2,())) ((DP u1.1).bind fun y1=>cond (aj y1.2.1.1 0) (eC (2,([],[],()),())) (cond (bk 8 t8 [u1]) (let u2:=(ak .i64 t43 1);eA (t0,t4,t5,(fE t8 [u1]),t9,t41,t42,u2,b2,())) none))) none) (eB (t0,t4,t5,t8,t9,t41,t42,t43,b2,()))
def aaK:=cu9 (aq (un9 Ay))
def A0(t0:List R5)(t4:S8)(t5:Int)(t8 t76:List R3)(t77 t78:Int)(b2:S8×(List fR)×Unit):Rd ((List R5)×S8×Int×(List R3)×(List R3)×Int×Int×xJ×Unit) Y39:=cond (aE t78 t77) (cond (aX t78 t76) (let u1:=(ak .i64 (gt d3 t76 t78).1 64);(DP u1).bind fun y1=>cond (aj y1.2.1.1 0) (eC (2,([],[],()),())) (cond (bk 8 t8 [(u1,())]) (eA (t0,t4,t5,(fE t8 [(u1,())]),t76,t77,(ak .i64 t78 1),b2,())) none)) none) (eB (t0,t4,t5,t8,t76,t77,t78,b2,()))
def aal:=cu8 (aq (X4 A0))
def AX(t0:List R5)(t5:Int)(t95:List R3)(t96 t97:Int)(b2 b15:S8×(List fR)×Unit):Rd ((List R5)×Int×(List R3)×Int×Int×xJ×xJ×Unit) Y39:=cond (aE t97 t96) (cond (aX t97 t95) ((Ql t0 t5 (gt d3 t95 t97).1).bind fun y1=>cond (!y1.2.2.2.1.1) (eC (3,([],[],()),())) (cond (bk 24 b15.2.1 [((gt d3 t95 t97).1,y1.2.1.1,())]) (eA (t0,y1.2.2.1.1,t95,t96,(ak .i64 t97 1),b2,(b15.1,(fE b15.2.1 [((gt d3 t95 t97).1,y1.2.1.1,())]),()),())) none)) none) (eB (t0,t5,t95,t96,t97,b2,b15,()))
def Mc:=cu7 (aq (Az AX))
def g55(p0:List R5):Option (Unit×(xJ×Y1×Unit)):=(Pz p0 0 4).bind fun y1=>cond (!y1.2.2.2.1.1) (some ((),(([],[],()),(1,()),()))) ((Ho p0 y1.2.2.1.1).bind fun y2=>cond (!y2.2.2.2.1.1) (c25) ((aaK p0 y1.2.1.1 y2.2.2.1.1 [] false y2.2.1.1 (ae y2.2.1.1) 0 ([],[],())).bind (Sum.elim (fun y3=>cond y3.2.2.2.2.1 ((Ho y3.1 y3.2.2.1).bind fun y4=>let u1:=(ae y4.2.1.1);cond (cond (!y4.2.2.2.1.1) true (aj u1 0)) (c25) ((aal y3.1 y3.2.1 y4.2.2.1.1 y3.2.2.2.1 y4.2.1.1 u1 0 y3.2.2.2.2.2.2.2.2.1).bind (Sum.elim (fun y5=>(Mc y5.1 y5.2.2.1 y5.2.2.2.1 (ae y5.2.2.2.1) 0 y5.2.2.2.2.2.2.2.1 (y5.2.1,[],())).bind (Sum.elim (fun y6=>cond (!(aj y6.2.1 (ae y6.1))) (c26) (some ((),(y6.2.2.2.2.2.2.1,(0,()),())))) (fun y6=>some ((),(y6.2.1,(y6.1,()),()))))) (fun y5=>some ((),(y5.2.1,(y5.1,()),())))))) ((Mc y3.1 y3.2.2.1 y3.2.2.2.1 (ae y3.2.2.2.1) 0 y3.2.2.2.2.2.2.2.2.1 (y3.2.1,[],())).bind (Sum.elim (fun y4=>cond (!(aj y4.2.1 (ae y4.1))) (c26) (some ((),(y4.2.2.2.2.2.2.1,(0,()),())))) (fun y4=>some ((),(y4.2.1,(y4.1,()),())))))) (fun y3=>some ((),(y3.2.1,(y3.1,()),()))))))
def s55:=fU [aS [q5]] [(true,[.str,eO]),(false,[af])] fun x=>g55 x.1.1
theorem ac3:bj 55 s55:=fl (ac MH (ac ahF (ac FY (ac af2 an)))) [.d 3 af,.box 2 [(false,.str),(true,eO)]] [(0,⟨[.d 0 q5,.d 4 .str,.d 5 af,.own 8 q3,.d 9 .bool,.own 41 q3,.d 42 af,.d 43 af,.box 2 [(false,.str),(true,eO)]],aq (un9 Ay)⟩),(3,⟨[.d 0 q5,.d 4 .str,.d 5 af,.own 8 q3,.own 76 q3,.d 77 af,.d 78 af,.box 2 [(false,.str),(true,eO)]],aq (X4 A0)⟩),(5,⟨[.d 0 q5,.d 5 af,.own 95 q3,.d 96 af,.d 97 af,.box 2 [(false,.str),(true,eO)],.box 15 [(false,.str),(true,eO)]],aq (Az AX)⟩)] [] f55 (lp [0,3,5] (sc dU (sc dU (sc dU sn))))
def BD(t6:List gr)(t7 t8:Int)(b1:(List gr)×Unit):Rd ((List gr)×Int×Int×Y5×Unit) Y2:=cond (aE t8 t7) (cond (aX t8 t6) (let u1:=(gt d94 t6 t8);(IZ u1).bind fun y1=>cond (!y1.2.1.1) (eC (false,())) (cond (aE 0 t8) (let u2:=(bf .i64 t8 1);cond (aX u2 b1.1) (cond (leS u1.1 (gt d94 b1.1 u2).1) (eC (false,())) (eA (t6,t7,(ak .i64 t8 1),b1,()))) none) (eA (t6,t7,(ak .i64 t8 1),b1,())))) none) (eB (t6,t7,t8,b1,()))
def Zd:=rA (aq (ep BD))
def g56(p0:(List gr)×Unit):Option iG:=(Zd p0.1 (ae p0.1) 0 p0).bind (Sum.elim (fun y1=>zR (cl (ae y1.2.2.2.1.1) 6)) (fun y1=>some ((),(y1,()))))
def s56:=fU [dL [jZ]] iN fun x=>g56 x.1
theorem Ra:bj 56 s56:=fl (ac K6 an) [.d 2 .bool] [(0,⟨[.d 6 jZ,.d 7 af,.d 8 af,.box 1 [(false,jZ)]],aq (ep BD)⟩)] [] f56 (lp [0] (sc dU sn))
def g60(p0:S8):Option EP:=(yi p0 4).bind fun y1=>cond (!y1.2.1.1) (c6) (cond (aX 2 p0) (let u1:=(fh p0 2);cond (aj (eH (bf .u8 u1 48) 2) 1) (c6) (cond (eY 0 2 p0) (cond (aX 2 p0) (let u2:=(dC .i32 (ak .u8 u1 1));cond (L3 u2) (let u3:=(sub p0 0 2);let u4:=(asc u2);cond (jx u3 u4) (let u5:=(ae p0);cond (eY 3 u5 p0) (let u6:=(uz u3 u4);let u7:=(sub p0 3 u5);cond (jx u6 u7) (zR (uz u6 u7)) none) none) none) none) none) none)) none)
def s60:=fU [aS [.str]] Fm fun x=>g60 x.1.1
theorem Sx:bj 60 s60:=fq (ac K9 an) f60
def acX:Option Y27:=c29
def akn:=fU [] [(false,[.sl 9 kk9])] fun x=>acX 
theorem agW:bj 199 akn:=fq an f199
def OE(p0:Int):Option EP:=(iZ p0 0 10).bind fun y1=>cond (!y1.2.1.1) (c6) ((acX).bind fun y2=>cond (aX p0 y2.2.1.1) (some ((),((gt d9 y2.2.1.1 p0),()))) none)
def ai9:=fU [aS [af]] Fm fun x=>OE x.1.1
theorem aaD:bj 110 ai9:=fq (ac ke (ac agW an)) f110
def si(t6:List fR)(t7 t8:Int)(b1:S8×(List fR)×Unit):Rd ((List fR)×Int×Int×xJ×Unit) Y2:=cond (aE t8 t7) (cond (aX t8 t6) (let u1:=(gt d117 t6 t8);(sH u1.1 u1.2.1).bind fun y1=>cond (!y1.2.1.1) (eC (false,())) (cond (aE 0 t8) (let u2:=(bf .i64 t8 1);cond (aX u2 b1.2.1) (cond (cl u1.1 (gt d117 b1.2.1 u2).1) (eC (false,())) (eA (t6,t7,(ak .i64 t8 1),b1,()))) none) (eA (t6,t7,(ak .i64 t8 1),b1,())))) none) (eB (t6,t7,t8,b1,()))
def Iw:=rA (aq (ep si))
def Hf(p0:S8×(List fR)×Unit):Option iG:=(Iw p0.2.1 (ae p0.2.1) 0 p0).bind (Sum.elim (fun y1=>(yi y1.2.2.2.1.1 4).bind fun y2=>some ((),(y2.2.1,()))) (fun y1=>some ((),(y1,()))))
def aj7:=fU [dL [.str,eO]] iN fun x=>Hf x.1
theorem LC:bj 111 aj7:=fl (ac K9 (ac La an)) [.d 2 .bool] [(0,⟨[.d 6 eO,.d 7 af,.d 8 af,.box 1 [(false,.str),(false,eO)]],aq (ep si)⟩)] [] f111 (lp [0] (sc dU sn))
def g61(p0:S8)(p1:Int):Option Y62:=(g60 p0).bind fun y1=>(OE p1).bind fun y2=>(Hf (y1.2.1.1,[(39,y2.2.1.1,())],())).bind fun y3=>cond (!y3.2.1.1) (XF) (some ((),((y1.2.1.1,[(39,y2.2.1.1,())],()),(true,()),())))
def s61:=fU [aS [.str],aS [af]] [(true,[.str,eO]),(false,[.bool])] fun x=>g61 x.1.1 x.2.1.1
theorem abb:bj 61 s61:=fq (ac Sx (ac aaD (ac LC an))) f61
def tK(t0:S8)(t4:List R5)(t5:Int):Rd (S8×(List R5)×Int×Unit) Unit:=cond (aE t5 (ae t0)) (cond (aX t5 t0) (let u1:=(ak .i64 t5 1);cond (aX u1 t0) (cond (bk 1 t4 [((U3 .u8 (Xd .u8 (bf .u8 (fh t0 t5) 48) 4) (bf .u8 (fh t0 u1) 48)),())]) (eA (t0,(fE t4 [((U3 .u8 (Xd .u8 (bf .u8 (fh t0 t5) 48) 4) (bf .u8 (fh t0 u1) 48)),())]),(ak .i64 t5 2),())) none) none) none) (eB (t0,t4,t5,()))
def ID:=pk (aq (fJ tK))
def Eh(p0:S8):Option O4:=(xa p0).bind fun y1=>let u1:=(ae p0);cond (cond (!y1.2.1.1) true (aE 38 u1)) (c7) (cond (aj (eH u1 2) 1) (cond (jx [48] p0) ((ID (uz [48] p0) [] 0).bind (Sum.elim (fun y2=>some ((),((y2.2.1,()),(true,()),()))) (fun _=>none))) none) ((ID p0 [] 0).bind (Sum.elim (fun y2=>some ((),((y2.2.1,()),(true,()),()))) (fun _=>none))))
def ai8:=fU [aS [.str]] US fun x=>Eh x.1.1
theorem Rg:bj 113 ai8:=fl (ac A1 an) [] [(0,⟨[.d 0 .str,.own 4 q5,.d 5 af],aq (fJ tK)⟩)] [] f113 (lp [0] (sc dU sn))
def sX(t3:List R5)(t7:List R3)(t8 t9:Int):Rd ((List R5)×(List R3)×Int×Int×Unit) Unit:=cond (aE t9 t8) (cond (aX t9 t7) ((iZ (gt d3 t7 t9).1 1 64).bind fun y1=>cond y1.2.1.1 (let u1:=(bf .i64 (gt d3 t7 t9).1 1);let u2:=(kr .i64 u1 8);cond (aX u2 t3) (let u3:=(eH u1 8);cond (cl 0 u3) (cond (aX u2 t3) (let u4:=(ak .i64 t9 1);eA ((cZ t3 u2 ((U3 .u8 (gt d5 t3 u2).1 (rJ .u8 128 u3)),())),t7,t8,u4,())) none) none) none) (let u1:=(ak .i64 t9 1);eA (t3,t7,t8,u1,()))) none) (eB (t3,t7,t8,t9,()))
def abt:=rA (aq (ep sX))
def FC(p0:List R3):Option Y26:=(abt (xh d5 8) p0 (ae p0) 0).bind (Sum.elim (fun y1=>zR y1.1) (fun _=>none))
def ajs:=fU [aS [q3]] w8R fun x=>FC x.1.1
theorem afu:bj 114 ajs:=fl (ac ke an) [] [(0,⟨[.own 3 q5,.d 7 q3,.d 8 af,.d 9 af],aq (ep sX)⟩)] [] f114 (lp [0] (sc dU sn))
def abB(p0:Int):Option EP:=Me p0
def akJ:=fU [aS [af]] Fm fun x=>abB x.1.1
theorem agE:bj 265 akJ:=Xr BE rfl (fn:=f265) (c:=aw f265) (by kernel_rfl) (by kernel_rfl) (by kernel_rfl)
def IP(p0:S8)(p1:Int):Option EP:=ru p0 p1
def akV:=fU [aS [.str],aS [af]] Fm fun x=>IP x.1.1 x.2.1.1
theorem YN:bj 255 akV:=NV Ch uF rfl (fn:=f255) (c:=aw f255) (by kernel_rfl) (by kernel_rfl) (by kernel_rfl)
def Nj(p0 p1:Int):Option EP:=(abB p0).bind fun y1=>cond (aE p0 0) (c6) ((iZ p1 1 18).bind fun y2=>let u1:=(ae y1.2.1.1);cond (cond (!y2.2.1.1) true (aE p1 u1)) (c6) ((IP [48] (bf .i64 p1 u1)).bind fun y3=>cond (jx y3.2.1.1 y1.2.1.1) (zR (uz y3.2.1.1 y1.2.1.1)) none))
def akq:=fU [aS [af],aS [af]] Fm fun x=>Nj x.1.1 x.2.1.1
theorem Zp:bj 217 akq:=fq (ac ke (ac agE (ac YN an))) f217
def FI(p0 p1:Int):Option O4:=(iZ p1 2 3).bind fun y1=>cond (!y1.2.1.1) (c7) ((Nj p0 p1).bind fun y2=>(Eh y2.2.1.1).bind fun y3=>some ((),(y3.2.1,y3.2.2.1,())))
def aiB:=fU [aS [af],aS [af]] US fun x=>FI x.1.1 x.2.1.1
theorem ag9:bj 200 aiB:=fq (ac ke (ac Rg (ac Zp an))) f200
def Qu(p0:Int)(p1:S8):Option O4:=(sH p0 p1).bind fun y1=>cond (!y1.2.1.1) (c7) ((DP p0).bind fun y2=>cond (cond (aj y2.2.1.1 1) true (aj y2.2.1.1 3)) ((Eh p1).bind fun y3=>let u1:=(cond (aj y2.2.1.1 1) true (aj y2.2.1.1 2));cond u1 (some ((),(y3.2.1,(true,()),()))) (let u2:=(He p0);Option.bind u2 fun y4=>let u3:=(ae p1);(FI u3 y4.2.1.1).bind fun y5=>cond (bk 1 y5.2.1.1 y3.2.1.1) (some ((),(((fE y5.2.1.1 y3.2.1.1),()),(true,()),()))) none)) (let u1:=(cond (aj y2.2.1.1 1) true (aj y2.2.1.1 2));cond u1 (let u2:=(bytesOf p1);some ((),((u2,()),(true,()),()))) (let u2:=(He p0);Option.bind u2 fun y3=>let u3:=(ae p1);(FI u3 y3.2.1.1).bind fun y4=>let u4:=(bytesOf p1);cond (bk 1 y4.2.1.1 u4) (some ((),(((fE y4.2.1.1 u4),()),(true,()),()))) none)))
def akS:=fU [aS [af],aS [.str]] US fun x=>Qu x.1.1 x.2.1.1
theorem aeY:bj 112 akS:=fq (ac FY (ac Zu (ac La (ac Rg (ac ag9 an))))) f112
def Au(t4 t5:List R3)(t6:List R5)(t20:List fR)(t21 t22:Int)(b1:S8×(List fR)×Unit):Rd ((List R3)×(List R3)×(List R5)×(List fR)×Int×Int×xJ×Unit) Unit:=cond (aE t22 t21) (cond (aX t22 t20) (let u1:=(gt d117 t20 t22);cond (aE 64 u1.1) (cond (bk 8 t5 [((bf .i64 u1.1 64),())]) (let u2:=(Qu u1.1 u1.2.1);Option.bind u2 fun y1=>let u3:=(bk 1 t6 y1.2.1.1);cond u3 (let u4:=(fE t6 y1.2.1.1);let u5:=(ak .i64 t22 1);eA (t4,(fE t5 [((bf .i64 u1.1 64),())]),u4,t20,t21,u5,b1,())) none) none) (cond (bk 8 t4 [(u1.1,())]) (let u2:=(Qu u1.1 u1.2.1);Option.bind u2 fun y1=>let u3:=(bk 1 t6 y1.2.1.1);cond u3 (let u4:=(fE t6 y1.2.1.1);let u5:=(ak .i64 t22 1);eA ((fE t4 [(u1.1,())]),t5,u4,t20,t21,u5,b1,())) none) none)) none) (eB (t4,t5,t6,t20,t21,t22,b1,()))
def aar:=cu7 (aq (Az Au))
def g62(p0:S8×(List fR)×Unit):Option O4:=(Hf p0).bind fun y1=>cond (!y1.2.1.1) (c7) ((aar [] [] [] p0.2.1 (ae p0.2.1) 0 p0).bind (Sum.elim (fun y2=>(Eh y2.2.2.2.2.2.2.1.1).bind fun y3=>cond (aE 0 (ae y2.2.1)) (cond (bk 8 y2.1 [(1,())]) ((FC (fE y2.1 [(1,())])).bind fun y4=>let u1:=(bk 1 y3.2.1.1 y4.2.1.1);cond u1 ((FC y2.2.1).bind fun y5=>let u2:=(fE y3.2.1.1 y4.2.1.1);cond (bk 1 u2 y5.2.1.1) (let u3:=(fE u2 y5.2.1.1);cond (bk 1 u3 y2.2.2.1) (some ((),(((fE u3 y2.2.2.1),()),(true,()),()))) none) none) none) none) ((FC y2.1).bind fun y4=>let u1:=(bk 1 y3.2.1.1 y4.2.1.1);cond u1 (let u2:=(fE y3.2.1.1 y4.2.1.1);cond (bk 1 u2 y2.2.2.1) (some ((),(((fE u2 y2.2.2.1),()),(true,()),()))) none) none)) (fun _=>none)))
def s62:=fU [dL [.str,eO]] US fun x=>g62 x.1
theorem Vx:bj 62 s62:=fl (ac LC (ac Rg (ac afu (ac aeY an)))) [] [(0,⟨[.own 4 q3,.own 5 q3,.own 6 q5,.d 20 eO,.d 21 af,.d 22 af,.box 1 [(false,.str),(false,eO)]],aq (Az Au)⟩)] [] f62 (lp [0] (sc dU sn))
end
end Go.Av
