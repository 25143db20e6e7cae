/- FnExactAgree, a part. -/
import Derived.Test.YtcmhjdkpbgncfaaGreatDoorFw4
import Derived.Test.YtcmhjdkpbgncfaaGreatDoorFw3
import Derived.WalkKit
import Derived.Lib.Walk
import Derived.Lib.SliceRun
import Derived.Shelf.Spec.SlicesInsert
import Derived.Test.YtcmhjdkpbgncfaaGreatDoorProg
set_option maxRecDepth 100000
namespace Go.Av
open Go.Proofs
set_option maxHeartbeats 4000000
noncomputable section
def DC:List K:=[.str,.int .i64,.int .i64]
def rO:List K:=[.int .i64]
def vf:List K:=[.int .u8]
def CM:List K:=[.str,.str,.sl 5 vf]
def zo:List K:=[.str,.int .i64,.int .i64,.int .i64,.int .i64,.sl 214 DC,.int .i64,.int .i64,.sl 3 rO,.sl 3 rO,.sl 216 CM]
def ZO:List K:=[.int .i64,.sl 5 vf,.sl 5 vf]
def lI:List K:=[.str,.int .i64,.int .i64]
def so:List K:=[.str,.str,.sl 5 vf]
def Rs:List K:=[.str,.int .i64,.int .i64,.int .i64,.int .i64,.sl 192 lI,.int .i64,.int .i64,.sl 3 rO,.sl 3 rO,.sl 100 so]
def Xt:List K:=[.int .i64,.sl 5 vf,.sl 5 vf]
def YB:List K:=[.sl 5 vf]
def Gq:List K:=[.int .i64,.str]
def Hh:List K:=[.str,.str,.str,.sl 3 rO]
def XG:List K:=[.str]
def M4:List K:=[.int .i64,.int .i64,.int .i64]
def J4:List K:=[.sl 3 rO]
abbrev lf:=(S8×Int×Int×Unit)
def d214:lf:=([],0,0,())
abbrev R3:=(Int×Unit)
def d3:R3:=(0,())
abbrev R5:=(Int×Unit)
def d5:R5:=(0,())
abbrev js:=(S8×S8×(List R5)×Unit)
def d216:js:=([],[],[],())
abbrev jW:=(S8×Int×Int×Int×Int×(List lf)×Int×Int×(List R3)×(List R3)×(List js)×Unit)
def d109:jW:=([],0,0,0,0,[],0,0,[],[],[],())
abbrev vL:=(Int×(List R5)×(List R5)×Unit)
def d61:vL:=(0,[],[],())
abbrev bm:=(S8×Int×Int×Unit)
def d192:bm:=([],0,0,())
abbrev bW:=(S8×S8×(List R5)×Unit)
def d100:bW:=([],[],[],())
abbrev iI:=(S8×Int×Int×Int×Int×(List bm)×Int×Int×(List R3)×(List R3)×(List bW)×Unit)
def d94:iI:=([],0,0,0,0,[],0,0,[],[],[],())
abbrev vn:=(Int×(List R5)×(List R5)×Unit)
def d62:vn:=(0,[],[],())
abbrev OE:=((List R5)×Unit)
def d38:OE:=([],())
abbrev eS:=(Int×S8×Unit)
def d117:eS:=(0,[],())
abbrev JD:=(S8×S8×S8×(List R3)×Unit)
def d146:JD:=([],[],[],[],())
abbrev R9:=(S8×Unit)
def d9:R9:=([],())
abbrev E4:=(Int×Int×Int×Unit)
def d188:E4:=(0,0,0,())
abbrev LI:=((List R3)×Unit)
def d52:LI:=([],())
abbrev fU (ps : List PK) (rs : List (Bool × List K)) (f : PT ps → Option (rm ps × CT rs)) : Su := ⟨ps, rs, true, .inl f⟩
abbrev eA {A B C : Type} (x : A) : Option (Sum A (Sum B C)) := some (.inl x)
abbrev eB {A B C : Type} (x : B) : Option (Sum A (Sum B C)) := some (.inr (.inl x))
abbrev eC {A B C : Type} (x : C) : Option (Sum A (Sum B C)) := some (.inr (.inr x))
def tt:List (Nat×TI):=[(2,⟨false,[.int .i64],0,8,[]⟩),
 (3,⟨false,[.int .i64],0,8,[]⟩),
 (4,⟨false,[.bool],0,1,[]⟩),
 (5,⟨false,[.int .u8],0,1,[]⟩),
 (6,⟨false,[.int .u8],0,1,[]⟩),
 (7,⟨true,[.int .i64,.int .i64,.bool,.int .u8],0,24,[(0,2),(1,3),(2,4),(3,6)]⟩),
 (8,⟨true,[.int .i64,.int .i64,.bool,.int .u8],0,24,[(0,2),(1,3),(2,4),(3,6)]⟩),
 (9,⟨false,[.str],0,16,[]⟩),
 (10,⟨false,[.str],0,16,[]⟩),
 (11,⟨false,[.str],0,16,[]⟩),
 (12,⟨false,[.int .u64],0,8,[]⟩),
 (13,⟨true,[.str,.int .u64],0,24,[(0,9),(1,12)]⟩),
 (14,⟨true,[.str,.int .u64],0,24,[(0,9),(1,12)]⟩),
 (21,⟨false,[.int .i32],0,4,[]⟩),
 (22,⟨false,[.sl 109 zo],109,24,[]⟩),
 (23,⟨true,[.sl 109 zo],0,24,[(0,22)]⟩),
 (24,⟨true,[.sl 109 zo],0,24,[(0,22)]⟩),
 (25,⟨false,[.sl 61 ZO],61,24,[]⟩),
 (29,⟨false,[.sl 94 Rs],94,24,[]⟩),
 (30,⟨true,[.sl 94 Rs],0,24,[(0,29)]⟩),
 (31,⟨true,[.sl 94 Rs],0,24,[(0,29)]⟩),
 (33,⟨false,[.sl 62 Xt],62,24,[]⟩),
 (38,⟨false,[.sl 5 vf],5,24,[]⟩),
 (46,⟨false,[.sl 38 YB],38,24,[]⟩),
 (52,⟨false,[.sl 3 rO],3,24,[]⟩),
 (60,⟨true,[.int .i64,.sl 5 vf,.sl 5 vf],0,56,[(0,3),(1,38),(2,38)]⟩),
 (61,⟨true,[.int .i64,.sl 5 vf,.sl 5 vf],0,56,[(0,3),(1,38),(2,38)]⟩),
 (62,⟨true,[.int .i64,.sl 5 vf,.sl 5 vf],0,56,[(0,3),(1,38),(2,38)]⟩),
 (70,⟨false,[.sl 117 Gq],117,24,[]⟩),
 (71,⟨true,[.str,.sl 117 Gq],0,40,[(0,9),(1,70)]⟩),
 (72,⟨true,[.str,.sl 117 Gq],0,40,[(0,9),(1,70)]⟩),
 (82,⟨true,[.int .i64,.str,.str,.str,.str,.str,.int .i64,.int .i64],0,104,[(0,3),(1,9),(2,9),(3,9),(4,9),(5,9),(6,3),(7,3)]⟩),
 (83,⟨true,[.int .i64,.str,.str,.str,.str,.str,.int .i64,.int .i64],0,104,[(0,3),(1,9),(2,9),(3,9),(4,9),(5,9),(6,3),(7,3)]⟩),
 (89,⟨false,[.sl 192 lI],192,24,[]⟩),
 (90,⟨true,[.int .i64,.int .i64,.sl 3 rO,.sl 3 rO],0,64,[(0,3),(1,3),(2,52),(3,52)]⟩),
 (91,⟨true,[.int .i64,.int .i64,.sl 3 rO,.sl 3 rO],0,64,[(0,3),(1,3),(2,52),(3,52)]⟩),
 (92,⟨false,[.sl 100 so],100,24,[]⟩),
 (93,⟨true,[.str,.int .i64,.int .i64,.int .i64,.int .i64,.sl 192 lI,.int .i64,.int .i64,.sl 3 rO,.sl 3 rO,.sl 100 so],0,160,[(0,9),(1,3),(2,3),(3,3),(4,3),(5,89),(6,91),(10,92)]⟩),
 (94,⟨true,[.str,.int .i64,.int .i64,.int .i64,.int .i64,.sl 192 lI,.int .i64,.int .i64,.sl 3 rO,.sl 3 rO,.sl 100 so],0,160,[(0,9),(1,3),(2,3),(3,3),(4,3),(5,89),(6,91),(10,92)]⟩),
 (99,⟨true,[.str,.str,.sl 5 vf],0,56,[(0,9),(1,9),(2,38)]⟩),
 (100,⟨true,[.str,.str,.sl 5 vf],0,56,[(0,9),(1,9),(2,38)]⟩),
 (105,⟨false,[.sl 214 DC],214,24,[]⟩),
 (106,⟨true,[.int .i64,.int .i64,.sl 3 rO,.sl 3 rO],0,64,[(0,3),(1,3),(2,52),(3,52)]⟩),
 (107,⟨false,[.sl 216 CM],216,24,[]⟩),
 (108,⟨true,[.str,.int .i64,.int .i64,.int .i64,.int .i64,.sl 214 DC,.int .i64,.int .i64,.sl 3 rO,.sl 3 rO,.sl 216 CM],0,160,[(0,9),(1,3),(2,3),(3,3),(4,3),(5,105),(6,106),(10,107)]⟩),
 (109,⟨true,[.str,.int .i64,.int .i64,.int .i64,.int .i64,.sl 214 DC,.int .i64,.int .i64,.sl 3 rO,.sl 3 rO,.sl 216 CM],0,160,[(0,9),(1,3),(2,3),(3,3),(4,3),(5,105),(6,106),(10,107)]⟩),
 (116,⟨true,[.int .i64,.str],0,24,[(0,3),(1,9)]⟩),
 (117,⟨true,[.int .i64,.str],0,24,[(0,3),(1,9)]⟩),
 (141,⟨false,[.int .u64],0,8,[]⟩),
 (144,⟨false,[.sl 146 Hh],146,24,[]⟩),
 (145,⟨true,[.str,.str,.str,.sl 3 rO],0,72,[(0,9),(1,9),(2,9),(3,52)]⟩),
 (146,⟨true,[.str,.str,.str,.sl 3 rO],0,72,[(0,9),(1,9),(2,9),(3,52)]⟩),
 (181,⟨false,[.sl 9 XG],9,24,[]⟩),
 (187,⟨true,[.int .i64,.int .i64,.int .i64],0,24,[(0,3),(1,3),(2,3)]⟩),
 (188,⟨true,[.int .i64,.int .i64,.int .i64],0,24,[(0,3),(1,3),(2,3)]⟩),
 (191,⟨true,[.str,.int .i64,.int .i64],0,32,[(0,9),(1,3),(2,3)]⟩),
 (192,⟨true,[.str,.int .i64,.int .i64],0,32,[(0,9),(1,3),(2,3)]⟩),
 (214,⟨true,[.str,.int .i64,.int .i64],0,32,[(0,9),(1,3),(2,3)]⟩),
 (216,⟨true,[.str,.str,.sl 5 vf],0,56,[(0,9),(1,9),(2,38)]⟩),
 (225,⟨false,[.sl 188 M4],188,24,[]⟩),
 (245,⟨false,[.sl 52 J4],52,24,[]⟩),
 (247,⟨false,[.int .i64],0,8,[]⟩),
 (269,⟨false,[.int .u64],0,8,[]⟩),
 (276,⟨false,[.int .u32],0,4,[]⟩),
 (285,⟨true,[.str],0,16,[(0,9)]⟩),
 (286,⟨true,[.str],0,16,[(0,9)]⟩),
 (299,⟨true,[.int .u8,.int .u8],0,2,[(0,5),(1,5)]⟩),
 (300,⟨true,[.int .u8,.int .u8],0,2,[(0,5),(1,5)]⟩),
 (314,⟨false,[.int .u8],0,1,[]⟩),
 (315,⟨false,[.int .u8],0,1,[]⟩),
 (317,⟨false,[.int .i32],0,4,[]⟩),
 (318,⟨false,[.int .i32],0,4,[]⟩)]
def E0:En:=uZ 0 tt [] [] (fun _=>none) [] fun _=>none
theorem hT:cf Tryz.prog E0:=ON (by kernel_rfl)
theorem gK:Tryz.prog.follows .mixedOrders=true:=by kernel_rfl
theorem fl{f:Nat}{s:Su}{l:List (Nat×SS)}(hl:nx Tryz.prog l)(ρ:List SE)(los:List (Nat×Lo ρ))(pins:List Nat)(fn:Func)
 (hlo:Yf Tryz.prog (JW fn.ntmps tt l ρ los pins) (ak fn) (ak fn))
 (h : (Tryz.prog.funcs[f]?, (fn.name == "runtime.NumGoroutine"), fn.body.isSome) = (some fn, false, true) := by kernel_rfl)
 (ht:∀ x,(Ei (JW fn.ntmps tt l ρ los pins) (ak fn) fn.results.toList s.ps s.rs s.fresh x).run=s.sO x:=by intro x; kernel_rfl):au Tryz.prog f s:=by
 simp only[aeT]at h
 exact flq hT gK hl (fn:=fn) (by rw[h.1,h.2.1,h.2.2]) hlo ht
theorem fq{f:Nat}{s:Su}{l:List (Nat×SS)}(hl:nx Tryz.prog l)(fn:Func)
 (h : (Tryz.prog.funcs[f]?, (fn.name == "runtime.NumGoroutine"), fn.body.isSome, ez (fun _ => false) (ak fn)) = (some fn, false, true, []) := by kernel_rfl)
 (ht:∀ x,(Ei (JW fn.ntmps tt l [] [] []) (ak fn) fn.results.toList s.ps s.rs s.fresh x).run=s.sO x:=by intro x; kernel_rfl):au Tryz.prog f s:=by
 simp only[aeT]at h
 exact flq hT gK hl (fn:=fn) (by rw[h.1,h.2.1,h.2.2.1]) (lp (n:=fn.ntmps) (tt:=tt) (l:=l) (ρ:=[]) (los:=[]) (pins:=[]) [] sn h.2.2.2) ht
abbrev Y0:=Nat×SS
abbrev Y1:=Int×Unit
abbrev Y2:=Bool×Unit
abbrev Y4:=(List R5)×Unit
abbrev Y5:=(List iI)×Unit
abbrev Y7:=(List bm)×Unit
abbrev Y9:=S8×Unit
abbrev Y8:=Y1×Unit
abbrev Y15:=Int×S8×Unit
abbrev Y14:=S8×Int×Unit
abbrev iJ:=Unit×Y8
abbrev gu:=Unit×(Y2×Unit)
abbrev Y21:=(List R3)×Int×Bool×Unit
abbrev WH:=S8×Int×Int×Unit
abbrev uS:=S8×(List eS)×Unit
abbrev X1:=Unit×(((List R9)×Unit)×Unit)
abbrev Yi:=Unit×(Y4×Unit)
abbrev Y25:=Unit×(LI×Unit)
abbrev WQ:=Unit×(Y5×Unit)
abbrev Vw:=Unit×(Y7×Unit)
abbrev Y30:=Unit×(((List bW)×Unit)×Unit)
abbrev BV:=Unit×(Y9×Unit)
abbrev Wz:=Int×Int×(List R3)×(List R3)×Unit
abbrev Y36:=Unit×(Y1×Y2×Unit)
abbrev Y35:=(List bW)×(List bW)×Int×Int×Unit
abbrev Y39:=Int×uS×Unit
abbrev JY:=Unit×(Y4×Y2×Unit)
abbrev Y52:=Unit×(Y5×((List OE)×Unit)×Unit)
abbrev Uz:=Unit×(Wz×Unit)
abbrev Y57:=(List bm)×(Y9×Unit)×Int×Int×Unit
abbrev Y59:=Unit×(LI×Y1×Y2×Unit)
abbrev ZG:=Unit×(uS×Y2×Unit)
abbrev Y63:=Unit×(Y9×Y1×Y2×Unit)
abbrev VN:=Int×S8×S8×S8×S8×S8×Int×Int×Unit
abbrev yL:=S8×Int×Int×Int×Int×(List bm)×Int×Int×(List R3)×(List R3)×(List bW)×Unit
abbrev WU:=Unit×(yL×Unit)
abbrev DT:=Unit×(yL×Y1×Unit)
abbrev ah:K:= .int .i64
abbrev JR:K:= .sl 214 DC
abbrev q3:K:= .sl 3 rO
abbrev q5:K:= .sl 5 vf
abbrev Iz:K:= .sl 216 CM
abbrev Ez:K:= .sl 109 zo
abbrev Ye:K:= .sl 61 ZO
abbrev bu:K:= .sl 192 lI
abbrev bP:K:= .sl 100 so
abbrev jD:K:= .sl 94 Rs
abbrev Ev:K:= .sl 62 Xt
abbrev dO:K:= .sl 117 Gq
abbrev Qk:K:= .sl 38 YB
abbrev c0:Option gu:=zR false
abbrev c1:Option (Unit×(VN×Y1×Unit)):=some ((),((0,[],[],[],[],[],0,0,()),(1,()),()))
abbrev c2:Option iJ:=zR (-1)
abbrev c3:Option gu:=zR true
abbrev c4:Option Y63:=some ((),(([],()),(0,()),(false,()),()))
abbrev c5:Option iJ:=zR 0
abbrev c6:Option BV:=zR []
abbrev c7:Option JY:=some ((),(([],()),(false,()),()))
abbrev c8:Option DT:=some ((),(([],0,0,0,0,[],0,0,[],[],[],()),(1,()),()))
abbrev c9:Option iJ:=zR 2
abbrev Pe:Option ZG:=some ((),(([],[],()),(false,()),()))
abbrev WX:Option iJ:=zR 1
abbrev c12:Option DT:=some ((),(([],0,0,0,0,[],0,0,[],[],[],()),(4,()),()))
abbrev Xi:Option (Unit×(Y5×Y1×Y9×Unit)):=some ((),(([],()),(1,()),([],()),()))
abbrev WZ:Option (Unit×(Y5×Y1×Y9×Unit)):=some ((),(([],()),(3,()),([],()),()))
abbrev c15:Option (Unit×(Y7×Y2×Unit)):=some ((),(([],()),(false,()),()))
abbrev c16:Option Y59:=some ((),(([],()),(0,()),(false,()),()))
abbrev c17:Option iJ:=zR 3
abbrev c18:Option (Unit×(yL×yL×Y1×Unit)):=some ((),(([],0,0,0,0,[],0,0,[],[],[],()),([],0,0,0,0,[],0,0,[],[],[],()),(1,()),()))
abbrev c19:Option iJ:=zR 4
abbrev c20:Option iJ:=zR 6
abbrev c21:Option iJ:=zR 12
abbrev c22:Option iJ:=zR 8
abbrev c23:Option Y36:=some ((),((0,()),(false,()),()))
abbrev c24:Option (Unit×(Y1×Y1×Y2×Unit)):=some ((),((0,()),(0,()),(false,()),()))
abbrev c25:Option (Unit×(uS×Y1×Unit)):=some ((),(([],[],()),(2,()),()))
abbrev c26:Option (Unit×(uS×Y1×Unit)):=some ((),(([],[],()),(4,()),()))
abbrev c27:Option DT:=some ((),(([],0,0,0,0,[],0,0,[],[],[],()),(5,()),()))
abbrev c28:Option iJ:=zR 4611686018427387904
abbrev c29:Option X1:=zR [([48,48],()),([51,48],()),([49,50],()),([49,52],()),([49,51],()),([50,53],()),([57,52],()),([53,49],()),([54,53],()),([54,49],()),([57,54],())]
abbrev c30:Option (Unit×(VN×Y1×Unit)):=some ((),((0,[],[],[],[],[],0,0,()),(2,()),()))
abbrev c31:Option DT:=some ((),(([],0,0,0,0,[],0,0,[],[],[],()),(6,()),()))
abbrev c32:Option DT:=some ((),(([],0,0,0,0,[],0,0,[],[],[],()),(10,()),()))
abbrev c33:Option DT:=some ((),(([],0,0,0,0,[],0,0,[],[],[],()),(7,()),()))
abbrev c34:Option (Unit×(yL×yL×Y1×Unit)):=some ((),(([],0,0,0,0,[],0,0,[],[],[],()),([],0,0,0,0,[],0,0,[],[],[],()),(4,()),()))
abbrev c35:Option (Unit×(yL×yL×Y1×Unit)):=some ((),(([],0,0,0,0,[],0,0,[],[],[],()),([],0,0,0,0,[],0,0,[],[],[],()),(5,()),()))
abbrev c36:Option (Unit×(yL×yL×Y1×Unit)):=some ((),(([],0,0,0,0,[],0,0,[],[],[],()),([],0,0,0,0,[],0,0,[],[],[],()),(6,()),()))
abbrev c37:Option (Unit×(yL×yL×Y1×Unit)):=some ((),(([],0,0,0,0,[],0,0,[],[],[],()),([],0,0,0,0,[],0,0,[],[],[],()),(10,()),()))
abbrev c38:Option (Unit×(yL×yL×Y1×Unit)):=some ((),(([],0,0,0,0,[],0,0,[],[],[],()),([],0,0,0,0,[],0,0,[],[],[],()),(7,()),()))
abbrev c39:Option (Unit×(yL×Y1×Y1×Unit)):=some ((),(([],0,0,0,0,[],0,0,[],[],[],()),(0,()),(1,()),()))
section
open Go.Shelf Go.RowKit Go.Lib
def sρ:Ren:=⟨fun | 99=>287 | 105=>255 | 129=>327 | 165=>288 | 166=>289 | 169=>291 | 170=>290 | 171=>265 | 172=>201 | 205=>300 | 206=>306 | 212=>286 | 240=>307 | 241=>308 | 243=>296 | 244=>248 | 245=>249 | 246=>310 | 247=>277 | 263=>304 | 264=>305 | 276=>318 | 277=>319 | 279=>278 | 280=>279 | 281=>280 | 282=>281 | 283=>321 | 284=>322 | 285=>323 | 286=>324 | 287=>298 | 316=>299 | 317=>326 | 318=>328 | 319=>329 | 320=>330 | 321=>311 | 322=>312 | 337=>332 | 338=>333 | n=>n,fun | 0=>0 | 2=>2 | 3=>3 | 4=>4 | 5=>5 | 9=>9 | 20=>20 | 21=>21 | 37=>38 | 46=>141 | 51=>276 | 53=>269 | 70=>260 | 72=>262 | 75=>195 | 76=>196 | 80=>265 | 85=>248 | 109=>257 | 127=>281 | 143=>284 | 145=>286 | 146=>277 | 148=>279 | 164=>289 | 167=>247 | 168=>250 | 171=>293 | 173=>296 | 175=>270 | 210=>273 | 212=>303 | 213=>304 | 232=>307 | 233=>308 | n=>n,fun | 15=>0 | 16=>1 | 17=>5 | 18=>6 | 19=>7 | n=>n⟩
theorem wW:LaysC.n172 Tryz.prog sρ:=by repeat' first | kernel_rfl | (intro _; kernel_rfl) | decide | constructor
theorem wT:LaysM.n171 Tryz.prog sρ:=by repeat' first | kernel_rfl | (intro _; kernel_rfl) | decide | constructor
theorem yR:Lays.n105 Tryz.prog sρ:=by repeat' first | kernel_rfl | (intro _; kernel_rfl) | decide | constructor
theorem r8:Builder.Extra Tryz.prog sρ:=by repeat' first | kernel_rfl | (intro _; kernel_rfl) | decide | constructor
end
def RA(p0:S8×Int×Int×Unit)(p1:Int):Option iJ :=
 let u1:=(aW .i64 p1 (ae p0.1))
 cond (aG u1 0) (
 c2
 ) (
 zR u1
 )
abbrev gC : List (Bool × List K) := [(false,[.bool])]
abbrev j9 : List (Bool × List K) := [(false,[ah])]
abbrev Dg : List (Bool × List K) := [(false,[.str])]
abbrev Nt : List (Bool × List K) := [(true,[.str,ah,ah,ah,ah,bu,ah,ah,q3,q3,bP]),(false,[ah])]
abbrev OC : List (Bool × List K) := [(false,[q5]),(false,[.bool])]
abbrev PU : List (Bool × List K) := [(false,[bu])]
abbrev VP : List (Bool × List K) := [(true,[ah,ah,q3,q3])]
abbrev W9 : List (Bool × List K) := [(false,[q5])]
abbrev Xf : List (Bool × List K) := [(true,[.str,ah,ah,ah,ah,bu,ah,ah,q3,q3,bP])]
abbrev Xe : List (Bool × List K) := [(true,[jD])]
abbrev Ql : List (Bool × List K) := [(false,[.str]),(false,[ah]),(false,[.bool])]
def abR:Su:=fU [.c true [.str,ah,ah],.c false [ah]] j9 fun x=>RA x.1 x.2.1.1
theorem YY:au Tryz.prog 221 abR :=
 fq an Tryz.f221
def qb(t0:List lf)(t1 t5:Int):Rd ((List lf)×Int×Int×Unit) Y1 :=
 cond (aG t5 (ae t0)) (
 cond (aZ t5 t0) (
 (RA (gt d214 t0 t5) t1).bind fun y1 =>
 cond (aG y1.2.1.1 0) (
 eC ((-1),())
 ) (
 eA (t0,y1.2.1.1,(aw .i64 t5 1),())
 )
 ) none
 ) (
 eB (t0,t1,t5,())
 )
def N8:=vm (aq (iT qb))
def Pr(p0:List lf)(p1:Int):Option iJ :=
 let u1:=(aW .i64 p1 (ae p0))
 cond (aG u1 0) (
 c2
 ) (
 (N8 p0 u1 0).bind (Sum.elim (fun y1 =>
 zR y1.2.1
 ) (fun y1 =>
 some ((),(y1,()))
 ))
 )
def acu:Su:=fU [.c false [JR],.c false [ah]] j9 fun x=>Pr x.1.1 x.2.1.1
theorem YK:au Tryz.prog 148 acu :=
 fl (ac YY an) [.d 4 ah] [(0,⟨[.d 0 JR,.d 1 ah,.d 5 ah],aq (iT qb)⟩)] [] Tryz.f148 (lp [0] (sc dI sn))
def Lc(p0:List R3)(p1:Int):Option iJ :=
 let u1:=(aW .i64 p1 (ae p0))
 cond (aG u1 0) (
 c2
 ) (
 zR u1
 )
def aeh:Su:=fU [.c false [q3],.c false [ah]] j9 fun x=>Lc x.1.1 x.2.1.1
theorem Zk:au Tryz.prog 222 aeh :=
 fq an Tryz.f222
def Px(p0:Int×Int×(List R3)×(List R3)×Unit)(p1:Int):Option iJ :=
 (Lc p0.2.2.1 p1).bind fun y1 =>
 cond (aG y1.2.1.1 0) (
 c2
 ) (
 (Lc p0.2.2.2.1 y1.2.1.1).bind fun y2 =>
 cond (aG y2.2.1.1 0) (
 c2
 ) (
 some ((),(y2.2.1,()))
 )
 )
def abN:Su:=fU [.c true [ah,ah,q3,q3],.c false [ah]] j9 fun x=>Px x.1 x.2.1.1
theorem Yn:au Tryz.prog 149 abN :=
 fq (ac Zk an) Tryz.f149
def Xc(p0:List R5)(p1:Int):Option iJ :=
 let u1:=(aW .i64 p1 (ae p0))
 cond (aG u1 0) (
 c2
 ) (
 zR u1
 )
def s74:Su:=fU [.c false [q5],.c false [ah]] j9 fun x=>Xc x.1.1 x.2.1.1
theorem Zy:au Tryz.prog 74 s74 :=
 fq an Tryz.f74
def OO(p0:S8×S8×(List R5)×Unit)(p1:Int):Option iJ :=
 let u1:=(aW .i64 p1 (ae p0.1))
 cond (aG u1 0) (
 c2
 ) (
 let u2:=(aW .i64 u1 (ae p0.2.1))
 cond (aG u2 0) (
 c2
 ) (
 (Xc p0.2.2.1 u2).bind fun y1 =>
 cond (aG y1.2.1.1 0) (
 c2
 ) (
 some ((),(y1.2.1,()))
 )
 )
 )
def adC:Su:=fU [.c true [.str,.str,q5],.c false [ah]] j9 fun x=>OO x.1 x.2.1.1
theorem YS:au Tryz.prog 223 adC :=
 fq (ac Zy an) Tryz.f223
def qQ(t0:List js)(t1 t5:Int):Rd ((List js)×Int×Int×Unit) Y1 :=
 cond (aG t5 (ae t0)) (
 cond (aZ t5 t0) (
 (OO (gt d216 t0 t5) t1).bind fun y1 =>
 cond (aG y1.2.1.1 0) (
 eC ((-1),())
 ) (
 eA (t0,y1.2.1.1,(aw .i64 t5 1),())
 )
 ) none
 ) (
 eB (t0,t1,t5,())
 )
def LA:=vm (aq (iT qQ))
def Qi(p0:List js)(p1:Int):Option iJ :=
 let u1:=(aW .i64 p1 (ae p0))
 cond (aG u1 0) (
 c2
 ) (
 (LA p0 u1 0).bind (Sum.elim (fun y1 =>
 zR y1.2.1
 ) (fun y1 =>
 some ((),(y1,()))
 ))
 )
def acM:Su:=fU [.c false [Iz],.c false [ah]] j9 fun x=>Qi x.1.1 x.2.1.1
theorem X0:au Tryz.prog 150 acM :=
 fl (ac YS an) [.d 4 ah] [(0,⟨[.d 0 Iz,.d 1 ah,.d 5 ah],aq (iT qQ)⟩)] [] Tryz.f150 (lp [0] (sc dI sn))
def g73(p0:S8×Int×Int×Int×Int×(List lf)×Int×Int×(List R3)×(List R3)×(List js)×Unit)(p1:Int):Option iJ :=
 let u1:=(aW .i64 p1 (ae p0.1))
 cond (aG u1 0) (
 c2
 ) (
 (Pr p0.2.2.2.2.2.1 u1).bind fun y1 =>
 cond (aG y1.2.1.1 0) (
 c2
 ) (
 (Px (p0.2.2.2.2.2.2.1,p0.2.2.2.2.2.2.2.1,p0.2.2.2.2.2.2.2.2.1,p0.2.2.2.2.2.2.2.2.2.1,()) y1.2.1.1).bind fun y2 =>
 cond (aG y2.2.1.1 0) (
 c2
 ) (
 (Qi p0.2.2.2.2.2.2.2.2.2.2.1 y2.2.1.1).bind fun y3 =>
 cond (aG y3.2.1.1 0) (
 c2
 ) (
 some ((),(y3.2.1,()))
 )
 )
 )
 )
def s73:Su:=fU [.c true [.str,ah,ah,ah,ah,JR,ah,ah,q3,q3,Iz],.c false [ah]] j9 fun x=>g73 x.1 x.2.1.1
theorem abq:au Tryz.prog 73 s73 :=
 fq (ac YK (ac Yn (ac X0 an))) Tryz.f73
def wg(t0:List jW)(t1 t5:Int):Rd ((List jW)×Int×Int×Unit) Y1 :=
 cond (aG t5 (ae t0)) (
 cond (aZ t5 t0) (
 (g73 (gt d109 t0 t5) t1).bind fun y1 =>
 cond (aG y1.2.1.1 0) (
 eC ((-1),())
 ) (
 eA (t0,y1.2.1.1,(aw .i64 t5 1),())
 )
 ) none
 ) (
 eB (t0,t1,t5,())
 )
def SH:=vm (aq (iT wg))
def g34(p0:List jW)(p1:Int):Option iJ :=
 let u1:=(aW .i64 p1 (ae p0))
 cond (aG u1 0) (
 c2
 ) (
 (SH p0 u1 0).bind (Sum.elim (fun y1 =>
 zR y1.2.1
 ) (fun y1 =>
 some ((),(y1,()))
 ))
 )
def s34:Su:=fU [.c false [Ez],.c false [ah]] j9 fun x=>g34 x.1.1 x.2.1.1
theorem acN:au Tryz.prog 34 s34 :=
 fl (ac abq an) [.d 4 ah] [(0,⟨[.d 0 Ez,.d 1 ah,.d 5 ah],aq (iT wg)⟩)] [] Tryz.f34 (lp [0] (sc dI sn))
def g7(p0:(List jW)×Unit)(p1:Int):Option iJ :=
 (g34 p0.1 p1).bind fun y1 =>
 cond (aG y1.2.1.1 0) (
 c2
 ) (
 some ((),(y1.2.1,()))
 )
def s7:Su:=fU [.c true [Ez],.c false [ah]] j9 fun x=>g7 x.1 x.2.1.1
theorem ok7:au Tryz.prog 7 s7 :=
 fq (ac acN an) Tryz.f7
def g35(p0:Int×(List R5)×(List R5)×Unit)(p1:Int):Option iJ :=
 (Xc p0.2.1 p1).bind fun y1 =>
 cond (aG y1.2.1.1 0) (
 c2
 ) (
 (Xc p0.2.2.1 y1.2.1.1).bind fun y2 =>
 cond (aG y2.2.1.1 0) (
 c2
 ) (
 some ((),(y2.2.1,()))
 )
 )
def s35:Su:=fU [.c true [ah,q5,q5],.c false [ah]] j9 fun x=>g35 x.1 x.2.1.1
theorem adZ:au Tryz.prog 35 s35 :=
 fq (ac Zy an) Tryz.f35
def F2(t0:List vL)(t1 t5:Int):Rd ((List vL)×Int×Int×Unit) Y1 :=
 cond (aG t5 (ae t0)) (
 cond (aZ t5 t0) (
 (g35 (gt d61 t0 t5) t1).bind fun y1 =>
 cond (aG y1.2.1.1 0) (
 eC ((-1),())
 ) (
 eA (t0,y1.2.1.1,(aw .i64 t5 1),())
 )
 ) none
 ) (
 eB (t0,t1,t5,())
 )
def abd:=vm (aq (iT F2))
def g8(p0:List vL)(p1:Int):Option iJ :=
 let u1:=(aW .i64 p1 (ae p0))
 cond (aG u1 0) (
 c2
 ) (
 (abd p0 u1 0).bind (Sum.elim (fun y1 =>
 zR y1.2.1
 ) (fun y1 =>
 some ((),(y1,()))
 ))
 )
def s8:Su:=fU [.c false [Ye],.c false [ah]] j9 fun x=>g8 x.1.1 x.2.1.1
theorem ok8:au Tryz.prog 8 s8 :=
 fl (ac adZ an) [.d 4 ah] [(0,⟨[.d 0 Ye,.d 1 ah,.d 5 ah],aq (iT F2)⟩)] [] Tryz.f8 (lp [0] (sc dI sn))
def Ru(p0:S8×Int×Int×Unit):Option (Unit×(WH×Unit)) :=
 some ((),(p0,()))
def abV:Su:=fU [.c true [.str,ah,ah]] [(true,[.str,ah,ah])] fun x=>Ru x.1
theorem aa6:au Tryz.prog 224 abV :=
 fq an Tryz.f224
def ri(t0:List lf)(t3:List bm)(t4:Int):Rd ((List lf)×(List bm)×Int×Unit) Unit :=
 cond (aG t4 (ae t0)) (
 cond (aZ t4 t0) (
 (Ru (gt d214 t0 t4)).bind fun y1 =>
 cond (aZ t4 t3) (
 let u1:=(gt d192 t3 t4)
 let u2:=(dw t3 t4 (y1.2.1.1,u1.2.1,u1.2.2.1,()))
 let u3:=(gt d192 u2 t4)
 let u4:=(dw u2 t4 (u3.1,y1.2.1.2.1,u3.2.2.1,()))
 let u5:=(gt d192 u4 t4)
 eA (t0,(dw u4 t4 (u5.1,u5.2.1,y1.2.1.2.2.1,())),(aw .i64 t4 1),())
 ) none
 ) none
 ) (
 eB (t0,t3,t4,())
 )
def Nu:=vm (aq (iT ri))
def Pm(p0:List lf):Option Vw :=
 let u1:=(ae p0)
 cond (O3 32 u1) (
 (Nu p0 (um d192 u1) 0).bind (Sum.elim (fun y1 =>
 zR y1.2.1
 ) (fun _ =>
 none
 ))
 ) none
def adN:Su:=fU [.c false [JR]] PU fun x=>Pm x.1.1
theorem Yz:au Tryz.prog 151 adN :=
 fl (ac aa6 an) [] [(0,⟨[.d 0 JR,.own 3 bu,.d 4 ah],aq (iT ri)⟩)] [] Tryz.f151 (lp [0] (sc dI sn))
def xg(t0 t3:List R3)(t4:Int):Rd ((List R3)×(List R3)×Int×Unit) Unit :=
 cond (aG t4 (ae t0)) (
 cond (aZ t4 t0) (
 cond (aZ t4 t3) (
 eA (t0,(dw t3 t4 (gt d3 t0 t4)),(aw .i64 t4 1),())
 ) none
 ) none
 ) (
 eB (t0,t3,t4,())
 )
def TW:=vm (aq (iT xg))
def g30(p0:List R3):Option Y25 :=
 let u1:=(ae p0)
 cond (O3 8 u1) (
 (TW p0 (um d3 u1) 0).bind (Sum.elim (fun y1 =>
 zR y1.2.1
 ) (fun _ =>
 none
 ))
 ) none
def s30:Su:=fU [.c false [q3]] [(false,[q3])] fun x=>g30 x.1.1
theorem ad1:au Tryz.prog 30 s30 :=
 fl an [] [(0,⟨[.d 0 q3,.own 3 q3,.d 4 ah],aq (iT xg)⟩)] [] Tryz.f30 (lp [0] (sc dI sn))
def PD(p0:Int×Int×(List R3)×(List R3)×Unit):Option Uz :=
 (g30 p0.2.2.1).bind fun y1 =>
 (g30 p0.2.2.2.1).bind fun y2 =>
 some ((),((p0.1,p0.2.1,y1.2.1.1,y2.2.1.1,()),()))
def aef:Su:=fU [.c true [ah,ah,q3,q3]] VP fun x=>PD x.1
theorem aaa:au Tryz.prog 152 aef :=
 fq (ac ad1 an) Tryz.f152
def wo(t0 t3:List R5)(t4:Int):Rd ((List R5)×(List R5)×Int×Unit) Unit :=
 cond (aG t4 (ae t0)) (
 cond (aZ t4 t0) (
 cond (aZ t4 t3) (
 eA (t0,(dw t3 t4 (gt d5 t0 t4)),(aw .i64 t4 1),())
 ) none
 ) none
 ) (
 eB (t0,t3,t4,())
 )
def TH:=vm (aq (iT wo))
def g16(p0:List R5):Option Yi :=
 let u1:=(ae p0)
 cond (O3 1 u1) (
 (TH p0 (um d5 u1) 0).bind (Sum.elim (fun y1 =>
 zR y1.2.1
 ) (fun _ =>
 none
 ))
 ) none
def s16:Su:=fU [.c false [q5]] W9 fun x=>g16 x.1.1
theorem XJ:au Tryz.prog 16 s16 :=
 fl an [] [(0,⟨[.d 0 q5,.own 3 q5,.d 4 ah],aq (iT wo)⟩)] [] Tryz.f16 (lp [0] (sc dI sn))
def O7(p0:S8×S8×(List R5)×Unit):Option (Unit×(js×Unit)) :=
 (g16 p0.2.2.1).bind fun y1 =>
 some ((),((p0.1,p0.2.1,y1.2.1.1,()),()))
def adz:Su:=fU [.c true [.str,.str,q5]] [(true,[.str,.str,q5])] fun x=>O7 x.1
theorem abb:au Tryz.prog 225 adz :=
 fq (ac XJ an) Tryz.f225
def qf(t0:List js)(t3:List bW)(t4:Int):Rd ((List js)×(List bW)×Int×Unit) Unit :=
 cond (aG t4 (ae t0)) (
 cond (aZ t4 t0) (
 (O7 (gt d216 t0 t4)).bind fun y1 =>
 cond (aZ t4 t3) (
 let u1:=(gt d100 t3 t4)
 let u2:=(dw t3 t4 (y1.2.1.1,u1.2.1,u1.2.2.1,()))
 let u3:=(gt d100 u2 t4)
 let u4:=(dw u2 t4 (u3.1,y1.2.1.2.1,u3.2.2.1,()))
 let u5:=(gt d100 u4 t4)
 eA (t0,(dw u4 t4 (u5.1,u5.2.1,y1.2.1.2.2.1,())),(aw .i64 t4 1),())
 ) none
 ) none
 ) (
 eB (t0,t3,t4,())
 )
def K9:=vm (aq (iT qf))
def Rq(p0:List js):Option Y30 :=
 let u1:=(ae p0)
 cond (O3 56 u1) (
 (K9 p0 (um d100 u1) 0).bind (Sum.elim (fun y1 =>
 zR y1.2.1
 ) (fun _ =>
 none
 ))
 ) none
def aeb:Su:=fU [.c false [Iz]] [(false,[bP])] fun x=>Rq x.1.1
theorem YV:au Tryz.prog 153 aeb :=
 fl (ac abb an) [] [(0,⟨[.d 0 Iz,.own 3 bP,.d 4 ah],aq (iT qf)⟩)] [] Tryz.f153 (lp [0] (sc dI sn))
def g75(p0:S8×Int×Int×Int×Int×(List lf)×Int×Int×(List R3)×(List R3)×(List js)×Unit):Option WU :=
 (Pm p0.2.2.2.2.2.1).bind fun y1 =>
 (PD (p0.2.2.2.2.2.2.1,p0.2.2.2.2.2.2.2.1,p0.2.2.2.2.2.2.2.2.1,p0.2.2.2.2.2.2.2.2.2.1,())).bind fun y2 =>
 (Rq p0.2.2.2.2.2.2.2.2.2.2.1).bind fun y3 =>
 some ((),((p0.1,p0.2.1,p0.2.2.1,p0.2.2.2.1,p0.2.2.2.2.1,y1.2.1.1,y2.2.1.1,y2.2.1.2.1,y2.2.1.2.2.1,y2.2.1.2.2.2.1,y3.2.1.1,()),()))
def s75:Su:=fU [.c true [.str,ah,ah,ah,ah,JR,ah,ah,q3,q3,Iz]] Xf fun x=>g75 x.1
theorem adV:au Tryz.prog 75 s75 :=
 fq (ac Yz (ac aaa (ac YV an))) Tryz.f75
def x8(t0:List jW)(t3:List iI)(t4:Int):Rd ((List jW)×(List iI)×Int×Unit) Unit :=
 cond (aG t4 (ae t0)) (
 cond (aZ t4 t0) (
 (g75 (gt d109 t0 t4)).bind fun y1 =>
 cond (aZ t4 t3) (
 eA (t0,(dw t3 t4 y1.2.1),(aw .i64 t4 1),())
 ) none
 ) none
 ) (
 eB (t0,t3,t4,())
 )
def RJ:=vm (aq (iT x8))
def g36(p0:List jW):Option WQ :=
 let u1:=(ae p0)
 cond (O3 160 u1) (
 (RJ p0 (um d94 u1) 0).bind (Sum.elim (fun y1 =>
 zR y1.2.1
 ) (fun _ =>
 none
 ))
 ) none
def s36:Su:=fU [.c false [Ez]] [(false,[jD])] fun x=>g36 x.1.1
theorem adb:au Tryz.prog 36 s36 :=
 fl (ac adV an) [] [(0,⟨[.d 0 Ez,.own 3 jD,.d 4 ah],aq (iT x8)⟩)] [] Tryz.f36 (lp [0] (sc dI sn))
def g10(p0:(List jW)×Unit):Option WQ :=
 (g36 p0.1).bind fun y1 =>
 some ((),(y1.2.1,()))
def s10:Su:=fU [.c true [Ez]] Xe fun x=>g10 x.1
theorem aej:au Tryz.prog 10 s10 :=
 fq (ac adb an) Tryz.f10
def g37(p0:Int×(List R5)×(List R5)×Unit):Option (Unit×(vL×Unit)) :=
 (g16 p0.2.1).bind fun y1 =>
 (g16 p0.2.2.1).bind fun y2 =>
 some ((),((p0.1,y1.2.1.1,y2.2.1.1,()),()))
def s37:Su:=fU [.c true [ah,q5,q5]] [(true,[ah,q5,q5])] fun x=>g37 x.1
theorem abL:au Tryz.prog 37 s37 :=
 fq (ac XJ an) Tryz.f37
def wB(t0:List vL)(t3:List vn)(t4:Int):Rd ((List vL)×(List vn)×Int×Unit) Unit :=
 cond (aG t4 (ae t0)) (
 cond (aZ t4 t0) (
 (g37 (gt d61 t0 t4)).bind fun y1 =>
 cond (aZ t4 t3) (
 let u1:=(gt d62 t3 t4)
 let u2:=(dw t3 t4 (y1.2.1.1,u1.2.1,u1.2.2.1,()))
 let u3:=(gt d62 u2 t4)
 let u4:=(dw u2 t4 (u3.1,y1.2.1.2.1,u3.2.2.1,()))
 let u5:=(gt d62 u4 t4)
 eA (t0,(dw u4 t4 (u5.1,u5.2.1,y1.2.1.2.2.1,())),(aw .i64 t4 1),())
 ) none
 ) none
 ) (
 eB (t0,t3,t4,())
 )
def SR:=vm (aq (iT wB))
def g11(p0:List vL):Option (Unit×(((List vn)×Unit)×Unit)) :=
 let u1:=(ae p0)
 cond (O3 56 u1) (
 (SR p0 (um d62 u1) 0).bind (Sum.elim (fun y1 =>
 zR y1.2.1
 ) (fun _ =>
 none
 ))
 ) none
def s11:Su:=fU [.c false [Ye]] [(false,[Ev])] fun x=>g11 x.1.1
theorem acX:au Tryz.prog 11 s11 :=
 fl (ac abL an) [] [(0,⟨[.d 0 Ye,.own 3 Ev,.d 4 ah],aq (iT wB)⟩)] [] Tryz.f11 (lp [0] (sc dI sn))
def AQ(p0:Int×Int×(List R3)×(List R3)×Unit):Option Uz :=
 cond (a6 8 [] p0.2.2.1) (
 cond (a6 8 [] p0.2.2.2.1) (
 some ((),((p0.1,p0.2.1,(eV [] p0.2.2.1),(eV [] p0.2.2.2.1),()),()))
 ) none
 ) none
def adw:Su:=fU [.c true [ah,ah,q3,q3]] VP fun x=>AQ x.1
theorem KO:au Tryz.prog 157 adw :=
 fq an Tryz.f157
def yB(t3 t7:List bW)(t8 t9:Int):Rd Y35 Unit :=
 cond (aG t9 t8) (
 cond (aZ t9 t7) (
 let u1:=(gt d100 t7 t9)
 cond (a6 1 [] u1.2.2.1) (
 cond (a6 56 t3 [(u1.1,u1.2.1,(eV [] u1.2.2.1),())]) (
 eA ((eV t3 [(u1.1,u1.2.1,(eV [] u1.2.2.1),())]),t7,t8,(aw .i64 t9 1),())
 ) none
 ) none
 ) none
 ) (
 eB (t3,t7,t8,t9,())
 )
def Ss:=nA (aq (da yB))
def Vy(p0:List bW):Option Y30 :=
 (Ss [] p0 (ae p0) 0).bind (Sum.elim (fun y1 =>
 zR y1.1
 ) (fun _ =>
 none
 ))
def s98:Su:=fU [.c false [bP]] [(false,[bP])] fun x=>Vy x.1.1
theorem aaL:au Tryz.prog 98 s98 :=
 fl an [] [(0,⟨[.own 3 bP,.d 7 bP,.d 8 ah,.d 9 ah],aq (da yB)⟩)] [] Tryz.f98 (lp [0] (sc dI sn))
def KF(p0:S8×Int×Int×Int×Int×(List bm)×Int×Int×(List R3)×(List R3)×(List bW)×Unit):Option WU :=
 cond (a6 32 [] p0.2.2.2.2.2.1) (
 (AQ (p0.2.2.2.2.2.2.1,p0.2.2.2.2.2.2.2.1,p0.2.2.2.2.2.2.2.2.1,p0.2.2.2.2.2.2.2.2.2.1,())).bind fun y1 =>
 (Vy p0.2.2.2.2.2.2.2.2.2.2.1).bind fun y2 =>
 some ((),((p0.1,p0.2.1,p0.2.2.1,p0.2.2.2.1,p0.2.2.2.2.1,(eV [] p0.2.2.2.2.2.1),y1.2.1.1,y1.2.1.2.1,y1.2.1.2.2.1,y1.2.1.2.2.2.1,y2.2.1.1,()),()))
 ) none
def s77:Su:=fU [.c true [.str,ah,ah,ah,ah,bu,ah,ah,q3,q3,bP]] Xf fun x=>KF x.1
theorem O5:au Tryz.prog 77 s77 :=
 fq (ac KO (ac aaL an)) Tryz.f77
def xD(t8:List iI)(t9 t10:Int)(b2 b3:(List iI)×Unit):Rd ((List iI)×Int×Int×Y5×Y5×Unit) Unit :=
 cond (aG t10 t9) (
 cond (aZ t10 t8) (
 (KF (gt d94 t8 t10)).bind fun y1 =>
 cond (a6 160 b3.1 [y1.2.1]) (
 eA (t8,t9,(aw .i64 t10 1),b2,((eV b3.1 [y1.2.1]),()),())
 ) none
 ) none
 ) (
 eB (t8,t9,t10,b2,b3,())
 )
def Sj:=JU (aq (nD xD))
def VI(p0:(List iI)×Unit):Option WQ :=
 (Sj p0.1 (ae p0.1) 0 ([],()) ([],())).bind (Sum.elim (fun y1 =>
 some ((),(y1.2.2.2.2.1,()))
 ) (fun _ =>
 none
 ))
def s41:Su:=fU [.c true [jD]] Xe fun x=>VI x.1
theorem Jt:au Tryz.prog 41 s41 :=
 fl (ac O5 an) [] [(0,⟨[.d 8 jD,.d 9 ah,.d 10 ah,.box 2 [(true,jD)],.box 3 [(true,jD)]],aq (nD xD)⟩)] [] Tryz.f41 (lp [0] (sc dI sn))
def xK(t0:S8)(t3:Int):Rd Y14 Y2 :=
 cond (aG t3 (ae t0)) (
 cond (aZ t3 t0) (
 let u1:=(ee t0 t3)
 cond (aG u1 48) (
 eC (false,())
 ) (
 cond (aZ t3 t0) (
 cond (aG 57 u1) (
 eC (false,())
 ) (
 eA (t0,(aw .i64 t3 1),())
 )
 ) none
 )
 ) none
 ) (
 eB (t0,t3,())
 )
def SX:=Py (aq (yO xK))
def Eh(p0:S8):Option gu :=
 (SX p0 0).bind (Sum.elim (fun y1 =>
 zR (aG 0 (ae y1.1))
 ) (fun y1 =>
 some ((),(y1,()))
 ))
def s78:Su:=fU [.c false [.str]] gC fun x=>Eh x.1.1
theorem yZ:au Tryz.prog 78 s78 :=
 fl an [.d 2 .bool] [(0,⟨[.d 0 .str,.d 3 ah],aq (yO xK)⟩)] [] Tryz.f78 (lp [0] (sc dI sn))
def vY(t0:List R5)(t1 t2:Int)(t9:S8)(t10:Int):Rd ((List R5)×Int×Int×S8×Int×Unit) Unit :=
 cond (aG t10 (aw .i64 t1 (jU .i64 (aw .i64 t2 1) 2))) (
 cond (aZ t10 t0) (
 cond (aZ t10 t0) (
 let u1:=(dE .i64 (gt d5 t0 t10).1)
 let u2:=(strOf [((dE .u8 (aw .i64 48 (jU .i64 u1 16))),()),((dE .u8 (aw .i64 48 (eF u1 16))),())])
 cond (jv t9 u2) (
 eA (t0,t1,t2,(wz t9 u2),(aw .i64 t10 1),())
 ) none
 ) none
 ) none
 ) (
 eB (t0,t1,t2,t9,t10,())
 )
def Sb:=JU (aq (nD vY))
def Jo(p0:List R5)(p1 p2:Int):Option Y63 :=
 let u1:=(ae p0)
 cond (cond (cond (cond (aG p2 1) true (aG 38 p2)) true (aG p1 0)) true (aG u1 p1)) (
 c4
 ) (
 cond (aG (aW .i64 u1 p1) (jU .i64 (aw .i64 p2 1) 2)) (
 c4
 ) (
 (Sb p0 p1 p2 [] p1).bind (Sum.elim (fun y1 =>
 cond (aj (eF y1.2.2.1 2) 1) (
 cond (aZ 0 y1.2.2.2.1) (
 cond (!(aj (ee y1.2.2.2.1 0) 48)) (
 c4
 ) (
 let u2:=(ae y1.2.2.2.1)
 cond (dZ 1 u2 y1.2.2.2.1) (
 let u3:=(sub y1.2.2.2.1 1 u2)
 (Eh u3).bind fun y2 =>
 cond (!y2.2.1.1) (
 c4
 ) (
 some ((),((u3,()),((aw .i64 y1.2.1 (jU .i64 (aw .i64 y1.2.2.1 1) 2)),()),(true,()),()))
 )
 ) none
 )
 ) none
 ) (
 (Eh y1.2.2.2.1).bind fun y2 =>
 cond (!y2.2.1.1) (
 c4
 ) (
 some ((),((y1.2.2.2.1,()),((aw .i64 y1.2.1 (jU .i64 (aw .i64 y1.2.2.1 1) 2)),()),(true,()),()))
 )
 )
 ) (fun _ =>
 none
 ))
 )
 )
def s42:Su:=fU [.c false [q5],.c false [ah],.c false [ah]] Ql fun x=>Jo x.1.1 x.2.1.1 x.2.2.1.1
theorem Je:au Tryz.prog 42 s42 :=
 fl (ac yZ an) [] [(0,⟨[.d 0 q5,.d 1 ah,.d 2 ah,.d 9 .str,.d 10 ah],aq (nD vY)⟩)] [] Tryz.f42 (lp [0] (sc dI sn))
def tG(t0:List R5)(t1:Int)(t7:List R3)(t8:Int):Rd ((List R5)×Int×(List R3)×Int×Unit) Unit :=
 cond (bM t8 64) (
 let u1:=(aW .i64 t8 1)
 let u2:=(aw .i64 t1 (jU .i64 u1 8))
 cond (aZ u2 t0) (
 let u3:=(aW .i64 7 (eF u1 8))
 cond (bM 0 u3) (
 cond (aj (eF (pg .i64 (dE .i64 (gt d5 t0 u2).1) u3) 2) 1) (
 cond (a6 8 t7 [(t8,())]) (
 let u4:=(aw .i64 t8 1)
 eA (t0,t1,(eV t7 [(t8,())]),u4,())
 ) none
 ) (
 let u4:=(aw .i64 t8 1)
 eA (t0,t1,t7,u4,())
 )
 ) none
 ) none
 ) (
 eB (t0,t1,t7,t8,())
 )
def Ld:=nA (aq (da tG))
def Fa(p0:List R5)(p1:Int):Option Y59 :=
 cond (cond (aG p1 0) true (aG (aW .i64 (ae p0) 8) p1)) (
 c16
 ) (
 (Ld p0 p1 [] 1).bind (Sum.elim (fun y1 =>
 some ((),((y1.2.2.1,()),((aw .i64 y1.2.1 8),()),(true,()),()))
 ) (fun _ =>
 none
 ))
 )
def ab1:Su:=fU [.c false [q5],.c false [ah]] [(false,[q3]),(false,[ah]),(false,[.bool])] fun x=>Fa x.1.1 x.2.1.1
theorem Yc:au Tryz.prog 158 ab1 :=
 fl an [] [(0,⟨[.d 0 q5,.d 1 ah,.own 7 q3,.d 8 ah],aq (da tG)⟩)] [] Tryz.f158 (lp [0] (sc dI sn))
def BJ(p0:Int):Option iJ :=
 cond (aj p0 3) (
 WX
 ) (
 cond (aj p0 4) (
 WX
 ) (
 cond (aj p0 7) (
 WX
 ) (
 cond (aj p0 11) (
 WX
 ) (
 cond (aj p0 14) (
 WX
 ) (
 cond (aj p0 49) (
 WX
 ) (
 cond (aj p0 37) (
 c9
 ) (
 cond (aj p0 38) (
 c9
 ) (
 cond (aj p0 39) (
 c9
 ) (
 cond (aj p0 41) (
 c9
 ) (
 cond (aj p0 95) (
 c9
 ) (
 cond (aj p0 2) (
 c17
 ) (
 cond (aj p0 102) (
 c19
 ) (
 cond (aj p0 103) (
 c19
 ) (
 cond (aj p0 48) (
 zR 5
 ) (
 cond (aj p0 54) (
 zR 5
 ) (
 c5
 )
 )
 )
 )
 )
 )
 )
 )
 )
 )
 )
 )
 )
 )
 )
 )
def ad4:Su:=fU [.c false [ah]] j9 fun x=>BJ x.1.1
theorem CG:au Tryz.prog 159 ad4 :=
 fq an Tryz.f159
def vU(t0:List R5)(t6:Int)(t8:List R3)(t9:Bool)(t28:List R3)(t29 t30:Int):Rd ((List R5)×Int×(List R3)×Bool×(List R3)×Int×Int×Unit) Y21 :=
 cond (aG t30 t29) (
 cond (aZ t30 t28) (
 let u1:=(gt d3 t28 t30)
 cond (aj u1.1 1) (
 let u2:=(aw .i64 t30 1)
 eA (t0,t6,t8,true,t28,t29,u2,())
 ) (
 cond (a6 8 t8 [u1]) (
 let u2:=(aw .i64 t30 1)
 eA (t0,t6,(eV t8 [u1]),t9,t28,t29,u2,())
 ) none
 )
 ) none
 ) (
 eB (t0,t6,t8,t9,t28,t29,t30,())
 )
def Tu:=W8 (aq (zO vU))
def wF(t8:List R3)(t13:Int)(t56:List R3)(t57 t58:Int):Rd ((List R3)×Int×(List R3)×Int×Int×Unit) Y21 :=
 cond (aG t58 t57) (
 cond (aZ t58 t56) (
 cond (a6 8 t8 [((aw .i64 (gt d3 t56 t58).1 64),())]) (
 eA ((eV t8 [((aw .i64 (gt d3 t56 t58).1 64),())]),t13,t56,t57,(aw .i64 t58 1),())
 ) none
 ) none
 ) (
 eB (t8,t13,t56,t57,t58,())
 )
def Si:=JU (aq (nD wF))
def xb(_:Unit)(t6:Int)(t8:List R3)(t70 t71:Int):Rd (Unit×Int×(List R3)×Int×Int×Unit) Y21 :=
 cond (aG t71 t70) (
 cond (aZ t71 t8) (
 (BJ (gt d3 t8 t71).1).bind fun y1 =>
 cond (aj y1.2.1.1 0) (
 eC ([],0,false,())
 ) (
 eA ((),t6,t8,t70,(aw .i64 t71 1),())
 )
 ) none
 ) (
 eB ((),t6,t8,t70,t71,())
 )
def Mg:=JU (aq (nD xb))
def Z7(p0:List R5):Option Y59 :=
 (Fa p0 2).bind fun y1 =>
 cond (!y1.2.2.2.1.1) (
 c16
 ) (
 (Tu p0 y1.2.2.1.1 [] false y1.2.1.1 (ae y1.2.1.1) 0).bind (Sum.elim (fun y2 =>
 cond y2.2.2.2.1 (
 (Fa y2.1 y2.2.1).bind fun y3 =>
 let u1:=(ae y3.2.1.1)
 cond (cond (!y3.2.2.2.1.1) true (aj u1 0)) (
 c16
 ) (
 (Si y2.2.2.1 y3.2.2.1.1 y3.2.1.1 u1 0).bind (Sum.elim (fun y4 =>
 (Mg () y4.2.1 y4.1 (ae y4.1) 0).bind (Sum.elim (fun y5 =>
 some ((),((y5.2.2.1,()),(y5.2.1,()),(true,()),()))
 ) (fun y5 =>
 some ((),((y5.1,()),(y5.2.1,()),(y5.2.2.1,()),()))
 ))
 ) (fun y4 =>
 some ((),((y4.1,()),(y4.2.1,()),(y4.2.2.1,()),()))
 ))
 )
 ) (
 (Mg () y2.2.1 y2.2.2.1 (ae y2.2.2.1) 0).bind (Sum.elim (fun y3 =>
 some ((),((y3.2.2.1,()),(y3.2.1,()),(true,()),()))
 ) (fun y3 =>
 some ((),((y3.1,()),(y3.2.1,()),(y3.2.2.1,()),()))
 ))
 )
 ) (fun y2 =>
 some ((),((y2.1,()),(y2.2.1,()),(y2.2.2.1,()),()))
 ))
 )
def s79:Su:=fU [.c false [q5]] [(false,[q3]),(false,[ah]),(false,[.bool])] fun x=>Z7 x.1.1
theorem adi:au Tryz.prog 79 s79 :=
 fl (ac Yc (ac CG an)) [.own 2 q3,.d 3 ah,.d 4 .bool] [(0,⟨[.d 0 q5,.d 6 ah,.own 8 q3,.d 9 .bool,.own 28 q3,.d 29 ah,.d 30 ah],aq (zO vU)⟩),(2,⟨[.own 8 q3,.d 13 ah,.own 56 q3,.d 57 ah,.d 58 ah],aq (nD wF)⟩),(4,⟨[.al 69 8,.d 6 ah,.own 8 q3,.d 70 ah,.d 71 ah],aq (nD xb)⟩)] [] Tryz.f79 (lp [0,2,4] (sc dI (sc dI (sc dI sn))))
def ET(p0:Int):Option iJ :=
 cond (aj p0 2) (
 zR 19
 ) (
 cond (aj p0 3) (
 c20
 ) (
 cond (aj p0 11) (
 c20
 ) (
 cond (aj p0 38) (
 c20
 ) (
 cond (aj p0 4) (
 c21
 ) (
 cond (aj p0 37) (
 c21
 ) (
 cond (aj p0 95) (
 c21
 ) (
 cond (aj p0 7) (
 zR 10
 ) (
 cond (aj p0 14) (
 c19
 ) (
 cond (aj p0 39) (
 c9
 ) (
 cond (aj p0 41) (
 c22
 ) (
 cond (aj p0 49) (
 c17
 ) (
 cond (aj p0 102) (
 zR 20
 ) (
 cond (aj p0 103) (
 zR 20
 ) (
 cond (aj p0 48) (
 zR 60
 ) (
 cond (aj p0 54) (
 zR 60
 ) (
 c5
 )
 )
 )
 )
 )
 )
 )
 )
 )
 )
 )
 )
 )
 )
 )
 )
def ac2:Su:=fU [.c false [ah]] j9 fun x=>ET x.1.1
theorem Mr:au Tryz.prog 160 ac2 :=
 fq an Tryz.f160
def US(p0:Int):Option iJ :=
 cond (aj p0 3) (
 c9
 ) (
 cond (aj p0 4) (
 c9
 ) (
 cond (aj p0 5) (
 c17
 ) (
 c5
 )
 )
 )
def aco:Su:=fU [.c false [ah]] j9 fun x=>US x.1.1
theorem Sn:au Tryz.prog 161 aco :=
 fq an Tryz.f161
def wO(t0:S8)(t4 t5:Int):Rd WH Unit :=
 cond (aG t5 (ae t0)) (
 cond (aZ t5 t0) (
 eA (t0,(aW .i64 (aw .i64 (vi .i64 t4 10) (dE .i64 (ee t0 t5))) 48),(aw .i64 t5 1),())
 ) none
 ) (
 eB (t0,t4,t5,())
 )
def Tq:=vm (aq (iT wO))
def JV(p0:S8):Option Y36 :=
 (Eh p0).bind fun y1 =>
 cond (cond (!y1.2.1.1) true (aG 18 (ae p0))) (
 c23
 ) (
 (Tq p0 0 0).bind (Sum.elim (fun y2 =>
 some ((),((y2.2.1,()),(true,()),()))
 ) (fun _ =>
 none
 ))
 )
def s94:Su:=fU [.c false [.str]] [(false,[ah]),(false,[.bool])] fun x=>JV x.1.1
theorem abe:au Tryz.prog 94 s94 :=
 fl (ac yZ an) [] [(0,⟨[.d 0 .str,.d 4 ah,.d 5 ah],aq (iT wO)⟩)] [] Tryz.f94 (lp [0] (sc dI sn))
def LQ(p0:List R5)(p1 p2:Int):Option (Unit×(Y1×Y1×Y2×Unit)) :=
 cond (cond (!(aj p2 2)) (!(aj p2 3)) false) (
 c24
 ) (
 (Jo p0 p1 p2).bind fun y1 =>
 (JV y1.2.1.1).bind fun y2 =>
 some ((),(y2.2.1,y1.2.2.1,y1.2.2.2.1,()))
 )
def abW:Su:=fU [.c false [q5],.c false [ah],.c false [ah]] [(false,[ah]),(false,[ah]),(false,[.bool])] fun x=>LQ x.1.1 x.2.1.1 x.2.2.1.1
theorem YR:au Tryz.prog 162 abW :=
 fq (ac Je (ac abe an)) Tryz.f162
def rM(p0 p1 p2:Int):Option gu :=
 zR (cond (bM p1 p0) (bM p0 p2) false)
def s82:Su:=fU [.c false [ah],.c false [ah],.c false [ah]] gC fun x=>rM x.1.1 x.2.1.1 x.2.2.1.1
theorem pn:au Tryz.prog 82 s82 :=
 fq an Tryz.f82
def qO(t0:S8)(t3:Int):Rd Y14 Y2 :=
 cond (aG t3 (ae t0)) (
 cond (aZ t3 t0) (
 let u1:=(ee t0 t3)
 cond (aG u1 32) (
 eC (false,())
 ) (
 cond (aZ t3 t0) (
 cond (aG 126 u1) (
 eC (false,())
 ) (
 eA (t0,(aw .i64 t3 1),())
 )
 ) none
 )
 ) none
 ) (
 eB (t0,t3,())
 )
def Mx:=Py (aq (yO qO))
def BC(p0:S8):Option gu :=
 (Mx p0 0).bind (Sum.elim (fun _ =>
 c3
 ) (fun y1 =>
 some ((),(y1,()))
 ))
def abH:Su:=fU [.c false [.str]] gC fun x=>BC x.1.1
theorem Sz:au Tryz.prog 163 abH :=
 fl an [.d 2 .bool] [(0,⟨[.d 0 .str,.d 3 ah],aq (yO qO)⟩)] [] Tryz.f163 (lp [0] (sc dI sn))
def g80(p0:List R5)(p1 p2:Int):Option Y63 :=
 (BJ p2).bind fun y1 =>
 (ET p2).bind fun y2 =>
 cond (cond (aj y1.2.1.1 0) true (aG p1 0)) (
 c4
 ) (
 let u1:=(US y1.2.1.1)
 Option.bind u1 fun y3 =>
 cond (aG 0 y3.2.1.1) (
 Option.bind u1 fun y4 =>
 (LQ p0 p1 y4.2.1.1).bind fun y5 =>
 cond (!y5.2.2.2.1.1) (
 c4
 ) (
 (rM y5.2.1.1 1 y2.2.1.1).bind fun y6 =>
 cond (!y6.2.1.1) (
 c4
 ) (
 let u2:=(cond (aj y1.2.1.1 1) true (aj y1.2.1.1 3))
 cond u2 (
 (Jo p0 y5.2.2.1.1 y5.2.1.1).bind fun y7 =>
 some ((),(y7.2.1,y7.2.2.1,y7.2.2.2.1,()))
 ) (
 let u3:=(ae p0)
 cond (cond (aG u3 y5.2.2.1.1) true (aG (aW .i64 u3 y5.2.2.1.1) y5.2.1.1)) (
 c4
 ) (
 let u4:=(aw .i64 y5.2.2.1.1 y5.2.1.1)
 let u5:=(dZ y5.2.2.1.1 u4 p0)
 cond u5 (
 let u6:=(strOf (sub p0 y5.2.2.1.1 u4))
 (BC u6).bind fun y7 =>
 cond (!y7.2.1.1) (
 c4
 ) (
 cond u5 (
 some ((),((u6,()),(u4,()),(true,()),()))
 ) none
 )
 ) none
 )
 )
 )
 )
 ) (
 let u2:=(cond (aj y1.2.1.1 1) true (aj y1.2.1.1 3))
 cond u2 (
 (Jo p0 p1 y2.2.1.1).bind fun y4 =>
 some ((),(y4.2.1,y4.2.2.1,y4.2.2.2.1,()))
 ) (
 let u3:=(ae p0)
 cond (cond (aG u3 p1) true (aG (aW .i64 u3 p1) y2.2.1.1)) (
 c4
 ) (
 let u4:=(aw .i64 p1 y2.2.1.1)
 let u5:=(dZ p1 u4 p0)
 cond u5 (
 let u6:=(strOf (sub p0 p1 u4))
 (BC u6).bind fun y4 =>
 cond (!y4.2.1.1) (
 c4
 ) (
 cond u5 (
 some ((),((u6,()),(u4,()),(true,()),()))
 ) none
 )
 ) none
 )
 )
 )
 )
def s80:Su:=fU [.c false [q5],.c false [ah],.c false [ah]] Ql fun x=>g80 x.1.1 x.2.1.1 x.2.2.1.1
theorem abn:au Tryz.prog 80 s80 :=
 fq (ac Je (ac CG (ac Mr (ac Sn (ac YR (ac pn (ac Sz an))))))) Tryz.f80
def xH(t0:List R5)(t8:Int)(t35:List R3)(t36 t37:Int)(b2 b9:S8×(List eS)×Unit):Rd ((List R5)×Int×(List R3)×Int×Int×uS×uS×Unit) Y39 :=
 cond (aG t37 t36) (
 cond (aZ t37 t35) (
 (g80 t0 t8 (gt d3 t35 t37).1).bind fun y1 =>
 cond (!y1.2.2.2.1.1) (
 eC (3,([],[],()),())
 ) (
 cond (a6 24 b9.2.1 [((gt d3 t35 t37).1,y1.2.1.1,())]) (
 eA (t0,y1.2.2.1.1,t35,t36,(aw .i64 t37 1),b2,(b9.1,(eV b9.2.1 [((gt d3 t35 t37).1,y1.2.1.1,())]),()),())
 ) none
 )
 ) none
 ) (
 eB (t0,t8,t35,t36,t37,b2,b9,())
 )
def SM:=W8 (aq (zO xH))
def g43(p0:List R5):Option (Unit×(uS×Y1×Unit)) :=
 (Jo p0 0 4).bind fun y1 =>
 cond (!y1.2.2.2.1.1) (
 some ((),(([],[],()),(1,()),()))
 ) (
 (Z7 p0).bind fun y2 =>
 cond (!y2.2.2.2.1.1) (
 c25
 ) (
 (SM p0 y2.2.2.1.1 y2.2.1.1 (ae y2.2.1.1) 0 ([],[],()) (y1.2.1.1,[],())).bind (Sum.elim (fun y3 =>
 cond (!(aj y3.2.1 (ae y3.1))) (
 c26
 ) (
 some ((),(y3.2.2.2.2.2.2.1,(0,()),()))
 )
 ) (fun y3 =>
 some ((),(y3.2.1,(y3.1,()),()))
 ))
 )
 )
def s43:Su:=fU [.c false [q5]] [(true,[.str,dO]),(false,[ah])] fun x=>g43 x.1.1
theorem UZ:au Tryz.prog 43 s43 :=
 fl (ac Je (ac adi (ac abn an))) [.d 3 ah,.box 2 [(false,.str),(true,dO)]] [(0,⟨[.d 0 q5,.d 8 ah,.own 35 q3,.d 36 ah,.d 37 ah,.box 2 [(false,.str),(true,dO)],.box 9 [(false,.str),(true,dO)]],aq (zO xH)⟩)] [] Tryz.f43 (lp [0] (sc dI sn))
def tD(t0:S8)(t3:Int)(t4:Bool)(t5:Int):Rd (S8×Int×Bool×Int×Unit) Unit :=
 cond (bM 0 t5) (
 cond (aZ t5 t0) (
 cond t4 (
 let u1:=(aW .i64 (dE .i64 (ee t0 t5)) 48)
 let u2:=(vi .i64 2 u1)
 cond (aG 9 u2) (
 let u3:=(aW .i64 t5 1)
 eA (t0,(eF (aw .i64 t3 (aW .i64 u2 9)) 10),(!t4),u3,())
 ) (
 let u3:=(aW .i64 t5 1)
 eA (t0,(eF (aw .i64 t3 u2) 10),(!t4),u3,())
 )
 ) (
 let u1:=(aW .i64 (dE .i64 (ee t0 t5)) 48)
 let u2:=(aW .i64 t5 1)
 eA (t0,(eF (aw .i64 t3 u1) 10),(!t4),u2,())
 )
 ) none
 ) (
 eB (t0,t3,t4,t5,())
 )
def MN:=nA (aq (da tD))
def Q7(p0:S8):Option iJ :=
 (Eh p0).bind fun y1 =>
 cond (!y1.2.1.1) (
 c2
 ) (
 (MN p0 0 true (aW .i64 (ae p0) 1)).bind (Sum.elim (fun y2 =>
 zR (eF (aW .i64 10 y2.2.1) 10)
 ) (fun _ =>
 none
 ))
 )
def adv:Su:=fU [.c false [.str]] j9 fun x=>Q7 x.1.1
theorem XT:au Tryz.prog 269 adv :=
 fl (ac yZ an) [] [(0,⟨[.d 0 .str,.d 3 ah,.d 4 .bool,.d 5 ah],aq (da tD)⟩)] [] Tryz.f269 (lp [0] (sc dI sn))
def QZ(p0:S8):Option gu :=
 (Eh p0).bind fun y1 =>
 let u1:=(ae p0)
 cond (cond (!y1.2.1.1) true (aG u1 2)) (
 c0
 ) (
 let u2:=(aW .i64 u1 1)
 cond (dZ 0 u2 p0) (
 (Q7 (sub p0 0 u2)).bind fun y2 =>
 cond (aZ u2 p0) (
 zR (aj y2.2.1.1 (aW .i64 (dE .i64 (ee p0 u2)) 48))
 ) none
 ) none
 )
def ace:Su:=fU [.c false [.str]] gC fun x=>QZ x.1.1
theorem Zm:au Tryz.prog 228 ace :=
 fq (ac yZ (ac XT an)) Tryz.f228
def tY(p0:S8):Option gu :=
 cond (bM (ae p0) 19) (
 (QZ p0).bind fun y1 =>
 some ((),(y1.2.1,()))
 ) (
 c0
 )
def abQ:Su:=fU [.c false [.str]] gC fun x=>tY x.1.1
theorem TQ:au Tryz.prog 164 abQ :=
 fq (ac Zm an) Tryz.f164
def A4(p0:Int):Option gu :=
 zR (cond (bM 0 p0) (bM p0 4611686018427387904) false)
def adB:Su:=fU [.c false [ah]] gC fun x=>A4 x.1.1
theorem CJ:au Tryz.prog 165 adB :=
 fq an Tryz.f165
def pN(t0:S8)(t3:Int):Rd Y14 Y2 :=
 cond (aG t3 (ae t0)) (
 cond (aZ t3 t0) (
 let u1:=(ee t0 t3)
 cond (aG u1 48) (
 cond (aZ t3 t0) (
 cond (aG u1 97) (
 eC (false,())
 ) (
 cond (aZ t3 t0) (
 cond (aG 122 u1) (
 eC (false,())
 ) (
 eA (t0,(aw .i64 t3 1),())
 )
 ) none
 )
 ) none
 ) (
 cond (aZ t3 t0) (
 cond (aG 57 u1) (
 cond (aZ t3 t0) (
 cond (aG u1 97) (
 eC (false,())
 ) (
 cond (aZ t3 t0) (
 cond (aG 122 u1) (
 eC (false,())
 ) (
 eA (t0,(aw .i64 t3 1),())
 )
 ) none
 )
 ) none
 ) (
 eA (t0,(aw .i64 t3 1),())
 )
 ) none
 )
 ) none
 ) (
 eB (t0,t3,())
 )
def Md:=Py (aq (yO pN))
def JS(p0:S8):Option gu :=
 (Md p0 0).bind (Sum.elim (fun y1 =>
 (rM (ae y1.1) 1 6).bind fun y2 =>
 some ((),(y2.2.1,()))
 ) (fun y1 =>
 some ((),(y1,()))
 ))
def abI:Su:=fU [.c false [.str]] gC fun x=>JS x.1.1
theorem Nd:au Tryz.prog 176 abI :=
 fl (ac pn an) [.d 2 .bool] [(0,⟨[.d 0 .str,.d 3 ah],aq (yO pN)⟩)] [] Tryz.f176 (lp [0] (sc dI sn))
def He(p0:Int):Option gu :=
 (rM p0 0 1000000000).bind fun y1 =>
 some ((),(y1.2.1,()))
def s45:Su:=fU [.c false [ah]] gC fun x=>He x.1.1
theorem qz:au Tryz.prog 45 s45 :=
 fq (ac pn an) Tryz.f45
def Rl(p0:S8×Int×Int×Unit):Option gu :=
 (JS p0.1).bind fun y1 =>
 cond y1.2.1.1 (
 (rM p0.2.1 1 9007199254740992).bind fun y2 =>
 cond y2.2.1.1 (
 (He p0.2.2.1).bind fun y3 =>
 some ((),(y3.2.1,()))
 ) (
 c0
 )
 ) (
 c0
 )
def adt:Su:=fU [.c true [.str,ah,ah]] gC fun x=>Rl x.1
theorem ZV:au Tryz.prog 229 adt :=
 fq (ac pn (ac Nd (ac qz an))) Tryz.f229
def qL(t0 t5:List bm)(t6 t7:Int):Rd ((List bm)×(List bm)×Int×Int×Unit) Y2 :=
 cond (aG t7 t6) (
 cond (aZ t7 t5) (
 let u1:=(gt d192 t5 t7)
 (Rl u1).bind fun y1 =>
 cond (!y1.2.1.1) (
 eC (false,())
 ) (
 cond (aG 0 t7) (
 let u2:=(aW .i64 t7 1)
 cond (aZ u2 t0) (
 cond (!(yK (gt d192 t0 u2).1 u1.1)) (
 eC (false,())
 ) (
 eA (t0,t5,t6,(aw .i64 t7 1),())
 )
 ) none
 ) (
 eA (t0,t5,t6,(aw .i64 t7 1),())
 )
 )
 ) none
 ) (
 eB (t0,t5,t6,t7,())
 )
def Lk:=nA (aq (da qL))
def EC(p0:List bm):Option gu :=
 (Lk p0 p0 (ae p0) 0).bind (Sum.elim (fun y1 =>
 zR (bM (ae y1.1) 4)
 ) (fun y1 =>
 some ((),(y1,()))
 ))
def acU:Su:=fU [.c false [bu]] gC fun x=>EC x.1.1
theorem T1:au Tryz.prog 166 acU :=
 fl (ac ZV an) [.d 2 .bool] [(0,⟨[.d 0 bu,.d 5 bu,.d 6 ah,.d 7 ah],aq (da qL)⟩)] [] Tryz.f166 (lp [0] (sc dI sn))
def qM(t32 t33:Int)(b1:Int×Int×(List R3)×(List R3)×Unit):Rd (Int×Int×Wz×Unit) Y2 :=
 cond (aG t33 t32) (
 cond (aZ t33 b1.2.2.1) (
 (A4 (gt d3 b1.2.2.1 t33).1).bind fun y1 =>
 cond (!y1.2.1.1) (
 eC (false,())
 ) (
 cond (aZ t33 b1.2.2.2.1) (
 (A4 (gt d3 b1.2.2.2.1 t33).1).bind fun y2 =>
 cond (!y2.2.1.1) (
 eC (false,())
 ) (
 eA (t32,(aw .i64 t33 1),b1,())
 )
 ) none
 )
 ) none
 ) (
 eB (t32,t33,b1,())
 )
def MJ:=vm (aq (iT qM))
def Dk(p0:Int×Int×(List R3)×(List R3)×Unit):Option gu :=
 (rM p0.1 1 1000).bind fun y1 =>
 cond (!y1.2.1.1) (
 c0
 ) (
 let u1:=(ae p0.2.2.1)
 (rM u1 1 8).bind fun y2 =>
 cond (cond (!y2.2.1.1) true (!(aj (ae p0.2.2.2.1) u1))) (
 c0
 ) (
 (He p0.2.1).bind fun y3 =>
 cond (!y3.2.1.1) (
 c0
 ) (
 (MJ u1 0 p0).bind (Sum.elim (fun _ =>
 c3
 ) (fun y4 =>
 some ((),(y4,()))
 ))
 )
 )
 )
def abw:Su:=fU [.c true [ah,ah,q3,q3]] gC fun x=>Dk x.1
theorem Hl:au Tryz.prog 167 abw :=
 fl (ac pn (ac CJ (ac qz an))) [.d 2 .bool] [(0,⟨[.d 32 ah,.d 33 ah,.box 1 [(false,.int .i64),(false,.int .i64),(false,q3),(false,q3)]],aq (iT qM)⟩)] [] Tryz.f167 (lp [0] (sc dI sn))
def Pp(p0:S8×S8×(List R5)×Unit):Option gu :=
 (Eh p0.1).bind fun y1 =>
 cond (cond y1.2.1.1 (aj (ae p0.1) 6) false) (
 (Eh p0.2.1).bind fun y2 =>
 cond (cond y2.2.1.1 (aj (ae p0.2.1) 4) false) (
 (rM (ae p0.2.2.1) 1 200).bind fun y3 =>
 some ((),(y3.2.1,()))
 ) (
 c0
 )
 ) (
 c0
 )
def adA:Su:=fU [.c true [.str,.str,q5]] gC fun x=>Pp x.1
theorem aa9:au Tryz.prog 185 adA :=
 fq (ac yZ (ac pn an)) Tryz.f185
def yG(t0 t7:List bW)(t8 t9:Int)(t19:List bW)(t20 t21:Int)(b4:S8×S8×(List R5)×Unit):Rd ((List bW)×(List bW)×Int×Int×(List bW)×Int×Int×js×Unit) Y2 :=
 cond (aG t21 t20) (
 cond (aZ t21 t19) (
 let u1:=(gt d100 t19 t21)
 cond (cond (bk u1.1 b4.1) (bk u1.2.1 b4.2.1) false) (
 eC (false,())
 ) (
 eA (t0,t7,t8,t9,t19,t20,(aw .i64 t21 1),b4,())
 )
 ) none
 ) (
 eB (t0,t7,t8,t9,t19,t20,t21,b4,())
 )
def SV:=cu8 (aq (OJ yG))
def wG(t0 t7:List bW)(t8 t9:Int):Rd Y35 Y2 :=
 cond (aG t9 t8) (
 cond (aZ t9 t7) (
 let u1:=(gt d100 t7 t9)
 (Pp u1).bind fun y1 =>
 cond (!y1.2.1.1) (
 eC (false,())
 ) (
 cond (dZ 0 t9 t0) (
 let u2:=(sub t0 0 t9)
 (SV t0 t7 t8 t9 u2 (ae u2) 0 u1).bind (Sum.elim (fun y2 =>
 eA (y2.1,y2.2.1,y2.2.2.1,(aw .i64 y2.2.2.2.1 1),())
 ) (fun y2 =>
 eC (y2.1,())
 ))
 ) none
 )
 ) none
 ) (
 eB (t0,t7,t8,t9,())
 )
def Sl:=nA (aq (da wG))
def g99(p0:List bW):Option gu :=
 (Sl p0 p0 (ae p0) 0).bind (Sum.elim (fun y1 =>
 zR (bM (ae y1.1) 6)
 ) (fun y1 =>
 some ((),(y1,()))
 ))
def s99:Su:=fU [.c false [bP]] gC fun x=>g99 x.1.1
theorem Z5:au Tryz.prog 99 s99 :=
 fl (ac aa9 an) [.d 2 .bool] [(2,⟨[.d 0 bP,.d 7 bP,.d 8 ah,.d 9 ah,.d 19 bP,.d 20 ah,.d 21 ah,.box 4 [(false,.str),(false,.str),(false,q5)]],aq (OJ yG)⟩),(0,⟨[.d 0 bP,.d 7 bP,.d 8 ah,.d 9 ah],aq (da wG)⟩)] [] Tryz.f99 (lp [0] (sc (lp [2] (sc dI sn)) sn))
def K0(p0 p1 p2:Int):Option iJ :=
 cond (aG p0 p1) (
 zR p1
 ) (
 cond (aG p2 p0) (
 zR p2
 ) (
 zR p0
 )
 )
def abY:Su:=fU [.c false [ah],.c false [ah],.c false [ah]] j9 fun x=>K0 x.1.1 x.2.1.1 x.2.2.1.1
theorem aav:au Tryz.prog 231 abY :=
 fq an Tryz.f231
def Vm(p0 p1:Int):Option Y36 :=
 (A4 p0).bind fun y1 =>
 cond (!y1.2.1.1) (
 c23
 ) (
 (A4 p1).bind fun y2 =>
 cond (cond (!y2.2.1.1) true (aG (aW .i64 4611686018427387904 p1) p0)) (
 c23
 ) (
 some ((),(((aw .i64 p0 p1),()),(true,()),()))
 )
 )
def acv:Su:=fU [.c false [ah],.c false [ah]] [(false,[ah]),(false,[.bool])] fun x=>Vm x.1.1 x.2.1.1
theorem ZN:au Tryz.prog 230 acv :=
 fq (ac CJ an) Tryz.f230
def vT(p0 p1:Int):Option iJ :=
 (K0 p0 0 4611686018427387904).bind fun y1 =>
 (K0 p1 0 4611686018427387904).bind fun y2 =>
 (Vm y1.2.1.1 y2.2.1.1).bind fun y3 =>
 cond (!y3.2.2.1.1) (
 c28
 ) (
 some ((),(y3.2.1,()))
 )
def ad3:Su:=fU [.c false [ah],.c false [ah]] j9 fun x=>vT x.1.1 x.2.1.1
theorem Cl:au Tryz.prog 168 ad3 :=
 fq (ac aav (ac ZN an)) Tryz.f168
def qe(t3:Int)(t6:List bm)(t7 t8:Int):Rd (Int×(List bm)×Int×Int×Unit) Unit :=
 cond (aG t8 t7) (
 cond (aZ t8 t6) (
 (vT t3 (gt d192 t6 t8).2.1).bind fun y1 =>
 eA (y1.2.1.1,t6,t7,(aw .i64 t8 1),())
 ) none
 ) (
 eB (t3,t6,t7,t8,())
 )
def Kn:=nA (aq (da qe))
def Og(p0:List bm):Option iJ :=
 (Kn 0 p0 (ae p0) 0).bind (Sum.elim (fun y1 =>
 zR y1.1
 ) (fun _ =>
 none
 ))
def ab2:Su:=fU [.c false [bu]] j9 fun x=>Og x.1.1
theorem To:au Tryz.prog 169 ab2 :=
 fl (ac Cl an) [] [(0,⟨[.d 3 ah,.d 6 bu,.d 7 ah,.d 8 ah],aq (da qe)⟩)] [] Tryz.f169 (lp [0] (sc dI sn))
def OF(p0:S8×Int×Int×Int×Int×(List bm)×Int×Int×(List R3)×(List R3)×(List bW)×Unit):Option gu :=
 (tY p0.1).bind fun y1 =>
 cond (!y1.2.1.1) (
 c0
 ) (
 (rM p0.2.1 0 9007199254740992).bind fun y2 =>
 cond (!y2.2.1.1) (
 c0
 ) (
 (rM p0.2.2.2.1 0 1000).bind fun y3 =>
 cond (!y3.2.1.1) (
 c0
 ) (
 (rM p0.2.2.2.2.1 0 9007199254740992).bind fun y4 =>
 cond (!y4.2.1.1) (
 c0
 ) (
 (A4 p0.2.2.1).bind fun y5 =>
 cond (!y5.2.1.1) (
 c0
 ) (
 (EC p0.2.2.2.2.2.1).bind fun y6 =>
 cond y6.2.1.1 (
 (Dk (p0.2.2.2.2.2.2.1,p0.2.2.2.2.2.2.2.1,p0.2.2.2.2.2.2.2.2.1,p0.2.2.2.2.2.2.2.2.2.1,())).bind fun y7 =>
 cond y7.2.1.1 (
 (g99 p0.2.2.2.2.2.2.2.2.2.2.1).bind fun y8 =>
 cond y8.2.1.1 (
 (Og p0.2.2.2.2.2.1).bind fun y9 =>
 (vT p0.2.2.1 y9.2.1.1).bind fun y10 =>
 zR (bM y10.2.1.1 p0.2.1)
 ) (
 c0
 )
 ) (
 c0
 )
 ) (
 c0
 )
 )
 )
 )
 )
 )
def s81:Su:=fU [.c true [.str,ah,ah,ah,ah,bu,ah,ah,q3,q3,bP]] gC fun x=>OF x.1
theorem Az:au Tryz.prog 81 s81 :=
 fq (ac pn (ac TQ (ac CJ (ac T1 (ac Hl (ac Z5 (ac Cl (ac To an)))))))) Tryz.f81
def wc(t6:List iI)(t7 t8:Int)(b1:(List iI)×Unit):Rd ((List iI)×Int×Int×Y5×Unit) Y2 :=
 cond (aG t8 t7) (
 cond (aZ t8 t6) (
 let u1:=(gt d94 t6 t8)
 (OF u1).bind fun y1 =>
 cond (!y1.2.1.1) (
 eC (false,())
 ) (
 cond (aG 0 t8) (
 let u2:=(aW .i64 t8 1)
 cond (aZ u2 b1.1) (
 cond (!(yK (gt d94 b1.1 u2).1 u1.1)) (
 eC (false,())
 ) (
 eA (t6,t7,(aw .i64 t8 1),b1,())
 )
 ) none
 ) (
 eA (t6,t7,(aw .i64 t8 1),b1,())
 )
 )
 ) none
 ) (
 eB (t6,t7,t8,b1,())
 )
def RN:=nA (aq (da wc))
def Zx(p0:(List iI)×Unit):Option gu :=
 (RN p0.1 (ae p0.1) 0 p0).bind (Sum.elim (fun y1 =>
 zR (bM (ae y1.2.2.2.1.1) 6)
 ) (fun y1 =>
 some ((),(y1,()))
 ))
def s44:Su:=fU [.c true [jD]] gC fun x=>Zx x.1
theorem K6:au Tryz.prog 44 s44 :=
 fl (ac Az an) [.d 2 .bool] [(0,⟨[.d 6 jD,.d 7 ah,.d 8 ah,.box 1 [(false,jD)]],aq (da wc)⟩)] [] Tryz.f44 (lp [0] (sc dI sn))
def V2(p0:S8):Option BV :=
 (Eh p0).bind fun y1 =>
 let u1:=(ae p0)
 cond (cond (!y1.2.1.1) true (!(aj u1 4))) (
 c6
 ) (
 cond (aZ 2 p0) (
 let u2:=(ee p0 2)
 cond (aj (eF u2 2) 1) (
 c6
 ) (
 cond (dZ 0 2 p0) (
 cond (aZ 2 p0) (
 let u3:=(sub p0 0 2)
 let u4:=(strOf [((aw .u8 u2 1),())])
 cond (jv u3 u4) (
 cond (dZ 3 u1 p0) (
 let u5:=(wz u3 u4)
 let u6:=(sub p0 3 u1)
 cond (jv u5 u6) (
 zR (wz u5 u6)
 ) none
 ) none
 ) none
 ) none
 ) none
 )
 ) none
 )
def s46:Su:=fU [.c false [.str]] Dg fun x=>V2 x.1.1
theorem N2:au Tryz.prog 46 s46 :=
 fq (ac yZ an) Tryz.f46
def T7  : Option X1 :=
 c29
def ac6:Su:=fU [] [(false,[.sl 9 XG])] fun x=>T7 
theorem Yt:au Tryz.prog 170 ac6 :=
 fq an Tryz.f170
def W6(p0:Int):Option BV :=
 (T7).bind fun y1 =>
 (rM p0 0 (aW .i64 (ae y1.2.1.1) 1)).bind fun y2 =>
 cond (!y2.2.1.1) (
 c6
 ) (
 cond (aZ p0 y1.2.1.1) (
 some ((),((gt d9 y1.2.1.1 p0),()))
 ) none
 )
def s83:Su:=fU [.c false [ah]] Dg fun x=>W6 x.1.1
theorem YM:au Tryz.prog 83 s83 :=
 fq (ac pn (ac Yt an)) Tryz.f83
def vo(p0:Int)(p1:S8):Option gu :=
 (ET p0).bind fun y1 =>
 (BJ p0).bind fun y2 =>
 cond (aj y2.2.1.1 1) (
 let u1:=(Eh p1)
 Option.bind u1 fun y3 =>
 let u2:=(ae p1)
 zR (cond y3.2.1.1 (aj u2 y1.2.1.1) false)
 ) (
 cond (aj y2.2.1.1 2) (
 let u1:=(BC p1)
 Option.bind u1 fun y3 =>
 let u2:=(ae p1)
 zR (cond y3.2.1.1 (aj u2 y1.2.1.1) false)
 ) (
 cond (aj y2.2.1.1 3) (
 let u1:=(Eh p1)
 Option.bind u1 fun y3 =>
 let u2:=(ae p1)
 zR (cond y3.2.1.1 (bM u2 y1.2.1.1) false)
 ) (
 cond (aj y2.2.1.1 4) (
 let u1:=(BC p1)
 Option.bind u1 fun y3 =>
 cond y3.2.1.1 (
 let u2:=(ae p1)
 let u3:=(rM u2 1 y1.2.1.1)
 Option.bind u3 fun y4 =>
 some ((),(y4.2.1,()))
 ) (
 c0
 )
 ) (
 cond (aj y2.2.1.1 5) (
 let u1:=(BC p1)
 Option.bind u1 fun y3 =>
 cond y3.2.1.1 (
 let u2:=(ae p1)
 let u3:=(rM u2 1 y1.2.1.1)
 Option.bind u3 fun y4 =>
 some ((),(y4.2.1,()))
 ) (
 c0
 )
 ) (
 c0
 )
 )
 )
 )
 )
def abO:Su:=fU [.c false [ah],.c false [.str]] gC fun x=>vo x.1.1 x.2.1.1
theorem Hz:au Tryz.prog 171 abO :=
 fq (ac yZ (ac CG (ac Mr (ac pn (ac Sz an))))) Tryz.f171
def xE(t16:List eS)(t17 t18:Int)(b1:S8×(List eS)×Unit):Rd ((List eS)×Int×Int×uS×Unit) Y2 :=
 cond (aG t18 t17) (
 cond (aZ t18 t16) (
 let u1:=(gt d117 t16 t18)
 (vo u1.1 u1.2.1).bind fun y1 =>
 cond (!y1.2.1.1) (
 eC (false,())
 ) (
 cond (aG 0 t18) (
 let u2:=(aW .i64 t18 1)
 cond (aZ u2 b1.2.1) (
 cond (bM u1.1 (gt d117 b1.2.1 u2).1) (
 eC (false,())
 ) (
 eA (t16,t17,(aw .i64 t18 1),b1,())
 )
 ) none
 ) (
 eA (t16,t17,(aw .i64 t18 1),b1,())
 )
 )
 ) none
 ) (
 eB (t16,t17,t18,b1,())
 )
def M5:=nA (aq (da xE))
def Uf(p0:S8×(List eS)×Unit):Option gu :=
 (Eh p0.1).bind fun y1 =>
 cond (cond (!y1.2.1.1) true (!(aj (ae p0.1) 4))) (
 c0
 ) (
 (M5 p0.2.1 (ae p0.2.1) 0 p0).bind (Sum.elim (fun _ =>
 c3
 ) (fun y2 =>
 some ((),(y2,()))
 ))
 )
def s84:Su:=fU [.c true [.str,dO]] gC fun x=>Uf x.1
theorem QQ:au Tryz.prog 84 s84 :=
 fl (ac yZ (ac Hz an)) [.d 2 .bool] [(0,⟨[.d 16 dO,.d 17 ah,.d 18 ah,.box 1 [(false,.str),(false,dO)]],aq (da xE)⟩)] [] Tryz.f84 (lp [0] (sc dI sn))
def g47(p0:S8)(p1:Int):Option ZG :=
 (V2 p0).bind fun y1 =>
 (W6 p1).bind fun y2 =>
 (Uf (y1.2.1.1,[(39,y2.2.1.1,())],())).bind fun y3 =>
 cond (!y3.2.1.1) (
 Pe
 ) (
 some ((),((y1.2.1.1,[(39,y2.2.1.1,())],()),(true,()),()))
 )
def s47:Su:=fU [.c false [.str],.c false [ah]] [(true,[.str,dO]),(false,[.bool])] fun x=>g47 x.1.1 x.2.1.1
theorem Un:au Tryz.prog 47 s47 :=
 fq (ac N2 (ac YM (ac QQ an))) Tryz.f47
def yl(t0:S8)(t4:List R5)(t5:Int):Rd (S8×(List R5)×Int×Unit) Unit :=
 cond (aG t5 (ae t0)) (
 cond (aZ t5 t0) (
 let u1:=(aw .i64 t5 1)
 cond (aZ u1 t0) (
 cond (a6 1 t4 [((dE .u8 (aW .i64 (aw .i64 (vi .i64 (aW .i64 (dE .i64 (ee t0 t5)) 48) 16) (dE .i64 (ee t0 u1))) 48)),())]) (
 eA (t0,(eV t4 [((dE .u8 (aW .i64 (aw .i64 (vi .i64 (aW .i64 (dE .i64 (ee t0 t5)) 48) 16) (dE .i64 (ee t0 u1))) 48)),())]),(aw .i64 t5 2),())
 ) none
 ) none
 ) none
 ) (
 eB (t0,t4,t5,())
 )
def KQ:=vm (aq (iT yl))
def OG(p0:S8):Option JY :=
 (Eh p0).bind fun y1 =>
 let u1:=(ae p0)
 cond (cond (!y1.2.1.1) true (aG 38 u1)) (
 c7
 ) (
 cond (aj (eF u1 2) 1) (
 cond (jv [48] p0) (
 (KQ (wz [48] p0) [] 0).bind (Sum.elim (fun y2 =>
 some ((),((y2.2.1,()),(true,()),()))
 ) (fun _ =>
 none
 ))
 ) none
 ) (
 (KQ p0 [] 0).bind (Sum.elim (fun y2 =>
 some ((),((y2.2.1,()),(true,()),()))
 ) (fun _ =>
 none
 ))
 )
 )
def s85:Su:=fU [.c false [.str]] OC fun x=>OG x.1.1
theorem V9:au Tryz.prog 85 s85 :=
 fl (ac yZ an) [] [(0,⟨[.d 0 .str,.own 4 q5,.d 5 ah],aq (iT yl)⟩)] [] Tryz.f85 (lp [0] (sc dI sn))
def wv(t3:List R5)(t7:List R3)(t8 t9:Int):Rd ((List R5)×(List R3)×Int×Int×Unit) Unit :=
 cond (aG t9 t8) (
 cond (aZ t9 t7) (
 (rM (gt d3 t7 t9).1 1 64).bind fun y1 =>
 cond y1.2.1.1 (
 let u1:=(aW .i64 (gt d3 t7 t9).1 1)
 let u2:=(jU .i64 u1 8)
 cond (aZ u2 t3) (
 let u3:=(eF u1 8)
 cond (bM 0 u3) (
 cond (aZ u2 t3) (
 let u4:=(aw .i64 t9 1)
 eA ((dw t3 u2 ((Oy .u8 (gt d5 t3 u2).1 (pg .u8 128 u3)),())),t7,t8,u4,())
 ) none
 ) none
 ) none
 ) (
 let u1:=(aw .i64 t9 1)
 eA (t3,t7,t8,u1,())
 )
 ) none
 ) (
 eB (t3,t7,t8,t9,())
 )
def YZ:=nA (aq (da wv))
def P8(p0:List R3):Option Yi :=
 (YZ (um d5 8) p0 (ae p0) 0).bind (Sum.elim (fun y1 =>
 zR y1.1
 ) (fun _ =>
 none
 ))
def s86:Su:=fU [.c false [q3]] W9 fun x=>P8 x.1.1
theorem acT:au Tryz.prog 86 s86 :=
 fl (ac pn an) [] [(0,⟨[.own 3 q5,.d 7 q3,.d 8 ah,.d 9 ah],aq (da wv)⟩)] [] Tryz.f86 (lp [0] (sc dI sn))
def nH(t0:Int)(t3:S8):Rd Y15 Unit :=
 cond (aG 9 t0) (
 let u1:=(strOf [((dE .u8 (aw .i64 48 (eF t0 10))),())])
 cond (jv u1 t3) (
 eA ((jU .i64 t0 10),(wz u1 t3),())
 ) none
 ) (
 eB (t0,t3,())
 )
def NI:=Py (aq (yO nH))
def Rg(p0:Int):Option BV :=
 (A4 p0).bind fun y1 =>
 cond (!y1.2.1.1) (
 c6
 ) (
 (NI p0 []).bind (Sum.elim (fun y2 =>
 let u1:=(strOf [((dE .u8 (aw .i64 48 y2.1)),())])
 cond (jv u1 y2.2.1) (
 zR (wz u1 y2.2.1)
 ) none
 ) (fun _ =>
 none
 ))
 )
def aby:Su:=fU [.c false [ah]] Dg fun x=>Rg x.1.1
theorem XO:au Tryz.prog 270 aby :=
 fl (ac CJ an) [] [(0,⟨[.d 0 ah,.d 3 .str],aq (yO nH)⟩)] [] Tryz.f270 (lp [0] (sc dI sn))
def tZ(t1:Int)(t5:S8):Rd Y15 Unit :=
 cond (aG (ae t5) t1) (
 cond (jv [48] t5) (
 eA (t1,(wz [48] t5),())
 ) none
 ) (
 eB (t1,t5,())
 )
def LM:=Py (aq (yO tZ))
def IS(p0 p1:Int):Option BV :=
 (Rg p0).bind fun y1 =>
 cond (cond (cond (cond (bk y1.2.1.1 []) true (aG p1 1)) true (aG 18 p1)) true (aG p1 (ae y1.2.1.1))) (
 c6
 ) (
 (LM p1 y1.2.1.1).bind (Sum.elim (fun y2 =>
 zR y2.2.1
 ) (fun _ =>
 none
 ))
 )
def ady:Su:=fU [.c false [ah],.c false [ah]] Dg fun x=>IS x.1.1 x.2.1.1
theorem SG:au Tryz.prog 232 ady :=
 fl (ac XO an) [] [(0,⟨[.d 1 ah,.d 5 .str],aq (yO tZ)⟩)] [] Tryz.f232 (lp [0] (sc dI sn))
def E3(p0 p1:Int):Option JY :=
 cond (cond (!(aj p1 2)) (!(aj p1 3)) false) (
 c7
 ) (
 (IS p0 p1).bind fun y1 =>
 (OG y1.2.1.1).bind fun y2 =>
 some ((),(y2.2.1,y2.2.2.1,()))
 )
def ac9:Su:=fU [.c false [ah],.c false [ah]] OC fun x=>E3 x.1.1 x.2.1.1
theorem X6:au Tryz.prog 172 ac9 :=
 fq (ac V9 (ac SG an)) Tryz.f172
def g87(p0:Int)(p1:S8):Option JY :=
 (vo p0 p1).bind fun y1 =>
 cond (!y1.2.1.1) (
 c7
 ) (
 (BJ p0).bind fun y2 =>
 let u1:=(US y2.2.1.1)
 Option.bind u1 fun y3 =>
 cond (aG 0 y3.2.1.1) (
 Option.bind u1 fun y4 =>
 (E3 (ae p1) y4.2.1.1).bind fun y5 =>
 let u2:=(cond (aj y2.2.1.1 1) true (aj y2.2.1.1 3))
 cond u2 (
 let u3:=(OG p1)
 Option.bind u3 fun y6 =>
 cond (a6 1 y5.2.1.1 y6.2.1.1) (
 some ((),(((eV y5.2.1.1 y6.2.1.1),()),(true,()),()))
 ) none
 ) (
 let u3:=(bytesOf p1)
 cond (a6 1 y5.2.1.1 u3) (
 some ((),(((eV y5.2.1.1 u3),()),(true,()),()))
 ) none
 )
 ) (
 let u2:=(cond (aj y2.2.1.1 1) true (aj y2.2.1.1 3))
 cond u2 (
 let u3:=(OG p1)
 Option.bind u3 fun y4 =>
 cond (a6 1 [] y4.2.1.1) (
 some ((),(((eV [] y4.2.1.1),()),(true,()),()))
 ) none
 ) (
 let u3:=(bytesOf p1)
 cond (a6 1 [] u3) (
 some ((),(((eV [] u3),()),(true,()),()))
 ) none
 )
 )
 )
def s87:Su:=fU [.c false [ah],.c false [.str]] OC fun x=>g87 x.1.1 x.2.1.1
theorem ab7:au Tryz.prog 87 s87 :=
 fq (ac CG (ac Sn (ac Hz (ac V9 (ac X6 an))))) Tryz.f87
def xO(t4 t5:List R3)(t20:List eS)(t21 t22:Int)(b1:S8×(List eS)×Unit):Rd ((List R3)×(List R3)×(List eS)×Int×Int×uS×Unit) Unit :=
 cond (aG t22 t21) (
 cond (aZ t22 t20) (
 cond (aG 64 (gt d117 t20 t22).1) (
 cond (a6 8 t5 [((aW .i64 (gt d117 t20 t22).1 64),())]) (
 let u1:=(aw .i64 t22 1)
 eA (t4,(eV t5 [((aW .i64 (gt d117 t20 t22).1 64),())]),t20,t21,u1,b1,())
 ) none
 ) (
 cond (a6 8 t4 [((gt d117 t20 t22).1,())]) (
 let u1:=(aw .i64 t22 1)
 eA ((eV t4 [((gt d117 t20 t22).1,())]),t5,t20,t21,u1,b1,())
 ) none
 )
 ) none
 ) (
 eB (t4,t5,t20,t21,t22,b1,())
 )
def RX:=Xh (aq (BU xO))
def yn(t8:List R5)(t65:List eS)(t66 t67:Int):Rd ((List R5)×(List eS)×Int×Int×Unit) Unit :=
 cond (aG t67 t66) (
 cond (aZ t67 t65) (
 let u1:=(gt d117 t65 t67)
 (g87 u1.1 u1.2.1).bind fun y1 =>
 cond (a6 1 t8 y1.2.1.1) (
 eA ((eV t8 y1.2.1.1),t65,t66,(aw .i64 t67 1),())
 ) none
 ) none
 ) (
 eB (t8,t65,t66,t67,())
 )
def xT:=nA (aq (da yn))
def XE(p0:S8×(List eS)×Unit):Option JY :=
 (Uf p0).bind fun y1 =>
 cond (!y1.2.1.1) (
 c7
 ) (
 (RX [] [] p0.2.1 (ae p0.2.1) 0 p0).bind (Sum.elim (fun y2 =>
 (OG y2.2.2.2.2.2.1.1).bind fun y3 =>
 cond (aG 0 (ae y2.2.1)) (
 cond (a6 8 y2.1 [(1,())]) (
 (P8 (eV y2.1 [(1,())])).bind fun y4 =>
 let u1:=(a6 1 y3.2.1.1 y4.2.1.1)
 cond u1 (
 cond (aG 0 (ae y2.2.1)) (
 let u2:=(P8 y2.2.1)
 Option.bind u2 fun y5 =>
 let u3:=(eV y3.2.1.1 y4.2.1.1)
 let u4:=(a6 1 u3 y5.2.1.1)
 cond u4 (
 let u5:=(ae y2.2.2.2.2.2.1.2.1)
 let u6:=(xT (eV u3 y5.2.1.1) y2.2.2.2.2.2.1.2.1 u5 0)
 Option.bind u6 (Sum.elim (fun y6 =>
 some ((),((y6.1,()),(true,()),()))
 ) (fun _ =>
 none
 ))
 ) none
 ) (
 let u2:=(eV y3.2.1.1 y4.2.1.1)
 let u3:=(ae y2.2.2.2.2.2.1.2.1)
 let u4:=(xT u2 y2.2.2.2.2.2.1.2.1 u3 0)
 Option.bind u4 (Sum.elim (fun y5 =>
 some ((),((y5.1,()),(true,()),()))
 ) (fun _ =>
 none
 ))
 )
 ) none
 ) none
 ) (
 (P8 y2.1).bind fun y4 =>
 let u1:=(a6 1 y3.2.1.1 y4.2.1.1)
 cond u1 (
 cond (aG 0 (ae y2.2.1)) (
 let u2:=(P8 y2.2.1)
 Option.bind u2 fun y5 =>
 let u3:=(eV y3.2.1.1 y4.2.1.1)
 let u4:=(a6 1 u3 y5.2.1.1)
 cond u4 (
 let u5:=(ae y2.2.2.2.2.2.1.2.1)
 let u6:=(xT (eV u3 y5.2.1.1) y2.2.2.2.2.2.1.2.1 u5 0)
 Option.bind u6 (Sum.elim (fun y6 =>
 some ((),((y6.1,()),(true,()),()))
 ) (fun _ =>
 none
 ))
 ) none
 ) (
 let u2:=(eV y3.2.1.1 y4.2.1.1)
 let u3:=(ae y2.2.2.2.2.2.1.2.1)
 let u4:=(xT u2 y2.2.2.2.2.2.1.2.1 u3 0)
 Option.bind u4 (Sum.elim (fun y5 =>
 some ((),((y5.1,()),(true,()),()))
 ) (fun _ =>
 none
 ))
 )
 ) none
 )
 ) (fun _ =>
 none
 ))
 )
def s48:Su:=fU [.c true [.str,dO]] OC fun x=>XE x.1
theorem QU:au Tryz.prog 48 s48 :=
 fl (ac QQ (ac V9 (ac acT (ac ab7 an)))) [] [(0,⟨[.own 4 q3,.own 5 q3,.d 20 dO,.d 21 ah,.d 22 ah,.box 1 [(false,.str),(false,dO)]],aq (BU xO)⟩),(2,⟨[.own 8 q5,.d 65 dO,.d 66 ah,.d 67 ah],aq (da yn)⟩)] [] Tryz.f48 (lp [0,2] (sc dI (sc dI sn)))
def g88(p0:S8):Option gu :=
 zR (cond (cond (bk p0 [48,49,48,48]) true (bk p0 [48,50,48,48])) true (bk p0 [48,50,50,48]))
def s88:Su:=fU [.c false [.str]] gC fun x=>g88 x.1.1
theorem adq:au Tryz.prog 88 s88 :=
 fq an Tryz.f88
def we(t1:Int)(t9:List eS)(t10 t11:Int):Rd (Int×(List eS)×Int×Int×Unit) (S8×Bool×Unit) :=
 cond (aG t11 t10) (
 cond (aZ t11 t9) (
 let u1:=(gt d117 t9 t11)
 cond (aj u1.1 t1) (
 eC (u1.2.1,true,())
 ) (
 eA (t1,t9,t10,(aw .i64 t11 1),())
 )
 ) none
 ) (
 eB (t1,t9,t10,t11,())
 )
def Sr:=nA (aq (da we))
def wN(p0:S8×(List eS)×Unit)(p1:Int):Option (Unit×(Y9×Y2×Unit)) :=
 (Sr p1 p0.2.1 (ae p0.2.1) 0).bind (Sum.elim (fun _ =>
 some ((),(([],()),(false,()),()))
 ) (fun y1 =>
 some ((),((y1.1,()),(y1.2.1,()),()))
 ))
def s89:Su:=fU [.c true [.str,dO],.c false [ah]] [(false,[.str]),(false,[.bool])] fun x=>wN x.1 x.2.1.1
theorem Yh:au Tryz.prog 89 s89 :=
 fl an [.d 4 .str,.d 5 .bool] [(0,⟨[.d 1 ah,.d 9 dO,.d 10 ah,.d 11 ah],aq (da we)⟩)] [] Tryz.f89 (lp [0] (sc dI sn))
def DK(p0:Int):Option gu :=
 (rM p0 1 8).bind fun y1 =>
 some ((),(y1.2.1,()))
def ac8:Su:=fU [.c false [ah]] gC fun x=>DK x.1.1
theorem GM:au Tryz.prog 175 ac8 :=
 fq (ac pn an) Tryz.f175
def XD  : Option X1 :=
 zR [([],()),([48,49,48,48],()),([48,49,48,48],()),([48,50,50,48],()),([48,50,50,48],()),([48,50,50,48],()),([48,50,48,48],()),([48,49,48,48],()),([48,50,48,48],())]
def ad2:Su:=fU [] [(false,[.sl 9 XG])] fun x=>XD 
theorem aaE:au Tryz.prog 233 ad2 :=
 fq an Tryz.f233
def IL(p0:Int):Option BV :=
 (DK p0).bind fun y1 =>
 cond (!y1.2.1.1) (
 c6
 ) (
 (XD).bind fun y2 =>
 cond (aZ p0 y2.2.1.1) (
 some ((),((gt d9 y2.2.1.1 p0),()))
 ) none
 )
def abF:Su:=fU [.c false [ah]] Dg fun x=>IL x.1.1
theorem Sy:au Tryz.prog 173 abF :=
 fq (ac GM (ac aaE an)) Tryz.f173
def XF  : Option X1 :=
 zR [([],()),([48,48],()),([48,50],()),([48,49],()),([48,48],()),([50,48],()),([52,48],()),([51,49],()),([57,48],())]
def acx:Su:=fU [] [(false,[.sl 9 XG])] fun x=>XF 
theorem abh:au Tryz.prog 234 acx :=
 fq an Tryz.f234
def Ve(p0:Int):Option BV :=
 (DK p0).bind fun y1 =>
 cond (!y1.2.1.1) (
 c6
 ) (
 (XF).bind fun y2 =>
 cond (aZ p0 y2.2.1.1) (
 some ((),((gt d9 y2.2.1.1 p0),()))
 ) none
 )
def abP:Su:=fU [.c false [ah]] Dg fun x=>Ve x.1.1
theorem aaV:au Tryz.prog 174 abP :=
 fq (ac GM (ac abh an)) Tryz.f174
def DX(t0 t1:S8)(t5:Int):Rd (S8×S8×Int×Unit) Y1 :=
 cond (bM t5 8) (
 (IL t5).bind fun y1 =>
 cond (bk y1.2.1.1 t0) (
 (Ve t5).bind fun y2 =>
 cond (dZ 0 2 t1) (
 cond (bk y2.2.1.1 (sub t1 0 2)) (
 eC (t5,())
 ) (
 eA (t0,t1,(aw .i64 t5 1),())
 )
 ) none
 ) (
 eA (t0,t1,(aw .i64 t5 1),())
 )
 ) (
 eB (t0,t1,t5,())
 )
def SJ:=vm (aq (iT DX))
def Zf(p0 p1:S8):Option iJ :=
 (SJ p0 p1 1).bind (Sum.elim (fun _ =>
 c5
 ) (fun y1 =>
 some ((),(y1,()))
 ))
def s90:Su:=fU [.c false [.str],.c false [.str]] j9 fun x=>Zf x.1.1 x.2.1.1
theorem adp:au Tryz.prog 90 s90 :=
 fl (ac Sy (ac aaV an)) [.d 4 ah] [(0,⟨[.d 0 .str,.d 1 .str,.d 5 ah],aq (iT DX)⟩)] [] Tryz.f90 (lp [0] (sc dI sn))
def Xd(p0:Int):Option gu :=
 (DK p0).bind fun y1 =>
 zR (cond y1.2.1.1 (aG p0 7) false)
def s91:Su:=fU [.c false [ah]] gC fun x=>Xd x.1.1
theorem aaP:au Tryz.prog 91 s91 :=
 fq (ac GM an) Tryz.f91
def Hd(t0:S8)(t3:Int):Rd Y14 Unit :=
 cond (aG 0 t3) (
 let u1:=(aW .i64 t3 1)
 cond (aZ u1 t0) (
 cond (aj (ee t0 u1) 32) (
 eA (t0,u1,())
 ) (
 eB (t0,t3,())
 )
 ) none
 ) (
 eB (t0,t3,())
 )
def Se:=Py (aq (yO Hd))
def g92(p0:S8):Option BV :=
 (Se p0 (ae p0)).bind (Sum.elim (fun y1 =>
 cond (dZ 0 y1.2.1 y1.1) (
 zR (sub y1.1 0 y1.2.1)
 ) none
 ) (fun _ =>
 none
 ))
def s92:Su:=fU [.c false [.str]] Dg fun x=>g92 x.1.1
theorem adk:au Tryz.prog 92 s92 :=
 fl an [] [(0,⟨[.d 0 .str,.d 3 ah],aq (yO Hd)⟩)] [] Tryz.f92 (lp [0] (sc dI sn))
def Tz(p0:Int):Option gu :=
 (rM p0 1 4).bind fun y1 =>
 some ((),(y1.2.1,()))
def s93:Su:=fU [.c false [ah]] gC fun x=>Tz x.1.1
theorem XX:au Tryz.prog 93 s93 :=
 fq (ac pn an) Tryz.f93
def yX(p0:Int×S8×S8×S8×S8×S8×Int×Int×Unit):Option gu :=
 (DK p0.1).bind fun y1 =>
 cond (!y1.2.1.1) (
 c0
 ) (
 (IL p0.1).bind fun y2 =>
 cond (!(bk p0.2.2.2.2.2.1 y2.2.1.1)) (
 c0
 ) (
 (tY p0.2.1).bind fun y3 =>
 cond (!y3.2.1.1) (
 c0
 ) (
 (Eh p0.2.2.2.2.1).bind fun y4 =>
 cond (cond (!y4.2.1.1) true (!(aj (ae p0.2.2.2.2.1) 6))) (
 c0
 ) (
 let u1:=(Xd p0.1)
 Option.bind u1 fun y5 =>
 cond y5.2.1.1 (
 (JS p0.2.2.2.1).bind fun y6 =>
 cond (!y6.2.1.1) (
 c0
 ) (
 Option.bind u1 fun y7 =>
 cond (cond (!y7.2.1.1) (!(bk p0.2.2.2.1 [])) false) (
 c0
 ) (
 let u2:=(Tz p0.1)
 Option.bind u2 fun y8 =>
 cond y8.2.1.1 (
 let u3:=(rM p0.2.2.2.2.2.2.1 0 999999999999)
 Option.bind u3 fun y9 =>
 cond (!y9.2.1.1) (
 c0
 ) (
 Option.bind u2 fun y10 =>
 cond (cond (!y10.2.1.1) (!(aj p0.2.2.2.2.2.2.1 0)) false) (
 c0
 ) (
 cond (aj p0.1 1) (
 let u4:=(rM p0.2.2.2.2.2.2.2.1 0 9999)
 Option.bind u4 fun y11 =>
 cond (!y11.2.1.1) (
 c0
 ) (
 let u5:=(cond (!(aj p0.1 1)) (!(aj p0.2.2.2.2.2.2.2.1 0)) false)
 cond u5 (
 c0
 ) (
 cond (aj p0.1 6) (
 let u6:=(tY p0.2.2.1)
 Option.bind u6 fun y12 =>
 cond y12.2.1.1 (
 c3
 ) (
 zR (cond (!(aj p0.1 6)) (bk p0.2.2.1 []) false)
 )
 ) (
 zR (cond (!(aj p0.1 6)) (bk p0.2.2.1 []) false)
 )
 )
 )
 ) (
 let u4:=(cond (!(aj p0.1 1)) (!(aj p0.2.2.2.2.2.2.2.1 0)) false)
 cond u4 (
 c0
 ) (
 cond (aj p0.1 6) (
 let u5:=(tY p0.2.2.1)
 Option.bind u5 fun y11 =>
 cond y11.2.1.1 (
 c3
 ) (
 zR (cond (!(aj p0.1 6)) (bk p0.2.2.1 []) false)
 )
 ) (
 zR (cond (!(aj p0.1 6)) (bk p0.2.2.1 []) false)
 )
 )
 )
 )
 )
 ) (
 Option.bind u2 fun y9 =>
 let u3:=(cond (!y9.2.1.1) (!(aj p0.2.2.2.2.2.2.1 0)) false)
 cond u3 (
 c0
 ) (
 cond (aj p0.1 1) (
 let u4:=(rM p0.2.2.2.2.2.2.2.1 0 9999)
 Option.bind u4 fun y10 =>
 cond (!y10.2.1.1) (
 c0
 ) (
 let u5:=(cond (!(aj p0.1 1)) (!(aj p0.2.2.2.2.2.2.2.1 0)) false)
 cond u5 (
 c0
 ) (
 cond (aj p0.1 6) (
 let u6:=(tY p0.2.2.1)
 Option.bind u6 fun y11 =>
 cond y11.2.1.1 (
 c3
 ) (
 zR (cond (!(aj p0.1 6)) (bk p0.2.2.1 []) false)
 )
 ) (
 zR (cond (!(aj p0.1 6)) (bk p0.2.2.1 []) false)
 )
 )
 )
 ) (
 let u4:=(cond (!(aj p0.1 1)) (!(aj p0.2.2.2.2.2.2.2.1 0)) false)
 cond u4 (
 c0
 ) (
 cond (aj p0.1 6) (
 let u5:=(tY p0.2.2.1)
 Option.bind u5 fun y10 =>
 cond y10.2.1.1 (
 c3
 ) (
 zR (cond (!(aj p0.1 6)) (bk p0.2.2.1 []) false)
 )
 ) (
 zR (cond (!(aj p0.1 6)) (bk p0.2.2.1 []) false)
 )
 )
 )
 )
 )
 )
 )
 ) (
 Option.bind u1 fun y6 =>
 cond (cond (!y6.2.1.1) (!(bk p0.2.2.2.1 [])) false) (
 c0
 ) (
 let u2:=(Tz p0.1)
 Option.bind u2 fun y7 =>
 cond y7.2.1.1 (
 let u3:=(rM p0.2.2.2.2.2.2.1 0 999999999999)
 Option.bind u3 fun y8 =>
 cond (!y8.2.1.1) (
 c0
 ) (
 Option.bind u2 fun y9 =>
 let u4:=(cond (!y9.2.1.1) (!(aj p0.2.2.2.2.2.2.1 0)) false)
 cond u4 (
 c0
 ) (
 cond (aj p0.1 1) (
 let u5:=(rM p0.2.2.2.2.2.2.2.1 0 9999)
 Option.bind u5 fun y10 =>
 cond (!y10.2.1.1) (
 c0
 ) (
 let u6:=(cond (!(aj p0.1 1)) (!(aj p0.2.2.2.2.2.2.2.1 0)) false)
 cond u6 (
 c0
 ) (
 cond (aj p0.1 6) (
 let u7:=(tY p0.2.2.1)
 Option.bind u7 fun y11 =>
 cond y11.2.1.1 (
 c3
 ) (
 zR (cond (!(aj p0.1 6)) (bk p0.2.2.1 []) false)
 )
 ) (
 zR (cond (!(aj p0.1 6)) (bk p0.2.2.1 []) false)
 )
 )
 )
 ) (
 let u5:=(cond (!(aj p0.1 1)) (!(aj p0.2.2.2.2.2.2.2.1 0)) false)
 cond u5 (
 c0
 ) (
 cond (aj p0.1 6) (
 let u6:=(tY p0.2.2.1)
 Option.bind u6 fun y10 =>
 cond y10.2.1.1 (
 c3
 ) (
 zR (cond (!(aj p0.1 6)) (bk p0.2.2.1 []) false)
 )
 ) (
 zR (cond (!(aj p0.1 6)) (bk p0.2.2.1 []) false)
 )
 )
 )
 )
 )
 ) (
 Option.bind u2 fun y8 =>
 cond (cond (!y8.2.1.1) (!(aj p0.2.2.2.2.2.2.1 0)) false) (
 c0
 ) (
 cond (aj p0.1 1) (
 let u3:=(rM p0.2.2.2.2.2.2.2.1 0 9999)
 Option.bind u3 fun y9 =>
 cond (!y9.2.1.1) (
 c0
 ) (
 let u4:=(cond (!(aj p0.1 1)) (!(aj p0.2.2.2.2.2.2.2.1 0)) false)
 cond u4 (
 c0
 ) (
 cond (aj p0.1 6) (
 let u5:=(tY p0.2.2.1)
 Option.bind u5 fun y10 =>
 cond y10.2.1.1 (
 c3
 ) (
 zR (cond (!(aj p0.1 6)) (bk p0.2.2.1 []) false)
 )
 ) (
 zR (cond (!(aj p0.1 6)) (bk p0.2.2.1 []) false)
 )
 )
 )
 ) (
 let u3:=(cond (!(aj p0.1 1)) (!(aj p0.2.2.2.2.2.2.2.1 0)) false)
 cond u3 (
 c0
 ) (
 cond (aj p0.1 6) (
 let u4:=(tY p0.2.2.1)
 Option.bind u4 fun y9 =>
 cond y9.2.1.1 (
 c3
 ) (
 zR (cond (!(aj p0.1 6)) (bk p0.2.2.1 []) false)
 )
 ) (
 zR (cond (!(aj p0.1 6)) (bk p0.2.2.1 []) false)
 )
 )
 )
 )
 )
 )
 )
 )
 )
 )
 )
def s95:Su:=fU [.c true [ah,.str,.str,.str,.str,.str,ah,ah]] gC fun x=>yX x.1
theorem UK:au Tryz.prog 95 s95 :=
 fq (ac yZ (ac pn (ac TQ (ac Nd (ac GM (ac Sy (ac aaP (ac XX an)))))))) Tryz.f95
def g49(p0:S8×(List eS)×Unit):Option (Unit×(VN×Y1×Unit)) :=
 (Uf p0).bind fun y1 =>
 cond (!y1.2.1.1) (
 c1
 ) (
 (g88 p0.1).bind fun y2 =>
 cond (!y2.2.1.1) (
 c30
 ) (
 (wN p0 3).bind fun y3 =>
 cond (!y3.2.2.1.1) (
 c1
 ) (
 (Zf p0.1 y3.2.1.1).bind fun y4 =>
 (wN p0 2).bind fun y5 =>
 (wN p0 11).bind fun y6 =>
 (Xd y4.2.1.1).bind fun y7 =>
 cond y7.2.1.1 (
 (wN p0 38).bind fun y8 =>
 (g92 y8.2.1.1).bind fun y9 =>
 let u1:=(Tz y4.2.1.1)
 Option.bind u1 fun y10 =>
 cond y10.2.1.1 (
 let u2:=(wN p0 4)
 Option.bind u2 fun y11 =>
 let u3:=(JV y11.2.1.1)
 Option.bind u3 fun y12 =>
 cond (aj y4.2.1.1 1) (
 let u4:=(wN p0 14)
 Option.bind u4 fun y13 =>
 (JV y13.2.1.1).bind fun y14 =>
 cond (aj y4.2.1.1 6) (
 let u5:=(wN p0 103)
 Option.bind u5 fun y15 =>
 let u6:=(cond y3.2.2.1.1 y11.2.2.1.1 false)
 cond (!(cond u6 y13.2.2.1.1 false)) (
 c1
 ) (
 (yX (y4.2.1.1,y5.2.1.1,y15.2.1.1,y9.2.1.1,y6.2.1.1,p0.1,y12.2.1.1,y14.2.1.1,())).bind fun y16 =>
 cond (!y16.2.1.1) (
 c1
 ) (
 some ((),((y4.2.1.1,y5.2.1.1,y15.2.1.1,y9.2.1.1,y6.2.1.1,p0.1,y12.2.1.1,y14.2.1.1,()),(0,()),()))
 )
 )
 ) (
 let u5:=(cond y3.2.2.1.1 y11.2.2.1.1 false)
 cond (!(cond u5 y13.2.2.1.1 false)) (
 c1
 ) (
 (yX (y4.2.1.1,y5.2.1.1,[],y9.2.1.1,y6.2.1.1,p0.1,y12.2.1.1,y14.2.1.1,())).bind fun y15 =>
 cond (!y15.2.1.1) (
 c1
 ) (
 some ((),((y4.2.1.1,y5.2.1.1,[],y9.2.1.1,y6.2.1.1,p0.1,y12.2.1.1,y14.2.1.1,()),(0,()),()))
 )
 )
 )
 ) (
 cond (aj y4.2.1.1 6) (
 let u4:=(wN p0 103)
 Option.bind u4 fun y13 =>
 let u5:=(cond y3.2.2.1.1 y11.2.2.1.1 false)
 cond (!u5) (
 c1
 ) (
 (yX (y4.2.1.1,y5.2.1.1,y13.2.1.1,y9.2.1.1,y6.2.1.1,p0.1,y12.2.1.1,0,())).bind fun y14 =>
 cond (!y14.2.1.1) (
 c1
 ) (
 some ((),((y4.2.1.1,y5.2.1.1,y13.2.1.1,y9.2.1.1,y6.2.1.1,p0.1,y12.2.1.1,0,()),(0,()),()))
 )
 )
 ) (
 let u4:=(cond y3.2.2.1.1 y11.2.2.1.1 false)
 cond (!u4) (
 c1
 ) (
 (yX (y4.2.1.1,y5.2.1.1,[],y9.2.1.1,y6.2.1.1,p0.1,y12.2.1.1,0,())).bind fun y13 =>
 cond (!y13.2.1.1) (
 c1
 ) (
 some ((),((y4.2.1.1,y5.2.1.1,[],y9.2.1.1,y6.2.1.1,p0.1,y12.2.1.1,0,()),(0,()),()))
 )
 )
 )
 )
 ) (
 cond (aj y4.2.1.1 1) (
 let u2:=(wN p0 14)
 Option.bind u2 fun y11 =>
 let u3:=(JV y11.2.1.1)
 Option.bind u3 fun y12 =>
 cond (aj y4.2.1.1 6) (
 let u4:=(wN p0 103)
 Option.bind u4 fun y13 =>
 let u5:=(cond y3.2.2.1.1 y11.2.2.1.1 false)
 cond (!u5) (
 c1
 ) (
 (yX (y4.2.1.1,y5.2.1.1,y13.2.1.1,y9.2.1.1,y6.2.1.1,p0.1,0,y12.2.1.1,())).bind fun y14 =>
 cond (!y14.2.1.1) (
 c1
 ) (
 some ((),((y4.2.1.1,y5.2.1.1,y13.2.1.1,y9.2.1.1,y6.2.1.1,p0.1,0,y12.2.1.1,()),(0,()),()))
 )
 )
 ) (
 let u4:=(cond y3.2.2.1.1 y11.2.2.1.1 false)
 cond (!u4) (
 c1
 ) (
 (yX (y4.2.1.1,y5.2.1.1,[],y9.2.1.1,y6.2.1.1,p0.1,0,y12.2.1.1,())).bind fun y13 =>
 cond (!y13.2.1.1) (
 c1
 ) (
 some ((),((y4.2.1.1,y5.2.1.1,[],y9.2.1.1,y6.2.1.1,p0.1,0,y12.2.1.1,()),(0,()),()))
 )
 )
 )
 ) (
 cond (aj y4.2.1.1 6) (
 let u2:=(wN p0 103)
 Option.bind u2 fun y11 =>
 cond (!y3.2.2.1.1) (
 c1
 ) (
 (yX (y4.2.1.1,y5.2.1.1,y11.2.1.1,y9.2.1.1,y6.2.1.1,p0.1,0,0,())).bind fun y12 =>
 cond (!y12.2.1.1) (
 c1
 ) (
 some ((),((y4.2.1.1,y5.2.1.1,y11.2.1.1,y9.2.1.1,y6.2.1.1,p0.1,0,0,()),(0,()),()))
 )
 )
 ) (
 cond (!y3.2.2.1.1) (
 c1
 ) (
 (yX (y4.2.1.1,y5.2.1.1,[],y9.2.1.1,y6.2.1.1,p0.1,0,0,())).bind fun y11 =>
 cond (!y11.2.1.1) (
 c1
 ) (
 some ((),((y4.2.1.1,y5.2.1.1,[],y9.2.1.1,y6.2.1.1,p0.1,0,0,()),(0,()),()))
 )
 )
 )
 )
 )
 ) (
 let u1:=(Tz y4.2.1.1)
 Option.bind u1 fun y8 =>
 cond y8.2.1.1 (
 let u2:=(wN p0 4)
 Option.bind u2 fun y9 =>
 let u3:=(JV y9.2.1.1)
 Option.bind u3 fun y10 =>
 cond (aj y4.2.1.1 1) (
 let u4:=(wN p0 14)
 Option.bind u4 fun y11 =>
 let u5:=(JV y11.2.1.1)
 Option.bind u5 fun y12 =>
 cond (aj y4.2.1.1 6) (
 let u6:=(wN p0 103)
 Option.bind u6 fun y13 =>
 let u7:=(cond y3.2.2.1.1 y9.2.2.1.1 false)
 cond (!(cond u7 y11.2.2.1.1 false)) (
 c1
 ) (
 (yX (y4.2.1.1,y5.2.1.1,y13.2.1.1,[],y6.2.1.1,p0.1,y10.2.1.1,y12.2.1.1,())).bind fun y14 =>
 cond (!y14.2.1.1) (
 c1
 ) (
 some ((),((y4.2.1.1,y5.2.1.1,y13.2.1.1,[],y6.2.1.1,p0.1,y10.2.1.1,y12.2.1.1,()),(0,()),()))
 )
 )
 ) (
 let u6:=(cond y3.2.2.1.1 y9.2.2.1.1 false)
 cond (!(cond u6 y11.2.2.1.1 false)) (
 c1
 ) (
 (yX (y4.2.1.1,y5.2.1.1,[],[],y6.2.1.1,p0.1,y10.2.1.1,y12.2.1.1,())).bind fun y13 =>
 cond (!y13.2.1.1) (
 c1
 ) (
 some ((),((y4.2.1.1,y5.2.1.1,[],[],y6.2.1.1,p0.1,y10.2.1.1,y12.2.1.1,()),(0,()),()))
 )
 )
 )
 ) (
 cond (aj y4.2.1.1 6) (
 let u4:=(wN p0 103)
 Option.bind u4 fun y11 =>
 let u5:=(cond y3.2.2.1.1 y9.2.2.1.1 false)
 cond (!u5) (
 c1
 ) (
 (yX (y4.2.1.1,y5.2.1.1,y11.2.1.1,[],y6.2.1.1,p0.1,y10.2.1.1,0,())).bind fun y12 =>
 cond (!y12.2.1.1) (
 c1
 ) (
 some ((),((y4.2.1.1,y5.2.1.1,y11.2.1.1,[],y6.2.1.1,p0.1,y10.2.1.1,0,()),(0,()),()))
 )
 )
 ) (
 let u4:=(cond y3.2.2.1.1 y9.2.2.1.1 false)
 cond (!u4) (
 c1
 ) (
 (yX (y4.2.1.1,y5.2.1.1,[],[],y6.2.1.1,p0.1,y10.2.1.1,0,())).bind fun y11 =>
 cond (!y11.2.1.1) (
 c1
 ) (
 some ((),((y4.2.1.1,y5.2.1.1,[],[],y6.2.1.1,p0.1,y10.2.1.1,0,()),(0,()),()))
 )
 )
 )
 )
 ) (
 cond (aj y4.2.1.1 1) (
 let u2:=(wN p0 14)
 Option.bind u2 fun y9 =>
 let u3:=(JV y9.2.1.1)
 Option.bind u3 fun y10 =>
 cond (aj y4.2.1.1 6) (
 let u4:=(wN p0 103)
 Option.bind u4 fun y11 =>
 let u5:=(cond y3.2.2.1.1 y9.2.2.1.1 false)
 cond (!u5) (
 c1
 ) (
 (yX (y4.2.1.1,y5.2.1.1,y11.2.1.1,[],y6.2.1.1,p0.1,0,y10.2.1.1,())).bind fun y12 =>
 cond (!y12.2.1.1) (
 c1
 ) (
 some ((),((y4.2.1.1,y5.2.1.1,y11.2.1.1,[],y6.2.1.1,p0.1,0,y10.2.1.1,()),(0,()),()))
 )
 )
 ) (
 let u4:=(cond y3.2.2.1.1 y9.2.2.1.1 false)
 cond (!u4) (
 c1
 ) (
 (yX (y4.2.1.1,y5.2.1.1,[],[],y6.2.1.1,p0.1,0,y10.2.1.1,())).bind fun y11 =>
 cond (!y11.2.1.1) (
 c1
 ) (
 some ((),((y4.2.1.1,y5.2.1.1,[],[],y6.2.1.1,p0.1,0,y10.2.1.1,()),(0,()),()))
 )
 )
 )
 ) (
 cond (aj y4.2.1.1 6) (
 let u2:=(wN p0 103)
 Option.bind u2 fun y9 =>
 cond (!y3.2.2.1.1) (
 c1
 ) (
 (yX (y4.2.1.1,y5.2.1.1,y9.2.1.1,[],y6.2.1.1,p0.1,0,0,())).bind fun y10 =>
 cond (!y10.2.1.1) (
 c1
 ) (
 some ((),((y4.2.1.1,y5.2.1.1,y9.2.1.1,[],y6.2.1.1,p0.1,0,0,()),(0,()),()))
 )
 )
 ) (
 cond (!y3.2.2.1.1) (
 c1
 ) (
 (yX (y4.2.1.1,y5.2.1.1,[],[],y6.2.1.1,p0.1,0,0,())).bind fun y9 =>
 cond (!y9.2.1.1) (
 c1
 ) (
 some ((),((y4.2.1.1,y5.2.1.1,[],[],y6.2.1.1,p0.1,0,0,()),(0,()),()))
 )
 )
 )
 )
 )
 )
 )
 )
 )
def s49:Su:=fU [.c true [.str,dO]] [(true,[ah,.str,.str,.str,.str,.str,ah,ah]),(false,[ah])] fun x=>g49 x.1
theorem Wb:au Tryz.prog 49 s49 :=
 fq (ac abe (ac QQ (ac adq (ac Yh (ac adp (ac aaP (ac adk (ac XX (ac UK an))))))))) Tryz.f49
def Bs(t0:Int)(t1:S8):Rd Y15 Unit :=
 (ET t0).bind fun y1 =>
 cond (aG (ae t1) y1.2.1.1) (
 (BJ t0).bind fun y2 =>
 cond (aj y2.2.1.1 1) (
 cond (jv [48] t1) (
 eA (t0,(wz [48] t1),())
 ) none
 ) (
 eB (t0,t1,())
 )
 ) (
 eB (t0,t1,())
 )
def KH:=Py (aq (yO Bs))
def tB(t0:Int)(t1:S8):Rd Y15 Unit :=
 (ET t0).bind fun y1 =>
 cond (aG (ae t1) y1.2.1.1) (
 (BJ t0).bind fun y2 =>
 cond (aj y2.2.1.1 2) (
 cond (jv t1 [32]) (
 eA (t0,(wz t1 [32]),())
 ) none
 ) (
 eB (t0,t1,())
 )
 ) (
 eB (t0,t1,())
 )
def Oh:=Py (aq (yO tB))
def PH(p0:Int)(p1:S8):Option BV :=
 (KH p0 p1).bind (Sum.elim (fun y1 =>
 (Oh y1.1 y1.2.1).bind (Sum.elim (fun y2 =>
 (vo y2.1 y2.2.1).bind fun y3 =>
 cond (!y3.2.1.1) (
 c6
 ) (
 zR y2.2.1
 )
 ) (fun _ =>
 none
 ))
 ) (fun _ =>
 none
 ))
def abA:Su:=fU [.c false [ah],.c false [.str]] Dg fun x=>PH x.1.1 x.2.1.1
theorem Zz:au Tryz.prog 177 abA :=
 fl (ac CG (ac Mr (ac Hz an))) [] [(0,⟨[.d 0 ah,.d 1 .str],aq (yO Bs)⟩),(2,⟨[.d 0 ah,.d 1 .str],aq (yO tB)⟩)] [] Tryz.f177 (lp [0,2] (sc dI (sc dI sn)))
def yi(t1:Int)(t2 t3:S8)(t11:Bool)(t34:List R3)(t35 t36:Int)(b4 b8 b10:S8×(List eS)×Unit):Rd (Int×S8×S8×Bool×(List R3)×Int×Int×uS×uS×uS×Unit) Unit :=
 cond (aG t36 t35) (
 cond (aZ t36 t34) (
 (wN b4 (gt d3 t34 t36).1).bind fun y1 =>
 cond (aj (gt d3 t34 t36).1 38) (
 (PH 38 t2).bind fun y2 =>
 cond (cond (aj t1 0) (!(bk t2 [])) false) (
 cond t11 (
 let u1:=(vo (gt d3 t34 t36).1 y2.2.1.1)
 Option.bind u1 fun y3 =>
 let u2:=(a6 24 b10.2.1 [((gt d3 t34 t36).1,y2.2.1.1,())])
 cond u2 (
 let u3:=(aw .i64 t36 1)
 eA (t1,t2,t3,y3.2.1.1,t34,t35,u3,b4,b8,(b10.1,(eV b10.2.1 [((gt d3 t34 t36).1,y2.2.1.1,())]),()),())
 ) none
 ) (
 let u1:=(a6 24 b10.2.1 [((gt d3 t34 t36).1,y2.2.1.1,())])
 cond u1 (
 let u2:=(aw .i64 t36 1)
 eA (t1,t2,t3,false,t34,t35,u2,b4,b8,(b10.1,(eV b10.2.1 [((gt d3 t34 t36).1,y2.2.1.1,())]),()),())
 ) none
 )
 ) (
 let u1:=(aw .i64 t36 1)
 eA (t1,t2,t3,t11,t34,t35,u1,b4,b8,b10,())
 )
 ) (
 cond (aj (gt d3 t34 t36).1 39) (
 (W6 t1).bind fun y2 =>
 cond t11 (
 let u1:=(vo (gt d3 t34 t36).1 y2.2.1.1)
 Option.bind u1 fun y3 =>
 let u2:=(a6 24 b10.2.1 [((gt d3 t34 t36).1,y2.2.1.1,())])
 cond u2 (
 let u3:=(aw .i64 t36 1)
 eA (t1,t2,t3,y3.2.1.1,t34,t35,u3,b4,b8,(b10.1,(eV b10.2.1 [((gt d3 t34 t36).1,y2.2.1.1,())]),()),())
 ) none
 ) (
 let u1:=(a6 24 b10.2.1 [((gt d3 t34 t36).1,y2.2.1.1,())])
 cond u1 (
 let u2:=(aw .i64 t36 1)
 eA (t1,t2,t3,false,t34,t35,u2,b4,b8,(b10.1,(eV b10.2.1 [((gt d3 t34 t36).1,y2.2.1.1,())]),()),())
 ) none
 )
 ) (
 cond (aj (gt d3 t34 t36).1 54) (
 cond (!(bk t3 [])) (
 cond t11 (
 (vo (gt d3 t34 t36).1 t3).bind fun y2 =>
 let u1:=(a6 24 b10.2.1 [((gt d3 t34 t36).1,t3,())])
 cond u1 (
 let u2:=(aw .i64 t36 1)
 eA (t1,t2,t3,y2.2.1.1,t34,t35,u2,b4,b8,(b10.1,(eV b10.2.1 [((gt d3 t34 t36).1,t3,())]),()),())
 ) none
 ) (
 let u1:=(a6 24 b10.2.1 [((gt d3 t34 t36).1,t3,())])
 cond u1 (
 let u2:=(aw .i64 t36 1)
 eA (t1,t2,t3,false,t34,t35,u2,b4,b8,(b10.1,(eV b10.2.1 [((gt d3 t34 t36).1,t3,())]),()),())
 ) none
 )
 ) (
 let u1:=(aw .i64 t36 1)
 eA (t1,t2,t3,t11,t34,t35,u1,b4,b8,b10,())
 )
 ) (
 cond y1.2.2.1.1 (
 cond t11 (
 (vo (gt d3 t34 t36).1 y1.2.1.1).bind fun y2 =>
 let u1:=(a6 24 b10.2.1 [((gt d3 t34 t36).1,y1.2.1.1,())])
 cond u1 (
 let u2:=(aw .i64 t36 1)
 eA (t1,t2,t3,y2.2.1.1,t34,t35,u2,b4,b8,(b10.1,(eV b10.2.1 [((gt d3 t34 t36).1,y1.2.1.1,())]),()),())
 ) none
 ) (
 let u1:=(a6 24 b10.2.1 [((gt d3 t34 t36).1,y1.2.1.1,())])
 cond u1 (
 let u2:=(aw .i64 t36 1)
 eA (t1,t2,t3,false,t34,t35,u2,b4,b8,(b10.1,(eV b10.2.1 [((gt d3 t34 t36).1,y1.2.1.1,())]),()),())
 ) none
 )
 ) (
 let u1:=(aw .i64 t36 1)
 eA (t1,t2,t3,t11,t34,t35,u1,b4,b8,b10,())
 )
 )
 )
 )
 ) none
 ) (
 eB (t1,t2,t3,t11,t34,t35,t36,b4,b8,b10,())
 )
def Te:=Z6 (aq (HS yi))
def g96(p0:S8×(List eS)×Unit)(p1:Int)(p2 p3:S8):Option ZG :=
 (V2 p0.1).bind fun y1 =>
 (Uf p0).bind fun y2 =>
 cond (cond (!y2.2.1.1) true (bk y1.2.1.1 [])) (
 Pe
 ) (
 (W6 p1).bind fun y3 =>
 cond (bk y3.2.1.1 []) (
 Pe
 ) (
 (Te p1 p2 p3 true [(2,()),(3,()),(4,()),(7,()),(11,()),(37,()),(38,()),(39,()),(41,()),(49,()),(54,()),(102,()),(103,())] (ae [(2,()),(3,()),(4,()),(7,()),(11,()),(37,()),(38,()),(39,()),(41,()),(49,()),(54,()),(102,()),(103,())]) 0 p0 ([],[],()) (y1.2.1.1,[],())).bind (Sum.elim (fun y4 =>
 cond (!y4.2.2.2.1) (
 Pe
 ) (
 some ((),(y4.2.2.2.2.2.2.2.2.2.1,(true,()),()))
 )
 ) (fun _ =>
 none
 ))
 )
 )
def s96:Su:=fU [.c true [.str,dO],.c false [ah],.c false [.str],.c false [.str]] [(true,[.str,dO]),(false,[.bool])] fun x=>g96 x.1 x.2.1.1 x.2.2.1.1 x.2.2.2.1.1
theorem adX:au Tryz.prog 96 s96 :=
 fl (ac N2 (ac YM (ac Hz (ac QQ (ac Yh (ac Zz an)))))) [] [(0,⟨[.d 1 ah,.d 2 .str,.d 3 .str,.d 11 .bool,.own 34 q3,.d 35 ah,.d 36 ah,.box 4 [(false,.str),(false,dO)],.box 8 [(false,.str),(true,dO)],.box 10 [(false,.str),(true,dO)]],aq (HS yi)⟩)] [] Tryz.f96 (lp [0] (sc dI sn))
def S7(p0:S8×(List eS)×Unit)(p1:Int)(p2 p3:S8):Option Yi :=
 (g96 p0 p1 p2 p3).bind fun y1 =>
 (XE y1.2.1).bind fun y2 =>
 some ((),(y2.2.1,()))
def s50:Su:=fU [.c true [.str,dO],.c false [ah],.c false [.str],.c false [.str]] W9 fun x=>S7 x.1 x.2.1.1 x.2.2.1.1 x.2.2.2.1.1
theorem Wv:au Tryz.prog 50 s50 :=
 fq (ac QU (ac adX an)) Tryz.f50
def yx(t1:S8)(t8:List iI)(t9 t10:Int):Rd (S8×(List iI)×Int×Int×Unit) Y1 :=
 cond (aG t10 t9) (
 cond (aZ t10 t8) (
 cond (bk (gt d94 t8 t10).1 t1) (
 eC (t10,())
 ) (
 eA (t1,t8,t9,(aw .i64 t10 1),())
 )
 ) none
 ) (
 eB (t1,t8,t9,t10,())
 )
def RY:=nA (aq (da yx))
def W7(p0:(List iI)×Unit)(p1:S8):Option iJ :=
 (RY p1 p0.1 (ae p0.1) 0).bind (Sum.elim (fun _ =>
 c2
 ) (fun y1 =>
 some ((),(y1,()))
 ))
def s51:Su:=fU [.c true [jD],.c false [.str]] j9 fun x=>W7 x.1 x.2.1.1
theorem MV:au Tryz.prog 51 s51 :=
 fl an [.d 4 ah] [(0,⟨[.d 1 .str,.d 8 jD,.d 9 ah,.d 10 ah],aq (da yx)⟩)] [] Tryz.f51 (lp [0] (sc dI sn))
def vW(t1 t2:S8)(t10:List bW)(t11 t12:Int):Rd (S8×S8×(List bW)×Int×Int×Unit) ((List R5)×Bool×Unit) :=
 cond (aG t12 t11) (
 cond (aZ t12 t10) (
 let u1:=(gt d100 t10 t12)
 cond (cond (bk u1.1 t1) (bk u1.2.1 t2) false) (
 cond (a6 1 [] u1.2.2.1) (
 eC ((eV [] u1.2.2.1),true,())
 ) none
 ) (
 eA (t1,t2,t10,t11,(aw .i64 t12 1),())
 )
 ) none
 ) (
 eB (t1,t2,t10,t11,t12,())
 )
def T0:=JU (aq (nD vW))
def g52(p0:List bW)(p1 p2:S8):Option JY :=
 (T0 p1 p2 p0 (ae p0) 0).bind (Sum.elim (fun _ =>
 c7
 ) (fun y1 =>
 some ((),((y1.1,()),(y1.2.1,()),()))
 ))
def s52:Su:=fU [.c false [bP],.c false [.str],.c false [.str]] OC fun x=>g52 x.1.1 x.2.1.1 x.2.2.1.1
theorem WN:au Tryz.prog 52 s52 :=
 fl an [.own 6 q5,.d 7 .bool] [(0,⟨[.d 1 .str,.d 2 .str,.d 10 bP,.d 11 ah,.d 12 ah],aq (nD vW)⟩)] [] Tryz.f52 (lp [0] (sc dI sn))
def xV(p0:S8×Int×Int×Int×Int×(List bm)×Int×Int×(List R3)×(List R3)×(List bW)×Unit)(p1:S8)(p2:Int):Option gu :=
 (OF p0).bind fun y1 =>
 cond y1.2.1.1 (
 (He p2).bind fun y2 =>
 cond y2.2.1.1 (
 (JS p1).bind fun y3 =>
 some ((),(y3.2.1,()))
 ) (
 c0
 )
 ) (
 c0
 )
def Zu:Su:=fU [.c true [.str,ah,ah,ah,ah,bu,ah,ah,q3,q3,bP],.c false [.str],.c false [ah]] gC fun x=>xV x.1 x.2.1.1 x.2.2.1.1
theorem wQ:au Tryz.prog 235 Zu :=
 fq (ac Nd (ac qz (ac Az an))) Tryz.f235
def WS(p0:S8×Int×Int×Unit)(p1:Int):Option gu :=
 zR (aG p1 p0.2.2.1)
def acs:Su:=fU [.c true [.str,ah,ah],.c false [ah]] gC fun x=>WS x.1 x.2.1.1
theorem Zi:au Tryz.prog 266 acs :=
 fq an Tryz.f266
def qB(t1:Int)(t5 t9:List bm)(t10 t11:Int):Rd (Int×(List bm)×(List bm)×Int×Int×Unit) Unit :=
 cond (aG t11 t10) (
 cond (aZ t11 t9) (
 let u1:=(gt d192 t9 t11)
 (WS u1 t1).bind fun y1 =>
 cond y1.2.1.1 (
 cond (a6 32 t5 [u1]) (
 let u2:=(aw .i64 t11 1)
 eA (t1,(eV t5 [u1]),t9,t10,u2,())
 ) none
 ) (
 let u2:=(aw .i64 t11 1)
 eA (t1,t5,t9,t10,u2,())
 )
 ) none
 ) (
 eB (t1,t5,t9,t10,t11,())
 )
def Ll:=JU (aq (nD qB))
def Nr(p0:List bm)(p1:Int):Option Vw :=
 (Ll p1 [] p0 (ae p0) 0).bind (Sum.elim (fun y1 =>
 zR y1.2.1
 ) (fun _ =>
 none
 ))
def ab5:Su:=fU [.c false [bu],.c false [ah]] PU fun x=>Nr x.1.1 x.2.1.1
theorem TS:au Tryz.prog 219 ab5 :=
 fl (ac Zi an) [] [(0,⟨[.d 1 ah,.own 5 bu,.d 9 bu,.d 10 ah,.d 11 ah],aq (nD qB)⟩)] [] Tryz.f219 (lp [0] (sc dI sn))
def yQ(p0:S8×Int×Int×Int×Int×(List bm)×Int×Int×(List R3)×(List R3)×(List bW)×Unit)(p1:Int):Option WU :=
 (KF p0).bind fun y1 =>
 (OF p0).bind fun y2 =>
 cond y2.2.1.1 (
 (He p1).bind fun y3 =>
 cond y3.2.1.1 (
 (Nr p0.2.2.2.2.2.1 p1).bind fun y4 =>
 some ((),((y1.2.1.1,y1.2.1.2.1,y1.2.1.2.2.1,y1.2.1.2.2.2.1,y1.2.1.2.2.2.2.1,y4.2.1.1,y1.2.1.2.2.2.2.2.2.1,y1.2.1.2.2.2.2.2.2.2.1,y1.2.1.2.2.2.2.2.2.2.2.1,y1.2.1.2.2.2.2.2.2.2.2.2.1,y1.2.1.2.2.2.2.2.2.2.2.2.2.1,()),()))
 ) (
 some ((),(y1.2.1,()))
 )
 ) (
 some ((),(y1.2.1,()))
 )
def abc:Su:=fU [.c true [.str,ah,ah,ah,ah,bu,ah,ah,q3,q3,bP],.c false [ah]] Xf fun x=>yQ x.1 x.2.1.1
theorem uK:au Tryz.prog 145 abc :=
 fq (ac O5 (ac qz (ac Az (ac TS an)))) Tryz.f145
def qP(t1:S8)(t7:List bm)(t8 t9:Int):Rd (S8×(List bm)×Int×Int×Unit) Y1 :=
 cond (aG t9 t8) (
 cond (aZ t9 t7) (
 cond (bk (gt d192 t7 t9).1 t1) (
 eC (t9,())
 ) (
 eA (t1,t7,t8,(aw .i64 t9 1),())
 )
 ) none
 ) (
 eB (t1,t7,t8,t9,())
 )
def Lw:=nA (aq (da qP))
def Bf(p0:List bm)(p1:S8):Option iJ :=
 (Lw p1 p0 (ae p0) 0).bind (Sum.elim (fun _ =>
 c2
 ) (fun y1 =>
 some ((),(y1,()))
 ))
def ZT:Su:=fU [.c false [bu],.c false [.str]] j9 fun x=>Bf x.1.1 x.2.1.1
theorem wY:au Tryz.prog 236 ZT :=
 fl an [.d 4 ah] [(0,⟨[.d 1 .str,.d 7 bu,.d 8 ah,.d 9 ah],aq (da qP)⟩)] [] Tryz.f236 (lp [0] (sc dI sn))
def Pk(p0:List bm)(p1:Int):Option iJ :=
 (Nr p0 p1).bind fun y1 =>
 (Og y1.2.1.1).bind fun y2 =>
 some ((),(y2.2.1,()))
def acS:Su:=fU [.c false [bu],.c false [ah]] j9 fun x=>Pk x.1.1 x.2.1.1
theorem abj:au Tryz.prog 274 acS :=
 fq (ac To (ac TS an)) Tryz.f274
def IC(p0:S8×Int×Int×Int×Int×(List bm)×Int×Int×(List R3)×(List R3)×(List bW)×Unit)(p1:Int):Option iJ :=
 (OF p0).bind fun y1 =>
 cond (!y1.2.1.1) (
 c5
 ) (
 (He p1).bind fun y2 =>
 cond (!y2.2.1.1) (
 c5
 ) (
 (Pk p0.2.2.2.2.2.1 p1).bind fun y3 =>
 zR (aW .i64 (aW .i64 p0.2.1 p0.2.2.1) y3.2.1.1)
 )
 )
def Yj:Su:=fU [.c true [.str,ah,ah,ah,ah,bu,ah,ah,q3,q3,bP],.c false [ah]] j9 fun x=>IC x.1 x.2.1.1
theorem Dr:au Tryz.prog 241 Yj :=
 fq (ac qz (ac Az (ac abj an))) Tryz.f241
def qH(t1 t6 t37 t38:Int)(b2 b4 b5:Int×Int×(List R3)×(List R3)×Unit):Rd (Int×Int×Int×Int×Wz×Wz×Wz×Unit) Unit :=
 cond (aG t38 t37) (
 cond (aZ t38 b5.2.2.1) (
 cond (aZ t38 b5.2.2.2.1) (
 cond (bM t6 t38) (
 let u1:=(aW .i64 t38 t6)
 cond (aZ u1 b2.2.2.1) (
 let u2:=(dw b5.2.2.1 t38 (0,()))
 cond (aZ t38 u2) (
 cond (aZ u1 b2.2.2.2.1) (
 let u3:=(dw b5.2.2.2.1 t38 (0,()))
 cond (aZ t38 u3) (
 let u4:=(aw .i64 t38 1)
 eA (t1,t6,t37,u4,b2,b4,(b5.1,b5.2.1,(dw u2 t38 (gt d3 b2.2.2.1 u1)),(dw u3 t38 (gt d3 b2.2.2.2.1 u1)),()),())
 ) none
 ) none
 ) none
 ) none
 ) (
 let u1:=(aw .i64 t38 1)
 let u2:=(dw b5.2.2.1 t38 (0,()))
 let u3:=(dw b5.2.2.2.1 t38 (0,()))
 eA (t1,t6,t37,u1,b2,b4,(b5.1,b5.2.1,u2,u3,()),())
 )
 ) none
 ) none
 ) (
 eB (t1,t6,t37,t38,b2,b4,b5,())
 )
def Nw:=W8 (aq (zO qH))
def K7(p0:Int×Int×(List R3)×(List R3)×Unit)(p1:Int):Option Uz :=
 (AQ p0).bind fun y1 =>
 (Dk p0).bind fun y2 =>
 cond (!y2.2.1.1) (
 some ((),(y1.2.1,()))
 ) (
 (He p1).bind fun y3 =>
 cond (!y3.2.1.1) (
 some ((),(y1.2.1,()))
 ) (
 cond (!(aj p0.1 0)) (
 let u1:=(jU .i64 p1 p0.1)
 cond (bM u1 p0.2.1) (
 some ((),(y1.2.1,()))
 ) (
 cond (!(aj p0.1 0)) (
 (Nw p1 (aW .i64 u1 p0.2.1) (ae p0.2.2.1) 0 p0 (0,0,[],[],()) y1.2.1).bind (Sum.elim (fun y4 =>
 cond (!(aj y4.2.2.2.2.1.1 0)) (
 some ((),((y4.2.2.2.2.2.2.1.1,(jU .i64 y4.1 y4.2.2.2.2.1.1),y4.2.2.2.2.2.2.1.2.2.1,y4.2.2.2.2.2.2.1.2.2.2.1,()),()))
 ) none
 ) (fun _ =>
 none
 ))
 ) none
 )
 ) none
 )
 )
def adT:Su:=fU [.c true [ah,ah,q3,q3],.c false [ah]] VP fun x=>K7 x.1 x.2.1.1
theorem RG:au Tryz.prog 273 adT :=
 fl (ac KO (ac qz (ac Hl an))) [] [(0,⟨[.d 1 ah,.d 6 ah,.d 37 ah,.d 38 ah,.box 2 [(false,.int .i64),(false,.int .i64),(false,q3),(false,q3)],.box 4 [(false,.int .i64),(false,.int .i64),(true,q3),(true,q3)],.box 5 [(false,.int .i64),(false,.int .i64),(true,q3),(true,q3)]],aq (zO qH)⟩)] [] Tryz.f273 (lp [0] (sc dI sn))
def jQ(t2:Bool)(t8 t23 t24:Int)(b7:Int×Int×(List R3)×(List R3)×Unit):Rd (Bool×Int×Int×Int×Wz×Unit) Unit :=
 cond (aG t24 t23) (
 cond t2 (
 cond (aZ t24 b7.2.2.2.1) (
 (vT t8 (gt d3 b7.2.2.2.1 t24).1).bind fun y1 =>
 eA (t2,y1.2.1.1,t23,(aw .i64 t24 1),b7,())
 ) none
 ) (
 cond (aZ t24 b7.2.2.1) (
 (vT t8 (gt d3 b7.2.2.1 t24).1).bind fun y1 =>
 eA (t2,y1.2.1.1,t23,(aw .i64 t24 1),b7,())
 ) none
 )
 ) (
 eB (t2,t8,t23,t24,b7,())
 )
def F4:=JU (aq (nD jQ))
def MT(p0:Int×Int×(List R3)×(List R3)×Unit)(p1:Int)(p2:Bool):Option iJ :=
 (Dk p0).bind fun y1 =>
 cond (!y1.2.1.1) (
 c5
 ) (
 (He p1).bind fun y2 =>
 cond (!y2.2.1.1) (
 c5
 ) (
 (K7 p0 p1).bind fun y3 =>
 (F4 p2 0 (ae y3.2.1.2.2.1) 0 y3.2.1).bind (Sum.elim (fun y4 =>
 zR y4.2.1
 ) (fun _ =>
 none
 ))
 )
 )
def adO:Su:=fU [.c true [ah,ah,q3,q3],.c false [ah],.c false [.bool]] j9 fun x=>MT x.1 x.2.1.1 x.2.2.1.1
theorem Tt:au Tryz.prog 297 adO :=
 fl (ac qz (ac Hl (ac Cl (ac RG an)))) [] [(0,⟨[.d 2 .bool,.d 8 ah,.d 23 ah,.d 24 ah,.box 7 [(false,.int .i64),(false,.int .i64),(true,q3),(true,q3)]],aq (nD jQ)⟩)] [] Tryz.f297 (lp [0] (sc dI sn))
def Ok(p0:Int×Int×(List R3)×(List R3)×Unit)(p1:Int):Option iJ :=
 (MT p0 p1 false).bind fun y1 =>
 some ((),(y1.2.1,()))
def aei:Su:=fU [.c true [ah,ah,q3,q3],.c false [ah]] j9 fun x=>Ok x.1 x.2.1.1
theorem Xr:au Tryz.prog 271 aei :=
 fq (ac Tt an) Tryz.f271
def NO(p0:Int×Int×(List R3)×(List R3)×Unit)(p1:Int):Option iJ :=
 (MT p0 p1 true).bind fun y1 =>
 some ((),(y1.2.1,()))
def abC:Su:=fU [.c true [ah,ah,q3,q3],.c false [ah]] j9 fun x=>NO x.1 x.2.1.1
theorem YQ:au Tryz.prog 272 abC :=
 fq (ac Tt an) Tryz.f272
def No(p0:S8×Int×Int×Int×Int×(List bm)×Int×Int×(List R3)×(List R3)×(List bW)×Unit)(p1 p2:Int):Option iJ :=
 (IC p0 p2).bind fun y1 =>
 cond (aG y1.2.1.1 p1) (
 zR 7
 ) (
 (Ok (p0.2.2.2.2.2.2.1,p0.2.2.2.2.2.2.2.1,p0.2.2.2.2.2.2.2.2.1,p0.2.2.2.2.2.2.2.2.2.1,()) p2).bind fun y2 =>
 (vT y2.2.1.1 1).bind fun y3 =>
 cond (aG p0.2.2.2.1 y3.2.1.1) (
 c22
 ) (
 (NO (p0.2.2.2.2.2.2.1,p0.2.2.2.2.2.2.2.1,p0.2.2.2.2.2.2.2.2.1,p0.2.2.2.2.2.2.2.2.2.1,()) p2).bind fun y4 =>
 (vT y4.2.1.1 p1).bind fun y5 =>
 cond (aG p0.2.2.2.2.1 y5.2.1.1) (
 zR 9
 ) (
 c5
 )
 )
 )
def adY:Su:=fU [.c true [.str,ah,ah,ah,ah,bu,ah,ah,q3,q3,bP],.c false [ah],.c false [ah]] j9 fun x=>No x.1 x.2.1.1 x.2.2.1.1
theorem TG:au Tryz.prog 237 adY :=
 fq (ac Cl (ac Dr (ac Xr (ac YQ an)))) Tryz.f237
def qa(t6:List bm)(t7:Bool)(t14:List bm)(t15 t16:Int)(b3:S8×Int×Int×Unit):Rd ((List bm)×Bool×(List bm)×Int×Int×WH×Unit) Unit :=
 cond (aG t16 t15) (
 cond (aZ t16 t14) (
 let u1:=(gt d192 t14 t16)
 cond (cond (!t7) (!(yK u1.1 b3.1)) false) (
 cond (a6 32 t6 [b3]) (
 cond (!(bk u1.1 b3.1)) (
 let u2:=(eV t6 [b3])
 cond (a6 32 u2 [u1]) (
 let u3:=(aw .i64 t16 1)
 eA ((eV u2 [u1]),true,t14,t15,u3,b3,())
 ) none
 ) (
 let u2:=(eV t6 [b3])
 let u3:=(aw .i64 t16 1)
 eA (u2,true,t14,t15,u3,b3,())
 )
 ) none
 ) (
 cond (!(bk u1.1 b3.1)) (
 cond (a6 32 t6 [u1]) (
 let u2:=(aw .i64 t16 1)
 eA ((eV t6 [u1]),t7,t14,t15,u2,b3,())
 ) none
 ) (
 let u2:=(aw .i64 t16 1)
 eA (t6,t7,t14,t15,u2,b3,())
 )
 )
 ) none
 ) (
 eB (t6,t7,t14,t15,t16,b3,())
 )
def M7:=Xh (aq (BU qa))
def M1(p0:List bm)(p1:S8×Int×Int×Unit):Option (Unit×(Y7×Y2×Unit)) :=
 (EC p0).bind fun y1 =>
 cond (!y1.2.1.1) (
 c15
 ) (
 (M7 [] false p0 (ae p0) 0 p1).bind (Sum.elim (fun y2 =>
 cond (!y2.2.1) (
 cond (a6 32 y2.1 [y2.2.2.2.2.2.1]) (
 let u1:=(eV y2.1 [y2.2.2.2.2.2.1])
 (EC u1).bind fun y3 =>
 cond (!y3.2.1.1) (
 c15
 ) (
 some ((),((u1,()),(true,()),()))
 )
 ) none
 ) (
 (EC y2.1).bind fun y3 =>
 cond (!y3.2.1.1) (
 c15
 ) (
 some ((),((y2.1,()),(true,()),()))
 )
 )
 ) (fun _ =>
 none
 ))
 )
def Yl:Su:=fU [.c false [bu],.c true [.str,ah,ah]] [(false,[bu]),(false,[.bool])] fun x=>M1 x.1.1 x.2.1
theorem G6:au Tryz.prog 238 Yl :=
 fl (ac T1 an) [] [(0,⟨[.own 6 bu,.d 7 .bool,.d 14 bu,.d 15 ah,.d 16 ah,.box 3 [(false,.str),(false,.int .i64),(false,.int .i64)]],aq (BU qa)⟩)] [] Tryz.f238 (lp [0] (sc dI sn))
def Ew(p0:Int×Int×(List R3)×(List R3)×Unit)(p1 p2:Int):Option Uz :=
 (Dk p0).bind fun y1 =>
 cond (!y1.2.1.1) (
 let u1:=(AQ p0)
 Option.bind u1 fun y2 =>
 some ((),(y2.2.1,()))
 ) (
 (He p1).bind fun y2 =>
 cond (!y2.2.1.1) (
 let u1:=(AQ p0)
 Option.bind u1 fun y3 =>
 some ((),(y3.2.1,()))
 ) (
 (A4 p2).bind fun y3 =>
 cond (!y3.2.1.1) (
 let u1:=(AQ p0)
 Option.bind u1 fun y4 =>
 some ((),(y4.2.1,()))
 ) (
 (K7 p0 p1).bind fun y4 =>
 cond (aZ 0 y4.2.1.2.2.1) (
 (vT (gt d3 y4.2.1.2.2.1 0).1 1).bind fun y5 =>
 cond (aZ 0 y4.2.1.2.2.1) (
 cond (aZ 0 y4.2.1.2.2.2.1) (
 (vT (gt d3 y4.2.1.2.2.2.1 0).1 p2).bind fun y6 =>
 cond (aZ 0 y4.2.1.2.2.2.1) (
 some ((),((y4.2.1.1,y4.2.1.2.1,(dw y4.2.1.2.2.1 0 y5.2.1),(dw y4.2.1.2.2.2.1 0 y6.2.1),()),()))
 ) none
 ) none
 ) none
 ) none
 )
 )
 )
def acw:Su:=fU [.c true [ah,ah,q3,q3],.c false [ah],.c false [ah]] VP fun x=>Ew x.1 x.2.1.1 x.2.2.1.1
theorem SQ:au Tryz.prog 239 acw :=
 fq (ac KO (ac CJ (ac qz (ac Hl (ac Cl (ac RG an)))))) Tryz.f239
def OZ(p0:S8×Int×Int×Int×Int×(List bm)×Int×Int×(List R3)×(List R3)×(List bW)×Unit)(p1:S8)(p2 p3 p4:Int):Option DT :=
 (xV p0 p1 p4).bind fun y1 =>
 cond (!y1.2.1.1) (
 c8
 ) (
 (rM p2 1 9007199254740992).bind fun y2 =>
 cond (!y2.2.1.1) (
 c12
 ) (
 (rM p3 1 9999).bind fun y3 =>
 let u1:=(aw .i64 p4 p3)
 cond (cond (!y3.2.1.1) true (aG 1000000000 u1)) (
 c12
 ) (
 (yQ p0 p4).bind fun y4 =>
 (Bf y4.2.1.2.2.2.2.2.1 p1).bind fun y5 =>
 cond (bM 0 y5.2.1.1) (
 c31
 ) (
 cond (aj (ae y4.2.1.2.2.2.2.2.1) 4) (
 c32
 ) (
 (No y4.2.1 p2 p4).bind fun y6 =>
 cond (!(aj y6.2.1.1 0)) (
 some ((),(([],0,0,0,0,[],0,0,[],[],[],()),y6.2.1,()))
 ) (
 (M1 y4.2.1.2.2.2.2.2.1 (p1,p2,u1,())).bind fun y7 =>
 (Ew (y4.2.1.2.2.2.2.2.2.1,y4.2.1.2.2.2.2.2.2.2.1,y4.2.1.2.2.2.2.2.2.2.2.1,y4.2.1.2.2.2.2.2.2.2.2.2.1,()) p4 p2).bind fun y8 =>
 some ((),((y4.2.1.1,y4.2.1.2.1,y4.2.1.2.2.1,y4.2.1.2.2.2.1,y4.2.1.2.2.2.2.1,y7.2.1.1,y8.2.1.1,y8.2.1.2.1,y8.2.1.2.2.1,y8.2.1.2.2.2.1,y4.2.1.2.2.2.2.2.2.2.2.2.2.1,()),(0,()),()))
 )
 )
 )
 )
 )
 )
def XI:Su:=fU [.c true [.str,ah,ah,ah,ah,bu,ah,ah,q3,q3,bP],.c false [.str],.c false [ah],.c false [ah],.c false [ah]] Nt fun x=>OZ x.1 x.2.1.1 x.2.2.1.1 x.2.2.2.1.1 x.2.2.2.2.1.1
theorem TA:au Tryz.prog 178 XI :=
 fq (ac pn (ac wQ (ac uK (ac wY (ac TG (ac G6 (ac SQ an))))))) Tryz.f178
def OX(p0:S8×Int×Int×Int×Int×(List bm)×Int×Int×(List R3)×(List R3)×(List bW)×Unit)(p1:S8)(p2 p3:Int):Option DT :=
 (xV p0 p1 p3).bind fun y1 =>
 cond (!y1.2.1.1) (
 c8
 ) (
 (rM p2 1 9007199254740992).bind fun y2 =>
 cond (!y2.2.1.1) (
 c12
 ) (
 (yQ p0 p3).bind fun y3 =>
 (Bf y3.2.1.2.2.2.2.2.1 p1).bind fun y4 =>
 cond (aG y4.2.1.1 0) (
 c27
 ) (
 (No y3.2.1 p2 p3).bind fun y5 =>
 cond (!(aj y5.2.1.1 0)) (
 some ((),(([],0,0,0,0,[],0,0,[],[],[],()),y5.2.1,()))
 ) (
 cond (aZ y4.2.1.1 y3.2.1.2.2.2.2.2.1) (
 cond (aZ y4.2.1.1 y3.2.1.2.2.2.2.2.1) (
 (Ew (y3.2.1.2.2.2.2.2.2.1,y3.2.1.2.2.2.2.2.2.2.1,y3.2.1.2.2.2.2.2.2.2.2.1,y3.2.1.2.2.2.2.2.2.2.2.2.1,()) p3 p2).bind fun y6 =>
 let u1:=(gt d192 y3.2.1.2.2.2.2.2.1 y4.2.1.1)
 some ((),((y3.2.1.1,y3.2.1.2.1,y3.2.1.2.2.1,y3.2.1.2.2.2.1,y3.2.1.2.2.2.2.1,(dw y3.2.1.2.2.2.2.2.1 y4.2.1.1 (u1.1,(aw .i64 u1.2.1 p2),u1.2.2.1,())),y6.2.1.1,y6.2.1.2.1,y6.2.1.2.2.1,y6.2.1.2.2.2.1,y3.2.1.2.2.2.2.2.2.2.2.2.2.1,()),(0,()),()))
 ) none
 ) none
 )
 )
 )
 )
def ZD:Su:=fU [.c true [.str,ah,ah,ah,ah,bu,ah,ah,q3,q3,bP],.c false [.str],.c false [ah],.c false [ah]] Nt fun x=>OX x.1 x.2.1.1 x.2.2.1.1 x.2.2.2.1.1
theorem TF:au Tryz.prog 179 ZD :=
 fq (ac pn (ac wQ (ac uK (ac wY (ac TG (ac SQ an)))))) Tryz.f179
def qn(t1:S8)(t5 t9:List bm)(t10 t11:Int):Rd (S8×(List bm)×(List bm)×Int×Int×Unit) Unit :=
 cond (aG t11 t10) (
 cond (aZ t11 t9) (
 let u1:=(gt d192 t9 t11)
 cond (!(bk u1.1 t1)) (
 cond (a6 32 t5 [u1]) (
 let u2:=(aw .i64 t11 1)
 eA (t1,(eV t5 [u1]),t9,t10,u2,())
 ) none
 ) (
 let u2:=(aw .i64 t11 1)
 eA (t1,t5,t9,t10,u2,())
 )
 ) none
 ) (
 eB (t1,t5,t9,t10,t11,())
 )
def Ki:=JU (aq (nD qn))
def FG(p0:List bm)(p1:S8):Option Vw :=
 (Ki p1 [] p0 (ae p0) 0).bind (Sum.elim (fun y1 =>
 zR y1.2.1
 ) (fun _ =>
 none
 ))
def X7:Su:=fU [.c false [bu],.c false [.str]] PU fun x=>FG x.1.1 x.2.1.1
theorem B6:au Tryz.prog 240 X7 :=
 fl an [] [(0,⟨[.d 1 .str,.own 5 bu,.d 9 bu,.d 10 ah,.d 11 ah],aq (nD qn)⟩)] [] Tryz.f240 (lp [0] (sc dI sn))
def Kx(p0:S8×Int×Int×Int×Int×(List bm)×Int×Int×(List R3)×(List R3)×(List bW)×Unit)(p1:S8)(p2:Int)(p3:Bool)(p4:Int):Option DT :=
 (xV p0 p1 p4).bind fun y1 =>
 cond (!y1.2.1.1) (
 c8
 ) (
 (rM p2 1 9007199254740992).bind fun y2 =>
 cond (!y2.2.1.1) (
 c12
 ) (
 (yQ p0 p4).bind fun y3 =>
 (Bf y3.2.1.2.2.2.2.2.1 p1).bind fun y4 =>
 cond (aG y4.2.1.1 0) (
 c27
 ) (
 cond (aZ y4.2.1.1 y3.2.1.2.2.2.2.2.1) (
 let u1:=(gt d192 y3.2.1.2.2.2.2.2.1 y4.2.1.1)
 cond (aG u1.2.1 p2) (
 c33
 ) (
 cond p3 (
 let u2:=(FG y3.2.1.2.2.2.2.2.1 p1)
 Option.bind u2 fun y5 =>
 let u3:=(aw .i64 y3.2.1.2.2.1 p2)
 some ((),((y3.2.1.1,y3.2.1.2.1,u3,y3.2.1.2.2.2.1,y3.2.1.2.2.2.2.1,y5.2.1.1,y3.2.1.2.2.2.2.2.2.1,y3.2.1.2.2.2.2.2.2.2.1,y3.2.1.2.2.2.2.2.2.2.2.1,y3.2.1.2.2.2.2.2.2.2.2.2.1,y3.2.1.2.2.2.2.2.2.2.2.2.2.1,()),(0,()),()))
 ) (
 cond (aZ y4.2.1.1 y3.2.1.2.2.2.2.2.1) (
 cond (aj p2 u1.2.1) (
 let u2:=(FG y3.2.1.2.2.2.2.2.1 p1)
 Option.bind u2 fun y5 =>
 let u3:=(aw .i64 y3.2.1.2.2.1 p2)
 some ((),((y3.2.1.1,y3.2.1.2.1,u3,y3.2.1.2.2.2.1,y3.2.1.2.2.2.2.1,y5.2.1.1,y3.2.1.2.2.2.2.2.2.1,y3.2.1.2.2.2.2.2.2.2.1,y3.2.1.2.2.2.2.2.2.2.2.1,y3.2.1.2.2.2.2.2.2.2.2.2.1,y3.2.1.2.2.2.2.2.2.2.2.2.2.1,()),(0,()),()))
 ) (
 cond (aZ y4.2.1.1 y3.2.1.2.2.2.2.2.1) (
 cond (aZ y4.2.1.1 y3.2.1.2.2.2.2.2.1) (
 let u2:=(aw .i64 y3.2.1.2.2.1 p2)
 some ((),((y3.2.1.1,y3.2.1.2.1,u2,y3.2.1.2.2.2.1,y3.2.1.2.2.2.2.1,(dw y3.2.1.2.2.2.2.2.1 y4.2.1.1 (u1.1,(aW .i64 u1.2.1 p2),u1.2.2.1,())),y3.2.1.2.2.2.2.2.2.1,y3.2.1.2.2.2.2.2.2.2.1,y3.2.1.2.2.2.2.2.2.2.2.1,y3.2.1.2.2.2.2.2.2.2.2.2.1,y3.2.1.2.2.2.2.2.2.2.2.2.2.1,()),(0,()),()))
 ) none
 ) none
 )
 ) none
 )
 )
 ) none
 )
 )
 )
def aaQ:Su:=fU [.c true [.str,ah,ah,ah,ah,bu,ah,ah,q3,q3,bP],.c false [.str],.c false [ah],.c false [.bool],.c false [ah]] Nt fun x=>Kx x.1 x.2.1.1 x.2.2.1.1 x.2.2.2.1.1 x.2.2.2.2.1.1
theorem Ti:au Tryz.prog 180 aaQ :=
 fq (ac pn (ac wQ (ac uK (ac wY (ac B6 an))))) Tryz.f180
def P7(p0:S8×Int×Int×Int×Int×(List bm)×Int×Int×(List R3)×(List R3)×(List bW)×Unit)(p1:S8)(p2:Int):Option DT :=
 (xV p0 p1 p2).bind fun y1 =>
 cond (!y1.2.1.1) (
 c8
 ) (
 (yQ p0 p2).bind fun y2 =>
 (Bf y2.2.1.2.2.2.2.2.1 p1).bind fun y3 =>
 cond (aG y3.2.1.1 0) (
 c27
 ) (
 (FG y2.2.1.2.2.2.2.2.1 p1).bind fun y4 =>
 some ((),((y2.2.1.1,y2.2.1.2.1,y2.2.1.2.2.1,y2.2.1.2.2.2.1,y2.2.1.2.2.2.2.1,y4.2.1.1,y2.2.1.2.2.2.2.2.2.1,y2.2.1.2.2.2.2.2.2.2.1,y2.2.1.2.2.2.2.2.2.2.2.1,y2.2.1.2.2.2.2.2.2.2.2.2.1,y2.2.1.2.2.2.2.2.2.2.2.2.2.1,()),(0,()),()))
 )
 )
def Y6:Su:=fU [.c true [.str,ah,ah,ah,ah,bu,ah,ah,q3,q3,bP],.c false [.str],.c false [ah]] Nt fun x=>P7 x.1 x.2.1.1 x.2.2.1.1
theorem Sq:au Tryz.prog 181 Y6 :=
 fq (ac wQ (ac uK (ac wY (ac B6 an)))) Tryz.f181
def Ku(p0 p1:S8×Int×Int×Int×Int×(List bm)×Int×Int×(List R3)×(List R3)×(List bW)×Unit)(p2:S8)(p3:Int):Option (Unit×(yL×yL×Y1×Unit)) :=
 (xV p0 p2 p3).bind fun y1 =>
 cond (!y1.2.1.1) (
 c18
 ) (
 (OF p1).bind fun y2 =>
 cond (!y2.2.1.1) (
 c18
 ) (
 cond (bk p0.1 p1.1) (
 c34
 ) (
 (yQ p0 p3).bind fun y3 =>
 (yQ p1 p3).bind fun y4 =>
 (Bf y3.2.1.2.2.2.2.2.1 p2).bind fun y5 =>
 cond (aG y5.2.1.1 0) (
 c35
 ) (
 (Bf y4.2.1.2.2.2.2.2.1 p2).bind fun y6 =>
 cond (bM 0 y6.2.1.1) (
 c36
 ) (
 cond (aj (ae y4.2.1.2.2.2.2.2.1) 4) (
 c37
 ) (
 cond (aZ y5.2.1.1 y3.2.1.2.2.2.2.2.1) (
 (IC y4.2.1 p3).bind fun y7 =>
 let u1:=(gt d192 y3.2.1.2.2.2.2.2.1 y5.2.1.1)
 cond (aG y7.2.1.1 u1.2.1) (
 c38
 ) (
 cond (aZ y5.2.1.1 y3.2.1.2.2.2.2.2.1) (
 (M1 y4.2.1.2.2.2.2.2.1 u1).bind fun y8 =>
 (FG y3.2.1.2.2.2.2.2.1 p2).bind fun y9 =>
 some ((),((y3.2.1.1,y3.2.1.2.1,y3.2.1.2.2.1,y3.2.1.2.2.2.1,y3.2.1.2.2.2.2.1,y9.2.1.1,y3.2.1.2.2.2.2.2.2.1,y3.2.1.2.2.2.2.2.2.2.1,y3.2.1.2.2.2.2.2.2.2.2.1,y3.2.1.2.2.2.2.2.2.2.2.2.1,y3.2.1.2.2.2.2.2.2.2.2.2.2.1,()),(y4.2.1.1,y4.2.1.2.1,y4.2.1.2.2.1,y4.2.1.2.2.2.1,y4.2.1.2.2.2.2.1,y8.2.1.1,y4.2.1.2.2.2.2.2.2.1,y4.2.1.2.2.2.2.2.2.2.1,y4.2.1.2.2.2.2.2.2.2.2.1,y4.2.1.2.2.2.2.2.2.2.2.2.1,y4.2.1.2.2.2.2.2.2.2.2.2.2.1,()),(0,()),()))
 ) none
 )
 ) none
 )
 )
 )
 )
 )
 )
def KB:Su:=fU [.c true [.str,ah,ah,ah,ah,bu,ah,ah,q3,q3,bP],.c true [.str,ah,ah,ah,ah,bu,ah,ah,q3,q3,bP],.c false [.str],.c false [ah]] [(true,[.str,ah,ah,ah,ah,bu,ah,ah,q3,q3,bP]),(true,[.str,ah,ah,ah,ah,bu,ah,ah,q3,q3,bP]),(false,[ah])] fun x=>Ku x.1 x.2.1 x.2.2.1.1 x.2.2.2.1.1
def J8:List SE:=[]
def RD:Nat->Option (Lo J8)
 | _=>none
def Dn:List Y0:=[(81,iS s81),(235,iS Zu),(145,iS abc),(236,iS ZT),(241,iS Yj),(238,iS Yl),(240,iS X7)]
def uY:En:=uZ 95 tt Dn J8 RD [] fun _=>none
def ZQ:Nat->Option (St->Tr St)
 | 16=>some (gb uY (opsOf (a8 16 (ak Tryz.f182))) [(12,10)])
 | 18=>some (l8 uY (opsOf (a8 18 (ak Tryz.f182))) 2 [1])
 | _=>none
def Ng:En:=uZ 95 tt Dn J8 RD [] (ZQ)
theorem t182(x:PT KB.ps):(Ei Ng (ak Tryz.f182) Tryz.f182.results.toList KB.ps KB.rs true x).run=Ku x.1 x.2.1 x.2.2.1.1 x.2.2.2.1.1:=by kernel_rfl
theorem Wa:cZ Tryz.prog Ng:=bZ (l:=Dn) ⟨Az,wQ,uK,wY,Dr,G6,B6,trivial⟩
theorem Fh:cZ Tryz.prog uY:=bZ (l:=Dn) ⟨Az,wQ,uK,wY,Dr,G6,B6,trivial⟩
theorem PW:cM Tryz.prog Ng (a8 16 (ak Tryz.f182)) (gb uY (opsOf (a8 16 (ak Tryz.f182))) [(12,10)]) :=
 dP rfl rfl (kE (E:=uY) (oU hT) Fh gK (c:=(a8 16 (ak Tryz.f182))) (id:=16) (by kernel_rfl))
theorem Fb:cZ Tryz.prog uY:=bZ (l:=Dn) ⟨Az,wQ,uK,wY,Dr,G6,B6,trivial⟩
theorem OY:cM Tryz.prog Ng (a8 18 (ak Tryz.f182)) (l8 uY (opsOf (a8 18 (ak Tryz.f182))) 2 [1]) :=
 dP rfl rfl (vG (E:=uY) (oU hT) Fb gK (c:=(a8 18 (ak Tryz.f182))) (id:=18) (by kernel_rfl))
theorem SO:au Tryz.prog 182 KB :=
 nu (E:=Ng) (oU hT) Wa gK (fn:=Tryz.f182) (c:=(ak Tryz.f182)) (by kernel_rfl) (by kernel_rfl) (by kernel_rfl) rfl (cC [] (by kernel_rfl) trivial [(16,a8 16 (ak Tryz.f182)),(18,a8 18 (ak Tryz.f182))] (by kernel_rfl) ⟨pL rfl PW,pL rfl OY,trivial⟩) fun x y h=>⟨y.1,fun _=>rfl,(t182 x).trans h⟩
def QX(p0:S8×Int×Int×Int×Int×(List bm)×Int×Int×(List R3)×(List R3)×(List bW)×Unit)(p1:Int):Option (Unit×(Y9×Y1×Unit)) :=
 (OF p0).bind fun y1 =>
 cond (!y1.2.1.1) (
 some ((),(([],()),(1,()),()))
 ) (
 (He p1).bind fun y2 =>
 cond (!y2.2.1.1) (
 some ((),(([],()),(1,()),()))
 ) (
 (IC p0 p1).bind fun y3 =>
 (IS y3.2.1.1 16).bind fun y4 =>
 cond (jv y4.2.1.1 [32]) (
 (IS p0.2.2.1 16).bind fun y5 =>
 let u1:=(wz y4.2.1.1 [32])
 cond (jv u1 y5.2.1.1) (
 some ((),(((wz u1 y5.2.1.1),()),(0,()),()))
 ) none
 ) none
 )
 )
def aaH:Su:=fU [.c true [.str,ah,ah,ah,ah,bu,ah,ah,q3,q3,bP],.c false [ah]] [(false,[.str]),(false,[ah])] fun x=>QX x.1 x.2.1.1
theorem S9:au Tryz.prog 183 aaH :=
 fq (ac qz (ac Az (ac SG (ac Dr an)))) Tryz.f183
def Qb(p0:S8×Int×Int×Int×Int×(List bm)×Int×Int×(List R3)×(List R3)×(List bW)×Unit)(p1:Int):Option DT :=
 (OF p0).bind fun y1 =>
 cond (!y1.2.1.1) (
 c8
 ) (
 (He p1).bind fun y2 =>
 cond (!y2.2.1.1) (
 c8
 ) (
 (yQ p0 p1).bind fun y3 =>
 some ((),(y3.2.1,(0,()),()))
 )
 )
def YO:Su:=fU [.c true [.str,ah,ah,ah,ah,bu,ah,ah,q3,q3,bP],.c false [ah]] Nt fun x=>Qb x.1 x.2.1.1
theorem Tc:au Tryz.prog 184 YO :=
 fq (ac qz (ac Az (ac uK an))) Tryz.f184
def W0(p0 p1:S8×Int×Int×Int×Int×(List bm)×Int×Int×(List R3)×(List R3)×(List bW)×Unit)(p2:Int×S8×S8×S8×S8×S8×Int×Int×Unit)(p3:Int):Option (Unit×(yL×yL×Y1×Y9×Unit)) :=
 cond (aj p2.1 1) (
 (OZ p0 p2.2.2.2.1 p2.2.2.2.2.2.2.1 p2.2.2.2.2.2.2.2.1 p3).bind fun y1 =>
 some ((),(y1.2.1,p1,y1.2.2.1,([],()),()))
 ) (
 cond (aj p2.1 2) (
 (OX p0 p2.2.2.2.1 p2.2.2.2.2.2.2.1 p3).bind fun y1 =>
 some ((),(y1.2.1,p1,y1.2.2.1,([],()),()))
 ) (
 cond (aj p2.1 3) (
 let u1:=(Kx p0 p2.2.2.2.1 p2.2.2.2.2.2.2.1 (aj p2.1 4) p3)
 Option.bind u1 fun y1 =>
 some ((),(y1.2.1,p1,y1.2.2.1,([],()),()))
 ) (
 cond (aj p2.1 4) (
 let u1:=(Kx p0 p2.2.2.2.1 p2.2.2.2.2.2.2.1 (aj p2.1 4) p3)
 Option.bind u1 fun y1 =>
 some ((),(y1.2.1,p1,y1.2.2.1,([],()),()))
 ) (
 cond (aj p2.1 5) (
 (P7 p0 p2.2.2.2.1 p3).bind fun y1 =>
 some ((),(y1.2.1,p1,y1.2.2.1,([],()),()))
 ) (
 cond (aj p2.1 6) (
 (Ku p0 p1 p2.2.2.2.1 p3).bind fun y1 =>
 some ((),(y1.2.1,y1.2.2.1,y1.2.2.2.1,([],()),()))
 ) (
 cond (aj p2.1 7) (
 (QX p0 p3).bind fun y1 =>
 some ((),(p0,p1,y1.2.2.1,y1.2.1,()))
 ) (
 (Qb p0 p3).bind fun y1 =>
 some ((),(y1.2.1,p1,y1.2.2.1,([],()),()))
 )
 )
 )
 )
 )
 )
 )
def s97:Su:=⟨[.c true [.str,ah,ah,ah,ah,bu,ah,ah,q3,q3,bP],.c true [.str,ah,ah,ah,ah,bu,ah,ah,q3,q3,bP],.c true [ah,.str,.str,.str,.str,.str,ah,ah],.c false [ah]],[(true,[.str,ah,ah,ah,ah,bu,ah,ah,q3,q3,bP]),(true,[.str,ah,ah,ah,ah,bu,ah,ah,q3,q3,bP]),(false,[ah]),(false,[.str])],false,.inl fun x=>W0 x.1 x.2.1 x.2.2.1 x.2.2.2.1.1⟩
def Vn:List SE:=[]
def aaR:Nat->Option (Lo Vn)
 | _=>none
def P9:List Y0:=[(178,iS XI.ro),(179,iS ZD.ro),(180,iS aaQ.ro),(181,iS Y6.ro),(182,iS KB.ro),(183,iS aaH),(184,iS YO.ro)]
def Q6:En:=uZ 102 tt P9 Vn aaR [999999] fun _=>none
def acH:Nat->Option (St->Tr St)
 | 20=>some (Ub Q6 (opsOf (a8 20 (ak Tryz.f97))) [(4,2),(4,3)] 4 [1])
 | _=>none
def E97:En:=uZ 102 tt P9 Vn aaR [999999] (acH)
theorem t97(x:PT s97.ps):(Ei E97 (ak Tryz.f97) Tryz.f97.results.toList s97.ps s97.rs false x).run=W0 x.1 x.2.1 x.2.2.1 x.2.2.2.1.1:=by kernel_rfl
theorem Zs:cZ Tryz.prog E97:=bZ (l:=P9) ⟨(TA.ro rfl rfl),(TF.ro rfl rfl),(Ti.ro rfl rfl),(Sq.ro rfl rfl),(SO.ro rfl rfl),S9,(Tc.ro rfl rfl),trivial⟩
theorem Ib:cZ Tryz.prog Q6:=bZ (l:=P9) ⟨(TA.ro rfl rfl),(TF.ro rfl rfl),(Ti.ro rfl rfl),(Sq.ro rfl rfl),(SO.ro rfl rfl),S9,(Tc.ro rfl rfl),trivial⟩
theorem Wj:cM Tryz.prog E97 (a8 20 (ak Tryz.f97)) (Ub Q6 (opsOf (a8 20 (ak Tryz.f97))) [(4,2),(4,3)] 4 [1]) :=
 dP rfl rfl (Tj (E:=Q6) (oU hT) Ib gK (c:=(a8 20 (ak Tryz.f97))) (id:=20) (by kernel_rfl))
theorem aax:au Tryz.prog 97 s97 :=
 nu (E:=E97) (oU hT) Zs gK (fn:=Tryz.f97) (c:=(ak Tryz.f97)) (by kernel_rfl) (by kernel_rfl) (by kernel_rfl) rfl (cC [] (by kernel_rfl) trivial [(20,a8 20 (ak Tryz.f97))] (by kernel_rfl) ⟨pL rfl Wj,trivial⟩) fun x y h=>⟨y.1,fun _=>rfl,(t97 x).trans h⟩
def g53(p0:(List iI)×Unit)(p1:Int×S8×S8×S8×S8×S8×Int×Int×Unit)(p2:Int):Option (Unit×(Y5×Y1×Y9×Unit)) :=
 (Zx p0).bind fun y1 =>
 cond (!y1.2.1.1) (
 Xi
 ) (
 (yX p1).bind fun y2 =>
 cond (!y2.2.1.1) (
 Xi
 ) (
 (He p2).bind fun y3 =>
 cond (!y3.2.1.1) (
 Xi
 ) (
 (W7 p0 p1.2.1).bind fun y4 =>
 cond (aj p1.1 6) (
 (W7 p0 p1.2.2.1).bind fun y5 =>
 cond (cond (aG y4.2.1.1 0) true (aG y5.2.1.1 0)) (
 WZ
 ) (
 cond (aZ y4.2.1.1 p0.1) (
 cond (aZ y5.2.1.1 p0.1) (
 let u1:=(gt d94 p0.1 y4.2.1.1)
 (W0 u1 (gt d94 p0.1 y5.2.1.1) p1 p2).bind fun y6 =>
 cond (!(aj y6.2.2.2.1.1 0)) (
 some ((),(([],()),y6.2.2.2.1,([],()),()))
 ) (
 let u2:=(VI p0)
 Option.bind u2 fun y7 =>
 cond (!(aj y5.2.1.1 y4.2.1.1)) (
 (KF y6.2.2.1).bind fun y8 =>
 cond (aZ y5.2.1.1 y7.2.1.1) (
 let u3:=(KF y6.2.1)
 Option.bind u3 fun y9 =>
 let u4:=(dw y7.2.1.1 y5.2.1.1 y8.2.1)
 cond (aZ y4.2.1.1 u4) (
 some ((),(((dw u4 y4.2.1.1 y9.2.1),()),(0,()),y6.2.2.2.2.1,()))
 ) none
 ) none
 ) (
 let u3:=(KF y6.2.1)
 Option.bind u3 fun y8 =>
 cond (aZ y4.2.1.1 y7.2.1.1) (
 some ((),(((dw y7.2.1.1 y4.2.1.1 y8.2.1),()),(0,()),y6.2.2.2.2.1,()))
 ) none
 )
 )
 ) none
 ) none
 )
 ) (
 cond (cond (aG y4.2.1.1 0) true (aG y4.2.1.1 0)) (
 WZ
 ) (
 cond (aZ y4.2.1.1 p0.1) (
 cond (aZ y4.2.1.1 p0.1) (
 let u1:=(gt d94 p0.1 y4.2.1.1)
 (W0 u1 u1 p1 p2).bind fun y5 =>
 cond (!(aj y5.2.2.2.1.1 0)) (
 some ((),(([],()),y5.2.2.2.1,([],()),()))
 ) (
 let u2:=(VI p0)
 Option.bind u2 fun y6 =>
 cond (!(aj y4.2.1.1 y4.2.1.1)) (
 (KF y5.2.2.1).bind fun y7 =>
 cond (aZ y4.2.1.1 y6.2.1.1) (
 let u3:=(KF y5.2.1)
 Option.bind u3 fun y8 =>
 let u4:=(dw y6.2.1.1 y4.2.1.1 y7.2.1)
 cond (aZ y4.2.1.1 u4) (
 some ((),(((dw u4 y4.2.1.1 y8.2.1),()),(0,()),y5.2.2.2.2.1,()))
 ) none
 ) none
 ) (
 let u3:=(KF y5.2.1)
 Option.bind u3 fun y7 =>
 cond (aZ y4.2.1.1 y6.2.1.1) (
 let u4:=(dw y6.2.1.1 y4.2.1.1 y7.2.1)
 some ((),((u4,()),(0,()),y5.2.2.2.2.1,()))
 ) none
 )
 )
 ) none
 ) none
 )
 )
 )
 )
 )
def s53:Su:=fU [.c true [jD],.c true [ah,.str,.str,.str,.str,.str,ah,ah],.c false [ah]] [(true,[jD]),(false,[ah]),(false,[.str])] fun x=>g53 x.1 x.2.1 x.2.2.1.1
def Us:List SE:=[]
def XZ:Nat->Option (Lo Us)
 | _=>none
def Ro:List Y0:=[(77,iS s77),(41,iS s41),(45,iS s45),(44,iS s44),(95,iS s95),(51,iS s51),(97,iS s97)]
def P1:En:=uZ 90 tt Ro Us XZ [] fun _=>none
def ac7:Nat->Option (St->Tr St)
 | 9=>some (gb P1 (opsOf (a8 9 (ak Tryz.f53))) [(20,15),(20,16),(20,17)])
 | _=>none
def E53:En:=uZ 90 tt Ro Us XZ [] (ac7)
theorem t53(x:PT s53.ps):(Ei E53 (ak Tryz.f53) Tryz.f53.results.toList s53.ps s53.rs true x).run=g53 x.1 x.2.1 x.2.2.1.1:=by kernel_rfl
theorem ZW:cZ Tryz.prog E53:=bZ (l:=Ro) ⟨O5,Jt,qz,K6,UK,MV,aax,trivial⟩
theorem LP:cZ Tryz.prog P1:=bZ (l:=Ro) ⟨O5,Jt,qz,K6,UK,MV,aax,trivial⟩
theorem aa0:cM Tryz.prog E53 (a8 9 (ak Tryz.f53)) (gb P1 (opsOf (a8 9 (ak Tryz.f53))) [(20,15),(20,16),(20,17)]) :=
 dP rfl rfl (kE (E:=P1) (oU hT) LP gK (c:=(a8 9 (ak Tryz.f53))) (id:=9) (by kernel_rfl))
theorem U1:au Tryz.prog 53 s53 :=
 nu (E:=E53) (oU hT) ZW gK (fn:=Tryz.f53) (c:=(ak Tryz.f53)) (by kernel_rfl) (by kernel_rfl) (by kernel_rfl) rfl (cC [] (by kernel_rfl) trivial [(9,a8 9 (ak Tryz.f53))] (by kernel_rfl) ⟨pL rfl aa0,trivial⟩) fun x y h=>⟨y.1,fun _=>rfl,(t53 x).trans h⟩
def g54(p0:List bW)(p1:S8×S8×(List R5)×Unit):Option (Unit×(((List bW)×Unit)×Y2×Unit)) :=
 (Vy p0).bind fun y1 =>
 cond (a6 56 y1.2.1.1 [p1]) (
 (Vy (eV y1.2.1.1 [p1])).bind fun y2 =>
 (g99 y2.2.1.1).bind fun y3 =>
 cond (!y3.2.1.1) (
 some ((),(([],()),(false,()),()))
 ) (
 some ((),(y2.2.1,(true,()),()))
 )
 ) none
def s54:Su:=fU [.c false [bP],.c true [.str,.str,q5]] [(false,[bP]),(false,[.bool])] fun x=>g54 x.1.1 x.2.1
theorem Vi:au Tryz.prog 54 s54 :=
 fq (ac aaL (ac Z5 an)) Tryz.f54
def g15(p0:(List iI)×Unit)(p1:List R5)(p2:Int):Option (Unit×(Y5×Y4×Unit)) :=
 (VI p0).bind fun y1 =>
 (Jo p1 0 4).bind fun y2 =>
 (g43 p1).bind fun y3 =>
 (Zx p0).bind fun y4 =>
 cond (!y4.2.1.1) (
 some ((),(y1.2.1,([],()),()))
 ) (
 (He p2).bind fun y5 =>
 cond (cond (!y5.2.1.1) true (aj y3.2.2.1.1 1)) (
 some ((),(y1.2.1,([],()),()))
 ) (
 (V2 y2.2.1.1).bind fun y6 =>
 cond (bk y6.2.1.1 []) (
 some ((),(y1.2.1,([],()),()))
 ) (
 cond (!(aj y3.2.2.1.1 0)) (
 (g47 y2.2.1.1 1).bind fun y7 =>
 (XE y7.2.1).bind fun y8 =>
 some ((),(y1.2.1,y8.2.1,()))
 ) (
 (g49 y3.2.1).bind fun y7 =>
 cond (!(aj y7.2.2.1.1 0)) (
 (S7 y3.2.1 y7.2.2.1.1 [] []).bind fun y8 =>
 some ((),(y1.2.1,y8.2.1,()))
 ) (
 (W7 p0 y7.2.1.2.1).bind fun y8 =>
 cond (aG y8.2.1.1 0) (
 (S7 y3.2.1 3 [] []).bind fun y9 =>
 some ((),(y1.2.1,y9.2.1,()))
 ) (
 cond (aZ y8.2.1.1 p0.1) (
 (g52 (gt d94 p0.1 y8.2.1.1).2.2.2.2.2.2.2.2.2.2.1 y7.2.1.2.2.2.2.1 y7.2.1.2.2.2.2.2.1).bind fun y9 =>
 cond y9.2.2.1.1 (
 some ((),(y1.2.1,y9.2.1,()))
 ) (
 cond (aZ y8.2.1.1 p0.1) (
 cond (aj (ae (gt d94 p0.1 y8.2.1.1).2.2.2.2.2.2.2.2.2.2.1) 6) (
 (S7 y3.2.1 10 [] []).bind fun y10 =>
 some ((),(y1.2.1,y10.2.1,()))
 ) (
 (g53 p0 y7.2.1 p2).bind fun y10 =>
 cond (aj y10.2.2.1.1 0) (
 let u1:=(S7 y3.2.1 y10.2.2.1.1 y7.2.1.2.2.2.1 y10.2.2.2.1.1)
 Option.bind u1 fun y11 =>
 cond (aZ y8.2.1.1 y10.2.1.1) (
 let u2:=(gt d94 y10.2.1.1 y8.2.1.1)
 (g54 u2.2.2.2.2.2.2.2.2.2.2.1 (y7.2.1.2.2.2.2.1,y7.2.1.2.2.2.2.2.1,y11.2.1.1,())).bind fun y12 =>
 cond (aZ y8.2.1.1 y10.2.1.1) (
 some ((),(((dw y10.2.1.1 y8.2.1.1 (u2.1,u2.2.1,u2.2.2.1,u2.2.2.2.1,u2.2.2.2.2.1,u2.2.2.2.2.2.1,u2.2.2.2.2.2.2.1,u2.2.2.2.2.2.2.2.1,u2.2.2.2.2.2.2.2.2.1,u2.2.2.2.2.2.2.2.2.2.1,y12.2.1.1,())),()),y11.2.1,()))
 ) none
 ) none
 ) (
 let u1:=(S7 y3.2.1 y10.2.2.1.1 y7.2.1.2.2.2.1 y10.2.2.2.1.1)
 Option.bind u1 fun y11 =>
 cond (aZ y8.2.1.1 y1.2.1.1) (
 let u2:=(gt d94 y1.2.1.1 y8.2.1.1)
 (g54 u2.2.2.2.2.2.2.2.2.2.2.1 (y7.2.1.2.2.2.2.1,y7.2.1.2.2.2.2.2.1,y11.2.1.1,())).bind fun y12 =>
 cond (aZ y8.2.1.1 y1.2.1.1) (
 some ((),(((dw y1.2.1.1 y8.2.1.1 (u2.1,u2.2.1,u2.2.2.1,u2.2.2.2.1,u2.2.2.2.2.1,u2.2.2.2.2.2.1,u2.2.2.2.2.2.2.1,u2.2.2.2.2.2.2.2.1,u2.2.2.2.2.2.2.2.2.1,u2.2.2.2.2.2.2.2.2.2.1,y12.2.1.1,())),()),y11.2.1,()))
 ) none
 ) none
 )
 )
 ) none
 )
 ) none
 )
 )
 )
 )
 )
 )
def s15:Su:=fU [.c true [jD],.c false [q5],.c false [ah]] [(true,[jD]),(false,[q5])] fun x=>g15 x.1 x.2.1.1 x.2.2.1.1
def V7:List SE:=[]
def Zq:Nat->Option (Lo V7)
 | _=>none
def NA:List Y0:=[(41,iS s41),(42,iS s42),(43,iS s43),(45,iS s45),(44,iS s44),(46,iS s46),(47,iS s47),(48,iS s48),(49,iS s49),(50,iS s50),(51,iS s51),(52,iS s52),(53,iS s53),(54,iS s54)]
def Ct:En:=uZ 160 tt NA V7 Zq [] fun _=>none
def aeg:Nat->Option (St->Tr St)
 | 16=>some (gb Ct (opsOf (a8 16 (ak Tryz.f15))) [(14,13)])
 | 25=>some (gb Ct (opsOf (a8 25 (ak Tryz.f15))) [(21,18)])
 | _=>none
def Ze:En:=uZ 160 tt NA V7 Zq [] (aeg)
theorem t15(x:PT s15.ps):(Ei Ze (ak Tryz.f15) Tryz.f15.results.toList s15.ps s15.rs true x).run=g15 x.1 x.2.1.1 x.2.2.1.1:=by kernel_rfl
theorem XY:cZ Tryz.prog Ze:=bZ (l:=NA) ⟨Jt,Je,UZ,qz,K6,N2,Un,QU,Wb,Wv,MV,WN,U1,Vi,trivial⟩
theorem Jb:cZ Tryz.prog Ct:=bZ (l:=NA) ⟨Jt,Je,UZ,qz,K6,N2,Un,QU,Wb,Wv,MV,WN,U1,Vi,trivial⟩
theorem Ue:cM Tryz.prog Ze (a8 16 (ak Tryz.f15)) (gb Ct (opsOf (a8 16 (ak Tryz.f15))) [(14,13)]) :=
 dP rfl rfl (kE (E:=Ct) (oU hT) Jb gK (c:=(a8 16 (ak Tryz.f15))) (id:=16) (by kernel_rfl))
theorem IG:cZ Tryz.prog Ct:=bZ (l:=NA) ⟨Jt,Je,UZ,qz,K6,N2,Un,QU,Wb,Wv,MV,WN,U1,Vi,trivial⟩
theorem Wp:cM Tryz.prog Ze (a8 25 (ak Tryz.f15)) (gb Ct (opsOf (a8 25 (ak Tryz.f15))) [(21,18)]) :=
 dP rfl rfl (kE (E:=Ct) (oU hT) IG gK (c:=(a8 25 (ak Tryz.f15))) (id:=25) (by kernel_rfl))
theorem acr:au Tryz.prog 15 s15 :=
 nu (E:=Ze) (oU hT) XY gK (fn:=Tryz.f15) (c:=(ak Tryz.f15)) (by kernel_rfl) (by kernel_rfl) (by kernel_rfl) rfl (cC [] (by kernel_rfl) trivial [(16,a8 16 (ak Tryz.f15)),(25,a8 25 (ak Tryz.f15))] (by kernel_rfl) ⟨pL rfl Ue,pL rfl Wp,trivial⟩) fun x y h=>⟨y.1,fun _=>rfl,(t15 x).trans h⟩
def yj(t7:List OE)(t15:List vn)(t16 t17:Int)(b4 b6:(List iI)×Unit):Rd ((List OE)×(List vn)×Int×Int×Y5×Y5×Unit) Unit :=
 cond (aG t17 t16) (
 cond (aZ t17 t15) (
 let u1:=(gt d62 t15 t17)
 (g15 b6 u1.2.1 u1.1).bind fun y1 =>
 cond (a6 24 t7 [y1.2.2.1]) (
 eA ((eV t7 [y1.2.2.1]),t15,t16,(aw .i64 t17 1),b4,y1.2.1,())
 ) none
 ) none
 ) (
 eB (t7,t15,t16,t17,b4,b6,())
 )
def aai:=Xh (aq (BU yj))
def g23(p0:(List iI)×Unit)(p1:List vn):Option Y52 :=
 (VI p0).bind fun y1 =>
 (aai [] p1 (ae p1) 0 ([],()) y1.2.1).bind (Sum.elim (fun y2 =>
 some ((),(y2.2.2.2.2.2.1,(y2.1,()),()))
 ) (fun _ =>
 none
 ))
def s23:Su:=fU [.c true [jD],.c false [Ev]] [(true,[jD]),(false,[Qk])] fun x=>g23 x.1 x.2.1.1
theorem ad8:au Tryz.prog 23 s23 :=
 fl (ac Jt (ac acr an)) [] [(0,⟨[.own 7 Qk,.d 15 Ev,.d 16 ah,.d 17 ah,.box 4 [(true,jD)],.box 6 [(true,jD)]],aq (BU yj)⟩)] [] Tryz.f23 (lp [0] (sc dI sn))
def FV(t6:List OE)(t15:List vn)(t16 t17:Int):Rd ((List OE)×(List vn)×Int×Int×Unit) Y2 :=
 cond (aG t17 t16) (
 cond (aZ t17 t15) (
 cond (aZ t17 t6) (
 cond (!(bk (strOf (gt d38 t6 t17).1) (strOf (gt d62 t15 t17).2.2.1))) (
 eC (false,())
 ) (
 eA (t6,t15,t16,(aw .i64 t17 1),())
 )
 ) none
 ) none
 ) (
 eB (t6,t15,t16,t17,())
 )
def abm:=nA (aq (da FV))
def g9(p0:(List iI)×Unit)(p1:List vn):Option gu :=
 (g23 p0 p1).bind fun y1 =>
 (abm y1.2.2.1.1 p1 (ae p1) 0).bind (Sum.elim (fun _ =>
 c3
 ) (fun y2 =>
 some ((),(y2,()))
 ))
def s9:Su:=fU [.c true [jD],.c false [Ev]] gC fun x=>g9 x.1 x.2.1.1
theorem ok9:au Tryz.prog 9 s9 :=
 fl (ac ad8 an) [.d 4 .bool] [(0,⟨[.own 6 Qk,.d 15 Ev,.d 16 ah,.d 17 ah],aq (da FV)⟩)] [] Tryz.f9 (lp [0] (sc dI sn))
def Bw(p0:List bm):Option (Unit×Y7×Unit):=cond (a6 32 ([]:List bm) p0) (zR p0) none
def JC:Su:=fU [.c false [bu]] PU fun x=>Bw x.1.1
def UQ:En:=uZ 8 tt [] [] (fun _=>none) [] fun _=>none
def RF(x:PT JC.ps):St:=⟨[(2,.v .nil),(0,.v (.d bu x.1.1))],[]⟩
theorem t197(x:PT JC.ps)(b:Bool):((cD UQ (.seq (cB (dm (cB (ak Tryz.f197)))) (cB (cB (ak Tryz.f197)))) (((RF x).aT 3 (.v (.d bu x.1.1),none)).aT 4 (.v (.d .bool b),none))).bind (B1 UQ Tryz.f197.results.toList JC.ps JC.rs JC.fresh)).run =
 cond b (zR []) (Bw x.1.1):=by kernel_rfl
theorem Ob:au Tryz.prog 197 JC :=
 EJ (E:=UQ) (oU hT) (bZ (l:=[]) trivial) gK (fn:=Tryz.f197) (c0:=dm (ak Tryz.f197)) (cc:=cB (dm (cB (ak Tryz.f197)))) (c3:=cB (cB (ak Tryz.f197))) (id:=GQ (dm (dm (cB (ak Tryz.f197)))))
  (o1:=nC (dm (dm (cB (ak Tryz.f197)))) 0) (o2:=nC (dm (dm (cB (ak Tryz.f197)))) 1) (by kernel_rfl) (by kernel_rfl) (by kernel_rfl) rfl
  (bz (fun _=>rfl) _ (by kernel_rfl)) (bz (fun _=>rfl) _ (by kernel_rfl)) (bz (fun _=>rfl) _ (by kernel_rfl)) (t0:=0) (t3:=3) (t4:=4) (ty:=89) (ty':=89) (e:=192) (e':=192) (by':=24) (fl:=[]) (ks:=lI) (by kernel_rfl) (by kernel_rfl) (by kernel_rfl) (by kernel_rfl) (by kernel_rfl) (by kernel_rfl) (by kernel_rfl) (by kernel_rfl) (by kernel_rfl)
  RF (fun x=>x.1.1) (fun x=>by kernel_rfl) (fun x=>by kernel_rfl) fun x y hy b hb=>by
   refine⟨y.1,fun _=>rfl,?_⟩
   rw[t197]
   have hy:Bw x.1.1=some y:=hy
   cases b with
   | false=>exact hy
   | true =>
     have he:x.1.1=([]:List bm):=hb rfl
     rw[he]at hy
     exact hy
def HT(p0:List R3):Option (Unit×LI×Unit):=cond (a6 8 ([]:List R3) p0) (zR p0) none
def Ig:Su:=fU [.c false [q3]] [(false,[q3])] fun x=>HT x.1.1
def Ut:En:=uZ 8 tt [] [] (fun _=>none) [] fun _=>none
def R4(x:PT Ig.ps):St:=⟨[(2,.v .nil),(0,.v (.d q3 x.1.1))],[]⟩
theorem t247(x:PT Ig.ps)(b:Bool):((cD Ut (.seq (cB (dm (cB (ak Tryz.f247)))) (cB (cB (ak Tryz.f247)))) (((R4 x).aT 3 (.v (.d q3 x.1.1),none)).aT 4 (.v (.d .bool b),none))).bind (B1 Ut Tryz.f247.results.toList Ig.ps Ig.rs Ig.fresh)).run =
 cond b (zR []) (HT x.1.1):=by kernel_rfl
theorem ZE:au Tryz.prog 247 Ig :=
 EJ (E:=Ut) (oU hT) (bZ (l:=[]) trivial) gK (fn:=Tryz.f247) (c0:=dm (ak Tryz.f247)) (cc:=cB (dm (cB (ak Tryz.f247)))) (c3:=cB (cB (ak Tryz.f247))) (id:=GQ (dm (dm (cB (ak Tryz.f247)))))
  (o1:=nC (dm (dm (cB (ak Tryz.f247)))) 0) (o2:=nC (dm (dm (cB (ak Tryz.f247)))) 1) (by kernel_rfl) (by kernel_rfl) (by kernel_rfl) rfl
  (bz (fun _=>rfl) _ (by kernel_rfl)) (bz (fun _=>rfl) _ (by kernel_rfl)) (bz (fun _=>rfl) _ (by kernel_rfl)) (t0:=0) (t3:=3) (t4:=4) (ty:=52) (ty':=52) (e:=3) (e':=3) (by':=24) (fl:=[]) (ks:=rO) (by kernel_rfl) (by kernel_rfl) (by kernel_rfl) (by kernel_rfl) (by kernel_rfl) (by kernel_rfl) (by kernel_rfl) (by kernel_rfl) (by kernel_rfl)
  R4 (fun x=>x.1.1) (fun x=>by kernel_rfl) (fun x=>by kernel_rfl) fun x y hy b hb=>by
   refine⟨y.1,fun _=>rfl,?_⟩
   rw[t247]
   have hy:HT x.1.1=some y:=hy
   cases b with
   | false=>exact hy
   | true =>
     have he:x.1.1=([]:List R3):=hb rfl
     rw[he]at hy
     exact hy
def Ba(p0:Int×Int×(List R3)×(List R3)×Unit):Option Uz :=
 (HT p0.2.2.1).bind fun y1 =>
 (HT p0.2.2.2.1).bind fun y2 =>
 some ((),((p0.1,p0.2.1,y1.2.1.1,y2.2.1.1,()),()))
def Ys:Su:=fU [.c true [ah,ah,q3,q3]] VP fun x=>Ba x.1
theorem Gx:au Tryz.prog 198 Ys :=
 fq (ac ZE an) Tryz.f198
def EK(p0:List R5):Option (Unit×Y4×Unit):=cond (a6 1 ([]:List R5) p0) (zR p0) none
def I5:Su:=fU [.c false [q5]] W9 fun x=>EK x.1.1
def Vv:En:=uZ 8 tt [] [] (fun _=>none) [] fun _=>none
def S1(x:PT I5.ps):St:=⟨[(2,.v .nil),(0,.v (.d q5 x.1.1))],[]⟩
theorem t128(x:PT I5.ps)(b:Bool):((cD Vv (.seq (cB (dm (cB (ak Tryz.f128)))) (cB (cB (ak Tryz.f128)))) (((S1 x).aT 3 (.v (.d q5 x.1.1),none)).aT 4 (.v (.d .bool b),none))).bind (B1 Vv Tryz.f128.results.toList I5.ps I5.rs I5.fresh)).run =
 cond b (zR []) (EK x.1.1):=by kernel_rfl
theorem R7:au Tryz.prog 128 I5 :=
 EJ (E:=Vv) (oU hT) (bZ (l:=[]) trivial) gK (fn:=Tryz.f128) (c0:=dm (ak Tryz.f128)) (cc:=cB (dm (cB (ak Tryz.f128)))) (c3:=cB (cB (ak Tryz.f128))) (id:=GQ (dm (dm (cB (ak Tryz.f128)))))
  (o1:=nC (dm (dm (cB (ak Tryz.f128)))) 0) (o2:=nC (dm (dm (cB (ak Tryz.f128)))) 1) (by kernel_rfl) (by kernel_rfl) (by kernel_rfl) rfl
  (bz (fun _=>rfl) _ (by kernel_rfl)) (bz (fun _=>rfl) _ (by kernel_rfl)) (bz (fun _=>rfl) _ (by kernel_rfl)) (t0:=0) (t3:=3) (t4:=4) (ty:=38) (ty':=38) (e:=5) (e':=5) (by':=24) (fl:=[]) (ks:=vf) (by kernel_rfl) (by kernel_rfl) (by kernel_rfl) (by kernel_rfl) (by kernel_rfl) (by kernel_rfl) (by kernel_rfl) (by kernel_rfl) (by kernel_rfl)
  S1 (fun x=>x.1.1) (fun x=>by kernel_rfl) (fun x=>by kernel_rfl) fun x y hy b hb=>by
   refine⟨y.1,fun _=>rfl,?_⟩
   rw[t128]
   have hy:EK x.1.1=some y:=hy
   cases b with
   | false=>exact hy
   | true =>
     have he:x.1.1=([]:List R5):=hb rfl
     rw[he]at hy
     exact hy
def qd(t3 t7:List bW)(t8 t9:Int):Rd Y35 Unit :=
 cond (aG t9 t8) (
 cond (aZ t9 t7) (
 let u1:=(gt d100 t7 t9)
 (EK u1.2.2.1).bind fun y1 =>
 cond (a6 56 t3 [(u1.1,u1.2.1,y1.2.1.1,())]) (
 eA ((eV t3 [(u1.1,u1.2.1,y1.2.1.1,())]),t7,t8,(aw .i64 t9 1),())
 ) none
 ) none
 ) (
 eB (t3,t7,t8,t9,())
 )
def K2:=nA (aq (da qd))
def JJ(p0:List bW):Option Y30 :=
 (K2 [] p0 (ae p0) 0).bind (Sum.elim (fun y1 =>
 zR y1.1
 ) (fun _ =>
 none
 ))
def adI:Su:=fU [.c false [bP]] [(false,[bP])] fun x=>JJ x.1.1
theorem Th:au Tryz.prog 136 adI :=
 fl (ac R7 an) [] [(0,⟨[.own 3 bP,.d 7 bP,.d 8 ah,.d 9 ah],aq (da qd)⟩)] [] Tryz.f136 (lp [0] (sc dI sn))
def Mh(p0:S8×Int×Int×Int×Int×(List bm)×Int×Int×(List R3)×(List R3)×(List bW)×Unit):Option WU :=
 (Bw p0.2.2.2.2.2.1).bind fun y1 =>
 (Ba (p0.2.2.2.2.2.2.1,p0.2.2.2.2.2.2.2.1,p0.2.2.2.2.2.2.2.2.1,p0.2.2.2.2.2.2.2.2.2.1,())).bind fun y2 =>
 (JJ p0.2.2.2.2.2.2.2.2.2.2.1).bind fun y3 =>
 some ((),((p0.1,p0.2.1,p0.2.2.1,p0.2.2.2.1,p0.2.2.2.2.1,y1.2.1.1,y2.2.1.1,y2.2.1.2.1,y2.2.1.2.2.1,y2.2.1.2.2.2.1,y3.2.1.1,()),()))
def adE:Su:=fU [.c true [.str,ah,ah,ah,ah,bu,ah,ah,q3,q3,bP]] Xf fun x=>Mh x.1
theorem SD:au Tryz.prog 106 adE :=
 fq (ac Ob (ac Gx (ac Th an))) Tryz.f106
def qh(_:Unit)(t10:List iI)(t11 t12:Int)(b4 b5:(List iI)×Unit):Rd (Unit×(List iI)×Int×Int×Y5×Y5×Unit) Unit :=
 cond (aG t12 t11) (
 cond (aZ t12 t10) (
 (Mh (gt d94 t10 t12)).bind fun y1 =>
 cond (a6 160 b5.1 [y1.2.1]) (
 eA ((),t10,t11,(aw .i64 t12 1),b4,((eV b5.1 [y1.2.1]),()),())
 ) none
 ) none
 ) (
 eB ((),t10,t11,t12,b4,b5,())
 )
def Mb:=Xh (aq (BU qh))
def WT(p0:(List iI)×Unit):Option WQ :=
 (Mb () p0.1 (ae p0.1) 0 ([],()) ([],())).bind (Sum.elim (fun y1 =>
 some ((),(y1.2.2.2.2.2.1,()))
 ) (fun _ =>
 none
 ))
def aea:Su:=fU [.c true [jD],.fn 106 []] Xe fun x=>WT x.1
theorem Xx:au Tryz.prog 105 aea :=
 fl (ac SD an) [] [(0,⟨[.fn 1 106 [],.d 10 jD,.d 11 ah,.d 12 ah,.box 4 [(true,jD)],.box 5 [(true,jD)]],aq (BU qh)⟩)] [] Tryz.f105 (lp [0] (sc dI sn))
def Fx(p0:(List iI)×Unit):Option WQ :=
 (WT p0).bind fun y1 =>
 some ((),(y1.2.1,()))
def s58:Su:=fU [.c true [jD]] Xe fun x=>Fx x.1
theorem F3:au Tryz.prog 58 s58 :=
 fq (ac Xx an) Tryz.f58
def qE(t0:S8)(t5 t6:Int):Rd WH Y2 :=
 cond (aG t6 t5) (
 cond (aZ t6 t0) (
 let u1:=(ee t0 t6)
 cond (aG u1 48) (
 eC (false,())
 ) (
 cond (aZ t6 t0) (
 cond (aG 57 u1) (
 eC (false,())
 ) (
 eA (t0,t5,(aw .i64 t6 1),())
 )
 ) none
 )
 ) none
 ) (
 eB (t0,t5,t6,())
 )
def Mv:=vm (aq (iT qE))
def tP(p0:S8):Option gu :=
 (Mv p0 (ae p0) 0).bind (Sum.elim (fun y1 =>
 zR (!(bk y1.1 []))
 ) (fun y1 =>
 some ((),(y1,()))
 ))
def acK:Su:=fU [.c false [.str]] gC fun x=>tP x.1.1
theorem xL:au Tryz.prog 108 acK :=
 fl an [.d 2 .bool] [(0,⟨[.d 0 .str,.d 5 ah,.d 6 ah],aq (iT qE)⟩)] [] Tryz.f108 (lp [0] (sc dI sn))
def tS(t0:S8)(t3:Int)(t4:Bool)(t5:Int):Rd (S8×Int×Bool×Int×Unit) Unit :=
 cond (bM 0 t5) (
 cond (aZ t5 t0) (
 cond t4 (
 let u1:=(dE .i64 (aW .u8 (ee t0 t5) 48))
 let u2:=(vi .i64 u1 2)
 cond (aG 9 u2) (
 let u3:=(aW .i64 t5 1)
 eA (t0,(aw .i64 t3 (aW .i64 u2 9)),(!t4),u3,())
 ) (
 let u3:=(aW .i64 t5 1)
 eA (t0,(aw .i64 t3 u2),(!t4),u3,())
 )
 ) (
 let u1:=(dE .i64 (aW .u8 (ee t0 t5) 48))
 let u2:=(aW .i64 t5 1)
 eA (t0,(aw .i64 t3 u1),(!t4),u2,())
 )
 ) none
 ) (
 eB (t0,t3,t4,t5,())
 )
def Nn:=nA (aq (da tS))
def QF(p0:S8):Option iJ :=
 (tP p0).bind fun y1 =>
 cond (!y1.2.1.1) (
 c2
 ) (
 (Nn p0 0 true (aW .i64 (ae p0) 1)).bind (Sum.elim (fun y2 =>
 zR (eF (aW .i64 10 (eF y2.2.1 10)) 10)
 ) (fun _ =>
 none
 ))
 )
def acf:Su:=fU [.c false [.str]] j9 fun x=>QF x.1.1
theorem ZF:au Tryz.prog 275 acf :=
 fl (ac xL an) [] [(0,⟨[.d 0 .str,.d 3 ah,.d 4 .bool,.d 5 ah],aq (da tS)⟩)] [] Tryz.f275 (lp [0] (sc dI sn))
def P0(p0:S8):Option gu :=
 let u1:=(aW .i64 (ae p0) 1)
 cond (bM 1 u1) (
 (tP p0).bind fun y1 =>
 cond y1.2.1.1 (
 cond (dZ 0 u1 p0) (
 (QF (sub p0 0 u1)).bind fun y2 =>
 cond (aZ u1 p0) (
 zR (aj y2.2.1.1 (dE .i64 (aW .u8 (ee p0 u1) 48)))
 ) none
 ) none
 ) (
 c0
 )
 ) (
 c0
 )
def ad6:Su:=fU [.c false [.str]] gC fun x=>P0 x.1.1
theorem Xp:au Tryz.prog 244 ad6 :=
 fq (ac xL (ac ZF an)) Tryz.f244
def tU(p0:S8):Option gu :=
 cond (bM (ae p0) 19) (
 (P0 p0).bind fun y1 =>
 some ((),(y1.2.1,()))
 ) (
 c0
 )
def abB:Su:=fU [.c false [.str]] gC fun x=>tU x.1.1
theorem SN:au Tryz.prog 191 abB :=
 fq (ac Xp an) Tryz.f191
def gQ(p0 p1 p2:Int):Option gu :=
 zR (cond (bM p1 p0) (bM p0 p2) false)
def abG:Su:=fU [.c false [ah],.c false [ah],.c false [ah]] gC fun x=>gQ x.1.1 x.2.1.1 x.2.2.1.1
theorem iY:au Tryz.prog 104 abG :=
 fq an Tryz.f104
def Le(p0:Int):Option gu :=
 (gQ p0 0 4611686018427387904).bind fun y1 =>
 some ((),(y1.2.1,()))
def Yg:Su:=fU [.c false [ah]] gC fun x=>Le x.1.1
theorem Ga:au Tryz.prog 192 Yg :=
 fq (ac iY an) Tryz.f192
def pK(t0:S8)(t5 t6:Int):Rd WH Y2 :=
 cond (aG t6 t5) (
 cond (aZ t6 t0) (
 let u1:=(ee t0 t6)
 cond (aG u1 48) (
 cond (aZ t6 t0) (
 cond (aG u1 97) (
 eC (false,())
 ) (
 cond (aZ t6 t0) (
 cond (aG 122 u1) (
 eC (false,())
 ) (
 eA (t0,t5,(aw .i64 t6 1),())
 )
 ) none
 )
 ) none
 ) (
 cond (aZ t6 t0) (
 cond (aG 57 u1) (
 cond (aZ t6 t0) (
 cond (aG u1 97) (
 eC (false,())
 ) (
 cond (aZ t6 t0) (
 cond (aG 122 u1) (
 eC (false,())
 ) (
 eA (t0,t5,(aw .i64 t6 1),())
 )
 ) none
 )
 ) none
 ) (
 eA (t0,t5,(aw .i64 t6 1),())
 )
 ) none
 )
 ) none
 ) (
 eB (t0,t5,t6,())
 )
def Ka:=vm (aq (iT pK))
def D8(p0:S8):Option gu :=
 (Ka p0 (ae p0) 0).bind (Sum.elim (fun y1 =>
 (gQ (ae y1.1) 1 6).bind fun y2 =>
 some ((),(y2.2.1,()))
 ) (fun y1 =>
 some ((),(y1,()))
 ))
def aah:Su:=fU [.c false [.str]] gC fun x=>D8 x.1.1
theorem xN:au Tryz.prog 204 aah :=
 fl (ac iY an) [.d 2 .bool] [(0,⟨[.d 0 .str,.d 5 ah,.d 6 ah],aq (iT pK)⟩)] [] Tryz.f204 (lp [0] (sc dI sn))
def Jy(p0:Int):Option gu :=
 (gQ p0 0 1000000000).bind fun y1 =>
 some ((),(y1.2.1,()))
def s57:Su:=fU [.c false [ah]] gC fun x=>Jy x.1.1
theorem q9:au Tryz.prog 57 s57 :=
 fq (ac iY an) Tryz.f57
def Qd(p0:S8×Int×Int×Unit):Option gu :=
 (D8 p0.1).bind fun y1 =>
 cond y1.2.1.1 (
 (gQ p0.2.1 1 9007199254740992).bind fun y2 =>
 cond y2.2.1.1 (
 (Jy p0.2.2.1).bind fun y3 =>
 some ((),(y3.2.1,()))
 ) (
 c0
 )
 ) (
 c0
 )
def adQ:Su:=fU [.c true [.str,ah,ah]] gC fun x=>Qd x.1
theorem aar:au Tryz.prog 245 adQ :=
 fq (ac iY (ac xN (ac q9 an))) Tryz.f245
def pW(t0 t5:List bm)(t6 t7:Int):Rd ((List bm)×(List bm)×Int×Int×Unit) Y2 :=
 cond (aG t7 t6) (
 cond (aZ t7 t5) (
 let u1:=(gt d192 t5 t7)
 (Qd u1).bind fun y1 =>
 cond (!y1.2.1.1) (
 eC (false,())
 ) (
 cond (aG 0 t7) (
 let u2:=(aW .i64 t7 1)
 cond (aZ u2 t0) (
 cond (leS u1.1 (gt d192 t0 u2).1) (
 eC (false,())
 ) (
 eA (t0,t5,t6,(aw .i64 t7 1),())
 )
 ) none
 ) (
 eA (t0,t5,t6,(aw .i64 t7 1),())
 )
 )
 ) none
 ) (
 eB (t0,t5,t6,t7,())
 )
def KC:=nA (aq (da pW))
def H2(p0:List bm):Option gu :=
 (KC p0 p0 (ae p0) 0).bind (Sum.elim (fun y1 =>
 zR (bM (ae y1.1) 4)
 ) (fun y1 =>
 some ((),(y1,()))
 ))
def adn:Su:=fU [.c false [bu]] gC fun x=>H2 x.1.1
theorem Tv:au Tryz.prog 193 adn :=
 fl (ac aar an) [.d 2 .bool] [(0,⟨[.d 0 bu,.d 5 bu,.d 6 ah,.d 7 ah],aq (da pW)⟩)] [] Tryz.f193 (lp [0] (sc dI sn))
def OL(p1:Int):Option Y25 :=
 cond (aG p1 0) (
 none
 ) (
 let u1:=(aW .i64 p1 (aW .i64 0 0))
 cond (aG 0 u1) (
 cond (YE 0 0) (
 cond (mzB 8 u1) (
 let u2:=(um d3 u1)
 cond (dZ 0 0 u2) (
 zR (Pv u2 0)
 ) none
 ) none
 ) none
 ) (
 zR []
 )
 )
def ad7:Su:=fU [.nil,.c false [ah]] [(false,[q3])] fun x=>OL x.1.1
theorem aa5:au Tryz.prog 276 ad7 :=
 fq an Tryz.f276
def sU(t0:List LI)(t3:Int)(t9:List LI)(t10 t11:Int):Rd ((List LI)×Int×(List LI)×Int×Int×Unit) Unit :=
 cond (aG t11 t10) (
 cond (aZ t11 t9) (
 let u1:=(aw .i64 t3 (ae (gt d52 t9 t11).1))
 cond (aG u1 0) (
 none
 ) (
 eA (t0,u1,t9,t10,(aw .i64 t11 1),())
 )
 ) none
 ) (
 eB (t0,t3,t9,t10,t11,())
 )
def FW:=JU (aq (nD sU))
def tF(t6:List R3)(t25:List LI)(t26 t27:Int):Rd ((List R3)×(List LI)×Int×Int×Unit) Unit :=
 cond (aG t27 t26) (
 cond (aZ t27 t25) (
 cond (a6 8 t6 (gt d52 t25 t27).1) (
 eA ((eV t6 (gt d52 t25 t27).1),t25,t26,(aw .i64 t27 1),())
 ) none
 ) none
 ) (
 eB (t6,t25,t26,t27,())
 )
def EP:=nA (aq (da tF))
def QR(p0:List LI):Option Y25 :=
 (FW p0 0 p0 (ae p0) 0).bind (Sum.elim (fun y1 =>
 (OL y1.2.1).bind fun y2 =>
 (EP y2.2.1.1 y1.1 (ae y1.1) 0).bind (Sum.elim (fun y3 =>
 zR y3.1
 ) (fun _ =>
 none
 ))
 ) (fun _ =>
 none
 ))
def adW:Su:=fU [.c false [.sl 52 J4]] [(false,[q3])] fun x=>QR x.1.1
theorem ZH:au Tryz.prog 246 adW :=
 fl (ac aa5 an) [] [(0,⟨[.d 0 (.sl 52 J4),.d 3 ah,.d 9 (.sl 52 J4),.d 10 ah,.d 11 ah],aq (nD sU)⟩),(2,⟨[.own 6 q3,.d 25 (.sl 52 J4),.d 26 ah,.d 27 ah],aq (da tF)⟩)] [] Tryz.f246 (lp [0,2] (sc dI (sc dI sn)))
def qx(t3:Int)(t14:List R3)(t15 t16:Int)(b1:Int×Int×(List R3)×(List R3)×Unit):Rd (Int×(List R3)×Int×Int×Wz×Unit) Y2 :=
 cond (aG t16 t15) (
 cond (aZ t16 t14) (
 (Le (gt d3 t14 t16).1).bind fun y1 =>
 cond (!y1.2.1.1) (
 eC (false,())
 ) (
 eA (t3,t14,t15,(aw .i64 t16 1),b1,())
 )
 ) none
 ) (
 eB (t3,t14,t15,t16,b1,())
 )
def MZ:=JU (aq (nD qx))
def Bo(p0:Int×Int×(List R3)×(List R3)×Unit):Option gu :=
 (QR [(p0.2.2.1,()),(p0.2.2.2.1,())]).bind fun y1 =>
 (MZ (ae p0.2.2.1) y1.2.1.1 (ae y1.2.1.1) 0 p0).bind (Sum.elim (fun y2 =>
 (gQ y2.2.2.2.2.1.1 1 1000).bind fun y3 =>
 cond y3.2.1.1 (
 (gQ y2.1 1 8).bind fun y4 =>
 cond (cond y4.2.1.1 (aj (ae y2.2.2.2.2.1.2.2.2.1) y2.1) false) (
 (Jy y2.2.2.2.2.1.2.1).bind fun y5 =>
 some ((),(y5.2.1,()))
 ) (
 c0
 )
 ) (
 c0
 )
 ) (fun y2 =>
 some ((),(y2,()))
 ))
def Xw:Su:=fU [.c true [ah,ah,q3,q3]] gC fun x=>Bo x.1
theorem zF:au Tryz.prog 194 Xw :=
 fl (ac iY (ac Ga (ac q9 (ac ZH an)))) [.d 2 .bool] [(0,⟨[.d 3 ah,.own 14 q3,.d 15 ah,.d 16 ah,.box 1 [(false,.int .i64),(false,.int .i64),(false,q3),(false,q3)]],aq (nD qx)⟩)] [] Tryz.f194 (lp [0] (sc dI sn))
def vl(p0:S8)(p1:Int):Option gu :=
 (tP p0).bind fun y1 =>
 zR (cond y1.2.1.1 (aj (ae p0) p1) false)
def abr:Su:=fU [.c false [.str],.c false [ah]] gC fun x=>vl x.1.1 x.2.1.1
theorem Gs:au Tryz.prog 109 abr :=
 fq (ac xL an) Tryz.f109
def PR(p0:S8×S8×(List R5)×Unit):Option gu :=
 (vl p0.1 6).bind fun y1 =>
 cond y1.2.1.1 (
 (vl p0.2.1 4).bind fun y2 =>
 cond y2.2.1.1 (
 (gQ (ae p0.2.2.1) 1 200).bind fun y3 =>
 some ((),(y3.2.1,()))
 ) (
 c0
 )
 ) (
 c0
 )
def ac4:Su:=fU [.c true [.str,.str,q5]] gC fun x=>PR x.1
theorem abg:au Tryz.prog 218 ac4 :=
 fq (ac iY (ac Gs an)) Tryz.f218
def Wf(p0:S8×S8×(List R5)×Unit)(p1 p2:S8×Unit):Option gu :=
 zR (cond (bk p0.1 p1.1) (bk p0.2.1 p2.1) false)
def ado:Su:=fU [.c true [.str,.str,q5],.pt [.str],.pt [.str]] gC fun x=>Wf x.1 x.2.1 x.2.2.1
theorem aak:au Tryz.prog 208 ado :=
 fq an Tryz.f208
def qy(t0:List bW)(f1:Y9×Y9×Unit)(t7 t8:Int):Rd ((List bW)×(Y9×Y9×Unit)×Int×Int×Unit) Y1 :=
 cond (aG t8 t7) (
 cond (aZ t8 t0) (
 (Wf (gt d100 t0 t8) f1.1 f1.2.1).bind fun y1 =>
 cond y1.2.1.1 (
 eC (t8,())
 ) (
 eA (t0,f1,t7,(aw .i64 t8 1),())
 )
 ) none
 ) (
 eB (t0,f1,t7,t8,())
 )
def Of:=nA (aq (da qy))
def Vh(p0:List bW)(c1_0 c1_1:S8×Unit):Option iJ :=
 (Of p0 (c1_0,c1_1,()) (ae p0) 0).bind (Sum.elim (fun _ =>
 c2
 ) (fun y1 =>
 some ((),(y1,()))
 ))
def adg:Su:=fU [.c false [bP],.fn 208 [.p [.str],.p [.str]]] j9 fun x=>Vh x.1.1 x.2.1.1 x.2.1.2.1
theorem aan:au Tryz.prog 207 adg :=
 fl (ac aak an) [.d 4 ah] [(0,⟨[.d 0 bP,.fn 1 208 [.p [.str],.p [.str]],.d 7 ah,.d 8 ah],aq (da qy)⟩)] [] Tryz.f207 (lp [0] (sc dI sn))
def L8(p0:List bW)(p1 p2:S8):Option iJ :=
 (Vh p0 (p1,()) (p2,())).bind fun y1 =>
 some ((),(y1.2.1,()))
def aca:Su:=fU [.c false [bP],.c false [.str],.c false [.str]] j9 fun x=>L8 x.1.1 x.2.1.1 x.2.2.1.1
theorem RT:au Tryz.prog 127 aca :=
 fq (ac aan an) Tryz.f127
def qF(t0 t5:List bW)(t6 t7:Int):Rd Y35 Y2 :=
 cond (aG t7 t6) (
 cond (aZ t7 t5) (
 let u1:=(gt d100 t5 t7)
 (PR u1).bind fun y1 =>
 cond (!y1.2.1.1) (
 eC (false,())
 ) (
 (L8 t0 u1.1 u1.2.1).bind fun y2 =>
 cond (!(aj y2.2.1.1 t7)) (
 eC (false,())
 ) (
 eA (t0,t5,t6,(aw .i64 t7 1),())
 )
 )
 ) none
 ) (
 eB (t0,t5,t6,t7,())
 )
def NW:=nA (aq (da qF))
def NQ(p0:List bW):Option gu :=
 (NW p0 p0 (ae p0) 0).bind (Sum.elim (fun y1 =>
 zR (bM (ae y1.1) 6)
 ) (fun y1 =>
 some ((),(y1,()))
 ))
def acG:Su:=fU [.c false [bP]] gC fun x=>NQ x.1.1
theorem TU:au Tryz.prog 138 acG :=
 fl (ac abg (ac RT an)) [.d 2 .bool] [(0,⟨[.d 0 bP,.d 5 bP,.d 6 ah,.d 7 ah],aq (da qF)⟩)] [] Tryz.f138 (lp [0] (sc dI sn))
def yW(p0 p1:Int):Option iJ :=
 let u1:=(E1 0 (Oz p1 4611686018427387904))
 let u2:=(E1 0 (Oz p0 4611686018427387904))
 cond (aG (aW .i64 4611686018427387904 u1) u2) (
 c28
 ) (
 zR (aw .i64 u2 u1)
 )
def Z4:Su:=fU [.c false [ah],.c false [ah]] j9 fun x=>yW x.1.1 x.2.1.1
theorem zk:au Tryz.prog 195 Z4 :=
 fq an Tryz.f195
def qA(t3:Int)(t6:List bm)(t7 t8:Int):Rd (Int×(List bm)×Int×Int×Unit) Unit :=
 cond (aG t8 t7) (
 cond (aZ t8 t6) (
 (yW t3 (gt d192 t6 t8).2.1).bind fun y1 =>
 eA (y1.2.1.1,t6,t7,(aw .i64 t8 1),())
 ) none
 ) (
 eB (t3,t6,t7,t8,())
 )
def Lr:=nA (aq (da qA))
def Nb(p0:List bm):Option iJ :=
 (Lr 0 p0 (ae p0) 0).bind (Sum.elim (fun y1 =>
 zR y1.1
 ) (fun _ =>
 none
 ))
def adx:Su:=fU [.c false [bu]] j9 fun x=>Nb x.1.1
theorem RL:au Tryz.prog 196 adx :=
 fl (ac zk an) [] [(0,⟨[.d 3 ah,.d 6 bu,.d 7 ah,.d 8 ah],aq (da qA)⟩)] [] Tryz.f196 (lp [0] (sc dI sn))
def ED(p0:S8×Int×Int×Int×Int×(List bm)×Int×Int×(List R3)×(List R3)×(List bW)×Unit):Option gu :=
 (tU p0.1).bind fun y1 =>
 cond y1.2.1.1 (
 (gQ p0.2.1 0 9007199254740992).bind fun y2 =>
 cond y2.2.1.1 (
 (gQ p0.2.2.2.1 0 1000).bind fun y3 =>
 cond y3.2.1.1 (
 (gQ p0.2.2.2.2.1 0 9007199254740992).bind fun y4 =>
 cond y4.2.1.1 (
 (Le p0.2.2.1).bind fun y5 =>
 cond y5.2.1.1 (
 (H2 p0.2.2.2.2.2.1).bind fun y6 =>
 cond y6.2.1.1 (
 (Bo (p0.2.2.2.2.2.2.1,p0.2.2.2.2.2.2.2.1,p0.2.2.2.2.2.2.2.2.1,p0.2.2.2.2.2.2.2.2.2.1,())).bind fun y7 =>
 cond y7.2.1.1 (
 (NQ p0.2.2.2.2.2.2.2.2.2.2.1).bind fun y8 =>
 cond y8.2.1.1 (
 (Nb p0.2.2.2.2.2.1).bind fun y9 =>
 (yW p0.2.2.1 y9.2.1.1).bind fun y10 =>
 zR (bM y10.2.1.1 p0.2.1)
 ) (
 c0
 )
 ) (
 c0
 )
 ) (
 c0
 )
 ) (
 c0
 )
 ) (
 c0
 )
 ) (
 c0
 )
 ) (
 c0
 )
 ) (
 c0
 )
def adS:Su:=fU [.c true [.str,ah,ah,ah,ah,bu,ah,ah,q3,q3,bP]] gC fun x=>ED x.1
theorem Hc:au Tryz.prog 103 adS :=
 fq (ac SN (ac iY (ac Ga (ac Tv (ac zF (ac TU (ac zk (ac RL an)))))))) Tryz.f103
def PF(p0:S8×Int×Int×Unit)(p1:Int):Option gu :=
 zR (aG p1 p0.2.2.1)
def acY:Su:=fU [.c true [.str,ah,ah],.c false [ah]] gC fun x=>PF x.1 x.2.1.1
theorem aau:au Tryz.prog 268 acY :=
 fq an Tryz.f268
def KR(p0:S8×Int×Int×Unit)(p1:Int×Unit):Option gu :=
 (PF p0 p1.1).bind fun y1 =>
 zR (!y1.2.1.1)
def aaT:Su:=fU [.c true [.str,ah,ah],.pt [ah]] gC fun x=>KR x.1 x.2.1
theorem Sv:au Tryz.prog 267 aaT :=
 fq (ac aau an) Tryz.f267
def re(t0:List bm)(f1:Y1×Unit)(t7 t8:Int):Rd ((List bm)×Y8×Int×Int×Unit) Y1 :=
 cond (aG t8 t7) (
 cond (aZ t8 t0) (
 (KR (gt d192 t0 t8) f1.1).bind fun y1 =>
 cond y1.2.1.1 (
 eC (t8,())
 ) (
 eA (t0,f1,t7,(aw .i64 t8 1),())
 )
 ) none
 ) (
 eB (t0,f1,t7,t8,())
 )
def MQ:=nA (aq (da re))
def Re(p0:List bm)(c1_0:Int×Unit):Option iJ :=
 (MQ p0 (c1_0,()) (ae p0) 0).bind (Sum.elim (fun _ =>
 c2
 ) (fun y1 =>
 some ((),(y1,()))
 ))
def aaX:Su:=fU [.c false [bu],.fn 267 [.p [ah]]] j9 fun x=>Re x.1.1 x.2.1.1
theorem ZZ:au Tryz.prog 256 aaX :=
 fl (ac Sv an) [.d 4 ah] [(0,⟨[.d 0 bu,.fn 1 267 [.p [ah]],.d 7 ah,.d 8 ah],aq (da re)⟩)] [] Tryz.f256 (lp [0] (sc dI sn))
def nT(t0:List bm)(f1:Y1×Unit)(t5 t6:Int):Rd ((List bm)×Y8×Int×Int×Unit) Unit :=
 cond (aG t6 (ae t0)) (
 cond (aZ t6 t0) (
 let u1:=(gt d192 t0 t6)
 (KR u1 f1.1).bind fun y1 =>
 cond (!y1.2.1.1) (
 cond (aZ t5 t0) (
 let u2:=(gt d192 t0 t5)
 let u3:=(dw t0 t5 (u1.1,u2.2.1,u2.2.2.1,()))
 let u4:=(gt d192 u3 t5)
 let u5:=(dw u3 t5 (u4.1,u1.2.1,u4.2.2.1,()))
 let u6:=(gt d192 u5 t5)
 let u7:=(aw .i64 t6 1)
 eA ((dw u5 t5 (u6.1,u6.2.1,u1.2.2.1,())),f1,(aw .i64 t5 1),u7,())
 ) none
 ) (
 let u2:=(aw .i64 t6 1)
 eA (t0,f1,t5,u2,())
 )
 ) none
 ) (
 eB (t0,f1,t5,t6,())
 )
def Bq:=nA (aq (da nT))
def Oi(p0:List bm)(c1_0:Int×Unit):Option Vw :=
 (Re p0 c1_0).bind fun y1 =>
 cond (aj y1.2.1.1 (-1)) (
 zR p0
 ) (
 (Bq p0 (c1_0,()) y1.2.1.1 (aw .i64 y1.2.1.1 1)).bind (Sum.elim (fun y2 =>
 cond (dZ y2.2.2.1 (ae y2.1) y2.1) (
 let u1:=(lY d192 y2.1 y2.2.2.1)
 cond (dZ 0 y2.2.2.1 u1) (
 zR (Pv u1 y2.2.2.1)
 ) none
 ) none
 ) (fun _ =>
 none
 ))
 )
def OR:Su:=fU [.mv bu,.fn 267 [.p [ah]]] PU fun x=>Oi x.1 x.2.1.1
def sf:List SE:=[.own 0 bu,.fn 1 267 [.p [ah]],.d 5 ah,.d 6 ah]
def SA:List SE:=[]
def Xy:Nat->Option (Lo SA)
 | 0=>some ⟨sf,da Bq⟩
 | _=>none
def TB:List Y0:=[(267,iS aaT),(256,iS aaX)]
def ZI:Nat->Option (St->Tr St)
 | 11=>some (ud 36 37 38 0 5 lI)
 | _=>none
def E9:En:=uZ 42 tt TB SA Xy [] (ZI)
theorem V5(x:ej sf):(lZ E9 0 sf (jn 0 (ak Tryz.f262)) x).run=da nT x:=by kernel_rfl
theorem t262(x:PT OR.ps):(Ei E9 (ak Tryz.f262) Tryz.f262.results.toList OR.ps OR.rs true x).run=Oi x.1 x.2.1.1:=by kernel_rfl
theorem Om:cZ Tryz.prog E9:=bZ (l:=TB) ⟨Sv,ZZ,trivial⟩
theorem QG:cM Tryz.prog E9 (a8 11 (ak Tryz.f262)) (ud 36 37 38 0 5 lI) :=
 Am (E:=E9) (oU hT) (rid:=11) (ta:=36) (tb:=37) (tc:=38) (t0:=0) (tI:=5) (ty:=89) (o1:=nC (a8 11 (ak Tryz.f262)) 0) (o2:=nC (a8 11 (ak Tryz.f262)) 1) (o3:=nC (a8 11 (ak Tryz.f262)) 2) (o4:=nC (a8 11 (ak Tryz.f262)) 3) (c:=Mw (nC (a8 11 (ak Tryz.f262)) 3)) (te:=⟨true,lI,0,32,[(0,9),(1,3),(2,3)]⟩)
  (by kernel_rfl) (by kernel_rfl) (by kernel_rfl) (by kernel_rfl) (by kernel_rfl) (by kernel_rfl) (by kernel_rfl) (by kernel_rfl) (by kernel_rfl) (by kernel_rfl) (by kernel_rfl) (by kernel_rfl) (by kernel_rfl) (by kernel_rfl) (by kernel_rfl) (by kernel_rfl) (by kernel_rfl) (by kernel_rfl) (by kernel_rfl) (by kernel_rfl) (by kernel_rfl)
theorem WC:iQ Tryz.prog E9 0 (.loop (jn 0 (ak Tryz.f262))) ⟨sf,da Bq⟩ :=
 An (oU hT) Om gK (step:=fun(x:ej sf)=>nT x.1 x.2.1 x.2.2.1 x.2.2.2.1) V5 (cC [] (by kernel_rfl) trivial [] (by kernel_rfl) trivial)
theorem Z9:au Tryz.prog 262 OR :=
 nu (E:=E9) (oU hT) Om gK (fn:=Tryz.f262) (c:=(ak Tryz.f262)) (by kernel_rfl) (by kernel_rfl) (by kernel_rfl) rfl (cC [(0,.loop (jn 0 (ak Tryz.f262)))] (by kernel_rfl) ⟨Pn rfl WC,trivial⟩ [(11,a8 11 (ak Tryz.f262))] (by kernel_rfl) ⟨pL rfl QG,trivial⟩) fun x y h=>⟨y.1,fun _=>rfl,(t262 x).trans h⟩
def LD(p0:List bm)(p1:Int):Option Vw :=
 (Bw p0).bind fun y1 =>
 (Oi y1.2.1.1 (p1,())).bind fun y2 =>
 some ((),(y2.2.1,()))
def adR:Su:=fU [.c false [bu],.c false [ah]] PU fun x=>LD x.1.1 x.2.1.1
theorem T2:au Tryz.prog 220 adR :=
 fq (ac Ob (ac Z9 an)) Tryz.f220
def Lt(p0:S8×Int×Int×Int×Int×(List bm)×Int×Int×(List R3)×(List R3)×(List bW)×Unit)(p1:Int):Option WU :=
 (Mh p0).bind fun y1 =>
 (ED p0).bind fun y2 =>
 cond y2.2.1.1 (
 (Jy p1).bind fun y3 =>
 cond y3.2.1.1 (
 (LD p0.2.2.2.2.2.1 p1).bind fun y4 =>
 some ((),((y1.2.1.1,y1.2.1.2.1,y1.2.1.2.2.1,y1.2.1.2.2.2.1,y1.2.1.2.2.2.2.1,y4.2.1.1,y1.2.1.2.2.2.2.2.2.1,y1.2.1.2.2.2.2.2.2.2.1,y1.2.1.2.2.2.2.2.2.2.2.1,y1.2.1.2.2.2.2.2.2.2.2.2.1,y1.2.1.2.2.2.2.2.2.2.2.2.2.1,()),()))
 ) (
 some ((),(y1.2.1,()))
 )
 ) (
 some ((),(y1.2.1,()))
 )
def abZ:Su:=fU [.c true [.str,ah,ah,ah,ah,bu,ah,ah,q3,q3,bP],.c false [ah]] Xf fun x=>Lt x.1 x.2.1.1
theorem TT:au Tryz.prog 147 abZ :=
 fq (ac SD (ac q9 (ac Hc (ac T2 an)))) Tryz.f147
def We(p0:S8×Int×Int×Int×Int×(List bm)×Int×Int×(List R3)×(List R3)×(List bW)×Unit)(p1:Int×Unit):Option WU :=
 (Lt p0 p1.1).bind fun y1 =>
 some ((),(y1.2.1,()))
def aee:Su:=fU [.c true [.str,ah,ah,ah,ah,bu,ah,ah,q3,q3,bP],.pt [ah]] Xf fun x=>We x.1 x.2.1
theorem aaJ:au Tryz.prog 146 aee :=
 fq (ac TT an) Tryz.f146
def kM(f1:Y1×Unit)(t10:List iI)(t11 t12:Int)(b4 b5:(List iI)×Unit):Rd (Y8×(List iI)×Int×Int×Y5×Y5×Unit) Unit :=
 cond (aG t12 t11) (
 cond (aZ t12 t10) (
 (We (gt d94 t10 t12) f1.1).bind fun y1 =>
 cond (a6 160 b5.1 [y1.2.1]) (
 eA (f1,t10,t11,(aw .i64 t12 1),b4,((eV b5.1 [y1.2.1]),()),())
 ) none
 ) none
 ) (
 eB (f1,t10,t11,t12,b4,b5,())
 )
def B7:=Xh (aq (BU kM))
def EW(p0:(List iI)×Unit)(c1_0:Int×Unit):Option WQ :=
 (B7 (c1_0,()) p0.1 (ae p0.1) 0 ([],()) ([],())).bind (Sum.elim (fun y1 =>
 some ((),(y1.2.2.2.2.2.1,()))
 ) (fun _ =>
 none
 ))
def Wx:Su:=fU [.c true [jD],.fn 146 [.p [ah]]] Xe fun x=>EW x.1 x.2.1.1
theorem PS:au Tryz.prog 105 Wx :=
 fl (ac aaJ an) [] [(0,⟨[.fn 1 146 [.p [ah]],.d 10 jD,.d 11 ah,.d 12 ah,.box 4 [(true,jD)],.box 5 [(true,jD)]],aq (BU kM)⟩)] [] Tryz.f105 (lp [0] (sc dI sn))
def g72(p0:(List iI)×Unit)(p1:Int):Option WQ :=
 (EW p0 (p1,())).bind fun y1 =>
 some ((),(y1.2.1,()))
def s72:Su:=fU [.c true [jD],.c false [ah]] Xe fun x=>g72 x.1 x.2.1.1
theorem Yb:au Tryz.prog 72 s72 :=
 fq (ac PS an) Tryz.f72
def A7(p0:List R5)(p1 p2:Int):Option JY :=
 let u1:=(ae p0)
 (gQ p1 0 u1).bind fun y1 =>
 cond (cond (cond (!y1.2.1.1) true (aG p2 0)) true (aG (aW .i64 u1 p1) p2)) (
 c7
 ) (
 let u2:=(aw .i64 p1 p2)
 cond (dZ p1 u2 p0) (
 some ((),(((sub p0 p1 u2),()),(true,()),()))
 ) none
 )
def aci:Su:=⟨[.c false [q5],.c false [ah],.c false [ah]],[(false,[q5]),(false,[.bool])],false,.inl fun x=>A7 x.1.1 x.2.1.1 x.2.2.1.1⟩
theorem LH:au Tryz.prog 107 aci :=
 fq (ac iY an) Tryz.f107
def wR(t1 t2:Int)(t9:List R5)(t10:Bool)(t11 t27:List R5)(t28 t29:Int):Rd (Int×Int×(List R5)×Bool×(List R5)×(List R5)×Int×Int×Unit) Unit :=
 cond (aG t29 t28) (
 cond (aZ t29 t27) (
 cond (a6 1 t11 [((aw .u8 48 (pg .u8 (gt d5 t27 t29).1 4)),()),((aw .u8 48 (IX .u8 (gt d5 t27 t29).1 15)),())]) (
 eA (t1,t2,t9,t10,(eV t11 [((aw .u8 48 (pg .u8 (gt d5 t27 t29).1 4)),()),((aw .u8 48 (IX .u8 (gt d5 t27 t29).1 15)),())]),t27,t28,(aw .i64 t29 1),())
 ) none
 ) none
 ) (
 eB (t1,t2,t9,t10,t11,t27,t28,t29,())
 )
def S4:=cu8 (aq (OJ wR))
def ME(p0:List R5)(p1 p2:Int):Option Y63 :=
 (gQ p2 1 38).bind fun y1 =>
 cond (!y1.2.1.1) (
 c4
 ) (
 (A7 p0 p1 (jU .i64 (aw .i64 p2 1) 2)).bind fun y2 =>
 (S4 p1 p2 y2.2.1.1 y2.2.2.1.1 [] y2.2.1.1 (ae y2.2.1.1) 0).bind (Sum.elim (fun y3 =>
 cond (!y3.2.2.2.1) (
 c4
 ) (
 (tP (strOf y3.2.2.2.2.1)).bind fun y4 =>
 cond (!y4.2.1.1) (
 c4
 ) (
 cond (aj (eF y3.2.1 2) 1) (
 cond (aZ 0 y3.2.2.2.2.1) (
 cond (!(aj (gt d5 y3.2.2.2.2.1 0).1 48)) (
 c4
 ) (
 let u1:=(ae y3.2.2.2.2.1)
 let u2:=(aW .i64 u1 y3.2.1)
 let u3:=(dZ u2 u1 y3.2.2.2.2.1)
 cond u3 (
 some ((),(((strOf (sub y3.2.2.2.2.1 u2 u1)),()),((aw .i64 y3.1 (ae y3.2.2.1)),()),(true,()),()))
 ) none
 )
 ) none
 ) (
 let u1:=(ae y3.2.2.2.2.1)
 let u2:=(aW .i64 u1 y3.2.1)
 let u3:=(dZ u2 u1 y3.2.2.2.2.1)
 cond u3 (
 some ((),(((strOf (sub y3.2.2.2.2.1 u2 u1)),()),((aw .i64 y3.1 (ae y3.2.2.1)),()),(true,()),()))
 ) none
 )
 )
 )
 ) (fun _ =>
 none
 ))
 )
def s59:Su:=fU [.c false [q5],.c false [ah],.c false [ah]] Ql fun x=>ME x.1.1 x.2.1.1 x.2.2.1.1
theorem JT:au Tryz.prog 59 s59 :=
 fl (ac xL (ac iY (ac LH an))) [] [(0,⟨[.d 1 ah,.d 2 ah,.d 9 q5,.d 10 .bool,.own 11 q5,.d 27 q5,.d 28 ah,.d 29 ah],aq (OJ wR)⟩)] [] Tryz.f59 (lp [0] (sc dI sn))
def sR(t1:Int)(t7:List R5)(t9:List R3)(t10:Int):Rd (Int×(List R5)×(List R3)×Int×Unit) Unit :=
 cond (bM t10 64) (
 let u1:=(aW .i64 t10 1)
 let u2:=(jU .i64 u1 8)
 cond (aZ u2 t7) (
 let u3:=(eF u1 8)
 cond (bM 0 u3) (
 cond (!(aj (IX .u8 (gt d5 t7 u2).1 (pg .u8 128 u3)) 0)) (
 cond (a6 8 t9 [(t10,())]) (
 let u4:=(aw .i64 t10 1)
 eA (t1,t7,(eV t9 [(t10,())]),u4,())
 ) none
 ) (
 let u4:=(aw .i64 t10 1)
 eA (t1,t7,t9,u4,())
 )
 ) none
 ) none
 ) (
 eB (t1,t7,t9,t10,())
 )
def Ky:=nA (aq (da sR))
def CP(p0:List R5)(p1:Int):Option Y59 :=
 (A7 p0 p1 8).bind fun y1 =>
 cond (!y1.2.2.1.1) (
 c16
 ) (
 (Ky p1 y1.2.1.1 [] 1).bind (Sum.elim (fun y2 =>
 some ((),((y2.2.2.1,()),((aw .i64 y2.1 8),()),(true,()),()))
 ) (fun _ =>
 none
 ))
 )
def adF:Su:=fU [.c false [q5],.c false [ah]] [(false,[q3]),(false,[ah]),(false,[.bool])] fun x=>CP x.1.1 x.2.1.1
theorem Zh:au Tryz.prog 100 adF :=
 fl (ac LH an) [] [(0,⟨[.d 1 ah,.d 7 q5,.own 9 q3,.d 10 ah],aq (da sR)⟩)] [] Tryz.f100 (lp [0] (sc dI sn))
def aaA  : Option (Unit×(((List E4)×Unit)×Unit)) :=
 zR [(2,3,19,()),(3,1,6,()),(4,1,12,()),(7,1,10,()),(11,1,6,()),(14,1,4,()),(37,2,12,()),(38,2,6,()),(39,2,2,()),(41,2,8,()),(48,5,60,()),(49,1,3,()),(54,5,60,()),(95,2,12,()),(102,4,20,()),(103,4,20,())]
def adJ:Su:=fU [] [(false,[.sl 188 M4])] fun x=>aaA 
theorem Xz:au Tryz.prog 242 adJ :=
 fq an Tryz.f242
def sZ(t0:Int)(t5:List E4)(t6 t7:Int)(b2:Int×Int×Int×Unit):Rd (Int×(List E4)×Int×Int×E4×Unit) (E4×Unit) :=
 cond (aG t7 t6) (
 cond (aZ t7 t5) (
 let u1:=(gt d188 t5 t7)
 cond (aj u1.1 t0) (
 eC (u1,())
 ) (
 eA (t0,t5,t6,(aw .i64 t7 1),b2,())
 )
 ) none
 ) (
 eB (t0,t5,t6,t7,b2,())
 )
def MD:=JU (aq (nD sZ))
def Ix(p0:Int):Option (Unit×(E4×Unit)) :=
 (aaA).bind fun y1 =>
 (MD p0 y1.2.1.1 (ae y1.2.1.1) 0 (0,0,0,())).bind (Sum.elim (fun _ =>
 some ((),((0,0,0,()),()))
 ) (fun y2 =>
 some ((),(y2.1,()))
 ))
def adG:Su:=fU [.c false [ah]] [(true,[ah,ah,ah])] fun x=>Ix x.1.1
theorem L5:au Tryz.prog 186 adG :=
 fl (ac Xz an) [.box 2 [(false,.int .i64),(false,.int .i64),(false,.int .i64)]] [(0,⟨[.d 0 ah,.own 5 (.sl 188 M4),.d 6 ah,.d 7 ah,.box 2 [(false,.int .i64),(false,.int .i64),(false,.int .i64)]],aq (nD sZ)⟩)] [] Tryz.f186 (lp [0] (sc dI sn))
def Ar(p0:Int):Option iJ :=
 (Ix p0).bind fun y1 =>
 zR y1.2.1.2.1
def abE:Su:=fU [.c false [ah]] j9 fun x=>Ar x.1.1
theorem Ee:au Tryz.prog 101 abE :=
 fq (ac L5 an) Tryz.f101
def NK(p0:Int):Option iJ :=
 (Ix p0).bind fun y1 =>
 zR y1.2.1.2.2.1
def acA:Su:=fU [.c false [ah]] j9 fun x=>NK x.1.1
theorem RQ:au Tryz.prog 187 acA :=
 fq (ac L5 an) Tryz.f187
def CF(p0:Int):Option iJ :=
 (Ar p0).bind fun y1 =>
 cond (aj y1.2.1.1 5) (
 c17
 ) (
 c9
 )
def acI:Su:=fU [.c false [ah]] j9 fun x=>CF x.1.1
theorem Sk:au Tryz.prog 189 acI :=
 fq (ac Ee an) Tryz.f189
section
open Go.RowKit Go.Lib
theorem abM:Gb Tryz.prog 121 108 201:=by
 intro s b v w R R2 hd ha
 have e1:Enters Tryz.prog 108:=enters_of (fn:=Tryz.f108) (c:=ak Tryz.f108) (by kernel_rfl) (by kernel_rfl) (by kernel_rfl)
 have e2:Enters Tryz.prog 201:=enters_of (fn:=Tryz.f201) (c:=ak Tryz.f201) (by kernel_rfl) (by kernel_rfl) (by kernel_rfl)
 have hsz:s.size<9223372036854775808∨9223372036854775808<=s.size:=aeD _ _
 cases b with
 | false =>
   go_enter Tryz.func121,Tryz.ntmps121
   go_wp2_with (go_at_call 108; refine hd.mono ?_; rintro e W1 ⟨rfl,hW⟩)
   go_ret2
   exact .inr ⟨by simp,rfl,hW⟩
 | true =>
   by_cases hs:s.size<=18
   . have hb:=ha rfl hs
     have h1:¬ (18:Int)<(s.size:Int):=by omega
     go_enter Tryz.func121,Tryz.ntmps121
     go_wp2_with (first
      | (go_at_call 108; refine hd.mono ?_; rintro e W1 ⟨rfl,hW⟩)
      | (go_at_call 201; refine(hb _ hW).mono ?_; rintro e W2 ⟨rfl,hW2⟩))
     go_ret2
     exact .inl ⟨by trivial,hs,rfl,hW2⟩
   . have h1:(18:Int)<(s.size:Int):=by omega
     go_enter Tryz.func121,Tryz.ntmps121
     go_wp2_with (go_at_call 108; refine hd.mono ?_; rintro e W1 ⟨rfl,hW⟩)
     go_ret2
     exact .inr ⟨by simp[hs],rfl,hW⟩
end
def E5(p0:S8):Option Y36:=vI tP p0
def adU:Su:=fU [.c false [.str]] [(false,[ah]),(false,[.bool])] fun x=>E5 x.1.1
theorem TR:au Tryz.prog 121 adU:=JE wW (gd:=tP) xL (fnd:=Tryz.f108) (cd:=ak Tryz.f108) (by kernel_rfl) (by kernel_rfl) (by kernel_rfl) rfl abM (fn:=Tryz.f121) (c:=ak Tryz.f121) (by kernel_rfl) (by kernel_rfl) (by kernel_rfl)
def JH(p0:List R5)(p1 p2:Int):Option (Unit×(Y1×Y1×Y2×Unit)) :=
 (gQ p2 2 3).bind fun y1 =>
 cond (!y1.2.1.1) (
 c24
 ) (
 (ME p0 p1 p2).bind fun y2 =>
 cond (!y2.2.2.2.1.1) (
 c24
 ) (
 (E5 y2.2.1.1).bind fun y3 =>
 some ((),(y3.2.1,y2.2.2.1,(true,()),()))
 )
 )
def acE:Su:=fU [.c false [q5],.c false [ah],.c false [ah]] [(false,[ah]),(false,[ah]),(false,[.bool])] fun x=>JH x.1.1 x.2.1.1 x.2.2.1.1
theorem ZP:au Tryz.prog 188 acE :=
 fq (ac iY (ac JT (ac TR an))) Tryz.f188
def qv(t0:S8)(t5 t6:Int):Rd WH Y2 :=
 cond (aG t6 t5) (
 cond (aZ t6 t0) (
 let u1:=(ee t0 t6)
 cond (aG u1 32) (
 eC (false,())
 ) (
 cond (aZ t6 t0) (
 cond (aG 126 u1) (
 eC (false,())
 ) (
 eA (t0,t5,(aw .i64 t6 1),())
 )
 ) none
 )
 ) none
 ) (
 eB (t0,t5,t6,())
 )
def JZ:=vm (aq (iT qv))
def IH(p0:S8):Option gu :=
 (JZ p0 (ae p0) 0).bind (Sum.elim (fun _ =>
 c3
 ) (fun y1 =>
 some ((),(y1,()))
 ))
def ads:Su:=fU [.c false [.str]] gC fun x=>IH x.1.1
theorem aac:au Tryz.prog 243 ads :=
 fl an [.d 2 .bool] [(0,⟨[.d 0 .str,.d 5 ah,.d 6 ah],aq (iT qv)⟩)] [] Tryz.f243 (lp [0] (sc dI sn))
def qt(p0:Int)(p1:S8):Option gu :=
 (Ix p0).bind fun y1 =>
 cond (aj y1.2.1.2.1 1) (
 let u1:=(tP p1)
 Option.bind u1 fun y2 =>
 let u2:=(ae p1)
 zR (cond y2.2.1.1 (aj u2 y1.2.1.2.2.1) false)
 ) (
 cond (aj y1.2.1.2.1 2) (
 let u1:=(IH p1)
 Option.bind u1 fun y2 =>
 let u2:=(ae p1)
 zR (cond y2.2.1.1 (aj u2 y1.2.1.2.2.1) false)
 ) (
 cond (aj y1.2.1.2.1 3) (
 let u1:=(tP p1)
 Option.bind u1 fun y2 =>
 cond y2.2.1.1 (
 let u2:=(ae p1)
 let u3:=(gQ u2 1 y1.2.1.2.2.1)
 Option.bind u3 fun y3 =>
 some ((),(y3.2.1,()))
 ) (
 c0
 )
 ) (
 cond (aj y1.2.1.2.1 4) (
 let u1:=(IH p1)
 Option.bind u1 fun y2 =>
 cond y2.2.1.1 (
 let u2:=(ae p1)
 let u3:=(gQ u2 1 y1.2.1.2.2.1)
 Option.bind u3 fun y3 =>
 some ((),(y3.2.1,()))
 ) (
 c0
 )
 ) (
 cond (aj y1.2.1.2.1 5) (
 let u1:=(IH p1)
 Option.bind u1 fun y2 =>
 cond y2.2.1.1 (
 let u2:=(ae p1)
 let u3:=(gQ u2 1 y1.2.1.2.2.1)
 Option.bind u3 fun y3 =>
 some ((),(y3.2.1,()))
 ) (
 c0
 )
 ) (
 c0
 )
 )
 )
 )
 )
def ach:Su:=fU [.c false [ah],.c false [.str]] gC fun x=>qt x.1.1 x.2.1.1
theorem GU:au Tryz.prog 190 ach :=
 fq (ac xL (ac iY (ac L5 (ac aac an)))) Tryz.f190
def Ms(p0:List R5)(p1 p2:Int):Option Y63 :=
 (NK p2).bind fun y1 =>
 (Ar p2).bind fun y2 =>
 cond (cond (cond (aj y2.2.1.1 3) true (aj y2.2.1.1 4)) true (aj y2.2.1.1 5)) (
 (CF p2).bind fun y3 =>
 (JH p0 p1 y3.2.1.1).bind fun y4 =>
 cond (!y4.2.2.2.1.1) (
 c4
 ) (
 let u1:=(cond (aj y2.2.1.1 1) true (aj y2.2.1.1 3))
 cond u1 (
 (ME p0 y4.2.2.1.1 y4.2.1.1).bind fun y5 =>
 cond (!y5.2.2.2.1.1) (
 c4
 ) (
 (qt p2 y5.2.1.1).bind fun y6 =>
 cond (!y6.2.1.1) (
 c4
 ) (
 some ((),(y5.2.1,y5.2.2.1,(true,()),()))
 )
 )
 ) (
 (A7 p0 y4.2.2.1.1 y4.2.1.1).bind fun y5 =>
 cond (!y5.2.2.1.1) (
 c4
 ) (
 let u2:=(strOf y5.2.1.1)
 (qt p2 u2).bind fun y6 =>
 cond (!y6.2.1.1) (
 c4
 ) (
 some ((),((u2,()),((aw .i64 y4.2.2.1.1 y4.2.1.1),()),(true,()),()))
 )
 )
 )
 )
 ) (
 let u1:=(cond (aj y2.2.1.1 1) true (aj y2.2.1.1 3))
 cond u1 (
 (ME p0 p1 y1.2.1.1).bind fun y3 =>
 cond (!y3.2.2.2.1.1) (
 c4
 ) (
 (qt p2 y3.2.1.1).bind fun y4 =>
 cond (!y4.2.1.1) (
 c4
 ) (
 some ((),(y3.2.1,y3.2.2.1,(true,()),()))
 )
 )
 ) (
 (A7 p0 p1 y1.2.1.1).bind fun y3 =>
 cond (!y3.2.2.1.1) (
 c4
 ) (
 let u2:=(strOf y3.2.1.1)
 (qt p2 u2).bind fun y4 =>
 cond (!y4.2.1.1) (
 c4
 ) (
 some ((),((u2,()),((aw .i64 p1 y1.2.1.1),()),(true,()),()))
 )
 )
 )
 )
def acJ:Su:=fU [.c false [q5],.c false [ah],.c false [ah]] Ql fun x=>Ms x.1.1 x.2.1.1 x.2.2.1.1
theorem aa8:au Tryz.prog 102 acJ :=
 fq (ac LH (ac JT (ac Ee (ac RQ (ac Sk (ac ZP (ac GU an))))))) Tryz.f102
def wH(t0:List R5)(t4:S8)(t5:Int)(t8:List R3)(t9:Bool)(t41:List R3)(t42 t43:Int)(b2:S8×(List eS)×Unit):Rd ((List R5)×S8×Int×(List R3)×Bool×(List R3)×Int×Int×uS×Unit) Y39 :=
 cond (aG t43 t42) (
 cond (aZ t43 t41) (
 let u1:=(gt d3 t41 t43)
 cond (aj u1.1 1) (
 let u2:=(aw .i64 t43 1)
 eA (t0,t4,t5,t8,true,t41,t42,u2,b2,())
 ) (
 (Ar u1.1).bind fun y1 =>
 cond (aj y1.2.1.1 0) (
 eC (2,([],[],()),())
 ) (
 cond (a6 8 t8 [u1]) (
 let u2:=(aw .i64 t43 1)
 eA (t0,t4,t5,(eV t8 [u1]),t9,t41,t42,u2,b2,())
 ) none
 )
 )
 ) none
 ) (
 eB (t0,t4,t5,t8,t9,t41,t42,t43,b2,())
 )
def RU:=cu9 (aq (un9 wH))
def xY(t0:List R5)(t4:S8)(t5:Int)(t8 t76:List R3)(t77 t78:Int)(b2:S8×(List eS)×Unit):Rd ((List R5)×S8×Int×(List R3)×(List R3)×Int×Int×uS×Unit) Y39 :=
 cond (aG t78 t77) (
 cond (aZ t78 t76) (
 let u1:=(aw .i64 (gt d3 t76 t78).1 64)
 (Ar u1).bind fun y1 =>
 cond (aj y1.2.1.1 0) (
 eC (2,([],[],()),())
 ) (
 cond (a6 8 t8 [(u1,())]) (
 eA (t0,t4,t5,(eV t8 [(u1,())]),t76,t77,(aw .i64 t78 1),b2,())
 ) none
 )
 ) none
 ) (
 eB (t0,t4,t5,t8,t76,t77,t78,b2,())
 )
def TO:=cu8 (aq (OJ xY))
def yt(t0:List R5)(t5:Int)(t95:List R3)(t96 t97:Int)(b2 b15:S8×(List eS)×Unit):Rd ((List R5)×Int×(List R3)×Int×Int×uS×uS×Unit) Y39 :=
 cond (aG t97 t96) (
 cond (aZ t97 t95) (
 (Ms t0 t5 (gt d3 t95 t97).1).bind fun y1 =>
 cond (!y1.2.2.2.1.1) (
 eC (3,([],[],()),())
 ) (
 cond (a6 24 b15.2.1 [((gt d3 t95 t97).1,y1.2.1.1,())]) (
 eA (t0,y1.2.2.1.1,t95,t96,(aw .i64 t97 1),b2,(b15.1,(eV b15.2.1 [((gt d3 t95 t97).1,y1.2.1.1,())]),()),())
 ) none
 )
 ) none
 ) (
 eB (t0,t5,t95,t96,t97,b2,b15,())
 )
def Gm:=W8 (aq (zO yt))
def g55(p0:List R5):Option (Unit×(uS×Y1×Unit)) :=
 (ME p0 0 4).bind fun y1 =>
 cond (!y1.2.2.2.1.1) (
 some ((),(([],[],()),(1,()),()))
 ) (
 (CP p0 y1.2.2.1.1).bind fun y2 =>
 cond (!y2.2.2.2.1.1) (
 c25
 ) (
 (RU p0 y1.2.1.1 y2.2.2.1.1 [] false y2.2.1.1 (ae y2.2.1.1) 0 ([],[],())).bind (Sum.elim (fun y3 =>
 cond y3.2.2.2.2.1 (
 (CP y3.1 y3.2.2.1).bind fun y4 =>
 let u1:=(ae y4.2.1.1)
 cond (cond (!y4.2.2.2.1.1) true (aj u1 0)) (
 c25
 ) (
 (TO y3.1 y3.2.1 y4.2.2.1.1 y3.2.2.2.1 y4.2.1.1 u1 0 y3.2.2.2.2.2.2.2.2.1).bind (Sum.elim (fun y5 =>
 (Gm y5.1 y5.2.2.1 y5.2.2.2.1 (ae y5.2.2.2.1) 0 y5.2.2.2.2.2.2.2.1 (y5.2.1,[],())).bind (Sum.elim (fun y6 =>
 cond (!(aj y6.2.1 (ae y6.1))) (
 c26
 ) (
 some ((),(y6.2.2.2.2.2.2.1,(0,()),()))
 )
 ) (fun y6 =>
 some ((),(y6.2.1,(y6.1,()),()))
 ))
 ) (fun y5 =>
 some ((),(y5.2.1,(y5.1,()),()))
 ))
 )
 ) (
 (Gm y3.1 y3.2.2.1 y3.2.2.2.1 (ae y3.2.2.2.1) 0 y3.2.2.2.2.2.2.2.2.1 (y3.2.1,[],())).bind (Sum.elim (fun y4 =>
 cond (!(aj y4.2.1 (ae y4.1))) (
 c26
 ) (
 some ((),(y4.2.2.2.2.2.2.1,(0,()),()))
 )
 ) (fun y4 =>
 some ((),(y4.2.1,(y4.1,()),()))
 ))
 )
 ) (fun y3 =>
 some ((),(y3.2.1,(y3.1,()),()))
 ))
 )
 )
def s55:Su:=fU [.c false [q5]] [(true,[.str,dO]),(false,[ah])] fun x=>g55 x.1.1
theorem U7:au Tryz.prog 55 s55 :=
 fl (ac JT (ac Zh (ac Ee (ac aa8 an)))) [.d 3 ah,.box 2 [(false,.str),(true,dO)]] [(0,⟨[.d 0 q5,.d 4 .str,.d 5 ah,.own 8 q3,.d 9 .bool,.own 41 q3,.d 42 ah,.d 43 ah,.box 2 [(false,.str),(true,dO)]],aq (un9 wH)⟩),(3,⟨[.d 0 q5,.d 4 .str,.d 5 ah,.own 8 q3,.own 76 q3,.d 77 ah,.d 78 ah,.box 2 [(false,.str),(true,dO)]],aq (OJ xY)⟩),(5,⟨[.d 0 q5,.d 5 ah,.own 95 q3,.d 96 ah,.d 97 ah,.box 2 [(false,.str),(true,dO)],.box 15 [(false,.str),(true,dO)]],aq (zO yt)⟩)] [] Tryz.f55 (lp [0,3,5] (sc dI (sc dI (sc dI sn))))
def wi(t6:List iI)(t7 t8:Int)(b1:(List iI)×Unit):Rd ((List iI)×Int×Int×Y5×Unit) Y2 :=
 cond (aG t8 t7) (
 cond (aZ t8 t6) (
 let u1:=(gt d94 t6 t8)
 (ED u1).bind fun y1 =>
 cond (!y1.2.1.1) (
 eC (false,())
 ) (
 cond (aG 0 t8) (
 let u2:=(aW .i64 t8 1)
 cond (aZ u2 b1.1) (
 cond (leS u1.1 (gt d94 b1.1 u2).1) (
 eC (false,())
 ) (
 eA (t6,t7,(aw .i64 t8 1),b1,())
 )
 ) none
 ) (
 eA (t6,t7,(aw .i64 t8 1),b1,())
 )
 )
 ) none
 ) (
 eB (t6,t7,t8,b1,())
 )
def Sp:=nA (aq (da wi))
def Zg(p0:(List iI)×Unit):Option gu :=
 (Sp p0.1 (ae p0.1) 0 p0).bind (Sum.elim (fun y1 =>
 zR (bM (ae y1.2.2.2.1.1) 6)
 ) (fun y1 =>
 some ((),(y1,()))
 ))
def s56:Su:=fU [.c true [jD]] gC fun x=>Zg x.1
theorem K8:au Tryz.prog 56 s56 :=
 fl (ac Hc an) [.d 2 .bool] [(0,⟨[.d 6 jD,.d 7 ah,.d 8 ah,.box 1 [(false,jD)]],aq (da wi)⟩)] [] Tryz.f56 (lp [0] (sc dI sn))
def Xb(p0:S8):Option BV :=
 (vl p0 4).bind fun y1 =>
 cond (!y1.2.1.1) (
 c6
 ) (
 cond (aZ 2 p0) (
 let u1:=(ee p0 2)
 cond (aj (eF (aW .u8 u1 48) 2) 1) (
 c6
 ) (
 cond (dZ 0 2 p0) (
 cond (aZ 2 p0) (
 let u2:=(dE .i32 (aw .u8 u1 1))
 cond (HI u2) (
 let u3:=(sub p0 0 2)
 let u4:=(WV u2)
 cond (jv u3 u4) (
 let u5:=(ae p0)
 cond (dZ 3 u5 p0) (
 let u6:=(wz u3 u4)
 let u7:=(sub p0 3 u5)
 cond (jv u6 u7) (
 zR (wz u6 u7)
 ) none
 ) none
 ) none
 ) none
 ) none
 ) none
 )
 ) none
 )
def s60:Su:=fU [.c false [.str]] Dg fun x=>Xb x.1.1
theorem Nj:au Tryz.prog 60 s60 :=
 fq (ac Gs an) Tryz.f60
def Ux  : Option X1 :=
 c29
def ac0:Su:=fU [] [(false,[.sl 9 XG])] fun x=>Ux 
theorem XA:au Tryz.prog 199 ac0 :=
 fq an Tryz.f199
def H5(p0:Int):Option BV :=
 (gQ p0 0 10).bind fun y1 =>
 cond (!y1.2.1.1) (
 c6
 ) (
 (Ux).bind fun y2 =>
 cond (aZ p0 y2.2.1.1) (
 some ((),((gt d9 y2.2.1.1 p0),()))
 ) none
 )
def acF:Su:=fU [.c false [ah]] Dg fun x=>H5 x.1.1
theorem Tn:au Tryz.prog 110 acF :=
 fq (ac iY (ac XA an)) Tryz.f110
def rh(t6:List eS)(t7 t8:Int)(b1:S8×(List eS)×Unit):Rd ((List eS)×Int×Int×uS×Unit) Y2 :=
 cond (aG t8 t7) (
 cond (aZ t8 t6) (
 let u1:=(gt d117 t6 t8)
 (qt u1.1 u1.2.1).bind fun y1 =>
 cond (!y1.2.1.1) (
 eC (false,())
 ) (
 cond (aG 0 t8) (
 let u2:=(aW .i64 t8 1)
 cond (aZ u2 b1.2.1) (
 cond (bM u1.1 (gt d117 b1.2.1 u2).1) (
 eC (false,())
 ) (
 eA (t6,t7,(aw .i64 t8 1),b1,())
 )
 ) none
 ) (
 eA (t6,t7,(aw .i64 t8 1),b1,())
 )
 )
 ) none
 ) (
 eB (t6,t7,t8,b1,())
 )
def Ej:=nA (aq (da rh))
def C4(p0:S8×(List eS)×Unit):Option gu :=
 (Ej p0.2.1 (ae p0.2.1) 0 p0).bind (Sum.elim (fun y1 =>
 (vl y1.2.2.2.1.1 4).bind fun y2 =>
 some ((),(y2.2.1,()))
 ) (fun y1 =>
 some ((),(y1,()))
 ))
def abl:Su:=fU [.c true [.str,dO]] gC fun x=>C4 x.1
theorem GG:au Tryz.prog 111 abl :=
 fl (ac Gs (ac GU an)) [.d 2 .bool] [(0,⟨[.d 6 dO,.d 7 ah,.d 8 ah,.box 1 [(false,.str),(false,dO)]],aq (da rh)⟩)] [] Tryz.f111 (lp [0] (sc dI sn))
def g61(p0:S8)(p1:Int):Option ZG :=
 (Xb p0).bind fun y1 =>
 (H5 p1).bind fun y2 =>
 (C4 (y1.2.1.1,[(39,y2.2.1.1,())],())).bind fun y3 =>
 cond (!y3.2.1.1) (
 Pe
 ) (
 some ((),((y1.2.1.1,[(39,y2.2.1.1,())],()),(true,()),()))
 )
def s61:Su:=fU [.c false [.str],.c false [ah]] [(true,[.str,dO]),(false,[.bool])] fun x=>g61 x.1.1 x.2.1.1
theorem Wt:au Tryz.prog 61 s61 :=
 fq (ac Nj (ac Tn (ac GG an))) Tryz.f61
def rb(t0:S8)(t4:List R5)(t5:Int):Rd (S8×(List R5)×Int×Unit) Unit :=
 cond (aG t5 (ae t0)) (
 cond (aZ t5 t0) (
 let u1:=(aw .i64 t5 1)
 cond (aZ u1 t0) (
 cond (a6 1 t4 [((Oy .u8 (Pb .u8 (aW .u8 (ee t0 t5) 48) 4) (aW .u8 (ee t0 u1) 48)),())]) (
 eA (t0,(eV t4 [((Oy .u8 (Pb .u8 (aW .u8 (ee t0 t5) 48) 4) (aW .u8 (ee t0 u1) 48)),())]),(aw .i64 t5 2),())
 ) none
 ) none
 ) none
 ) (
 eB (t0,t4,t5,())
 )
def EV:=vm (aq (iT rb))
def Ay(p0:S8):Option JY :=
 (tP p0).bind fun y1 =>
 let u1:=(ae p0)
 cond (cond (!y1.2.1.1) true (aG 38 u1)) (
 c7
 ) (
 cond (aj (eF u1 2) 1) (
 cond (jv [48] p0) (
 (EV (wz [48] p0) [] 0).bind (Sum.elim (fun y2 =>
 some ((),((y2.2.1,()),(true,()),()))
 ) (fun _ =>
 none
 ))
 ) none
 ) (
 (EV p0 [] 0).bind (Sum.elim (fun y2 =>
 some ((),((y2.2.1,()),(true,()),()))
 ) (fun _ =>
 none
 ))
 )
 )
def ade:Su:=fU [.c false [.str]] OC fun x=>Ay x.1.1
theorem KJ:au Tryz.prog 113 ade :=
 fl (ac xL an) [] [(0,⟨[.d 0 .str,.own 4 q5,.d 5 ah],aq (iT rb)⟩)] [] Tryz.f113 (lp [0] (sc dI sn))
def qX(t3:List R5)(t7:List R3)(t8 t9:Int):Rd ((List R5)×(List R3)×Int×Int×Unit) Unit :=
 cond (aG t9 t8) (
 cond (aZ t9 t7) (
 (gQ (gt d3 t7 t9).1 1 64).bind fun y1 =>
 cond y1.2.1.1 (
 let u1:=(aW .i64 (gt d3 t7 t9).1 1)
 let u2:=(jU .i64 u1 8)
 cond (aZ u2 t3) (
 let u3:=(eF u1 8)
 cond (bM 0 u3) (
 cond (aZ u2 t3) (
 let u4:=(aw .i64 t9 1)
 eA ((dw t3 u2 ((Oy .u8 (gt d5 t3 u2).1 (pg .u8 128 u3)),())),t7,t8,u4,())
 ) none
 ) none
 ) none
 ) (
 let u1:=(aw .i64 t9 1)
 eA (t3,t7,t8,u1,())
 )
 ) none
 ) (
 eB (t3,t7,t8,t9,())
 )
def UL:=nA (aq (da qX))
def CQ(p0:List R3):Option Yi :=
 (UL (um d5 8) p0 (ae p0) 0).bind (Sum.elim (fun y1 =>
 zR y1.1
 ) (fun _ =>
 none
 ))
def ada:Su:=fU [.c false [q3]] W9 fun x=>CQ x.1.1
theorem XP:au Tryz.prog 114 ada :=
 fl (ac iY an) [] [(0,⟨[.own 3 q5,.d 7 q3,.d 8 ah,.d 9 ah],aq (da qX)⟩)] [] Tryz.f114 (lp [0] (sc dI sn))
def UT(p0:Int):Option BV:=HM p0
def abS:Su:=fU [.c false [ah]] Dg fun x=>UT x.1.1
theorem XC:au Tryz.prog 265 abS:=OU wT rfl (fn:=Tryz.f265) (c:=ak Tryz.f265) (by kernel_rfl) (by kernel_rfl) (by kernel_rfl)
def Fu(p0:S8)(p1:Int):Option BV:=o8 p0 p1
def adh:Su:=fU [.c false [.str],.c false [ah]] Dg fun x=>Fu x.1.1 x.2.1.1
theorem SW:au Tryz.prog 255 adh:=IU yR r8 rfl (fn:=Tryz.f255) (c:=ak Tryz.f255) (by kernel_rfl) (by kernel_rfl) (by kernel_rfl)
def Jq(p0 p1:Int):Option BV :=
 (UT p0).bind fun y1 =>
 cond (aG p0 0) (
 c6
 ) (
 (gQ p1 1 18).bind fun y2 =>
 let u1:=(ae y1.2.1.1)
 cond (cond (!y2.2.1.1) true (aG p1 u1)) (
 c6
 ) (
 (Fu [48] (aW .i64 p1 u1)).bind fun y3 =>
 cond (jv y3.2.1.1 y1.2.1.1) (
 zR (wz y3.2.1.1 y1.2.1.1)
 ) none
 )
 )
def abz:Su:=fU [.c false [ah],.c false [ah]] Dg fun x=>Jq x.1.1 x.2.1.1
theorem SI:au Tryz.prog 217 abz :=
 fq (ac iY (ac XC (ac SW an))) Tryz.f217
def CZ(p0 p1:Int):Option JY :=
 (gQ p1 2 3).bind fun y1 =>
 cond (!y1.2.1.1) (
 c7
 ) (
 (Jq p0 p1).bind fun y2 =>
 (Ay y2.2.1.1).bind fun y3 =>
 some ((),(y3.2.1,y3.2.2.1,()))
 )
def acR:Su:=fU [.c false [ah],.c false [ah]] OC fun x=>CZ x.1.1 x.2.1.1
theorem Xk:au Tryz.prog 200 acR :=
 fq (ac iY (ac KJ (ac SI an))) Tryz.f200
def LZ(p0:Int)(p1:S8):Option JY :=
 (qt p0 p1).bind fun y1 =>
 cond (!y1.2.1.1) (
 c7
 ) (
 (Ar p0).bind fun y2 =>
 cond (cond (aj y2.2.1.1 1) true (aj y2.2.1.1 3)) (
 (Ay p1).bind fun y3 =>
 let u1:=(cond (aj y2.2.1.1 1) true (aj y2.2.1.1 2))
 cond u1 (
 some ((),(y3.2.1,(true,()),()))
 ) (
 let u2:=(CF p0)
 Option.bind u2 fun y4 =>
 let u3:=(ae p1)
 (CZ u3 y4.2.1.1).bind fun y5 =>
 cond (a6 1 y5.2.1.1 y3.2.1.1) (
 some ((),(((eV y5.2.1.1 y3.2.1.1),()),(true,()),()))
 ) none
 )
 ) (
 let u1:=(cond (aj y2.2.1.1 1) true (aj y2.2.1.1 2))
 cond u1 (
 let u2:=(bytesOf p1)
 some ((),((u2,()),(true,()),()))
 ) (
 let u2:=(CF p0)
 Option.bind u2 fun y3 =>
 let u3:=(ae p1)
 (CZ u3 y3.2.1.1).bind fun y4 =>
 let u4:=(bytesOf p1)
 cond (a6 1 y4.2.1.1 u4) (
 some ((),(((eV y4.2.1.1 u4),()),(true,()),()))
 ) none
 )
 )
 )
def abu:Su:=fU [.c false [ah],.c false [.str]] OC fun x=>LZ x.1.1 x.2.1.1
theorem aaf:au Tryz.prog 112 abu :=
 fq (ac Ee (ac Sk (ac GU (ac KJ (ac Xk an))))) Tryz.f112
def xp(t4 t5:List R3)(t6:List R5)(t20:List eS)(t21 t22:Int)(b1:S8×(List eS)×Unit):Rd ((List R3)×(List R3)×(List R5)×(List eS)×Int×Int×uS×Unit) Unit :=
 cond (aG t22 t21) (
 cond (aZ t22 t20) (
 let u1:=(gt d117 t20 t22)
 cond (aG 64 u1.1) (
 cond (a6 8 t5 [((aW .i64 u1.1 64),())]) (
 let u2:=(LZ u1.1 u1.2.1)
 Option.bind u2 fun y1 =>
 let u3:=(a6 1 t6 y1.2.1.1)
 cond u3 (
 let u4:=(eV t6 y1.2.1.1)
 let u5:=(aw .i64 t22 1)
 eA (t4,(eV t5 [((aW .i64 u1.1 64),())]),u4,t20,t21,u5,b1,())
 ) none
 ) none
 ) (
 cond (a6 8 t4 [(u1.1,())]) (
 let u2:=(LZ u1.1 u1.2.1)
 Option.bind u2 fun y1 =>
 let u3:=(a6 1 t6 y1.2.1.1)
 cond u3 (
 let u4:=(eV t6 y1.2.1.1)
 let u5:=(aw .i64 t22 1)
 eA ((eV t4 [(u1.1,())]),t5,u4,t20,t21,u5,b1,())
 ) none
 ) none
 )
 ) none
 ) (
 eB (t4,t5,t6,t20,t21,t22,b1,())
 )
def TC:=W8 (aq (zO xp))
def X4(p0:S8×(List eS)×Unit):Option JY :=
 (C4 p0).bind fun y1 =>
 cond (!y1.2.1.1) (
 c7
 ) (
 (TC [] [] [] p0.2.1 (ae p0.2.1) 0 p0).bind (Sum.elim (fun y2 =>
 (Ay y2.2.2.2.2.2.2.1.1).bind fun y3 =>
 cond (aG 0 (ae y2.2.1)) (
 cond (a6 8 y2.1 [(1,())]) (
 (CQ (eV y2.1 [(1,())])).bind fun y4 =>
 let u1:=(a6 1 y3.2.1.1 y4.2.1.1)
 cond u1 (
 (CQ y2.2.1).bind fun y5 =>
 let u2:=(eV y3.2.1.1 y4.2.1.1)
 cond (a6 1 u2 y5.2.1.1) (
 let u3:=(eV u2 y5.2.1.1)
 cond (a6 1 u3 y2.2.2.1) (
 some ((),(((eV u3 y2.2.2.1),()),(true,()),()))
 ) none
 ) none
 ) none
 ) none
 ) (
 (CQ y2.1).bind fun y4 =>
 let u1:=(a6 1 y3.2.1.1 y4.2.1.1)
 cond u1 (
 let u2:=(eV y3.2.1.1 y4.2.1.1)
 cond (a6 1 u2 y2.2.2.1) (
 some ((),(((eV u2 y2.2.2.1),()),(true,()),()))
 ) none
 ) none
 )
 ) (fun _ =>
 none
 ))
 )
def s62:Su:=fU [.c true [.str,dO]] OC fun x=>X4 x.1
theorem OW:au Tryz.prog 62 s62 :=
 fl (ac GG (ac KJ (ac XP (ac aaf an)))) [] [(0,⟨[.own 4 q3,.own 5 q3,.own 6 q5,.d 20 dO,.d 21 ah,.d 22 ah,.box 1 [(false,.str),(false,dO)]],aq (zO xp)⟩)] [] Tryz.f62 (lp [0] (sc dI sn))
end
end Go.Av
