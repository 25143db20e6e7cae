/- FnExactRun, a part. -/
import Derived.Test.YtcmhjdkpbgncfaaGreatDoorFw4
import Derived.Test.YtcmhjdkpbgncfaaGreatDoorFw3
import Derived.WalkKit
import Derived.Lib.Walk
import Derived.Lib.SliceRun
import Derived.Shelf.Spec.SlicesInsert
import Derived.Test.YtcmhjdkpbgncfaaGreatDoorProg
set_option maxRecDepth 100000
namespace Go.Av
open Go.Proofs
open Tryz
set_option maxHeartbeats 4000000
noncomputable section
def FB:List K:=[.str,.int .i64,.int .i64]
def u0:List K:=[.int .i64]
def xA:List K:=[.int .u8]
def GZ:List K:=[.str,.str,.sl 5 xA]
def CV:List K:=[.str,.int .i64,.int .i64,.int .i64,.int .i64,.sl 214 FB,.int .i64,.int .i64,.sl 3 u0,.sl 3 u0,.sl 216 GZ]
def aeX:List K:=[.int .i64,.sl 5 xA,.sl 5 xA]
def nj:List K:=[.str,.int .i64,.int .i64]
def vJ:List K:=[.str,.str,.sl 5 xA]
def Xf:List K:=[.str,.int .i64,.int .i64,.int .i64,.int .i64,.sl 192 nj,.int .i64,.int .i64,.sl 3 u0,.sl 3 u0,.sl 100 vJ]
def aeJ:List K:=[.int .i64,.sl 5 xA,.sl 5 xA]
def agL:List K:=[.sl 5 xA]
def La:List K:=[.int .i64,.str]
def Ky:List K:=[.str,.str,.str,.sl 3 u0]
def kk9:List K:=[.str]
def Qg:List K:=[.int .i64,.int .i64,.int .i64]
def TR:List K:=[.sl 3 u0]
abbrev kF:=(S8×Int×Int×Unit)
def d214:kF:=([],0,0,())
abbrev R3:=(Int×Unit)
def d3:R3:=(0,())
abbrev R5:=(Int×Unit)
def d5:R5:=(0,())
abbrev jy:=(S8×S8×(List R5)×Unit)
def d216:jy:=([],[],[],())
abbrev jM:=(S8×Int×Int×Int×Int×(List kF)×Int×Int×(List R3)×(List R3)×(List jy)×Unit)
def d109:jM:=([],0,0,0,0,[],0,0,[],[],[],())
abbrev vW:=(Int×(List R5)×(List R5)×Unit)
def d61:vW:=(0,[],[],())
abbrev bz:=(S8×Int×Int×Unit)
def d192:bz:=([],0,0,())
abbrev ch:=(S8×S8×(List R5)×Unit)
def d100:ch:=([],[],[],())
abbrev gH:=(S8×Int×Int×Int×Int×(List bz)×Int×Int×(List R3)×(List R3)×(List ch)×Unit)
def d94:gH:=([],0,0,0,0,[],0,0,[],[],[],())
abbrev xf:=(Int×(List R5)×(List R5)×Unit)
def d62:xf:=(0,[],[],())
abbrev tA:=((List R5)×Unit)
def d38:tA:=([],())
abbrev fS:=(Int×S8×Unit)
def d117:fS:=(0,[],())
abbrev M4:=(S8×S8×S8×(List R3)×Unit)
def d146:M4:=([],[],[],[],())
abbrev R9:=(S8×Unit)
def d9:R9:=([],())
abbrev Jg:=(Int×Int×Int×Unit)
def d188:Jg:=(0,0,0,())
abbrev OY:=((List R3)×Unit)
def d52:OY:=([],())
abbrev fU (ps : List PK) (rs : List (Bool × List K)) (f : PT ps → Option (ux ps × CT rs)) : Su := ⟨ps, rs, true, .inl f⟩
abbrev aT (x : List K) : PK := .c false x
abbrev dL (x : List K) : PK := .c true x
abbrev bj (n : Nat) (s : Su) : Prop := lU prog n s
abbrev eA {A B C : Type} (x : A) : Option (Sum A (Sum B C)) := some (.inl x)
abbrev eB {A B C : Type} (x : B) : Option (Sum A (Sum B C)) := some (.inr (.inl x))
abbrev eC {A B C : Type} (x : C) : Option (Sum A (Sum B C)) := some (.inr (.inr x))
def tt:List (Nat×TI):=[(2,⟨false,[.int .i64],0,8,[]⟩), (3,⟨false,[.int .i64],0,8,[]⟩), (4,⟨false,[.bool],0,1,[]⟩), (5,⟨false,[.int .u8],0,1,[]⟩), (6,⟨false,[.int .u8],0,1,[]⟩), (7,⟨true,[.int .i64,.int .i64,.bool,.int .u8],0,24,[(0,2),(1,3),(2,4),(3,6)]⟩), (8,⟨true,[.int .i64,.int .i64,.bool,.int .u8],0,24,[(0,2),(1,3),(2,4),(3,6)]⟩), (9,⟨false,[.str],0,16,[]⟩), (10,⟨false,[.str],0,16,[]⟩), (11,⟨false,[.str],0,16,[]⟩), (12,⟨false,[.int .u64],0,8,[]⟩), (13,⟨true,[.str,.int .u64],0,24,[(0,9),(1,12)]⟩), (14,⟨true,[.str,.int .u64],0,24,[(0,9),(1,12)]⟩), (21,⟨false,[.int .i32],0,4,[]⟩), (22,⟨false,[.sl 109 CV],109,24,[]⟩), (23,⟨true,[.sl 109 CV],0,24,[(0,22)]⟩), (24,⟨true,[.sl 109 CV],0,24,[(0,22)]⟩), (25,⟨false,[.sl 61 aeX],61,24,[]⟩), (29,⟨false,[.sl 94 Xf],94,24,[]⟩), (30,⟨true,[.sl 94 Xf],0,24,[(0,29)]⟩), (31,⟨true,[.sl 94 Xf],0,24,[(0,29)]⟩), (33,⟨false,[.sl 62 aeJ],62,24,[]⟩), (38,⟨false,[.sl 5 xA],5,24,[]⟩), (46,⟨false,[.sl 38 agL],38,24,[]⟩), (52,⟨false,[.sl 3 u0],3,24,[]⟩), (60,⟨true,[.int .i64,.sl 5 xA,.sl 5 xA],0,56,[(0,3),(1,38),(2,38)]⟩), (61,⟨true,[.int .i64,.sl 5 xA,.sl 5 xA],0,56,[(0,3),(1,38),(2,38)]⟩), (62,⟨true,[.int .i64,.sl 5 xA,.sl 5 xA],0,56,[(0,3),(1,38),(2,38)]⟩), (70,⟨false,[.sl 117 La],117,24,[]⟩), (71,⟨true,[.str,.sl 117 La],0,40,[(0,9),(1,70)]⟩), (72,⟨true,[.str,.sl 117 La],0,40,[(0,9),(1,70)]⟩), (82,⟨true,[.int .i64,.str,.str,.str,.str,.str,.int .i64,.int .i64],0,104,[(0,3),(1,9),(2,9),(3,9),(4,9),(5,9),(6,3),(7,3)]⟩), (83,⟨true,[.int .i64,.str,.str,.str,.str,.str,.int .i64,.int .i64],0,104,[(0,3),(1,9),(2,9),(3,9),(4,9),(5,9),(6,3),(7,3)]⟩), (89,⟨false,[.sl 192 nj],192,24,[]⟩), (90,⟨true,[.int .i64,.int .i64,.sl 3 u0,.sl 3 u0],0,64,[(0,3),(1,3),(2,52),(3,52)]⟩), (91,⟨true,[.int .i64,.int .i64,.sl 3 u0,.sl 3 u0],0,64,[(0,3),(1,3),(2,52),(3,52)]⟩), (92,⟨false,[.sl 100 vJ],100,24,[]⟩), (93,⟨true,[.str,.int .i64,.int .i64,.int .i64,.int .i64,.sl 192 nj,.int .i64,.int .i64,.sl 3 u0,.sl 3 u0,.sl 100 vJ],0,160,[(0,9),(1,3),(2,3),(3,3),(4,3),(5,89),(6,91),(10,92)]⟩), (94,⟨true,[.str,.int .i64,.int .i64,.int .i64,.int .i64,.sl 192 nj,.int .i64,.int .i64,.sl 3 u0,.sl 3 u0,.sl 100 vJ],0,160,[(0,9),(1,3),(2,3),(3,3),(4,3),(5,89),(6,91),(10,92)]⟩), (99,⟨true,[.str,.str,.sl 5 xA],0,56,[(0,9),(1,9),(2,38)]⟩), (100,⟨true,[.str,.str,.sl 5 xA],0,56,[(0,9),(1,9),(2,38)]⟩), (105,⟨false,[.sl 214 FB],214,24,[]⟩), (106,⟨true,[.int .i64,.int .i64,.sl 3 u0,.sl 3 u0],0,64,[(0,3),(1,3),(2,52),(3,52)]⟩), (107,⟨false,[.sl 216 GZ],216,24,[]⟩), (108,⟨true,[.str,.int .i64,.int .i64,.int .i64,.int .i64,.sl 214 FB,.int .i64,.int .i64,.sl 3 u0,.sl 3 u0,.sl 216 GZ],0,160,[(0,9),(1,3),(2,3),(3,3),(4,3),(5,105),(6,106),(10,107)]⟩), (109,⟨true,[.str,.int .i64,.int .i64,.int .i64,.int .i64,.sl 214 FB,.int .i64,.int .i64,.sl 3 u0,.sl 3 u0,.sl 216 GZ],0,160,[(0,9),(1,3),(2,3),(3,3),(4,3),(5,105),(6,106),(10,107)]⟩), (116,⟨true,[.int .i64,.str],0,24,[(0,3),(1,9)]⟩), (117,⟨true,[.int .i64,.str],0,24,[(0,3),(1,9)]⟩), (141,⟨false,[.int .u64],0,8,[]⟩), (144,⟨false,[.sl 146 Ky],146,24,[]⟩), (145,⟨true,[.str,.str,.str,.sl 3 u0],0,72,[(0,9),(1,9),(2,9),(3,52)]⟩), (146,⟨true,[.str,.str,.str,.sl 3 u0],0,72,[(0,9),(1,9),(2,9),(3,52)]⟩), (181,⟨false,[.sl 9 kk9],9,24,[]⟩), (187,⟨true,[.int .i64,.int .i64,.int .i64],0,24,[(0,3),(1,3),(2,3)]⟩), (188,⟨true,[.int .i64,.int .i64,.int .i64],0,24,[(0,3),(1,3),(2,3)]⟩), (191,⟨true,[.str,.int .i64,.int .i64],0,32,[(0,9),(1,3),(2,3)]⟩), (192,⟨true,[.str,.int .i64,.int .i64],0,32,[(0,9),(1,3),(2,3)]⟩), (214,⟨true,[.str,.int .i64,.int .i64],0,32,[(0,9),(1,3),(2,3)]⟩), (216,⟨true,[.str,.str,.sl 5 xA],0,56,[(0,9),(1,9),(2,38)]⟩), (225,⟨false,[.sl 188 Qg],188,24,[]⟩), (245,⟨false,[.sl 52 TR],52,24,[]⟩), (247,⟨false,[.int .i64],0,8,[]⟩), (269,⟨false,[.int .u64],0,8,[]⟩), (276,⟨false,[.int .u32],0,4,[]⟩), (285,⟨true,[.str],0,16,[(0,9)]⟩), (286,⟨true,[.str],0,16,[(0,9)]⟩), (299,⟨true,[.int .u8,.int .u8],0,2,[(0,5),(1,5)]⟩), (300,⟨true,[.int .u8,.int .u8],0,2,[(0,5),(1,5)]⟩), (314,⟨false,[.int .u8],0,1,[]⟩), (315,⟨false,[.int .u8],0,1,[]⟩), (317,⟨false,[.int .i32],0,4,[]⟩), (318,⟨false,[.int .i32],0,4,[]⟩)]
def E0:En:=xE 0 tt [] [] (fun _=>none) [] fun _=>none
theorem hT:cH prog E0:=XD (by kernel_rfl)
theorem iQ:prog.follows .mixedOrders=true:=by kernel_rfl
theorem fl{f:Nat}{s:Su}{l:List (Nat×SS)}(hl:pM prog l)(ρ:List SE)(los:List (Nat×Lo ρ))(pins:List Nat)(fn:Func)
 (Pb:GLo prog (OZ fn.ntmps tt l ρ los pins) (aw fn) (aw fn))
 (h : (prog.funcs[f]?, (fn.name == "runtime.NumGoroutine"), fn.body.isSome) = (some fn, false, true) := by kernel_rfl)
 (ht:∀ x,(Ii (OZ fn.ntmps tt l ρ los pins) (aw fn) fn.results.toList s.ps s.rs s.fresh x).run=s.vX x:=by intro x; kernel_rfl):lU prog f s:=by
 simp only[amK]at h
 exact flq hT iQ hl (fn:=fn) (by rw[h.1,h.2.1,h.2.2]) Pb ht
theorem fq{f:Nat}{s:Su}{l:List (Nat×SS)}(hl:pM prog l)(fn:Func)
 (h : (prog.funcs[f]?, (fn.name == "runtime.NumGoroutine"), fn.body.isSome, fm (fun _ => false) (aw fn)) = (some fn, false, true, []) := by kernel_rfl)
 (ht:∀ x,(Ii (OZ fn.ntmps tt l [] [] []) (aw fn) fn.results.toList s.ps s.rs s.fresh x).run=s.vX x:=by intro x; kernel_rfl):lU prog f s:=by
 simp only[amK]at h
 exact flq hT iQ hl (fn:=fn) (by rw[h.1,h.2.1,h.2.2.1]) (lp (n:=fn.ntmps) (tt:=tt) (l:=l) (ρ:=[]) (los:=[]) (pins:=[]) [] sn h.2.2.2) ht
abbrev Y0:=Nat×SS
abbrev Y1:=Int×Unit
abbrev Y2:=Bool×Unit
abbrev Y4:=(List R5)×Unit
abbrev Y6:=(List gH)×Unit
abbrev Y8:=(List bz)×Unit
abbrev Y7:=(List ch)×Unit
abbrev Bb:=S8×Unit
abbrev Y9:=Y1×Unit
abbrev Y16:=Int×S8×Unit
abbrev Y15:=S8×Int×Unit
abbrev iL:=Unit×Y9
abbrev iA:=Unit×(Y2×Unit)
abbrev Y22:=(List R3)×Int×Bool×Unit
abbrev Y24:=S8×Int×Int×Unit
abbrev xQ:=S8×(List fS)×Unit
abbrev Y28:=Unit×(((List R9)×Unit)×Unit)
abbrev Y27:=Unit×(Y4×Unit)
abbrev Y26:=Unit×(OY×Unit)
abbrev Y30:=Unit×(Y6×Unit)
abbrev Y32:=Unit×(Y8×Unit)
abbrev Y31:=Unit×(Y7×Unit)
abbrev Ea:=Unit×(Bb×Unit)
abbrev Y34:=Int×Int×(List R3)×(List R3)×Unit
abbrev Y37:=Unit×(Y1×Y2×Unit)
abbrev Y36:=(List ch)×(List ch)×Int×Int×Unit
abbrev Y40:=Int×xQ×Unit
abbrev O0:=Unit×(Y4×Y2×Unit)
abbrev Y54:=Unit×(Y6×((List tA)×Unit)×Unit)
abbrev Y56:=Unit×(Y34×Unit)
abbrev Y59:=(List bz)×(Bb×Unit)×Int×Int×Unit
abbrev Y61:=Unit×(OY×Y1×Y2×Unit)
abbrev Y63:=Unit×(xQ×Y2×Unit)
abbrev Y65:=Unit×(Bb×Y1×Y2×Unit)
abbrev Y67:=Int×S8×S8×S8×S8×S8×Int×Int×Unit
abbrev BS:=S8×Int×Int×Int×Int×(List bz)×Int×Int×(List R3)×(List R3)×(List ch)×Unit
abbrev Y72:=Unit×(BS×Unit)
abbrev GH:=Unit×(BS×Y1×Unit)
abbrev af:K:= .int .i64
abbrev MY:K:= .sl 214 FB
abbrev q3:K:= .sl 3 u0
abbrev q5:K:= .sl 5 xA
abbrev Oo:K:= .sl 216 GZ
abbrev JU:K:= .sl 109 CV
abbrev q61:K:= .sl 61 aeX
abbrev bH:K:= .sl 192 nj
abbrev cl:K:= .sl 100 vJ
abbrev kn:K:= .sl 94 Xf
abbrev Mz:K:= .sl 62 aeJ
abbrev eJ:K:= .sl 117 La
abbrev IZ:K:= .sl 38 agL
abbrev c0:Option iA:=zR false
abbrev c1:Option (Unit×(Y67×Y1×Unit)):=some ((),((0,[],[],[],[],[],0,0,()),(1,()),()))
abbrev c2:Option iL:=zR (-1)
abbrev c3:Option iA:=zR true
abbrev c4:Option Y65:=some ((),(([],()),(0,()),(false,()),()))
abbrev c5:Option iL:=zR 0
abbrev c6:Option Ea:=zR []
abbrev c7:Option O0:=some ((),(([],()),(false,()),()))
abbrev c8:Option GH:=some ((),(([],0,0,0,0,[],0,0,[],[],[],()),(1,()),()))
abbrev c9:Option iL:=zR 2
abbrev Xn:Option Y63:=some ((),(([],[],()),(false,()),()))
abbrev c11:Option iL:=zR 1
abbrev c12:Option GH:=some ((),(([],0,0,0,0,[],0,0,[],[],[],()),(4,()),()))
abbrev c13:Option (Unit×(Y6×Y1×Bb×Unit)):=some ((),(([],()),(1,()),([],()),()))
abbrev c14:Option (Unit×(Y6×Y1×Bb×Unit)):=some ((),(([],()),(3,()),([],()),()))
abbrev c15:Option (Unit×(Y8×Y2×Unit)):=some ((),(([],()),(false,()),()))
abbrev c16:Option Y61:=some ((),(([],()),(0,()),(false,()),()))
abbrev c17:Option iL:=zR 3
abbrev c18:Option (Unit×(BS×BS×Y1×Unit)):=some ((),(([],0,0,0,0,[],0,0,[],[],[],()),([],0,0,0,0,[],0,0,[],[],[],()),(1,()),()))
abbrev c19:Option iL:=zR 4
abbrev c20:Option iL:=zR 6
abbrev c21:Option iL:=zR 12
abbrev c22:Option iL:=zR 8
abbrev c23:Option Y37:=some ((),((0,()),(false,()),()))
abbrev c24:Option (Unit×(Y1×Y1×Y2×Unit)):=some ((),((0,()),(0,()),(false,()),()))
abbrev c25:Option (Unit×(xQ×Y1×Unit)):=some ((),(([],[],()),(2,()),()))
abbrev c26:Option (Unit×(xQ×Y1×Unit)):=some ((),(([],[],()),(4,()),()))
abbrev c27:Option GH:=some ((),(([],0,0,0,0,[],0,0,[],[],[],()),(5,()),()))
abbrev c28:Option iL:=zR 4611686018427387904
abbrev c29:Option Y28:=zR [([48,48],()),([51,48],()),([49,50],()),([49,52],()),([49,51],()),([50,53],()),([57,52],()),([53,49],()),([54,53],()),([54,49],()),([57,54],())]
abbrev c30:Option (Unit×(Y67×Y1×Unit)):=some ((),((0,[],[],[],[],[],0,0,()),(2,()),()))
abbrev c31:Option GH:=some ((),(([],0,0,0,0,[],0,0,[],[],[],()),(6,()),()))
abbrev c32:Option GH:=some ((),(([],0,0,0,0,[],0,0,[],[],[],()),(10,()),()))
abbrev c33:Option GH:=some ((),(([],0,0,0,0,[],0,0,[],[],[],()),(7,()),()))
abbrev c34:Option (Unit×(BS×BS×Y1×Unit)):=some ((),(([],0,0,0,0,[],0,0,[],[],[],()),([],0,0,0,0,[],0,0,[],[],[],()),(4,()),()))
abbrev c35:Option (Unit×(BS×BS×Y1×Unit)):=some ((),(([],0,0,0,0,[],0,0,[],[],[],()),([],0,0,0,0,[],0,0,[],[],[],()),(5,()),()))
abbrev c36:Option (Unit×(BS×BS×Y1×Unit)):=some ((),(([],0,0,0,0,[],0,0,[],[],[],()),([],0,0,0,0,[],0,0,[],[],[],()),(6,()),()))
abbrev c37:Option (Unit×(BS×BS×Y1×Unit)):=some ((),(([],0,0,0,0,[],0,0,[],[],[],()),([],0,0,0,0,[],0,0,[],[],[],()),(10,()),()))
abbrev c38:Option (Unit×(BS×BS×Y1×Unit)):=some ((),(([],0,0,0,0,[],0,0,[],[],[],()),([],0,0,0,0,[],0,0,[],[],[],()),(7,()),()))
abbrev c39:Option (Unit×(BS×Y1×Y1×Unit)):=some ((),(([],0,0,0,0,[],0,0,[],[],[],()),(0,()),(1,()),()))
section
open Go.Shelf Go.RowKit Go.Lib
def sρ:Ren:=⟨fun | 99=>287 | 105=>255 | 129=>327 | 165=>288 | 166=>289 | 169=>291 | 170=>290 | 171=>265 | 172=>201 | 205=>300 | 206=>306 | 212=>286 | 240=>307 | 241=>308 | 243=>296 | 244=>248 | 245=>249 | 246=>310 | 247=>277 | 263=>304 | 264=>305 | 276=>318 | 277=>319 | 279=>278 | 280=>279 | 281=>280 | 282=>281 | 283=>321 | 284=>322 | 285=>323 | 286=>324 | 287=>298 | 316=>299 | 317=>326 | 318=>328 | 319=>329 | 320=>330 | 321=>311 | 322=>312 | 337=>332 | 338=>333 | n=>n,fun | 0=>0 | 2=>2 | 3=>3 | 4=>4 | 5=>5 | 9=>9 | 20=>20 | 21=>21 | 37=>38 | 46=>141 | 51=>276 | 53=>269 | 70=>260 | 72=>262 | 75=>195 | 76=>196 | 80=>265 | 85=>248 | 109=>257 | 127=>281 | 143=>284 | 145=>286 | 146=>277 | 148=>279 | 164=>289 | 167=>247 | 168=>250 | 171=>293 | 173=>296 | 175=>270 | 210=>273 | 212=>303 | 213=>304 | 232=>307 | 233=>308 | n=>n,fun | 15=>0 | 16=>1 | 17=>5 | 18=>6 | 19=>7 | n=>n⟩
theorem AI:LaysC.n172 prog sρ:=by repeat' first | kernel_rfl | (intro _; kernel_rfl) | decide | constructor
theorem ze:LaysM.n171 prog sρ:=by repeat' first | kernel_rfl | (intro _; kernel_rfl) | decide | constructor
theorem B8:Lays.n105 prog sρ:=by repeat' first | kernel_rfl | (intro _; kernel_rfl) | decide | constructor
theorem vA:Builder.Extra prog sρ:=by repeat' first | kernel_rfl | (intro _; kernel_rfl) | decide | constructor
end
def Wa(p0:S8×Int×Int×Unit)(p1:Int):Option iL:=let u1:=(bf .i64 p1 (ae p0.1));cond (aE u1 0) (c2) (zR u1)
abbrev iN : List (Bool × List K) := [(false,[.bool])]
abbrev jl : List (Bool × List K) := [(false,[af])]
abbrev Fh : List (Bool × List K) := [(false,[.str])]
abbrev QW : List (Bool × List K) := [(true,[.str,af,af,af,af,bH,af,af,q3,q3,cl]),(false,[af])]
abbrev UW : List (Bool × List K) := [(false,[q5]),(false,[.bool])]
abbrev VF : List (Bool × List K) := [(false,[bH])]
abbrev w6R : List (Bool × List K) := [(true,[af,af,q3,q3])]
abbrev w7R : List (Bool × List K) := [(false,[q5])]
abbrev w8R : List (Bool × List K) := [(true,[.str,af,af,af,af,bH,af,af,q3,q3,cl])]
abbrev w9R : List (Bool × List K) := [(true,[kn])]
abbrev WH : List (Bool × List K) := [(false,[.str]),(false,[af]),(false,[.bool])]
def akY:=fU [dL [.str,af,af],aT [af]] jl fun x=>Wa x.1 x.2.1.1
theorem agt:bj 221 akY:=fq an f221
def tr(t0:List kF)(t1 t5:Int):Rd ((List kF)×Int×Int×Unit) Y1:=cond (aE t5 (ae t0)) (cond (aX t5 t0) ((Wa (gt d214 t0 t5) t1).bind fun y1=>cond (aE y1.2.1.1 0) (eC ((-1),())) (eA (t0,y1.2.1.1,(ak .i64 t5 1),()))) none) (eB (t0,t1,t5,()))
def Rz:=pG (aq (fE tr))
def Vo(p0:List kF)(p1:Int):Option iL:=let u1:=(bf .i64 p1 (ae p0));cond (aE u1 0) (c2) ((Rz p0 u1 0).bind (Sum.elim (fun y1=>zR y1.2.1) (fun y1=>some ((),(y1,())))))
def akr:=fU [aT [MY],aT [af]] jl fun x=>Vo x.1.1 x.2.1.1
theorem agW:bj 148 akr:=fl (ac agt an) [.d 4 af] [(0,⟨[.d 0 MY,.d 1 af,.d 5 af],aq (fE tr)⟩)] [] f148 (lp [0] (sc dV sn))
def Tm(p0:List R3)(p1:Int):Option iL:=let u1:=(bf .i64 p1 (ae p0));cond (aE u1 0) (c2) (zR u1)
def ajv:=fU [aT [q3],aT [af]] jl fun x=>Tm x.1.1 x.2.1.1
theorem afS:bj 222 ajv:=fq an f222
def VO(p0:Int×Int×(List R3)×(List R3)×Unit)(p1:Int):Option iL:=(Tm p0.2.2.1 p1).bind fun y1=>cond (aE y1.2.1.1 0) (c2) ((Tm p0.2.2.2.1 y1.2.1.1).bind fun y2=>cond (aE y2.2.1.1 0) (c2) (some ((),(y2.2.1,()))))
def aiE:=fU [dL [af,af,q3,q3],aT [af]] jl fun x=>VO x.1 x.2.1.1
theorem afG:bj 149 aiE:=fq (ac afS an) f149
def g74(p0:List R5)(p1:Int):Option iL:=let u1:=(bf .i64 p1 (ae p0));cond (aE u1 0) (c2) (zR u1)
def s74:=fU [aT [q5],aT [af]] jl fun x=>g74 x.1.1 x.2.1.1
theorem ahB:bj 74 s74:=fq an f74
def Wv(p0:S8×S8×(List R5)×Unit)(p1:Int):Option iL:=let u1:=(bf .i64 p1 (ae p0.1));cond (aE u1 0) (c2) (let u2:=(bf .i64 u1 (ae p0.2.1));cond (aE u2 0) (c2) ((g74 p0.2.2.1 u2).bind fun y1=>cond (aE y1.2.1.1 0) (c2) (some ((),(y1.2.1,())))))
def aid:=fU [dL [.str,.str,q5],aT [af]] jl fun x=>Wv x.1 x.2.1.1
theorem agr:bj 223 aid:=fq (ac ahB an) f223
def r8(t0:List jy)(t1 t5:Int):Rd ((List jy)×Int×Int×Unit) Y1:=cond (aE t5 (ae t0)) (cond (aX t5 t0) ((Wv (gt d216 t0 t5) t1).bind fun y1=>cond (aE y1.2.1.1 0) (eC ((-1),())) (eA (t0,y1.2.1.1,(ak .i64 t5 1),()))) none) (eB (t0,t1,t5,()))
def Q5:=pG (aq (fE r8))
def VN(p0:List jy)(p1:Int):Option iL:=let u1:=(bf .i64 p1 (ae p0));cond (aE u1 0) (c2) ((Q5 p0 u1 0).bind (Sum.elim (fun y1=>zR y1.2.1) (fun y1=>some ((),(y1,())))))
def aka:=fU [aT [Oo],aT [af]] jl fun x=>VN x.1.1 x.2.1.1
theorem aeO:bj 150 aka:=fl (ac agr an) [.d 4 af] [(0,⟨[.d 0 Oo,.d 1 af,.d 5 af],aq (fE r8)⟩)] [] f150 (lp [0] (sc dV sn))
def g73(p0:S8×Int×Int×Int×Int×(List kF)×Int×Int×(List R3)×(List R3)×(List jy)×Unit)(p1:Int):Option iL:=let u1:=(bf .i64 p1 (ae p0.1));cond (aE u1 0) (c2) ((Vo p0.2.2.2.2.2.1 u1).bind fun y1=>cond (aE y1.2.1.1 0) (c2) ((VO (p0.2.2.2.2.2.2.1,p0.2.2.2.2.2.2.2.1,p0.2.2.2.2.2.2.2.2.1,p0.2.2.2.2.2.2.2.2.2.1,()) y1.2.1.1).bind fun y2=>cond (aE y2.2.1.1 0) (c2) ((VN p0.2.2.2.2.2.2.2.2.2.2.1 y2.2.1.1).bind fun y3=>cond (aE y3.2.1.1 0) (c2) (some ((),(y3.2.1,()))))))
def s73:=fU [dL [.str,af,af,af,af,MY,af,af,q3,q3,Oo],aT [af]] jl fun x=>g73 x.1 x.2.1.1
theorem aj8:bj 73 s73:=fq (ac agW (ac afG (ac aeO an))) f73
def Aw(t0:List jM)(t1 t5:Int):Rd ((List jM)×Int×Int×Unit) Y1:=cond (aE t5 (ae t0)) (cond (aX t5 t0) ((g73 (gt d109 t0 t5) t1).bind fun y1=>cond (aE y1.2.1.1 0) (eC ((-1),())) (eA (t0,y1.2.1.1,(ak .i64 t5 1),()))) none) (eB (t0,t1,t5,()))
def aau:=pG (aq (fE Aw))
def g34(p0:List jM)(p1:Int):Option iL:=let u1:=(bf .i64 p1 (ae p0));cond (aE u1 0) (c2) ((aau p0 u1 0).bind (Sum.elim (fun y1=>zR y1.2.1) (fun y1=>some ((),(y1,())))))
def s34:=fU [aT [JU],aT [af]] jl fun x=>g34 x.1.1 x.2.1.1
theorem aii:bj 34 s34:=fl (ac aj8 an) [.d 4 af] [(0,⟨[.d 0 JU,.d 1 af,.d 5 af],aq (fE Aw)⟩)] [] f34 (lp [0] (sc dV sn))
def g7(p0:(List jM)×Unit)(p1:Int):Option iL:=(g34 p0.1 p1).bind fun y1=>cond (aE y1.2.1.1 0) (c2) (some ((),(y1.2.1,())))
def s7:=fU [dL [JU],aT [af]] jl fun x=>g7 x.1 x.2.1.1
theorem ok7:bj 7 s7:=fq (ac aii an) f7
def g35(p0:Int×(List R5)×(List R5)×Unit)(p1:Int):Option iL:=(g74 p0.2.1 p1).bind fun y1=>cond (aE y1.2.1.1 0) (c2) ((g74 p0.2.2.1 y1.2.1.1).bind fun y2=>cond (aE y2.2.1.1 0) (c2) (some ((),(y2.2.1,()))))
def s35:=fU [dL [af,q5,q5],aT [af]] jl fun x=>g35 x.1 x.2.1.1
theorem ajx:bj 35 s35:=fq (ac ahB an) f35
def IJ(t0:List vW)(t1 t5:Int):Rd ((List vW)×Int×Int×Unit) Y1:=cond (aE t5 (ae t0)) (cond (aX t5 t0) ((g35 (gt d61 t0 t5) t1).bind fun y1=>cond (aE y1.2.1.1 0) (eC ((-1),())) (eA (t0,y1.2.1.1,(ak .i64 t5 1),()))) none) (eB (t0,t1,t5,()))
def ahn:=pG (aq (fE IJ))
def g8(p0:List vW)(p1:Int):Option iL:=let u1:=(bf .i64 p1 (ae p0));cond (aE u1 0) (c2) ((ahn p0 u1 0).bind (Sum.elim (fun y1=>zR y1.2.1) (fun y1=>some ((),(y1,())))))
def s8:=fU [aT [q61],aT [af]] jl fun x=>g8 x.1.1 x.2.1.1
theorem ok8:bj 8 s8:=fl (ac ajx an) [.d 4 af] [(0,⟨[.d 0 q61,.d 1 af,.d 5 af],aq (fE IJ)⟩)] [] f8 (lp [0] (sc dV sn))
def Vr(p0:S8×Int×Int×Unit):Option (Unit×(Y24×Unit)):=some ((),(p0,()))
def akm:=fU [dL [.str,af,af]] [(true,[.str,af,af])] fun x=>Vr x.1
theorem aey:bj 224 akm:=fq an f224
def sv(t0:List kF)(t3:List bz)(t4:Int):Rd ((List kF)×(List bz)×Int×Unit) Unit:=cond (aE t4 (ae t0)) (cond (aX t4 t0) ((Vr (gt d214 t0 t4)).bind fun y1=>cond (aX t4 t3) (let u1:=(gt d192 t3 t4);let u2:=(cZ t3 t4 (y1.2.1.1,u1.2.1,u1.2.2.1,()));let u3:=(gt d192 u2 t4);let u4:=(cZ u2 t4 (u3.1,y1.2.1.2.1,u3.2.2.1,()));let u5:=(gt d192 u4 t4);eA (t0,(cZ u4 t4 (u5.1,u5.2.1,y1.2.1.2.2.1,())),(ak .i64 t4 1),())) none) none) (eB (t0,t3,t4,()))
def QH:=pG (aq (fE sv))
def VV(p0:List kF):Option Y32:=let u1:=(ae p0);cond (VG 32 u1) ((QH p0 (wM d192 u1) 0).bind (Sum.elim (fun y1=>zR y1.2.1) (fun _=>none))) none
def aja:=fU [aT [MY]] VF fun x=>VV x.1.1
theorem agX:bj 151 aja:=fl (ac aey an) [] [(0,⟨[.d 0 MY,.own 3 bH,.d 4 af],aq (fE sv)⟩)] [] f151 (lp [0] (sc dV sn))
def zJ(t0 t3:List R3)(t4:Int):Rd ((List R3)×(List R3)×Int×Unit) Unit:=cond (aE t4 (ae t0)) (cond (aX t4 t0) (cond (aX t4 t3) (eA (t0,(cZ t3 t4 (gt d3 t0 t4)),(ak .i64 t4 1),())) none) none) (eB (t0,t3,t4,()))
def YN:=pG (aq (fE zJ))
def g30(p0:List R3):Option Y26:=let u1:=(ae p0);cond (VG 8 u1) ((YN p0 (wM d3 u1) 0).bind (Sum.elim (fun y1=>zR y1.2.1) (fun _=>none))) none
def s30:=fU [aT [q3]] [(false,[q3])] fun x=>g30 x.1.1
theorem aiV:bj 30 s30:=fl an [] [(0,⟨[.d 0 q3,.own 3 q3,.d 4 af],aq (fE zJ)⟩)] [] f30 (lp [0] (sc dV sn))
def WT(p0:Int×Int×(List R3)×(List R3)×Unit):Option Y56:=(g30 p0.2.2.1).bind fun y1=>(g30 p0.2.2.2.1).bind fun y2=>some ((),((p0.1,p0.2.1,y1.2.1.1,y2.2.1.1,()),()))
def ajM:=fU [dL [af,af,q3,q3]] w6R fun x=>WT x.1
theorem agw:bj 152 ajM:=fq (ac aiV an) f152
def zI(t0 t3:List R5)(t4:Int):Rd ((List R5)×(List R5)×Int×Unit) Unit:=cond (aE t4 (ae t0)) (cond (aX t4 t0) (cond (aX t4 t3) (eA (t0,(cZ t3 t4 (gt d5 t0 t4)),(ak .i64 t4 1),())) none) none) (eB (t0,t3,t4,()))
def Yz:=pG (aq (fE zI))
def g16(p0:List R5):Option Y27:=let u1:=(ae p0);cond (VG 1 u1) ((Yz p0 (wM d5 u1) 0).bind (Sum.elim (fun y1=>zR y1.2.1) (fun _=>none))) none
def s16:=fU [aT [q5]] w7R fun x=>g16 x.1.1
theorem aga:bj 16 s16:=fl an [] [(0,⟨[.d 0 q5,.own 3 q5,.d 4 af],aq (fE zI)⟩)] [] f16 (lp [0] (sc dV sn))
def XS(p0:S8×S8×(List R5)×Unit):Option (Unit×(jy×Unit)):=(g16 p0.2.2.1).bind fun y1=>some ((),((p0.1,p0.2.1,y1.2.1.1,()),()))
def ai8:=fU [dL [.str,.str,q5]] [(true,[.str,.str,q5])] fun x=>XS x.1
theorem agi:bj 225 ai8:=fq (ac aga an) f225
def uo(t0:List jy)(t3:List ch)(t4:Int):Rd ((List jy)×(List ch)×Int×Unit) Unit:=cond (aE t4 (ae t0)) (cond (aX t4 t0) ((XS (gt d216 t0 t4)).bind fun y1=>cond (aX t4 t3) (let u1:=(gt d100 t3 t4);let u2:=(cZ t3 t4 (y1.2.1.1,u1.2.1,u1.2.2.1,()));let u3:=(gt d100 u2 t4);let u4:=(cZ u2 t4 (u3.1,y1.2.1.2.1,u3.2.2.1,()));let u5:=(gt d100 u4 t4);eA (t0,(cZ u4 t4 (u5.1,u5.2.1,y1.2.1.2.2.1,())),(ak .i64 t4 1),())) none) none) (eB (t0,t3,t4,()))
def Tc:=pG (aq (fE uo))
def Vs(p0:List jy):Option Y31:=let u1:=(ae p0);cond (VG 56 u1) ((Tc p0 (wM d100 u1) 0).bind (Sum.elim (fun y1=>zR y1.2.1) (fun _=>none))) none
def aiu:=fU [aT [Oo]] [(false,[cl])] fun x=>Vs x.1.1
theorem ahE:bj 153 aiu:=fl (ac agi an) [] [(0,⟨[.d 0 Oo,.own 3 cl,.d 4 af],aq (fE uo)⟩)] [] f153 (lp [0] (sc dV sn))
def g75(p0:S8×Int×Int×Int×Int×(List kF)×Int×Int×(List R3)×(List R3)×(List jy)×Unit):Option Y72:=(VV p0.2.2.2.2.2.1).bind fun y1=>(WT (p0.2.2.2.2.2.2.1,p0.2.2.2.2.2.2.2.1,p0.2.2.2.2.2.2.2.2.1,p0.2.2.2.2.2.2.2.2.2.1,())).bind fun y2=>(Vs p0.2.2.2.2.2.2.2.2.2.2.1).bind fun y3=>some ((),((p0.1,p0.2.1,p0.2.2.1,p0.2.2.2.1,p0.2.2.2.2.1,y1.2.1.1,y2.2.1.1,y2.2.1.2.1,y2.2.1.2.2.1,y2.2.1.2.2.2.1,y3.2.1.1,()),()))
def s75:=fU [dL [.str,af,af,af,af,MY,af,af,q3,q3,Oo]] w8R fun x=>g75 x.1
theorem akR:bj 75 s75:=fq (ac agX (ac agw (ac ahE an))) f75
def zv(t0:List jM)(t3:List gH)(t4:Int):Rd ((List jM)×(List gH)×Int×Unit) Unit:=cond (aE t4 (ae t0)) (cond (aX t4 t0) ((g75 (gt d109 t0 t4)).bind fun y1=>cond (aX t4 t3) (eA (t0,(cZ t3 t4 y1.2.1),(ak .i64 t4 1),())) none) none) (eB (t0,t3,t4,()))
def Zx:=pG (aq (fE zv))
def g36(p0:List jM):Option Y30:=let u1:=(ae p0);cond (VG 160 u1) ((Zx p0 (wM d94 u1) 0).bind (Sum.elim (fun y1=>zR y1.2.1) (fun _=>none))) none
def s36:=fU [aT [JU]] [(false,[kn])] fun x=>g36 x.1.1
theorem akL:bj 36 s36:=fl (ac akR an) [] [(0,⟨[.d 0 JU,.own 3 kn,.d 4 af],aq (fE zv)⟩)] [] f36 (lp [0] (sc dV sn))
def g10(p0:(List jM)×Unit):Option Y30:=(g36 p0.1).bind fun y1=>some ((),(y1.2.1,()))
def s10:=fU [dL [JU]] w9R fun x=>g10 x.1
theorem akp:bj 10 s10:=fq (ac akL an) f10
def g37(p0:Int×(List R5)×(List R5)×Unit):Option (Unit×(vW×Unit)):=(g16 p0.2.1).bind fun y1=>(g16 p0.2.2.1).bind fun y2=>some ((),((p0.1,y1.2.1.1,y2.2.1.1,()),()))
def s37:=fU [dL [af,q5,q5]] [(true,[af,q5,q5])] fun x=>g37 x.1
theorem ajR:bj 37 s37:=fq (ac aga an) f37
def zO(t0:List vW)(t3:List xf)(t4:Int):Rd ((List vW)×(List xf)×Int×Unit) Unit:=cond (aE t4 (ae t0)) (cond (aX t4 t0) ((g37 (gt d61 t0 t4)).bind fun y1=>cond (aX t4 t3) (let u1:=(gt d62 t3 t4);let u2:=(cZ t3 t4 (y1.2.1.1,u1.2.1,u1.2.2.1,()));let u3:=(gt d62 u2 t4);let u4:=(cZ u2 t4 (u3.1,y1.2.1.2.1,u3.2.2.1,()));let u5:=(gt d62 u4 t4);eA (t0,(cZ u4 t4 (u5.1,u5.2.1,y1.2.1.2.2.1,())),(ak .i64 t4 1),())) none) none) (eB (t0,t3,t4,()))
def YS:=pG (aq (fE zO))
def g11(p0:List vW):Option (Unit×(((List xf)×Unit)×Unit)):=let u1:=(ae p0);cond (VG 56 u1) ((YS p0 (wM d62 u1) 0).bind (Sum.elim (fun y1=>zR y1.2.1) (fun _=>none))) none
def s11:=fU [aT [q61]] [(false,[Mz])] fun x=>g11 x.1.1
theorem ajY:bj 11 s11:=fl (ac ajR an) [] [(0,⟨[.d 0 q61,.own 3 Mz,.d 4 af],aq (fE zO)⟩)] [] f11 (lp [0] (sc dV sn))
def DP(p0:Int×Int×(List R3)×(List R3)×Unit):Option Y56:=cond (bl 8 [] p0.2.2.1) (cond (bl 8 [] p0.2.2.2.1) (some ((),((p0.1,p0.2.1,(fQ [] p0.2.2.1),(fQ [] p0.2.2.2.1),()),()))) none) none
def air:=fU [dL [af,af,q3,q3]] w6R fun x=>DP x.1
theorem Tt:bj 157 air:=fq an f157
def A1(t3 t7:List ch)(t8 t9:Int):Rd Y36 Unit:=cond (aE t9 t8) (cond (aX t9 t7) (let u1:=(gt d100 t7 t9);cond (bl 1 [] u1.2.2.1) (cond (bl 56 t3 [(u1.1,u1.2.1,(fQ [] u1.2.2.1),())]) (eA ((fQ t3 [(u1.1,u1.2.1,(fQ [] u1.2.2.1),())]),t7,t8,(ak .i64 t9 1),())) none) none) none) (eB (t3,t7,t8,t9,()))
def aaE:=rE (aq (eo A1))
def g98(p0:List ch):Option Y31:=(aaE [] p0 (ae p0) 0).bind (Sum.elim (fun y1=>zR y1.1) (fun _=>none))
def s98:=fU [aT [cl]] [(false,[cl])] fun x=>g98 x.1.1
theorem ahg:bj 98 s98:=fl an [] [(0,⟨[.own 3 cl,.d 7 cl,.d 8 af,.d 9 af],aq (eo A1)⟩)] [] f98 (lp [0] (sc dV sn))
def SY(p0:S8×Int×Int×Int×Int×(List bz)×Int×Int×(List R3)×(List R3)×(List ch)×Unit):Option Y72:=cond (bl 32 [] p0.2.2.2.2.2.1) ((DP (p0.2.2.2.2.2.2.1,p0.2.2.2.2.2.2.2.1,p0.2.2.2.2.2.2.2.2.1,p0.2.2.2.2.2.2.2.2.2.1,())).bind fun y1=>(g98 p0.2.2.2.2.2.2.2.2.2.2.1).bind fun y2=>some ((),((p0.1,p0.2.1,p0.2.2.1,p0.2.2.2.1,p0.2.2.2.2.1,(fQ [] p0.2.2.2.2.2.1),y1.2.1.1,y1.2.1.2.1,y1.2.1.2.2.1,y1.2.1.2.2.2.1,y2.2.1.1,()),()))) none
def s77:=fU [dL [.str,af,af,af,af,bH,af,af,q3,q3,cl]] w8R fun x=>SY x.1
theorem XZ:bj 77 s77:=fq (ac Tt (ac ahg an)) f77
def zU(t8:List gH)(t9 t10:Int)(b2 b3:(List gH)×Unit):Rd ((List gH)×Int×Int×Y6×Y6×Unit) Unit:=cond (aE t10 t9) (cond (aX t10 t8) ((SY (gt d94 t8 t10)).bind fun y1=>cond (bl 160 b3.1 [y1.2.1]) (eA (t8,t9,(ak .i64 t10 1),b2,((fQ b3.1 [y1.2.1]),()),())) none) none) (eB (t8,t9,t10,b2,b3,()))
def aaP:=O2 (aq (pZ zU))
def g41(p0:(List gH)×Unit):Option Y30:=(aaP p0.1 (ae p0.1) 0 ([],()) ([],())).bind (Sum.elim (fun y1=>some ((),(y1.2.2.2.2.1,()))) (fun _=>none))
def s41:=fU [dL [kn]] w9R fun x=>g41 x.1
theorem MS:bj 41 s41:=fl (ac XZ an) [] [(0,⟨[.d 8 kn,.d 9 af,.d 10 af,.box 2 [(true,kn)],.box 3 [(true,kn)]],aq (pZ zU)⟩)] [] f41 (lp [0] (sc dV sn))
def BB(t0:S8)(t3:Int):Rd Y15 Y2:=cond (aE t3 (ae t0)) (cond (aX t3 t0) (let u1:=(fh t0 t3);cond (aE u1 48) (eC (false,())) (cond (aX t3 t0) (cond (aE 57 u1) (eC (false,())) (eA (t0,(ak .i64 t3 1),()))) none)) none) (eB (t0,t3,()))
def YE:=UQ (aq (Az BB))
def Ih(p0:S8):Option iA:=(YE p0 0).bind (Sum.elim (fun y1=>zR (aE 0 (ae y1.1))) (fun y1=>some ((),(y1,()))))
def s78:=fU [aT [.str]] iN fun x=>Ih x.1.1
theorem Ce:bj 78 s78:=fl an [.d 2 .bool] [(0,⟨[.d 0 .str,.d 3 af],aq (Az BB)⟩)] [] f78 (lp [0] (sc dV sn))
def AL(t0:List R5)(t1 t2:Int)(t9:S8)(t10:Int):Rd ((List R5)×Int×Int×S8×Int×Unit) Unit:=cond (aE t10 (ak .i64 t1 (kq .i64 (ak .i64 t2 1) 2))) (cond (aX t10 t0) (cond (aX t10 t0) (let u1:=(dC .i64 (gt d5 t0 t10).1);let u2:=(strOf [((dC .u8 (ak .i64 48 (kq .i64 u1 16))),()),((dC .u8 (ak .i64 48 (eH u1 16))),())]);cond (jL t9 u2) (eA (t0,t1,t2,(uy t9 u2),(ak .i64 t10 1),())) none) none) none) (eB (t0,t1,t2,t9,t10,()))
def Zi:=O2 (aq (pZ AL))
def Oc(p0:List R5)(p1 p2:Int):Option Y65:=let u1:=(ae p0);cond (cond (cond (cond (aE p2 1) true (aE 38 p2)) true (aE p1 0)) true (aE u1 p1)) (c4) (cond (aE (bf .i64 u1 p1) (kq .i64 (ak .i64 p2 1) 2)) (c4) ((Zi p0 p1 p2 [] p1).bind (Sum.elim (fun y1=>cond (aj (eH y1.2.2.1 2) 1) (cond (aX 0 y1.2.2.2.1) (cond (!(aj (fh y1.2.2.2.1 0) 48)) (c4) (let u2:=(ae y1.2.2.2.1);cond (eV 1 u2 y1.2.2.2.1) (let u3:=(sub y1.2.2.2.1 1 u2);(Ih u3).bind fun y2=>cond (!y2.2.1.1) (c4) (some ((),((u3,()),((ak .i64 y1.2.1 (kq .i64 (ak .i64 y1.2.2.1 1) 2)),()),(true,()),())))) none)) none) ((Ih y1.2.2.2.1).bind fun y2=>cond (!y2.2.1.1) (c4) (some ((),((y1.2.2.2.1,()),((ak .i64 y1.2.1 (kq .i64 (ak .i64 y1.2.2.1 1) 2)),()),(true,()),()))))) (fun _=>none))))
def s42:=fU [aT [q5],aT [af],aT [af]] WH fun x=>Oc x.1.1 x.2.1.1 x.2.2.1.1
theorem NL:bj 42 s42:=fl (ac Ce an) [] [(0,⟨[.d 0 q5,.d 1 af,.d 2 af,.d 9 .str,.d 10 af],aq (pZ AL)⟩)] [] f42 (lp [0] (sc dV sn))
def wE(t0:List R5)(t1:Int)(t7:List R3)(t8:Int):Rd ((List R5)×Int×(List R3)×Int×Unit) Unit:=cond (ck t8 64) (let u1:=(bf .i64 t8 1);let u2:=(ak .i64 t1 (kq .i64 u1 8));cond (aX u2 t0) (let u3:=(bf .i64 7 (eH u1 8));cond (ck 0 u3) (cond (aj (eH (rH .i64 (dC .i64 (gt d5 t0 u2).1) u3) 2) 1) (cond (bl 8 t7 [(t8,())]) (let u4:=(ak .i64 t8 1);eA (t0,t1,(fQ t7 [(t8,())]),u4,())) none) (let u4:=(ak .i64 t8 1);eA (t0,t1,t7,u4,()))) none) none) (eB (t0,t1,t7,t8,()))
def Px:=rE (aq (eo wE))
def J3(p0:List R5)(p1:Int):Option Y61:=cond (cond (aE p1 0) true (aE (bf .i64 (ae p0) 8) p1)) (c16) ((Px p0 p1 [] 1).bind (Sum.elim (fun y1=>some ((),((y1.2.2.1,()),((ak .i64 y1.2.1 8),()),(true,()),()))) (fun _=>none)))
def aiS:=fU [aT [q5],aT [af]] [(false,[q3]),(false,[af]),(false,[.bool])] fun x=>J3 x.1.1 x.2.1.1
theorem ago:bj 158 aiS:=fl an [] [(0,⟨[.d 0 q5,.d 1 af,.own 7 q3,.d 8 af],aq (eo wE)⟩)] [] f158 (lp [0] (sc dV sn))
def E4(p0:Int):Option iL:=cond (aj p0 3) (c11) (cond (aj p0 4) (c11) (cond (aj p0 7) (c11) (cond (aj p0 11) (c11) (cond (aj p0 14) (c11) (cond (aj p0 49) (c11) (cond (aj p0 37) (c9) (cond (aj p0 38) (c9) (cond (aj p0 39) (c9) (cond (aj p0 41) (c9) (cond (aj p0 95) (c9) (cond (aj p0 2) (c17) (cond (aj p0 102) (c19) (cond (aj p0 103) (c19) (cond (aj p0 48) (zR 5) (cond (aj p0 54) (zR 5) (c5))))))))))))))))
def ak6:=fU [aT [af]] jl fun x=>E4 x.1.1
theorem Gc:bj 159 ak6:=fq an f159
def zW(t0:List R5)(t6:Int)(t8:List R3)(t9:Bool)(t28:List R3)(t29 t30:Int):Rd ((List R5)×Int×(List R3)×Bool×(List R3)×Int×Int×Unit) Y22:=cond (aE t30 t29) (cond (aX t30 t28) (let u1:=(gt d3 t28 t30);cond (aj u1.1 1) (let u2:=(ak .i64 t30 1);eA (t0,t6,t8,true,t28,t29,u2,())) (cond (bl 8 t8 [u1]) (let u2:=(ak .i64 t30 1);eA (t0,t6,(fQ t8 [u1]),t9,t28,t29,u2,())) none)) none) (eB (t0,t6,t8,t9,t28,t29,t30,()))
def YT:=cu7 (aq (CD zW))
def An(t8:List R3)(t13:Int)(t56:List R3)(t57 t58:Int):Rd ((List R3)×Int×(List R3)×Int×Int×Unit) Y22:=cond (aE t58 t57) (cond (aX t58 t56) (cond (bl 8 t8 [((ak .i64 (gt d3 t56 t58).1 64),())]) (eA ((fQ t8 [((ak .i64 (gt d3 t56 t58).1 64),())]),t13,t56,t57,(ak .i64 t58 1),())) none) none) (eB (t8,t13,t56,t57,t58,()))
def aad:=O2 (aq (pZ An))
def zx(_:Unit)(t6:Int)(t8:List R3)(t70 t71:Int):Rd (Unit×Int×(List R3)×Int×Int×Unit) Y22:=cond (aE t71 t70) (cond (aX t71 t8) ((E4 (gt d3 t8 t71).1).bind fun y1=>cond (aj y1.2.1.1 0) (eC ([],0,false,())) (eA ((),t6,t8,t70,(ak .i64 t71 1),()))) none) (eB ((),t6,t8,t70,t71,()))
def RJ:=O2 (aq (pZ zx))
def g79(p0:List R5):Option Y61:=(J3 p0 2).bind fun y1=>cond (!y1.2.2.2.1.1) (c16) ((YT p0 y1.2.2.1.1 [] false y1.2.1.1 (ae y1.2.1.1) 0).bind (Sum.elim (fun y2=>cond y2.2.2.2.1 ((J3 y2.1 y2.2.1).bind fun y3=>let u1:=(ae y3.2.1.1);cond (cond (!y3.2.2.2.1.1) true (aj u1 0)) (c16) ((aad y2.2.2.1 y3.2.2.1.1 y3.2.1.1 u1 0).bind (Sum.elim (fun y4=>(RJ () y4.2.1 y4.1 (ae y4.1) 0).bind (Sum.elim (fun y5=>some ((),((y5.2.2.1,()),(y5.2.1,()),(true,()),()))) (fun y5=>some ((),((y5.1,()),(y5.2.1,()),(y5.2.2.1,()),()))))) (fun y4=>some ((),((y4.1,()),(y4.2.1,()),(y4.2.2.1,()),())))))) ((RJ () y2.2.1 y2.2.2.1 (ae y2.2.2.1) 0).bind (Sum.elim (fun y3=>some ((),((y3.2.2.1,()),(y3.2.1,()),(true,()),()))) (fun y3=>some ((),((y3.1,()),(y3.2.1,()),(y3.2.2.1,()),())))))) (fun y2=>some ((),((y2.1,()),(y2.2.1,()),(y2.2.2.1,()),())))))
def s79:=fU [aT [q5]] [(false,[q3]),(false,[af]),(false,[.bool])] fun x=>g79 x.1.1
theorem aki:bj 79 s79:=fl (ac ago (ac Gc an)) [.own 2 q3,.d 3 af,.d 4 .bool] [(0,⟨[.d 0 q5,.d 6 af,.own 8 q3,.d 9 .bool,.own 28 q3,.d 29 af,.d 30 af],aq (CD zW)⟩),(2,⟨[.own 8 q3,.d 13 af,.own 56 q3,.d 57 af,.d 58 af],aq (pZ An)⟩),(4,⟨[.al 69 8,.d 6 af,.own 8 q3,.d 70 af,.d 71 af],aq (pZ zx)⟩)] [] f79 (lp [0,2,4] (sc dV (sc dV (sc dV sn))))
def J6(p0:Int):Option iL:=cond (aj p0 2) (zR 19) (cond (aj p0 3) (c20) (cond (aj p0 11) (c20) (cond (aj p0 38) (c20) (cond (aj p0 4) (c21) (cond (aj p0 37) (c21) (cond (aj p0 95) (c21) (cond (aj p0 7) (zR 10) (cond (aj p0 14) (c19) (cond (aj p0 39) (c9) (cond (aj p0 41) (c22) (cond (aj p0 49) (c17) (cond (aj p0 102) (zR 20) (cond (aj p0 103) (zR 20) (cond (aj p0 48) (zR 60) (cond (aj p0 54) (zR 60) (c5))))))))))))))))
def aiw:=fU [aT [af]] jl fun x=>J6 x.1.1
theorem Sj:bj 160 aiw:=fq an f160
def abF(p0:Int):Option iL:=cond (aj p0 3) (c9) (cond (aj p0 4) (c9) (cond (aj p0 5) (c17) (c5)))
def aiD:=fU [aT [af]] jl fun x=>abF x.1.1
theorem aaK:bj 161 aiD:=fq an f161
def zk(t0:S8)(t4 t5:Int):Rd Y24 Unit:=cond (aE t5 (ae t0)) (cond (aX t5 t0) (eA (t0,(bf .i64 (ak .i64 (yg .i64 t4 10) (dC .i64 (fh t0 t5))) 48),(ak .i64 t5 1),())) none) (eB (t0,t4,t5,()))
def Zl:=pG (aq (fE zk))
def O3(p0:S8):Option Y37:=(Ih p0).bind fun y1=>cond (cond (!y1.2.1.1) true (aE 18 (ae p0))) (c23) ((Zl p0 0 0).bind (Sum.elim (fun y2=>some ((),((y2.2.1,()),(true,()),()))) (fun _=>none)))
def s94:=fU [aT [.str]] [(false,[af]),(false,[.bool])] fun x=>O3 x.1.1
theorem afs:bj 94 s94:=fl (ac Ce an) [] [(0,⟨[.d 0 .str,.d 4 af,.d 5 af],aq (fE zk)⟩)] [] f94 (lp [0] (sc dV sn))
def Qf(p0:List R5)(p1 p2:Int):Option (Unit×(Y1×Y1×Y2×Unit)):=cond (cond (!(aj p2 2)) (!(aj p2 3)) false) (c24) ((Oc p0 p1 p2).bind fun y1=>(O3 y1.2.1.1).bind fun y2=>some ((),(y2.2.1,y1.2.2.1,y1.2.2.2.1,())))
def aiz:=fU [aT [q5],aT [af],aT [af]] [(false,[af]),(false,[af]),(false,[.bool])] fun x=>Qf x.1.1 x.2.1.1 x.2.2.1.1
theorem ahf:bj 162 aiz:=fq (ac NL (ac afs an)) f162
def vf(p0 p1 p2:Int):Option iA:=zR (cond (ck p1 p0) (ck p0 p2) false)
def s82:=fU [aT [af],aT [af],aT [af]] iN fun x=>vf x.1.1 x.2.1.1 x.2.2.1.1
theorem rK:bj 82 s82:=fq an f82
def tK(t0:S8)(t3:Int):Rd Y15 Y2:=cond (aE t3 (ae t0)) (cond (aX t3 t0) (let u1:=(fh t0 t3);cond (aE u1 32) (eC (false,())) (cond (aX t3 t0) (cond (aE 126 u1) (eC (false,())) (eA (t0,(ak .i64 t3 1),()))) none)) none) (eB (t0,t3,()))
def TL:=UQ (aq (Az tK))
def Ey(p0:S8):Option iA:=(TL p0 0).bind (Sum.elim (fun _=>c3) (fun y1=>some ((),(y1,()))))
def ajI:=fU [aT [.str]] iN fun x=>Ey x.1.1
theorem Zw:bj 163 ajI:=fl an [.d 2 .bool] [(0,⟨[.d 0 .str,.d 3 af],aq (Az tK)⟩)] [] f163 (lp [0] (sc dV sn))
def g80(p0:List R5)(p1 p2:Int):Option Y65:=(E4 p2).bind fun y1=>(J6 p2).bind fun y2=>cond (cond (aj y1.2.1.1 0) true (aE p1 0)) (c4) (let u1:=(abF y1.2.1.1);Option.bind u1 fun y3=>cond (aE 0 y3.2.1.1) (Option.bind u1 fun y4=>(Qf p0 p1 y4.2.1.1).bind fun y5=>cond (!y5.2.2.2.1.1) (c4) ((vf y5.2.1.1 1 y2.2.1.1).bind fun y6=>cond (!y6.2.1.1) (c4) (let u2:=(cond (aj y1.2.1.1 1) true (aj y1.2.1.1 3));cond u2 ((Oc p0 y5.2.2.1.1 y5.2.1.1).bind fun y7=>some ((),(y7.2.1,y7.2.2.1,y7.2.2.2.1,()))) (let u3:=(ae p0);cond (cond (aE u3 y5.2.2.1.1) true (aE (bf .i64 u3 y5.2.2.1.1) y5.2.1.1)) (c4) (let u4:=(ak .i64 y5.2.2.1.1 y5.2.1.1);let u5:=(eV y5.2.2.1.1 u4 p0);cond u5 (let u6:=(strOf (sub p0 y5.2.2.1.1 u4));(Ey u6).bind fun y7=>cond (!y7.2.1.1) (c4) (cond u5 (some ((),((u6,()),(u4,()),(true,()),()))) none)) none))))) (let u2:=(cond (aj y1.2.1.1 1) true (aj y1.2.1.1 3));cond u2 ((Oc p0 p1 y2.2.1.1).bind fun y4=>some ((),(y4.2.1,y4.2.2.1,y4.2.2.2.1,()))) (let u3:=(ae p0);cond (cond (aE u3 p1) true (aE (bf .i64 u3 p1) y2.2.1.1)) (c4) (let u4:=(ak .i64 p1 y2.2.1.1);let u5:=(eV p1 u4 p0);cond u5 (let u6:=(strOf (sub p0 p1 u4));(Ey u6).bind fun y4=>cond (!y4.2.1.1) (c4) (cond u5 (some ((),((u6,()),(u4,()),(true,()),()))) none)) none))))
def s80:=fU [aT [q5],aT [af],aT [af]] WH fun x=>g80 x.1.1 x.2.1.1 x.2.2.1.1
theorem aiZ:bj 80 s80:=fq (ac NL (ac Gc (ac Sj (ac aaK (ac ahf (ac rK (ac Zw an))))))) f80
def BC(t0:List R5)(t8:Int)(t35:List R3)(t36 t37:Int)(b2 b9:S8×(List fS)×Unit):Rd ((List R5)×Int×(List R3)×Int×Int×xQ×xQ×Unit) Y40:=cond (aE t37 t36) (cond (aX t37 t35) ((g80 t0 t8 (gt d3 t35 t37).1).bind fun y1=>cond (!y1.2.2.2.1.1) (eC (3,([],[],()),())) (cond (bl 24 b9.2.1 [((gt d3 t35 t37).1,y1.2.1.1,())]) (eA (t0,y1.2.2.1.1,t35,t36,(ak .i64 t37 1),b2,(b9.1,(fQ b9.2.1 [((gt d3 t35 t37).1,y1.2.1.1,())]),()),())) none)) none) (eB (t0,t8,t35,t36,t37,b2,b9,()))
def aar:=cu7 (aq (CD BC))
def g43(p0:List R5):Option (Unit×(xQ×Y1×Unit)):=(Oc p0 0 4).bind fun y1=>cond (!y1.2.2.2.1.1) (some ((),(([],[],()),(1,()),()))) ((g79 p0).bind fun y2=>cond (!y2.2.2.2.1.1) (c25) ((aar p0 y2.2.2.1.1 y2.2.1.1 (ae y2.2.1.1) 0 ([],[],()) (y1.2.1.1,[],())).bind (Sum.elim (fun y3=>cond (!(aj y3.2.1 (ae y3.1))) (c26) (some ((),(y3.2.2.2.2.2.2.1,(0,()),())))) (fun y3=>some ((),(y3.2.1,(y3.1,()),()))))))
def s43:=fU [aT [q5]] [(true,[.str,eJ]),(false,[af])] fun x=>g43 x.1.1
theorem adm:bj 43 s43:=fl (ac NL (ac aki (ac aiZ an))) [.d 3 af,.box 2 [(false,.str),(true,eJ)]] [(0,⟨[.d 0 q5,.d 8 af,.own 35 q3,.d 36 af,.d 37 af,.box 2 [(false,.str),(true,eJ)],.box 9 [(false,.str),(true,eJ)]],aq (CD BC)⟩)] [] f43 (lp [0] (sc dV sn))
def xm(t0:S8)(t3:Int)(t4:Bool)(t5:Int):Rd (S8×Int×Bool×Int×Unit) Unit:=cond (ck 0 t5) (cond (aX t5 t0) (cond t4 (let u1:=(bf .i64 (dC .i64 (fh t0 t5)) 48);let u2:=(yg .i64 2 u1);cond (aE 9 u2) (let u3:=(bf .i64 t5 1);eA (t0,(eH (ak .i64 t3 (bf .i64 u2 9)) 10),(!t4),u3,())) (let u3:=(bf .i64 t5 1);eA (t0,(eH (ak .i64 t3 u2) 10),(!t4),u3,()))) (let u1:=(bf .i64 (dC .i64 (fh t0 t5)) 48);let u2:=(bf .i64 t5 1);eA (t0,(eH (ak .i64 t3 u1) 10),(!t4),u2,()))) none) (eB (t0,t3,t4,t5,()))
def RR:=rE (aq (eo xm))
def VM(p0:S8):Option iL:=(Ih p0).bind fun y1=>cond (!y1.2.1.1) (c2) ((RR p0 0 true (bf .i64 (ae p0) 1)).bind (Sum.elim (fun y2=>zR (eH (bf .i64 10 y2.2.1) 10)) (fun _=>none)))
def ajm:=fU [aT [.str]] jl fun x=>VM x.1.1
theorem ahI:bj 269 ajm:=fl (ac Ce an) [] [(0,⟨[.d 0 .str,.d 3 af,.d 4 .bool,.d 5 af],aq (eo xm)⟩)] [] f269 (lp [0] (sc dV sn))
def X6(p0:S8):Option iA:=(Ih p0).bind fun y1=>let u1:=(ae p0);cond (cond (!y1.2.1.1) true (aE u1 2)) (c0) (let u2:=(bf .i64 u1 1);cond (eV 0 u2 p0) ((VM (sub p0 0 u2)).bind fun y2=>cond (aX u2 p0) (zR (aj y2.2.1.1 (bf .i64 (dC .i64 (fh p0 u2)) 48))) none) none)
def akw:=fU [aT [.str]] iN fun x=>X6 x.1.1
theorem aht:bj 228 akw:=fq (ac Ce (ac ahI an)) f228
def wV(p0:S8):Option iA:=cond (ck (ae p0) 19) ((X6 p0).bind fun y1=>some ((),(y1.2.1,()))) (c0)
def ake:=fU [aT [.str]] iN fun x=>wV x.1.1
theorem Zo:bj 164 ake:=fq (ac aht an) f164
def EY(p0:Int):Option iA:=zR (cond (ck 0 p0) (ck p0 4611686018427387904) false)
def ajF:=fU [aT [af]] iN fun x=>EY x.1.1
theorem Hi:bj 165 ajF:=fq an f165
def sE(t0:S8)(t3:Int):Rd Y15 Y2:=cond (aE t3 (ae t0)) (cond (aX t3 t0) (let u1:=(fh t0 t3);cond (aE u1 48) (cond (aX t3 t0) (cond (aE u1 97) (eC (false,())) (cond (aX t3 t0) (cond (aE 122 u1) (eC (false,())) (eA (t0,(ak .i64 t3 1),()))) none)) none) (cond (aX t3 t0) (cond (aE 57 u1) (cond (aX t3 t0) (cond (aE u1 97) (eC (false,())) (cond (aX t3 t0) (cond (aE 122 u1) (eC (false,())) (eA (t0,(ak .i64 t3 1),()))) none)) none) (eA (t0,(ak .i64 t3 1),()))) none)) none) (eB (t0,t3,()))
def Qr:=UQ (aq (Az sE))
def M6(p0:S8):Option iA:=(Qr p0 0).bind (Sum.elim (fun y1=>(vf (ae y1.1) 1 6).bind fun y2=>some ((),(y2.2.1,()))) (fun y1=>some ((),(y1,()))))
def aiH:=fU [aT [.str]] iN fun x=>M6 x.1.1
theorem SB:bj 176 aiH:=fl (ac rK an) [.d 2 .bool] [(0,⟨[.d 0 .str,.d 3 af],aq (Az sE)⟩)] [] f176 (lp [0] (sc dV sn))
def Ls(p0:Int):Option iA:=(vf p0 0 1000000000).bind fun y1=>some ((),(y1.2.1,()))
def s45:=fU [aT [af]] iN fun x=>Ls x.1.1
theorem uc:bj 45 s45:=fq (ac rK an) f45
def W5(p0:S8×Int×Int×Unit):Option iA:=(M6 p0.1).bind fun y1=>cond y1.2.1.1 ((vf p0.2.1 1 9007199254740992).bind fun y2=>cond y2.2.1.1 ((Ls p0.2.2.1).bind fun y3=>some ((),(y3.2.1,()))) (c0)) (c0)
def alb:=fU [dL [.str,af,af]] iN fun x=>W5 x.1
theorem af1:bj 229 alb:=fq (ac rK (ac SB (ac uc an))) f229
def sP(t0 t5:List bz)(t6 t7:Int):Rd ((List bz)×(List bz)×Int×Int×Unit) Y2:=cond (aE t7 t6) (cond (aX t7 t5) (let u1:=(gt d192 t5 t7);(W5 u1).bind fun y1=>cond (!y1.2.1.1) (eC (false,())) (cond (aE 0 t7) (let u2:=(bf .i64 t7 1);cond (aX u2 t0) (cond (!(BR (gt d192 t0 u2).1 u1.1)) (eC (false,())) (eA (t0,t5,t6,(ak .i64 t7 1),()))) none) (eA (t0,t5,t6,(ak .i64 t7 1),())))) none) (eB (t0,t5,t6,t7,()))
def QN:=rE (aq (eo sP))
def Jl(p0:List bz):Option iA:=(QN p0 p0 (ae p0) 0).bind (Sum.elim (fun y1=>zR (ck (ae y1.1) 4)) (fun y1=>some ((),(y1,()))))
def ajJ:=fU [aT [bH]] iN fun x=>Jl x.1.1
theorem YI:bj 166 ajJ:=fl (ac af1 an) [.d 2 .bool] [(0,⟨[.d 0 bH,.d 5 bH,.d 6 af,.d 7 af],aq (eo sP)⟩)] [] f166 (lp [0] (sc dV sn))
def r9(t32 t33:Int)(b1:Int×Int×(List R3)×(List R3)×Unit):Rd (Int×Int×Y34×Unit) Y2:=cond (aE t33 t32) (cond (aX t33 b1.2.2.1) ((EY (gt d3 b1.2.2.1 t33).1).bind fun y1=>cond (!y1.2.1.1) (eC (false,())) (cond (aX t33 b1.2.2.2.1) ((EY (gt d3 b1.2.2.2.1 t33).1).bind fun y2=>cond (!y2.2.1.1) (eC (false,())) (eA (t32,(ak .i64 t33 1),b1,()))) none)) none) (eB (t32,t33,b1,()))
def RB:=pG (aq (fE r9))
def GJ(p0:Int×Int×(List R3)×(List R3)×Unit):Option iA:=(vf p0.1 1 1000).bind fun y1=>cond (!y1.2.1.1) (c0) (let u1:=(ae p0.2.2.1);(vf u1 1 8).bind fun y2=>cond (cond (!y2.2.1.1) true (!(aj (ae p0.2.2.2.1) u1))) (c0) ((Ls p0.2.1).bind fun y3=>cond (!y3.2.1.1) (c0) ((RB u1 0 p0).bind (Sum.elim (fun _=>c3) (fun y4=>some ((),(y4,())))))))
def aiO:=fU [dL [af,af,q3,q3]] iN fun x=>GJ x.1
theorem LM:bj 167 aiO:=fl (ac rK (ac Hi (ac uc an))) [.d 2 .bool] [(0,⟨[.d 32 af,.d 33 af,.box 1 [(false,.int .i64),(false,.int .i64),(false,q3),(false,q3)]],aq (fE r9)⟩)] [] f167 (lp [0] (sc dV sn))
def WY(p0:S8×S8×(List R5)×Unit):Option iA:=(Ih p0.1).bind fun y1=>cond (cond y1.2.1.1 (aj (ae p0.1) 6) false) ((Ih p0.2.1).bind fun y2=>cond (cond y2.2.1.1 (aj (ae p0.2.1) 4) false) ((vf (ae p0.2.2.1) 1 200).bind fun y3=>some ((),(y3.2.1,()))) (c0)) (c0)
def aim:=fU [dL [.str,.str,q5]] iN fun x=>WY x.1
theorem aee:bj 185 aim:=fq (ac Ce (ac rK an)) f185
def Bx(t0 t7:List ch)(t8 t9:Int)(t19:List ch)(t20 t21:Int)(b4:S8×S8×(List R5)×Unit):Rd ((List ch)×(List ch)×Int×Int×(List ch)×Int×Int×jy×Unit) Y2:=cond (aE t21 t20) (cond (aX t21 t19) (let u1:=(gt d100 t19 t21);cond (cond (bF u1.1 b4.1) (bF u1.2.1 b4.2.1) false) (eC (false,())) (eA (t0,t7,t8,t9,t19,t20,(ak .i64 t21 1),b4,()))) none) (eB (t0,t7,t8,t9,t19,t20,t21,b4,()))
def YZ:=cu8 (aq (Xe Bx))
def zT(t0 t7:List ch)(t8 t9:Int):Rd Y36 Y2:=cond (aE t9 t8) (cond (aX t9 t7) (let u1:=(gt d100 t7 t9);(WY u1).bind fun y1=>cond (!y1.2.1.1) (eC (false,())) (cond (eV 0 t9 t0) (let u2:=(sub t0 0 t9);(YZ t0 t7 t8 t9 u2 (ae u2) 0 u1).bind (Sum.elim (fun y2=>eA (y2.1,y2.2.1,y2.2.2.1,(ak .i64 y2.2.2.2.1 1),())) (fun y2=>eC (y2.1,())))) none)) none) (eB (t0,t7,t8,t9,()))
def Z7:=rE (aq (eo zT))
def g99(p0:List ch):Option iA:=(Z7 p0 p0 (ae p0) 0).bind (Sum.elim (fun y1=>zR (ck (ae y1.1) 6)) (fun y1=>some ((),(y1,()))))
def s99:=fU [aT [cl]] iN fun x=>g99 x.1.1
theorem aeh:bj 99 s99:=fl (ac aee an) [.d 2 .bool] [(2,⟨[.d 0 cl,.d 7 cl,.d 8 af,.d 9 af,.d 19 cl,.d 20 af,.d 21 af,.box 4 [(false,.str),(false,.str),(false,q5)]],aq (Xe Bx)⟩),(0,⟨[.d 0 cl,.d 7 cl,.d 8 af,.d 9 af],aq (eo zT)⟩)] [] f99 (lp [0] (sc (lp [2] (sc dV sn)) sn))
def Qz(p0 p1 p2:Int):Option iL:=cond (aE p0 p1) (zR p1) (cond (aE p2 p0) (zR p2) (zR p0))
def ajd:=fU [aT [af],aT [af],aT [af]] jl fun x=>Qz x.1.1 x.2.1.1 x.2.2.1.1
theorem agj:bj 231 ajd:=fq an f231
def acg(p0 p1:Int):Option Y37:=(EY p0).bind fun y1=>cond (!y1.2.1.1) (c23) ((EY p1).bind fun y2=>cond (cond (!y2.2.1.1) true (aE (bf .i64 4611686018427387904 p1) p0)) (c23) (some ((),(((ak .i64 p0 p1),()),(true,()),()))))
def ajG:=fU [aT [af],aT [af]] [(false,[af]),(false,[.bool])] fun x=>acg x.1.1 x.2.1.1
theorem aeR:bj 230 ajG:=fq (ac Hi an) f230
def Ba(p0 p1:Int):Option iL:=(Qz p0 0 4611686018427387904).bind fun y1=>(Qz p1 0 4611686018427387904).bind fun y2=>(acg y1.2.1.1 y2.2.1.1).bind fun y3=>cond (!y3.2.2.1.1) (c28) (some ((),(y3.2.1,())))
def ai2:=fU [aT [af],aT [af]] jl fun x=>Ba x.1.1 x.2.1.1
theorem Hw:bj 168 ai2:=fq (ac agj (ac aeR an)) f168
def sG(t3:Int)(t6:List bz)(t7 t8:Int):Rd (Int×(List bz)×Int×Int×Unit) Unit:=cond (aE t8 t7) (cond (aX t8 t6) ((Ba t3 (gt d192 t6 t8).2.1).bind fun y1=>eA (y1.2.1.1,t6,t7,(ak .i64 t8 1),())) none) (eB (t3,t6,t7,t8,()))
def SN:=rE (aq (eo sG))
def Ql(p0:List bz):Option iL:=(SN 0 p0 (ae p0) 0).bind (Sum.elim (fun y1=>zR y1.1) (fun _=>none))
def ajP:=fU [aT [bH]] jl fun x=>Ql x.1.1
theorem Zg:bj 169 ajP:=fl (ac Hw an) [] [(0,⟨[.d 3 af,.d 6 bH,.d 7 af,.d 8 af],aq (eo sG)⟩)] [] f169 (lp [0] (sc dV sn))
def UM(p0:S8×Int×Int×Int×Int×(List bz)×Int×Int×(List R3)×(List R3)×(List ch)×Unit):Option iA:=(wV p0.1).bind fun y1=>cond (!y1.2.1.1) (c0) ((vf p0.2.1 0 9007199254740992).bind fun y2=>cond (!y2.2.1.1) (c0) ((vf p0.2.2.2.1 0 1000).bind fun y3=>cond (!y3.2.1.1) (c0) ((vf p0.2.2.2.2.1 0 9007199254740992).bind fun y4=>cond (!y4.2.1.1) (c0) ((EY p0.2.2.1).bind fun y5=>cond (!y5.2.1.1) (c0) ((Jl p0.2.2.2.2.2.1).bind fun y6=>cond y6.2.1.1 ((GJ (p0.2.2.2.2.2.2.1,p0.2.2.2.2.2.2.2.1,p0.2.2.2.2.2.2.2.2.1,p0.2.2.2.2.2.2.2.2.2.1,())).bind fun y7=>cond y7.2.1.1 ((g99 p0.2.2.2.2.2.2.2.2.2.2.1).bind fun y8=>cond y8.2.1.1 ((Ql p0.2.2.2.2.2.1).bind fun y9=>(Ba p0.2.2.1 y9.2.1.1).bind fun iU=>zR (ck iU.2.1.1 p0.2.1)) (c0)) (c0)) (c0))))))
def s81:=fU [dL [.str,af,af,af,af,bH,af,af,q3,q3,cl]] iN fun x=>UM x.1
theorem ER:bj 81 s81:=fq (ac rK (ac Zo (ac Hi (ac YI (ac LM (ac aeh (ac Hw (ac Zg an)))))))) f81
def BG(t6:List gH)(t7 t8:Int)(b1:(List gH)×Unit):Rd ((List gH)×Int×Int×Y6×Unit) Y2:=cond (aE t8 t7) (cond (aX t8 t6) (let u1:=(gt d94 t6 t8);(UM u1).bind fun y1=>cond (!y1.2.1.1) (eC (false,())) (cond (aE 0 t8) (let u2:=(bf .i64 t8 1);cond (aX u2 b1.1) (cond (!(BR (gt d94 b1.1 u2).1 u1.1)) (eC (false,())) (eA (t6,t7,(ak .i64 t8 1),b1,()))) none) (eA (t6,t7,(ak .i64 t8 1),b1,())))) none) (eB (t6,t7,t8,b1,()))
def Z8:=rE (aq (eo BG))
def g44(p0:(List gH)×Unit):Option iA:=(Z8 p0.1 (ae p0.1) 0 p0).bind (Sum.elim (fun y1=>zR (ck (ae y1.2.2.2.1.1) 6)) (fun y1=>some ((),(y1,()))))
def s44:=fU [dL [kn]] iN fun x=>g44 x.1
theorem TH:bj 44 s44:=fl (ac ER an) [.d 2 .bool] [(0,⟨[.d 6 kn,.d 7 af,.d 8 af,.box 1 [(false,kn)]],aq (eo BG)⟩)] [] f44 (lp [0] (sc dV sn))
def g46(p0:S8):Option Ea:=(Ih p0).bind fun y1=>let u1:=(ae p0);cond (cond (!y1.2.1.1) true (!(aj u1 4))) (c6) (cond (aX 2 p0) (let u2:=(fh p0 2);cond (aj (eH u2 2) 1) (c6) (cond (eV 0 2 p0) (cond (aX 2 p0) (let u3:=(sub p0 0 2);let u4:=(strOf [((ak .u8 u2 1),())]);cond (jL u3 u4) (cond (eV 3 u1 p0) (let u5:=(uy u3 u4);let u6:=(sub p0 3 u1);cond (jL u5 u6) (zR (uy u5 u6)) none) none) none) none) none)) none)
def s46:=fU [aT [.str]] Fh fun x=>g46 x.1.1
theorem Pr:bj 46 s46:=fq (ac Ce an) f46
def acN  : Option Y28:=c29
def ak3:=fU [] [(false,[.sl 9 kk9])] fun x=>acN 
theorem agd:bj 170 ak3:=fq an f170
def g83(p0:Int):Option Ea:=(acN).bind fun y1=>(vf p0 0 (bf .i64 (ae y1.2.1.1) 1)).bind fun y2=>cond (!y2.2.1.1) (c6) (cond (aX p0 y1.2.1.1) (some ((),((gt d9 y1.2.1.1 p0),()))) none)
def s83:=fU [aT [af]] Fh fun x=>g83 x.1.1
theorem agH:bj 83 s83:=fq (ac rK (ac agd an)) f83
def yk(p0:Int)(p1:S8):Option iA:=(J6 p0).bind fun y1=>(E4 p0).bind fun y2=>cond (aj y2.2.1.1 1) (let u1:=(Ih p1);Option.bind u1 fun y3=>let u2:=(ae p1);zR (cond y3.2.1.1 (aj u2 y1.2.1.1) false)) (cond (aj y2.2.1.1 2) (let u1:=(Ey p1);Option.bind u1 fun y3=>let u2:=(ae p1);zR (cond y3.2.1.1 (aj u2 y1.2.1.1) false)) (cond (aj y2.2.1.1 3) (let u1:=(Ih p1);Option.bind u1 fun y3=>let u2:=(ae p1);zR (cond y3.2.1.1 (ck u2 y1.2.1.1) false)) (cond (aj y2.2.1.1 4) (let u1:=(Ey p1);Option.bind u1 fun y3=>cond y3.2.1.1 (let u2:=(ae p1);let u3:=(vf u2 1 y1.2.1.1);Option.bind u3 fun y4=>some ((),(y4.2.1,()))) (c0)) (cond (aj y2.2.1.1 5) (let u1:=(Ey p1);Option.bind u1 fun y3=>cond y3.2.1.1 (let u2:=(ae p1);let u3:=(vf u2 1 y1.2.1.1);Option.bind u3 fun y4=>some ((),(y4.2.1,()))) (c0)) (c0)))))
def ai1:=fU [aT [af],aT [.str]] iN fun x=>yk x.1.1 x.2.1.1
theorem KV:bj 171 ai1:=fq (ac Ce (ac Gc (ac Sj (ac rK (ac Zw an))))) f171
def za(t16:List fS)(t17 t18:Int)(b1:S8×(List fS)×Unit):Rd ((List fS)×Int×Int×xQ×Unit) Y2:=cond (aE t18 t17) (cond (aX t18 t16) (let u1:=(gt d117 t16 t18);(yk u1.1 u1.2.1).bind fun y1=>cond (!y1.2.1.1) (eC (false,())) (cond (aE 0 t18) (let u2:=(bf .i64 t18 1);cond (aX u2 b1.2.1) (cond (ck u1.1 (gt d117 b1.2.1 u2).1) (eC (false,())) (eA (t16,t17,(ak .i64 t18 1),b1,()))) none) (eA (t16,t17,(ak .i64 t18 1),b1,())))) none) (eB (t16,t17,t18,b1,()))
def Tz:=rE (aq (eo za))
def g84(p0:S8×(List fS)×Unit):Option iA:=(Ih p0.1).bind fun y1=>cond (cond (!y1.2.1.1) true (!(aj (ae p0.1) 4))) (c0) ((Tz p0.2.1 (ae p0.2.1) 0 p0).bind (Sum.elim (fun _=>c3) (fun y2=>some ((),(y2,())))))
def s84:=fU [dL [.str,eJ]] iN fun x=>g84 x.1
theorem XX:bj 84 s84:=fl (ac Ce (ac KV an)) [.d 2 .bool] [(0,⟨[.d 16 eJ,.d 17 af,.d 18 af,.box 1 [(false,.str),(false,eJ)]],aq (eo za)⟩)] [] f84 (lp [0] (sc dV sn))
def g47(p0:S8)(p1:Int):Option Y63:=(g46 p0).bind fun y1=>(g83 p1).bind fun y2=>(g84 (y1.2.1.1,[(39,y2.2.1.1,())],())).bind fun y3=>cond (!y3.2.1.1) (Xn) (some ((),((y1.2.1.1,[(39,y2.2.1.1,())],()),(true,()),())))
def s47:=fU [aT [.str],aT [af]] [(true,[.str,eJ]),(false,[.bool])] fun x=>g47 x.1.1 x.2.1.1
theorem adD:bj 47 s47:=fq (ac Pr (ac agH (ac XX an))) f47
def zP(t0:S8)(t4:List R5)(t5:Int):Rd (S8×(List R5)×Int×Unit) Unit:=cond (aE t5 (ae t0)) (cond (aX t5 t0) (let u1:=(ak .i64 t5 1);cond (aX u1 t0) (cond (bl 1 t4 [((dC .u8 (bf .i64 (ak .i64 (yg .i64 (bf .i64 (dC .i64 (fh t0 t5)) 48) 16) (dC .i64 (fh t0 u1))) 48)),())]) (eA (t0,(fQ t4 [((dC .u8 (bf .i64 (ak .i64 (yg .i64 (bf .i64 (dC .i64 (fh t0 t5)) 48) 16) (dC .i64 (fh t0 u1))) 48)),())]),(ak .i64 t5 2),())) none) none) none) (eB (t0,t4,t5,()))
def P7:=pG (aq (fE zP))
def UN(p0:S8):Option O0:=(Ih p0).bind fun y1=>let u1:=(ae p0);cond (cond (!y1.2.1.1) true (aE 38 u1)) (c7) (cond (aj (eH u1 2) 1) (cond (jL [48] p0) ((P7 (uy [48] p0) [] 0).bind (Sum.elim (fun y2=>some ((),((y2.2.1,()),(true,()),()))) (fun _=>none))) none) ((P7 p0 [] 0).bind (Sum.elim (fun y2=>some ((),((y2.2.1,()),(true,()),()))) (fun _=>none))))
def s85:=fU [aT [.str]] UW fun x=>UN x.1.1
theorem abd:bj 85 s85:=fl (ac Ce an) [] [(0,⟨[.d 0 .str,.own 4 q5,.d 5 af],aq (fE zP)⟩)] [] f85 (lp [0] (sc dV sn))
def zh(t3:List R5)(t7:List R3)(t8 t9:Int):Rd ((List R5)×(List R3)×Int×Int×Unit) Unit:=cond (aE t9 t8) (cond (aX t9 t7) ((vf (gt d3 t7 t9).1 1 64).bind fun y1=>cond y1.2.1.1 (let u1:=(bf .i64 (gt d3 t7 t9).1 1);let u2:=(kq .i64 u1 8);cond (aX u2 t3) (let u3:=(eH u1 8);cond (ck 0 u3) (cond (aX u2 t3) (let u4:=(ak .i64 t9 1);eA ((cZ t3 u2 ((UY .u8 (gt d5 t3 u2).1 (rH .u8 128 u3)),())),t7,t8,u4,())) none) none) none) (let u1:=(ak .i64 t9 1);eA (t3,t7,t8,u1,()))) none) (eB (t3,t7,t8,t9,()))
def agV:=rE (aq (eo zh))
def XP(p0:List R3):Option Y27:=(agV (wM d5 8) p0 (ae p0) 0).bind (Sum.elim (fun y1=>zR y1.1) (fun _=>none))
def s86:=fU [aT [q3]] w7R fun x=>XP x.1.1
theorem aiL:bj 86 s86:=fl (ac rK an) [] [(0,⟨[.own 3 q5,.d 7 q3,.d 8 af,.d 9 af],aq (eo zh)⟩)] [] f86 (lp [0] (sc dV sn))
def qJ(t0:Int)(t3:S8):Rd Y16 Unit:=cond (aE 9 t0) (let u1:=(strOf [((dC .u8 (ak .i64 48 (eH t0 10))),())]);cond (jL u1 t3) (eA ((kq .i64 t0 10),(uy u1 t3),())) none) (eB (t0,t3,()))
def PG:=UQ (aq (Az qJ))
def VW(p0:Int):Option Ea:=(EY p0).bind fun y1=>cond (!y1.2.1.1) (c6) ((PG p0 []).bind (Sum.elim (fun y2=>let u1:=(strOf [((dC .u8 (ak .i64 48 y2.1)),())]);cond (jL u1 y2.2.1) (zR (uy u1 y2.2.1)) none) (fun _=>none)))
def akf:=fU [aT [af]] Fh fun x=>VW x.1.1
theorem agv:bj 270 akf:=fl (ac Hi an) [] [(0,⟨[.d 0 af,.d 3 .str],aq (Az qJ)⟩)] [] f270 (lp [0] (sc dV sn))
def w7(t1:Int)(t5:S8):Rd Y16 Unit:=cond (aE (ae t5) t1) (cond (jL [48] t5) (eA (t1,(uy [48] t5),())) none) (eB (t1,t5,()))
def Qm:=UQ (aq (Az w7))
def MZ(p0 p1:Int):Option Ea:=(VW p0).bind fun y1=>cond (cond (cond (cond (bF y1.2.1.1 []) true (aE p1 1)) true (aE 18 p1)) true (aE p1 (ae y1.2.1.1))) (c6) ((Qm p1 y1.2.1.1).bind (Sum.elim (fun y2=>zR y2.2.1) (fun _=>none)))
def aip:=fU [aT [af],aT [af]] Fh fun x=>MZ x.1.1 x.2.1.1
theorem YW:bj 232 aip:=fl (ac agv an) [] [(0,⟨[.d 1 af,.d 5 .str],aq (Az w7)⟩)] [] f232 (lp [0] (sc dV sn))
def Ju(p0 p1:Int):Option O0:=cond (cond (!(aj p1 2)) (!(aj p1 3)) false) (c7) ((MZ p0 p1).bind fun y1=>(UN y1.2.1.1).bind fun y2=>some ((),(y2.2.1,y2.2.2.1,())))
def aiK:=fU [aT [af],aT [af]] UW fun x=>Ju x.1.1 x.2.1.1
theorem ahG:bj 172 aiK:=fq (ac abd (ac YW an)) f172
def g87(p0:Int)(p1:S8):Option O0:=(yk p0 p1).bind fun y1=>cond (!y1.2.1.1) (c7) ((E4 p0).bind fun y2=>let u1:=(abF y2.2.1.1);Option.bind u1 fun y3=>cond (aE 0 y3.2.1.1) (Option.bind u1 fun y4=>(Ju (ae p1) y4.2.1.1).bind fun y5=>let u2:=(cond (aj y2.2.1.1 1) true (aj y2.2.1.1 3));cond u2 (let u3:=(UN p1);Option.bind u3 fun y6=>cond (bl 1 y5.2.1.1 y6.2.1.1) (some ((),(((fQ y5.2.1.1 y6.2.1.1),()),(true,()),()))) none) (let u3:=(bytesOf p1);cond (bl 1 y5.2.1.1 u3) (some ((),(((fQ y5.2.1.1 u3),()),(true,()),()))) none)) (let u2:=(cond (aj y2.2.1.1 1) true (aj y2.2.1.1 3));cond u2 (let u3:=(UN p1);Option.bind u3 fun y4=>cond (bl 1 [] y4.2.1.1) (some ((),(((fQ [] y4.2.1.1),()),(true,()),()))) none) (let u3:=(bytesOf p1);cond (bl 1 [] u3) (some ((),(((fQ [] u3),()),(true,()),()))) none)))
def s87:=fU [aT [af],aT [.str]] UW fun x=>g87 x.1.1 x.2.1.1
theorem aiY:bj 87 s87:=fq (ac Gc (ac aaK (ac KV (ac abd (ac ahG an))))) f87
def zb(t4 t5:List R3)(t20:List fS)(t21 t22:Int)(b1:S8×(List fS)×Unit):Rd ((List R3)×(List R3)×(List fS)×Int×Int×xQ×Unit) Unit:=cond (aE t22 t21) (cond (aX t22 t20) (cond (aE 64 (gt d117 t20 t22).1) (cond (bl 8 t5 [((bf .i64 (gt d117 t20 t22).1 64),())]) (let u1:=(ak .i64 t22 1);eA (t4,(fQ t5 [((bf .i64 (gt d117 t20 t22).1 64),())]),t20,t21,u1,b1,())) none) (cond (bl 8 t4 [((gt d117 t20 t22).1,())]) (let u1:=(ak .i64 t22 1);eA ((fQ t4 [((gt d117 t20 t22).1,())]),t5,t20,t21,u1,b1,())) none)) none) (eB (t4,t5,t20,t21,t22,b1,()))
def Y3:=cu6 (aq (Fk zb))
def zG(t8:List R5)(t65:List fS)(t66 t67:Int):Rd ((List R5)×(List fS)×Int×Int×Unit) Unit:=cond (aE t67 t66) (cond (aX t67 t65) (let u1:=(gt d117 t65 t67);(g87 u1.1 u1.2.1).bind fun y1=>cond (bl 1 t8 y1.2.1.1) (eA ((fQ t8 y1.2.1.1),t65,t66,(ak .i64 t67 1),())) none) none) (eB (t8,t65,t66,t67,()))
def Ah:=rE (aq (eo zG))
def g48(p0:S8×(List fS)×Unit):Option O0:=(g84 p0).bind fun y1=>cond (!y1.2.1.1) (c7) ((Y3 [] [] p0.2.1 (ae p0.2.1) 0 p0).bind (Sum.elim (fun y2=>(UN y2.2.2.2.2.2.1.1).bind fun y3=>cond (aE 0 (ae y2.2.1)) (cond (bl 8 y2.1 [(1,())]) ((XP (fQ y2.1 [(1,())])).bind fun y4=>let u1:=(bl 1 y3.2.1.1 y4.2.1.1);cond u1 (cond (aE 0 (ae y2.2.1)) (let u2:=(XP y2.2.1);Option.bind u2 fun y5=>let u3:=(fQ y3.2.1.1 y4.2.1.1);let u4:=(bl 1 u3 y5.2.1.1);cond u4 (let u5:=(ae y2.2.2.2.2.2.1.2.1);let u6:=(Ah (fQ u3 y5.2.1.1) y2.2.2.2.2.2.1.2.1 u5 0);Option.bind u6 (Sum.elim (fun y6=>some ((),((y6.1,()),(true,()),()))) (fun _=>none))) none) (let u2:=(fQ y3.2.1.1 y4.2.1.1);let u3:=(ae y2.2.2.2.2.2.1.2.1);let u4:=(Ah u2 y2.2.2.2.2.2.1.2.1 u3 0);Option.bind u4 (Sum.elim (fun y5=>some ((),((y5.1,()),(true,()),()))) (fun _=>none)))) none) none) ((XP y2.1).bind fun y4=>let u1:=(bl 1 y3.2.1.1 y4.2.1.1);cond u1 (cond (aE 0 (ae y2.2.1)) (let u2:=(XP y2.2.1);Option.bind u2 fun y5=>let u3:=(fQ y3.2.1.1 y4.2.1.1);let u4:=(bl 1 u3 y5.2.1.1);cond u4 (let u5:=(ae y2.2.2.2.2.2.1.2.1);let u6:=(Ah (fQ u3 y5.2.1.1) y2.2.2.2.2.2.1.2.1 u5 0);Option.bind u6 (Sum.elim (fun y6=>some ((),((y6.1,()),(true,()),()))) (fun _=>none))) none) (let u2:=(fQ y3.2.1.1 y4.2.1.1);let u3:=(ae y2.2.2.2.2.2.1.2.1);let u4:=(Ah u2 y2.2.2.2.2.2.1.2.1 u3 0);Option.bind u4 (Sum.elim (fun y5=>some ((),((y5.1,()),(true,()),()))) (fun _=>none)))) none)) (fun _=>none)))
def s48:=fU [dL [.str,eJ]] UW fun x=>g48 x.1
theorem VK:bj 48 s48:=fl (ac XX (ac abd (ac aiL (ac aiY an)))) [] [(0,⟨[.own 4 q3,.own 5 q3,.d 20 eJ,.d 21 af,.d 22 af,.box 1 [(false,.str),(false,eJ)]],aq (Fk zb)⟩),(2,⟨[.own 8 q5,.d 65 eJ,.d 66 af,.d 67 af],aq (eo zG)⟩)] [] f48 (lp [0,2] (sc dV (sc dV sn)))
def g88(p0:S8):Option iA:=zR (cond (cond (bF p0 [48,49,48,48]) true (bF p0 [48,50,48,48])) true (bF p0 [48,50,50,48]))
def s88:=fU [aT [.str]] iN fun x=>g88 x.1.1
theorem ald:bj 88 s88:=fq an f88
def Bt(t1:Int)(t9:List fS)(t10 t11:Int):Rd (Int×(List fS)×Int×Int×Unit) (S8×Bool×Unit):=cond (aE t11 t10) (cond (aX t11 t9) (let u1:=(gt d117 t9 t11);cond (aj u1.1 t1) (eC (u1.2.1,true,())) (eA (t1,t9,t10,(ak .i64 t11 1),()))) none) (eB (t1,t9,t10,t11,()))
def YY:=rE (aq (eo Bt))
def AJ(p0:S8×(List fS)×Unit)(p1:Int):Option (Unit×(Bb×Y2×Unit)):=(YY p1 p0.2.1 (ae p0.2.1) 0).bind (Sum.elim (fun _=>some ((),(([],()),(false,()),()))) (fun y1=>some ((),((y1.1,()),(y1.2.1,()),()))))
def s89:=fU [dL [.str,eJ],aT [af]] [(false,[.str]),(false,[.bool])] fun x=>AJ x.1 x.2.1.1
theorem ahu:bj 89 s89:=fl an [.d 4 .str,.d 5 .bool] [(0,⟨[.d 1 af,.d 9 eJ,.d 10 af,.d 11 af],aq (eo Bt)⟩)] [] f89 (lp [0] (sc dV sn))
def Hz(p0:Int):Option iA:=(vf p0 1 8).bind fun y1=>some ((),(y1.2.1,()))
def aj5:=fU [aT [af]] iN fun x=>Hz x.1.1
theorem KP:bj 175 aj5:=fq (ac rK an) f175
def afR  : Option Y28:=zR [([],()),([48,49,48,48],()),([48,49,48,48],()),([48,50,50,48],()),([48,50,50,48],()),([48,50,50,48],()),([48,50,48,48],()),([48,49,48,48],()),([48,50,48,48],())]
def ajr:=fU [] [(false,[.sl 9 kk9])] fun x=>afR 
theorem agQ:bj 233 ajr:=fq an f233
def Of(p0:Int):Option Ea:=(Hz p0).bind fun y1=>cond (!y1.2.1.1) (c6) ((afR).bind fun y2=>cond (aX p0 y2.2.1.1) (some ((),((gt d9 y2.2.1.1 p0),()))) none)
def ajj:=fU [aT [af]] Fh fun x=>Of x.1.1
theorem Za:bj 173 ajj:=fq (ac KP (ac agQ an)) f173
def ae7  : Option Y28:=zR [([],()),([48,48],()),([48,50],()),([48,49],()),([48,48],()),([50,48],()),([52,48],()),([51,49],()),([57,48],())]
def aiI:=fU [] [(false,[.sl 9 kk9])] fun x=>ae7 
theorem agy:bj 234 aiI:=fq an f234
def abj(p0:Int):Option Ea:=(Hz p0).bind fun y1=>cond (!y1.2.1.1) (c6) ((ae7).bind fun y2=>cond (aX p0 y2.2.1.1) (some ((),((gt d9 y2.2.1.1 p0),()))) none)
def ajC:=fU [aT [af]] Fh fun x=>abj x.1.1
theorem afE:bj 174 ajC:=fq (ac KP (ac agy an)) f174
def HP(t0 t1:S8)(t5:Int):Rd (S8×S8×Int×Unit) Y1:=cond (ck t5 8) ((Of t5).bind fun y1=>cond (bF y1.2.1.1 t0) ((abj t5).bind fun y2=>cond (eV 0 2 t1) (cond (bF y2.2.1.1 (sub t1 0 2)) (eC (t5,())) (eA (t0,t1,(ak .i64 t5 1),()))) none) (eA (t0,t1,(ak .i64 t5 1),()))) (eB (t0,t1,t5,()))
def ZW:=pG (aq (fE HP))
def g90(p0 p1:S8):Option iL:=(ZW p0 p1 1).bind (Sum.elim (fun _=>c5) (fun y1=>some ((),(y1,()))))
def s90:=fU [aT [.str],aT [.str]] jl fun x=>g90 x.1.1 x.2.1.1
theorem ajE:bj 90 s90:=fl (ac Za (ac afE an)) [.d 4 af] [(0,⟨[.d 0 .str,.d 1 .str,.d 5 af],aq (fE HP)⟩)] [] f90 (lp [0] (sc dV sn))
def g91(p0:Int):Option iA:=(Hz p0).bind fun y1=>zR (cond y1.2.1.1 (aE p0 7) false)
def s91:=fU [aT [af]] iN fun x=>g91 x.1.1
theorem agz:bj 91 s91:=fq (ac KP an) f91
def KB(t0:S8)(t3:Int):Rd Y15 Unit:=cond (aE 0 t3) (let u1:=(bf .i64 t3 1);cond (aX u1 t0) (cond (aj (fh t0 u1) 32) (eA (t0,u1,())) (eB (t0,t3,()))) none) (eB (t0,t3,()))
def aaJ:=UQ (aq (Az KB))
def g92(p0:S8):Option Ea:=(aaJ p0 (ae p0)).bind (Sum.elim (fun y1=>cond (eV 0 y1.2.1 y1.1) (zR (sub y1.1 0 y1.2.1)) none) (fun _=>none))
def s92:=fU [aT [.str]] Fh fun x=>g92 x.1.1
theorem akt:bj 92 s92:=fl an [] [(0,⟨[.d 0 .str,.d 3 af],aq (Az KB)⟩)] [] f92 (lp [0] (sc dV sn))
def g93(p0:Int):Option iA:=(vf p0 1 4).bind fun y1=>some ((),(y1.2.1,()))
def s93:=fU [aT [af]] iN fun x=>g93 x.1.1
theorem aeI:bj 93 s93:=fq (ac rK an) f93
def BY(p0:Int×S8×S8×S8×S8×S8×Int×Int×Unit):Option iA:=(Hz p0.1).bind fun y1=>cond (!y1.2.1.1) (c0) ((Of p0.1).bind fun y2=>cond (!(bF p0.2.2.2.2.2.1 y2.2.1.1)) (c0) ((wV p0.2.1).bind fun y3=>cond (!y3.2.1.1) (c0) ((Ih p0.2.2.2.2.1).bind fun y4=>cond (cond (!y4.2.1.1) true (!(aj (ae p0.2.2.2.2.1) 6))) (c0) (let u1:=(g91 p0.1);Option.bind u1 fun y5=>cond y5.2.1.1 ((M6 p0.2.2.2.1).bind fun y6=>cond (!y6.2.1.1) (c0) (Option.bind u1 fun y7=>cond (cond (!y7.2.1.1) (!(bF p0.2.2.2.1 [])) false) (c0) (let u2:=(g93 p0.1);Option.bind u2 fun y8=>cond y8.2.1.1 (let u3:=(vf p0.2.2.2.2.2.2.1 0 999999999999);Option.bind u3 fun y9=>cond (!y9.2.1.1) (c0) (Option.bind u2 fun iU=>cond (cond (!iU.2.1.1) (!(aj p0.2.2.2.2.2.2.1 0)) false) (c0) (cond (aj p0.1 1) (let u4:=(vf p0.2.2.2.2.2.2.2.1 0 9999);Option.bind u4 fun ln=>cond (!ln.2.1.1) (c0) (let u5:=(cond (!(aj p0.1 1)) (!(aj p0.2.2.2.2.2.2.2.1 0)) false);cond u5 (c0) (cond (aj p0.1 6) (let u6:=(wV p0.2.2.1);Option.bind u6 fun qR=>cond qR.2.1.1 (c3) (zR (cond (!(aj p0.1 6)) (bF p0.2.2.1 []) false))) (zR (cond (!(aj p0.1 6)) (bF p0.2.2.1 []) false))))) (let u4:=(cond (!(aj p0.1 1)) (!(aj p0.2.2.2.2.2.2.2.1 0)) false);cond u4 (c0) (cond (aj p0.1 6) (let u5:=(wV p0.2.2.1);Option.bind u5 fun ln=>cond ln.2.1.1 (c3) (zR (cond (!(aj p0.1 6)) (bF p0.2.2.1 []) false))) (zR (cond (!(aj p0.1 6)) (bF p0.2.2.1 []) false))))))) (Option.bind u2 fun y9=>let u3:=(cond (!y9.2.1.1) (!(aj p0.2.2.2.2.2.2.1 0)) false);cond u3 (c0) (cond (aj p0.1 1) (let u4:=(vf p0.2.2.2.2.2.2.2.1 0 9999);Option.bind u4 fun iU=>cond (!iU.2.1.1) (c0) (let u5:=(cond (!(aj p0.1 1)) (!(aj p0.2.2.2.2.2.2.2.1 0)) false);cond u5 (c0) (cond (aj p0.1 6) (let u6:=(wV p0.2.2.1);Option.bind u6 fun ln=>cond ln.2.1.1 (c3) (zR (cond (!(aj p0.1 6)) (bF p0.2.2.1 []) false))) (zR (cond (!(aj p0.1 6)) (bF p0.2.2.1 []) false))))) (let u4:=(cond (!(aj p0.1 1)) (!(aj p0.2.2.2.2.2.2.2.1 0)) false);cond u4 (c0) (cond (aj p0.1 6) (let u5:=(wV p0.2.2.1);Option.bind u5 fun iU=>cond iU.2.1.1 (c3) (zR (cond (!(aj p0.1 6)) (bF p0.2.2.1 []) false))) (zR (cond (!(aj p0.1 6)) (bF p0.2.2.1 []) false))))))))) (Option.bind u1 fun y6=>cond (cond (!y6.2.1.1) (!(bF p0.2.2.2.1 [])) false) (c0) (let u2:=(g93 p0.1);Option.bind u2 fun y7=>cond y7.2.1.1 (let u3:=(vf p0.2.2.2.2.2.2.1 0 999999999999);Option.bind u3 fun y8=>cond (!y8.2.1.1) (c0) (Option.bind u2 fun y9=>let u4:=(cond (!y9.2.1.1) (!(aj p0.2.2.2.2.2.2.1 0)) false);cond u4 (c0) (cond (aj p0.1 1) (let u5:=(vf p0.2.2.2.2.2.2.2.1 0 9999);Option.bind u5 fun iU=>cond (!iU.2.1.1) (c0) (let u6:=(cond (!(aj p0.1 1)) (!(aj p0.2.2.2.2.2.2.2.1 0)) false);cond u6 (c0) (cond (aj p0.1 6) (let u7:=(wV p0.2.2.1);Option.bind u7 fun ln=>cond ln.2.1.1 (c3) (zR (cond (!(aj p0.1 6)) (bF p0.2.2.1 []) false))) (zR (cond (!(aj p0.1 6)) (bF p0.2.2.1 []) false))))) (let u5:=(cond (!(aj p0.1 1)) (!(aj p0.2.2.2.2.2.2.2.1 0)) false);cond u5 (c0) (cond (aj p0.1 6) (let u6:=(wV p0.2.2.1);Option.bind u6 fun iU=>cond iU.2.1.1 (c3) (zR (cond (!(aj p0.1 6)) (bF p0.2.2.1 []) false))) (zR (cond (!(aj p0.1 6)) (bF p0.2.2.1 []) false))))))) (Option.bind u2 fun y8=>cond (cond (!y8.2.1.1) (!(aj p0.2.2.2.2.2.2.1 0)) false) (c0) (cond (aj p0.1 1) (let u3:=(vf p0.2.2.2.2.2.2.2.1 0 9999);Option.bind u3 fun y9=>cond (!y9.2.1.1) (c0) (let u4:=(cond (!(aj p0.1 1)) (!(aj p0.2.2.2.2.2.2.2.1 0)) false);cond u4 (c0) (cond (aj p0.1 6) (let u5:=(wV p0.2.2.1);Option.bind u5 fun iU=>cond iU.2.1.1 (c3) (zR (cond (!(aj p0.1 6)) (bF p0.2.2.1 []) false))) (zR (cond (!(aj p0.1 6)) (bF p0.2.2.1 []) false))))) (let u3:=(cond (!(aj p0.1 1)) (!(aj p0.2.2.2.2.2.2.2.1 0)) false);cond u3 (c0) (cond (aj p0.1 6) (let u4:=(wV p0.2.2.1);Option.bind u4 fun y9=>cond y9.2.1.1 (c3) (zR (cond (!(aj p0.1 6)) (bF p0.2.2.1 []) false))) (zR (cond (!(aj p0.1 6)) (bF p0.2.2.1 []) false))))))))))))
def s95:=fU [dL [af,.str,.str,.str,.str,.str,af,af]] iN fun x=>BY x.1
theorem adG:bj 95 s95:=fq (ac Ce (ac rK (ac Zo (ac SB (ac KP (ac Za (ac agz (ac aeI an)))))))) f95
def g49(p0:S8×(List fS)×Unit):Option (Unit×(Y67×Y1×Unit)):=(g84 p0).bind fun y1=>cond (!y1.2.1.1) (c1) ((g88 p0.1).bind fun y2=>cond (!y2.2.1.1) (c30) ((AJ p0 3).bind fun y3=>cond (!y3.2.2.1.1) (c1) ((g90 p0.1 y3.2.1.1).bind fun y4=>(AJ p0 2).bind fun y5=>(AJ p0 11).bind fun y6=>(g91 y4.2.1.1).bind fun y7=>cond y7.2.1.1 ((AJ p0 38).bind fun y8=>(g92 y8.2.1.1).bind fun y9=>let u1:=(g93 y4.2.1.1);Option.bind u1 fun iU=>cond iU.2.1.1 (let u2:=(AJ p0 4);Option.bind u2 fun ln=>let u3:=(O3 ln.2.1.1);Option.bind u3 fun qR=>cond (aj y4.2.1.1 1) (let u4:=(AJ p0 14);Option.bind u4 fun Du=>(O3 Du.2.1.1).bind fun Pj=>cond (aj y4.2.1.1 6) (let u5:=(AJ p0 103);Option.bind u5 fun y15=>let u6:=(cond y3.2.2.1.1 ln.2.2.1.1 false);cond (!(cond u6 Du.2.2.1.1 false)) (c1) ((BY (y4.2.1.1,y5.2.1.1,y15.2.1.1,y9.2.1.1,y6.2.1.1,p0.1,qR.2.1.1,Pj.2.1.1,())).bind fun y16=>cond (!y16.2.1.1) (c1) (some ((),((y4.2.1.1,y5.2.1.1,y15.2.1.1,y9.2.1.1,y6.2.1.1,p0.1,qR.2.1.1,Pj.2.1.1,()),(0,()),()))))) (let u5:=(cond y3.2.2.1.1 ln.2.2.1.1 false);cond (!(cond u5 Du.2.2.1.1 false)) (c1) ((BY (y4.2.1.1,y5.2.1.1,[],y9.2.1.1,y6.2.1.1,p0.1,qR.2.1.1,Pj.2.1.1,())).bind fun y15=>cond (!y15.2.1.1) (c1) (some ((),((y4.2.1.1,y5.2.1.1,[],y9.2.1.1,y6.2.1.1,p0.1,qR.2.1.1,Pj.2.1.1,()),(0,()),())))))) (cond (aj y4.2.1.1 6) (let u4:=(AJ p0 103);Option.bind u4 fun Du=>let u5:=(cond y3.2.2.1.1 ln.2.2.1.1 false);cond (!u5) (c1) ((BY (y4.2.1.1,y5.2.1.1,Du.2.1.1,y9.2.1.1,y6.2.1.1,p0.1,qR.2.1.1,0,())).bind fun Pj=>cond (!Pj.2.1.1) (c1) (some ((),((y4.2.1.1,y5.2.1.1,Du.2.1.1,y9.2.1.1,y6.2.1.1,p0.1,qR.2.1.1,0,()),(0,()),()))))) (let u4:=(cond y3.2.2.1.1 ln.2.2.1.1 false);cond (!u4) (c1) ((BY (y4.2.1.1,y5.2.1.1,[],y9.2.1.1,y6.2.1.1,p0.1,qR.2.1.1,0,())).bind fun Du=>cond (!Du.2.1.1) (c1) (some ((),((y4.2.1.1,y5.2.1.1,[],y9.2.1.1,y6.2.1.1,p0.1,qR.2.1.1,0,()),(0,()),()))))))) (cond (aj y4.2.1.1 1) (let u2:=(AJ p0 14);Option.bind u2 fun ln=>let u3:=(O3 ln.2.1.1);Option.bind u3 fun qR=>cond (aj y4.2.1.1 6) (let u4:=(AJ p0 103);Option.bind u4 fun Du=>let u5:=(cond y3.2.2.1.1 ln.2.2.1.1 false);cond (!u5) (c1) ((BY (y4.2.1.1,y5.2.1.1,Du.2.1.1,y9.2.1.1,y6.2.1.1,p0.1,0,qR.2.1.1,())).bind fun Pj=>cond (!Pj.2.1.1) (c1) (some ((),((y4.2.1.1,y5.2.1.1,Du.2.1.1,y9.2.1.1,y6.2.1.1,p0.1,0,qR.2.1.1,()),(0,()),()))))) (let u4:=(cond y3.2.2.1.1 ln.2.2.1.1 false);cond (!u4) (c1) ((BY (y4.2.1.1,y5.2.1.1,[],y9.2.1.1,y6.2.1.1,p0.1,0,qR.2.1.1,())).bind fun Du=>cond (!Du.2.1.1) (c1) (some ((),((y4.2.1.1,y5.2.1.1,[],y9.2.1.1,y6.2.1.1,p0.1,0,qR.2.1.1,()),(0,()),())))))) (cond (aj y4.2.1.1 6) (let u2:=(AJ p0 103);Option.bind u2 fun ln=>cond (!y3.2.2.1.1) (c1) ((BY (y4.2.1.1,y5.2.1.1,ln.2.1.1,y9.2.1.1,y6.2.1.1,p0.1,0,0,())).bind fun qR=>cond (!qR.2.1.1) (c1) (some ((),((y4.2.1.1,y5.2.1.1,ln.2.1.1,y9.2.1.1,y6.2.1.1,p0.1,0,0,()),(0,()),()))))) (cond (!y3.2.2.1.1) (c1) ((BY (y4.2.1.1,y5.2.1.1,[],y9.2.1.1,y6.2.1.1,p0.1,0,0,())).bind fun ln=>cond (!ln.2.1.1) (c1) (some ((),((y4.2.1.1,y5.2.1.1,[],y9.2.1.1,y6.2.1.1,p0.1,0,0,()),(0,()),())))))))) (let u1:=(g93 y4.2.1.1);Option.bind u1 fun y8=>cond y8.2.1.1 (let u2:=(AJ p0 4);Option.bind u2 fun y9=>let u3:=(O3 y9.2.1.1);Option.bind u3 fun iU=>cond (aj y4.2.1.1 1) (let u4:=(AJ p0 14);Option.bind u4 fun ln=>let u5:=(O3 ln.2.1.1);Option.bind u5 fun qR=>cond (aj y4.2.1.1 6) (let u6:=(AJ p0 103);Option.bind u6 fun Du=>let u7:=(cond y3.2.2.1.1 y9.2.2.1.1 false);cond (!(cond u7 ln.2.2.1.1 false)) (c1) ((BY (y4.2.1.1,y5.2.1.1,Du.2.1.1,[],y6.2.1.1,p0.1,iU.2.1.1,qR.2.1.1,())).bind fun Pj=>cond (!Pj.2.1.1) (c1) (some ((),((y4.2.1.1,y5.2.1.1,Du.2.1.1,[],y6.2.1.1,p0.1,iU.2.1.1,qR.2.1.1,()),(0,()),()))))) (let u6:=(cond y3.2.2.1.1 y9.2.2.1.1 false);cond (!(cond u6 ln.2.2.1.1 false)) (c1) ((BY (y4.2.1.1,y5.2.1.1,[],[],y6.2.1.1,p0.1,iU.2.1.1,qR.2.1.1,())).bind fun Du=>cond (!Du.2.1.1) (c1) (some ((),((y4.2.1.1,y5.2.1.1,[],[],y6.2.1.1,p0.1,iU.2.1.1,qR.2.1.1,()),(0,()),())))))) (cond (aj y4.2.1.1 6) (let u4:=(AJ p0 103);Option.bind u4 fun ln=>let u5:=(cond y3.2.2.1.1 y9.2.2.1.1 false);cond (!u5) (c1) ((BY (y4.2.1.1,y5.2.1.1,ln.2.1.1,[],y6.2.1.1,p0.1,iU.2.1.1,0,())).bind fun qR=>cond (!qR.2.1.1) (c1) (some ((),((y4.2.1.1,y5.2.1.1,ln.2.1.1,[],y6.2.1.1,p0.1,iU.2.1.1,0,()),(0,()),()))))) (let u4:=(cond y3.2.2.1.1 y9.2.2.1.1 false);cond (!u4) (c1) ((BY (y4.2.1.1,y5.2.1.1,[],[],y6.2.1.1,p0.1,iU.2.1.1,0,())).bind fun ln=>cond (!ln.2.1.1) (c1) (some ((),((y4.2.1.1,y5.2.1.1,[],[],y6.2.1.1,p0.1,iU.2.1.1,0,()),(0,()),()))))))) (cond (aj y4.2.1.1 1) (let u2:=(AJ p0 14);Option.bind u2 fun y9=>let u3:=(O3 y9.2.1.1);Option.bind u3 fun iU=>cond (aj y4.2.1.1 6) (let u4:=(AJ p0 103);Option.bind u4 fun ln=>let u5:=(cond y3.2.2.1.1 y9.2.2.1.1 false);cond (!u5) (c1) ((BY (y4.2.1.1,y5.2.1.1,ln.2.1.1,[],y6.2.1.1,p0.1,0,iU.2.1.1,())).bind fun qR=>cond (!qR.2.1.1) (c1) (some ((),((y4.2.1.1,y5.2.1.1,ln.2.1.1,[],y6.2.1.1,p0.1,0,iU.2.1.1,()),(0,()),()))))) (let u4:=(cond y3.2.2.1.1 y9.2.2.1.1 false);cond (!u4) (c1) ((BY (y4.2.1.1,y5.2.1.1,[],[],y6.2.1.1,p0.1,0,iU.2.1.1,())).bind fun ln=>cond (!ln.2.1.1) (c1) (some ((),((y4.2.1.1,y5.2.1.1,[],[],y6.2.1.1,p0.1,0,iU.2.1.1,()),(0,()),())))))) (cond (aj y4.2.1.1 6) (let u2:=(AJ p0 103);Option.bind u2 fun y9=>cond (!y3.2.2.1.1) (c1) ((BY (y4.2.1.1,y5.2.1.1,y9.2.1.1,[],y6.2.1.1,p0.1,0,0,())).bind fun iU=>cond (!iU.2.1.1) (c1) (some ((),((y4.2.1.1,y5.2.1.1,y9.2.1.1,[],y6.2.1.1,p0.1,0,0,()),(0,()),()))))) (cond (!y3.2.2.1.1) (c1) ((BY (y4.2.1.1,y5.2.1.1,[],[],y6.2.1.1,p0.1,0,0,())).bind fun y9=>cond (!y9.2.1.1) (c1) (some ((),((y4.2.1.1,y5.2.1.1,[],[],y6.2.1.1,p0.1,0,0,()),(0,()),())))))))))))
def s49:=fU [dL [.str,eJ]] [(true,[af,.str,.str,.str,.str,.str,af,af]),(false,[af])] fun x=>g49 x.1
theorem adC:bj 49 s49:=fq (ac afs (ac XX (ac ald (ac ahu (ac ajE (ac agz (ac akt (ac aeI (ac adG an))))))))) f49
def EJ(t0:Int)(t1:S8):Rd Y16 Unit:=(J6 t0).bind fun y1=>cond (aE (ae t1) y1.2.1.1) ((E4 t0).bind fun y2=>cond (aj y2.2.1.1 1) (cond (jL [48] t1) (eA (t0,(uy [48] t1),())) none) (eB (t0,t1,()))) (eB (t0,t1,()))
def Qo:=UQ (aq (Az EJ))
def wH(t0:Int)(t1:S8):Rd Y16 Unit:=(J6 t0).bind fun y1=>cond (aE (ae t1) y1.2.1.1) ((E4 t0).bind fun y2=>cond (aj y2.2.1.1 2) (cond (jL t1 [32]) (eA (t0,(uy t1 [32]),())) none) (eB (t0,t1,()))) (eB (t0,t1,()))
def Rv:=UQ (aq (Az wH))
def X0(p0:Int)(p1:S8):Option Ea:=(Qo p0 p1).bind (Sum.elim (fun y1=>(Rv y1.1 y1.2.1).bind (Sum.elim (fun y2=>(yk y2.1 y2.2.1).bind fun y3=>cond (!y3.2.1.1) (c6) (zR y2.2.1)) (fun _=>none))) (fun _=>none))
def aiC:=fU [aT [af],aT [.str]] Fh fun x=>X0 x.1.1 x.2.1.1
theorem afv:bj 177 aiC:=fl (ac Gc (ac Sj (ac KV an))) [] [(0,⟨[.d 0 af,.d 1 .str],aq (Az EJ)⟩),(2,⟨[.d 0 af,.d 1 .str],aq (Az wH)⟩)] [] f177 (lp [0,2] (sc dV (sc dV sn)))
def Bp(t1:Int)(t2 t3:S8)(t11:Bool)(t34:List R3)(t35 t36:Int)(b4 b8 pX:S8×(List fS)×Unit):Rd (Int×S8×S8×Bool×(List R3)×Int×Int×xQ×xQ×xQ×Unit) Unit:=cond (aE t36 t35) (cond (aX t36 t34) ((AJ b4 (gt d3 t34 t36).1).bind fun y1=>cond (aj (gt d3 t34 t36).1 38) ((X0 38 t2).bind fun y2=>cond (cond (aj t1 0) (!(bF t2 [])) false) (cond t11 (let u1:=(yk (gt d3 t34 t36).1 y2.2.1.1);Option.bind u1 fun y3=>let u2:=(bl 24 pX.2.1 [((gt d3 t34 t36).1,y2.2.1.1,())]);cond u2 (let u3:=(ak .i64 t36 1);eA (t1,t2,t3,y3.2.1.1,t34,t35,u3,b4,b8,(pX.1,(fQ pX.2.1 [((gt d3 t34 t36).1,y2.2.1.1,())]),()),())) none) (let u1:=(bl 24 pX.2.1 [((gt d3 t34 t36).1,y2.2.1.1,())]);cond u1 (let u2:=(ak .i64 t36 1);eA (t1,t2,t3,false,t34,t35,u2,b4,b8,(pX.1,(fQ pX.2.1 [((gt d3 t34 t36).1,y2.2.1.1,())]),()),())) none)) (let u1:=(ak .i64 t36 1);eA (t1,t2,t3,t11,t34,t35,u1,b4,b8,pX,()))) (cond (aj (gt d3 t34 t36).1 39) ((g83 t1).bind fun y2=>cond t11 (let u1:=(yk (gt d3 t34 t36).1 y2.2.1.1);Option.bind u1 fun y3=>let u2:=(bl 24 pX.2.1 [((gt d3 t34 t36).1,y2.2.1.1,())]);cond u2 (let u3:=(ak .i64 t36 1);eA (t1,t2,t3,y3.2.1.1,t34,t35,u3,b4,b8,(pX.1,(fQ pX.2.1 [((gt d3 t34 t36).1,y2.2.1.1,())]),()),())) none) (let u1:=(bl 24 pX.2.1 [((gt d3 t34 t36).1,y2.2.1.1,())]);cond u1 (let u2:=(ak .i64 t36 1);eA (t1,t2,t3,false,t34,t35,u2,b4,b8,(pX.1,(fQ pX.2.1 [((gt d3 t34 t36).1,y2.2.1.1,())]),()),())) none)) (cond (aj (gt d3 t34 t36).1 54) (cond (!(bF t3 [])) (cond t11 ((yk (gt d3 t34 t36).1 t3).bind fun y2=>let u1:=(bl 24 pX.2.1 [((gt d3 t34 t36).1,t3,())]);cond u1 (let u2:=(ak .i64 t36 1);eA (t1,t2,t3,y2.2.1.1,t34,t35,u2,b4,b8,(pX.1,(fQ pX.2.1 [((gt d3 t34 t36).1,t3,())]),()),())) none) (let u1:=(bl 24 pX.2.1 [((gt d3 t34 t36).1,t3,())]);cond u1 (let u2:=(ak .i64 t36 1);eA (t1,t2,t3,false,t34,t35,u2,b4,b8,(pX.1,(fQ pX.2.1 [((gt d3 t34 t36).1,t3,())]),()),())) none)) (let u1:=(ak .i64 t36 1);eA (t1,t2,t3,t11,t34,t35,u1,b4,b8,pX,()))) (cond y1.2.2.1.1 (cond t11 ((yk (gt d3 t34 t36).1 y1.2.1.1).bind fun y2=>let u1:=(bl 24 pX.2.1 [((gt d3 t34 t36).1,y1.2.1.1,())]);cond u1 (let u2:=(ak .i64 t36 1);eA (t1,t2,t3,y2.2.1.1,t34,t35,u2,b4,b8,(pX.1,(fQ pX.2.1 [((gt d3 t34 t36).1,y1.2.1.1,())]),()),())) none) (let u1:=(bl 24 pX.2.1 [((gt d3 t34 t36).1,y1.2.1.1,())]);cond u1 (let u2:=(ak .i64 t36 1);eA (t1,t2,t3,false,t34,t35,u2,b4,b8,(pX.1,(fQ pX.2.1 [((gt d3 t34 t36).1,y1.2.1.1,())]),()),())) none)) (let u1:=(ak .i64 t36 1);eA (t1,t2,t3,t11,t34,t35,u1,b4,b8,pX,())))))) none) (eB (t1,t2,t3,t11,t34,t35,t36,b4,b8,pX,()))
def Zv:=ae1 (aq (Oi Bp))
def g96(p0:S8×(List fS)×Unit)(p1:Int)(p2 p3:S8):Option Y63:=(g46 p0.1).bind fun y1=>(g84 p0).bind fun y2=>cond (cond (!y2.2.1.1) true (bF y1.2.1.1 [])) (Xn) ((g83 p1).bind fun y3=>cond (bF y3.2.1.1 []) (Xn) ((Zv p1 p2 p3 true [(2,()),(3,()),(4,()),(7,()),(11,()),(37,()),(38,()),(39,()),(41,()),(49,()),(54,()),(102,()),(103,())] (ae [(2,()),(3,()),(4,()),(7,()),(11,()),(37,()),(38,()),(39,()),(41,()),(49,()),(54,()),(102,()),(103,())]) 0 p0 ([],[],()) (y1.2.1.1,[],())).bind (Sum.elim (fun y4=>cond (!y4.2.2.2.1) (Xn) (some ((),(y4.2.2.2.2.2.2.2.2.2.1,(true,()),())))) (fun _=>none))))
def s96:=fU [dL [.str,eJ],aT [af],aT [.str],aT [.str]] [(true,[.str,eJ]),(false,[.bool])] fun x=>g96 x.1 x.2.1.1 x.2.2.1.1 x.2.2.2.1.1
theorem ai4:bj 96 s96:=fl (ac Pr (ac agH (ac KV (ac XX (ac ahu (ac afv an)))))) [] [(0,⟨[.d 1 af,.d 2 .str,.d 3 .str,.d 11 .bool,.own 34 q3,.d 35 af,.d 36 af,.box 4 [(false,.str),(false,eJ)],.box 8 [(false,.str),(true,eJ)],.box 10 [(false,.str),(true,eJ)]],aq (Oi Bp)⟩)] [] f96 (lp [0] (sc dV sn))
def ZK(p0:S8×(List fS)×Unit)(p1:Int)(p2 p3:S8):Option Y27:=(g96 p0 p1 p2 p3).bind fun y1=>(g48 y1.2.1).bind fun y2=>some ((),(y2.2.1,()))
def s50:=fU [dL [.str,eJ],aT [af],aT [.str],aT [.str]] w7R fun x=>ZK x.1 x.2.1.1 x.2.2.1.1 x.2.2.2.1.1
theorem abE:bj 50 s50:=fq (ac VK (ac ai4 an)) f50
def A3(t1:S8)(t8:List gH)(t9 t10:Int):Rd (S8×(List gH)×Int×Int×Unit) Y1:=cond (aE t10 t9) (cond (aX t10 t8) (cond (bF (gt d94 t8 t10).1 t1) (eC (t10,())) (eA (t1,t8,t9,(ak .i64 t10 1),()))) none) (eB (t1,t8,t9,t10,()))
def aaG:=rE (aq (eo A3))
def g51(p0:(List gH)×Unit)(p1:S8):Option iL:=(aaG p1 p0.1 (ae p0.1) 0).bind (Sum.elim (fun _=>c2) (fun y1=>some ((),(y1,()))))
def s51:=fU [dL [kn],aT [.str]] jl fun x=>g51 x.1 x.2.1.1
theorem PV:bj 51 s51:=fl an [.d 4 af] [(0,⟨[.d 1 .str,.d 8 kn,.d 9 af,.d 10 af],aq (eo A3)⟩)] [] f51 (lp [0] (sc dV sn))
def zQ(t1 t2:S8)(t10:List ch)(t11 t12:Int):Rd (S8×S8×(List ch)×Int×Int×Unit) ((List R5)×Bool×Unit):=cond (aE t12 t11) (cond (aX t12 t10) (let u1:=(gt d100 t10 t12);cond (cond (bF u1.1 t1) (bF u1.2.1 t2) false) (cond (bl 1 [] u1.2.2.1) (eC ((fQ [] u1.2.2.1),true,())) none) (eA (t1,t2,t10,t11,(ak .i64 t12 1),()))) none) (eB (t1,t2,t10,t11,t12,()))
def YJ:=O2 (aq (pZ zQ))
def g52(p0:List ch)(p1 p2:S8):Option O0:=(YJ p1 p2 p0 (ae p0) 0).bind (Sum.elim (fun _=>c7) (fun y1=>some ((),((y1.1,()),(y1.2.1,()),()))))
def s52:=fU [aT [cl],aT [.str],aT [.str]] UW fun x=>g52 x.1.1 x.2.1.1 x.2.2.1.1
theorem adh:bj 52 s52:=fl an [.own 6 q5,.d 7 .bool] [(0,⟨[.d 1 .str,.d 2 .str,.d 10 cl,.d 11 af,.d 12 af],aq (pZ zQ)⟩)] [] f52 (lp [0] (sc dV sn))
def z7(p0:S8×Int×Int×Int×Int×(List bz)×Int×Int×(List R3)×(List R3)×(List ch)×Unit)(p1:S8)(p2:Int):Option iA:=(UM p0).bind fun y1=>cond y1.2.1.1 ((Ls p2).bind fun y2=>cond y2.2.1.1 ((M6 p1).bind fun y3=>some ((),(y3.2.1,()))) (c0)) (c0)
def aeF:=fU [dL [.str,af,af,af,af,bH,af,af,q3,q3,cl],aT [.str],aT [af]] iN fun x=>z7 x.1 x.2.1.1 x.2.2.1.1
theorem zH:bj 235 aeF:=fq (ac SB (ac uc (ac ER an))) f235
def abO(p0:S8×Int×Int×Unit)(p1:Int):Option iA:=zR (aE p1 p0.2.2.1)
def ajU:=fU [dL [.str,af,af],aT [af]] iN fun x=>abO x.1 x.2.1.1
theorem afp:bj 266 ajU:=fq an f266
def th(t1:Int)(t5 t9:List bz)(t10 t11:Int):Rd (Int×(List bz)×(List bz)×Int×Int×Unit) Unit:=cond (aE t11 t10) (cond (aX t11 t9) (let u1:=(gt d192 t9 t11);(abO u1 t1).bind fun y1=>cond y1.2.1.1 (cond (bl 32 t5 [u1]) (let u2:=(ak .i64 t11 1);eA (t1,(fQ t5 [u1]),t9,t10,u2,())) none) (let u2:=(ak .i64 t11 1);eA (t1,t5,t9,t10,u2,()))) none) (eB (t1,t5,t9,t10,t11,()))
def RG:=O2 (aq (pZ th))
def SI(p0:List bz)(p1:Int):Option Y32:=(RG p1 [] p0 (ae p0) 0).bind (Sum.elim (fun y1=>zR y1.2.1) (fun _=>none))
def aia:=fU [aT [bH],aT [af]] VF fun x=>SI x.1.1 x.2.1.1
theorem Zq:bj 219 aia:=fl (ac afp an) [] [(0,⟨[.d 1 af,.own 5 bH,.d 9 bH,.d 10 af,.d 11 af],aq (pZ th)⟩)] [] f219 (lp [0] (sc dV sn))
def Cd(p0:S8×Int×Int×Int×Int×(List bz)×Int×Int×(List R3)×(List R3)×(List ch)×Unit)(p1:Int):Option Y72:=(SY p0).bind fun y1=>(UM p0).bind fun y2=>cond y2.2.1.1 ((Ls p1).bind fun y3=>cond y3.2.1.1 ((SI p0.2.2.2.2.2.1 p1).bind fun y4=>some ((),((y1.2.1.1,y1.2.1.2.1,y1.2.1.2.2.1,y1.2.1.2.2.2.1,y1.2.1.2.2.2.2.1,y4.2.1.1,y1.2.1.2.2.2.2.2.2.1,y1.2.1.2.2.2.2.2.2.2.1,y1.2.1.2.2.2.2.2.2.2.2.1,y1.2.1.2.2.2.2.2.2.2.2.2.1,y1.2.1.2.2.2.2.2.2.2.2.2.2.1,()),()))) (some ((),(y1.2.1,())))) (some ((),(y1.2.1,())))
def ahA:=fU [dL [.str,af,af,af,af,bH,af,af,q3,q3,cl],aT [af]] w8R fun x=>Cd x.1 x.2.1.1
theorem x7:bj 145 ahA:=fq (ac XZ (ac uc (ac ER (ac Zq an)))) f145
def tl(t1:S8)(t7:List bz)(t8 t9:Int):Rd (S8×(List bz)×Int×Int×Unit) Y1:=cond (aE t9 t8) (cond (aX t9 t7) (cond (bF (gt d192 t7 t9).1 t1) (eC (t9,())) (eA (t1,t7,t8,(ak .i64 t9 1),()))) none) (eB (t1,t7,t8,t9,()))
def SH:=rE (aq (eo tl))
def Eu(p0:List bz)(p1:S8):Option iL:=(SH p1 p0 (ae p0) 0).bind (Sum.elim (fun _=>c2) (fun y1=>some ((),(y1,()))))
def agG:=fU [aT [bH],aT [.str]] jl fun x=>Eu x.1.1 x.2.1.1
theorem zS:bj 236 agG:=fl an [.d 4 af] [(0,⟨[.d 1 .str,.d 7 bH,.d 8 af,.d 9 af],aq (eo tl)⟩)] [] f236 (lp [0] (sc dV sn))
def Wp(p0:List bz)(p1:Int):Option iL:=(SI p0 p1).bind fun y1=>(Ql y1.2.1.1).bind fun y2=>some ((),(y2.2.1,()))
def ajO:=fU [aT [bH],aT [af]] jl fun x=>Wp x.1.1 x.2.1.1
theorem afl:bj 274 ajO:=fq (ac Zg (ac Zq an)) f274
def NS(p0:S8×Int×Int×Int×Int×(List bz)×Int×Int×(List R3)×(List R3)×(List ch)×Unit)(p1:Int):Option iL:=(UM p0).bind fun y1=>cond (!y1.2.1.1) (c5) ((Ls p1).bind fun y2=>cond (!y2.2.1.1) (c5) ((Wp p0.2.2.2.2.2.1 p1).bind fun y3=>zR (bf .i64 (bf .i64 p0.2.1 p0.2.2.1) y3.2.1.1)))
def aeM:=fU [dL [.str,af,af,af,af,bH,af,af,q3,q3,cl],aT [af]] jl fun x=>NS x.1 x.2.1.1
theorem Gk:bj 241 aeM:=fq (ac uc (ac ER (ac afl an))) f241
def sy(t1 t6 t37 t38:Int)(b2 b4 b5:Int×Int×(List R3)×(List R3)×Unit):Rd (Int×Int×Int×Int×Y34×Y34×Y34×Unit) Unit:=cond (aE t38 t37) (cond (aX t38 b5.2.2.1) (cond (aX t38 b5.2.2.2.1) (cond (ck t6 t38) (let u1:=(bf .i64 t38 t6);cond (aX u1 b2.2.2.1) (let u2:=(cZ b5.2.2.1 t38 (0,()));cond (aX t38 u2) (cond (aX u1 b2.2.2.2.1) (let u3:=(cZ b5.2.2.2.1 t38 (0,()));cond (aX t38 u3) (let u4:=(ak .i64 t38 1);eA (t1,t6,t37,u4,b2,b4,(b5.1,b5.2.1,(cZ u2 t38 (gt d3 b2.2.2.1 u1)),(cZ u3 t38 (gt d3 b2.2.2.2.1 u1)),()),())) none) none) none) none) (let u1:=(ak .i64 t38 1);let u2:=(cZ b5.2.2.1 t38 (0,()));let u3:=(cZ b5.2.2.2.1 t38 (0,()));eA (t1,t6,t37,u1,b2,b4,(b5.1,b5.2.1,u2,u3,()),()))) none) none) (eB (t1,t6,t37,t38,b2,b4,b5,()))
def Rp:=cu7 (aq (CD sy))
def P4(p0:Int×Int×(List R3)×(List R3)×Unit)(p1:Int):Option Y56:=(DP p0).bind fun y1=>(GJ p0).bind fun y2=>cond (!y2.2.1.1) (some ((),(y1.2.1,()))) ((Ls p1).bind fun y3=>cond (!y3.2.1.1) (some ((),(y1.2.1,()))) (cond (!(aj p0.1 0)) (let u1:=(kq .i64 p1 p0.1);cond (ck u1 p0.2.1) (some ((),(y1.2.1,()))) (cond (!(aj p0.1 0)) ((Rp p1 (bf .i64 u1 p0.2.1) (ae p0.2.2.1) 0 p0 (0,0,[],[],()) y1.2.1).bind (Sum.elim (fun y4=>cond (!(aj y4.2.2.2.2.1.1 0)) (some ((),((y4.2.2.2.2.2.2.1.1,(kq .i64 y4.1 y4.2.2.2.2.1.1),y4.2.2.2.2.2.2.1.2.2.1,y4.2.2.2.2.2.2.1.2.2.2.1,()),()))) none) (fun _=>none))) none)) none))
def alf:=fU [dL [af,af,q3,q3],aT [af]] w6R fun x=>P4 x.1 x.2.1.1
theorem Z4:bj 273 alf:=fl (ac Tt (ac uc (ac LM an))) [] [(0,⟨[.d 1 af,.d 6 af,.d 37 af,.d 38 af,.box 2 [(false,.int .i64),(false,.int .i64),(false,q3),(false,q3)],.box 4 [(false,.int .i64),(false,.int .i64),(true,q3),(true,q3)],.box 5 [(false,.int .i64),(false,.int .i64),(true,q3),(true,q3)]],aq (CD sy)⟩)] [] f273 (lp [0] (sc dV sn))
def ly(t2:Bool)(t8 t23 t24:Int)(b7:Int×Int×(List R3)×(List R3)×Unit):Rd (Bool×Int×Int×Int×Y34×Unit) Unit:=cond (aE t24 t23) (cond t2 (cond (aX t24 b7.2.2.2.1) ((Ba t8 (gt d3 b7.2.2.2.1 t24).1).bind fun y1=>eA (t2,y1.2.1.1,t23,(ak .i64 t24 1),b7,())) none) (cond (aX t24 b7.2.2.1) ((Ba t8 (gt d3 b7.2.2.1 t24).1).bind fun y1=>eA (t2,y1.2.1.1,t23,(ak .i64 t24 1),b7,())) none)) (eB (t2,t8,t23,t24,b7,()))
def JP:=O2 (aq (pZ ly))
def PW(p0:Int×Int×(List R3)×(List R3)×Unit)(p1:Int)(p2:Bool):Option iL:=(GJ p0).bind fun y1=>cond (!y1.2.1.1) (c5) ((Ls p1).bind fun y2=>cond (!y2.2.1.1) (c5) ((P4 p0 p1).bind fun y3=>(JP p2 0 (ae y3.2.1.2.2.1) 0 y3.2.1).bind (Sum.elim (fun y4=>zR y4.2.1) (fun _=>none))))
def aij:=fU [dL [af,af,q3,q3],aT [af],aT [.bool]] jl fun x=>PW x.1 x.2.1.1 x.2.2.1.1
theorem aaw:bj 297 aij:=fl (ac uc (ac LM (ac Hw (ac Z4 an)))) [] [(0,⟨[.d 2 .bool,.d 8 af,.d 23 af,.d 24 af,.box 7 [(false,.int .i64),(false,.int .i64),(true,q3),(true,q3)]],aq (pZ ly)⟩)] [] f297 (lp [0] (sc dV sn))
def PR(p0:Int×Int×(List R3)×(List R3)×Unit)(p1:Int):Option iL:=(PW p0 p1 false).bind fun y1=>some ((),(y1.2.1,()))
def ajL:=fU [dL [af,af,q3,q3],aT [af]] jl fun x=>PR x.1 x.2.1.1
theorem ae6:bj 271 ajL:=fq (ac aaw an) f271
def PL(p0:Int×Int×(List R3)×(List R3)×Unit)(p1:Int):Option iL:=(PW p0 p1 true).bind fun y1=>some ((),(y1.2.1,()))
def akI:=fU [dL [af,af,q3,q3],aT [af]] jl fun x=>PL x.1 x.2.1.1
theorem afT:bj 272 akI:=fq (ac aaw an) f272
def Pt(p0:S8×Int×Int×Int×Int×(List bz)×Int×Int×(List R3)×(List R3)×(List ch)×Unit)(p1 p2:Int):Option iL:=(NS p0 p2).bind fun y1=>cond (aE y1.2.1.1 p1) (zR 7) ((PR (p0.2.2.2.2.2.2.1,p0.2.2.2.2.2.2.2.1,p0.2.2.2.2.2.2.2.2.1,p0.2.2.2.2.2.2.2.2.2.1,()) p2).bind fun y2=>(Ba y2.2.1.1 1).bind fun y3=>cond (aE p0.2.2.2.1 y3.2.1.1) (c22) ((PL (p0.2.2.2.2.2.2.1,p0.2.2.2.2.2.2.2.1,p0.2.2.2.2.2.2.2.2.1,p0.2.2.2.2.2.2.2.2.2.1,()) p2).bind fun y4=>(Ba y4.2.1.1 p1).bind fun y5=>cond (aE p0.2.2.2.2.1 y5.2.1.1) (zR 9) (c5)))
def ak9:=fU [dL [.str,af,af,af,af,bH,af,af,q3,q3,cl],aT [af],aT [af]] jl fun x=>Pt x.1 x.2.1.1 x.2.2.1.1
theorem ZZ:bj 237 ak9:=fq (ac Hw (ac Gk (ac ae6 (ac afT an)))) f237
def sq(t6:List bz)(t7:Bool)(t14:List bz)(t15 t16:Int)(b3:S8×Int×Int×Unit):Rd ((List bz)×Bool×(List bz)×Int×Int×Y24×Unit) Unit:=cond (aE t16 t15) (cond (aX t16 t14) (let u1:=(gt d192 t14 t16);cond (cond (!t7) (!(BR u1.1 b3.1)) false) (cond (bl 32 t6 [b3]) (cond (!(bF u1.1 b3.1)) (let u2:=(fQ t6 [b3]);cond (bl 32 u2 [u1]) (let u3:=(ak .i64 t16 1);eA ((fQ u2 [u1]),true,t14,t15,u3,b3,())) none) (let u2:=(fQ t6 [b3]);let u3:=(ak .i64 t16 1);eA (u2,true,t14,t15,u3,b3,()))) none) (cond (!(bF u1.1 b3.1)) (cond (bl 32 t6 [u1]) (let u2:=(ak .i64 t16 1);eA ((fQ t6 [u1]),t7,t14,t15,u2,b3,())) none) (let u2:=(ak .i64 t16 1);eA (t6,t7,t14,t15,u2,b3,())))) none) (eB (t6,t7,t14,t15,t16,b3,()))
def Tn:=cu6 (aq (Fk sq))
def SZ(p0:List bz)(p1:S8×Int×Int×Unit):Option (Unit×(Y8×Y2×Unit)):=(Jl p0).bind fun y1=>cond (!y1.2.1.1) (c15) ((Tn [] false p0 (ae p0) 0 p1).bind (Sum.elim (fun y2=>cond (!y2.2.1) (cond (bl 32 y2.1 [y2.2.2.2.2.2.1]) (let u1:=(fQ y2.1 [y2.2.2.2.2.2.1]);(Jl u1).bind fun y3=>cond (!y3.2.1.1) (c15) (some ((),((u1,()),(true,()),())))) none) ((Jl y2.1).bind fun y3=>cond (!y3.2.1.1) (c15) (some ((),((y2.1,()),(true,()),()))))) (fun _=>none)))
def afa:=fU [aT [bH],dL [.str,af,af]] [(false,[bH]),(false,[.bool])] fun x=>SZ x.1.1 x.2.1
theorem KY:bj 238 afa:=fl (ac YI an) [] [(0,⟨[.own 6 bH,.d 7 .bool,.d 14 bH,.d 15 af,.d 16 af,.box 3 [(false,.str),(false,.int .i64),(false,.int .i64)]],aq (Fk sq)⟩)] [] f238 (lp [0] (sc dV sn))
def Jj(p0:Int×Int×(List R3)×(List R3)×Unit)(p1 p2:Int):Option Y56:=(GJ p0).bind fun y1=>cond (!y1.2.1.1) (let u1:=(DP p0);Option.bind u1 fun y2=>some ((),(y2.2.1,()))) ((Ls p1).bind fun y2=>cond (!y2.2.1.1) (let u1:=(DP p0);Option.bind u1 fun y3=>some ((),(y3.2.1,()))) ((EY p2).bind fun y3=>cond (!y3.2.1.1) (let u1:=(DP p0);Option.bind u1 fun y4=>some ((),(y4.2.1,()))) ((P4 p0 p1).bind fun y4=>cond (aX 0 y4.2.1.2.2.1) ((Ba (gt d3 y4.2.1.2.2.1 0).1 1).bind fun y5=>cond (aX 0 y4.2.1.2.2.1) (cond (aX 0 y4.2.1.2.2.2.1) ((Ba (gt d3 y4.2.1.2.2.2.1 0).1 p2).bind fun y6=>cond (aX 0 y4.2.1.2.2.2.1) (some ((),((y4.2.1.1,y4.2.1.2.1,(cZ y4.2.1.2.2.1 0 y5.2.1),(cZ y4.2.1.2.2.2.1 0 y6.2.1),()),()))) none) none) none) none)))
def akq:=fU [dL [af,af,q3,q3],aT [af],aT [af]] w6R fun x=>Jj x.1 x.2.1.1 x.2.2.1.1
theorem Yt:bj 239 akq:=fq (ac Tt (ac Hi (ac uc (ac LM (ac Hw (ac Z4 an)))))) f239
def Vl(p0:S8×Int×Int×Int×Int×(List bz)×Int×Int×(List R3)×(List R3)×(List ch)×Unit)(p1:S8)(p2 p3 p4:Int):Option GH:=(z7 p0 p1 p4).bind fun y1=>cond (!y1.2.1.1) (c8) ((vf p2 1 9007199254740992).bind fun y2=>cond (!y2.2.1.1) (c12) ((vf p3 1 9999).bind fun y3=>let u1:=(ak .i64 p4 p3);cond (cond (!y3.2.1.1) true (aE 1000000000 u1)) (c12) ((Cd p0 p4).bind fun y4=>(Eu y4.2.1.2.2.2.2.2.1 p1).bind fun y5=>cond (ck 0 y5.2.1.1) (c31) (cond (aj (ae y4.2.1.2.2.2.2.2.1) 4) (c32) ((Pt y4.2.1 p2 p4).bind fun y6=>cond (!(aj y6.2.1.1 0)) (some ((),(([],0,0,0,0,[],0,0,[],[],[],()),y6.2.1,()))) ((SZ y4.2.1.2.2.2.2.2.1 (p1,p2,u1,())).bind fun y7=>(Jj (y4.2.1.2.2.2.2.2.2.1,y4.2.1.2.2.2.2.2.2.2.1,y4.2.1.2.2.2.2.2.2.2.2.1,y4.2.1.2.2.2.2.2.2.2.2.2.1,()) p4 p2).bind fun y8=>some ((),((y4.2.1.1,y4.2.1.2.1,y4.2.1.2.2.1,y4.2.1.2.2.2.1,y4.2.1.2.2.2.2.1,y7.2.1.1,y8.2.1.1,y8.2.1.2.1,y8.2.1.2.2.1,y8.2.1.2.2.2.1,y4.2.1.2.2.2.2.2.2.2.2.2.2.1,()),(0,()),()))))))))
def aex:=fU [dL [.str,af,af,af,af,bH,af,af,q3,q3,cl],aT [.str],aT [af],aT [af],aT [af]] QW fun x=>Vl x.1 x.2.1.1 x.2.2.1.1 x.2.2.2.1.1 x.2.2.2.2.1.1
theorem Yv:bj 178 aex:=fq (ac rK (ac zH (ac x7 (ac zS (ac ZZ (ac KY (ac Yt an))))))) f178
def V1(p0:S8×Int×Int×Int×Int×(List bz)×Int×Int×(List R3)×(List R3)×(List ch)×Unit)(p1:S8)(p2 p3:Int):Option GH:=(z7 p0 p1 p3).bind fun y1=>cond (!y1.2.1.1) (c8) ((vf p2 1 9007199254740992).bind fun y2=>cond (!y2.2.1.1) (c12) ((Cd p0 p3).bind fun y3=>(Eu y3.2.1.2.2.2.2.2.1 p1).bind fun y4=>cond (aE y4.2.1.1 0) (c27) ((Pt y3.2.1 p2 p3).bind fun y5=>cond (!(aj y5.2.1.1 0)) (some ((),(([],0,0,0,0,[],0,0,[],[],[],()),y5.2.1,()))) (cond (aX y4.2.1.1 y3.2.1.2.2.2.2.2.1) (cond (aX y4.2.1.1 y3.2.1.2.2.2.2.2.1) ((Jj (y3.2.1.2.2.2.2.2.2.1,y3.2.1.2.2.2.2.2.2.2.1,y3.2.1.2.2.2.2.2.2.2.2.1,y3.2.1.2.2.2.2.2.2.2.2.2.1,()) p3 p2).bind fun y6=>let u1:=(gt d192 y3.2.1.2.2.2.2.2.1 y4.2.1.1);some ((),((y3.2.1.1,y3.2.1.2.1,y3.2.1.2.2.1,y3.2.1.2.2.2.1,y3.2.1.2.2.2.2.1,(cZ y3.2.1.2.2.2.2.2.1 y4.2.1.1 (u1.1,(ak .i64 u1.2.1 p2),u1.2.2.1,())),y6.2.1.1,y6.2.1.2.1,y6.2.1.2.2.1,y6.2.1.2.2.2.1,y3.2.1.2.2.2.2.2.2.2.2.2.2.1,()),(0,()),()))) none) none))))
def aeA:=fU [dL [.str,af,af,af,af,bH,af,af,q3,q3,cl],aT [.str],aT [af],aT [af]] QW fun x=>V1 x.1 x.2.1.1 x.2.2.1.1 x.2.2.2.1.1
theorem aan:bj 179 aeA:=fq (ac rK (ac zH (ac x7 (ac zS (ac ZZ (ac Yt an)))))) f179
def se(t1:S8)(t5 t9:List bz)(t10 t11:Int):Rd (S8×(List bz)×(List bz)×Int×Int×Unit) Unit:=cond (aE t11 t10) (cond (aX t11 t9) (let u1:=(gt d192 t9 t11);cond (!(bF u1.1 t1)) (cond (bl 32 t5 [u1]) (let u2:=(ak .i64 t11 1);eA (t1,(fQ t5 [u1]),t9,t10,u2,())) none) (let u2:=(ak .i64 t11 1);eA (t1,t5,t9,t10,u2,()))) none) (eB (t1,t5,t9,t10,t11,()))
def Pm:=O2 (aq (pZ se))
def IU(p0:List bz)(p1:S8):Option Y32:=(Pm p1 [] p0 (ae p0) 0).bind (Sum.elim (fun y1=>zR y1.2.1) (fun _=>none))
def ahF:=fU [aT [bH],aT [.str]] VF fun x=>IU x.1.1 x.2.1.1
theorem HN:bj 240 ahF:=fl an [] [(0,⟨[.d 1 .str,.own 5 bH,.d 9 bH,.d 10 af,.d 11 af],aq (pZ se)⟩)] [] f240 (lp [0] (sc dV sn))
def QR(p0:S8×Int×Int×Int×Int×(List bz)×Int×Int×(List R3)×(List R3)×(List ch)×Unit)(p1:S8)(p2:Int)(p3:Bool)(p4:Int):Option GH:=(z7 p0 p1 p4).bind fun y1=>cond (!y1.2.1.1) (c8) ((vf p2 1 9007199254740992).bind fun y2=>cond (!y2.2.1.1) (c12) ((Cd p0 p4).bind fun y3=>(Eu y3.2.1.2.2.2.2.2.1 p1).bind fun y4=>cond (aE y4.2.1.1 0) (c27) (cond (aX y4.2.1.1 y3.2.1.2.2.2.2.2.1) (let u1:=(gt d192 y3.2.1.2.2.2.2.2.1 y4.2.1.1);cond (aE u1.2.1 p2) (c33) (cond p3 (let u2:=(IU y3.2.1.2.2.2.2.2.1 p1);Option.bind u2 fun y5=>let u3:=(ak .i64 y3.2.1.2.2.1 p2);some ((),((y3.2.1.1,y3.2.1.2.1,u3,y3.2.1.2.2.2.1,y3.2.1.2.2.2.2.1,y5.2.1.1,y3.2.1.2.2.2.2.2.2.1,y3.2.1.2.2.2.2.2.2.2.1,y3.2.1.2.2.2.2.2.2.2.2.1,y3.2.1.2.2.2.2.2.2.2.2.2.1,y3.2.1.2.2.2.2.2.2.2.2.2.2.1,()),(0,()),()))) (cond (aX y4.2.1.1 y3.2.1.2.2.2.2.2.1) (cond (aj p2 u1.2.1) (let u2:=(IU y3.2.1.2.2.2.2.2.1 p1);Option.bind u2 fun y5=>let u3:=(ak .i64 y3.2.1.2.2.1 p2);some ((),((y3.2.1.1,y3.2.1.2.1,u3,y3.2.1.2.2.2.1,y3.2.1.2.2.2.2.1,y5.2.1.1,y3.2.1.2.2.2.2.2.2.1,y3.2.1.2.2.2.2.2.2.2.1,y3.2.1.2.2.2.2.2.2.2.2.1,y3.2.1.2.2.2.2.2.2.2.2.2.1,y3.2.1.2.2.2.2.2.2.2.2.2.2.1,()),(0,()),()))) (cond (aX y4.2.1.1 y3.2.1.2.2.2.2.2.1) (cond (aX y4.2.1.1 y3.2.1.2.2.2.2.2.1) (let u2:=(ak .i64 y3.2.1.2.2.1 p2);some ((),((y3.2.1.1,y3.2.1.2.1,u2,y3.2.1.2.2.2.1,y3.2.1.2.2.2.2.1,(cZ y3.2.1.2.2.2.2.2.1 y4.2.1.1 (u1.1,(bf .i64 u1.2.1 p2),u1.2.2.1,())),y3.2.1.2.2.2.2.2.2.1,y3.2.1.2.2.2.2.2.2.2.1,y3.2.1.2.2.2.2.2.2.2.2.1,y3.2.1.2.2.2.2.2.2.2.2.2.1,y3.2.1.2.2.2.2.2.2.2.2.2.2.1,()),(0,()),()))) none) none)) none))) none)))
def af5:=fU [dL [.str,af,af,af,af,bH,af,af,q3,q3,cl],aT [.str],aT [af],aT [.bool],aT [af]] QW fun x=>QR x.1 x.2.1.1 x.2.2.1.1 x.2.2.2.1.1 x.2.2.2.2.1.1
theorem aaN:bj 180 af5:=fq (ac rK (ac zH (ac x7 (ac zS (ac HN an))))) f180
def VU(p0:S8×Int×Int×Int×Int×(List bz)×Int×Int×(List R3)×(List R3)×(List ch)×Unit)(p1:S8)(p2:Int):Option GH:=(z7 p0 p1 p2).bind fun y1=>cond (!y1.2.1.1) (c8) ((Cd p0 p2).bind fun y2=>(Eu y2.2.1.2.2.2.2.2.1 p1).bind fun y3=>cond (aE y3.2.1.1 0) (c27) ((IU y2.2.1.2.2.2.2.2.1 p1).bind fun y4=>some ((),((y2.2.1.1,y2.2.1.2.1,y2.2.1.2.2.1,y2.2.1.2.2.2.1,y2.2.1.2.2.2.2.1,y4.2.1.1,y2.2.1.2.2.2.2.2.2.1,y2.2.1.2.2.2.2.2.2.2.1,y2.2.1.2.2.2.2.2.2.2.2.1,y2.2.1.2.2.2.2.2.2.2.2.2.1,y2.2.1.2.2.2.2.2.2.2.2.2.2.1,()),(0,()),()))))
def afC:=fU [dL [.str,af,af,af,af,bH,af,af,q3,q3,cl],aT [.str],aT [af]] QW fun x=>VU x.1 x.2.1.1 x.2.2.1.1
theorem aaf:bj 181 afC:=fq (ac zH (ac x7 (ac zS (ac HN an)))) f181
def Rl(p0 p1:S8×Int×Int×Int×Int×(List bz)×Int×Int×(List R3)×(List R3)×(List ch)×Unit)(p2:S8)(p3:Int):Option (Unit×(BS×BS×Y1×Unit)):=(z7 p0 p2 p3).bind fun y1=>cond (!y1.2.1.1) (c18) ((UM p1).bind fun y2=>cond (!y2.2.1.1) (c18) (cond (bF p0.1 p1.1) (c34) ((Cd p0 p3).bind fun y3=>(Cd p1 p3).bind fun y4=>(Eu y3.2.1.2.2.2.2.2.1 p2).bind fun y5=>cond (aE y5.2.1.1 0) (c35) ((Eu y4.2.1.2.2.2.2.2.1 p2).bind fun y6=>cond (ck 0 y6.2.1.1) (c36) (cond (aj (ae y4.2.1.2.2.2.2.2.1) 4) (c37) (cond (aX y5.2.1.1 y3.2.1.2.2.2.2.2.1) ((NS y4.2.1 p3).bind fun y7=>let u1:=(gt d192 y3.2.1.2.2.2.2.2.1 y5.2.1.1);cond (aE y7.2.1.1 u1.2.1) (c38) (cond (aX y5.2.1.1 y3.2.1.2.2.2.2.2.1) ((SZ y4.2.1.2.2.2.2.2.1 u1).bind fun y8=>(IU y3.2.1.2.2.2.2.2.1 p2).bind fun y9=>some ((),((y3.2.1.1,y3.2.1.2.1,y3.2.1.2.2.1,y3.2.1.2.2.2.1,y3.2.1.2.2.2.2.1,y9.2.1.1,y3.2.1.2.2.2.2.2.2.1,y3.2.1.2.2.2.2.2.2.2.1,y3.2.1.2.2.2.2.2.2.2.2.1,y3.2.1.2.2.2.2.2.2.2.2.2.1,y3.2.1.2.2.2.2.2.2.2.2.2.2.1,()),(y4.2.1.1,y4.2.1.2.1,y4.2.1.2.2.1,y4.2.1.2.2.2.1,y4.2.1.2.2.2.2.1,y8.2.1.1,y4.2.1.2.2.2.2.2.2.1,y4.2.1.2.2.2.2.2.2.2.1,y4.2.1.2.2.2.2.2.2.2.2.1,y4.2.1.2.2.2.2.2.2.2.2.2.1,y4.2.1.2.2.2.2.2.2.2.2.2.2.1,()),(0,()),()))) none)) none))))))
def Q3:=fU [dL [.str,af,af,af,af,bH,af,af,q3,q3,cl],dL [.str,af,af,af,af,bH,af,af,q3,q3,cl],aT [.str],aT [af]] [(true,[.str,af,af,af,af,bH,af,af,q3,q3,cl]),(true,[.str,af,af,af,af,bH,af,af,q3,q3,cl]),(false,[af])] fun x=>Rl x.1 x.2.1 x.2.2.1.1 x.2.2.2.1.1
def PD:List SE:=[]
def Zs:Nat->Option (Lo PD)
 | _=>none
def FF:List Y0:=[(81,iS s81),(235,iS aeF),(145,iS ahA),(236,iS agG),(241,iS aeM),(238,iS afa),(240,iS ahF)]
def x4:En:=xE 95 tt FF PD Zs [] fun _=>none
def ag5:Nat->Option (St->Tr St)
 | 16=>some (il x4 (opsOf (bq 16 (aw f182))) [(12,10)])
 | 18=>some (oJ x4 (opsOf (bq 18 (aw f182))) 2 [1])
 | _=>none
def P5:En:=xE 95 tt FF PD Zs [] (ag5)
theorem t182(x:PT Q3.ps):(Ii P5 (aw f182) f182.results.toList Q3.ps Q3.rs true x).run=Rl x.1 x.2.1 x.2.2.1.1 x.2.2.2.1.1:=by kernel_rfl
theorem ac1:dO prog P5:=cD (l:=FF) ⟨ER,zH,x7,zS,Gk,KY,HN,trivial⟩
theorem Is:dO prog x4:=cD (l:=FF) ⟨ER,zH,x7,zS,Gk,KY,HN,trivial⟩
theorem Wb:dA prog P5 (bq 16 (aw f182)) (il x4 (opsOf (bq 16 (aw f182))) [(12,10)]) :=
 eN rfl rfl (mz (E:=x4) (rB hT) Is iQ (c:=(bq 16 (aw f182))) (id:=16) (by kernel_rfl))
theorem J9:dO prog x4:=cD (l:=FF) ⟨ER,zH,x7,zS,Gk,KY,HN,trivial⟩
theorem Xc:dA prog P5 (bq 18 (aw f182)) (oJ x4 (opsOf (bq 18 (aw f182))) 2 [1]) :=
 eN rfl rfl (yI (E:=x4) (rB hT) J9 iQ (c:=(bq 18 (aw f182))) (id:=18) (by kernel_rfl))
theorem YQ:bj 182 Q3 :=
 pN (E:=P5) (rB hT) ac1 iQ (fn:=f182) (c:=(aw f182)) (by kernel_rfl) (by kernel_rfl) (by kernel_rfl) rfl (db [] (by kernel_rfl) trivial [(16,bq 16 (aw f182)),(18,bq 18 (aw f182))] (by kernel_rfl) ⟨uk rfl Wb,uk rfl Xc,trivial⟩) fun x y h=>⟨y.1,fun _=>rfl,(t182 x).trans h⟩
def Wz(p0:S8×Int×Int×Int×Int×(List bz)×Int×Int×(List R3)×(List R3)×(List ch)×Unit)(p1:Int):Option (Unit×(Bb×Y1×Unit)):=(UM p0).bind fun y1=>cond (!y1.2.1.1) (some ((),(([],()),(1,()),()))) ((Ls p1).bind fun y2=>cond (!y2.2.1.1) (some ((),(([],()),(1,()),()))) ((NS p0 p1).bind fun y3=>(MZ y3.2.1.1 16).bind fun y4=>cond (jL y4.2.1.1 [32]) ((MZ p0.2.2.1 16).bind fun y5=>let u1:=(uy y4.2.1.1 [32]);cond (jL u1 y5.2.1.1) (some ((),(((uy u1 y5.2.1.1),()),(0,()),()))) none) none))
def ahs:=fU [dL [.str,af,af,af,af,bH,af,af,q3,q3,cl],aT [af]] [(false,[.str]),(false,[af])] fun x=>Wz x.1 x.2.1.1
theorem ZJ:bj 183 ahs:=fq (ac uc (ac ER (ac YW (ac Gk an)))) f183
def XQ(p0:S8×Int×Int×Int×Int×(List bz)×Int×Int×(List R3)×(List R3)×(List ch)×Unit)(p1:Int):Option GH:=(UM p0).bind fun y1=>cond (!y1.2.1.1) (c8) ((Ls p1).bind fun y2=>cond (!y2.2.1.1) (c8) ((Cd p0 p1).bind fun y3=>some ((),(y3.2.1,(0,()),()))))
def afK:=fU [dL [.str,af,af,af,af,bH,af,af,q3,q3,cl],aT [af]] QW fun x=>XQ x.1 x.2.1.1
theorem aat:bj 184 afK:=fq (ac uc (ac ER (ac x7 an))) f184
def g97(p0 p1:S8×Int×Int×Int×Int×(List bz)×Int×Int×(List R3)×(List R3)×(List ch)×Unit)(p2:Int×S8×S8×S8×S8×S8×Int×Int×Unit)(p3:Int):Option (Unit×(BS×BS×Y1×Bb×Unit)):=cond (aj p2.1 1) ((Vl p0 p2.2.2.2.1 p2.2.2.2.2.2.2.1 p2.2.2.2.2.2.2.2.1 p3).bind fun y1=>some ((),(y1.2.1,p1,y1.2.2.1,([],()),()))) (cond (aj p2.1 2) ((V1 p0 p2.2.2.2.1 p2.2.2.2.2.2.2.1 p3).bind fun y1=>some ((),(y1.2.1,p1,y1.2.2.1,([],()),()))) (cond (aj p2.1 3) (let u1:=(QR p0 p2.2.2.2.1 p2.2.2.2.2.2.2.1 (aj p2.1 4) p3);Option.bind u1 fun y1=>some ((),(y1.2.1,p1,y1.2.2.1,([],()),()))) (cond (aj p2.1 4) (let u1:=(QR p0 p2.2.2.2.1 p2.2.2.2.2.2.2.1 (aj p2.1 4) p3);Option.bind u1 fun y1=>some ((),(y1.2.1,p1,y1.2.2.1,([],()),()))) (cond (aj p2.1 5) ((VU p0 p2.2.2.2.1 p3).bind fun y1=>some ((),(y1.2.1,p1,y1.2.2.1,([],()),()))) (cond (aj p2.1 6) ((Rl p0 p1 p2.2.2.2.1 p3).bind fun y1=>some ((),(y1.2.1,y1.2.2.1,y1.2.2.2.1,([],()),()))) (cond (aj p2.1 7) ((Wz p0 p3).bind fun y1=>some ((),(p0,p1,y1.2.2.1,y1.2.1,()))) ((XQ p0 p3).bind fun y1=>some ((),(y1.2.1,p1,y1.2.2.1,([],()),())))))))))
def s97:Su:=⟨[.c true [.str,af,af,af,af,bH,af,af,q3,q3,cl],.c true [.str,af,af,af,af,bH,af,af,q3,q3,cl],.c true [af,.str,.str,.str,.str,.str,af,af],.c false [af]],[(true,[.str,af,af,af,af,bH,af,af,q3,q3,cl]),(true,[.str,af,af,af,af,bH,af,af,q3,q3,cl]),(false,[af]),(false,[.str])],false,.inl fun x=>g97 x.1 x.2.1 x.2.2.1 x.2.2.2.1.1⟩
def adf:List SE:=[]
def ag1:Nat->Option (Lo adf)
 | _=>none
def XL:List Y0:=[(178,iS aex.ro),(179,iS aeA.ro),(180,iS af5.ro),(181,iS afC.ro),(182,iS Q3.ro),(183,iS ahs),(184,iS afK.ro)]
def WU:En:=xE 102 tt XL adf ag1 [999999] fun _=>none
def akK:Nat->Option (St->Tr St)
 | 20=>some (hlT WU (opsOf (bq 20 (aw f97))) [(4,2),(4,3)] 4 [1])
 | _=>none
def E97:En:=xE 102 tt XL adf ag1 [999999] (akK)
theorem t97(x:PT s97.ps):(Ii E97 (aw f97) f97.results.toList s97.ps s97.rs false x).run=g97 x.1 x.2.1 x.2.2.1 x.2.2.2.1.1:=by kernel_rfl
theorem aeW:dO prog E97:=cD (l:=XL) ⟨(Yv.ro rfl rfl),(aan.ro rfl rfl),(aaN.ro rfl rfl),(aaf.ro rfl rfl),(YQ.ro rfl rfl),ZJ,(aat.ro rfl rfl),trivial⟩
theorem MD:dO prog WU:=cD (l:=XL) ⟨(Yv.ro rfl rfl),(aan.ro rfl rfl),(aaN.ro rfl rfl),(aaf.ro rfl rfl),(YQ.ro rfl rfl),ZJ,(aat.ro rfl rfl),trivial⟩
theorem abW:dA prog E97 (bq 20 (aw f97)) (hlT WU (opsOf (bq 20 (aw f97))) [(4,2),(4,3)] 4 [1]) :=
 eN rfl rfl (ZC (E:=WU) (rB hT) MD iQ (c:=(bq 20 (aw f97))) (id:=20) (by kernel_rfl))
theorem af8:bj 97 s97 :=
 pN (E:=E97) (rB hT) aeW iQ (fn:=f97) (c:=(aw f97)) (by kernel_rfl) (by kernel_rfl) (by kernel_rfl) rfl (db [] (by kernel_rfl) trivial [(20,bq 20 (aw f97))] (by kernel_rfl) ⟨uk rfl abW,trivial⟩) fun x y h=>⟨y.1,fun _=>rfl,(t97 x).trans h⟩
def g53(p0:(List gH)×Unit)(p1:Int×S8×S8×S8×S8×S8×Int×Int×Unit)(p2:Int):Option (Unit×(Y6×Y1×Bb×Unit)):=(g44 p0).bind fun y1=>cond (!y1.2.1.1) (c13) ((BY p1).bind fun y2=>cond (!y2.2.1.1) (c13) ((Ls p2).bind fun y3=>cond (!y3.2.1.1) (c13) ((g51 p0 p1.2.1).bind fun y4=>cond (aj p1.1 6) ((g51 p0 p1.2.2.1).bind fun y5=>cond (cond (aE y4.2.1.1 0) true (aE y5.2.1.1 0)) (c14) (cond (aX y4.2.1.1 p0.1) (cond (aX y5.2.1.1 p0.1) (let u1:=(gt d94 p0.1 y4.2.1.1);(g97 u1 (gt d94 p0.1 y5.2.1.1) p1 p2).bind fun y6=>cond (!(aj y6.2.2.2.1.1 0)) (some ((),(([],()),y6.2.2.2.1,([],()),()))) (let u2:=(g41 p0);Option.bind u2 fun y7=>cond (!(aj y5.2.1.1 y4.2.1.1)) ((SY y6.2.2.1).bind fun y8=>cond (aX y5.2.1.1 y7.2.1.1) (let u3:=(SY y6.2.1);Option.bind u3 fun y9=>let u4:=(cZ y7.2.1.1 y5.2.1.1 y8.2.1);cond (aX y4.2.1.1 u4) (some ((),(((cZ u4 y4.2.1.1 y9.2.1),()),(0,()),y6.2.2.2.2.1,()))) none) none) (let u3:=(SY y6.2.1);Option.bind u3 fun y8=>cond (aX y4.2.1.1 y7.2.1.1) (some ((),(((cZ y7.2.1.1 y4.2.1.1 y8.2.1),()),(0,()),y6.2.2.2.2.1,()))) none))) none) none)) (cond (cond (aE y4.2.1.1 0) true (aE y4.2.1.1 0)) (c14) (cond (aX y4.2.1.1 p0.1) (cond (aX y4.2.1.1 p0.1) (let u1:=(gt d94 p0.1 y4.2.1.1);(g97 u1 u1 p1 p2).bind fun y5=>cond (!(aj y5.2.2.2.1.1 0)) (some ((),(([],()),y5.2.2.2.1,([],()),()))) (let u2:=(g41 p0);Option.bind u2 fun y6=>cond (!(aj y4.2.1.1 y4.2.1.1)) ((SY y5.2.2.1).bind fun y7=>cond (aX y4.2.1.1 y6.2.1.1) (let u3:=(SY y5.2.1);Option.bind u3 fun y8=>let u4:=(cZ y6.2.1.1 y4.2.1.1 y7.2.1);cond (aX y4.2.1.1 u4) (some ((),(((cZ u4 y4.2.1.1 y8.2.1),()),(0,()),y5.2.2.2.2.1,()))) none) none) (let u3:=(SY y5.2.1);Option.bind u3 fun y7=>cond (aX y4.2.1.1 y6.2.1.1) (let u4:=(cZ y6.2.1.1 y4.2.1.1 y7.2.1);some ((),((u4,()),(0,()),y5.2.2.2.2.1,()))) none))) none) none)))))
def s53:=fU [dL [kn],dL [af,.str,.str,.str,.str,.str,af,af],aT [af]] [(true,[kn]),(false,[af]),(false,[.str])] fun x=>g53 x.1 x.2.1 x.2.2.1.1
def acU:List SE:=[]
def aeg:Nat->Option (Lo acU)
 | _=>none
def Wc:List Y0:=[(77,iS s77),(41,iS s41),(45,iS s45),(44,iS s44),(95,iS s95),(51,iS s51),(97,iS s97)]
def WV:En:=xE 90 tt Wc acU aeg [] fun _=>none
def ajq:Nat->Option (St->Tr St)
 | 9=>some (il WV (opsOf (bq 9 (aw f53))) [(20,15),(20,16),(20,17)])
 | _=>none
def E53:En:=xE 90 tt Wc acU aeg [] (ajq)
theorem t53(x:PT s53.ps):(Ii E53 (aw f53) f53.results.toList s53.ps s53.rs true x).run=g53 x.1 x.2.1 x.2.2.1.1:=by kernel_rfl
theorem ahp:dO prog E53:=cD (l:=Wc) ⟨XZ,MS,uc,TH,adG,PV,af8,trivial⟩
theorem T5:dO prog WV:=cD (l:=Wc) ⟨XZ,MS,uc,TH,adG,PV,af8,trivial⟩
theorem ahz:dA prog E53 (bq 9 (aw f53)) (il WV (opsOf (bq 9 (aw f53))) [(20,15),(20,16),(20,17)]) :=
 eN rfl rfl (mz (E:=WV) (rB hT) T5 iQ (c:=(bq 9 (aw f53))) (id:=9) (by kernel_rfl))
theorem adg:bj 53 s53 :=
 pN (E:=E53) (rB hT) ahp iQ (fn:=f53) (c:=(aw f53)) (by kernel_rfl) (by kernel_rfl) (by kernel_rfl) rfl (db [] (by kernel_rfl) trivial [(9,bq 9 (aw f53))] (by kernel_rfl) ⟨uk rfl ahz,trivial⟩) fun x y h=>⟨y.1,fun _=>rfl,(t53 x).trans h⟩
def g54(p0:List ch)(p1:S8×S8×(List R5)×Unit):Option (Unit×(Y7×Y2×Unit)):=(g98 p0).bind fun y1=>cond (bl 56 y1.2.1.1 [p1]) ((g98 (fQ y1.2.1.1 [p1])).bind fun y2=>(g99 y2.2.1.1).bind fun y3=>cond (!y3.2.1.1) (some ((),(([],()),(false,()),()))) (some ((),(y2.2.1,(true,()),())))) none
def s54:=fU [aT [cl],dL [.str,.str,q5]] [(false,[cl]),(false,[.bool])] fun x=>g54 x.1.1 x.2.1
theorem adq:bj 54 s54:=fq (ac ahg (ac aeh an)) f54
def g15(p0:(List gH)×Unit)(p1:List R5)(p2:Int):Option (Unit×(Y6×Y4×Unit)):=(g41 p0).bind fun y1=>(Oc p1 0 4).bind fun y2=>(g43 p1).bind fun y3=>(g44 p0).bind fun y4=>cond (!y4.2.1.1) (some ((),(y1.2.1,([],()),()))) ((Ls p2).bind fun y5=>cond (cond (!y5.2.1.1) true (aj y3.2.2.1.1 1)) (some ((),(y1.2.1,([],()),()))) ((g46 y2.2.1.1).bind fun y6=>cond (bF y6.2.1.1 []) (some ((),(y1.2.1,([],()),()))) (cond (!(aj y3.2.2.1.1 0)) ((g47 y2.2.1.1 1).bind fun y7=>(g48 y7.2.1).bind fun y8=>some ((),(y1.2.1,y8.2.1,()))) ((g49 y3.2.1).bind fun y7=>cond (!(aj y7.2.2.1.1 0)) ((ZK y3.2.1 y7.2.2.1.1 [] []).bind fun y8=>some ((),(y1.2.1,y8.2.1,()))) ((g51 p0 y7.2.1.2.1).bind fun y8=>cond (aE y8.2.1.1 0) ((ZK y3.2.1 3 [] []).bind fun y9=>some ((),(y1.2.1,y9.2.1,()))) (cond (aX y8.2.1.1 p0.1) ((g52 (gt d94 p0.1 y8.2.1.1).2.2.2.2.2.2.2.2.2.2.1 y7.2.1.2.2.2.2.1 y7.2.1.2.2.2.2.2.1).bind fun y9=>cond y9.2.2.1.1 (some ((),(y1.2.1,y9.2.1,()))) (cond (aX y8.2.1.1 p0.1) (cond (aj (ae (gt d94 p0.1 y8.2.1.1).2.2.2.2.2.2.2.2.2.2.1) 6) ((ZK y3.2.1 10 [] []).bind fun iU=>some ((),(y1.2.1,iU.2.1,()))) ((g53 p0 y7.2.1 p2).bind fun iU=>cond (aj iU.2.2.1.1 0) (let u1:=(ZK y3.2.1 iU.2.2.1.1 y7.2.1.2.2.2.1 iU.2.2.2.1.1);Option.bind u1 fun ln=>cond (aX y8.2.1.1 iU.2.1.1) (let u2:=(gt d94 iU.2.1.1 y8.2.1.1);(g54 u2.2.2.2.2.2.2.2.2.2.2.1 (y7.2.1.2.2.2.2.1,y7.2.1.2.2.2.2.2.1,ln.2.1.1,())).bind fun qR=>cond (aX y8.2.1.1 iU.2.1.1) (some ((),(((cZ iU.2.1.1 y8.2.1.1 (u2.1,u2.2.1,u2.2.2.1,u2.2.2.2.1,u2.2.2.2.2.1,u2.2.2.2.2.2.1,u2.2.2.2.2.2.2.1,u2.2.2.2.2.2.2.2.1,u2.2.2.2.2.2.2.2.2.1,u2.2.2.2.2.2.2.2.2.2.1,qR.2.1.1,())),()),ln.2.1,()))) none) none) (let u1:=(ZK y3.2.1 iU.2.2.1.1 y7.2.1.2.2.2.1 iU.2.2.2.1.1);Option.bind u1 fun ln=>cond (aX y8.2.1.1 y1.2.1.1) (let u2:=(gt d94 y1.2.1.1 y8.2.1.1);(g54 u2.2.2.2.2.2.2.2.2.2.2.1 (y7.2.1.2.2.2.2.1,y7.2.1.2.2.2.2.2.1,ln.2.1.1,())).bind fun qR=>cond (aX y8.2.1.1 y1.2.1.1) (some ((),(((cZ y1.2.1.1 y8.2.1.1 (u2.1,u2.2.1,u2.2.2.1,u2.2.2.2.1,u2.2.2.2.2.1,u2.2.2.2.2.2.1,u2.2.2.2.2.2.2.1,u2.2.2.2.2.2.2.2.1,u2.2.2.2.2.2.2.2.2.1,u2.2.2.2.2.2.2.2.2.2.1,qR.2.1.1,())),()),ln.2.1,()))) none) none))) none)) none))))))
def s15:=fU [dL [kn],aT [q5],aT [af]] [(true,[kn]),(false,[q5])] fun x=>g15 x.1 x.2.1.1 x.2.2.1.1
def acR:List SE:=[]
def agf:Nat->Option (Lo acR)
 | _=>none
def Sr:List Y0:=[(41,iS s41),(42,iS s42),(43,iS s43),(45,iS s45),(44,iS s44),(46,iS s46),(47,iS s47),(48,iS s48),(49,iS s49),(50,iS s50),(51,iS s51),(52,iS s52),(53,iS s53),(54,iS s54)]
def Gm:En:=xE 160 tt Sr acR agf [] fun _=>none
def aiv:Nat->Option (St->Tr St)
 | 16=>some (il Gm (opsOf (bq 16 (aw f15))) [(14,13)])
 | 25=>some (il Gm (opsOf (bq 25 (aw f15))) [(21,18)])
 | _=>none
def E15:En:=xE 160 tt Sr acR agf [] (aiv)
theorem t15(x:PT s15.ps):(Ii E15 (aw f15) f15.results.toList s15.ps s15.rs true x).run=g15 x.1 x.2.1.1 x.2.2.1.1:=by kernel_rfl
theorem aft:dO prog E15:=cD (l:=Sr) ⟨MS,NL,adm,uc,TH,Pr,adD,VK,adC,abE,PV,adh,adg,adq,trivial⟩
theorem Ok:dO prog Gm:=cD (l:=Sr) ⟨MS,NL,adm,uc,TH,Pr,adD,VK,adC,abE,PV,adh,adg,adq,trivial⟩
theorem adM:dA prog E15 (bq 16 (aw f15)) (il Gm (opsOf (bq 16 (aw f15))) [(14,13)]) :=
 eN rfl rfl (mz (E:=Gm) (rB hT) Ok iQ (c:=(bq 16 (aw f15))) (id:=16) (by kernel_rfl))
theorem Oy:dO prog Gm:=cD (l:=Sr) ⟨MS,NL,adm,uc,TH,Pr,adD,VK,adC,abE,PV,adh,adg,adq,trivial⟩
theorem ac5:dA prog E15 (bq 25 (aw f15)) (il Gm (opsOf (bq 25 (aw f15))) [(21,18)]) :=
 eN rfl rfl (mz (E:=Gm) (rB hT) Oy iQ (c:=(bq 25 (aw f15))) (id:=25) (by kernel_rfl))
theorem aj1:bj 15 s15 :=
 pN (E:=E15) (rB hT) aft iQ (fn:=f15) (c:=(aw f15)) (by kernel_rfl) (by kernel_rfl) (by kernel_rfl) rfl (db [] (by kernel_rfl) trivial [(16,bq 16 (aw f15)),(25,bq 25 (aw f15))] (by kernel_rfl) ⟨uk rfl adM,uk rfl ac5,trivial⟩) fun x y h=>⟨y.1,fun _=>rfl,(t15 x).trans h⟩
def AQ(t7:List tA)(t15:List xf)(t16 t17:Int)(b4 b6:(List gH)×Unit):Rd ((List tA)×(List xf)×Int×Int×Y6×Y6×Unit) Unit:=cond (aE t17 t16) (cond (aX t17 t15) (let u1:=(gt d62 t15 t17);(g15 b6 u1.2.1 u1.1).bind fun y1=>cond (bl 24 t7 [y1.2.2.1]) (eA ((fQ t7 [y1.2.2.1]),t15,t16,(ak .i64 t17 1),b4,y1.2.1,())) none) none) (eB (t7,t15,t16,t17,b4,b6,()))
def afO:=cu6 (aq (Fk AQ))
def g23(p0:(List gH)×Unit)(p1:List xf):Option Y54:=(g41 p0).bind fun y1=>(afO [] p1 (ae p1) 0 ([],()) y1.2.1).bind (Sum.elim (fun y2=>some ((),(y2.2.2.2.2.2.1,(y2.1,()),()))) (fun _=>none))
def s23:=fU [dL [kn],aT [Mz]] [(true,[kn]),(false,[IZ])] fun x=>g23 x.1 x.2.1.1
theorem akA:bj 23 s23:=fl (ac MS (ac aj1 an)) [] [(0,⟨[.own 7 IZ,.d 15 Mz,.d 16 af,.d 17 af,.box 4 [(true,kn)],.box 6 [(true,kn)]],aq (Fk AQ)⟩)] [] f23 (lp [0] (sc dV sn))
def EE(p0:List bz):Option (Unit×Y8×Unit):=cond (bl 32 ([]:List bz) p0) (zR p0) none
def OB:=fU [aT [bH]] VF fun x=>EE x.1.1
def acq:En:=xE 8 tt [] [] (fun _=>none) [] fun _=>none
def Zj(x:PT OB.ps):St:=⟨[(2,.v .nil),(0,.v (.d bH x.1.1))],[]⟩
theorem t197(x:PT OB.ps)(b:Bool):((de acq (.seq (df (dZ (df (aw f197)))) (df (df (aw f197)))) (((Zj x).a8 3 (.v (.d bH x.1.1),none)).a8 4 (.v (.d .bool b),none))).bind (Gx acq f197.results.toList OB.ps OB.rs OB.fresh)).run =
 cond b (zR []) (EE x.1.1):=by kernel_rfl
theorem QJ:bj 197 OB :=
 IX (E:=acq) (rB hT) (cD (l:=[]) trivial) iQ (fn:=f197) (c0:=dZ (aw f197)) (cc:=df (dZ (df (aw f197)))) (c3:=df (df (aw f197))) (id:=LJ (dZ (dZ (df (aw f197)))))
  (o1:=pU (dZ (dZ (df (aw f197)))) 0) (o2:=pU (dZ (dZ (df (aw f197)))) 1) (by kernel_rfl) (by kernel_rfl) (by kernel_rfl) rfl
  (bP (fun _=>rfl) _ (by kernel_rfl)) (bP (fun _=>rfl) _ (by kernel_rfl)) (bP (fun _=>rfl) _ (by kernel_rfl)) (t0:=0) (t3:=3) (t4:=4) (ty:=89) (Yl:=89) (e:=192) (e':=192) (HT:=24) (fl:=[]) (ks:=nj) (by kernel_rfl) (by kernel_rfl) (by kernel_rfl) (by kernel_rfl) (by kernel_rfl) (by kernel_rfl) (by kernel_rfl) (by kernel_rfl) (by kernel_rfl)
  Zj (fun x=>x.1.1) (fun x=>by kernel_rfl) (fun x=>by kernel_rfl) fun x y hy b hb=>by
   refine⟨y.1,fun _=>rfl,?_⟩
   rw[t197]
   have hy:EE x.1.1=some y:=hy
   cases b with
   | false=>exact hy
   | true =>
     have he:x.1.1=([]:List bz):=hb rfl
     rw[he]at hy
     exact hy
def Oh(p0:List R3):Option (Unit×OY×Unit):=cond (bl 8 ([]:List R3) p0) (zR p0) none
def Mt:=fU [aT [q3]] [(false,[q3])] fun x=>Oh x.1.1
def abU:En:=xE 8 tt [] [] (fun _=>none) [] fun _=>none
def aaC(x:PT Mt.ps):St:=⟨[(2,.v .nil),(0,.v (.d q3 x.1.1))],[]⟩
theorem t247(x:PT Mt.ps)(b:Bool):((de abU (.seq (df (dZ (df (aw f247)))) (df (df (aw f247)))) (((aaC x).a8 3 (.v (.d q3 x.1.1),none)).a8 4 (.v (.d .bool b),none))).bind (Gx abU f247.results.toList Mt.ps Mt.rs Mt.fresh)).run =
 cond b (zR []) (Oh x.1.1):=by kernel_rfl
theorem af7:bj 247 Mt :=
 IX (E:=abU) (rB hT) (cD (l:=[]) trivial) iQ (fn:=f247) (c0:=dZ (aw f247)) (cc:=df (dZ (df (aw f247)))) (c3:=df (df (aw f247))) (id:=LJ (dZ (dZ (df (aw f247)))))
  (o1:=pU (dZ (dZ (df (aw f247)))) 0) (o2:=pU (dZ (dZ (df (aw f247)))) 1) (by kernel_rfl) (by kernel_rfl) (by kernel_rfl) rfl
  (bP (fun _=>rfl) _ (by kernel_rfl)) (bP (fun _=>rfl) _ (by kernel_rfl)) (bP (fun _=>rfl) _ (by kernel_rfl)) (t0:=0) (t3:=3) (t4:=4) (ty:=52) (Yl:=52) (e:=3) (e':=3) (HT:=24) (fl:=[]) (ks:=u0) (by kernel_rfl) (by kernel_rfl) (by kernel_rfl) (by kernel_rfl) (by kernel_rfl) (by kernel_rfl) (by kernel_rfl) (by kernel_rfl) (by kernel_rfl)
  aaC (fun x=>x.1.1) (fun x=>by kernel_rfl) (fun x=>by kernel_rfl) fun x y hy b hb=>by
   refine⟨y.1,fun _=>rfl,?_⟩
   rw[t247]
   have hy:Oh x.1.1=some y:=hy
   cases b with
   | false=>exact hy
   | true =>
     have he:x.1.1=([]:List R3):=hb rfl
     rw[he]at hy
     exact hy
def DO(p0:Int×Int×(List R3)×(List R3)×Unit):Option Y56:=(Oh p0.2.2.1).bind fun y1=>(Oh p0.2.2.2.1).bind fun y2=>some ((),((p0.1,p0.2.1,y1.2.1.1,y2.2.1.1,()),()))
def aep:=fU [dL [af,af,q3,q3]] w6R fun x=>DO x.1
theorem L5:bj 198 aep:=fq (ac af7 an) f198
def IW(p0:List R5):Option (Unit×Y4×Unit):=cond (bl 1 ([]:List R5) p0) (zR p0) none
def NT:=fU [aT [q5]] w7R fun x=>IW x.1.1
def acr:En:=xE 8 tt [] [] (fun _=>none) [] fun _=>none
def Zy(x:PT NT.ps):St:=⟨[(2,.v .nil),(0,.v (.d q5 x.1.1))],[]⟩
theorem t128(x:PT NT.ps)(b:Bool):((de acr (.seq (df (dZ (df (aw f128)))) (df (df (aw f128)))) (((Zy x).a8 3 (.v (.d q5 x.1.1),none)).a8 4 (.v (.d .bool b),none))).bind (Gx acr f128.results.toList NT.ps NT.rs NT.fresh)).run =
 cond b (zR []) (IW x.1.1):=by kernel_rfl
theorem aaF:bj 128 NT :=
 IX (E:=acr) (rB hT) (cD (l:=[]) trivial) iQ (fn:=f128) (c0:=dZ (aw f128)) (cc:=df (dZ (df (aw f128)))) (c3:=df (df (aw f128))) (id:=LJ (dZ (dZ (df (aw f128)))))
  (o1:=pU (dZ (dZ (df (aw f128)))) 0) (o2:=pU (dZ (dZ (df (aw f128)))) 1) (by kernel_rfl) (by kernel_rfl) (by kernel_rfl) rfl
  (bP (fun _=>rfl) _ (by kernel_rfl)) (bP (fun _=>rfl) _ (by kernel_rfl)) (bP (fun _=>rfl) _ (by kernel_rfl)) (t0:=0) (t3:=3) (t4:=4) (ty:=38) (Yl:=38) (e:=5) (e':=5) (HT:=24) (fl:=[]) (ks:=xA) (by kernel_rfl) (by kernel_rfl) (by kernel_rfl) (by kernel_rfl) (by kernel_rfl) (by kernel_rfl) (by kernel_rfl) (by kernel_rfl) (by kernel_rfl)
  Zy (fun x=>x.1.1) (fun x=>by kernel_rfl) (fun x=>by kernel_rfl) fun x y hy b hb=>by
   refine⟨y.1,fun _=>rfl,?_⟩
   rw[t128]
   have hy:IW x.1.1=some y:=hy
   cases b with
   | false=>exact hy
   | true =>
     have he:x.1.1=([]:List R5):=hb rfl
     rw[he]at hy
     exact hy
def sa(t3 t7:List ch)(t8 t9:Int):Rd Y36 Unit:=cond (aE t9 t8) (cond (aX t9 t7) (let u1:=(gt d100 t7 t9);(IW u1.2.2.1).bind fun y1=>cond (bl 56 t3 [(u1.1,u1.2.1,y1.2.1.1,())]) (eA ((fQ t3 [(u1.1,u1.2.1,y1.2.1.1,())]),t7,t8,(ak .i64 t9 1),())) none) none) (eB (t3,t7,t8,t9,()))
def Ss:=rE (aq (eo sa))
def M9(p0:List ch):Option Y31:=(Ss [] p0 (ae p0) 0).bind (Sum.elim (fun y1=>zR y1.1) (fun _=>none))
def ain:=fU [aT [cl]] [(false,[cl])] fun x=>M9 x.1.1
theorem aaq:bj 136 ain:=fl (ac aaF an) [] [(0,⟨[.own 3 cl,.d 7 cl,.d 8 af,.d 9 af],aq (eo sa)⟩)] [] f136 (lp [0] (sc dV sn))
def Q6(p0:S8×Int×Int×Int×Int×(List bz)×Int×Int×(List R3)×(List R3)×(List ch)×Unit):Option Y72:=(EE p0.2.2.2.2.2.1).bind fun y1=>(DO (p0.2.2.2.2.2.2.1,p0.2.2.2.2.2.2.2.1,p0.2.2.2.2.2.2.2.2.1,p0.2.2.2.2.2.2.2.2.2.1,())).bind fun y2=>(M9 p0.2.2.2.2.2.2.2.2.2.2.1).bind fun y3=>some ((),((p0.1,p0.2.1,p0.2.2.1,p0.2.2.2.1,p0.2.2.2.2.1,y1.2.1.1,y2.2.1.1,y2.2.1.2.1,y2.2.1.2.2.1,y2.2.1.2.2.2.1,y3.2.1.1,()),()))
def akZ:=fU [dL [.str,af,af,af,af,bH,af,af,q3,q3,cl]] w8R fun x=>Q6 x.1
theorem aax:bj 106 akZ:=fq (ac QJ (ac L5 (ac aaq an))) f106
def tw(_:Unit)(t10:List gH)(t11 t12:Int)(b4 b5:(List gH)×Unit):Rd (Unit×(List gH)×Int×Int×Y6×Y6×Unit) Unit:=cond (aE t12 t11) (cond (aX t12 t10) ((Q6 (gt d94 t10 t12)).bind fun y1=>cond (bl 160 b5.1 [y1.2.1]) (eA ((),t10,t11,(ak .i64 t12 1),b4,((fQ b5.1 [y1.2.1]),()),())) none) none) (eB ((),t10,t11,t12,b4,b5,()))
def QK:=cu6 (aq (Fk tw))
def ab0(p0:(List gH)×Unit):Option Y30:=(QK () p0.1 (ae p0.1) 0 ([],()) ([],())).bind (Sum.elim (fun y1=>some ((),(y1.2.2.2.2.2.1,()))) (fun _=>none))
def aiJ:=fU [dL [kn],.fn 106 []] w9R fun x=>ab0 x.1
theorem agS:bj 105 aiJ:=fl (ac aax an) [] [(0,⟨[.fn 1 106 [],.d 10 kn,.d 11 af,.d 12 af,.box 4 [(true,kn)],.box 5 [(true,kn)]],aq (Fk tw)⟩)] [] f105 (lp [0] (sc dV sn))
def Jh(p0:(List gH)×Unit):Option Y30:=(ab0 p0).bind fun y1=>some ((),(y1.2.1,()))
def s58:=fU [dL [kn]] w9R fun x=>Jh x.1
theorem Jy:bj 58 s58:=fq (ac agS an) f58
def tj(t0:S8)(t5 t6:Int):Rd Y24 Y2:=cond (aE t6 t5) (cond (aX t6 t0) (let u1:=(fh t0 t6);cond (aE u1 48) (eC (false,())) (cond (aX t6 t0) (cond (aE 57 u1) (eC (false,())) (eA (t0,t5,(ak .i64 t6 1),()))) none)) none) (eB (t0,t5,t6,()))
def RY:=pG (aq (fE tj))
def wK(p0:S8):Option iA:=(RY p0 (ae p0) 0).bind (Sum.elim (fun y1=>zR (!(bF y1.1 []))) (fun y1=>some ((),(y1,()))))
def akW:=fU [aT [.str]] iN fun x=>wK x.1.1
theorem Bk:bj 108 akW:=fl an [.d 2 .bool] [(0,⟨[.d 0 .str,.d 5 af,.d 6 af],aq (fE tj)⟩)] [] f108 (lp [0] (sc dV sn))
def wv(t0:S8)(t3:Int)(t4:Bool)(t5:Int):Rd (S8×Int×Bool×Int×Unit) Unit:=cond (ck 0 t5) (cond (aX t5 t0) (cond t4 (let u1:=(dC .i64 (bf .u8 (fh t0 t5) 48));let u2:=(yg .i64 u1 2);cond (aE 9 u2) (let u3:=(bf .i64 t5 1);eA (t0,(ak .i64 t3 (bf .i64 u2 9)),(!t4),u3,())) (let u3:=(bf .i64 t5 1);eA (t0,(ak .i64 t3 u2),(!t4),u3,()))) (let u1:=(dC .i64 (bf .u8 (fh t0 t5) 48));let u2:=(bf .i64 t5 1);eA (t0,(ak .i64 t3 u1),(!t4),u2,()))) none) (eB (t0,t3,t4,t5,()))
def PH:=rE (aq (eo wv))
def VT(p0:S8):Option iL:=(wK p0).bind fun y1=>cond (!y1.2.1.1) (c2) ((PH p0 0 true (bf .i64 (ae p0) 1)).bind (Sum.elim (fun y2=>zR (eH (bf .i64 10 (eH y2.2.1 10)) 10)) (fun _=>none)))
def ajh:=fU [aT [.str]] jl fun x=>VT x.1.1
theorem agx:bj 275 ajh:=fl (ac Bk an) [] [(0,⟨[.d 0 .str,.d 3 af,.d 4 .bool,.d 5 af],aq (eo wv)⟩)] [] f275 (lp [0] (sc dV sn))
def Ws(p0:S8):Option iA:=let u1:=(bf .i64 (ae p0) 1);cond (ck 1 u1) ((wK p0).bind fun y1=>cond y1.2.1.1 (cond (eV 0 u1 p0) ((VT (sub p0 0 u1)).bind fun y2=>cond (aX u1 p0) (zR (aj y2.2.1.1 (dC .i64 (bf .u8 (fh p0 u1) 48)))) none) none) (c0)) (c0)
def akJ:=fU [aT [.str]] iN fun x=>Ws x.1.1
theorem aeK:bj 244 akJ:=fq (ac Bk (ac agx an)) f244
def xg(p0:S8):Option iA:=cond (ck (ae p0) 19) ((Ws p0).bind fun y1=>some ((),(y1.2.1,()))) (c0)
def ajS:=fU [aT [.str]] iN fun x=>xg x.1.1
theorem Zd:bj 191 ajS:=fq (ac aeK an) f191
def jc(p0 p1 p2:Int):Option iA:=zR (cond (ck p1 p0) (ck p0 p2) false)
def ajp:=fU [aT [af],aT [af],aT [af]] iN fun x=>jc x.1.1 x.2.1.1 x.2.2.1.1
theorem kf:bj 104 ajp:=fq an f104
def QP(p0:Int):Option iA:=(jc p0 0 4611686018427387904).bind fun y1=>some ((),(y1.2.1,()))
def afQ:=fU [aT [af]] iN fun x=>QP x.1.1
theorem Lp:bj 192 afQ:=fq (ac kf an) f192
def uh(t0:S8)(t5 t6:Int):Rd Y24 Y2:=cond (aE t6 t5) (cond (aX t6 t0) (let u1:=(fh t0 t6);cond (aE u1 48) (cond (aX t6 t0) (cond (aE u1 97) (eC (false,())) (cond (aX t6 t0) (cond (aE 122 u1) (eC (false,())) (eA (t0,t5,(ak .i64 t6 1),()))) none)) none) (cond (aX t6 t0) (cond (aE 57 u1) (cond (aX t6 t0) (cond (aE u1 97) (eC (false,())) (cond (aX t6 t0) (cond (aE 122 u1) (eC (false,())) (eA (t0,t5,(ak .i64 t6 1),()))) none)) none) (eA (t0,t5,(ak .i64 t6 1),()))) none)) none) (eB (t0,t5,t6,()))
def RH:=pG (aq (fE uh))
def Hq(p0:S8):Option iA:=(RH p0 (ae p0) 0).bind (Sum.elim (fun y1=>(jc (ae y1.1) 1 6).bind fun y2=>some ((),(y2.2.1,()))) (fun y1=>some ((),(y1,()))))
def agF:=fU [aT [.str]] iN fun x=>Hq x.1.1
theorem zg:bj 204 agF:=fl (ac kf an) [.d 2 .bool] [(0,⟨[.d 0 .str,.d 5 af,.d 6 af],aq (fE uh)⟩)] [] f204 (lp [0] (sc dV sn))
def Og(p0:Int):Option iA:=(jc p0 0 1000000000).bind fun y1=>some ((),(y1.2.1,()))
def s57:=fU [aT [af]] iN fun x=>Og x.1.1
theorem sQ:bj 57 s57:=fq (ac kf an) f57
def XR(p0:S8×Int×Int×Unit):Option iA:=(Hq p0.1).bind fun y1=>cond y1.2.1.1 ((jc p0.2.1 1 9007199254740992).bind fun y2=>cond y2.2.1.1 ((Og p0.2.2.1).bind fun y3=>some ((),(y3.2.1,()))) (c0)) (c0)
def akF:=fU [dL [.str,af,af]] iN fun x=>XR x.1
theorem ag9:bj 245 akF:=fq (ac kf (ac zg (ac sQ an))) f245
def sN(t0 t5:List bz)(t6 t7:Int):Rd ((List bz)×(List bz)×Int×Int×Unit) Y2:=cond (aE t7 t6) (cond (aX t7 t5) (let u1:=(gt d192 t5 t7);(XR u1).bind fun y1=>cond (!y1.2.1.1) (eC (false,())) (cond (aE 0 t7) (let u2:=(bf .i64 t7 1);cond (aX u2 t0) (cond (leS u1.1 (gt d192 t0 u2).1) (eC (false,())) (eA (t0,t5,t6,(ak .i64 t7 1),()))) none) (eA (t0,t5,t6,(ak .i64 t7 1),())))) none) (eB (t0,t5,t6,t7,()))
def RW:=rE (aq (eo sN))
def NH(p0:List bz):Option iA:=(RW p0 p0 (ae p0) 0).bind (Sum.elim (fun y1=>zR (ck (ae y1.1) 4)) (fun y1=>some ((),(y1,()))))
def akC:=fU [aT [bH]] iN fun x=>NH x.1.1
theorem aah:bj 193 akC:=fl (ac ag9 an) [.d 2 .bool] [(0,⟨[.d 0 bH,.d 5 bH,.d 6 af,.d 7 af],aq (eo sN)⟩)] [] f193 (lp [0] (sc dV sn))
def WQ(p1:Int):Option Y26:=cond (aE p1 0) (none) (let u1:=(bf .i64 p1 (bf .i64 0 0));cond (aE 0 u1) (cond (agh 0 0) (cond (mzB 8 u1) (let u2:=(wM d3 u1);cond (eV 0 0 u2) (zR (XE u2 0)) none) none) none) (zR []))
def ak4:=fU [.nil,aT [af]] [(false,[q3])] fun x=>WQ x.1.1
theorem ag4:bj 276 ak4:=fq an f276
def xb(t0:List OY)(t3:Int)(t9:List OY)(t10 t11:Int):Rd ((List OY)×Int×(List OY)×Int×Int×Unit) Unit:=cond (aE t11 t10) (cond (aX t11 t9) (let u1:=(ak .i64 t3 (ae (gt d52 t9 t11).1));cond (aE u1 0) (none) (eA (t0,u1,t9,t10,(ak .i64 t11 1),()))) none) (eB (t0,t3,t9,t10,t11,()))
def JV:=O2 (aq (pZ xb))
def wP(t6:List R3)(t25:List OY)(t26 t27:Int):Rd ((List R3)×(List OY)×Int×Int×Unit) Unit:=cond (aE t27 t26) (cond (aX t27 t25) (cond (bl 8 t6 (gt d52 t25 t27).1) (eA ((fQ t6 (gt d52 t25 t27).1),t25,t26,(ak .i64 t27 1),())) none) none) (eB (t6,t25,t26,t27,()))
def Jc:=rE (aq (eo wP))
def XW(p0:List OY):Option Y26:=(JV p0 0 p0 (ae p0) 0).bind (Sum.elim (fun y1=>(WQ y1.2.1).bind fun y2=>(Jc y2.2.1.1 y1.1 (ae y1.1) 0).bind (Sum.elim (fun y3=>zR y3.1) (fun _=>none))) (fun _=>none))
def ajK:=fU [aT [.sl 52 TR]] [(false,[q3])] fun x=>XW x.1.1
theorem afr:bj 246 ajK:=fl (ac ag4 an) [] [(0,⟨[.d 0 (.sl 52 TR),.d 3 af,.d 9 (.sl 52 TR),.d 10 af,.d 11 af],aq (pZ xb)⟩),(2,⟨[.own 6 q3,.d 25 (.sl 52 TR),.d 26 af,.d 27 af],aq (eo wP)⟩)] [] f246 (lp [0,2] (sc dV (sc dV sn)))
def sw(t3:Int)(t14:List R3)(t15 t16:Int)(b1:Int×Int×(List R3)×(List R3)×Unit):Rd (Int×(List R3)×Int×Int×Y34×Unit) Y2:=cond (aE t16 t15) (cond (aX t16 t14) ((QP (gt d3 t14 t16).1).bind fun y1=>cond (!y1.2.1.1) (eC (false,())) (eA (t3,t14,t15,(ak .i64 t16 1),b1,()))) none) (eB (t3,t14,t15,t16,b1,()))
def Sq:=O2 (aq (pZ sw))
def Eo(p0:Int×Int×(List R3)×(List R3)×Unit):Option iA:=(XW [(p0.2.2.1,()),(p0.2.2.2.1,())]).bind fun y1=>(Sq (ae p0.2.2.1) y1.2.1.1 (ae y1.2.1.1) 0 p0).bind (Sum.elim (fun y2=>(jc y2.2.2.2.2.1.1 1 1000).bind fun y3=>cond y3.2.1.1 ((jc y2.1 1 8).bind fun y4=>cond (cond y4.2.1.1 (aj (ae y2.2.2.2.2.1.2.2.2.1) y2.1) false) ((Og y2.2.2.2.2.1.2.1).bind fun y5=>some ((),(y5.2.1,()))) (c0)) (c0)) (fun y2=>some ((),(y2,()))))
def agc:=fU [dL [af,af,q3,q3]] iN fun x=>Eo x.1
theorem Df:bj 194 agc:=fl (ac kf (ac Lp (ac sQ (ac afr an)))) [.d 2 .bool] [(0,⟨[.d 3 af,.own 14 q3,.d 15 af,.d 16 af,.box 1 [(false,.int .i64),(false,.int .i64),(false,q3),(false,q3)]],aq (pZ sw)⟩)] [] f194 (lp [0] (sc dV sn))
def yf(p0:S8)(p1:Int):Option iA:=(wK p0).bind fun y1=>zR (cond y1.2.1.1 (aj (ae p0) p1) false)
def ajT:=fU [aT [.str],aT [af]] iN fun x=>yf x.1.1 x.2.1.1
theorem LP:bj 109 ajT:=fq (ac Bk an) f109
def X4(p0:S8×S8×(List R5)×Unit):Option iA:=(yf p0.1 6).bind fun y1=>cond y1.2.1.1 ((yf p0.2.1 4).bind fun y2=>cond y2.2.1.1 ((jc (ae p0.2.2.1) 1 200).bind fun y3=>some ((),(y3.2.1,()))) (c0)) (c0)
def ajH:=fU [dL [.str,.str,q5]] iN fun x=>X4 x.1
theorem afe:bj 218 ajH:=fq (ac kf (ac LP an)) f218
def acD(p0:S8×S8×(List R5)×Unit)(p1 p2:S8×Unit):Option iA:=zR (cond (bF p0.1 p1.1) (bF p0.2.1 p2.1) false)
def aiG:=fU [dL [.str,.str,q5],.pt [.str],.pt [.str]] iN fun x=>acD x.1 x.2.1 x.2.2.1
theorem afz:bj 208 aiG:=fq an f208
def tT(t0:List ch)(f1:Bb×Bb×Unit)(t7 t8:Int):Rd ((List ch)×(Bb×Bb×Unit)×Int×Int×Unit) Y1:=cond (aE t8 t7) (cond (aX t8 t0) ((acD (gt d100 t0 t8) f1.1 f1.2.1).bind fun y1=>cond y1.2.1.1 (eC (t8,())) (eA (t0,f1,t7,(ak .i64 t8 1),()))) none) (eB (t0,f1,t7,t8,()))
def T0:=rE (aq (eo tT))
def adL(p0:List ch)(c1_0 c1_1:S8×Unit):Option iL:=(T0 p0 (c1_0,c1_1,()) (ae p0) 0).bind (Sum.elim (fun _=>c2) (fun y1=>some ((),(y1,()))))
def ajA:=fU [aT [cl],.fn 208 [.p [.str],.p [.str]]] jl fun x=>adL x.1.1 x.2.1.1 x.2.1.2.1
theorem afk:bj 207 ajA:=fl (ac afz an) [.d 4 af] [(0,⟨[.d 0 cl,.fn 1 208 [.p [.str],.p [.str]],.d 7 af,.d 8 af],aq (eo tT)⟩)] [] f207 (lp [0] (sc dV sn))
def P8(p0:List ch)(p1 p2:S8):Option iL:=(adL p0 (p1,()) (p2,())).bind fun y1=>some ((),(y1.2.1,()))
def ak7:=fU [aT [cl],aT [.str],aT [.str]] jl fun x=>P8 x.1.1 x.2.1.1 x.2.2.1.1
theorem Zt:bj 127 ak7:=fq (ac afk an) f127
def sV(t0 t5:List ch)(t6 t7:Int):Rd Y36 Y2:=cond (aE t7 t6) (cond (aX t7 t5) (let u1:=(gt d100 t5 t7);(X4 u1).bind fun y1=>cond (!y1.2.1.1) (eC (false,())) ((P8 t0 u1.1 u1.2.1).bind fun y2=>cond (!(aj y2.2.1.1 t7)) (eC (false,())) (eA (t0,t5,t6,(ak .i64 t7 1),())))) none) (eB (t0,t5,t6,t7,()))
def Qh:=rE (aq (eo sV))
def Sb(p0:List ch):Option iA:=(Qh p0 p0 (ae p0) 0).bind (Sum.elim (fun y1=>zR (ck (ae y1.1) 6)) (fun y1=>some ((),(y1,()))))
def akB:=fU [aT [cl]] iN fun x=>Sb x.1.1
theorem aaI:bj 138 akB:=fl (ac afe (ac Zt an)) [.d 2 .bool] [(0,⟨[.d 0 cl,.d 5 cl,.d 6 af,.d 7 af],aq (eo sV)⟩)] [] f138 (lp [0] (sc dV sn))
def B4(p0 p1:Int):Option iL:=let u1:=(JA 0 (UX p1 4611686018427387904));let u2:=(JA 0 (UX p0 4611686018427387904));cond (aE (bf .i64 4611686018427387904 u1) u2) (c28) (zR (ak .i64 u2 u1))
def agk:=fU [aT [af],aT [af]] jl fun x=>B4 x.1.1 x.2.1.1
theorem CO:bj 195 agk:=fq an f195
def tG(t3:Int)(t6:List bz)(t7 t8:Int):Rd (Int×(List bz)×Int×Int×Unit) Unit:=cond (aE t8 t7) (cond (aX t8 t6) ((B4 t3 (gt d192 t6 t8).2.1).bind fun y1=>eA (y1.2.1.1,t6,t7,(ak .i64 t8 1),())) none) (eB (t3,t6,t7,t8,()))
def QU:=rE (aq (eo tG))
def QI(p0:List bz):Option iL:=(QU 0 p0 (ae p0) 0).bind (Sum.elim (fun y1=>zR y1.1) (fun _=>none))
def aik:=fU [aT [bH]] jl fun x=>QI x.1.1
theorem Zk:bj 196 aik:=fl (ac CO an) [] [(0,⟨[.d 3 af,.d 6 bH,.d 7 af,.d 8 af],aq (eo tG)⟩)] [] f196 (lp [0] (sc dV sn))
def IL(p0:S8×Int×Int×Int×Int×(List bz)×Int×Int×(List R3)×(List R3)×(List ch)×Unit):Option iA:=(xg p0.1).bind fun y1=>cond y1.2.1.1 ((jc p0.2.1 0 9007199254740992).bind fun y2=>cond y2.2.1.1 ((jc p0.2.2.2.1 0 1000).bind fun y3=>cond y3.2.1.1 ((jc p0.2.2.2.2.1 0 9007199254740992).bind fun y4=>cond y4.2.1.1 ((QP p0.2.2.1).bind fun y5=>cond y5.2.1.1 ((NH p0.2.2.2.2.2.1).bind fun y6=>cond y6.2.1.1 ((Eo (p0.2.2.2.2.2.2.1,p0.2.2.2.2.2.2.2.1,p0.2.2.2.2.2.2.2.2.1,p0.2.2.2.2.2.2.2.2.2.1,())).bind fun y7=>cond y7.2.1.1 ((Sb p0.2.2.2.2.2.2.2.2.2.2.1).bind fun y8=>cond y8.2.1.1 ((QI p0.2.2.2.2.2.1).bind fun y9=>(B4 p0.2.2.1 y9.2.1.1).bind fun iU=>zR (ck iU.2.1.1 p0.2.1)) (c0)) (c0)) (c0)) (c0)) (c0)) (c0)) (c0)) (c0)
def akz:=fU [dL [.str,af,af,af,af,bH,af,af,q3,q3,cl]] iN fun x=>IL x.1
theorem Mc:bj 103 akz:=fq (ac Zd (ac kf (ac Lp (ac aah (ac Df (ac aaI (ac CO (ac Zk an)))))))) f103
def Xk(p0:S8×Int×Int×Unit)(p1:Int):Option iA:=zR (aE p1 p0.2.2.1)
def aiP:=fU [dL [.str,af,af],aT [af]] iN fun x=>Xk x.1 x.2.1.1
theorem ahm:bj 268 aiP:=fq an f268
def S0(p0:S8×Int×Int×Unit)(p1:Int×Unit):Option iA:=(Xk p0 p1.1).bind fun y1=>zR (!y1.2.1.1)
def aez:=fU [dL [.str,af,af],.pt [af]] iN fun x=>S0 x.1 x.2.1
theorem Yw:bj 267 aez:=fq (ac ahm an) f267
def tD(t0:List bz)(f1:Y1×Unit)(t7 t8:Int):Rd ((List bz)×Y9×Int×Int×Unit) Y1:=cond (aE t8 t7) (cond (aX t8 t0) ((S0 (gt d192 t0 t8) f1.1).bind fun y1=>cond y1.2.1.1 (eC (t8,())) (eA (t0,f1,t7,(ak .i64 t8 1),()))) none) (eB (t0,f1,t7,t8,()))
def Ri:=rE (aq (eo tD))
def Xx(p0:List bz)(c1_0:Int×Unit):Option iL:=(Ri p0 (c1_0,()) (ae p0) 0).bind (Sum.elim (fun _=>c2) (fun y1=>some ((),(y1,()))))
def afx:=fU [aT [bH],.fn 267 [.p [af]]] jl fun x=>Xx x.1.1 x.2.1.1
theorem aes:bj 256 afx:=fl (ac Yw an) [.d 4 af] [(0,⟨[.d 0 bH,.fn 1 267 [.p [af]],.d 7 af,.d 8 af],aq (eo tD)⟩)] [] f256 (lp [0] (sc dV sn))
def qh(t0:List bz)(f1:Y1×Unit)(t5 t6:Int):Rd ((List bz)×Y9×Int×Int×Unit) Unit:=cond (aE t6 (ae t0)) (cond (aX t6 t0) (let u1:=(gt d192 t0 t6);(S0 u1 f1.1).bind fun y1=>cond (!y1.2.1.1) (cond (aX t5 t0) (let u2:=(gt d192 t0 t5);let u3:=(cZ t0 t5 (u1.1,u2.2.1,u2.2.2.1,()));let u4:=(gt d192 u3 t5);let u5:=(cZ u3 t5 (u4.1,u1.2.1,u4.2.2.1,()));let u6:=(gt d192 u5 t5);let u7:=(ak .i64 t6 1);eA ((cZ u5 t5 (u6.1,u6.2.1,u1.2.2.1,())),f1,(ak .i64 t5 1),u7,())) none) (let u2:=(ak .i64 t6 1);eA (t0,f1,t5,u2,()))) none) (eB (t0,f1,t5,t6,()))
def D7:=rE (aq (eo qh))
def Sl(p0:List bz)(c1_0:Int×Unit):Option Y32:=(Xx p0 c1_0).bind fun y1=>cond (aj y1.2.1.1 (-1)) (zR p0) ((D7 p0 (c1_0,()) y1.2.1.1 (ak .i64 y1.2.1.1 1)).bind (Sum.elim (fun y2=>cond (eV y2.2.2.1 (ae y2.1) y2.1) (let u1:=(nJ d192 y2.1 y2.2.2.1);cond (eV 0 y2.2.2.1 u1) (zR (XE u1 y2.2.2.1)) none) none) (fun _=>none)))
def Xz:=fU [.mv bH,.fn 267 [.p [af]]] VF fun x=>Sl x.1 x.2.1.1
def uN:List SE:=[.own 0 bH,.fn 1 267 [.p [af]],.d 5 af,.d 6 af]
def Zp:List SE:=[]
def afi:Nat->Option (Lo Zp)
 | 0=>some ⟨uN,eo D7⟩
 | _=>none
def Zf:List Y0:=[(267,iS aez),(256,iS afx)]
def afb:Nat->Option (St->Tr St)
 | 11=>some (wm 36 37 38 0 5 nj)
 | _=>none
def II:En:=xE 42 tt Zf Zp afi [] (afb)
theorem acv(x:ff uN):(nE II 0 uN (kK 0 (aw f262)) x).run=eo qh x:=by kernel_rfl
theorem t262(x:PT Xz.ps):(Ii II (aw f262) f262.results.toList Xz.ps Xz.rs true x).run=Sl x.1 x.2.1.1:=by kernel_rfl
theorem Ta:dO prog II:=cD (l:=Zf) ⟨Yw,aes,trivial⟩
theorem WJ:dA prog II (bq 11 (aw f262)) (wm 36 37 38 0 5 nj) :=
 CS (E:=II) (rB hT) (rid:=11) (ta:=36) (tb:=37) (tc:=38) (t0:=0) (tI:=5) (ty:=89) (o1:=pU (bq 11 (aw f262)) 0) (o2:=pU (bq 11 (aw f262)) 1) (o3:=pU (bq 11 (aw f262)) 2) (o4:=pU (bq 11 (aw f262)) 3) (c:=Pv (pU (bq 11 (aw f262)) 3)) (te:=⟨true,nj,0,32,[(0,9),(1,3),(2,3)]⟩)
  (by kernel_rfl) (by kernel_rfl) (by kernel_rfl) (by kernel_rfl) (by kernel_rfl) (by kernel_rfl) (by kernel_rfl) (by kernel_rfl) (by kernel_rfl) (by kernel_rfl) (by kernel_rfl) (by kernel_rfl) (by kernel_rfl) (by kernel_rfl) (by kernel_rfl) (by kernel_rfl) (by kernel_rfl) (by kernel_rfl) (by kernel_rfl) (by kernel_rfl) (by kernel_rfl)
theorem abT:j4 prog II 0 (.loop (kK 0 (aw f262))) ⟨uN,eo D7⟩ :=
 D6 (rB hT) Ta iQ (step:=fun(x:ff uN)=>qh x.1 x.2.1 x.2.2.1 x.2.2.2.1) acv (db [] (by kernel_rfl) trivial [] (by kernel_rfl) trivial)
theorem aeu:bj 262 Xz :=
 pN (E:=II) (rB hT) Ta iQ (fn:=f262) (c:=(aw f262)) (by kernel_rfl) (by kernel_rfl) (by kernel_rfl) rfl (db [(0,.loop (kK 0 (aw f262)))] (by kernel_rfl) ⟨XJ rfl abT,trivial⟩ [(11,bq 11 (aw f262))] (by kernel_rfl) ⟨uk rfl WJ,trivial⟩) fun x y h=>⟨y.1,fun _=>rfl,(t262 x).trans h⟩
def Po(p0:List bz)(p1:Int):Option Y32:=(EE p0).bind fun y1=>(Sl y1.2.1.1 (p1,())).bind fun y2=>some ((),(y2.2.1,()))
def ai9:=fU [aT [bH],aT [af]] VF fun x=>Po x.1.1 x.2.1.1
theorem aaj:bj 220 ai9:=fq (ac QJ (ac aeu an)) f220
def Q8(p0:S8×Int×Int×Int×Int×(List bz)×Int×Int×(List R3)×(List R3)×(List ch)×Unit)(p1:Int):Option Y72:=(Q6 p0).bind fun y1=>(IL p0).bind fun y2=>cond y2.2.1.1 ((Og p1).bind fun y3=>cond y3.2.1.1 ((Po p0.2.2.2.2.2.1 p1).bind fun y4=>some ((),((y1.2.1.1,y1.2.1.2.1,y1.2.1.2.2.1,y1.2.1.2.2.2.1,y1.2.1.2.2.2.2.1,y4.2.1.1,y1.2.1.2.2.2.2.2.2.1,y1.2.1.2.2.2.2.2.2.2.1,y1.2.1.2.2.2.2.2.2.2.2.1,y1.2.1.2.2.2.2.2.2.2.2.2.1,y1.2.1.2.2.2.2.2.2.2.2.2.2.1,()),()))) (some ((),(y1.2.1,())))) (some ((),(y1.2.1,())))
def ajg:=fU [dL [.str,af,af,af,af,bH,af,af,q3,q3,cl],aT [af]] w8R fun x=>Q8 x.1 x.2.1.1
theorem aaS:bj 147 ajg:=fq (ac aax (ac sQ (ac Mc (ac aaj an)))) f147
def acC(p0:S8×Int×Int×Int×Int×(List bz)×Int×Int×(List R3)×(List R3)×(List ch)×Unit)(p1:Int×Unit):Option Y72:=(Q8 p0 p1.1).bind fun y1=>some ((),(y1.2.1,()))
def aiF:=fU [dL [.str,af,af,af,af,bH,af,af,q3,q3,cl],.pt [af]] w8R fun x=>acC x.1 x.2.1
theorem agE:bj 146 aiF:=fq (ac aaS an) f146
def mu(f1:Y1×Unit)(t10:List gH)(t11 t12:Int)(b4 b5:(List gH)×Unit):Rd (Y9×(List gH)×Int×Int×Y6×Y6×Unit) Unit:=cond (aE t12 t11) (cond (aX t12 t10) ((acC (gt d94 t10 t12) f1.1).bind fun y1=>cond (bl 160 b5.1 [y1.2.1]) (eA (f1,t10,t11,(ak .i64 t12 1),b4,((fQ b5.1 [y1.2.1]),()),())) none) none) (eB (f1,t10,t11,t12,b4,b5,()))
def GK:=cu6 (aq (Fk mu))
def Iw(p0:(List gH)×Unit)(c1_0:Int×Unit):Option Y30:=(GK (c1_0,()) p0.1 (ae p0.1) 0 ([],()) ([],())).bind (Sum.elim (fun y1=>some ((),(y1.2.2.2.2.2.1,()))) (fun _=>none))
def abq:=fU [dL [kn],.fn 146 [.p [af]]] w9R fun x=>Iw x.1 x.2.1.1
theorem Vz:bj 105 abq:=fl (ac agE an) [] [(0,⟨[.fn 1 146 [.p [af]],.d 10 kn,.d 11 af,.d 12 af,.box 4 [(true,kn)],.box 5 [(true,kn)]],aq (Fk mu)⟩)] [] f105 (lp [0] (sc dV sn))
def g72(p0:(List gH)×Unit)(p1:Int):Option Y30:=(Iw p0 (p1,())).bind fun y1=>some ((),(y1.2.1,()))
def s72:=fU [dL [kn],aT [af]] w9R fun x=>g72 x.1 x.2.1.1
theorem afq:bj 72 s72:=fq (ac Vz an) f72
def DL(p0:List R5)(p1 p2:Int):Option O0:=let u1:=(ae p0);(jc p1 0 u1).bind fun y1=>cond (cond (cond (!y1.2.1.1) true (aE p2 0)) true (aE (bf .i64 u1 p1) p2)) (c7) (let u2:=(ak .i64 p1 p2);cond (eV p1 u2 p0) (some ((),(((sub p0 p1 u2),()),(true,()),()))) none)
def aiq:Su:=⟨[.c false [q5],.c false [af],.c false [af]],[(false,[q5]),(false,[.bool])],false,.inl fun x=>DL x.1.1 x.2.1.1 x.2.2.1.1⟩
theorem SW:bj 107 aiq:=fq (ac kf an) f107
def Bj(t1 t2:Int)(t9:List R5)(t10:Bool)(t11 t27:List R5)(t28 t29:Int):Rd (Int×Int×(List R5)×Bool×(List R5)×(List R5)×Int×Int×Unit) Unit:=cond (aE t29 t28) (cond (aX t29 t27) (cond (bl 1 t11 [((ak .u8 48 (rH .u8 (gt d5 t27 t29).1 4)),()),((ak .u8 48 (MP .u8 (gt d5 t27 t29).1 15)),())]) (eA (t1,t2,t9,t10,(fQ t11 [((ak .u8 48 (rH .u8 (gt d5 t27 t29).1 4)),()),((ak .u8 48 (MP .u8 (gt d5 t27 t29).1 15)),())]),t27,t28,(ak .i64 t29 1),())) none) none) (eB (t1,t2,t9,t10,t11,t27,t28,t29,()))
def Yy:=cu8 (aq (Xe Bj))
def Sw(p0:List R5)(p1 p2:Int):Option Y65:=(jc p2 1 38).bind fun y1=>cond (!y1.2.1.1) (c4) ((DL p0 p1 (kq .i64 (ak .i64 p2 1) 2)).bind fun y2=>(Yy p1 p2 y2.2.1.1 y2.2.2.1.1 [] y2.2.1.1 (ae y2.2.1.1) 0).bind (Sum.elim (fun y3=>cond (!y3.2.2.2.1) (c4) ((wK (strOf y3.2.2.2.2.1)).bind fun y4=>cond (!y4.2.1.1) (c4) (cond (aj (eH y3.2.1 2) 1) (cond (aX 0 y3.2.2.2.2.1) (cond (!(aj (gt d5 y3.2.2.2.2.1 0).1 48)) (c4) (let u1:=(ae y3.2.2.2.2.1);let u2:=(bf .i64 u1 y3.2.1);let u3:=(eV u2 u1 y3.2.2.2.2.1);cond u3 (some ((),(((strOf (sub y3.2.2.2.2.1 u2 u1)),()),((ak .i64 y3.1 (ae y3.2.2.1)),()),(true,()),()))) none)) none) (let u1:=(ae y3.2.2.2.2.1);let u2:=(bf .i64 u1 y3.2.1);let u3:=(eV u2 u1 y3.2.2.2.2.1);cond u3 (some ((),(((strOf (sub y3.2.2.2.2.1 u2 u1)),()),((ak .i64 y3.1 (ae y3.2.2.1)),()),(true,()),()))) none)))) (fun _=>none)))
def s59:=fU [aT [q5],aT [af],aT [af]] WH fun x=>Sw x.1.1 x.2.1.1 x.2.2.1.1
theorem MR:bj 59 s59:=fl (ac Bk (ac kf (ac SW an))) [] [(0,⟨[.d 1 af,.d 2 af,.d 9 q5,.d 10 .bool,.own 11 q5,.d 27 q5,.d 28 af,.d 29 af],aq (Xe Bj)⟩)] [] f59 (lp [0] (sc dV sn))
def wc(t1:Int)(t7:List R5)(t9:List R3)(t10:Int):Rd (Int×(List R5)×(List R3)×Int×Unit) Unit:=cond (ck t10 64) (let u1:=(bf .i64 t10 1);let u2:=(kq .i64 u1 8);cond (aX u2 t7) (let u3:=(eH u1 8);cond (ck 0 u3) (cond (!(aj (MP .u8 (gt d5 t7 u2).1 (rH .u8 128 u3)) 0)) (cond (bl 8 t9 [(t10,())]) (let u4:=(ak .i64 t10 1);eA (t1,t7,(fQ t9 [(t10,())]),u4,())) none) (let u4:=(ak .i64 t10 1);eA (t1,t7,t9,u4,()))) none) none) (eB (t1,t7,t9,t10,()))
def Tx:=rE (aq (eo wc))
def GI(p0:List R5)(p1:Int):Option Y61:=(DL p0 p1 8).bind fun y1=>cond (!y1.2.2.1.1) (c16) ((Tx p1 y1.2.1.1 [] 1).bind (Sum.elim (fun y2=>some ((),((y2.2.2.1,()),((ak .i64 y2.1 8),()),(true,()),()))) (fun _=>none)))
def ak8:=fU [aT [q5],aT [af]] [(false,[q3]),(false,[af]),(false,[.bool])] fun x=>GI x.1.1 x.2.1.1
theorem ahw:bj 100 ak8:=fl (ac SW an) [] [(0,⟨[.d 1 af,.d 7 q5,.own 9 q3,.d 10 af],aq (eo wc)⟩)] [] f100 (lp [0] (sc dV sn))
def afH  : Option (Unit×(((List Jg)×Unit)×Unit)):=zR [(2,3,19,()),(3,1,6,()),(4,1,12,()),(7,1,10,()),(11,1,6,()),(14,1,4,()),(37,2,12,()),(38,2,6,()),(39,2,2,()),(41,2,8,()),(48,5,60,()),(49,1,3,()),(54,5,60,()),(95,2,12,()),(102,4,20,()),(103,4,20,())]
def akT:=fU [] [(false,[.sl 188 Qg])] fun x=>afH 
theorem ae9:bj 242 akT:=fq an f242
def we(t0:Int)(t5:List Jg)(t6 t7:Int)(b2:Int×Int×Int×Unit):Rd (Int×(List Jg)×Int×Int×Jg×Unit) (Jg×Unit):=cond (aE t7 t6) (cond (aX t7 t5) (let u1:=(gt d188 t5 t7);cond (aj u1.1 t0) (eC (u1,())) (eA (t0,t5,t6,(ak .i64 t7 1),b2,()))) none) (eB (t0,t5,t6,t7,b2,()))
def Tu:=O2 (aq (pZ we))
def Ms(p0:Int):Option (Unit×(Jg×Unit)):=(afH).bind fun y1=>(Tu p0 y1.2.1.1 (ae y1.2.1.1) 0 (0,0,0,())).bind (Sum.elim (fun _=>some ((),((0,0,0,()),()))) (fun y2=>some ((),(y2.1,()))))
def akH:=fU [aT [af]] [(true,[af,af,af])] fun x=>Ms x.1.1
theorem Qx:bj 186 akH:=fl (ac ae9 an) [.box 2 [(false,.int .i64),(false,.int .i64),(false,.int .i64)]] [(0,⟨[.d 0 af,.own 5 (.sl 188 Qg),.d 6 af,.d 7 af,.box 2 [(false,.int .i64),(false,.int .i64),(false,.int .i64)]],aq (pZ we)⟩)] [] f186 (lp [0] (sc dV sn))
def Ef(p0:Int):Option iL:=(Ms p0).bind fun y1=>zR y1.2.1.2.1
def ala:=fU [aT [af]] jl fun x=>Ef x.1.1
theorem Gn:bj 101 ala:=fq (ac Qx an) f101
def Sk(p0:Int):Option iL:=(Ms p0).bind fun y1=>zR y1.2.1.2.2.1
def aix:=fU [aT [af]] jl fun x=>Sk x.1.1
theorem ZN:bj 187 aix:=fq (ac Qx an) f187
def HH(p0:Int):Option iL:=(Ef p0).bind fun y1=>cond (aj y1.2.1.1 5) (c17) (c9)
def ait:=fU [aT [af]] jl fun x=>HH x.1.1
theorem ZV:bj 189 ait:=fq (ac Gn an) f189
section
open Go.RowKit Go.Lib
theorem aji:LI prog 121 108 201:=by
 intro s b v w R R2 hd ha
 have e1:Enters prog 108:=enters_of (fn:=f108) (c:=aw f108) (by kernel_rfl) (by kernel_rfl) (by kernel_rfl)
 have e2:Enters prog 201:=enters_of (fn:=f201) (c:=aw f201) (by kernel_rfl) (by kernel_rfl) (by kernel_rfl)
 have dh:s.size<9223372036854775808∨9223372036854775808<=s.size:=amv _ _
 cases b with
 | false =>
   go_enter Tryz.func121,Tryz.ntmps121
   go_wp2_with (go_at_call 108; refine hd.mono ?_; rintro e W1 ⟨rfl,hW⟩)
   go_ret2
   exact .inr ⟨by simp,rfl,hW⟩
 | true =>
   by_cases hs:s.size<=18
   . have hb:=ha rfl hs
     have h1:¬ (18:Int)<(s.size:Int):=by omega
     go_enter Tryz.func121,Tryz.ntmps121
     go_wp2_with (first
      | (go_at_call 108; refine hd.mono ?_; rintro e W1 ⟨rfl,hW⟩)
      | (go_at_call 201; refine(hb _ hW).mono ?_; rintro e W2 ⟨rfl,hW2⟩))
     go_ret2
     exact .inl ⟨by trivial,hs,rfl,hW2⟩
   . have h1:(18:Int)<(s.size:Int):=by omega
     go_enter Tryz.func121,Tryz.ntmps121
     go_wp2_with (go_at_call 108; refine hd.mono ?_; rintro e W1 ⟨rfl,hW⟩)
     go_ret2
     exact .inr ⟨by simp[hs],rfl,hW⟩
end
def I9(p0:S8):Option Y37:=yw wK p0
def aks:=fU [aT [.str]] [(false,[af]),(false,[.bool])] fun x=>I9 x.1.1
theorem YM:bj 121 aks:=Nv AI (gd:=wK) Bk (fnd:=f108) (cd:=aw f108) (by kernel_rfl) (by kernel_rfl) (by kernel_rfl) rfl aji (fn:=f121) (c:=aw f121) (by kernel_rfl) (by kernel_rfl) (by kernel_rfl)
def ME(p0:List R5)(p1 p2:Int):Option (Unit×(Y1×Y1×Y2×Unit)):=(jc p2 2 3).bind fun y1=>cond (!y1.2.1.1) (c24) ((Sw p0 p1 p2).bind fun y2=>cond (!y2.2.2.2.1.1) (c24) ((I9 y2.2.1.1).bind fun y3=>some ((),(y3.2.1,y2.2.2.1,(true,()),()))))
def alc:=fU [aT [q5],aT [af],aT [af]] [(false,[af]),(false,[af]),(false,[.bool])] fun x=>ME x.1.1 x.2.1.1 x.2.2.1.1
theorem agI:bj 188 alc:=fq (ac kf (ac MR (ac YM an))) f188
def um(t0:S8)(t5 t6:Int):Rd Y24 Y2:=cond (aE t6 t5) (cond (aX t6 t0) (let u1:=(fh t0 t6);cond (aE u1 32) (eC (false,())) (cond (aX t6 t0) (cond (aE 126 u1) (eC (false,())) (eA (t0,t5,(ak .i64 t6 1),()))) none)) none) (eB (t0,t5,t6,()))
def SC:=pG (aq (fE um))
def Ol(p0:S8):Option iA:=(SC p0 (ae p0) 0).bind (Sum.elim (fun _=>c3) (fun y1=>some ((),(y1,()))))
def ajk:=fU [aT [.str]] iN fun x=>Ol x.1.1
theorem aeG:bj 243 ajk:=fl an [.d 2 .bool] [(0,⟨[.d 0 .str,.d 5 af,.d 6 af],aq (fE um)⟩)] [] f243 (lp [0] (sc dV sn))
def sk(p0:Int)(p1:S8):Option iA:=(Ms p0).bind fun y1=>cond (aj y1.2.1.2.1 1) (let u1:=(wK p1);Option.bind u1 fun y2=>let u2:=(ae p1);zR (cond y2.2.1.1 (aj u2 y1.2.1.2.2.1) false)) (cond (aj y1.2.1.2.1 2) (let u1:=(Ol p1);Option.bind u1 fun y2=>let u2:=(ae p1);zR (cond y2.2.1.1 (aj u2 y1.2.1.2.2.1) false)) (cond (aj y1.2.1.2.1 3) (let u1:=(wK p1);Option.bind u1 fun y2=>cond y2.2.1.1 (let u2:=(ae p1);let u3:=(jc u2 1 y1.2.1.2.2.1);Option.bind u3 fun y3=>some ((),(y3.2.1,()))) (c0)) (cond (aj y1.2.1.2.1 4) (let u1:=(Ol p1);Option.bind u1 fun y2=>cond y2.2.1.1 (let u2:=(ae p1);let u3:=(jc u2 1 y1.2.1.2.2.1);Option.bind u3 fun y3=>some ((),(y3.2.1,()))) (c0)) (cond (aj y1.2.1.2.1 5) (let u1:=(Ol p1);Option.bind u1 fun y2=>cond y2.2.1.1 (let u2:=(ae p1);let u3:=(jc u2 1 y1.2.1.2.2.1);Option.bind u3 fun y3=>some ((),(y3.2.1,()))) (c0)) (c0)))))
def ajl:=fU [aT [af],aT [.str]] iN fun x=>sk x.1.1 x.2.1.1
theorem KO:bj 190 ajl:=fq (ac Bk (ac kf (ac Qx (ac aeG an)))) f190
def TB(p0:List R5)(p1 p2:Int):Option Y65:=(Sk p2).bind fun y1=>(Ef p2).bind fun y2=>cond (cond (cond (aj y2.2.1.1 3) true (aj y2.2.1.1 4)) true (aj y2.2.1.1 5)) ((HH p2).bind fun y3=>(ME p0 p1 y3.2.1.1).bind fun y4=>cond (!y4.2.2.2.1.1) (c4) (let u1:=(cond (aj y2.2.1.1 1) true (aj y2.2.1.1 3));cond u1 ((Sw p0 y4.2.2.1.1 y4.2.1.1).bind fun y5=>cond (!y5.2.2.2.1.1) (c4) ((sk p2 y5.2.1.1).bind fun y6=>cond (!y6.2.1.1) (c4) (some ((),(y5.2.1,y5.2.2.1,(true,()),()))))) ((DL p0 y4.2.2.1.1 y4.2.1.1).bind fun y5=>cond (!y5.2.2.1.1) (c4) (let u2:=(strOf y5.2.1.1);(sk p2 u2).bind fun y6=>cond (!y6.2.1.1) (c4) (some ((),((u2,()),((ak .i64 y4.2.2.1.1 y4.2.1.1),()),(true,()),()))))))) (let u1:=(cond (aj y2.2.1.1 1) true (aj y2.2.1.1 3));cond u1 ((Sw p0 p1 y1.2.1.1).bind fun y3=>cond (!y3.2.2.2.1.1) (c4) ((sk p2 y3.2.1.1).bind fun y4=>cond (!y4.2.1.1) (c4) (some ((),(y3.2.1,y3.2.2.1,(true,()),()))))) ((DL p0 p1 y1.2.1.1).bind fun y3=>cond (!y3.2.2.1.1) (c4) (let u2:=(strOf y3.2.1.1);(sk p2 u2).bind fun y4=>cond (!y4.2.1.1) (c4) (some ((),((u2,()),((ak .i64 p1 y1.2.1.1),()),(true,()),()))))))
def aib:=fU [aT [q5],aT [af],aT [af]] WH fun x=>TB x.1.1 x.2.1.1 x.2.2.1.1
theorem agY:bj 102 aib:=fq (ac SW (ac MR (ac Gn (ac ZN (ac ZV (ac agI (ac KO an))))))) f102
def Bh(t0:List R5)(t4:S8)(t5:Int)(t8:List R3)(t9:Bool)(t41:List R3)(t42 t43:Int)(b2:S8×(List fS)×Unit):Rd ((List R5)×S8×Int×(List R3)×Bool×(List R3)×Int×Int×xQ×Unit) Y40:=cond (aE t43 t42) (cond (aX t43 t41) (let u1:=(gt d3 t41 t43);cond (aj u1.1 1) (let u2:=(ak .i64 t43 1);eA (t0,t4,t5,t8,true,t41,t42,u2,b2,())) ((Ef u1.1).bind fun y1=>cond (aj y1.2.1.1 0) (eC (2,([],[],()),())) (cond (bl 8 t8 [u1]) (let u2:=(ak .i64 t43 1);eA (t0,t4,t5,(fQ t8 [u1]),t9,t41,t42,u2,b2,())) none))) none) (eB (t0,t4,t5,t8,t9,t41,t42,t43,b2,()))
def aal:=cu9 (aq (un9 Bh))
def yR(t0:List R5)(t4:S8)(t5:Int)(t8 t76:List R3)(t77 t78:Int)(b2:S8×(List fS)×Unit):Rd ((List R5)×S8×Int×(List R3)×(List R3)×Int×Int×xQ×Unit) Y40:=cond (aE t78 t77) (cond (aX t78 t76) (let u1:=(ak .i64 (gt d3 t76 t78).1 64);(Ef u1).bind fun y1=>cond (aj y1.2.1.1 0) (eC (2,([],[],()),())) (cond (bl 8 t8 [(u1,())]) (eA (t0,t4,t5,(fQ t8 [(u1,())]),t76,t77,(ak .i64 t78 1),b2,())) none)) none) (eB (t0,t4,t5,t8,t76,t77,t78,b2,()))
def YX:=cu8 (aq (Xe yR))
def zE(t0:List R5)(t5:Int)(t95:List R3)(t96 t97:Int)(b2 b15:S8×(List fS)×Unit):Rd ((List R5)×Int×(List R3)×Int×Int×xQ×xQ×Unit) Y40:=cond (aE t97 t96) (cond (aX t97 t95) ((TB t0 t5 (gt d3 t95 t97).1).bind fun y1=>cond (!y1.2.2.2.1.1) (eC (3,([],[],()),())) (cond (bl 24 b15.2.1 [((gt d3 t95 t97).1,y1.2.1.1,())]) (eA (t0,y1.2.2.1.1,t95,t96,(ak .i64 t97 1),b2,(b15.1,(fQ b15.2.1 [((gt d3 t95 t97).1,y1.2.1.1,())]),()),())) none)) none) (eB (t0,t5,t95,t96,t97,b2,b15,()))
def Lh:=cu7 (aq (CD zE))
def g55(p0:List R5):Option (Unit×(xQ×Y1×Unit)):=(Sw p0 0 4).bind fun y1=>cond (!y1.2.2.2.1.1) (some ((),(([],[],()),(1,()),()))) ((GI p0 y1.2.2.1.1).bind fun y2=>cond (!y2.2.2.2.1.1) (c25) ((aal p0 y1.2.1.1 y2.2.2.1.1 [] false y2.2.1.1 (ae y2.2.1.1) 0 ([],[],())).bind (Sum.elim (fun y3=>cond y3.2.2.2.2.1 ((GI y3.1 y3.2.2.1).bind fun y4=>let u1:=(ae y4.2.1.1);cond (cond (!y4.2.2.2.1.1) true (aj u1 0)) (c25) ((YX y3.1 y3.2.1 y4.2.2.1.1 y3.2.2.2.1 y4.2.1.1 u1 0 y3.2.2.2.2.2.2.2.2.1).bind (Sum.elim (fun y5=>(Lh y5.1 y5.2.2.1 y5.2.2.2.1 (ae y5.2.2.2.1) 0 y5.2.2.2.2.2.2.2.1 (y5.2.1,[],())).bind (Sum.elim (fun y6=>cond (!(aj y6.2.1 (ae y6.1))) (c26) (some ((),(y6.2.2.2.2.2.2.1,(0,()),())))) (fun y6=>some ((),(y6.2.1,(y6.1,()),()))))) (fun y5=>some ((),(y5.2.1,(y5.1,()),())))))) ((Lh y3.1 y3.2.2.1 y3.2.2.2.1 (ae y3.2.2.2.1) 0 y3.2.2.2.2.2.2.2.2.1 (y3.2.1,[],())).bind (Sum.elim (fun y4=>cond (!(aj y4.2.1 (ae y4.1))) (c26) (some ((),(y4.2.2.2.2.2.2.1,(0,()),())))) (fun y4=>some ((),(y4.2.1,(y4.1,()),())))))) (fun y3=>some ((),(y3.2.1,(y3.1,()),()))))))
def s55:=fU [aT [q5]] [(true,[.str,eJ]),(false,[af])] fun x=>g55 x.1.1
theorem abZ:bj 55 s55:=fl (ac MR (ac ahw (ac Gn (ac agY an)))) [.d 3 af,.box 2 [(false,.str),(true,eJ)]] [(0,⟨[.d 0 q5,.d 4 .str,.d 5 af,.own 8 q3,.d 9 .bool,.own 41 q3,.d 42 af,.d 43 af,.box 2 [(false,.str),(true,eJ)]],aq (un9 Bh)⟩),(3,⟨[.d 0 q5,.d 4 .str,.d 5 af,.own 8 q3,.own 76 q3,.d 77 af,.d 78 af,.box 2 [(false,.str),(true,eJ)]],aq (Xe yR)⟩),(5,⟨[.d 0 q5,.d 5 af,.own 95 q3,.d 96 af,.d 97 af,.box 2 [(false,.str),(true,eJ)],.box 15 [(false,.str),(true,eJ)]],aq (CD zE)⟩)] [] f55 (lp [0,3,5] (sc dV (sc dV (sc dV sn))))
def zF(t6:List gH)(t7 t8:Int)(b1:(List gH)×Unit):Rd ((List gH)×Int×Int×Y6×Unit) Y2:=cond (aE t8 t7) (cond (aX t8 t6) (let u1:=(gt d94 t6 t8);(IL u1).bind fun y1=>cond (!y1.2.1.1) (eC (false,())) (cond (aE 0 t8) (let u2:=(bf .i64 t8 1);cond (aX u2 b1.1) (cond (leS u1.1 (gt d94 b1.1 u2).1) (eC (false,())) (eA (t6,t7,(ak .i64 t8 1),b1,()))) none) (eA (t6,t7,(ak .i64 t8 1),b1,())))) none) (eB (t6,t7,t8,b1,()))
def Yu:=rE (aq (eo zF))
def g56(p0:(List gH)×Unit):Option iA:=(Yu p0.1 (ae p0.1) 0 p0).bind (Sum.elim (fun y1=>zR (ck (ae y1.2.2.2.1.1) 6)) (fun y1=>some ((),(y1,()))))
def s56:=fU [dL [kn]] iN fun x=>g56 x.1
theorem Sf:bj 56 s56:=fl (ac Mc an) [.d 2 .bool] [(0,⟨[.d 6 kn,.d 7 af,.d 8 af,.box 1 [(false,kn)]],aq (eo zF)⟩)] [] f56 (lp [0] (sc dV sn))
def g60(p0:S8):Option Ea:=(yf p0 4).bind fun y1=>cond (!y1.2.1.1) (c6) (cond (aX 2 p0) (let u1:=(fh p0 2);cond (aj (eH (bf .u8 u1 48) 2) 1) (c6) (cond (eV 0 2 p0) (cond (aX 2 p0) (let u2:=(dC .i32 (ak .u8 u1 1));cond (Kz u2) (let u3:=(sub p0 0 2);let u4:=(asc u2);cond (jL u3 u4) (let u5:=(ae p0);cond (eV 3 u5 p0) (let u6:=(uy u3 u4);let u7:=(sub p0 3 u5);cond (jL u6 u7) (zR (uy u6 u7)) none) none) none) none) none) none)) none)
def s60:=fU [aT [.str]] Fh fun x=>g60 x.1.1
theorem SV:bj 60 s60:=fq (ac LP an) f60
def acH  : Option Y28:=c29
def aio:=fU [] [(false,[.sl 9 kk9])] fun x=>acH 
theorem afD:bj 199 aio:=fq an f199
def NB(p0:Int):Option Ea:=(jc p0 0 10).bind fun y1=>cond (!y1.2.1.1) (c6) ((acH).bind fun y2=>cond (aX p0 y2.2.1.1) (some ((),((gt d9 y2.2.1.1 p0),()))) none)
def akV:=fU [aT [af]] Fh fun x=>NB x.1.1
theorem ZB:bj 110 akV:=fq (ac kf (ac afD an)) f110
def tS(t6:List fS)(t7 t8:Int)(b1:S8×(List fS)×Unit):Rd ((List fS)×Int×Int×xQ×Unit) Y2:=cond (aE t8 t7) (cond (aX t8 t6) (let u1:=(gt d117 t6 t8);(sk u1.1 u1.2.1).bind fun y1=>cond (!y1.2.1.1) (eC (false,())) (cond (aE 0 t8) (let u2:=(bf .i64 t8 1);cond (aX u2 b1.2.1) (cond (ck u1.1 (gt d117 b1.2.1 u2).1) (eC (false,())) (eA (t6,t7,(ak .i64 t8 1),b1,()))) none) (eA (t6,t7,(ak .i64 t8 1),b1,())))) none) (eB (t6,t7,t8,b1,()))
def JJ:=rE (aq (eo tS))
def GX(p0:S8×(List fS)×Unit):Option iA:=(JJ p0.2.1 (ae p0.2.1) 0 p0).bind (Sum.elim (fun y1=>(yf y1.2.2.2.1.1 4).bind fun y2=>some ((),(y2.2.1,()))) (fun y1=>some ((),(y1,()))))
def aiX:=fU [dL [.str,eJ]] iN fun x=>GX x.1
theorem Kq:bj 111 aiX:=fl (ac LP (ac KO an)) [.d 2 .bool] [(0,⟨[.d 6 eJ,.d 7 af,.d 8 af,.box 1 [(false,.str),(false,eJ)]],aq (eo tS)⟩)] [] f111 (lp [0] (sc dV sn))
def g61(p0:S8)(p1:Int):Option Y63:=(g60 p0).bind fun y1=>(NB p1).bind fun y2=>(GX (y1.2.1.1,[(39,y2.2.1.1,())],())).bind fun y3=>cond (!y3.2.1.1) (Xn) (some ((),((y1.2.1.1,[(39,y2.2.1.1,())],()),(true,()),())))
def s61:=fU [aT [.str],aT [af]] [(true,[.str,eJ]),(false,[.bool])] fun x=>g61 x.1.1 x.2.1.1
theorem adz:bj 61 s61:=fq (ac SV (ac ZB (ac Kq an))) f61
def sB(t0:S8)(t4:List R5)(t5:Int):Rd (S8×(List R5)×Int×Unit) Unit:=cond (aE t5 (ae t0)) (cond (aX t5 t0) (let u1:=(ak .i64 t5 1);cond (aX u1 t0) (cond (bl 1 t4 [((UY .u8 (XN .u8 (bf .u8 (fh t0 t5) 48) 4) (bf .u8 (fh t0 u1) 48)),())]) (eA (t0,(fQ t4 [((UY .u8 (XN .u8 (bf .u8 (fh t0 t5) 48) 4) (bf .u8 (fh t0 u1) 48)),())]),(ak .i64 t5 2),())) none) none) none) (eB (t0,t4,t5,()))
def Jq:=pG (aq (fE sB))
def EW(p0:S8):Option O0:=(wK p0).bind fun y1=>let u1:=(ae p0);cond (cond (!y1.2.1.1) true (aE 38 u1)) (c7) (cond (aj (eH u1 2) 1) (cond (jL [48] p0) ((Jq (uy [48] p0) [] 0).bind (Sum.elim (fun y2=>some ((),((y2.2.1,()),(true,()),()))) (fun _=>none))) none) ((Jq p0 [] 0).bind (Sum.elim (fun y2=>some ((),((y2.2.1,()),(true,()),()))) (fun _=>none))))
def akh:=fU [aT [.str]] UW fun x=>EW x.1.1
theorem Sd:bj 113 akh:=fl (ac Bk an) [] [(0,⟨[.d 0 .str,.own 4 q5,.d 5 af],aq (fE sB)⟩)] [] f113 (lp [0] (sc dV sn))
def ug(t3:List R5)(t7:List R3)(t8 t9:Int):Rd ((List R5)×(List R3)×Int×Int×Unit) Unit:=cond (aE t9 t8) (cond (aX t9 t7) ((jc (gt d3 t7 t9).1 1 64).bind fun y1=>cond y1.2.1.1 (let u1:=(bf .i64 (gt d3 t7 t9).1 1);let u2:=(kq .i64 u1 8);cond (aX u2 t3) (let u3:=(eH u1 8);cond (ck 0 u3) (cond (aX u2 t3) (let u4:=(ak .i64 t9 1);eA ((cZ t3 u2 ((UY .u8 (gt d5 t3 u2).1 (rH .u8 128 u3)),())),t7,t8,u4,())) none) none) none) (let u1:=(ak .i64 t9 1);eA (t3,t7,t8,u1,()))) none) (eB (t3,t7,t8,t9,()))
def abC:=rE (aq (eo ug))
def FE(p0:List R3):Option Y27:=(abC (wM d5 8) p0 (ae p0) 0).bind (Sum.elim (fun y1=>zR y1.1) (fun _=>none))
def aku:=fU [aT [q3]] w7R fun x=>FE x.1.1
theorem agm:bj 114 aku:=fl (ac kf an) [] [(0,⟨[.own 3 q5,.d 7 q3,.d 8 af,.d 9 af],aq (eo ug)⟩)] [] f114 (lp [0] (sc dV sn))
def acW(p0:Int):Option Ea:=LU p0
def akb:=fU [aT [af]] Fh fun x=>acW x.1.1
theorem af0:bj 265 akb:=Xo ze rfl (fn:=f265) (c:=aw f265) (by kernel_rfl) (by kernel_rfl) (by kernel_rfl)
def Jk(p0:S8)(p1:Int):Option Ea:=rC p0 p1
def akN:=fU [aT [.str],aT [af]] Fh fun x=>Jk x.1.1 x.2.1.1
theorem ZG:bj 255 akN:=Ny B8 vA rfl (fn:=f255) (c:=aw f255) (by kernel_rfl) (by kernel_rfl) (by kernel_rfl)
def Ns(p0 p1:Int):Option Ea:=(acW p0).bind fun y1=>cond (aE p0 0) (c6) ((jc p1 1 18).bind fun y2=>let u1:=(ae y1.2.1.1);cond (cond (!y2.2.1.1) true (aE p1 u1)) (c6) ((Jk [48] (bf .i64 p1 u1)).bind fun y3=>cond (jL y3.2.1.1 y1.2.1.1) (zR (uy y3.2.1.1 y1.2.1.1)) none))
def aiy:=fU [aT [af],aT [af]] Fh fun x=>Ns x.1.1 x.2.1.1
theorem aai:bj 217 aiy:=fq (ac kf (ac af0 (ac ZG an))) f217
def FY(p0 p1:Int):Option O0:=(jc p1 2 3).bind fun y1=>cond (!y1.2.1.1) (c7) ((Ns p0 p1).bind fun y2=>(EW y2.2.1.1).bind fun y3=>some ((),(y3.2.1,y3.2.2.1,())))
def akM:=fU [aT [af],aT [af]] UW fun x=>FY x.1.1 x.2.1.1
theorem ae3:bj 200 akM:=fq (ac kf (ac Sd (ac aai an))) f200
def R4(p0:Int)(p1:S8):Option O0:=(sk p0 p1).bind fun y1=>cond (!y1.2.1.1) (c7) ((Ef p0).bind fun y2=>cond (cond (aj y2.2.1.1 1) true (aj y2.2.1.1 3)) ((EW p1).bind fun y3=>let u1:=(cond (aj y2.2.1.1 1) true (aj y2.2.1.1 2));cond u1 (some ((),(y3.2.1,(true,()),()))) (let u2:=(HH p0);Option.bind u2 fun y4=>let u3:=(ae p1);(FY u3 y4.2.1.1).bind fun y5=>cond (bl 1 y5.2.1.1 y3.2.1.1) (some ((),(((fQ y5.2.1.1 y3.2.1.1),()),(true,()),()))) none)) (let u1:=(cond (aj y2.2.1.1 1) true (aj y2.2.1.1 2));cond u1 (let u2:=(bytesOf p1);some ((),((u2,()),(true,()),()))) (let u2:=(HH p0);Option.bind u2 fun y3=>let u3:=(ae p1);(FY u3 y3.2.1.1).bind fun y4=>let u4:=(bytesOf p1);cond (bl 1 y4.2.1.1 u4) (some ((),(((fQ y4.2.1.1 u4),()),(true,()),()))) none)))
def ak0:=fU [aT [af],aT [.str]] UW fun x=>R4 x.1.1 x.2.1.1
theorem afA:bj 112 ak0:=fq (ac Gn (ac ZV (ac KO (ac Sd (ac ae3 an))))) f112
def zm(t4 t5:List R3)(t6:List R5)(t20:List fS)(t21 t22:Int)(b1:S8×(List fS)×Unit):Rd ((List R3)×(List R3)×(List R5)×(List fS)×Int×Int×xQ×Unit) Unit:=cond (aE t22 t21) (cond (aX t22 t20) (let u1:=(gt d117 t20 t22);cond (aE 64 u1.1) (cond (bl 8 t5 [((bf .i64 u1.1 64),())]) (let u2:=(R4 u1.1 u1.2.1);Option.bind u2 fun y1=>let u3:=(bl 1 t6 y1.2.1.1);cond u3 (let u4:=(fQ t6 y1.2.1.1);let u5:=(ak .i64 t22 1);eA (t4,(fQ t5 [((bf .i64 u1.1 64),())]),u4,t20,t21,u5,b1,())) none) none) (cond (bl 8 t4 [(u1.1,())]) (let u2:=(R4 u1.1 u1.2.1);Option.bind u2 fun y1=>let u3:=(bl 1 t6 y1.2.1.1);cond u3 (let u4:=(fQ t6 y1.2.1.1);let u5:=(ak .i64 t22 1);eA ((fQ t4 [(u1.1,())]),t5,u4,t20,t21,u5,b1,())) none) none)) none) (eB (t4,t5,t6,t20,t21,t22,b1,()))
def Zh:=cu7 (aq (CD zm))
def g62(p0:S8×(List fS)×Unit):Option O0:=(GX p0).bind fun y1=>cond (!y1.2.1.1) (c7) ((Zh [] [] [] p0.2.1 (ae p0.2.1) 0 p0).bind (Sum.elim (fun y2=>(EW y2.2.2.2.2.2.2.1.1).bind fun y3=>cond (aE 0 (ae y2.2.1)) (cond (bl 8 y2.1 [(1,())]) ((FE (fQ y2.1 [(1,())])).bind fun y4=>let u1:=(bl 1 y3.2.1.1 y4.2.1.1);cond u1 ((FE y2.2.1).bind fun y5=>let u2:=(fQ y3.2.1.1 y4.2.1.1);cond (bl 1 u2 y5.2.1.1) (let u3:=(fQ u2 y5.2.1.1);cond (bl 1 u3 y2.2.2.1) (some ((),(((fQ u3 y2.2.2.1),()),(true,()),()))) none) none) none) none) ((FE y2.1).bind fun y4=>let u1:=(bl 1 y3.2.1.1 y4.2.1.1);cond u1 (let u2:=(fQ y3.2.1.1 y4.2.1.1);cond (bl 1 u2 y2.2.2.1) (some ((),(((fQ u2 y2.2.2.1),()),(true,()),()))) none) none)) (fun _=>none)))
def s62:=fU [dL [.str,eJ]] UW fun x=>g62 x.1
theorem V7:bj 62 s62:=fl (ac Kq (ac Sd (ac agm (ac afA an)))) [] [(0,⟨[.own 4 q3,.own 5 q3,.own 6 q5,.d 20 eJ,.d 21 af,.d 22 af,.box 1 [(false,.str),(false,eJ)]],aq (CD zm)⟩)] [] f62 (lp [0] (sc dV sn))
def abg(p0:S8):Option iA:=zR (cond (cond (bF p0 [48,49,48,48]) true (bF p0 [48,50,48,48])) true (bF p0 [48,50,50,48]))
def aiQ:=fU [aT [.str]] iN fun x=>abg x.1.1
theorem ahc:bj 115 aiQ:=fq an f115
end
end Go.Av
