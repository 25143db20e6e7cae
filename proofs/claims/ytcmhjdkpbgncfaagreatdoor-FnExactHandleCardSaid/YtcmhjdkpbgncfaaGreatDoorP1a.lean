/- FnExactHandle, a part. -/
import Derived.Test.YtcmhjdkpbgncfaaGreatDoorFw4
import Derived.Test.YtcmhjdkpbgncfaaGreatDoorFw3
import Derived.WalkKit
import Derived.Lib.Walk
import Derived.Lib.SliceRun
import Derived.Shelf.Spec.SlicesInsert
import Derived.Test.YtcmhjdkpbgncfaaGreatDoorProg
set_option maxRecDepth 100000
namespace Go.Av
open Go.Proofs
set_option maxHeartbeats 4000000
noncomputable section
def Dp:List K:=[.str,.int .i64,.int .i64]
def sr:List K:=[.int .i64]
def yM:List K:=[.int .u8]
def CP:List K:=[.str,.str,.sl 5 yM]
def zi:List K:=[.str,.int .i64,.int .i64,.int .i64,.int .i64,.sl 214 Dp,.int .i64,.int .i64,.sl 3 sr,.sl 3 sr,.sl 216 CP]
def ab4:List K:=[.int .i64,.sl 5 yM,.sl 5 yM]
def lO:List K:=[.str,.int .i64,.int .i64]
def r9:List K:=[.str,.str,.sl 5 yM]
def Qu:List K:=[.str,.int .i64,.int .i64,.int .i64,.int .i64,.sl 192 lO,.int .i64,.int .i64,.sl 3 sr,.sl 3 sr,.sl 100 r9]
def adp:List K:=[.int .i64,.sl 5 yM,.sl 5 yM]
def abj:List K:=[.sl 5 yM]
def Hr:List K:=[.int .i64,.str]
def Gk:List K:=[.str,.str,.str,.sl 3 sr]
def kk9:List K:=[.str]
def OE:List K:=[.int .i64,.int .i64,.int .i64]
def KY:List K:=[.sl 3 sr]
abbrev jA:=(S8×Int×Int×Unit)
def d214:jA:=([],0,0,())
abbrev R3:=(Int×Unit)
def d3:R3:=(0,())
abbrev R5:=(Int×Unit)
def d5:R5:=(0,())
abbrev iF:=(S8×S8×(List R5)×Unit)
def d216:iF:=([],[],[],())
abbrev ir:=(S8×Int×Int×Int×Int×(List jA)×Int×Int×(List R3)×(List R3)×(List iF)×Unit)
def d109:ir:=([],0,0,0,0,[],0,0,[],[],[],())
abbrev bm:=(S8×Int×Int×Unit)
def d192:bm:=([],0,0,())
abbrev bS:=(S8×S8×(List R5)×Unit)
def d100:bS:=([],[],[],())
abbrev gL:=(S8×Int×Int×Int×Int×(List bm)×Int×Int×(List R3)×(List R3)×(List bS)×Unit)
def d94:gL:=([],0,0,0,0,[],0,0,[],[],[],())
abbrev eX:=(Int×S8×Unit)
def d117:eX:=(0,[],())
abbrev HZ:=(S8×S8×S8×(List R3)×Unit)
def d146:HZ:=([],[],[],[],())
abbrev R9:=(S8×Unit)
def d9:R9:=([],())
abbrev Fp:=(Int×Int×Int×Unit)
def d188:Fp:=(0,0,0,())
abbrev J3:=((List R3)×Unit)
def d52:J3:=([],())
abbrev fU (ps : List PK) (rs : List (Bool × List K)) (f : PT ps → Option (rO ps × CT rs)) : Su := ⟨ps, rs, true, .inl f⟩
abbrev eA {A B C : Type} (x : A) : Option (Sum A (Sum B C)) := some (.inl x)
abbrev eB {A B C : Type} (x : B) : Option (Sum A (Sum B C)) := some (.inr (.inl x))
abbrev eC {A B C : Type} (x : C) : Option (Sum A (Sum B C)) := some (.inr (.inr x))
def tt:List (Nat×TI):=[(2,⟨false,[.int .i64],0,8,[]⟩),
 (3,⟨false,[.int .i64],0,8,[]⟩),
 (4,⟨false,[.bool],0,1,[]⟩),
 (5,⟨false,[.int .u8],0,1,[]⟩),
 (6,⟨false,[.int .u8],0,1,[]⟩),
 (7,⟨true,[.int .i64,.int .i64,.bool,.int .u8],0,24,[(0,2),(1,3),(2,4),(3,6)]⟩),
 (8,⟨true,[.int .i64,.int .i64,.bool,.int .u8],0,24,[(0,2),(1,3),(2,4),(3,6)]⟩),
 (9,⟨false,[.str],0,16,[]⟩),
 (10,⟨false,[.str],0,16,[]⟩),
 (11,⟨false,[.str],0,16,[]⟩),
 (12,⟨false,[.int .u64],0,8,[]⟩),
 (13,⟨true,[.str,.int .u64],0,24,[(0,9),(1,12)]⟩),
 (14,⟨true,[.str,.int .u64],0,24,[(0,9),(1,12)]⟩),
 (21,⟨false,[.int .i32],0,4,[]⟩),
 (22,⟨false,[.sl 109 zi],109,24,[]⟩),
 (23,⟨true,[.sl 109 zi],0,24,[(0,22)]⟩),
 (24,⟨true,[.sl 109 zi],0,24,[(0,22)]⟩),
 (25,⟨false,[.sl 61 ab4],61,24,[]⟩),
 (29,⟨false,[.sl 94 Qu],94,24,[]⟩),
 (30,⟨true,[.sl 94 Qu],0,24,[(0,29)]⟩),
 (31,⟨true,[.sl 94 Qu],0,24,[(0,29)]⟩),
 (33,⟨false,[.sl 62 adp],62,24,[]⟩),
 (38,⟨false,[.sl 5 yM],5,24,[]⟩),
 (46,⟨false,[.sl 38 abj],38,24,[]⟩),
 (52,⟨false,[.sl 3 sr],3,24,[]⟩),
 (60,⟨true,[.int .i64,.sl 5 yM,.sl 5 yM],0,56,[(0,3),(1,38),(2,38)]⟩),
 (61,⟨true,[.int .i64,.sl 5 yM,.sl 5 yM],0,56,[(0,3),(1,38),(2,38)]⟩),
 (62,⟨true,[.int .i64,.sl 5 yM,.sl 5 yM],0,56,[(0,3),(1,38),(2,38)]⟩),
 (70,⟨false,[.sl 117 Hr],117,24,[]⟩),
 (71,⟨true,[.str,.sl 117 Hr],0,40,[(0,9),(1,70)]⟩),
 (72,⟨true,[.str,.sl 117 Hr],0,40,[(0,9),(1,70)]⟩),
 (82,⟨true,[.int .i64,.str,.str,.str,.str,.str,.int .i64,.int .i64],0,104,[(0,3),(1,9),(2,9),(3,9),(4,9),(5,9),(6,3),(7,3)]⟩),
 (83,⟨true,[.int .i64,.str,.str,.str,.str,.str,.int .i64,.int .i64],0,104,[(0,3),(1,9),(2,9),(3,9),(4,9),(5,9),(6,3),(7,3)]⟩),
 (89,⟨false,[.sl 192 lO],192,24,[]⟩),
 (90,⟨true,[.int .i64,.int .i64,.sl 3 sr,.sl 3 sr],0,64,[(0,3),(1,3),(2,52),(3,52)]⟩),
 (91,⟨true,[.int .i64,.int .i64,.sl 3 sr,.sl 3 sr],0,64,[(0,3),(1,3),(2,52),(3,52)]⟩),
 (92,⟨false,[.sl 100 r9],100,24,[]⟩),
 (93,⟨true,[.str,.int .i64,.int .i64,.int .i64,.int .i64,.sl 192 lO,.int .i64,.int .i64,.sl 3 sr,.sl 3 sr,.sl 100 r9],0,160,[(0,9),(1,3),(2,3),(3,3),(4,3),(5,89),(6,91),(10,92)]⟩),
 (94,⟨true,[.str,.int .i64,.int .i64,.int .i64,.int .i64,.sl 192 lO,.int .i64,.int .i64,.sl 3 sr,.sl 3 sr,.sl 100 r9],0,160,[(0,9),(1,3),(2,3),(3,3),(4,3),(5,89),(6,91),(10,92)]⟩),
 (99,⟨true,[.str,.str,.sl 5 yM],0,56,[(0,9),(1,9),(2,38)]⟩),
 (100,⟨true,[.str,.str,.sl 5 yM],0,56,[(0,9),(1,9),(2,38)]⟩),
 (105,⟨false,[.sl 214 Dp],214,24,[]⟩),
 (106,⟨true,[.int .i64,.int .i64,.sl 3 sr,.sl 3 sr],0,64,[(0,3),(1,3),(2,52),(3,52)]⟩),
 (107,⟨false,[.sl 216 CP],216,24,[]⟩),
 (108,⟨true,[.str,.int .i64,.int .i64,.int .i64,.int .i64,.sl 214 Dp,.int .i64,.int .i64,.sl 3 sr,.sl 3 sr,.sl 216 CP],0,160,[(0,9),(1,3),(2,3),(3,3),(4,3),(5,105),(6,106),(10,107)]⟩),
 (109,⟨true,[.str,.int .i64,.int .i64,.int .i64,.int .i64,.sl 214 Dp,.int .i64,.int .i64,.sl 3 sr,.sl 3 sr,.sl 216 CP],0,160,[(0,9),(1,3),(2,3),(3,3),(4,3),(5,105),(6,106),(10,107)]⟩),
 (116,⟨true,[.int .i64,.str],0,24,[(0,3),(1,9)]⟩),
 (117,⟨true,[.int .i64,.str],0,24,[(0,3),(1,9)]⟩),
 (141,⟨false,[.int .u64],0,8,[]⟩),
 (144,⟨false,[.sl 146 Gk],146,24,[]⟩),
 (145,⟨true,[.str,.str,.str,.sl 3 sr],0,72,[(0,9),(1,9),(2,9),(3,52)]⟩),
 (146,⟨true,[.str,.str,.str,.sl 3 sr],0,72,[(0,9),(1,9),(2,9),(3,52)]⟩),
 (181,⟨false,[.sl 9 kk9],9,24,[]⟩),
 (187,⟨true,[.int .i64,.int .i64,.int .i64],0,24,[(0,3),(1,3),(2,3)]⟩),
 (188,⟨true,[.int .i64,.int .i64,.int .i64],0,24,[(0,3),(1,3),(2,3)]⟩),
 (191,⟨true,[.str,.int .i64,.int .i64],0,32,[(0,9),(1,3),(2,3)]⟩),
 (192,⟨true,[.str,.int .i64,.int .i64],0,32,[(0,9),(1,3),(2,3)]⟩),
 (214,⟨true,[.str,.int .i64,.int .i64],0,32,[(0,9),(1,3),(2,3)]⟩),
 (216,⟨true,[.str,.str,.sl 5 yM],0,56,[(0,9),(1,9),(2,38)]⟩),
 (225,⟨false,[.sl 188 OE],188,24,[]⟩),
 (245,⟨false,[.sl 52 KY],52,24,[]⟩),
 (247,⟨false,[.int .i64],0,8,[]⟩),
 (269,⟨false,[.int .u64],0,8,[]⟩),
 (276,⟨false,[.int .u32],0,4,[]⟩),
 (285,⟨true,[.str],0,16,[(0,9)]⟩),
 (286,⟨true,[.str],0,16,[(0,9)]⟩),
 (299,⟨true,[.int .u8,.int .u8],0,2,[(0,5),(1,5)]⟩),
 (300,⟨true,[.int .u8,.int .u8],0,2,[(0,5),(1,5)]⟩),
 (314,⟨false,[.int .u8],0,1,[]⟩),
 (315,⟨false,[.int .u8],0,1,[]⟩),
 (317,⟨false,[.int .i32],0,4,[]⟩),
 (318,⟨false,[.int .i32],0,4,[]⟩)]
def E0:En:=vN 0 tt [] [] (fun _=>none) [] fun _=>none
theorem hT:cr Tryz.prog E0:=O9 (by kernel_rfl)
theorem iU:Tryz.prog.follows .mixedOrders=true:=by kernel_rfl
theorem fl{f:Nat}{s:Su}{l:List (Nat×SS)}(hl:nG Tryz.prog l)(ρ:List SE)(los:List (Nat×Lo ρ))(pins:List Nat)(fn:Func)
 (hlo:ZH Tryz.prog (J5 fn.ntmps tt l ρ los pins) (ar fn) (ar fn))
 (h : (Tryz.prog.funcs[f]?, (fn.name == "runtime.NumGoroutine"), fn.body.isSome) = (some fn, false, true) := by kernel_rfl)
 (ht:∀ x,(EU (J5 fn.ntmps tt l ρ los pins) (ar fn) fn.results.toList s.ps s.rs s.fresh x).run=s.tB x:=by intro x; kernel_rfl):aw Tryz.prog f s:=by
 simp only[aeS]at h
 exact flq hT iU hl (fn:=fn) (by rw[h.1,h.2.1,h.2.2]) hlo ht
theorem fq{f:Nat}{s:Su}{l:List (Nat×SS)}(hl:nG Tryz.prog l)(fn:Func)
 (h : (Tryz.prog.funcs[f]?, (fn.name == "runtime.NumGoroutine"), fn.body.isSome, ez (fun _ => false) (ar fn)) = (some fn, false, true, []) := by kernel_rfl)
 (ht:∀ x,(EU (J5 fn.ntmps tt l [] [] []) (ar fn) fn.results.toList s.ps s.rs s.fresh x).run=s.tB x:=by intro x; kernel_rfl):aw Tryz.prog f s:=by
 simp only[aeS]at h
 exact flq hT iU hl (fn:=fn) (by rw[h.1,h.2.1,h.2.2.1]) (lp (n:=fn.ntmps) (tt:=tt) (l:=l) (ρ:=[]) (los:=[]) (pins:=[]) [] sn h.2.2.2) ht
abbrev Y0:=Nat×SS
abbrev Y1:=Int×Unit
abbrev Y2:=Bool×Unit
abbrev Y4:=(List R5)×Unit
abbrev Y5:=(List gL)×Unit
abbrev Y7:=(List bm)×Unit
abbrev Y6:=(List bS)×Unit
abbrev Y9:=S8×Unit
abbrev Y8:=Y1×Unit
abbrev YA:=Int×S8×Unit
abbrev ZQ:=S8×Int×Unit
abbrev ib:=Unit×Y8
abbrev gQ:=Unit×(Y2×Unit)
abbrev Y21:=(List R3)×Int×Bool×Unit
abbrev UK:=S8×Int×Int×Unit
abbrev vn:=S8×(List eX)×Unit
abbrev Xn:=Unit×(((List R9)×Unit)×Unit)
abbrev YS:=Unit×(Y4×Unit)
abbrev Y25:=Unit×(J3×Unit)
abbrev XV:=Unit×(Y5×Unit)
abbrev Wh:=Unit×(Y7×Unit)
abbrev Y30:=Unit×(Y6×Unit)
abbrev Au:=Unit×(Y9×Unit)
abbrev UX:=Int×Int×(List R3)×(List R3)×Unit
abbrev Y36:=Unit×(Y1×Y2×Unit)
abbrev Y35:=(List bS)×(List bS)×Int×Int×Unit
abbrev Y38:=Int×vn×Unit
abbrev J2:=Unit×(Y4×Y2×Unit)
abbrev V4:=Unit×(UX×Unit)
abbrev Y56:=(List bm)×(Y9×Unit)×Int×Int×Unit
abbrev Y58:=Unit×(J3×Y1×Y2×Unit)
abbrev ZC:=Unit×(vn×Y2×Unit)
abbrev Xg:=Unit×(Y9×Y1×Y2×Unit)
abbrev Wq:=Int×S8×S8×S8×S8×S8×Int×Int×Unit
abbrev yL:=S8×Int×Int×Int×Int×(List bm)×Int×Int×(List R3)×(List R3)×(List bS)×Unit
abbrev ZF:=Unit×(yL×Unit)
abbrev DV:=Unit×(yL×Y1×Unit)
abbrev ah:K:= .int .i64
abbrev Jy:K:= .sl 214 Dp
abbrev q3:K:= .sl 3 sr
abbrev q5:K:= .sl 5 yM
abbrev Je:K:= .sl 216 CP
abbrev Er:K:= .sl 109 zi
abbrev bB:K:= .sl 192 lO
abbrev bU:K:= .sl 100 r9
abbrev lr:K:= .sl 94 Qu
abbrev dS:K:= .sl 117 Hr
abbrev c0:Option gQ:=zR false
abbrev c1:Option (Unit×(Wq×Y1×Unit)):=some ((),((0,[],[],[],[],[],0,0,()),(1,()),()))
abbrev c2:Option ib:=zR (-1)
abbrev c3:Option Xg:=some ((),(([],()),(0,()),(false,()),()))
abbrev c4:Option gQ:=zR true
abbrev c5:Option ib:=zR 0
abbrev c6:Option Au:=zR []
abbrev c7:Option J2:=some ((),(([],()),(false,()),()))
abbrev c8:Option DV:=some ((),(([],0,0,0,0,[],0,0,[],[],[],()),(1,()),()))
abbrev c9:Option ib:=zR 2
abbrev Pg:Option ZC:=some ((),(([],[],()),(false,()),()))
abbrev W6:Option ib:=zR 1
abbrev c12:Option DV:=some ((),(([],0,0,0,0,[],0,0,[],[],[],()),(4,()),()))
abbrev Xe:Option (Unit×(Y5×Y1×Y9×Unit)):=some ((),(([],()),(1,()),([],()),()))
abbrev WZ:Option (Unit×(Y5×Y1×Y9×Unit)):=some ((),(([],()),(3,()),([],()),()))
abbrev Ys:Option (Unit×(Y7×Y2×Unit)):=some ((),(([],()),(false,()),()))
abbrev c16:Option Y58:=some ((),(([],()),(0,()),(false,()),()))
abbrev c17:Option ib:=zR 3
abbrev c18:Option (Unit×(yL×yL×Y1×Unit)):=some ((),(([],0,0,0,0,[],0,0,[],[],[],()),([],0,0,0,0,[],0,0,[],[],[],()),(1,()),()))
abbrev c19:Option ib:=zR 4
abbrev c20:Option ib:=zR 6
abbrev c21:Option ib:=zR 12
abbrev c22:Option ib:=zR 8
abbrev c23:Option Y36:=some ((),((0,()),(false,()),()))
abbrev c24:Option (Unit×(Y1×Y1×Y2×Unit)):=some ((),((0,()),(0,()),(false,()),()))
abbrev c25:Option (Unit×(vn×Y1×Unit)):=some ((),(([],[],()),(2,()),()))
abbrev c26:Option (Unit×(vn×Y1×Unit)):=some ((),(([],[],()),(4,()),()))
abbrev c27:Option DV:=some ((),(([],0,0,0,0,[],0,0,[],[],[],()),(5,()),()))
abbrev c28:Option ib:=zR 4611686018427387904
abbrev c29:Option Xn:=zR [([48,48],()),([51,48],()),([49,50],()),([49,52],()),([49,51],()),([50,53],()),([57,52],()),([53,49],()),([54,53],()),([54,49],()),([57,54],())]
abbrev c30:Option (Unit×(Wq×Y1×Unit)):=some ((),((0,[],[],[],[],[],0,0,()),(2,()),()))
abbrev c31:Option DV:=some ((),(([],0,0,0,0,[],0,0,[],[],[],()),(6,()),()))
abbrev c32:Option DV:=some ((),(([],0,0,0,0,[],0,0,[],[],[],()),(10,()),()))
abbrev c33:Option DV:=some ((),(([],0,0,0,0,[],0,0,[],[],[],()),(7,()),()))
abbrev c34:Option (Unit×(yL×yL×Y1×Unit)):=some ((),(([],0,0,0,0,[],0,0,[],[],[],()),([],0,0,0,0,[],0,0,[],[],[],()),(4,()),()))
abbrev c35:Option (Unit×(yL×yL×Y1×Unit)):=some ((),(([],0,0,0,0,[],0,0,[],[],[],()),([],0,0,0,0,[],0,0,[],[],[],()),(5,()),()))
abbrev c36:Option (Unit×(yL×yL×Y1×Unit)):=some ((),(([],0,0,0,0,[],0,0,[],[],[],()),([],0,0,0,0,[],0,0,[],[],[],()),(6,()),()))
abbrev c37:Option (Unit×(yL×yL×Y1×Unit)):=some ((),(([],0,0,0,0,[],0,0,[],[],[],()),([],0,0,0,0,[],0,0,[],[],[],()),(10,()),()))
abbrev c38:Option (Unit×(yL×yL×Y1×Unit)):=some ((),(([],0,0,0,0,[],0,0,[],[],[],()),([],0,0,0,0,[],0,0,[],[],[],()),(7,()),()))
abbrev c39:Option (Unit×(yL×Y1×Y1×Unit)):=some ((),(([],0,0,0,0,[],0,0,[],[],[],()),(0,()),(1,()),()))
section
open Go.Shelf Go.RowKit Go.Lib
def sρ:Ren:=⟨fun | 99=>287 | 105=>255 | 129=>327 | 165=>288 | 166=>289 | 169=>291 | 170=>290 | 171=>265 | 172=>201 | 205=>300 | 206=>306 | 212=>286 | 240=>307 | 241=>308 | 243=>296 | 244=>248 | 245=>249 | 246=>310 | 247=>277 | 263=>304 | 264=>305 | 276=>318 | 277=>319 | 279=>278 | 280=>279 | 281=>280 | 282=>281 | 283=>321 | 284=>322 | 285=>323 | 286=>324 | 287=>298 | 316=>299 | 317=>326 | 318=>328 | 319=>329 | 320=>330 | 321=>311 | 322=>312 | 337=>332 | 338=>333 | n=>n,fun | 0=>0 | 2=>2 | 3=>3 | 4=>4 | 5=>5 | 9=>9 | 20=>20 | 21=>21 | 37=>38 | 46=>141 | 51=>276 | 53=>269 | 70=>260 | 72=>262 | 75=>195 | 76=>196 | 80=>265 | 85=>248 | 109=>257 | 127=>281 | 143=>284 | 145=>286 | 146=>277 | 148=>279 | 164=>289 | 167=>247 | 168=>250 | 171=>293 | 173=>296 | 175=>270 | 210=>273 | 212=>303 | 213=>304 | 232=>307 | 233=>308 | n=>n,fun | 15=>0 | 16=>1 | 17=>5 | 18=>6 | 19=>7 | n=>n⟩
theorem yC:LaysC.n172 Tryz.prog sρ:=by repeat' first | kernel_rfl | (intro _; kernel_rfl) | decide | constructor
theorem yl:LaysM.n171 Tryz.prog sρ:=by repeat' first | kernel_rfl | (intro _; kernel_rfl) | decide | constructor
theorem yV:Lays.n105 Tryz.prog sρ:=by repeat' first | kernel_rfl | (intro _; kernel_rfl) | decide | constructor
theorem sW:Builder.Extra Tryz.prog sρ:=by repeat' first | kernel_rfl | (intro _; kernel_rfl) | decide | constructor
end
def QF(p0:S8×Int×Int×Unit)(p1:Int):Option ib :=
 let u1:=(ba .i64 p1 (ae p0.1))
 cond (aD u1 0) (
 c2
 ) (
 zR u1
 )
abbrev ic : List (Bool × List K) := [(false,[.bool])]
abbrev iX : List (Bool × List K) := [(false,[ah])]
abbrev BQ : List (Bool × List K) := [(false,[.str])]
abbrev NP : List (Bool × List K) := [(true,[.str,ah,ah,ah,ah,bB,ah,ah,q3,q3,bU]),(false,[ah])]
abbrev OK : List (Bool × List K) := [(false,[q5]),(false,[.bool])]
abbrev Q7 : List (Bool × List K) := [(false,[bB])]
abbrev VH : List (Bool × List K) := [(true,[ah,ah,q3,q3])]
abbrev Xb : List (Bool × List K) := [(false,[q5])]
abbrev Zx : List (Bool × List K) := [(true,[.str,ah,ah,ah,ah,bB,ah,ah,q3,q3,bU])]
abbrev PL : List (Bool × List K) := [(false,[.str]),(false,[ah]),(false,[.bool])]
def abu:Su:=fU [.c true [.str,ah,ah],.c false [ah]] iX fun x=>QF x.1 x.2.1.1
theorem aa9:aw Tryz.prog 221 abu :=
 fq an Tryz.f221
def rh(t0:List jA)(t1 t5:Int):Rd ((List jA)×Int×Int×Unit) Y1 :=
 cond (aD t5 (ae t0)) (
 cond (aZ t5 t0) (
 (QF (gt d214 t0 t5) t1).bind fun y1 =>
 cond (aD y1.2.1.1 0) (
 eC ((-1),())
 ) (
 eA (t0,y1.2.1.1,(ak .i64 t5 1),())
 )
 ) none
 ) (
 eB (t0,t1,t5,())
 )
def Mc:=pP (aq (fY rh))
def Rk(p0:List jA)(p1:Int):Option ib :=
 let u1:=(ba .i64 p1 (ae p0))
 cond (aD u1 0) (
 c2
 ) (
 (Mc p0 u1 0).bind (Sum.elim (fun y1 =>
 zR y1.2.1
 ) (fun y1 =>
 some ((),(y1,()))
 ))
 )
def acY:Su:=fU [.c false [Jy],.c false [ah]] iX fun x=>Rk x.1.1 x.2.1.1
theorem Xq:aw Tryz.prog 148 acY :=
 fl (ac aa9 an) [.d 4 ah] [(0,⟨[.d 0 Jy,.d 1 ah,.d 5 ah],aq (fY rh)⟩)] [] Tryz.f148 (lp [0] (sc dM sn))
def N6(p0:List R3)(p1:Int):Option ib :=
 let u1:=(ba .i64 p1 (ae p0))
 cond (aD u1 0) (
 c2
 ) (
 zR u1
 )
def acM:Su:=fU [.c false [q3],.c false [ah]] iX fun x=>N6 x.1.1 x.2.1.1
theorem XZ:aw Tryz.prog 222 acM :=
 fq an Tryz.f222
def Qs(p0:Int×Int×(List R3)×(List R3)×Unit)(p1:Int):Option ib :=
 (N6 p0.2.2.1 p1).bind fun y1 =>
 cond (aD y1.2.1.1 0) (
 c2
 ) (
 (N6 p0.2.2.2.1 y1.2.1.1).bind fun y2 =>
 cond (aD y2.2.1.1 0) (
 c2
 ) (
 some ((),(y2.2.1,()))
 )
 )
def aco:Su:=fU [.c true [ah,ah,q3,q3],.c false [ah]] iX fun x=>Qs x.1 x.2.1.1
theorem YP:aw Tryz.prog 149 aco :=
 fq (ac XZ an) Tryz.f149
def g74(p0:List R5)(p1:Int):Option ib :=
 let u1:=(ba .i64 p1 (ae p0))
 cond (aD u1 0) (
 c2
 ) (
 zR u1
 )
def s74:Su:=fU [.c false [q5],.c false [ah]] iX fun x=>g74 x.1.1 x.2.1.1
theorem adx:aw Tryz.prog 74 s74 :=
 fq an Tryz.f74
def Qw(p0:S8×S8×(List R5)×Unit)(p1:Int):Option ib :=
 let u1:=(ba .i64 p1 (ae p0.1))
 cond (aD u1 0) (
 c2
 ) (
 let u2:=(ba .i64 u1 (ae p0.2.1))
 cond (aD u2 0) (
 c2
 ) (
 (g74 p0.2.2.1 u2).bind fun y1 =>
 cond (aD y1.2.1.1 0) (
 c2
 ) (
 some ((),(y1.2.1,()))
 )
 )
 )
def ac7:Su:=fU [.c true [.str,.str,q5],.c false [ah]] iX fun x=>Qw x.1 x.2.1.1
theorem XD:aw Tryz.prog 223 ac7 :=
 fq (ac adx an) Tryz.f223
def qw(t0:List iF)(t1 t5:Int):Rd ((List iF)×Int×Int×Unit) Y1 :=
 cond (aD t5 (ae t0)) (
 cond (aZ t5 t0) (
 (Qw (gt d216 t0 t5) t1).bind fun y1 =>
 cond (aD y1.2.1.1 0) (
 eC ((-1),())
 ) (
 eA (t0,y1.2.1.1,(ak .i64 t5 1),())
 )
 ) none
 ) (
 eB (t0,t1,t5,())
 )
def Li:=pP (aq (fY qw))
def Pv(p0:List iF)(p1:Int):Option ib :=
 let u1:=(ba .i64 p1 (ae p0))
 cond (aD u1 0) (
 c2
 ) (
 (Li p0 u1 0).bind (Sum.elim (fun y1 =>
 zR y1.2.1
 ) (fun y1 =>
 some ((),(y1,()))
 ))
 )
def abx:Su:=fU [.c false [Je],.c false [ah]] iX fun x=>Pv x.1.1 x.2.1.1
theorem Xu:aw Tryz.prog 150 abx :=
 fl (ac XD an) [.d 4 ah] [(0,⟨[.d 0 Je,.d 1 ah,.d 5 ah],aq (fY qw)⟩)] [] Tryz.f150 (lp [0] (sc dM sn))
def g73(p0:S8×Int×Int×Int×Int×(List jA)×Int×Int×(List R3)×(List R3)×(List iF)×Unit)(p1:Int):Option ib :=
 let u1:=(ba .i64 p1 (ae p0.1))
 cond (aD u1 0) (
 c2
 ) (
 (Rk p0.2.2.2.2.2.1 u1).bind fun y1 =>
 cond (aD y1.2.1.1 0) (
 c2
 ) (
 (Qs (p0.2.2.2.2.2.2.1,p0.2.2.2.2.2.2.2.1,p0.2.2.2.2.2.2.2.2.1,p0.2.2.2.2.2.2.2.2.2.1,()) y1.2.1.1).bind fun y2 =>
 cond (aD y2.2.1.1 0) (
 c2
 ) (
 (Pv p0.2.2.2.2.2.2.2.2.2.2.1 y2.2.1.1).bind fun y3 =>
 cond (aD y3.2.1.1 0) (
 c2
 ) (
 some ((),(y3.2.1,()))
 )
 )
 )
 )
def s73:Su:=fU [.c true [.str,ah,ah,ah,ah,Jy,ah,ah,q3,q3,Je],.c false [ah]] iX fun x=>g73 x.1 x.2.1.1
theorem ac6:aw Tryz.prog 73 s73 :=
 fq (ac Xq (ac YP (ac Xu an))) Tryz.f73
def ym(t0:List ir)(t1 t5:Int):Rd ((List ir)×Int×Int×Unit) Y1 :=
 cond (aD t5 (ae t0)) (
 cond (aZ t5 t0) (
 (g73 (gt d109 t0 t5) t1).bind fun y1 =>
 cond (aD y1.2.1.1 0) (
 eC ((-1),())
 ) (
 eA (t0,y1.2.1.1,(ak .i64 t5 1),())
 )
 ) none
 ) (
 eB (t0,t1,t5,())
 )
def Se:=pP (aq (fY ym))
def g34(p0:List ir)(p1:Int):Option ib :=
 let u1:=(ba .i64 p1 (ae p0))
 cond (aD u1 0) (
 c2
 ) (
 (Se p0 u1 0).bind (Sum.elim (fun y1 =>
 zR y1.2.1
 ) (fun y1 =>
 some ((),(y1,()))
 ))
 )
def s34:Su:=fU [.c false [Er],.c false [ah]] iX fun x=>g34 x.1.1 x.2.1.1
theorem abK:aw Tryz.prog 34 s34 :=
 fl (ac ac6 an) [.d 4 ah] [(0,⟨[.d 0 Er,.d 1 ah,.d 5 ah],aq (fY ym)⟩)] [] Tryz.f34 (lp [0] (sc dM sn))
def g7(p0:(List ir)×Unit)(p1:Int):Option ib :=
 (g34 p0.1 p1).bind fun y1 =>
 cond (aD y1.2.1.1 0) (
 c2
 ) (
 some ((),(y1.2.1,()))
 )
def s7:Su:=fU [.c true [Er],.c false [ah]] iX fun x=>g7 x.1 x.2.1.1
theorem ok7:aw Tryz.prog 7 s7 :=
 fq (ac abK an) Tryz.f7
def Ri(p0:S8×Int×Int×Unit):Option (Unit×(UK×Unit)) :=
 some ((),(p0,()))
def abP:Su:=fU [.c true [.str,ah,ah]] [(true,[.str,ah,ah])] fun x=>Ri x.1
theorem X7:aw Tryz.prog 224 abP :=
 fq an Tryz.f224
def pY(t0:List jA)(t3:List bm)(t4:Int):Rd ((List jA)×(List bm)×Int×Unit) Unit :=
 cond (aD t4 (ae t0)) (
 cond (aZ t4 t0) (
 (Ri (gt d214 t0 t4)).bind fun y1 =>
 cond (aZ t4 t3) (
 let u1:=(gt d192 t3 t4)
 let u2:=(cO t3 t4 (y1.2.1.1,u1.2.1,u1.2.2.1,()))
 let u3:=(gt d192 u2 t4)
 let u4:=(cO u2 t4 (u3.1,y1.2.1.2.1,u3.2.2.1,()))
 let u5:=(gt d192 u4 t4)
 eA (t0,(cO u4 t4 (u5.1,u5.2.1,y1.2.1.2.2.1,())),(ak .i64 t4 1),())
 ) none
 ) none
 ) (
 eB (t0,t3,t4,())
 )
def Oj:=pP (aq (fY pY))
def Pu(p0:List jA):Option Wh :=
 let u1:=(ae p0)
 cond (Tw 32 u1) (
 (Oj p0 (vE d192 u1) 0).bind (Sum.elim (fun y1 =>
 zR y1.2.1
 ) (fun _ =>
 none
 ))
 ) none
def acL:Su:=fU [.c false [Jy]] Q7 fun x=>Pu x.1.1
theorem ZR:aw Tryz.prog 151 acL :=
 fl (ac X7 an) [] [(0,⟨[.d 0 Jy,.own 3 bB,.d 4 ah],aq (fY pY)⟩)] [] Tryz.f151 (lp [0] (sc dM sn))
def w7(t0 t3:List R3)(t4:Int):Rd ((List R3)×(List R3)×Int×Unit) Unit :=
 cond (aD t4 (ae t0)) (
 cond (aZ t4 t0) (
 cond (aZ t4 t3) (
 eA (t0,(cO t3 t4 (gt d3 t0 t4)),(ak .i64 t4 1),())
 ) none
 ) none
 ) (
 eB (t0,t3,t4,())
 )
def SF:=pP (aq (fY w7))
def g30(p0:List R3):Option Y25 :=
 let u1:=(ae p0)
 cond (Tw 8 u1) (
 (SF p0 (vE d3 u1) 0).bind (Sum.elim (fun y1 =>
 zR y1.2.1
 ) (fun _ =>
 none
 ))
 ) none
def s30:Su:=fU [.c false [q3]] [(false,[q3])] fun x=>g30 x.1.1
theorem acI:aw Tryz.prog 30 s30 :=
 fl an [] [(0,⟨[.d 0 q3,.own 3 q3,.d 4 ah],aq (fY w7)⟩)] [] Tryz.f30 (lp [0] (sc dM sn))
def O2(p0:Int×Int×(List R3)×(List R3)×Unit):Option V4 :=
 (g30 p0.2.2.1).bind fun y1 =>
 (g30 p0.2.2.2.1).bind fun y2 =>
 some ((),((p0.1,p0.2.1,y1.2.1.1,y2.2.1.1,()),()))
def acB:Su:=fU [.c true [ah,ah,q3,q3]] VH fun x=>O2 x.1
theorem Z3:aw Tryz.prog 152 acB :=
 fq (ac acI an) Tryz.f152
def wc(t0 t3:List R5)(t4:Int):Rd ((List R5)×(List R5)×Int×Unit) Unit :=
 cond (aD t4 (ae t0)) (
 cond (aZ t4 t0) (
 cond (aZ t4 t3) (
 eA (t0,(cO t3 t4 (gt d5 t0 t4)),(ak .i64 t4 1),())
 ) none
 ) none
 ) (
 eB (t0,t3,t4,())
 )
def SB:=pP (aq (fY wc))
def g16(p0:List R5):Option YS :=
 let u1:=(ae p0)
 cond (Tw 1 u1) (
 (SB p0 (vE d5 u1) 0).bind (Sum.elim (fun y1 =>
 zR y1.2.1
 ) (fun _ =>
 none
 ))
 ) none
def s16:Su:=fU [.c false [q5]] Xb fun x=>g16 x.1.1
theorem ZG:aw Tryz.prog 16 s16 :=
 fl an [] [(0,⟨[.d 0 q5,.own 3 q5,.d 4 ah],aq (fY wc)⟩)] [] Tryz.f16 (lp [0] (sc dM sn))
def PW(p0:S8×S8×(List R5)×Unit):Option (Unit×(iF×Unit)) :=
 (g16 p0.2.2.1).bind fun y1 =>
 some ((),((p0.1,p0.2.1,y1.2.1.1,()),()))
def ac5:Su:=fU [.c true [.str,.str,q5]] [(true,[.str,.str,q5])] fun x=>PW x.1
theorem aab:aw Tryz.prog 225 ac5 :=
 fq (ac ZG an) Tryz.f225
def rG(t0:List iF)(t3:List bS)(t4:Int):Rd ((List iF)×(List bS)×Int×Unit) Unit :=
 cond (aD t4 (ae t0)) (
 cond (aZ t4 t0) (
 (PW (gt d216 t0 t4)).bind fun y1 =>
 cond (aZ t4 t3) (
 let u1:=(gt d100 t3 t4)
 let u2:=(cO t3 t4 (y1.2.1.1,u1.2.1,u1.2.2.1,()))
 let u3:=(gt d100 u2 t4)
 let u4:=(cO u2 t4 (u3.1,y1.2.1.2.1,u3.2.2.1,()))
 let u5:=(gt d100 u4 t4)
 eA (t0,(cO u4 t4 (u5.1,u5.2.1,y1.2.1.2.2.1,())),(ak .i64 t4 1),())
 ) none
 ) none
 ) (
 eB (t0,t3,t4,())
 )
def LV:=pP (aq (fY rG))
def Qj(p0:List iF):Option Y30 :=
 let u1:=(ae p0)
 cond (Tw 56 u1) (
 (LV p0 (vE d100 u1) 0).bind (Sum.elim (fun y1 =>
 zR y1.2.1
 ) (fun _ =>
 none
 ))
 ) none
def adr:Su:=fU [.c false [Je]] [(false,[bU])] fun x=>Qj x.1.1
theorem YY:aw Tryz.prog 153 adr :=
 fl (ac aab an) [] [(0,⟨[.d 0 Je,.own 3 bU,.d 4 ah],aq (fY rG)⟩)] [] Tryz.f153 (lp [0] (sc dM sn))
def g75(p0:S8×Int×Int×Int×Int×(List jA)×Int×Int×(List R3)×(List R3)×(List iF)×Unit):Option ZF :=
 (Pu p0.2.2.2.2.2.1).bind fun y1 =>
 (O2 (p0.2.2.2.2.2.2.1,p0.2.2.2.2.2.2.2.1,p0.2.2.2.2.2.2.2.2.1,p0.2.2.2.2.2.2.2.2.2.1,())).bind fun y2 =>
 (Qj p0.2.2.2.2.2.2.2.2.2.2.1).bind fun y3 =>
 some ((),((p0.1,p0.2.1,p0.2.2.1,p0.2.2.2.1,p0.2.2.2.2.1,y1.2.1.1,y2.2.1.1,y2.2.1.2.1,y2.2.1.2.2.1,y2.2.1.2.2.2.1,y3.2.1.1,()),()))
def s75:Su:=fU [.c true [.str,ah,ah,ah,ah,Jy,ah,ah,q3,q3,Je]] Zx fun x=>g75 x.1
theorem abA:aw Tryz.prog 75 s75 :=
 fq (ac ZR (ac Z3 (ac YY an))) Tryz.f75
def wG(t0:List ir)(t3:List gL)(t4:Int):Rd ((List ir)×(List gL)×Int×Unit) Unit :=
 cond (aD t4 (ae t0)) (
 cond (aZ t4 t0) (
 (g75 (gt d109 t0 t4)).bind fun y1 =>
 cond (aZ t4 t3) (
 eA (t0,(cO t3 t4 y1.2.1),(ak .i64 t4 1),())
 ) none
 ) none
 ) (
 eB (t0,t3,t4,())
 )
def S3:=pP (aq (fY wG))
def g36(p0:List ir):Option XV :=
 let u1:=(ae p0)
 cond (Tw 160 u1) (
 (S3 p0 (vE d94 u1) 0).bind (Sum.elim (fun y1 =>
 zR y1.2.1
 ) (fun _ =>
 none
 ))
 ) none
def s36:Su:=fU [.c false [Er]] [(false,[lr])] fun x=>g36 x.1.1
theorem aci:aw Tryz.prog 36 s36 :=
 fl (ac abA an) [] [(0,⟨[.d 0 Er,.own 3 lr,.d 4 ah],aq (fY wG)⟩)] [] Tryz.f36 (lp [0] (sc dM sn))
def g10(p0:(List ir)×Unit):Option XV :=
 (g36 p0.1).bind fun y1 =>
 some ((),(y1.2.1,()))
def s10:Su:=fU [.c true [Er]] [(true,[lr])] fun x=>g10 x.1
theorem ac0:aw Tryz.prog 10 s10 :=
 fq (ac aci an) Tryz.f10
def A7(p0:Int×Int×(List R3)×(List R3)×Unit):Option V4 :=
 cond (bj 8 [] p0.2.2.1) (
 cond (bj 8 [] p0.2.2.2.1) (
 some ((),((p0.1,p0.2.1,(fy [] p0.2.2.1),(fy [] p0.2.2.2.1),()),()))
 ) none
 ) none
def abM:Su:=fU [.c true [ah,ah,q3,q3]] VH fun x=>A7 x.1
theorem Oz:aw Tryz.prog 157 abM :=
 fq an Tryz.f157
def xF(t3 t7:List bS)(t8 t9:Int):Rd Y35 Unit :=
 cond (aD t9 t8) (
 cond (aZ t9 t7) (
 let u1:=(gt d100 t7 t9)
 cond (bj 1 [] u1.2.2.1) (
 cond (bj 56 t3 [(u1.1,u1.2.1,(fy [] u1.2.2.1),())]) (
 eA ((fy t3 [(u1.1,u1.2.1,(fy [] u1.2.2.1),())]),t7,t8,(ak .i64 t9 1),())
 ) none
 ) none
 ) none
 ) (
 eB (t3,t7,t8,t9,())
 )
def RM:=pd (aq (dJ xF))
def Wz(p0:List bS):Option Y30 :=
 (RM [] p0 (ae p0) 0).bind (Sum.elim (fun y1 =>
 zR y1.1
 ) (fun _ =>
 none
 ))
def s98:Su:=fU [.c false [bU]] [(false,[bU])] fun x=>Wz x.1.1
theorem Yh:aw Tryz.prog 98 s98 :=
 fl an [] [(0,⟨[.own 3 bU,.d 7 bU,.d 8 ah,.d 9 ah],aq (dJ xF)⟩)] [] Tryz.f98 (lp [0] (sc dM sn))
def LR(p0:S8×Int×Int×Int×Int×(List bm)×Int×Int×(List R3)×(List R3)×(List bS)×Unit):Option ZF :=
 cond (bj 32 [] p0.2.2.2.2.2.1) (
 (A7 (p0.2.2.2.2.2.2.1,p0.2.2.2.2.2.2.2.1,p0.2.2.2.2.2.2.2.2.1,p0.2.2.2.2.2.2.2.2.2.1,())).bind fun y1 =>
 (Wz p0.2.2.2.2.2.2.2.2.2.2.1).bind fun y2 =>
 some ((),((p0.1,p0.2.1,p0.2.2.1,p0.2.2.2.1,p0.2.2.2.2.1,(fy [] p0.2.2.2.2.2.1),y1.2.1.1,y1.2.1.2.1,y1.2.1.2.2.1,y1.2.1.2.2.2.1,y2.2.1.1,()),()))
 ) none
def s77:Su:=fU [.c true [.str,ah,ah,ah,ah,bB,ah,ah,q3,q3,bU]] Zx fun x=>LR x.1
theorem PA:aw Tryz.prog 77 s77 :=
 fq (ac Oz (ac Yh an)) Tryz.f77
def yu(t8:List gL)(t9 t10:Int)(b2 b3:(List gL)×Unit):Rd ((List gL)×Int×Int×Y5×Y5×Unit) Unit :=
 cond (aD t10 t9) (
 cond (aZ t10 t8) (
 (LR (gt d94 t8 t10)).bind fun y1 =>
 cond (bj 160 b3.1 [y1.2.1]) (
 eA (t8,t9,(ak .i64 t10 1),b2,((fy b3.1 [y1.2.1]),()),())
 ) none
 ) none
 ) (
 eB (t8,t9,t10,b2,b3,())
 )
def TH:=J8 (aq (nM yu))
def W5(p0:(List gL)×Unit):Option XV :=
 (TH p0.1 (ae p0.1) 0 ([],()) ([],())).bind (Sum.elim (fun y1 =>
 some ((),(y1.2.2.2.2.1,()))
 ) (fun _ =>
 none
 ))
def s41:Su:=fU [.c true [lr]] [(true,[lr])] fun x=>W5 x.1
theorem Mh:aw Tryz.prog 41 s41 :=
 fl (ac PA an) [] [(0,⟨[.d 8 lr,.d 9 ah,.d 10 ah,.box 2 [(true,lr)],.box 3 [(true,lr)]],aq (nM yu)⟩)] [] Tryz.f41 (lp [0] (sc dM sn))
def x5(t0:S8)(t3:Int):Rd ZQ Y2 :=
 cond (aD t3 (ae t0)) (
 cond (aZ t3 t0) (
 let u1:=(et t0 t3)
 cond (aD u1 48) (
 eC (false,())
 ) (
 cond (aZ t3 t0) (
 cond (aD 57 u1) (
 eC (false,())
 ) (
 eA (t0,(ak .i64 t3 1),())
 )
 ) none
 )
 ) none
 ) (
 eB (t0,t3,())
 )
def RL:=OO (aq (x3 x5))
def Eh(p0:S8):Option gQ :=
 (RL p0 0).bind (Sum.elim (fun y1 =>
 zR (aD 0 (ae y1.1))
 ) (fun y1 =>
 some ((),(y1,()))
 ))
def s78:Su:=fU [.c false [.str]] ic fun x=>Eh x.1.1
theorem zd:aw Tryz.prog 78 s78 :=
 fl an [.d 2 .bool] [(0,⟨[.d 0 .str,.d 3 ah],aq (x3 x5)⟩)] [] Tryz.f78 (lp [0] (sc dM sn))
def yn(t0:List R5)(t1 t2:Int)(t9:S8)(t10:Int):Rd ((List R5)×Int×Int×S8×Int×Unit) Unit :=
 cond (aD t10 (ak .i64 t1 (jr .i64 (ak .i64 t2 1) 2))) (
 cond (aZ t10 t0) (
 cond (aZ t10 t0) (
 let u1:=(cW .i64 (gt d5 t0 t10).1)
 let u2:=(strOf [((cW .u8 (ak .i64 48 (jr .i64 u1 16))),()),((cW .u8 (ak .i64 48 (dP u1 16))),())])
 cond (iJ t9 u2) (
 eA (t0,t1,t2,(rN t9 u2),(ak .i64 t10 1),())
 ) none
 ) none
 ) none
 ) (
 eB (t0,t1,t2,t9,t10,())
 )
def S6:=J8 (aq (nM yn))
def IB(p0:List R5)(p1 p2:Int):Option Xg :=
 let u1:=(ae p0)
 cond (cond (cond (cond (aD p2 1) true (aD 38 p2)) true (aD p1 0)) true (aD u1 p1)) (
 c3
 ) (
 cond (aD (ba .i64 u1 p1) (jr .i64 (ak .i64 p2 1) 2)) (
 c3
 ) (
 (S6 p0 p1 p2 [] p1).bind (Sum.elim (fun y1 =>
 cond (aj (dP y1.2.2.1 2) 1) (
 cond (aZ 0 y1.2.2.2.1) (
 cond (!(aj (et y1.2.2.2.1 0) 48)) (
 c3
 ) (
 let u2:=(ae y1.2.2.2.1)
 cond (ea 1 u2 y1.2.2.2.1) (
 let u3:=(sub y1.2.2.2.1 1 u2)
 (Eh u3).bind fun y2 =>
 cond (!y2.2.1.1) (
 c3
 ) (
 some ((),((u3,()),((ak .i64 y1.2.1 (jr .i64 (ak .i64 y1.2.2.1 1) 2)),()),(true,()),()))
 )
 ) none
 )
 ) none
 ) (
 (Eh y1.2.2.2.1).bind fun y2 =>
 cond (!y2.2.1.1) (
 c3
 ) (
 some ((),((y1.2.2.2.1,()),((ak .i64 y1.2.1 (jr .i64 (ak .i64 y1.2.2.1 1) 2)),()),(true,()),()))
 )
 )
 ) (fun _ =>
 none
 ))
 )
 )
def s42:Su:=fU [.c false [q5],.c false [ah],.c false [ah]] PL fun x=>IB x.1.1 x.2.1.1 x.2.2.1.1
theorem IV:aw Tryz.prog 42 s42 :=
 fl (ac zd an) [] [(0,⟨[.d 0 q5,.d 1 ah,.d 2 ah,.d 9 .str,.d 10 ah],aq (nM yn)⟩)] [] Tryz.f42 (lp [0] (sc dM sn))
def uM(t0:List R5)(t1:Int)(t7:List R3)(t8:Int):Rd ((List R5)×Int×(List R3)×Int×Unit) Unit :=
 cond (bT t8 64) (
 let u1:=(ba .i64 t8 1)
 let u2:=(ak .i64 t1 (jr .i64 u1 8))
 cond (aZ u2 t0) (
 let u3:=(ba .i64 7 (dP u1 8))
 cond (bT 0 u3) (
 cond (aj (dP (pI .i64 (cW .i64 (gt d5 t0 u2).1) u3) 2) 1) (
 cond (bj 8 t7 [(t8,())]) (
 let u4:=(ak .i64 t8 1)
 eA (t0,t1,(fy t7 [(t8,())]),u4,())
 ) none
 ) (
 let u4:=(ak .i64 t8 1)
 eA (t0,t1,t7,u4,())
 )
 ) none
 ) none
 ) (
 eB (t0,t1,t7,t8,())
 )
def MP:=pd (aq (dJ uM))
def Ex(p0:List R5)(p1:Int):Option Y58 :=
 cond (cond (aD p1 0) true (aD (ba .i64 (ae p0) 8) p1)) (
 c16
 ) (
 (MP p0 p1 [] 1).bind (Sum.elim (fun y1 =>
 some ((),((y1.2.2.1,()),((ak .i64 y1.2.1 8),()),(true,()),()))
 ) (fun _ =>
 none
 ))
 )
def acT:Su:=fU [.c false [q5],.c false [ah]] [(false,[q3]),(false,[ah]),(false,[.bool])] fun x=>Ex x.1.1 x.2.1.1
theorem YG:aw Tryz.prog 158 acT :=
 fl an [] [(0,⟨[.d 0 q5,.d 1 ah,.own 7 q3,.d 8 ah],aq (dJ uM)⟩)] [] Tryz.f158 (lp [0] (sc dM sn))
def Aw(p0:Int):Option ib :=
 cond (aj p0 3) (
 W6
 ) (
 cond (aj p0 4) (
 W6
 ) (
 cond (aj p0 7) (
 W6
 ) (
 cond (aj p0 11) (
 W6
 ) (
 cond (aj p0 14) (
 W6
 ) (
 cond (aj p0 49) (
 W6
 ) (
 cond (aj p0 37) (
 c9
 ) (
 cond (aj p0 38) (
 c9
 ) (
 cond (aj p0 39) (
 c9
 ) (
 cond (aj p0 41) (
 c9
 ) (
 cond (aj p0 95) (
 c9
 ) (
 cond (aj p0 2) (
 c17
 ) (
 cond (aj p0 102) (
 c19
 ) (
 cond (aj p0 103) (
 c19
 ) (
 cond (aj p0 48) (
 zR 5
 ) (
 cond (aj p0 54) (
 zR 5
 ) (
 c5
 )
 )
 )
 )
 )
 )
 )
 )
 )
 )
 )
 )
 )
 )
 )
 )
def abT:Su:=fU [.c false [ah]] iX fun x=>Aw x.1.1
theorem DP:aw Tryz.prog 159 abT :=
 fq an Tryz.f159
def xC(t0:List R5)(t6:Int)(t8:List R3)(t9:Bool)(t28:List R3)(t29 t30:Int):Rd ((List R5)×Int×(List R3)×Bool×(List R3)×Int×Int×Unit) Y21 :=
 cond (aD t30 t29) (
 cond (aZ t30 t28) (
 let u1:=(gt d3 t28 t30)
 cond (aj u1.1 1) (
 let u2:=(ak .i64 t30 1)
 eA (t0,t6,t8,true,t28,t29,u2,())
 ) (
 cond (bj 8 t8 [u1]) (
 let u2:=(ak .i64 t30 1)
 eA (t0,t6,(fy t8 [u1]),t9,t28,t29,u2,())
 ) none
 )
 ) none
 ) (
 eB (t0,t6,t8,t9,t28,t29,t30,())
 )
def S5:=cu7 (aq (Ft xC))
def yo(t8:List R3)(t13:Int)(t56:List R3)(t57 t58:Int):Rd ((List R3)×Int×(List R3)×Int×Int×Unit) Y21 :=
 cond (aD t58 t57) (
 cond (aZ t58 t56) (
 cond (bj 8 t8 [((ak .i64 (gt d3 t56 t58).1 64),())]) (
 eA ((fy t8 [((ak .i64 (gt d3 t56 t58).1 64),())]),t13,t56,t57,(ak .i64 t58 1),())
 ) none
 ) none
 ) (
 eB (t8,t13,t56,t57,t58,())
 )
def Tk:=J8 (aq (nM yo))
def yc(_:Unit)(t6:Int)(t8:List R3)(t70 t71:Int):Rd (Unit×Int×(List R3)×Int×Int×Unit) Y21 :=
 cond (aD t71 t70) (
 cond (aZ t71 t8) (
 (Aw (gt d3 t8 t71).1).bind fun y1 =>
 cond (aj y1.2.1.1 0) (
 eC ([],0,false,())
 ) (
 eA ((),t6,t8,t70,(ak .i64 t71 1),())
 )
 ) none
 ) (
 eB ((),t6,t8,t70,t71,())
 )
def Ox:=J8 (aq (nM yc))
def g79(p0:List R5):Option Y58 :=
 (Ex p0 2).bind fun y1 =>
 cond (!y1.2.2.2.1.1) (
 c16
 ) (
 (S5 p0 y1.2.2.1.1 [] false y1.2.1.1 (ae y1.2.1.1) 0).bind (Sum.elim (fun y2 =>
 cond y2.2.2.2.1 (
 (Ex y2.1 y2.2.1).bind fun y3 =>
 let u1:=(ae y3.2.1.1)
 cond (cond (!y3.2.2.2.1.1) true (aj u1 0)) (
 c16
 ) (
 (Tk y2.2.2.1 y3.2.2.1.1 y3.2.1.1 u1 0).bind (Sum.elim (fun y4 =>
 (Ox () y4.2.1 y4.1 (ae y4.1) 0).bind (Sum.elim (fun y5 =>
 some ((),((y5.2.2.1,()),(y5.2.1,()),(true,()),()))
 ) (fun y5 =>
 some ((),((y5.1,()),(y5.2.1,()),(y5.2.2.1,()),()))
 ))
 ) (fun y4 =>
 some ((),((y4.1,()),(y4.2.1,()),(y4.2.2.1,()),()))
 ))
 )
 ) (
 (Ox () y2.2.1 y2.2.2.1 (ae y2.2.2.1) 0).bind (Sum.elim (fun y3 =>
 some ((),((y3.2.2.1,()),(y3.2.1,()),(true,()),()))
 ) (fun y3 =>
 some ((),((y3.1,()),(y3.2.1,()),(y3.2.2.1,()),()))
 ))
 )
 ) (fun y2 =>
 some ((),((y2.1,()),(y2.2.1,()),(y2.2.2.1,()),()))
 ))
 )
def s79:Su:=fU [.c false [q5]] [(false,[q3]),(false,[ah]),(false,[.bool])] fun x=>g79 x.1.1
theorem acJ:aw Tryz.prog 79 s79 :=
 fl (ac YG (ac DP an)) [.own 2 q3,.d 3 ah,.d 4 .bool] [(0,⟨[.d 0 q5,.d 6 ah,.own 8 q3,.d 9 .bool,.own 28 q3,.d 29 ah,.d 30 ah],aq (Ft xC)⟩),(2,⟨[.own 8 q3,.d 13 ah,.own 56 q3,.d 57 ah,.d 58 ah],aq (nM yo)⟩),(4,⟨[.al 69 8,.d 6 ah,.own 8 q3,.d 70 ah,.d 71 ah],aq (nM yc)⟩)] [] Tryz.f79 (lp [0,2,4] (sc dM (sc dM (sc dM sn))))
def EA(p0:Int):Option ib :=
 cond (aj p0 2) (
 zR 19
 ) (
 cond (aj p0 3) (
 c20
 ) (
 cond (aj p0 11) (
 c20
 ) (
 cond (aj p0 38) (
 c20
 ) (
 cond (aj p0 4) (
 c21
 ) (
 cond (aj p0 37) (
 c21
 ) (
 cond (aj p0 95) (
 c21
 ) (
 cond (aj p0 7) (
 zR 10
 ) (
 cond (aj p0 14) (
 c19
 ) (
 cond (aj p0 39) (
 c9
 ) (
 cond (aj p0 41) (
 c22
 ) (
 cond (aj p0 49) (
 c17
 ) (
 cond (aj p0 102) (
 zR 20
 ) (
 cond (aj p0 103) (
 zR 20
 ) (
 cond (aj p0 48) (
 zR 60
 ) (
 cond (aj p0 54) (
 zR 60
 ) (
 c5
 )
 )
 )
 )
 )
 )
 )
 )
 )
 )
 )
 )
 )
 )
 )
 )
def ad0:Su:=fU [.c false [ah]] iX fun x=>EA x.1.1
theorem NQ:aw Tryz.prog 160 ad0 :=
 fq an Tryz.f160
def WK(p0:Int):Option ib :=
 cond (aj p0 3) (
 c9
 ) (
 cond (aj p0 4) (
 c9
 ) (
 cond (aj p0 5) (
 c17
 ) (
 c5
 )
 )
 )
def acw:Su:=fU [.c false [ah]] iX fun x=>WK x.1.1
theorem TW:aw Tryz.prog 161 acw :=
 fq an Tryz.f161
def xX(t0:S8)(t4 t5:Int):Rd UK Unit :=
 cond (aD t5 (ae t0)) (
 cond (aZ t5 t0) (
 eA (t0,(ba .i64 (ak .i64 (vB .i64 t4 10) (cW .i64 (et t0 t5))) 48),(ak .i64 t5 1),())
 ) none
 ) (
 eB (t0,t4,t5,())
 )
def Tv:=pP (aq (fY xX))
def J6(p0:S8):Option Y36 :=
 (Eh p0).bind fun y1 =>
 cond (cond (!y1.2.1.1) true (aD 18 (ae p0))) (
 c23
 ) (
 (Tv p0 0 0).bind (Sum.elim (fun y2 =>
 some ((),((y2.2.1,()),(true,()),()))
 ) (fun _ =>
 none
 ))
 )
def s94:Su:=fU [.c false [.str]] [(false,[ah]),(false,[.bool])] fun x=>J6 x.1.1
theorem aa1:aw Tryz.prog 94 s94 :=
 fl (ac zd an) [] [(0,⟨[.d 0 .str,.d 4 ah,.d 5 ah],aq (fY xX)⟩)] [] Tryz.f94 (lp [0] (sc dM sn))
def KB(p0:List R5)(p1 p2:Int):Option (Unit×(Y1×Y1×Y2×Unit)) :=
 cond (cond (!(aj p2 2)) (!(aj p2 3)) false) (
 c24
 ) (
 (IB p0 p1 p2).bind fun y1 =>
 (J6 y1.2.1.1).bind fun y2 =>
 some ((),(y2.2.1,y1.2.2.1,y1.2.2.2.1,()))
 )
def adF:Su:=fU [.c false [q5],.c false [ah],.c false [ah]] [(false,[ah]),(false,[ah]),(false,[.bool])] fun x=>KB x.1.1 x.2.1.1 x.2.2.1.1
theorem ZO:aw Tryz.prog 162 adF :=
 fq (ac IV (ac aa1 an)) Tryz.f162
def rR(p0 p1 p2:Int):Option gQ :=
 zR (cond (bT p1 p0) (bT p0 p2) false)
def s82:Su:=fU [.c false [ah],.c false [ah],.c false [ah]] ic fun x=>rR x.1.1 x.2.1.1 x.2.2.1.1
theorem pG:aw Tryz.prog 82 s82 :=
 fq an Tryz.f82
def pV(t0:S8)(t3:Int):Rd ZQ Y2 :=
 cond (aD t3 (ae t0)) (
 cond (aZ t3 t0) (
 let u1:=(et t0 t3)
 cond (aD u1 32) (
 eC (false,())
 ) (
 cond (aZ t3 t0) (
 cond (aD 126 u1) (
 eC (false,())
 ) (
 eA (t0,(ak .i64 t3 1),())
 )
 ) none
 )
 ) none
 ) (
 eB (t0,t3,())
 )
def L8:=OO (aq (x3 pV))
def Bg(p0:S8):Option gQ :=
 (L8 p0 0).bind (Sum.elim (fun _ =>
 c4
 ) (fun y1 =>
 some ((),(y1,()))
 ))
def abY:Su:=fU [.c false [.str]] ic fun x=>Bg x.1.1
theorem TT:aw Tryz.prog 163 abY :=
 fl an [.d 2 .bool] [(0,⟨[.d 0 .str,.d 3 ah],aq (x3 pV)⟩)] [] Tryz.f163 (lp [0] (sc dM sn))
def g80(p0:List R5)(p1 p2:Int):Option Xg :=
 (Aw p2).bind fun y1 =>
 (EA p2).bind fun y2 =>
 cond (cond (aj y1.2.1.1 0) true (aD p1 0)) (
 c3
 ) (
 let u1:=(WK y1.2.1.1)
 Option.bind u1 fun y3 =>
 cond (aD 0 y3.2.1.1) (
 Option.bind u1 fun y4 =>
 (KB p0 p1 y4.2.1.1).bind fun y5 =>
 cond (!y5.2.2.2.1.1) (
 c3
 ) (
 (rR y5.2.1.1 1 y2.2.1.1).bind fun y6 =>
 cond (!y6.2.1.1) (
 c3
 ) (
 let u2:=(cond (aj y1.2.1.1 1) true (aj y1.2.1.1 3))
 cond u2 (
 (IB p0 y5.2.2.1.1 y5.2.1.1).bind fun y7 =>
 some ((),(y7.2.1,y7.2.2.1,y7.2.2.2.1,()))
 ) (
 let u3:=(ae p0)
 cond (cond (aD u3 y5.2.2.1.1) true (aD (ba .i64 u3 y5.2.2.1.1) y5.2.1.1)) (
 c3
 ) (
 let u4:=(ak .i64 y5.2.2.1.1 y5.2.1.1)
 let u5:=(ea y5.2.2.1.1 u4 p0)
 cond u5 (
 let u6:=(strOf (sub p0 y5.2.2.1.1 u4))
 (Bg u6).bind fun y7 =>
 cond (!y7.2.1.1) (
 c3
 ) (
 cond u5 (
 some ((),((u6,()),(u4,()),(true,()),()))
 ) none
 )
 ) none
 )
 )
 )
 )
 ) (
 let u2:=(cond (aj y1.2.1.1 1) true (aj y1.2.1.1 3))
 cond u2 (
 (IB p0 p1 y2.2.1.1).bind fun y4 =>
 some ((),(y4.2.1,y4.2.2.1,y4.2.2.2.1,()))
 ) (
 let u3:=(ae p0)
 cond (cond (aD u3 p1) true (aD (ba .i64 u3 p1) y2.2.1.1)) (
 c3
 ) (
 let u4:=(ak .i64 p1 y2.2.1.1)
 let u5:=(ea p1 u4 p0)
 cond u5 (
 let u6:=(strOf (sub p0 p1 u4))
 (Bg u6).bind fun y4 =>
 cond (!y4.2.1.1) (
 c3
 ) (
 cond u5 (
 some ((),((u6,()),(u4,()),(true,()),()))
 ) none
 )
 ) none
 )
 )
 )
 )
def s80:Su:=fU [.c false [q5],.c false [ah],.c false [ah]] PL fun x=>g80 x.1.1 x.2.1.1 x.2.2.1.1
theorem abz:aw Tryz.prog 80 s80 :=
 fq (ac IV (ac DP (ac NQ (ac TW (ac ZO (ac pG (ac TT an))))))) Tryz.f80
def ya(t0:List R5)(t8:Int)(t35:List R3)(t36 t37:Int)(b2 b9:S8×(List eX)×Unit):Rd ((List R5)×Int×(List R3)×Int×Int×vn×vn×Unit) Y38 :=
 cond (aD t37 t36) (
 cond (aZ t37 t35) (
 (g80 t0 t8 (gt d3 t35 t37).1).bind fun y1 =>
 cond (!y1.2.2.2.1.1) (
 eC (3,([],[],()),())
 ) (
 cond (bj 24 b9.2.1 [((gt d3 t35 t37).1,y1.2.1.1,())]) (
 eA (t0,y1.2.2.1.1,t35,t36,(ak .i64 t37 1),b2,(b9.1,(fy b9.2.1 [((gt d3 t35 t37).1,y1.2.1.1,())]),()),())
 ) none
 )
 ) none
 ) (
 eB (t0,t8,t35,t36,t37,b2,b9,())
 )
def RU:=cu7 (aq (Ft ya))
def g43(p0:List R5):Option (Unit×(vn×Y1×Unit)) :=
 (IB p0 0 4).bind fun y1 =>
 cond (!y1.2.2.2.1.1) (
 some ((),(([],[],()),(1,()),()))
 ) (
 (g79 p0).bind fun y2 =>
 cond (!y2.2.2.2.1.1) (
 c25
 ) (
 (RU p0 y2.2.2.1.1 y2.2.1.1 (ae y2.2.1.1) 0 ([],[],()) (y1.2.1.1,[],())).bind (Sum.elim (fun y3 =>
 cond (!(aj y3.2.1 (ae y3.1))) (
 c26
 ) (
 some ((),(y3.2.2.2.2.2.2.1,(0,()),()))
 )
 ) (fun y3 =>
 some ((),(y3.2.1,(y3.1,()),()))
 ))
 )
 )
def s43:Su:=fU [.c false [q5]] [(true,[.str,dS]),(false,[ah])] fun x=>g43 x.1.1
theorem US:aw Tryz.prog 43 s43 :=
 fl (ac IV (ac acJ (ac abz an))) [.d 3 ah,.box 2 [(false,.str),(true,dS)]] [(0,⟨[.d 0 q5,.d 8 ah,.own 35 q3,.d 36 ah,.d 37 ah,.box 2 [(false,.str),(true,dS)],.box 9 [(false,.str),(true,dS)]],aq (Ft ya)⟩)] [] Tryz.f43 (lp [0] (sc dM sn))
def tK(t0:S8)(t3:Int)(t4:Bool)(t5:Int):Rd (S8×Int×Bool×Int×Unit) Unit :=
 cond (bT 0 t5) (
 cond (aZ t5 t0) (
 cond t4 (
 let u1:=(ba .i64 (cW .i64 (et t0 t5)) 48)
 let u2:=(vB .i64 2 u1)
 cond (aD 9 u2) (
 let u3:=(ba .i64 t5 1)
 eA (t0,(dP (ak .i64 t3 (ba .i64 u2 9)) 10),(!t4),u3,())
 ) (
 let u3:=(ba .i64 t5 1)
 eA (t0,(dP (ak .i64 t3 u2) 10),(!t4),u3,())
 )
 ) (
 let u1:=(ba .i64 (cW .i64 (et t0 t5)) 48)
 let u2:=(ba .i64 t5 1)
 eA (t0,(dP (ak .i64 t3 u1) 10),(!t4),u2,())
 )
 ) none
 ) (
 eB (t0,t3,t4,t5,())
 )
def LL:=pd (aq (dJ tK))
def Rv(p0:S8):Option ib :=
 (Eh p0).bind fun y1 =>
 cond (!y1.2.1.1) (
 c2
 ) (
 (LL p0 0 true (ba .i64 (ae p0) 1)).bind (Sum.elim (fun y2 =>
 zR (dP (ba .i64 10 y2.2.1) 10)
 ) (fun _ =>
 none
 ))
 )
def adf:Su:=fU [.c false [.str]] iX fun x=>Rv x.1.1
theorem aae:aw Tryz.prog 269 adf :=
 fl (ac zd an) [] [(0,⟨[.d 0 .str,.d 3 ah,.d 4 .bool,.d 5 ah],aq (dJ tK)⟩)] [] Tryz.f269 (lp [0] (sc dM sn))
def QA(p0:S8):Option gQ :=
 (Eh p0).bind fun y1 =>
 let u1:=(ae p0)
 cond (cond (!y1.2.1.1) true (aD u1 2)) (
 c0
 ) (
 let u2:=(ba .i64 u1 1)
 cond (ea 0 u2 p0) (
 (Rv (sub p0 0 u2)).bind fun y2 =>
 cond (aZ u2 p0) (
 zR (aj y2.2.1.1 (ba .i64 (cW .i64 (et p0 u2)) 48))
 ) none
 ) none
 )
def adm:Su:=fU [.c false [.str]] ic fun x=>QA x.1.1
theorem Xj:aw Tryz.prog 228 adm :=
 fq (ac zd (ac aae an)) Tryz.f228
def tV(p0:S8):Option gQ :=
 cond (bT (ae p0) 19) (
 (QA p0).bind fun y1 =>
 some ((),(y1.2.1,()))
 ) (
 c0
 )
def abL:Su:=fU [.c false [.str]] ic fun x=>tV x.1.1
theorem Sn:aw Tryz.prog 164 abL :=
 fq (ac Xj an) Tryz.f164
def A2(p0:Int):Option gQ :=
 zR (cond (bT 0 p0) (bT p0 4611686018427387904) false)
def adO:Su:=fU [.c false [ah]] ic fun x=>A2 x.1.1
theorem Cu:aw Tryz.prog 165 adO :=
 fq an Tryz.f165
def rA(t0:S8)(t3:Int):Rd ZQ Y2 :=
 cond (aD t3 (ae t0)) (
 cond (aZ t3 t0) (
 let u1:=(et t0 t3)
 cond (aD u1 48) (
 cond (aZ t3 t0) (
 cond (aD u1 97) (
 eC (false,())
 ) (
 cond (aZ t3 t0) (
 cond (aD 122 u1) (
 eC (false,())
 ) (
 eA (t0,(ak .i64 t3 1),())
 )
 ) none
 )
 ) none
 ) (
 cond (aZ t3 t0) (
 cond (aD 57 u1) (
 cond (aZ t3 t0) (
 cond (aD u1 97) (
 eC (false,())
 ) (
 cond (aZ t3 t0) (
 cond (aD 122 u1) (
 eC (false,())
 ) (
 eA (t0,(ak .i64 t3 1),())
 )
 ) none
 )
 ) none
 ) (
 eA (t0,(ak .i64 t3 1),())
 )
 ) none
 )
 ) none
 ) (
 eB (t0,t3,())
 )
def Kh:=OO (aq (x3 rA))
def JI(p0:S8):Option gQ :=
 (Kh p0 0).bind (Sum.elim (fun y1 =>
 (rR (ae y1.1) 1 6).bind fun y2 =>
 some ((),(y2.2.1,()))
 ) (fun y1 =>
 some ((),(y1,()))
 ))
def ab0:Su:=fU [.c false [.str]] ic fun x=>JI x.1.1
theorem N0:aw Tryz.prog 176 ab0 :=
 fl (ac pG an) [.d 2 .bool] [(0,⟨[.d 0 .str,.d 3 ah],aq (x3 rA)⟩)] [] Tryz.f176 (lp [0] (sc dM sn))
def GB(p0:Int):Option gQ :=
 (rR p0 0 1000000000).bind fun y1 =>
 some ((),(y1.2.1,()))
def s45:Su:=fU [.c false [ah]] ic fun x=>GB x.1.1
theorem rj:aw Tryz.prog 45 s45 :=
 fq (ac pG an) Tryz.f45
def Po(p0:S8×Int×Int×Unit):Option gQ :=
 (JI p0.1).bind fun y1 =>
 cond y1.2.1.1 (
 (rR p0.2.1 1 9007199254740992).bind fun y2 =>
 cond y2.2.1.1 (
 (GB p0.2.2.1).bind fun y3 =>
 some ((),(y3.2.1,()))
 ) (
 c0
 )
 ) (
 c0
 )
def aeb:Su:=fU [.c true [.str,ah,ah]] ic fun x=>Po x.1
theorem ZA:aw Tryz.prog 229 aeb :=
 fq (ac pG (ac N0 (ac rj an))) Tryz.f229
def rD(t0 t5:List bm)(t6 t7:Int):Rd ((List bm)×(List bm)×Int×Int×Unit) Y2 :=
 cond (aD t7 t6) (
 cond (aZ t7 t5) (
 let u1:=(gt d192 t5 t7)
 (Po u1).bind fun y1 =>
 cond (!y1.2.1.1) (
 eC (false,())
 ) (
 cond (aD 0 t7) (
 let u2:=(ba .i64 t7 1)
 cond (aZ u2 t0) (
 cond (!(yK (gt d192 t0 u2).1 u1.1)) (
 eC (false,())
 ) (
 eA (t0,t5,t6,(ak .i64 t7 1),())
 )
 ) none
 ) (
 eA (t0,t5,t6,(ak .i64 t7 1),())
 )
 )
 ) none
 ) (
 eB (t0,t5,t6,t7,())
 )
def Mv:=pd (aq (dJ rD))
def EV(p0:List bm):Option gQ :=
 (Mv p0 p0 (ae p0) 0).bind (Sum.elim (fun y1 =>
 zR (bT (ae y1.1) 4)
 ) (fun y1 =>
 some ((),(y1,()))
 ))
def ace:Su:=fU [.c false [bB]] ic fun x=>EV x.1.1
theorem SL:aw Tryz.prog 166 ace :=
 fl (ac ZA an) [.d 2 .bool] [(0,⟨[.d 0 bB,.d 5 bB,.d 6 ah,.d 7 ah],aq (dJ rD)⟩)] [] Tryz.f166 (lp [0] (sc dM sn))
def q9(t32 t33:Int)(b1:Int×Int×(List R3)×(List R3)×Unit):Rd (Int×Int×UX×Unit) Y2 :=
 cond (aD t33 t32) (
 cond (aZ t33 b1.2.2.1) (
 (A2 (gt d3 b1.2.2.1 t33).1).bind fun y1 =>
 cond (!y1.2.1.1) (
 eC (false,())
 ) (
 cond (aZ t33 b1.2.2.2.1) (
 (A2 (gt d3 b1.2.2.2.1 t33).1).bind fun y2 =>
 cond (!y2.2.1.1) (
 eC (false,())
 ) (
 eA (t32,(ak .i64 t33 1),b1,())
 )
 ) none
 )
 ) none
 ) (
 eB (t32,t33,b1,())
 )
def Kv:=pP (aq (fY q9))
def Db(p0:Int×Int×(List R3)×(List R3)×Unit):Option gQ :=
 (rR p0.1 1 1000).bind fun y1 =>
 cond (!y1.2.1.1) (
 c0
 ) (
 let u1:=(ae p0.2.2.1)
 (rR u1 1 8).bind fun y2 =>
 cond (cond (!y2.2.1.1) true (!(aj (ae p0.2.2.2.1) u1))) (
 c0
 ) (
 (GB p0.2.1).bind fun y3 =>
 cond (!y3.2.1.1) (
 c0
 ) (
 (Kv u1 0 p0).bind (Sum.elim (fun _ =>
 c4
 ) (fun y4 =>
 some ((),(y4,()))
 ))
 )
 )
 )
def ad7:Su:=fU [.c true [ah,ah,q3,q3]] ic fun x=>Db x.1
theorem HH:aw Tryz.prog 167 ad7 :=
 fl (ac pG (ac Cu (ac rj an))) [.d 2 .bool] [(0,⟨[.d 32 ah,.d 33 ah,.box 1 [(false,.int .i64),(false,.int .i64),(false,q3),(false,q3)]],aq (fY q9)⟩)] [] Tryz.f167 (lp [0] (sc dM sn))
def QI(p0:S8×S8×(List R5)×Unit):Option gQ :=
 (Eh p0.1).bind fun y1 =>
 cond (cond y1.2.1.1 (aj (ae p0.1) 6) false) (
 (Eh p0.2.1).bind fun y2 =>
 cond (cond y2.2.1.1 (aj (ae p0.2.1) 4) false) (
 (rR (ae p0.2.2.1) 1 200).bind fun y3 =>
 some ((),(y3.2.1,()))
 ) (
 c0
 )
 ) (
 c0
 )
def ad4:Su:=fU [.c true [.str,.str,q5]] ic fun x=>QI x.1
theorem aaG:aw Tryz.prog 185 ad4 :=
 fq (ac zd (ac pG an)) Tryz.f185
def yp(t0 t7:List bS)(t8 t9:Int)(t19:List bS)(t20 t21:Int)(b4:S8×S8×(List R5)×Unit):Rd ((List bS)×(List bS)×Int×Int×(List bS)×Int×Int×iF×Unit) Y2 :=
 cond (aD t21 t20) (
 cond (aZ t21 t19) (
 let u1:=(gt d100 t19 t21)
 cond (cond (bw u1.1 b4.1) (bw u1.2.1 b4.2.1) false) (
 eC (false,())
 ) (
 eA (t0,t7,t8,t9,t19,t20,(ak .i64 t21 1),b4,())
 )
 ) none
 ) (
 eB (t0,t7,t8,t9,t19,t20,t21,b4,())
 )
def TU:=cu8 (aq (Rj yp))
def yg(t0 t7:List bS)(t8 t9:Int):Rd Y35 Y2 :=
 cond (aD t9 t8) (
 cond (aZ t9 t7) (
 let u1:=(gt d100 t7 t9)
 (QI u1).bind fun y1 =>
 cond (!y1.2.1.1) (
 eC (false,())
 ) (
 cond (ea 0 t9 t0) (
 let u2:=(sub t0 0 t9)
 (TU t0 t7 t8 t9 u2 (ae u2) 0 u1).bind (Sum.elim (fun y2 =>
 eA (y2.1,y2.2.1,y2.2.2.1,(ak .i64 y2.2.2.2.1 1),())
 ) (fun y2 =>
 eC (y2.1,())
 ))
 ) none
 )
 ) none
 ) (
 eB (t0,t7,t8,t9,())
 )
def R7:=pd (aq (dJ yg))
def g99(p0:List bS):Option gQ :=
 (R7 p0 p0 (ae p0) 0).bind (Sum.elim (fun y1 =>
 zR (bT (ae y1.1) 6)
 ) (fun y1 =>
 some ((),(y1,()))
 ))
def s99:Su:=fU [.c false [bU]] ic fun x=>g99 x.1.1
theorem X6:aw Tryz.prog 99 s99 :=
 fl (ac aaG an) [.d 2 .bool] [(2,⟨[.d 0 bU,.d 7 bU,.d 8 ah,.d 9 ah,.d 19 bU,.d 20 ah,.d 21 ah,.box 4 [(false,.str),(false,.str),(false,q5)]],aq (Rj yp)⟩),(0,⟨[.d 0 bU,.d 7 bU,.d 8 ah,.d 9 ah],aq (dJ yg)⟩)] [] Tryz.f99 (lp [0] (sc (lp [2] (sc dM sn)) sn))
def K8(p0 p1 p2:Int):Option ib :=
 cond (aD p0 p1) (
 zR p1
 ) (
 cond (aD p2 p0) (
 zR p2
 ) (
 zR p0
 )
 )
def acS:Su:=fU [.c false [ah],.c false [ah],.c false [ah]] iX fun x=>K8 x.1.1 x.2.1.1 x.2.2.1.1
theorem YI:aw Tryz.prog 231 acS :=
 fq an Tryz.f231
def UC(p0 p1:Int):Option Y36 :=
 (A2 p0).bind fun y1 =>
 cond (!y1.2.1.1) (
 c23
 ) (
 (A2 p1).bind fun y2 =>
 cond (cond (!y2.2.1.1) true (aD (ba .i64 4611686018427387904 p1) p0)) (
 c23
 ) (
 some ((),(((ak .i64 p0 p1),()),(true,()),()))
 )
 )
def acd:Su:=fU [.c false [ah],.c false [ah]] [(false,[ah]),(false,[.bool])] fun x=>UC x.1.1 x.2.1.1
theorem XB:aw Tryz.prog 230 acd :=
 fq (ac Cu an) Tryz.f230
def wC(p0 p1:Int):Option ib :=
 (K8 p0 0 4611686018427387904).bind fun y1 =>
 (K8 p1 0 4611686018427387904).bind fun y2 =>
 (UC y1.2.1.1 y2.2.1.1).bind fun y3 =>
 cond (!y3.2.2.1.1) (
 c28
 ) (
 some ((),(y3.2.1,()))
 )
def abm:Su:=fU [.c false [ah],.c false [ah]] iX fun x=>wC x.1.1 x.2.1.1
theorem Ed:aw Tryz.prog 168 abm :=
 fq (ac YI (ac XB an)) Tryz.f168
def qx(t3:Int)(t6:List bm)(t7 t8:Int):Rd (Int×(List bm)×Int×Int×Unit) Unit :=
 cond (aD t8 t7) (
 cond (aZ t8 t6) (
 (wC t3 (gt d192 t6 t8).2.1).bind fun y1 =>
 eA (y1.2.1.1,t6,t7,(ak .i64 t8 1),())
 ) none
 ) (
 eB (t3,t6,t7,t8,())
 )
def Ms:=pd (aq (dJ qx))
def LW(p0:List bm):Option ib :=
 (Ms 0 p0 (ae p0) 0).bind (Sum.elim (fun y1 =>
 zR y1.1
 ) (fun _ =>
 none
 ))
def acq:Su:=fU [.c false [bB]] iX fun x=>LW x.1.1
theorem SN:aw Tryz.prog 169 acq :=
 fl (ac Ed an) [] [(0,⟨[.d 3 ah,.d 6 bB,.d 7 ah,.d 8 ah],aq (dJ qx)⟩)] [] Tryz.f169 (lp [0] (sc dM sn))
def OH(p0:S8×Int×Int×Int×Int×(List bm)×Int×Int×(List R3)×(List R3)×(List bS)×Unit):Option gQ :=
 (tV p0.1).bind fun y1 =>
 cond (!y1.2.1.1) (
 c0
 ) (
 (rR p0.2.1 0 9007199254740992).bind fun y2 =>
 cond (!y2.2.1.1) (
 c0
 ) (
 (rR p0.2.2.2.1 0 1000).bind fun y3 =>
 cond (!y3.2.1.1) (
 c0
 ) (
 (rR p0.2.2.2.2.1 0 9007199254740992).bind fun y4 =>
 cond (!y4.2.1.1) (
 c0
 ) (
 (A2 p0.2.2.1).bind fun y5 =>
 cond (!y5.2.1.1) (
 c0
 ) (
 (EV p0.2.2.2.2.2.1).bind fun y6 =>
 cond y6.2.1.1 (
 (Db (p0.2.2.2.2.2.2.1,p0.2.2.2.2.2.2.2.1,p0.2.2.2.2.2.2.2.2.1,p0.2.2.2.2.2.2.2.2.2.1,())).bind fun y7 =>
 cond y7.2.1.1 (
 (g99 p0.2.2.2.2.2.2.2.2.2.2.1).bind fun y8 =>
 cond y8.2.1.1 (
 (LW p0.2.2.2.2.2.1).bind fun y9 =>
 (wC p0.2.2.1 y9.2.1.1).bind fun y10 =>
 zR (bT y10.2.1.1 p0.2.1)
 ) (
 c0
 )
 ) (
 c0
 )
 ) (
 c0
 )
 )
 )
 )
 )
 )
def s81:Su:=fU [.c true [.str,ah,ah,ah,ah,bB,ah,ah,q3,q3,bU]] ic fun x=>OH x.1
theorem AJ:aw Tryz.prog 81 s81 :=
 fq (ac pG (ac Sn (ac Cu (ac SL (ac HH (ac X6 (ac Ed (ac SN an)))))))) Tryz.f81
def xe(t6:List gL)(t7 t8:Int)(b1:(List gL)×Unit):Rd ((List gL)×Int×Int×Y5×Unit) Y2 :=
 cond (aD t8 t7) (
 cond (aZ t8 t6) (
 let u1:=(gt d94 t6 t8)
 (OH u1).bind fun y1 =>
 cond (!y1.2.1.1) (
 eC (false,())
 ) (
 cond (aD 0 t8) (
 let u2:=(ba .i64 t8 1)
 cond (aZ u2 b1.1) (
 cond (!(yK (gt d94 b1.1 u2).1 u1.1)) (
 eC (false,())
 ) (
 eA (t6,t7,(ak .i64 t8 1),b1,())
 )
 ) none
 ) (
 eA (t6,t7,(ak .i64 t8 1),b1,())
 )
 )
 ) none
 ) (
 eB (t6,t7,t8,b1,())
 )
def Tq:=pd (aq (dJ xe))
def X8(p0:(List gL)×Unit):Option gQ :=
 (Tq p0.1 (ae p0.1) 0 p0).bind (Sum.elim (fun y1 =>
 zR (bT (ae y1.2.2.2.1.1) 6)
 ) (fun y1 =>
 some ((),(y1,()))
 ))
def s44:Su:=fU [.c true [lr]] ic fun x=>X8 x.1
theorem LY:aw Tryz.prog 44 s44 :=
 fl (ac AJ an) [.d 2 .bool] [(0,⟨[.d 6 lr,.d 7 ah,.d 8 ah,.box 1 [(false,lr)]],aq (dJ xe)⟩)] [] Tryz.f44 (lp [0] (sc dM sn))
def Vt(p0:S8):Option Au :=
 (Eh p0).bind fun y1 =>
 let u1:=(ae p0)
 cond (cond (!y1.2.1.1) true (!(aj u1 4))) (
 c6
 ) (
 cond (aZ 2 p0) (
 let u2:=(et p0 2)
 cond (aj (dP u2 2) 1) (
 c6
 ) (
 cond (ea 0 2 p0) (
 cond (aZ 2 p0) (
 let u3:=(sub p0 0 2)
 let u4:=(strOf [((ak .u8 u2 1),())])
 cond (iJ u3 u4) (
 cond (ea 3 u1 p0) (
 let u5:=(rN u3 u4)
 let u6:=(sub p0 3 u1)
 cond (iJ u5 u6) (
 zR (rN u5 u6)
 ) none
 ) none
 ) none
 ) none
 ) none
 )
 ) none
 )
def s46:Su:=fU [.c false [.str]] BQ fun x=>Vt x.1.1
theorem L1:aw Tryz.prog 46 s46 :=
 fq (ac zd an) Tryz.f46
def WW  : Option Xn :=
 c29
def abI:Su:=fU [] [(false,[.sl 9 kk9])] fun x=>WW 
theorem ZU:aw Tryz.prog 170 abI :=
 fq an Tryz.f170
def W0(p0:Int):Option Au :=
 (WW).bind fun y1 =>
 (rR p0 0 (ba .i64 (ae y1.2.1.1) 1)).bind fun y2 =>
 cond (!y2.2.1.1) (
 c6
 ) (
 cond (aZ p0 y1.2.1.1) (
 some ((),((gt d9 y1.2.1.1 p0),()))
 ) none
 )
def s83:Su:=fU [.c false [ah]] BQ fun x=>W0 x.1.1
theorem aaw:aw Tryz.prog 83 s83 :=
 fq (ac pG (ac ZU an)) Tryz.f83
def vF(p0:Int)(p1:S8):Option gQ :=
 (EA p0).bind fun y1 =>
 (Aw p0).bind fun y2 =>
 cond (aj y2.2.1.1 1) (
 let u1:=(Eh p1)
 Option.bind u1 fun y3 =>
 let u2:=(ae p1)
 zR (cond y3.2.1.1 (aj u2 y1.2.1.1) false)
 ) (
 cond (aj y2.2.1.1 2) (
 let u1:=(Bg p1)
 Option.bind u1 fun y3 =>
 let u2:=(ae p1)
 zR (cond y3.2.1.1 (aj u2 y1.2.1.1) false)
 ) (
 cond (aj y2.2.1.1 3) (
 let u1:=(Eh p1)
 Option.bind u1 fun y3 =>
 let u2:=(ae p1)
 zR (cond y3.2.1.1 (bT u2 y1.2.1.1) false)
 ) (
 cond (aj y2.2.1.1 4) (
 let u1:=(Bg p1)
 Option.bind u1 fun y3 =>
 cond y3.2.1.1 (
 let u2:=(ae p1)
 let u3:=(rR u2 1 y1.2.1.1)
 Option.bind u3 fun y4 =>
 some ((),(y4.2.1,()))
 ) (
 c0
 )
 ) (
 cond (aj y2.2.1.1 5) (
 let u1:=(Bg p1)
 Option.bind u1 fun y3 =>
 cond y3.2.1.1 (
 let u2:=(ae p1)
 let u3:=(rR u2 1 y1.2.1.1)
 Option.bind u3 fun y4 =>
 some ((),(y4.2.1,()))
 ) (
 c0
 )
 ) (
 c0
 )
 )
 )
 )
 )
def abw:Su:=fU [.c false [ah],.c false [.str]] ic fun x=>vF x.1.1 x.2.1.1
theorem Hz:aw Tryz.prog 171 abw :=
 fq (ac zd (ac DP (ac NQ (ac pG (ac TT an))))) Tryz.f171
def yv(t16:List eX)(t17 t18:Int)(b1:S8×(List eX)×Unit):Rd ((List eX)×Int×Int×vn×Unit) Y2 :=
 cond (aD t18 t17) (
 cond (aZ t18 t16) (
 let u1:=(gt d117 t16 t18)
 (vF u1.1 u1.2.1).bind fun y1 =>
 cond (!y1.2.1.1) (
 eC (false,())
 ) (
 cond (aD 0 t18) (
 let u2:=(ba .i64 t18 1)
 cond (aZ u2 b1.2.1) (
 cond (bT u1.1 (gt d117 b1.2.1 u2).1) (
 eC (false,())
 ) (
 eA (t16,t17,(ak .i64 t18 1),b1,())
 )
 ) none
 ) (
 eA (t16,t17,(ak .i64 t18 1),b1,())
 )
 )
 ) none
 ) (
 eB (t16,t17,t18,b1,())
 )
def Od:=pd (aq (dJ yv))
def VG(p0:S8×(List eX)×Unit):Option gQ :=
 (Eh p0.1).bind fun y1 =>
 cond (cond (!y1.2.1.1) true (!(aj (ae p0.1) 4))) (
 c0
 ) (
 (Od p0.2.1 (ae p0.2.1) 0 p0).bind (Sum.elim (fun _ =>
 c4
 ) (fun y2 =>
 some ((),(y2,()))
 ))
 )
def s84:Su:=fU [.c true [.str,dS]] ic fun x=>VG x.1
theorem P1:aw Tryz.prog 84 s84 :=
 fl (ac zd (ac Hz an)) [.d 2 .bool] [(0,⟨[.d 16 dS,.d 17 ah,.d 18 ah,.box 1 [(false,.str),(false,dS)]],aq (dJ yv)⟩)] [] Tryz.f84 (lp [0] (sc dM sn))
def g47(p0:S8)(p1:Int):Option ZC :=
 (Vt p0).bind fun y1 =>
 (W0 p1).bind fun y2 =>
 (VG (y1.2.1.1,[(39,y2.2.1.1,())],())).bind fun y3 =>
 cond (!y3.2.1.1) (
 Pg
 ) (
 some ((),((y1.2.1.1,[(39,y2.2.1.1,())],()),(true,()),()))
 )
def s47:Su:=fU [.c false [.str],.c false [ah]] [(true,[.str,dS]),(false,[.bool])] fun x=>g47 x.1.1 x.2.1.1
theorem VY:aw Tryz.prog 47 s47 :=
 fq (ac L1 (ac aaw (ac P1 an))) Tryz.f47
def xP(t0:S8)(t4:List R5)(t5:Int):Rd (S8×(List R5)×Int×Unit) Unit :=
 cond (aD t5 (ae t0)) (
 cond (aZ t5 t0) (
 let u1:=(ak .i64 t5 1)
 cond (aZ u1 t0) (
 cond (bj 1 t4 [((cW .u8 (ba .i64 (ak .i64 (vB .i64 (ba .i64 (cW .i64 (et t0 t5)) 48) 16) (cW .i64 (et t0 u1))) 48)),())]) (
 eA (t0,(fy t4 [((cW .u8 (ba .i64 (ak .i64 (vB .i64 (ba .i64 (cW .i64 (et t0 t5)) 48) 16) (cW .i64 (et t0 u1))) 48)),())]),(ak .i64 t5 2),())
 ) none
 ) none
 ) none
 ) (
 eB (t0,t4,t5,())
 )
def LF:=pP (aq (fY xP))
def OQ(p0:S8):Option J2 :=
 (Eh p0).bind fun y1 =>
 let u1:=(ae p0)
 cond (cond (!y1.2.1.1) true (aD 38 u1)) (
 c7
 ) (
 cond (aj (dP u1 2) 1) (
 cond (iJ [48] p0) (
 (LF (rN [48] p0) [] 0).bind (Sum.elim (fun y2 =>
 some ((),((y2.2.1,()),(true,()),()))
 ) (fun _ =>
 none
 ))
 ) none
 ) (
 (LF p0 [] 0).bind (Sum.elim (fun y2 =>
 some ((),((y2.2.1,()),(true,()),()))
 ) (fun _ =>
 none
 ))
 )
 )
def s85:Su:=fU [.c false [.str]] OK fun x=>OQ x.1.1
theorem V3:aw Tryz.prog 85 s85 :=
 fl (ac zd an) [] [(0,⟨[.d 0 .str,.own 4 q5,.d 5 ah],aq (fY xP)⟩)] [] Tryz.f85 (lp [0] (sc dM sn))
def wH(t3:List R5)(t7:List R3)(t8 t9:Int):Rd ((List R5)×(List R3)×Int×Int×Unit) Unit :=
 cond (aD t9 t8) (
 cond (aZ t9 t7) (
 (rR (gt d3 t7 t9).1 1 64).bind fun y1 =>
 cond y1.2.1.1 (
 let u1:=(ba .i64 (gt d3 t7 t9).1 1)
 let u2:=(jr .i64 u1 8)
 cond (aZ u2 t3) (
 let u3:=(dP u1 8)
 cond (bT 0 u3) (
 cond (aZ u2 t3) (
 let u4:=(ak .i64 t9 1)
 eA ((cO t3 u2 ((OP .u8 (gt d5 t3 u2).1 (pI .u8 128 u3)),())),t7,t8,u4,())
 ) none
 ) none
 ) none
 ) (
 let u1:=(ak .i64 t9 1)
 eA (t3,t7,t8,u1,())
 )
 ) none
 ) (
 eB (t3,t7,t8,t9,())
 )
def Zm:=pd (aq (dJ wH))
def O6(p0:List R3):Option YS :=
 (Zm (vE d5 8) p0 (ae p0) 0).bind (Sum.elim (fun y1 =>
 zR y1.1
 ) (fun _ =>
 none
 ))
def s86:Su:=fU [.c false [q3]] Xb fun x=>O6 x.1.1
theorem abn:aw Tryz.prog 86 s86 :=
 fl (ac pG an) [] [(0,⟨[.own 3 q5,.d 7 q3,.d 8 ah,.d 9 ah],aq (dJ wH)⟩)] [] Tryz.f86 (lp [0] (sc dM sn))
def oE(t0:Int)(t3:S8):Rd YA Unit :=
 cond (aD 9 t0) (
 let u1:=(strOf [((cW .u8 (ak .i64 48 (dP t0 10))),())])
 cond (iJ u1 t3) (
 eA ((jr .i64 t0 10),(rN u1 t3),())
 ) none
 ) (
 eB (t0,t3,())
 )
def Mb:=OO (aq (x3 oE))
def QG(p0:Int):Option Au :=
 (A2 p0).bind fun y1 =>
 cond (!y1.2.1.1) (
 c6
 ) (
 (Mb p0 []).bind (Sum.elim (fun y2 =>
 let u1:=(strOf [((cW .u8 (ak .i64 48 y2.1)),())])
 cond (iJ u1 y2.2.1) (
 zR (rN u1 y2.2.1)
 ) none
 ) (fun _ =>
 none
 ))
 )
def adM:Su:=fU [.c false [ah]] BQ fun x=>QG x.1.1
theorem ZI:aw Tryz.prog 270 adM :=
 fl (ac Cu an) [] [(0,⟨[.d 0 ah,.d 3 .str],aq (x3 oE)⟩)] [] Tryz.f270 (lp [0] (sc dM sn))
def tE(t1:Int)(t5:S8):Rd YA Unit :=
 cond (aD (ae t5) t1) (
 cond (iJ [48] t5) (
 eA (t1,(rN [48] t5),())
 ) none
 ) (
 eB (t1,t5,())
 )
def Ng:=OO (aq (x3 tE))
def JM(p0 p1:Int):Option Au :=
 (QG p0).bind fun y1 =>
 cond (cond (cond (cond (bw y1.2.1.1 []) true (aD p1 1)) true (aD 18 p1)) true (aD p1 (ae y1.2.1.1))) (
 c6
 ) (
 (Ng p1 y1.2.1.1).bind (Sum.elim (fun y2 =>
 zR y2.2.1
 ) (fun _ =>
 none
 ))
 )
def acb:Su:=fU [.c false [ah],.c false [ah]] BQ fun x=>JM x.1.1 x.2.1.1
theorem SM:aw Tryz.prog 232 acb :=
 fl (ac ZI an) [] [(0,⟨[.d 1 ah,.d 5 .str],aq (x3 tE)⟩)] [] Tryz.f232 (lp [0] (sc dM sn))
def EO(p0 p1:Int):Option J2 :=
 cond (cond (!(aj p1 2)) (!(aj p1 3)) false) (
 c7
 ) (
 (JM p0 p1).bind fun y1 =>
 (OQ y1.2.1.1).bind fun y2 =>
 some ((),(y2.2.1,y2.2.2.1,()))
 )
def acG:Su:=fU [.c false [ah],.c false [ah]] OK fun x=>EO x.1.1 x.2.1.1
theorem Yr:aw Tryz.prog 172 acG :=
 fq (ac V3 (ac SM an)) Tryz.f172
def g87(p0:Int)(p1:S8):Option J2 :=
 (vF p0 p1).bind fun y1 =>
 cond (!y1.2.1.1) (
 c7
 ) (
 (Aw p0).bind fun y2 =>
 let u1:=(WK y2.2.1.1)
 Option.bind u1 fun y3 =>
 cond (aD 0 y3.2.1.1) (
 Option.bind u1 fun y4 =>
 (EO (ae p1) y4.2.1.1).bind fun y5 =>
 let u2:=(cond (aj y2.2.1.1 1) true (aj y2.2.1.1 3))
 cond u2 (
 let u3:=(OQ p1)
 Option.bind u3 fun y6 =>
 cond (bj 1 y5.2.1.1 y6.2.1.1) (
 some ((),(((fy y5.2.1.1 y6.2.1.1),()),(true,()),()))
 ) none
 ) (
 let u3:=(bytesOf p1)
 cond (bj 1 y5.2.1.1 u3) (
 some ((),(((fy y5.2.1.1 u3),()),(true,()),()))
 ) none
 )
 ) (
 let u2:=(cond (aj y2.2.1.1 1) true (aj y2.2.1.1 3))
 cond u2 (
 let u3:=(OQ p1)
 Option.bind u3 fun y4 =>
 cond (bj 1 [] y4.2.1.1) (
 some ((),(((fy [] y4.2.1.1),()),(true,()),()))
 ) none
 ) (
 let u3:=(bytesOf p1)
 cond (bj 1 [] u3) (
 some ((),(((fy [] u3),()),(true,()),()))
 ) none
 )
 )
 )
def s87:Su:=fU [.c false [ah],.c false [.str]] OK fun x=>g87 x.1.1 x.2.1.1
theorem adt:aw Tryz.prog 87 s87 :=
 fq (ac DP (ac TW (ac Hz (ac V3 (ac Yr an))))) Tryz.f87
def xv(t4 t5:List R3)(t20:List eX)(t21 t22:Int)(b1:S8×(List eX)×Unit):Rd ((List R3)×(List R3)×(List eX)×Int×Int×vn×Unit) Unit :=
 cond (aD t22 t21) (
 cond (aZ t22 t20) (
 cond (aD 64 (gt d117 t20 t22).1) (
 cond (bj 8 t5 [((ba .i64 (gt d117 t20 t22).1 64),())]) (
 let u1:=(ak .i64 t22 1)
 eA (t4,(fy t5 [((ba .i64 (gt d117 t20 t22).1 64),())]),t20,t21,u1,b1,())
 ) none
 ) (
 cond (bj 8 t4 [((gt d117 t20 t22).1,())]) (
 let u1:=(ak .i64 t22 1)
 eA ((fy t4 [((gt d117 t20 t22).1,())]),t5,t20,t21,u1,b1,())
 ) none
 )
 ) none
 ) (
 eB (t4,t5,t20,t21,t22,b1,())
 )
def SK:=cu6 (aq (J7 xv))
def xZ(t8:List R5)(t65:List eX)(t66 t67:Int):Rd ((List R5)×(List eX)×Int×Int×Unit) Unit :=
 cond (aD t67 t66) (
 cond (aZ t67 t65) (
 let u1:=(gt d117 t65 t67)
 (g87 u1.1 u1.2.1).bind fun y1 =>
 cond (bj 1 t8 y1.2.1.1) (
 eA ((fy t8 y1.2.1.1),t65,t66,(ak .i64 t67 1),())
 ) none
 ) none
 ) (
 eB (t8,t65,t66,t67,())
 )
def wV:=pd (aq (dJ xZ))
def XS(p0:S8×(List eX)×Unit):Option J2 :=
 (VG p0).bind fun y1 =>
 cond (!y1.2.1.1) (
 c7
 ) (
 (SK [] [] p0.2.1 (ae p0.2.1) 0 p0).bind (Sum.elim (fun y2 =>
 (OQ y2.2.2.2.2.2.1.1).bind fun y3 =>
 cond (aD 0 (ae y2.2.1)) (
 cond (bj 8 y2.1 [(1,())]) (
 (O6 (fy y2.1 [(1,())])).bind fun y4 =>
 let u1:=(bj 1 y3.2.1.1 y4.2.1.1)
 cond u1 (
 cond (aD 0 (ae y2.2.1)) (
 let u2:=(O6 y2.2.1)
 Option.bind u2 fun y5 =>
 let u3:=(fy y3.2.1.1 y4.2.1.1)
 let u4:=(bj 1 u3 y5.2.1.1)
 cond u4 (
 let u5:=(ae y2.2.2.2.2.2.1.2.1)
 let u6:=(wV (fy u3 y5.2.1.1) y2.2.2.2.2.2.1.2.1 u5 0)
 Option.bind u6 (Sum.elim (fun y6 =>
 some ((),((y6.1,()),(true,()),()))
 ) (fun _ =>
 none
 ))
 ) none
 ) (
 let u2:=(fy y3.2.1.1 y4.2.1.1)
 let u3:=(ae y2.2.2.2.2.2.1.2.1)
 let u4:=(wV u2 y2.2.2.2.2.2.1.2.1 u3 0)
 Option.bind u4 (Sum.elim (fun y5 =>
 some ((),((y5.1,()),(true,()),()))
 ) (fun _ =>
 none
 ))
 )
 ) none
 ) none
 ) (
 (O6 y2.1).bind fun y4 =>
 let u1:=(bj 1 y3.2.1.1 y4.2.1.1)
 cond u1 (
 cond (aD 0 (ae y2.2.1)) (
 let u2:=(O6 y2.2.1)
 Option.bind u2 fun y5 =>
 let u3:=(fy y3.2.1.1 y4.2.1.1)
 let u4:=(bj 1 u3 y5.2.1.1)
 cond u4 (
 let u5:=(ae y2.2.2.2.2.2.1.2.1)
 let u6:=(wV (fy u3 y5.2.1.1) y2.2.2.2.2.2.1.2.1 u5 0)
 Option.bind u6 (Sum.elim (fun y6 =>
 some ((),((y6.1,()),(true,()),()))
 ) (fun _ =>
 none
 ))
 ) none
 ) (
 let u2:=(fy y3.2.1.1 y4.2.1.1)
 let u3:=(ae y2.2.2.2.2.2.1.2.1)
 let u4:=(wV u2 y2.2.2.2.2.2.1.2.1 u3 0)
 Option.bind u4 (Sum.elim (fun y5 =>
 some ((),((y5.1,()),(true,()),()))
 ) (fun _ =>
 none
 ))
 )
 ) none
 )
 ) (fun _ =>
 none
 ))
 )
def s48:Su:=fU [.c true [.str,dS]] OK fun x=>XS x.1
theorem Ra:aw Tryz.prog 48 s48 :=
 fl (ac P1 (ac V3 (ac abn (ac adt an)))) [] [(0,⟨[.own 4 q3,.own 5 q3,.d 20 dS,.d 21 ah,.d 22 ah,.box 1 [(false,.str),(false,dS)]],aq (J7 xv)⟩),(2,⟨[.own 8 q5,.d 65 dS,.d 66 ah,.d 67 ah],aq (dJ xZ)⟩)] [] Tryz.f48 (lp [0,2] (sc dM (sc dM sn)))
def g88(p0:S8):Option gQ :=
 zR (cond (cond (bw p0 [48,49,48,48]) true (bw p0 [48,50,48,48])) true (bw p0 [48,50,50,48]))
def s88:Su:=fU [.c false [.str]] ic fun x=>g88 x.1.1
theorem ach:aw Tryz.prog 88 s88 :=
 fq an Tryz.f88
def wP(t1:Int)(t9:List eX)(t10 t11:Int):Rd (Int×(List eX)×Int×Int×Unit) (S8×Bool×Unit) :=
 cond (aD t11 t10) (
 cond (aZ t11 t9) (
 let u1:=(gt d117 t9 t11)
 cond (aj u1.1 t1) (
 eC (u1.2.1,true,())
 ) (
 eA (t1,t9,t10,(ak .i64 t11 1),())
 )
 ) none
 ) (
 eB (t1,t9,t10,t11,())
 )
def TA:=pd (aq (dJ wP))
def wk(p0:S8×(List eX)×Unit)(p1:Int):Option (Unit×(Y9×Y2×Unit)) :=
 (TA p1 p0.2.1 (ae p0.2.1) 0).bind (Sum.elim (fun _ =>
 some ((),(([],()),(false,()),()))
 ) (fun y1 =>
 some ((),((y1.1,()),(y1.2.1,()),()))
 ))
def s89:Su:=fU [.c true [.str,dS],.c false [ah]] [(false,[.str]),(false,[.bool])] fun x=>wk x.1 x.2.1.1
theorem YD:aw Tryz.prog 89 s89 :=
 fl an [.d 4 .str,.d 5 .bool] [(0,⟨[.d 1 ah,.d 9 dS,.d 10 ah,.d 11 ah],aq (dJ wP)⟩)] [] Tryz.f89 (lp [0] (sc dM sn))
def B6(p0:Int):Option gQ :=
 (rR p0 1 8).bind fun y1 =>
 some ((),(y1.2.1,()))
def abB:Su:=fU [.c false [ah]] ic fun x=>B6 x.1.1
theorem Ht:aw Tryz.prog 175 abB :=
 fq (ac pG an) Tryz.f175
def aai  : Option Xn :=
 zR [([],()),([48,49,48,48],()),([48,49,48,48],()),([48,50,50,48],()),([48,50,50,48],()),([48,50,50,48],()),([48,50,48,48],()),([48,49,48,48],()),([48,50,48,48],())]
def adN:Su:=fU [] [(false,[.sl 9 kk9])] fun x=>aai 
theorem Yt:aw Tryz.prog 233 adN :=
 fq an Tryz.f233
def JJ(p0:Int):Option Au :=
 (B6 p0).bind fun y1 =>
 cond (!y1.2.1.1) (
 c6
 ) (
 (aai).bind fun y2 =>
 cond (aZ p0 y2.2.1.1) (
 some ((),((gt d9 y2.2.1.1 p0),()))
 ) none
 )
def ab2:Su:=fU [.c false [ah]] BQ fun x=>JJ x.1.1
theorem SV:aw Tryz.prog 173 ab2 :=
 fq (ac Ht (ac Yt an)) Tryz.f173
def aad  : Option Xn :=
 zR [([],()),([48,48],()),([48,50],()),([48,49],()),([48,48],()),([50,48],()),([52,48],()),([51,49],()),([57,48],())]
def adE:Su:=fU [] [(false,[.sl 9 kk9])] fun x=>aad 
theorem aac:aw Tryz.prog 234 adE :=
 fq an Tryz.f234
def Uh(p0:Int):Option Au :=
 (B6 p0).bind fun y1 =>
 cond (!y1.2.1.1) (
 c6
 ) (
 (aad).bind fun y2 =>
 cond (aZ p0 y2.2.1.1) (
 some ((),((gt d9 y2.2.1.1 p0),()))
 ) none
 )
def adb:Su:=fU [.c false [ah]] BQ fun x=>Uh x.1.1
theorem aag:aw Tryz.prog 174 adb :=
 fq (ac Ht (ac aac an)) Tryz.f174
def Cc(t0 t1:S8)(t5:Int):Rd (S8×S8×Int×Unit) Y1 :=
 cond (bT t5 8) (
 (JJ t5).bind fun y1 =>
 cond (bw y1.2.1.1 t0) (
 (Uh t5).bind fun y2 =>
 cond (ea 0 2 t1) (
 cond (bw y2.2.1.1 (sub t1 0 2)) (
 eC (t5,())
 ) (
 eA (t0,t1,(ak .i64 t5 1),())
 )
 ) none
 ) (
 eA (t0,t1,(ak .i64 t5 1),())
 )
 ) (
 eB (t0,t1,t5,())
 )
def TN:=pP (aq (fY Cc))
def ZB(p0 p1:S8):Option ib :=
 (TN p0 p1 1).bind (Sum.elim (fun _ =>
 c5
 ) (fun y1 =>
 some ((),(y1,()))
 ))
def s90:Su:=fU [.c false [.str],.c false [.str]] iX fun x=>ZB x.1.1 x.2.1.1
theorem adB:aw Tryz.prog 90 s90 :=
 fl (ac SV (ac aag an)) [.d 4 ah] [(0,⟨[.d 0 .str,.d 1 .str,.d 5 ah],aq (fY Cc)⟩)] [] Tryz.f90 (lp [0] (sc dM sn))
def WY(p0:Int):Option gQ :=
 (B6 p0).bind fun y1 =>
 zR (cond y1.2.1.1 (aD p0 7) false)
def s91:Su:=fU [.c false [ah]] ic fun x=>WY x.1.1
theorem YE:aw Tryz.prog 91 s91 :=
 fq (ac Ht an) Tryz.f91
def GC(t0:S8)(t3:Int):Rd ZQ Unit :=
 cond (aD 0 t3) (
 let u1:=(ba .i64 t3 1)
 cond (aZ u1 t0) (
 cond (aj (et t0 u1) 32) (
 eA (t0,u1,())
 ) (
 eB (t0,t3,())
 )
 ) none
 ) (
 eB (t0,t3,())
 )
def SX:=OO (aq (x3 GC))
def g92(p0:S8):Option Au :=
 (SX p0 (ae p0)).bind (Sum.elim (fun y1 =>
 cond (ea 0 y1.2.1 y1.1) (
 zR (sub y1.1 0 y1.2.1)
 ) none
 ) (fun _ =>
 none
 ))
def s92:Su:=fU [.c false [.str]] BQ fun x=>g92 x.1.1
theorem adR:aw Tryz.prog 92 s92 :=
 fl an [] [(0,⟨[.d 0 .str,.d 3 ah],aq (x3 GC)⟩)] [] Tryz.f92 (lp [0] (sc dM sn))
def TG(p0:Int):Option gQ :=
 (rR p0 1 4).bind fun y1 =>
 some ((),(y1.2.1,()))
def s93:Su:=fU [.c false [ah]] ic fun x=>TG x.1.1
theorem aak:aw Tryz.prog 93 s93 :=
 fq (ac pG an) Tryz.f93
def yS(p0:Int×S8×S8×S8×S8×S8×Int×Int×Unit):Option gQ :=
 (B6 p0.1).bind fun y1 =>
 cond (!y1.2.1.1) (
 c0
 ) (
 (JJ p0.1).bind fun y2 =>
 cond (!(bw p0.2.2.2.2.2.1 y2.2.1.1)) (
 c0
 ) (
 (tV p0.2.1).bind fun y3 =>
 cond (!y3.2.1.1) (
 c0
 ) (
 (Eh p0.2.2.2.2.1).bind fun y4 =>
 cond (cond (!y4.2.1.1) true (!(aj (ae p0.2.2.2.2.1) 6))) (
 c0
 ) (
 let u1:=(WY p0.1)
 Option.bind u1 fun y5 =>
 cond y5.2.1.1 (
 (JI p0.2.2.2.1).bind fun y6 =>
 cond (!y6.2.1.1) (
 c0
 ) (
 Option.bind u1 fun y7 =>
 cond (cond (!y7.2.1.1) (!(bw p0.2.2.2.1 [])) false) (
 c0
 ) (
 let u2:=(TG p0.1)
 Option.bind u2 fun y8 =>
 cond y8.2.1.1 (
 let u3:=(rR p0.2.2.2.2.2.2.1 0 999999999999)
 Option.bind u3 fun y9 =>
 cond (!y9.2.1.1) (
 c0
 ) (
 Option.bind u2 fun y10 =>
 cond (cond (!y10.2.1.1) (!(aj p0.2.2.2.2.2.2.1 0)) false) (
 c0
 ) (
 cond (aj p0.1 1) (
 let u4:=(rR p0.2.2.2.2.2.2.2.1 0 9999)
 Option.bind u4 fun y11 =>
 cond (!y11.2.1.1) (
 c0
 ) (
 let u5:=(cond (!(aj p0.1 1)) (!(aj p0.2.2.2.2.2.2.2.1 0)) false)
 cond u5 (
 c0
 ) (
 cond (aj p0.1 6) (
 let u6:=(tV p0.2.2.1)
 Option.bind u6 fun y12 =>
 cond y12.2.1.1 (
 c4
 ) (
 zR (cond (!(aj p0.1 6)) (bw p0.2.2.1 []) false)
 )
 ) (
 zR (cond (!(aj p0.1 6)) (bw p0.2.2.1 []) false)
 )
 )
 )
 ) (
 let u4:=(cond (!(aj p0.1 1)) (!(aj p0.2.2.2.2.2.2.2.1 0)) false)
 cond u4 (
 c0
 ) (
 cond (aj p0.1 6) (
 let u5:=(tV p0.2.2.1)
 Option.bind u5 fun y11 =>
 cond y11.2.1.1 (
 c4
 ) (
 zR (cond (!(aj p0.1 6)) (bw p0.2.2.1 []) false)
 )
 ) (
 zR (cond (!(aj p0.1 6)) (bw p0.2.2.1 []) false)
 )
 )
 )
 )
 )
 ) (
 Option.bind u2 fun y9 =>
 let u3:=(cond (!y9.2.1.1) (!(aj p0.2.2.2.2.2.2.1 0)) false)
 cond u3 (
 c0
 ) (
 cond (aj p0.1 1) (
 let u4:=(rR p0.2.2.2.2.2.2.2.1 0 9999)
 Option.bind u4 fun y10 =>
 cond (!y10.2.1.1) (
 c0
 ) (
 let u5:=(cond (!(aj p0.1 1)) (!(aj p0.2.2.2.2.2.2.2.1 0)) false)
 cond u5 (
 c0
 ) (
 cond (aj p0.1 6) (
 let u6:=(tV p0.2.2.1)
 Option.bind u6 fun y11 =>
 cond y11.2.1.1 (
 c4
 ) (
 zR (cond (!(aj p0.1 6)) (bw p0.2.2.1 []) false)
 )
 ) (
 zR (cond (!(aj p0.1 6)) (bw p0.2.2.1 []) false)
 )
 )
 )
 ) (
 let u4:=(cond (!(aj p0.1 1)) (!(aj p0.2.2.2.2.2.2.2.1 0)) false)
 cond u4 (
 c0
 ) (
 cond (aj p0.1 6) (
 let u5:=(tV p0.2.2.1)
 Option.bind u5 fun y10 =>
 cond y10.2.1.1 (
 c4
 ) (
 zR (cond (!(aj p0.1 6)) (bw p0.2.2.1 []) false)
 )
 ) (
 zR (cond (!(aj p0.1 6)) (bw p0.2.2.1 []) false)
 )
 )
 )
 )
 )
 )
 )
 ) (
 Option.bind u1 fun y6 =>
 cond (cond (!y6.2.1.1) (!(bw p0.2.2.2.1 [])) false) (
 c0
 ) (
 let u2:=(TG p0.1)
 Option.bind u2 fun y7 =>
 cond y7.2.1.1 (
 let u3:=(rR p0.2.2.2.2.2.2.1 0 999999999999)
 Option.bind u3 fun y8 =>
 cond (!y8.2.1.1) (
 c0
 ) (
 Option.bind u2 fun y9 =>
 let u4:=(cond (!y9.2.1.1) (!(aj p0.2.2.2.2.2.2.1 0)) false)
 cond u4 (
 c0
 ) (
 cond (aj p0.1 1) (
 let u5:=(rR p0.2.2.2.2.2.2.2.1 0 9999)
 Option.bind u5 fun y10 =>
 cond (!y10.2.1.1) (
 c0
 ) (
 let u6:=(cond (!(aj p0.1 1)) (!(aj p0.2.2.2.2.2.2.2.1 0)) false)
 cond u6 (
 c0
 ) (
 cond (aj p0.1 6) (
 let u7:=(tV p0.2.2.1)
 Option.bind u7 fun y11 =>
 cond y11.2.1.1 (
 c4
 ) (
 zR (cond (!(aj p0.1 6)) (bw p0.2.2.1 []) false)
 )
 ) (
 zR (cond (!(aj p0.1 6)) (bw p0.2.2.1 []) false)
 )
 )
 )
 ) (
 let u5:=(cond (!(aj p0.1 1)) (!(aj p0.2.2.2.2.2.2.2.1 0)) false)
 cond u5 (
 c0
 ) (
 cond (aj p0.1 6) (
 let u6:=(tV p0.2.2.1)
 Option.bind u6 fun y10 =>
 cond y10.2.1.1 (
 c4
 ) (
 zR (cond (!(aj p0.1 6)) (bw p0.2.2.1 []) false)
 )
 ) (
 zR (cond (!(aj p0.1 6)) (bw p0.2.2.1 []) false)
 )
 )
 )
 )
 )
 ) (
 Option.bind u2 fun y8 =>
 cond (cond (!y8.2.1.1) (!(aj p0.2.2.2.2.2.2.1 0)) false) (
 c0
 ) (
 cond (aj p0.1 1) (
 let u3:=(rR p0.2.2.2.2.2.2.2.1 0 9999)
 Option.bind u3 fun y9 =>
 cond (!y9.2.1.1) (
 c0
 ) (
 let u4:=(cond (!(aj p0.1 1)) (!(aj p0.2.2.2.2.2.2.2.1 0)) false)
 cond u4 (
 c0
 ) (
 cond (aj p0.1 6) (
 let u5:=(tV p0.2.2.1)
 Option.bind u5 fun y10 =>
 cond y10.2.1.1 (
 c4
 ) (
 zR (cond (!(aj p0.1 6)) (bw p0.2.2.1 []) false)
 )
 ) (
 zR (cond (!(aj p0.1 6)) (bw p0.2.2.1 []) false)
 )
 )
 )
 ) (
 let u3:=(cond (!(aj p0.1 1)) (!(aj p0.2.2.2.2.2.2.2.1 0)) false)
 cond u3 (
 c0
 ) (
 cond (aj p0.1 6) (
 let u4:=(tV p0.2.2.1)
 Option.bind u4 fun y9 =>
 cond y9.2.1.1 (
 c4
 ) (
 zR (cond (!(aj p0.1 6)) (bw p0.2.2.1 []) false)
 )
 ) (
 zR (cond (!(aj p0.1 6)) (bw p0.2.2.1 []) false)
 )
 )
 )
 )
 )
 )
 )
 )
 )
 )
 )
def s95:Su:=fU [.c true [ah,.str,.str,.str,.str,.str,ah,ah]] ic fun x=>yS x.1
theorem Un:aw Tryz.prog 95 s95 :=
 fq (ac zd (ac pG (ac Sn (ac N0 (ac Ht (ac SV (ac YE (ac aak an)))))))) Tryz.f95
def g49(p0:S8×(List eX)×Unit):Option (Unit×(Wq×Y1×Unit)) :=
 (VG p0).bind fun y1 =>
 cond (!y1.2.1.1) (
 c1
 ) (
 (g88 p0.1).bind fun y2 =>
 cond (!y2.2.1.1) (
 c30
 ) (
 (wk p0 3).bind fun y3 =>
 cond (!y3.2.2.1.1) (
 c1
 ) (
 (ZB p0.1 y3.2.1.1).bind fun y4 =>
 (wk p0 2).bind fun y5 =>
 (wk p0 11).bind fun y6 =>
 (WY y4.2.1.1).bind fun y7 =>
 cond y7.2.1.1 (
 (wk p0 38).bind fun y8 =>
 (g92 y8.2.1.1).bind fun y9 =>
 let u1:=(TG y4.2.1.1)
 Option.bind u1 fun y10 =>
 cond y10.2.1.1 (
 let u2:=(wk p0 4)
 Option.bind u2 fun y11 =>
 let u3:=(J6 y11.2.1.1)
 Option.bind u3 fun y12 =>
 cond (aj y4.2.1.1 1) (
 let u4:=(wk p0 14)
 Option.bind u4 fun y13 =>
 (J6 y13.2.1.1).bind fun y14 =>
 cond (aj y4.2.1.1 6) (
 let u5:=(wk p0 103)
 Option.bind u5 fun y15 =>
 let u6:=(cond y3.2.2.1.1 y11.2.2.1.1 false)
 cond (!(cond u6 y13.2.2.1.1 false)) (
 c1
 ) (
 (yS (y4.2.1.1,y5.2.1.1,y15.2.1.1,y9.2.1.1,y6.2.1.1,p0.1,y12.2.1.1,y14.2.1.1,())).bind fun y16 =>
 cond (!y16.2.1.1) (
 c1
 ) (
 some ((),((y4.2.1.1,y5.2.1.1,y15.2.1.1,y9.2.1.1,y6.2.1.1,p0.1,y12.2.1.1,y14.2.1.1,()),(0,()),()))
 )
 )
 ) (
 let u5:=(cond y3.2.2.1.1 y11.2.2.1.1 false)
 cond (!(cond u5 y13.2.2.1.1 false)) (
 c1
 ) (
 (yS (y4.2.1.1,y5.2.1.1,[],y9.2.1.1,y6.2.1.1,p0.1,y12.2.1.1,y14.2.1.1,())).bind fun y15 =>
 cond (!y15.2.1.1) (
 c1
 ) (
 some ((),((y4.2.1.1,y5.2.1.1,[],y9.2.1.1,y6.2.1.1,p0.1,y12.2.1.1,y14.2.1.1,()),(0,()),()))
 )
 )
 )
 ) (
 cond (aj y4.2.1.1 6) (
 let u4:=(wk p0 103)
 Option.bind u4 fun y13 =>
 let u5:=(cond y3.2.2.1.1 y11.2.2.1.1 false)
 cond (!u5) (
 c1
 ) (
 (yS (y4.2.1.1,y5.2.1.1,y13.2.1.1,y9.2.1.1,y6.2.1.1,p0.1,y12.2.1.1,0,())).bind fun y14 =>
 cond (!y14.2.1.1) (
 c1
 ) (
 some ((),((y4.2.1.1,y5.2.1.1,y13.2.1.1,y9.2.1.1,y6.2.1.1,p0.1,y12.2.1.1,0,()),(0,()),()))
 )
 )
 ) (
 let u4:=(cond y3.2.2.1.1 y11.2.2.1.1 false)
 cond (!u4) (
 c1
 ) (
 (yS (y4.2.1.1,y5.2.1.1,[],y9.2.1.1,y6.2.1.1,p0.1,y12.2.1.1,0,())).bind fun y13 =>
 cond (!y13.2.1.1) (
 c1
 ) (
 some ((),((y4.2.1.1,y5.2.1.1,[],y9.2.1.1,y6.2.1.1,p0.1,y12.2.1.1,0,()),(0,()),()))
 )
 )
 )
 )
 ) (
 cond (aj y4.2.1.1 1) (
 let u2:=(wk p0 14)
 Option.bind u2 fun y11 =>
 let u3:=(J6 y11.2.1.1)
 Option.bind u3 fun y12 =>
 cond (aj y4.2.1.1 6) (
 let u4:=(wk p0 103)
 Option.bind u4 fun y13 =>
 let u5:=(cond y3.2.2.1.1 y11.2.2.1.1 false)
 cond (!u5) (
 c1
 ) (
 (yS (y4.2.1.1,y5.2.1.1,y13.2.1.1,y9.2.1.1,y6.2.1.1,p0.1,0,y12.2.1.1,())).bind fun y14 =>
 cond (!y14.2.1.1) (
 c1
 ) (
 some ((),((y4.2.1.1,y5.2.1.1,y13.2.1.1,y9.2.1.1,y6.2.1.1,p0.1,0,y12.2.1.1,()),(0,()),()))
 )
 )
 ) (
 let u4:=(cond y3.2.2.1.1 y11.2.2.1.1 false)
 cond (!u4) (
 c1
 ) (
 (yS (y4.2.1.1,y5.2.1.1,[],y9.2.1.1,y6.2.1.1,p0.1,0,y12.2.1.1,())).bind fun y13 =>
 cond (!y13.2.1.1) (
 c1
 ) (
 some ((),((y4.2.1.1,y5.2.1.1,[],y9.2.1.1,y6.2.1.1,p0.1,0,y12.2.1.1,()),(0,()),()))
 )
 )
 )
 ) (
 cond (aj y4.2.1.1 6) (
 let u2:=(wk p0 103)
 Option.bind u2 fun y11 =>
 cond (!y3.2.2.1.1) (
 c1
 ) (
 (yS (y4.2.1.1,y5.2.1.1,y11.2.1.1,y9.2.1.1,y6.2.1.1,p0.1,0,0,())).bind fun y12 =>
 cond (!y12.2.1.1) (
 c1
 ) (
 some ((),((y4.2.1.1,y5.2.1.1,y11.2.1.1,y9.2.1.1,y6.2.1.1,p0.1,0,0,()),(0,()),()))
 )
 )
 ) (
 cond (!y3.2.2.1.1) (
 c1
 ) (
 (yS (y4.2.1.1,y5.2.1.1,[],y9.2.1.1,y6.2.1.1,p0.1,0,0,())).bind fun y11 =>
 cond (!y11.2.1.1) (
 c1
 ) (
 some ((),((y4.2.1.1,y5.2.1.1,[],y9.2.1.1,y6.2.1.1,p0.1,0,0,()),(0,()),()))
 )
 )
 )
 )
 )
 ) (
 let u1:=(TG y4.2.1.1)
 Option.bind u1 fun y8 =>
 cond y8.2.1.1 (
 let u2:=(wk p0 4)
 Option.bind u2 fun y9 =>
 let u3:=(J6 y9.2.1.1)
 Option.bind u3 fun y10 =>
 cond (aj y4.2.1.1 1) (
 let u4:=(wk p0 14)
 Option.bind u4 fun y11 =>
 let u5:=(J6 y11.2.1.1)
 Option.bind u5 fun y12 =>
 cond (aj y4.2.1.1 6) (
 let u6:=(wk p0 103)
 Option.bind u6 fun y13 =>
 let u7:=(cond y3.2.2.1.1 y9.2.2.1.1 false)
 cond (!(cond u7 y11.2.2.1.1 false)) (
 c1
 ) (
 (yS (y4.2.1.1,y5.2.1.1,y13.2.1.1,[],y6.2.1.1,p0.1,y10.2.1.1,y12.2.1.1,())).bind fun y14 =>
 cond (!y14.2.1.1) (
 c1
 ) (
 some ((),((y4.2.1.1,y5.2.1.1,y13.2.1.1,[],y6.2.1.1,p0.1,y10.2.1.1,y12.2.1.1,()),(0,()),()))
 )
 )
 ) (
 let u6:=(cond y3.2.2.1.1 y9.2.2.1.1 false)
 cond (!(cond u6 y11.2.2.1.1 false)) (
 c1
 ) (
 (yS (y4.2.1.1,y5.2.1.1,[],[],y6.2.1.1,p0.1,y10.2.1.1,y12.2.1.1,())).bind fun y13 =>
 cond (!y13.2.1.1) (
 c1
 ) (
 some ((),((y4.2.1.1,y5.2.1.1,[],[],y6.2.1.1,p0.1,y10.2.1.1,y12.2.1.1,()),(0,()),()))
 )
 )
 )
 ) (
 cond (aj y4.2.1.1 6) (
 let u4:=(wk p0 103)
 Option.bind u4 fun y11 =>
 let u5:=(cond y3.2.2.1.1 y9.2.2.1.1 false)
 cond (!u5) (
 c1
 ) (
 (yS (y4.2.1.1,y5.2.1.1,y11.2.1.1,[],y6.2.1.1,p0.1,y10.2.1.1,0,())).bind fun y12 =>
 cond (!y12.2.1.1) (
 c1
 ) (
 some ((),((y4.2.1.1,y5.2.1.1,y11.2.1.1,[],y6.2.1.1,p0.1,y10.2.1.1,0,()),(0,()),()))
 )
 )
 ) (
 let u4:=(cond y3.2.2.1.1 y9.2.2.1.1 false)
 cond (!u4) (
 c1
 ) (
 (yS (y4.2.1.1,y5.2.1.1,[],[],y6.2.1.1,p0.1,y10.2.1.1,0,())).bind fun y11 =>
 cond (!y11.2.1.1) (
 c1
 ) (
 some ((),((y4.2.1.1,y5.2.1.1,[],[],y6.2.1.1,p0.1,y10.2.1.1,0,()),(0,()),()))
 )
 )
 )
 )
 ) (
 cond (aj y4.2.1.1 1) (
 let u2:=(wk p0 14)
 Option.bind u2 fun y9 =>
 let u3:=(J6 y9.2.1.1)
 Option.bind u3 fun y10 =>
 cond (aj y4.2.1.1 6) (
 let u4:=(wk p0 103)
 Option.bind u4 fun y11 =>
 let u5:=(cond y3.2.2.1.1 y9.2.2.1.1 false)
 cond (!u5) (
 c1
 ) (
 (yS (y4.2.1.1,y5.2.1.1,y11.2.1.1,[],y6.2.1.1,p0.1,0,y10.2.1.1,())).bind fun y12 =>
 cond (!y12.2.1.1) (
 c1
 ) (
 some ((),((y4.2.1.1,y5.2.1.1,y11.2.1.1,[],y6.2.1.1,p0.1,0,y10.2.1.1,()),(0,()),()))
 )
 )
 ) (
 let u4:=(cond y3.2.2.1.1 y9.2.2.1.1 false)
 cond (!u4) (
 c1
 ) (
 (yS (y4.2.1.1,y5.2.1.1,[],[],y6.2.1.1,p0.1,0,y10.2.1.1,())).bind fun y11 =>
 cond (!y11.2.1.1) (
 c1
 ) (
 some ((),((y4.2.1.1,y5.2.1.1,[],[],y6.2.1.1,p0.1,0,y10.2.1.1,()),(0,()),()))
 )
 )
 )
 ) (
 cond (aj y4.2.1.1 6) (
 let u2:=(wk p0 103)
 Option.bind u2 fun y9 =>
 cond (!y3.2.2.1.1) (
 c1
 ) (
 (yS (y4.2.1.1,y5.2.1.1,y9.2.1.1,[],y6.2.1.1,p0.1,0,0,())).bind fun y10 =>
 cond (!y10.2.1.1) (
 c1
 ) (
 some ((),((y4.2.1.1,y5.2.1.1,y9.2.1.1,[],y6.2.1.1,p0.1,0,0,()),(0,()),()))
 )
 )
 ) (
 cond (!y3.2.2.1.1) (
 c1
 ) (
 (yS (y4.2.1.1,y5.2.1.1,[],[],y6.2.1.1,p0.1,0,0,())).bind fun y9 =>
 cond (!y9.2.1.1) (
 c1
 ) (
 some ((),((y4.2.1.1,y5.2.1.1,[],[],y6.2.1.1,p0.1,0,0,()),(0,()),()))
 )
 )
 )
 )
 )
 )
 )
 )
 )
def s49:Su:=fU [.c true [.str,dS]] [(true,[ah,.str,.str,.str,.str,.str,ah,ah]),(false,[ah])] fun x=>g49 x.1
theorem Uw:aw Tryz.prog 49 s49 :=
 fq (ac aa1 (ac P1 (ac ach (ac YD (ac adB (ac YE (ac adR (ac aak (ac Un an))))))))) Tryz.f49
def AB(t0:Int)(t1:S8):Rd YA Unit :=
 (EA t0).bind fun y1 =>
 cond (aD (ae t1) y1.2.1.1) (
 (Aw t0).bind fun y2 =>
 cond (aj y2.2.1.1 1) (
 cond (iJ [48] t1) (
 eA (t0,(rN [48] t1),())
 ) none
 ) (
 eB (t0,t1,())
 )
 ) (
 eB (t0,t1,())
 )
def M3:=OO (aq (x3 AB))
def uu(t0:Int)(t1:S8):Rd YA Unit :=
 (EA t0).bind fun y1 =>
 cond (aD (ae t1) y1.2.1.1) (
 (Aw t0).bind fun y2 =>
 cond (aj y2.2.1.1 2) (
 cond (iJ t1 [32]) (
 eA (t0,(rN t1 [32]),())
 ) none
 ) (
 eB (t0,t1,())
 )
 ) (
 eB (t0,t1,())
 )
def Lv:=OO (aq (x3 uu))
def Qf(p0:Int)(p1:S8):Option Au :=
 (M3 p0 p1).bind (Sum.elim (fun y1 =>
 (Lv y1.1 y1.2.1).bind (Sum.elim (fun y2 =>
 (vF y2.1 y2.2.1).bind fun y3 =>
 cond (!y3.2.1.1) (
 c6
 ) (
 zR y2.2.1
 )
 ) (fun _ =>
 none
 ))
 ) (fun _ =>
 none
 ))
def abS:Su:=fU [.c false [ah],.c false [.str]] BQ fun x=>Qf x.1.1 x.2.1.1
theorem aa7:aw Tryz.prog 177 abS :=
 fl (ac DP (ac NQ (ac Hz an))) [] [(0,⟨[.d 0 ah,.d 1 .str],aq (x3 AB)⟩),(2,⟨[.d 0 ah,.d 1 .str],aq (x3 uu)⟩)] [] Tryz.f177 (lp [0,2] (sc dM (sc dM sn)))
def wy(t1:Int)(t2 t3:S8)(t11:Bool)(t34:List R3)(t35 t36:Int)(b4 b8 b10:S8×(List eX)×Unit):Rd (Int×S8×S8×Bool×(List R3)×Int×Int×vn×vn×vn×Unit) Unit :=
 cond (aD t36 t35) (
 cond (aZ t36 t34) (
 (wk b4 (gt d3 t34 t36).1).bind fun y1 =>
 cond (aj (gt d3 t34 t36).1 38) (
 (Qf 38 t2).bind fun y2 =>
 cond (cond (aj t1 0) (!(bw t2 [])) false) (
 cond t11 (
 let u1:=(vF (gt d3 t34 t36).1 y2.2.1.1)
 Option.bind u1 fun y3 =>
 let u2:=(bj 24 b10.2.1 [((gt d3 t34 t36).1,y2.2.1.1,())])
 cond u2 (
 let u3:=(ak .i64 t36 1)
 eA (t1,t2,t3,y3.2.1.1,t34,t35,u3,b4,b8,(b10.1,(fy b10.2.1 [((gt d3 t34 t36).1,y2.2.1.1,())]),()),())
 ) none
 ) (
 let u1:=(bj 24 b10.2.1 [((gt d3 t34 t36).1,y2.2.1.1,())])
 cond u1 (
 let u2:=(ak .i64 t36 1)
 eA (t1,t2,t3,false,t34,t35,u2,b4,b8,(b10.1,(fy b10.2.1 [((gt d3 t34 t36).1,y2.2.1.1,())]),()),())
 ) none
 )
 ) (
 let u1:=(ak .i64 t36 1)
 eA (t1,t2,t3,t11,t34,t35,u1,b4,b8,b10,())
 )
 ) (
 cond (aj (gt d3 t34 t36).1 39) (
 (W0 t1).bind fun y2 =>
 cond t11 (
 let u1:=(vF (gt d3 t34 t36).1 y2.2.1.1)
 Option.bind u1 fun y3 =>
 let u2:=(bj 24 b10.2.1 [((gt d3 t34 t36).1,y2.2.1.1,())])
 cond u2 (
 let u3:=(ak .i64 t36 1)
 eA (t1,t2,t3,y3.2.1.1,t34,t35,u3,b4,b8,(b10.1,(fy b10.2.1 [((gt d3 t34 t36).1,y2.2.1.1,())]),()),())
 ) none
 ) (
 let u1:=(bj 24 b10.2.1 [((gt d3 t34 t36).1,y2.2.1.1,())])
 cond u1 (
 let u2:=(ak .i64 t36 1)
 eA (t1,t2,t3,false,t34,t35,u2,b4,b8,(b10.1,(fy b10.2.1 [((gt d3 t34 t36).1,y2.2.1.1,())]),()),())
 ) none
 )
 ) (
 cond (aj (gt d3 t34 t36).1 54) (
 cond (!(bw t3 [])) (
 cond t11 (
 (vF (gt d3 t34 t36).1 t3).bind fun y2 =>
 let u1:=(bj 24 b10.2.1 [((gt d3 t34 t36).1,t3,())])
 cond u1 (
 let u2:=(ak .i64 t36 1)
 eA (t1,t2,t3,y2.2.1.1,t34,t35,u2,b4,b8,(b10.1,(fy b10.2.1 [((gt d3 t34 t36).1,t3,())]),()),())
 ) none
 ) (
 let u1:=(bj 24 b10.2.1 [((gt d3 t34 t36).1,t3,())])
 cond u1 (
 let u2:=(ak .i64 t36 1)
 eA (t1,t2,t3,false,t34,t35,u2,b4,b8,(b10.1,(fy b10.2.1 [((gt d3 t34 t36).1,t3,())]),()),())
 ) none
 )
 ) (
 let u1:=(ak .i64 t36 1)
 eA (t1,t2,t3,t11,t34,t35,u1,b4,b8,b10,())
 )
 ) (
 cond y1.2.2.1.1 (
 cond t11 (
 (vF (gt d3 t34 t36).1 y1.2.1.1).bind fun y2 =>
 let u1:=(bj 24 b10.2.1 [((gt d3 t34 t36).1,y1.2.1.1,())])
 cond u1 (
 let u2:=(ak .i64 t36 1)
 eA (t1,t2,t3,y2.2.1.1,t34,t35,u2,b4,b8,(b10.1,(fy b10.2.1 [((gt d3 t34 t36).1,y1.2.1.1,())]),()),())
 ) none
 ) (
 let u1:=(bj 24 b10.2.1 [((gt d3 t34 t36).1,y1.2.1.1,())])
 cond u1 (
 let u2:=(ak .i64 t36 1)
 eA (t1,t2,t3,false,t34,t35,u2,b4,b8,(b10.1,(fy b10.2.1 [((gt d3 t34 t36).1,y1.2.1.1,())]),()),())
 ) none
 )
 ) (
 let u1:=(ak .i64 t36 1)
 eA (t1,t2,t3,t11,t34,t35,u1,b4,b8,b10,())
 )
 )
 )
 )
 ) none
 ) (
 eB (t1,t2,t3,t11,t34,t35,t36,b4,b8,b10,())
 )
def TP:=aba (aq (IT wy))
def g96(p0:S8×(List eX)×Unit)(p1:Int)(p2 p3:S8):Option ZC :=
 (Vt p0.1).bind fun y1 =>
 (VG p0).bind fun y2 =>
 cond (cond (!y2.2.1.1) true (bw y1.2.1.1 [])) (
 Pg
 ) (
 (W0 p1).bind fun y3 =>
 cond (bw y3.2.1.1 []) (
 Pg
 ) (
 (TP p1 p2 p3 true [(2,()),(3,()),(4,()),(7,()),(11,()),(37,()),(38,()),(39,()),(41,()),(49,()),(54,()),(102,()),(103,())] (ae [(2,()),(3,()),(4,()),(7,()),(11,()),(37,()),(38,()),(39,()),(41,()),(49,()),(54,()),(102,()),(103,())]) 0 p0 ([],[],()) (y1.2.1.1,[],())).bind (Sum.elim (fun y4 =>
 cond (!y4.2.2.2.1) (
 Pg
 ) (
 some ((),(y4.2.2.2.2.2.2.2.2.2.1,(true,()),()))
 )
 ) (fun _ =>
 none
 ))
 )
 )
def s96:Su:=fU [.c true [.str,dS],.c false [ah],.c false [.str],.c false [.str]] [(true,[.str,dS]),(false,[.bool])] fun x=>g96 x.1 x.2.1.1 x.2.2.1.1 x.2.2.2.1.1
theorem acg:aw Tryz.prog 96 s96 :=
 fl (ac L1 (ac aaw (ac Hz (ac P1 (ac YD (ac aa7 an)))))) [] [(0,⟨[.d 1 ah,.d 2 .str,.d 3 .str,.d 11 .bool,.own 34 q3,.d 35 ah,.d 36 ah,.box 4 [(false,.str),(false,dS)],.box 8 [(false,.str),(true,dS)],.box 10 [(false,.str),(true,dS)]],aq (IT wy)⟩)] [] Tryz.f96 (lp [0] (sc dM sn))
def RQ(p0:S8×(List eX)×Unit)(p1:Int)(p2 p3:S8):Option YS :=
 (g96 p0 p1 p2 p3).bind fun y1 =>
 (XS y1.2.1).bind fun y2 =>
 some ((),(y2.2.1,()))
def s50:Su:=fU [.c true [.str,dS],.c false [ah],.c false [.str],.c false [.str]] Xb fun x=>RQ x.1 x.2.1.1 x.2.2.1.1 x.2.2.2.1.1
theorem Us:aw Tryz.prog 50 s50 :=
 fq (ac Ra (ac acg an)) Tryz.f50
def yF(t1:S8)(t8:List gL)(t9 t10:Int):Rd (S8×(List gL)×Int×Int×Unit) Y1 :=
 cond (aD t10 t9) (
 cond (aZ t10 t8) (
 cond (bw (gt d94 t8 t10).1 t1) (
 eC (t10,())
 ) (
 eA (t1,t8,t9,(ak .i64 t10 1),())
 )
 ) none
 ) (
 eB (t1,t8,t9,t10,())
 )
def SG:=pd (aq (dJ yF))
def Xc(p0:(List gL)×Unit)(p1:S8):Option ib :=
 (SG p1 p0.1 (ae p0.1) 0).bind (Sum.elim (fun _ =>
 c2
 ) (fun y1 =>
 some ((),(y1,()))
 ))
def s51:Su:=fU [.c true [lr],.c false [.str]] iX fun x=>Xc x.1 x.2.1.1
theorem Nb:aw Tryz.prog 51 s51 :=
 fl an [.d 4 ah] [(0,⟨[.d 1 .str,.d 8 lr,.d 9 ah,.d 10 ah],aq (dJ yF)⟩)] [] Tryz.f51 (lp [0] (sc dM sn))
def xU(t1 t2:S8)(t10:List bS)(t11 t12:Int):Rd (S8×S8×(List bS)×Int×Int×Unit) ((List R5)×Bool×Unit) :=
 cond (aD t12 t11) (
 cond (aZ t12 t10) (
 let u1:=(gt d100 t10 t12)
 cond (cond (bw u1.1 t1) (bw u1.2.1 t2) false) (
 cond (bj 1 [] u1.2.2.1) (
 eC ((fy [] u1.2.2.1),true,())
 ) none
 ) (
 eA (t1,t2,t10,t11,(ak .i64 t12 1),())
 )
 ) none
 ) (
 eB (t1,t2,t10,t11,t12,())
 )
def Sv:=J8 (aq (nM xU))
def g52(p0:List bS)(p1 p2:S8):Option J2 :=
 (Sv p1 p2 p0 (ae p0) 0).bind (Sum.elim (fun _ =>
 c7
 ) (fun y1 =>
 some ((),((y1.1,()),(y1.2.1,()),()))
 ))
def s52:Su:=fU [.c false [bU],.c false [.str],.c false [.str]] OK fun x=>g52 x.1.1 x.2.1.1 x.2.2.1.1
theorem WS:aw Tryz.prog 52 s52 :=
 fl an [.own 6 q5,.d 7 .bool] [(0,⟨[.d 1 .str,.d 2 .str,.d 10 bU,.d 11 ah,.d 12 ah],aq (nM xU)⟩)] [] Tryz.f52 (lp [0] (sc dM sn))
def xz(p0:S8×Int×Int×Int×Int×(List bm)×Int×Int×(List R3)×(List R3)×(List bS)×Unit)(p1:S8)(p2:Int):Option gQ :=
 (OH p0).bind fun y1 =>
 cond y1.2.1.1 (
 (GB p2).bind fun y2 =>
 cond y2.2.1.1 (
 (JI p1).bind fun y3 =>
 some ((),(y3.2.1,()))
 ) (
 c0
 )
 ) (
 c0
 )
def Xp:Su:=fU [.c true [.str,ah,ah,ah,ah,bB,ah,ah,q3,q3,bU],.c false [.str],.c false [ah]] ic fun x=>xz x.1 x.2.1.1 x.2.2.1.1
theorem wF:aw Tryz.prog 235 Xp :=
 fq (ac N0 (ac rj (ac AJ an))) Tryz.f235
def Ux(p0:S8×Int×Int×Unit)(p1:Int):Option gQ :=
 zR (aD p1 p0.2.2.1)
def abl:Su:=fU [.c true [.str,ah,ah],.c false [ah]] ic fun x=>Ux x.1 x.2.1.1
theorem Ya:aw Tryz.prog 266 abl :=
 fq an Tryz.f266
def re(t1:Int)(t5 t9:List bm)(t10 t11:Int):Rd (Int×(List bm)×(List bm)×Int×Int×Unit) Unit :=
 cond (aD t11 t10) (
 cond (aZ t11 t9) (
 let u1:=(gt d192 t9 t11)
 (Ux u1 t1).bind fun y1 =>
 cond y1.2.1.1 (
 cond (bj 32 t5 [u1]) (
 let u2:=(ak .i64 t11 1)
 eA (t1,(fy t5 [u1]),t9,t10,u2,())
 ) none
 ) (
 let u2:=(ak .i64 t11 1)
 eA (t1,t5,t9,t10,u2,())
 )
 ) none
 ) (
 eB (t1,t5,t9,t10,t11,())
 )
def Kw:=J8 (aq (nM re))
def M1(p0:List bm)(p1:Int):Option Wh :=
 (Kw p1 [] p0 (ae p0) 0).bind (Sum.elim (fun y1 =>
 zR y1.2.1
 ) (fun _ =>
 none
 ))
def adn:Su:=fU [.c false [bB],.c false [ah]] Q7 fun x=>M1 x.1.1 x.2.1.1
theorem SU:aw Tryz.prog 219 adn :=
 fl (ac Ya an) [] [(0,⟨[.d 1 ah,.own 5 bB,.d 9 bB,.d 10 ah,.d 11 ah],aq (nM re)⟩)] [] Tryz.f219 (lp [0] (sc dM sn))
def yQ(p0:S8×Int×Int×Int×Int×(List bm)×Int×Int×(List R3)×(List R3)×(List bS)×Unit)(p1:Int):Option ZF :=
 (LR p0).bind fun y1 =>
 (OH p0).bind fun y2 =>
 cond y2.2.1.1 (
 (GB p1).bind fun y3 =>
 cond y3.2.1.1 (
 (M1 p0.2.2.2.2.2.1 p1).bind fun y4 =>
 some ((),((y1.2.1.1,y1.2.1.2.1,y1.2.1.2.2.1,y1.2.1.2.2.2.1,y1.2.1.2.2.2.2.1,y4.2.1.1,y1.2.1.2.2.2.2.2.2.1,y1.2.1.2.2.2.2.2.2.2.1,y1.2.1.2.2.2.2.2.2.2.2.1,y1.2.1.2.2.2.2.2.2.2.2.2.1,y1.2.1.2.2.2.2.2.2.2.2.2.2.1,()),()))
 ) (
 some ((),(y1.2.1,()))
 )
 ) (
 some ((),(y1.2.1,()))
 )
def XL:Su:=fU [.c true [.str,ah,ah,ah,ah,bB,ah,ah,q3,q3,bU],.c false [ah]] Zx fun x=>yQ x.1 x.2.1.1
theorem uR:aw Tryz.prog 145 XL :=
 fq (ac PA (ac rj (ac AJ (ac SU an)))) Tryz.f145
def qa(t1:S8)(t7:List bm)(t8 t9:Int):Rd (S8×(List bm)×Int×Int×Unit) Y1 :=
 cond (aD t9 t8) (
 cond (aZ t9 t7) (
 cond (bw (gt d192 t7 t9).1 t1) (
 eC (t9,())
 ) (
 eA (t1,t7,t8,(ak .i64 t9 1),())
 )
 ) none
 ) (
 eB (t1,t7,t8,t9,())
 )
def KZ:=pd (aq (dJ qa))
def A6(p0:List bm)(p1:S8):Option ib :=
 (KZ p1 p0 (ae p0) 0).bind (Sum.elim (fun _ =>
 c2
 ) (fun y1 =>
 some ((),(y1,()))
 ))
def Zn:Su:=fU [.c false [bB],.c false [.str]] iX fun x=>A6 x.1.1 x.2.1.1
theorem yE:aw Tryz.prog 236 Zn :=
 fl an [.d 4 ah] [(0,⟨[.d 1 .str,.d 7 bB,.d 8 ah,.d 9 ah],aq (dJ qa)⟩)] [] Tryz.f236 (lp [0] (sc dM sn))
def P8(p0:List bm)(p1:Int):Option ib :=
 (M1 p0 p1).bind fun y1 =>
 (LW y1.2.1.1).bind fun y2 =>
 some ((),(y2.2.1,()))
def acK:Su:=fU [.c false [bB],.c false [ah]] iX fun x=>P8 x.1.1 x.2.1.1
theorem ZW:aw Tryz.prog 274 acK :=
 fq (ac SN (ac SU an)) Tryz.f274
def H3(p0:S8×Int×Int×Int×Int×(List bm)×Int×Int×(List R3)×(List R3)×(List bS)×Unit)(p1:Int):Option ib :=
 (OH p0).bind fun y1 =>
 cond (!y1.2.1.1) (
 c5
 ) (
 (GB p1).bind fun y2 =>
 cond (!y2.2.1.1) (
 c5
 ) (
 (P8 p0.2.2.2.2.2.1 p1).bind fun y3 =>
 zR (ba .i64 (ba .i64 p0.2.1 p0.2.2.1) y3.2.1.1)
 )
 )
def aau:Su:=fU [.c true [.str,ah,ah,ah,ah,bB,ah,ah,q3,q3,bU],.c false [ah]] iX fun x=>H3 x.1 x.2.1.1
theorem BW:aw Tryz.prog 241 aau :=
 fq (ac rj (ac AJ (ac ZW an))) Tryz.f241
def rM(t1 t6 t37 t38:Int)(b2 b4 b5:Int×Int×(List R3)×(List R3)×Unit):Rd (Int×Int×Int×Int×UX×UX×UX×Unit) Unit :=
 cond (aD t38 t37) (
 cond (aZ t38 b5.2.2.1) (
 cond (aZ t38 b5.2.2.2.1) (
 cond (bT t6 t38) (
 let u1:=(ba .i64 t38 t6)
 cond (aZ u1 b2.2.2.1) (
 let u2:=(cO b5.2.2.1 t38 (0,()))
 cond (aZ t38 u2) (
 cond (aZ u1 b2.2.2.2.1) (
 let u3:=(cO b5.2.2.2.1 t38 (0,()))
 cond (aZ t38 u3) (
 let u4:=(ak .i64 t38 1)
 eA (t1,t6,t37,u4,b2,b4,(b5.1,b5.2.1,(cO u2 t38 (gt d3 b2.2.2.1 u1)),(cO u3 t38 (gt d3 b2.2.2.2.1 u1)),()),())
 ) none
 ) none
 ) none
 ) none
 ) (
 let u1:=(ak .i64 t38 1)
 let u2:=(cO b5.2.2.1 t38 (0,()))
 let u3:=(cO b5.2.2.2.1 t38 (0,()))
 eA (t1,t6,t37,u1,b2,b4,(b5.1,b5.2.1,u2,u3,()),())
 )
 ) none
 ) none
 ) (
 eB (t1,t6,t37,t38,b2,b4,b5,())
 )
def Nf:=cu7 (aq (Ft rM))
def KS(p0:Int×Int×(List R3)×(List R3)×Unit)(p1:Int):Option V4 :=
 (A7 p0).bind fun y1 =>
 (Db p0).bind fun y2 =>
 cond (!y2.2.1.1) (
 some ((),(y1.2.1,()))
 ) (
 (GB p1).bind fun y3 =>
 cond (!y3.2.1.1) (
 some ((),(y1.2.1,()))
 ) (
 cond (!(aj p0.1 0)) (
 let u1:=(jr .i64 p1 p0.1)
 cond (bT u1 p0.2.1) (
 some ((),(y1.2.1,()))
 ) (
 cond (!(aj p0.1 0)) (
 (Nf p1 (ba .i64 u1 p0.2.1) (ae p0.2.2.1) 0 p0 (0,0,[],[],()) y1.2.1).bind (Sum.elim (fun y4 =>
 cond (!(aj y4.2.2.2.2.1.1 0)) (
 some ((),((y4.2.2.2.2.2.2.1.1,(jr .i64 y4.1 y4.2.2.2.2.1.1),y4.2.2.2.2.2.2.1.2.2.1,y4.2.2.2.2.2.2.1.2.2.2.1,()),()))
 ) none
 ) (fun _ =>
 none
 ))
 ) none
 )
 ) none
 )
 )
def adX:Su:=fU [.c true [ah,ah,q3,q3],.c false [ah]] VH fun x=>KS x.1 x.2.1.1
theorem Si:aw Tryz.prog 273 adX :=
 fl (ac Oz (ac rj (ac HH an))) [] [(0,⟨[.d 1 ah,.d 6 ah,.d 37 ah,.d 38 ah,.box 2 [(false,.int .i64),(false,.int .i64),(false,q3),(false,q3)],.box 4 [(false,.int .i64),(false,.int .i64),(true,q3),(true,q3)],.box 5 [(false,.int .i64),(false,.int .i64),(true,q3),(true,q3)]],aq (Ft rM)⟩)] [] Tryz.f273 (lp [0] (sc dM sn))
def kg(t2:Bool)(t8 t23 t24:Int)(b7:Int×Int×(List R3)×(List R3)×Unit):Rd (Bool×Int×Int×Int×UX×Unit) Unit :=
 cond (aD t24 t23) (
 cond t2 (
 cond (aZ t24 b7.2.2.2.1) (
 (wC t8 (gt d3 b7.2.2.2.1 t24).1).bind fun y1 =>
 eA (t2,y1.2.1.1,t23,(ak .i64 t24 1),b7,())
 ) none
 ) (
 cond (aZ t24 b7.2.2.1) (
 (wC t8 (gt d3 b7.2.2.1 t24).1).bind fun y1 =>
 eA (t2,y1.2.1.1,t23,(ak .i64 t24 1),b7,())
 ) none
 )
 ) (
 eB (t2,t8,t23,t24,b7,())
 )
def E7:=J8 (aq (nM kg))
def L2(p0:Int×Int×(List R3)×(List R3)×Unit)(p1:Int)(p2:Bool):Option ib :=
 (Db p0).bind fun y1 =>
 cond (!y1.2.1.1) (
 c5
 ) (
 (GB p1).bind fun y2 =>
 cond (!y2.2.1.1) (
 c5
 ) (
 (KS p0 p1).bind fun y3 =>
 (E7 p2 0 (ae y3.2.1.2.2.1) 0 y3.2.1).bind (Sum.elim (fun y4 =>
 zR y4.2.1
 ) (fun _ =>
 none
 ))
 )
 )
def acj:Su:=fU [.c true [ah,ah,q3,q3],.c false [ah],.c false [.bool]] iX fun x=>L2 x.1 x.2.1.1 x.2.2.1.1
theorem Sb:aw Tryz.prog 297 acj :=
 fl (ac rj (ac HH (ac Ed (ac Si an)))) [] [(0,⟨[.d 2 .bool,.d 8 ah,.d 23 ah,.d 24 ah,.box 7 [(false,.int .i64),(false,.int .i64),(true,q3),(true,q3)]],aq (nM kg)⟩)] [] Tryz.f297 (lp [0] (sc dM sn))
def Kk(p0:Int×Int×(List R3)×(List R3)×Unit)(p1:Int):Option ib :=
 (L2 p0 p1 false).bind fun y1 =>
 some ((),(y1.2.1,()))
def ado:Su:=fU [.c true [ah,ah,q3,q3],.c false [ah]] iX fun x=>Kk x.1 x.2.1.1
theorem abb:aw Tryz.prog 271 ado :=
 fq (ac Sb an) Tryz.f271
def M7(p0:Int×Int×(List R3)×(List R3)×Unit)(p1:Int):Option ib :=
 (L2 p0 p1 true).bind fun y1 =>
 some ((),(y1.2.1,()))
def abO:Su:=fU [.c true [ah,ah,q3,q3],.c false [ah]] iX fun x=>M7 x.1 x.2.1.1
theorem aat:aw Tryz.prog 272 abO :=
 fq (ac Sb an) Tryz.f272
def MG(p0:S8×Int×Int×Int×Int×(List bm)×Int×Int×(List R3)×(List R3)×(List bS)×Unit)(p1 p2:Int):Option ib :=
 (H3 p0 p2).bind fun y1 =>
 cond (aD y1.2.1.1 p1) (
 zR 7
 ) (
 (Kk (p0.2.2.2.2.2.2.1,p0.2.2.2.2.2.2.2.1,p0.2.2.2.2.2.2.2.2.1,p0.2.2.2.2.2.2.2.2.2.1,()) p2).bind fun y2 =>
 (wC y2.2.1.1 1).bind fun y3 =>
 cond (aD p0.2.2.2.1 y3.2.1.1) (
 c22
 ) (
 (M7 (p0.2.2.2.2.2.2.1,p0.2.2.2.2.2.2.2.1,p0.2.2.2.2.2.2.2.2.1,p0.2.2.2.2.2.2.2.2.2.1,()) p2).bind fun y4 =>
 (wC y4.2.1.1 p1).bind fun y5 =>
 cond (aD p0.2.2.2.2.1 y5.2.1.1) (
 zR 9
 ) (
 c5
 )
 )
 )
def ab8:Su:=fU [.c true [.str,ah,ah,ah,ah,bB,ah,ah,q3,q3,bU],.c false [ah],.c false [ah]] iX fun x=>MG x.1 x.2.1.1 x.2.2.1.1
theorem SZ:aw Tryz.prog 237 ab8 :=
 fq (ac Ed (ac BW (ac abb (ac aat an)))) Tryz.f237
def rC(t6:List bm)(t7:Bool)(t14:List bm)(t15 t16:Int)(b3:S8×Int×Int×Unit):Rd ((List bm)×Bool×(List bm)×Int×Int×UK×Unit) Unit :=
 cond (aD t16 t15) (
 cond (aZ t16 t14) (
 let u1:=(gt d192 t14 t16)
 cond (cond (!t7) (!(yK u1.1 b3.1)) false) (
 cond (bj 32 t6 [b3]) (
 cond (!(bw u1.1 b3.1)) (
 let u2:=(fy t6 [b3])
 cond (bj 32 u2 [u1]) (
 let u3:=(ak .i64 t16 1)
 eA ((fy u2 [u1]),true,t14,t15,u3,b3,())
 ) none
 ) (
 let u2:=(fy t6 [b3])
 let u3:=(ak .i64 t16 1)
 eA (u2,true,t14,t15,u3,b3,())
 )
 ) none
 ) (
 cond (!(bw u1.1 b3.1)) (
 cond (bj 32 t6 [u1]) (
 let u2:=(ak .i64 t16 1)
 eA ((fy t6 [u1]),t7,t14,t15,u2,b3,())
 ) none
 ) (
 let u2:=(ak .i64 t16 1)
 eA (t6,t7,t14,t15,u2,b3,())
 )
 )
 ) none
 ) (
 eB (t6,t7,t14,t15,t16,b3,())
 )
def Kx:=cu6 (aq (J7 rC))
def L6(p0:List bm)(p1:S8×Int×Int×Unit):Option (Unit×(Y7×Y2×Unit)) :=
 (EV p0).bind fun y1 =>
 cond (!y1.2.1.1) (
 Ys
 ) (
 (Kx [] false p0 (ae p0) 0 p1).bind (Sum.elim (fun y2 =>
 cond (!y2.2.1) (
 cond (bj 32 y2.1 [y2.2.2.2.2.2.1]) (
 let u1:=(fy y2.1 [y2.2.2.2.2.2.1])
 (EV u1).bind fun y3 =>
 cond (!y3.2.1.1) (
 Ys
 ) (
 some ((),((u1,()),(true,()),()))
 )
 ) none
 ) (
 (EV y2.1).bind fun y3 =>
 cond (!y3.2.1.1) (
 Ys
 ) (
 some ((),((y2.1,()),(true,()),()))
 )
 )
 ) (fun _ =>
 none
 ))
 )
def Zf:Su:=fU [.c false [bB],.c true [.str,ah,ah]] [(false,[bB]),(false,[.bool])] fun x=>L6 x.1.1 x.2.1
theorem GK:aw Tryz.prog 238 Zf :=
 fl (ac SL an) [] [(0,⟨[.own 6 bB,.d 7 .bool,.d 14 bB,.d 15 ah,.d 16 ah,.box 3 [(false,.str),(false,.int .i64),(false,.int .i64)]],aq (J7 rC)⟩)] [] Tryz.f238 (lp [0] (sc dM sn))
def F3(p0:Int×Int×(List R3)×(List R3)×Unit)(p1 p2:Int):Option V4 :=
 (Db p0).bind fun y1 =>
 cond (!y1.2.1.1) (
 let u1:=(A7 p0)
 Option.bind u1 fun y2 =>
 some ((),(y2.2.1,()))
 ) (
 (GB p1).bind fun y2 =>
 cond (!y2.2.1.1) (
 let u1:=(A7 p0)
 Option.bind u1 fun y3 =>
 some ((),(y3.2.1,()))
 ) (
 (A2 p2).bind fun y3 =>
 cond (!y3.2.1.1) (
 let u1:=(A7 p0)
 Option.bind u1 fun y4 =>
 some ((),(y4.2.1,()))
 ) (
 (KS p0 p1).bind fun y4 =>
 cond (aZ 0 y4.2.1.2.2.1) (
 (wC (gt d3 y4.2.1.2.2.1 0).1 1).bind fun y5 =>
 cond (aZ 0 y4.2.1.2.2.1) (
 cond (aZ 0 y4.2.1.2.2.2.1) (
 (wC (gt d3 y4.2.1.2.2.2.1 0).1 p2).bind fun y6 =>
 cond (aZ 0 y4.2.1.2.2.2.1) (
 some ((),((y4.2.1.1,y4.2.1.2.1,(cO y4.2.1.2.2.1 0 y5.2.1),(cO y4.2.1.2.2.2.1 0 y6.2.1),()),()))
 ) none
 ) none
 ) none
 ) none
 )
 )
 )
def abV:Su:=fU [.c true [ah,ah,q3,q3],.c false [ah],.c false [ah]] VH fun x=>F3 x.1 x.2.1.1 x.2.2.1.1
theorem SC:aw Tryz.prog 239 abV :=
 fq (ac Oz (ac Cu (ac rj (ac HH (ac Ed (ac Si an)))))) Tryz.f239
def QZ(p0:S8×Int×Int×Int×Int×(List bm)×Int×Int×(List R3)×(List R3)×(List bS)×Unit)(p1:S8)(p2 p3 p4:Int):Option DV :=
 (xz p0 p1 p4).bind fun y1 =>
 cond (!y1.2.1.1) (
 c8
 ) (
 (rR p2 1 9007199254740992).bind fun y2 =>
 cond (!y2.2.1.1) (
 c12
 ) (
 (rR p3 1 9999).bind fun y3 =>
 let u1:=(ak .i64 p4 p3)
 cond (cond (!y3.2.1.1) true (aD 1000000000 u1)) (
 c12
 ) (
 (yQ p0 p4).bind fun y4 =>
 (A6 y4.2.1.2.2.2.2.2.1 p1).bind fun y5 =>
 cond (bT 0 y5.2.1.1) (
 c31
 ) (
 cond (aj (ae y4.2.1.2.2.2.2.2.1) 4) (
 c32
 ) (
 (MG y4.2.1 p2 p4).bind fun y6 =>
 cond (!(aj y6.2.1.1 0)) (
 some ((),(([],0,0,0,0,[],0,0,[],[],[],()),y6.2.1,()))
 ) (
 (L6 y4.2.1.2.2.2.2.2.1 (p1,p2,u1,())).bind fun y7 =>
 (F3 (y4.2.1.2.2.2.2.2.2.1,y4.2.1.2.2.2.2.2.2.2.1,y4.2.1.2.2.2.2.2.2.2.2.1,y4.2.1.2.2.2.2.2.2.2.2.2.1,()) p4 p2).bind fun y8 =>
 some ((),((y4.2.1.1,y4.2.1.2.1,y4.2.1.2.2.1,y4.2.1.2.2.2.1,y4.2.1.2.2.2.2.1,y7.2.1.1,y8.2.1.1,y8.2.1.2.1,y8.2.1.2.2.1,y8.2.1.2.2.2.1,y4.2.1.2.2.2.2.2.2.2.2.2.2.1,()),(0,()),()))
 )
 )
 )
 )
 )
 )
def aa6:Su:=fU [.c true [.str,ah,ah,ah,ah,bB,ah,ah,q3,q3,bU],.c false [.str],.c false [ah],.c false [ah],.c false [ah]] NP fun x=>QZ x.1 x.2.1.1 x.2.2.1.1 x.2.2.2.1.1 x.2.2.2.2.1.1
theorem TQ:aw Tryz.prog 178 aa6 :=
 fq (ac pG (ac wF (ac uR (ac yE (ac SZ (ac GK (ac SC an))))))) Tryz.f178
def Qy(p0:S8×Int×Int×Int×Int×(List bm)×Int×Int×(List R3)×(List R3)×(List bS)×Unit)(p1:S8)(p2 p3:Int):Option DV :=
 (xz p0 p1 p3).bind fun y1 =>
 cond (!y1.2.1.1) (
 c8
 ) (
 (rR p2 1 9007199254740992).bind fun y2 =>
 cond (!y2.2.1.1) (
 c12
 ) (
 (yQ p0 p3).bind fun y3 =>
 (A6 y3.2.1.2.2.2.2.2.1 p1).bind fun y4 =>
 cond (aD y4.2.1.1 0) (
 c27
 ) (
 (MG y3.2.1 p2 p3).bind fun y5 =>
 cond (!(aj y5.2.1.1 0)) (
 some ((),(([],0,0,0,0,[],0,0,[],[],[],()),y5.2.1,()))
 ) (
 cond (aZ y4.2.1.1 y3.2.1.2.2.2.2.2.1) (
 cond (aZ y4.2.1.1 y3.2.1.2.2.2.2.2.1) (
 (F3 (y3.2.1.2.2.2.2.2.2.1,y3.2.1.2.2.2.2.2.2.2.1,y3.2.1.2.2.2.2.2.2.2.2.1,y3.2.1.2.2.2.2.2.2.2.2.2.1,()) p3 p2).bind fun y6 =>
 let u1:=(gt d192 y3.2.1.2.2.2.2.2.1 y4.2.1.1)
 some ((),((y3.2.1.1,y3.2.1.2.1,y3.2.1.2.2.1,y3.2.1.2.2.2.1,y3.2.1.2.2.2.2.1,(cO y3.2.1.2.2.2.2.2.1 y4.2.1.1 (u1.1,(ak .i64 u1.2.1 p2),u1.2.2.1,())),y6.2.1.1,y6.2.1.2.1,y6.2.1.2.2.1,y6.2.1.2.2.2.1,y3.2.1.2.2.2.2.2.2.2.2.2.2.1,()),(0,()),()))
 ) none
 ) none
 )
 )
 )
 )
def abf:Su:=fU [.c true [.str,ah,ah,ah,ah,bB,ah,ah,q3,q3,bU],.c false [.str],.c false [ah],.c false [ah]] NP fun x=>Qy x.1 x.2.1.1 x.2.2.1.1 x.2.2.2.1.1
theorem RT:aw Tryz.prog 179 abf :=
 fq (ac pG (ac wF (ac uR (ac yE (ac SZ (ac SC an)))))) Tryz.f179
def rB(t1:S8)(t5 t9:List bm)(t10 t11:Int):Rd (S8×(List bm)×(List bm)×Int×Int×Unit) Unit :=
 cond (aD t11 t10) (
 cond (aZ t11 t9) (
 let u1:=(gt d192 t9 t11)
 cond (!(bw u1.1 t1)) (
 cond (bj 32 t5 [u1]) (
 let u2:=(ak .i64 t11 1)
 eA (t1,(fy t5 [u1]),t9,t10,u2,())
 ) none
 ) (
 let u2:=(ak .i64 t11 1)
 eA (t1,t5,t9,t10,u2,())
 )
 ) none
 ) (
 eB (t1,t5,t9,t10,t11,())
 )
def Md:=J8 (aq (nM rB))
def ET(p0:List bm)(p1:S8):Option Wh :=
 (Md p1 [] p0 (ae p0) 0).bind (Sum.elim (fun y1 =>
 zR y1.2.1
 ) (fun _ =>
 none
 ))
def XH:Su:=fU [.c false [bB],.c false [.str]] Q7 fun x=>ET x.1.1 x.2.1.1
theorem Di:aw Tryz.prog 240 XH :=
 fl an [] [(0,⟨[.d 1 .str,.own 5 bB,.d 9 bB,.d 10 ah,.d 11 ah],aq (nM rB)⟩)] [] Tryz.f240 (lp [0] (sc dM sn))
def ME(p0:S8×Int×Int×Int×Int×(List bm)×Int×Int×(List R3)×(List R3)×(List bS)×Unit)(p1:S8)(p2:Int)(p3:Bool)(p4:Int):Option DV :=
 (xz p0 p1 p4).bind fun y1 =>
 cond (!y1.2.1.1) (
 c8
 ) (
 (rR p2 1 9007199254740992).bind fun y2 =>
 cond (!y2.2.1.1) (
 c12
 ) (
 (yQ p0 p4).bind fun y3 =>
 (A6 y3.2.1.2.2.2.2.2.1 p1).bind fun y4 =>
 cond (aD y4.2.1.1 0) (
 c27
 ) (
 cond (aZ y4.2.1.1 y3.2.1.2.2.2.2.2.1) (
 let u1:=(gt d192 y3.2.1.2.2.2.2.2.1 y4.2.1.1)
 cond (aD u1.2.1 p2) (
 c33
 ) (
 cond p3 (
 let u2:=(ET y3.2.1.2.2.2.2.2.1 p1)
 Option.bind u2 fun y5 =>
 let u3:=(ak .i64 y3.2.1.2.2.1 p2)
 some ((),((y3.2.1.1,y3.2.1.2.1,u3,y3.2.1.2.2.2.1,y3.2.1.2.2.2.2.1,y5.2.1.1,y3.2.1.2.2.2.2.2.2.1,y3.2.1.2.2.2.2.2.2.2.1,y3.2.1.2.2.2.2.2.2.2.2.1,y3.2.1.2.2.2.2.2.2.2.2.2.1,y3.2.1.2.2.2.2.2.2.2.2.2.2.1,()),(0,()),()))
 ) (
 cond (aZ y4.2.1.1 y3.2.1.2.2.2.2.2.1) (
 cond (aj p2 u1.2.1) (
 let u2:=(ET y3.2.1.2.2.2.2.2.1 p1)
 Option.bind u2 fun y5 =>
 let u3:=(ak .i64 y3.2.1.2.2.1 p2)
 some ((),((y3.2.1.1,y3.2.1.2.1,u3,y3.2.1.2.2.2.1,y3.2.1.2.2.2.2.1,y5.2.1.1,y3.2.1.2.2.2.2.2.2.1,y3.2.1.2.2.2.2.2.2.2.1,y3.2.1.2.2.2.2.2.2.2.2.1,y3.2.1.2.2.2.2.2.2.2.2.2.1,y3.2.1.2.2.2.2.2.2.2.2.2.2.1,()),(0,()),()))
 ) (
 cond (aZ y4.2.1.1 y3.2.1.2.2.2.2.2.1) (
 cond (aZ y4.2.1.1 y3.2.1.2.2.2.2.2.1) (
 let u2:=(ak .i64 y3.2.1.2.2.1 p2)
 some ((),((y3.2.1.1,y3.2.1.2.1,u2,y3.2.1.2.2.2.1,y3.2.1.2.2.2.2.1,(cO y3.2.1.2.2.2.2.2.1 y4.2.1.1 (u1.1,(ba .i64 u1.2.1 p2),u1.2.2.1,())),y3.2.1.2.2.2.2.2.2.1,y3.2.1.2.2.2.2.2.2.2.1,y3.2.1.2.2.2.2.2.2.2.2.1,y3.2.1.2.2.2.2.2.2.2.2.2.1,y3.2.1.2.2.2.2.2.2.2.2.2.2.1,()),(0,()),()))
 ) none
 ) none
 )
 ) none
 )
 )
 ) none
 )
 )
 )
def Ye:Su:=fU [.c true [.str,ah,ah,ah,ah,bB,ah,ah,q3,q3,bU],.c false [.str],.c false [ah],.c false [.bool],.c false [ah]] NP fun x=>ME x.1 x.2.1.1 x.2.2.1.1 x.2.2.2.1.1 x.2.2.2.2.1.1
theorem TX:aw Tryz.prog 180 Ye :=
 fq (ac pG (ac wF (ac uR (ac yE (ac Di an))))) Tryz.f180
def O3(p0:S8×Int×Int×Int×Int×(List bm)×Int×Int×(List R3)×(List R3)×(List bS)×Unit)(p1:S8)(p2:Int):Option DV :=
 (xz p0 p1 p2).bind fun y1 =>
 cond (!y1.2.1.1) (
 c8
 ) (
 (yQ p0 p2).bind fun y2 =>
 (A6 y2.2.1.2.2.2.2.2.1 p1).bind fun y3 =>
 cond (aD y3.2.1.1 0) (
 c27
 ) (
 (ET y2.2.1.2.2.2.2.2.1 p1).bind fun y4 =>
 some ((),((y2.2.1.1,y2.2.1.2.1,y2.2.1.2.2.1,y2.2.1.2.2.2.1,y2.2.1.2.2.2.2.1,y4.2.1.1,y2.2.1.2.2.2.2.2.2.1,y2.2.1.2.2.2.2.2.2.2.1,y2.2.1.2.2.2.2.2.2.2.2.1,y2.2.1.2.2.2.2.2.2.2.2.2.1,y2.2.1.2.2.2.2.2.2.2.2.2.2.1,()),(0,()),()))
 )
 )
def X1:Su:=fU [.c true [.str,ah,ah,ah,ah,bB,ah,ah,q3,q3,bU],.c false [.str],.c false [ah]] NP fun x=>O3 x.1 x.2.1.1 x.2.2.1.1
theorem Ss:aw Tryz.prog 181 X1 :=
 fq (ac wF (ac uR (ac yE (ac Di an)))) Tryz.f181
def KV(p0 p1:S8×Int×Int×Int×Int×(List bm)×Int×Int×(List R3)×(List R3)×(List bS)×Unit)(p2:S8)(p3:Int):Option (Unit×(yL×yL×Y1×Unit)) :=
 (xz p0 p2 p3).bind fun y1 =>
 cond (!y1.2.1.1) (
 c18
 ) (
 (OH p1).bind fun y2 =>
 cond (!y2.2.1.1) (
 c18
 ) (
 cond (bw p0.1 p1.1) (
 c34
 ) (
 (yQ p0 p3).bind fun y3 =>
 (yQ p1 p3).bind fun y4 =>
 (A6 y3.2.1.2.2.2.2.2.1 p2).bind fun y5 =>
 cond (aD y5.2.1.1 0) (
 c35
 ) (
 (A6 y4.2.1.2.2.2.2.2.1 p2).bind fun y6 =>
 cond (bT 0 y6.2.1.1) (
 c36
 ) (
 cond (aj (ae y4.2.1.2.2.2.2.2.1) 4) (
 c37
 ) (
 cond (aZ y5.2.1.1 y3.2.1.2.2.2.2.2.1) (
 (H3 y4.2.1 p3).bind fun y7 =>
 let u1:=(gt d192 y3.2.1.2.2.2.2.2.1 y5.2.1.1)
 cond (aD y7.2.1.1 u1.2.1) (
 c38
 ) (
 cond (aZ y5.2.1.1 y3.2.1.2.2.2.2.2.1) (
 (L6 y4.2.1.2.2.2.2.2.1 u1).bind fun y8 =>
 (ET y3.2.1.2.2.2.2.2.1 p2).bind fun y9 =>
 some ((),((y3.2.1.1,y3.2.1.2.1,y3.2.1.2.2.1,y3.2.1.2.2.2.1,y3.2.1.2.2.2.2.1,y9.2.1.1,y3.2.1.2.2.2.2.2.2.1,y3.2.1.2.2.2.2.2.2.2.1,y3.2.1.2.2.2.2.2.2.2.2.1,y3.2.1.2.2.2.2.2.2.2.2.2.1,y3.2.1.2.2.2.2.2.2.2.2.2.2.1,()),(y4.2.1.1,y4.2.1.2.1,y4.2.1.2.2.1,y4.2.1.2.2.2.1,y4.2.1.2.2.2.2.1,y8.2.1.1,y4.2.1.2.2.2.2.2.2.1,y4.2.1.2.2.2.2.2.2.2.1,y4.2.1.2.2.2.2.2.2.2.2.1,y4.2.1.2.2.2.2.2.2.2.2.2.1,y4.2.1.2.2.2.2.2.2.2.2.2.2.1,()),(0,()),()))
 ) none
 )
 ) none
 )
 )
 )
 )
 )
 )
def Mz:Su:=fU [.c true [.str,ah,ah,ah,ah,bB,ah,ah,q3,q3,bU],.c true [.str,ah,ah,ah,ah,bB,ah,ah,q3,q3,bU],.c false [.str],.c false [ah]] [(true,[.str,ah,ah,ah,ah,bB,ah,ah,q3,q3,bU]),(true,[.str,ah,ah,ah,ah,bB,ah,ah,q3,q3,bU]),(false,[ah])] fun x=>KV x.1 x.2.1 x.2.2.1.1 x.2.2.2.1.1
def LN:List SE:=[]
def Sj:Nat->Option (Lo LN)
 | _=>none
def Cw:List Y0:=[(81,iS s81),(235,iS Xp),(145,iS XL),(236,iS Zn),(241,iS aau),(238,iS Zf),(240,iS XH)]
def uV:En:=vN 95 tt Cw LN Sj [] fun _=>none
def aaB:Nat->Option (St->Tr St)
 | 16=>some (gy uV (opsOf (bo 16 (ar Tryz.f182))) [(12,10)])
 | 18=>some (oO uV (opsOf (bo 18 (ar Tryz.f182))) 2 [1])
 | _=>none
def NY:En:=vN 95 tt Cw LN Sj [] (aaB)
theorem t182(x:PT Mz.ps):(EU NY (ar Tryz.f182) Tryz.f182.results.toList Mz.ps Mz.rs true x).run=KV x.1 x.2.1 x.2.2.1.1 x.2.2.2.1.1:=by kernel_rfl
theorem Wi:dw Tryz.prog NY:=cF (l:=Cw) ⟨AJ,wF,uR,yE,BW,GK,Di,trivial⟩
theorem EN:dw Tryz.prog uV:=cF (l:=Cw) ⟨AJ,wF,uR,yE,BW,GK,Di,trivial⟩
theorem PZ:cY Tryz.prog NY (bo 16 (ar Tryz.f182)) (gy uV (opsOf (bo 16 (ar Tryz.f182))) [(12,10)]) :=
 eu rfl rfl (kJ (E:=uV) (qW hT) EN iU (c:=(bo 16 (ar Tryz.f182))) (id:=16) (by kernel_rfl))
theorem E9:dw Tryz.prog uV:=cF (l:=Cw) ⟨AJ,wF,uR,yE,BW,GK,Di,trivial⟩
theorem Pk:cY Tryz.prog NY (bo 18 (ar Tryz.f182)) (oO uV (opsOf (bo 18 (ar Tryz.f182))) 2 [1]) :=
 eu rfl rfl (BH (E:=uV) (qW hT) E9 iU (c:=(bo 18 (ar Tryz.f182))) (id:=18) (by kernel_rfl))
theorem Tg:aw Tryz.prog 182 Mz :=
 nN (E:=NY) (qW hT) Wi iU (fn:=Tryz.f182) (c:=(ar Tryz.f182)) (by kernel_rfl) (by kernel_rfl) (by kernel_rfl) rfl (di [] (by kernel_rfl) trivial [(16,bo 16 (ar Tryz.f182)),(18,bo 18 (ar Tryz.f182))] (by kernel_rfl) ⟨sw rfl PZ,sw rfl Pk,trivial⟩) fun x y h=>⟨y.1,fun _=>rfl,(t182 x).trans h⟩
def Qa(p0:S8×Int×Int×Int×Int×(List bm)×Int×Int×(List R3)×(List R3)×(List bS)×Unit)(p1:Int):Option (Unit×(Y9×Y1×Unit)) :=
 (OH p0).bind fun y1 =>
 cond (!y1.2.1.1) (
 some ((),(([],()),(1,()),()))
 ) (
 (GB p1).bind fun y2 =>
 cond (!y2.2.1.1) (
 some ((),(([],()),(1,()),()))
 ) (
 (H3 p0 p1).bind fun y3 =>
 (JM y3.2.1.1 16).bind fun y4 =>
 cond (iJ y4.2.1.1 [32]) (
 (JM p0.2.2.1 16).bind fun y5 =>
 let u1:=(rN y4.2.1.1 [32])
 cond (iJ u1 y5.2.1.1) (
 some ((),(((rN u1 y5.2.1.1),()),(0,()),()))
 ) none
 ) none
 )
 )
def Zq:Su:=fU [.c true [.str,ah,ah,ah,ah,bB,ah,ah,q3,q3,bU],.c false [ah]] [(false,[.str]),(false,[ah])] fun x=>Qa x.1 x.2.1.1
theorem To:aw Tryz.prog 183 Zq :=
 fq (ac rj (ac AJ (ac SM (ac BW an)))) Tryz.f183
def Qm(p0:S8×Int×Int×Int×Int×(List bm)×Int×Int×(List R3)×(List R3)×(List bS)×Unit)(p1:Int):Option DV :=
 (OH p0).bind fun y1 =>
 cond (!y1.2.1.1) (
 c8
 ) (
 (GB p1).bind fun y2 =>
 cond (!y2.2.1.1) (
 c8
 ) (
 (yQ p0 p1).bind fun y3 =>
 some ((),(y3.2.1,(0,()),()))
 )
 )
def aaj:Su:=fU [.c true [.str,ah,ah,ah,ah,bB,ah,ah,q3,q3,bU],.c false [ah]] NP fun x=>Qm x.1 x.2.1.1
theorem TC:aw Tryz.prog 184 aaj :=
 fq (ac rj (ac AJ (ac uR an))) Tryz.f184
def Xa(p0 p1:S8×Int×Int×Int×Int×(List bm)×Int×Int×(List R3)×(List R3)×(List bS)×Unit)(p2:Int×S8×S8×S8×S8×S8×Int×Int×Unit)(p3:Int):Option (Unit×(yL×yL×Y1×Y9×Unit)) :=
 cond (aj p2.1 1) (
 (QZ p0 p2.2.2.2.1 p2.2.2.2.2.2.2.1 p2.2.2.2.2.2.2.2.1 p3).bind fun y1 =>
 some ((),(y1.2.1,p1,y1.2.2.1,([],()),()))
 ) (
 cond (aj p2.1 2) (
 (Qy p0 p2.2.2.2.1 p2.2.2.2.2.2.2.1 p3).bind fun y1 =>
 some ((),(y1.2.1,p1,y1.2.2.1,([],()),()))
 ) (
 cond (aj p2.1 3) (
 let u1:=(ME p0 p2.2.2.2.1 p2.2.2.2.2.2.2.1 (aj p2.1 4) p3)
 Option.bind u1 fun y1 =>
 some ((),(y1.2.1,p1,y1.2.2.1,([],()),()))
 ) (
 cond (aj p2.1 4) (
 let u1:=(ME p0 p2.2.2.2.1 p2.2.2.2.2.2.2.1 (aj p2.1 4) p3)
 Option.bind u1 fun y1 =>
 some ((),(y1.2.1,p1,y1.2.2.1,([],()),()))
 ) (
 cond (aj p2.1 5) (
 (O3 p0 p2.2.2.2.1 p3).bind fun y1 =>
 some ((),(y1.2.1,p1,y1.2.2.1,([],()),()))
 ) (
 cond (aj p2.1 6) (
 (KV p0 p1 p2.2.2.2.1 p3).bind fun y1 =>
 some ((),(y1.2.1,y1.2.2.1,y1.2.2.2.1,([],()),()))
 ) (
 cond (aj p2.1 7) (
 (Qa p0 p3).bind fun y1 =>
 some ((),(p0,p1,y1.2.2.1,y1.2.1,()))
 ) (
 (Qm p0 p3).bind fun y1 =>
 some ((),(y1.2.1,p1,y1.2.2.1,([],()),()))
 )
 )
 )
 )
 )
 )
 )
def Zu:Su:=⟨[.c true [.str,ah,ah,ah,ah,bB,ah,ah,q3,q3,bU],.c true [.str,ah,ah,ah,ah,bB,ah,ah,q3,q3,bU],.c true [ah,.str,.str,.str,.str,.str,ah,ah],.c false [ah]],[(true,[.str,ah,ah,ah,ah,bB,ah,ah,q3,q3,bU]),(true,[.str,ah,ah,ah,ah,bB,ah,ah,q3,q3,bU]),(false,[ah]),(false,[.str])],false,.inl fun x=>Xa x.1 x.2.1 x.2.2.1 x.2.2.2.1.1⟩
def Wm:List SE:=[]
def YF:Nat->Option (Lo Wm)
 | _=>none
def P7:List Y0:=[(178,iS aa6.ro),(179,iS abf.ro),(180,iS Ye.ro),(181,iS X1.ro),(182,iS Mz.ro),(183,iS Zq),(184,iS aaj.ro)]
def PE:En:=vN 102 tt P7 Wm YF [999999] fun _=>none
def adT:Nat->Option (St->Tr St)
 | 20=>some (Vl PE (opsOf (bo 20 (ar Tryz.f97))) [(4,2),(4,3)] 4 [1])
 | _=>none
def E97:En:=vN 102 tt P7 Wm YF [999999] (adT)
theorem t97(x:PT Zu.ps):(EU E97 (ar Tryz.f97) Tryz.f97.results.toList Zu.ps Zu.rs false x).run=Xa x.1 x.2.1 x.2.2.1 x.2.2.2.1.1:=by kernel_rfl
theorem YU:dw Tryz.prog E97:=cF (l:=P7) ⟨(TQ.ro rfl rfl),(RT.ro rfl rfl),(TX.ro rfl rfl),(Ss.ro rfl rfl),(Tg.ro rfl rfl),To,(TC.ro rfl rfl),trivial⟩
theorem Iz:dw Tryz.prog PE:=cF (l:=P7) ⟨(TQ.ro rfl rfl),(RT.ro rfl rfl),(TX.ro rfl rfl),(Ss.ro rfl rfl),(Tg.ro rfl rfl),To,(TC.ro rfl rfl),trivial⟩
theorem U7:cY Tryz.prog E97 (bo 20 (ar Tryz.f97)) (Vl PE (opsOf (bo 20 (ar Tryz.f97))) [(4,2),(4,3)] 4 [1]) :=
 eu rfl rfl (Ts (E:=PE) (qW hT) Iz iU (c:=(bo 20 (ar Tryz.f97))) (id:=20) (by kernel_rfl))
theorem Yb:aw Tryz.prog 97 Zu :=
 nN (E:=E97) (qW hT) YU iU (fn:=Tryz.f97) (c:=(ar Tryz.f97)) (by kernel_rfl) (by kernel_rfl) (by kernel_rfl) rfl (di [] (by kernel_rfl) trivial [(20,bo 20 (ar Tryz.f97))] (by kernel_rfl) ⟨sw rfl U7,trivial⟩) fun x y h=>⟨y.1,fun _=>rfl,(t97 x).trans h⟩
def ZE(p0:(List gL)×Unit)(p1:Int×S8×S8×S8×S8×S8×Int×Int×Unit)(p2:Int):Option (Unit×(Y5×Y1×Y9×Unit)) :=
 (X8 p0).bind fun y1 =>
 cond (!y1.2.1.1) (
 Xe
 ) (
 (yS p1).bind fun y2 =>
 cond (!y2.2.1.1) (
 Xe
 ) (
 (GB p2).bind fun y3 =>
 cond (!y3.2.1.1) (
 Xe
 ) (
 (Xc p0 p1.2.1).bind fun y4 =>
 cond (aj p1.1 6) (
 (Xc p0 p1.2.2.1).bind fun y5 =>
 cond (cond (aD y4.2.1.1 0) true (aD y5.2.1.1 0)) (
 WZ
 ) (
 cond (aZ y4.2.1.1 p0.1) (
 cond (aZ y5.2.1.1 p0.1) (
 let u1:=(gt d94 p0.1 y4.2.1.1)
 (Xa u1 (gt d94 p0.1 y5.2.1.1) p1 p2).bind fun y6 =>
 cond (!(aj y6.2.2.2.1.1 0)) (
 some ((),(([],()),y6.2.2.2.1,([],()),()))
 ) (
 let u2:=(W5 p0)
 Option.bind u2 fun y7 =>
 cond (!(aj y5.2.1.1 y4.2.1.1)) (
 (LR y6.2.2.1).bind fun y8 =>
 cond (aZ y5.2.1.1 y7.2.1.1) (
 let u3:=(LR y6.2.1)
 Option.bind u3 fun y9 =>
 let u4:=(cO y7.2.1.1 y5.2.1.1 y8.2.1)
 cond (aZ y4.2.1.1 u4) (
 some ((),(((cO u4 y4.2.1.1 y9.2.1),()),(0,()),y6.2.2.2.2.1,()))
 ) none
 ) none
 ) (
 let u3:=(LR y6.2.1)
 Option.bind u3 fun y8 =>
 cond (aZ y4.2.1.1 y7.2.1.1) (
 some ((),(((cO y7.2.1.1 y4.2.1.1 y8.2.1),()),(0,()),y6.2.2.2.2.1,()))
 ) none
 )
 )
 ) none
 ) none
 )
 ) (
 cond (cond (aD y4.2.1.1 0) true (aD y4.2.1.1 0)) (
 WZ
 ) (
 cond (aZ y4.2.1.1 p0.1) (
 cond (aZ y4.2.1.1 p0.1) (
 let u1:=(gt d94 p0.1 y4.2.1.1)
 (Xa u1 u1 p1 p2).bind fun y5 =>
 cond (!(aj y5.2.2.2.1.1 0)) (
 some ((),(([],()),y5.2.2.2.1,([],()),()))
 ) (
 let u2:=(W5 p0)
 Option.bind u2 fun y6 =>
 cond (!(aj y4.2.1.1 y4.2.1.1)) (
 (LR y5.2.2.1).bind fun y7 =>
 cond (aZ y4.2.1.1 y6.2.1.1) (
 let u3:=(LR y5.2.1)
 Option.bind u3 fun y8 =>
 let u4:=(cO y6.2.1.1 y4.2.1.1 y7.2.1)
 cond (aZ y4.2.1.1 u4) (
 some ((),(((cO u4 y4.2.1.1 y8.2.1),()),(0,()),y5.2.2.2.2.1,()))
 ) none
 ) none
 ) (
 let u3:=(LR y5.2.1)
 Option.bind u3 fun y7 =>
 cond (aZ y4.2.1.1 y6.2.1.1) (
 let u4:=(cO y6.2.1.1 y4.2.1.1 y7.2.1)
 some ((),((u4,()),(0,()),y5.2.2.2.2.1,()))
 ) none
 )
 )
 ) none
 ) none
 )
 )
 )
 )
 )
def YR:Su:=fU [.c true [lr],.c true [ah,.str,.str,.str,.str,.str,ah,ah],.c false [ah]] [(true,[lr]),(false,[ah]),(false,[.str])] fun x=>ZE x.1 x.2.1 x.2.2.1.1
def V0:List SE:=[]
def XX:Nat->Option (Lo V0)
 | _=>none
def QD:List Y0:=[(77,iS s77),(41,iS s41),(45,iS s45),(44,iS s44),(95,iS s95),(51,iS s51),(97,iS Zu)]
def PJ:En:=vN 90 tt QD V0 XX [] fun _=>none
def adl:Nat->Option (St->Tr St)
 | 9=>some (gy PJ (opsOf (bo 9 (ar Tryz.f53))) [(20,15),(20,16),(20,17)])
 | _=>none
def E53:En:=vN 90 tt QD V0 XX [] (adl)
theorem t53(x:PT YR.ps):(EU E53 (ar Tryz.f53) Tryz.f53.results.toList YR.ps YR.rs true x).run=ZE x.1 x.2.1 x.2.2.1.1:=by kernel_rfl
theorem aah:dw Tryz.prog E53:=cF (l:=QD) ⟨PA,Mh,rj,LY,Un,Nb,Yb,trivial⟩
theorem MC:dw Tryz.prog PJ:=cF (l:=QD) ⟨PA,Mh,rj,LY,Un,Nb,Yb,trivial⟩
theorem aaW:cY Tryz.prog E53 (bo 9 (ar Tryz.f53)) (gy PJ (opsOf (bo 9 (ar Tryz.f53))) [(20,15),(20,16),(20,17)]) :=
 eu rfl rfl (kJ (E:=PJ) (qW hT) MC iU (c:=(bo 9 (ar Tryz.f53))) (id:=9) (by kernel_rfl))
theorem Vz:aw Tryz.prog 53 YR :=
 nN (E:=E53) (qW hT) aah iU (fn:=Tryz.f53) (c:=(ar Tryz.f53)) (by kernel_rfl) (by kernel_rfl) (by kernel_rfl) rfl (di [] (by kernel_rfl) trivial [(9,bo 9 (ar Tryz.f53))] (by kernel_rfl) ⟨sw rfl aaW,trivial⟩) fun x y h=>⟨y.1,fun _=>rfl,(t53 x).trans h⟩
def g54(p0:List bS)(p1:S8×S8×(List R5)×Unit):Option (Unit×(Y6×Y2×Unit)) :=
 (Wz p0).bind fun y1 =>
 cond (bj 56 y1.2.1.1 [p1]) (
 (Wz (fy y1.2.1.1 [p1])).bind fun y2 =>
 (g99 y2.2.1.1).bind fun y3 =>
 cond (!y3.2.1.1) (
 some ((),(([],()),(false,()),()))
 ) (
 some ((),(y2.2.1,(true,()),()))
 )
 ) none
def s54:Su:=fU [.c false [bU],.c true [.str,.str,q5]] [(false,[bU]),(false,[.bool])] fun x=>g54 x.1.1 x.2.1
theorem U1:aw Tryz.prog 54 s54 :=
 fq (ac Yh (ac X6 an)) Tryz.f54
def g15(p0:(List gL)×Unit)(p1:List R5)(p2:Int):Option (Unit×(Y5×Y4×Unit)) :=
 (W5 p0).bind fun y1 =>
 (IB p1 0 4).bind fun y2 =>
 (g43 p1).bind fun y3 =>
 (X8 p0).bind fun y4 =>
 cond (!y4.2.1.1) (
 some ((),(y1.2.1,([],()),()))
 ) (
 (GB p2).bind fun y5 =>
 cond (cond (!y5.2.1.1) true (aj y3.2.2.1.1 1)) (
 some ((),(y1.2.1,([],()),()))
 ) (
 (Vt y2.2.1.1).bind fun y6 =>
 cond (bw y6.2.1.1 []) (
 some ((),(y1.2.1,([],()),()))
 ) (
 cond (!(aj y3.2.2.1.1 0)) (
 (g47 y2.2.1.1 1).bind fun y7 =>
 (XS y7.2.1).bind fun y8 =>
 some ((),(y1.2.1,y8.2.1,()))
 ) (
 (g49 y3.2.1).bind fun y7 =>
 cond (!(aj y7.2.2.1.1 0)) (
 (RQ y3.2.1 y7.2.2.1.1 [] []).bind fun y8 =>
 some ((),(y1.2.1,y8.2.1,()))
 ) (
 (Xc p0 y7.2.1.2.1).bind fun y8 =>
 cond (aD y8.2.1.1 0) (
 (RQ y3.2.1 3 [] []).bind fun y9 =>
 some ((),(y1.2.1,y9.2.1,()))
 ) (
 cond (aZ y8.2.1.1 p0.1) (
 (g52 (gt d94 p0.1 y8.2.1.1).2.2.2.2.2.2.2.2.2.2.1 y7.2.1.2.2.2.2.1 y7.2.1.2.2.2.2.2.1).bind fun y9 =>
 cond y9.2.2.1.1 (
 some ((),(y1.2.1,y9.2.1,()))
 ) (
 cond (aZ y8.2.1.1 p0.1) (
 cond (aj (ae (gt d94 p0.1 y8.2.1.1).2.2.2.2.2.2.2.2.2.2.1) 6) (
 (RQ y3.2.1 10 [] []).bind fun y10 =>
 some ((),(y1.2.1,y10.2.1,()))
 ) (
 (ZE p0 y7.2.1 p2).bind fun y10 =>
 cond (aj y10.2.2.1.1 0) (
 let u1:=(RQ y3.2.1 y10.2.2.1.1 y7.2.1.2.2.2.1 y10.2.2.2.1.1)
 Option.bind u1 fun y11 =>
 cond (aZ y8.2.1.1 y10.2.1.1) (
 let u2:=(gt d94 y10.2.1.1 y8.2.1.1)
 (g54 u2.2.2.2.2.2.2.2.2.2.2.1 (y7.2.1.2.2.2.2.1,y7.2.1.2.2.2.2.2.1,y11.2.1.1,())).bind fun y12 =>
 cond (aZ y8.2.1.1 y10.2.1.1) (
 some ((),(((cO y10.2.1.1 y8.2.1.1 (u2.1,u2.2.1,u2.2.2.1,u2.2.2.2.1,u2.2.2.2.2.1,u2.2.2.2.2.2.1,u2.2.2.2.2.2.2.1,u2.2.2.2.2.2.2.2.1,u2.2.2.2.2.2.2.2.2.1,u2.2.2.2.2.2.2.2.2.2.1,y12.2.1.1,())),()),y11.2.1,()))
 ) none
 ) none
 ) (
 let u1:=(RQ y3.2.1 y10.2.2.1.1 y7.2.1.2.2.2.1 y10.2.2.2.1.1)
 Option.bind u1 fun y11 =>
 cond (aZ y8.2.1.1 y1.2.1.1) (
 let u2:=(gt d94 y1.2.1.1 y8.2.1.1)
 (g54 u2.2.2.2.2.2.2.2.2.2.2.1 (y7.2.1.2.2.2.2.1,y7.2.1.2.2.2.2.2.1,y11.2.1.1,())).bind fun y12 =>
 cond (aZ y8.2.1.1 y1.2.1.1) (
 some ((),(((cO y1.2.1.1 y8.2.1.1 (u2.1,u2.2.1,u2.2.2.1,u2.2.2.2.1,u2.2.2.2.2.1,u2.2.2.2.2.2.1,u2.2.2.2.2.2.2.1,u2.2.2.2.2.2.2.2.1,u2.2.2.2.2.2.2.2.2.1,u2.2.2.2.2.2.2.2.2.2.1,y12.2.1.1,())),()),y11.2.1,()))
 ) none
 ) none
 )
 )
 ) none
 )
 ) none
 )
 )
 )
 )
 )
 )
def s15:Su:=fU [.c true [lr],.c false [q5],.c false [ah]] [(true,[lr]),(false,[q5])] fun x=>g15 x.1 x.2.1.1 x.2.2.1.1
def Vd:List SE:=[]
def Zz:Nat->Option (Lo Vd)
 | _=>none
def N8:List Y0:=[(41,iS s41),(42,iS s42),(43,iS s43),(45,iS s45),(44,iS s44),(46,iS s46),(47,iS s47),(48,iS s48),(49,iS s49),(50,iS s50),(51,iS s51),(52,iS s52),(53,iS YR),(54,iS s54)]
def DS:En:=vN 160 tt N8 Vd Zz [] fun _=>none
def acR:Nat->Option (St->Tr St)
 | 16=>some (gy DS (opsOf (bo 16 (ar Tryz.f15))) [(14,13)])
 | 25=>some (gy DS (opsOf (bo 25 (ar Tryz.f15))) [(21,18)])
 | _=>none
def Xt:En:=vN 160 tt N8 Vd Zz [] (acR)
theorem t15(x:PT s15.ps):(EU Xt (ar Tryz.f15) Tryz.f15.results.toList s15.ps s15.rs true x).run=g15 x.1 x.2.1.1 x.2.2.1.1:=by kernel_rfl
theorem aaU:dw Tryz.prog Xt:=cF (l:=N8) ⟨Mh,IV,US,rj,LY,L1,VY,Ra,Uw,Us,Nb,WS,Vz,U1,trivial⟩
theorem JP:dw Tryz.prog DS:=cF (l:=N8) ⟨Mh,IV,US,rj,LY,L1,VY,Ra,Uw,Us,Nb,WS,Vz,U1,trivial⟩
theorem WI:cY Tryz.prog Xt (bo 16 (ar Tryz.f15)) (gy DS (opsOf (bo 16 (ar Tryz.f15))) [(14,13)]) :=
 eu rfl rfl (kJ (E:=DS) (qW hT) JP iU (c:=(bo 16 (ar Tryz.f15))) (id:=16) (by kernel_rfl))
theorem Is:dw Tryz.prog DS:=cF (l:=N8) ⟨Mh,IV,US,rj,LY,L1,VY,Ra,Uw,Us,Nb,WS,Vz,U1,trivial⟩
theorem Ur:cY Tryz.prog Xt (bo 25 (ar Tryz.f15)) (gy DS (opsOf (bo 25 (ar Tryz.f15))) [(21,18)]) :=
 eu rfl rfl (kJ (E:=DS) (qW hT) Is iU (c:=(bo 25 (ar Tryz.f15))) (id:=25) (by kernel_rfl))
theorem ab5:aw Tryz.prog 15 s15 :=
 nN (E:=Xt) (qW hT) aaU iU (fn:=Tryz.f15) (c:=(ar Tryz.f15)) (by kernel_rfl) (by kernel_rfl) (by kernel_rfl) rfl (di [] (by kernel_rfl) trivial [(16,bo 16 (ar Tryz.f15)),(25,bo 25 (ar Tryz.f15))] (by kernel_rfl) ⟨sw rfl WI,sw rfl Ur,trivial⟩) fun x y h=>⟨y.1,fun _=>rfl,(t15 x).trans h⟩
def gY(p0 p1 p2:Int):Option gQ :=
 zR (cond (bT p1 p0) (bT p0 p2) false)
def abE:Su:=fU [.c false [ah],.c false [ah],.c false [ah]] ic fun x=>gY x.1.1 x.2.1.1 x.2.2.1.1
theorem iZ:aw Tryz.prog 104 abE :=
 fq an Tryz.f104
def BG(p0:List R5)(p1 p2:Int):Option J2 :=
 let u1:=(ae p0)
 (gY p1 0 u1).bind fun y1 =>
 cond (cond (cond (!y1.2.1.1) true (aD p2 0)) true (aD (ba .i64 u1 p1) p2)) (
 c7
 ) (
 let u2:=(ak .i64 p1 p2)
 cond (ea p1 u2 p0) (
 some ((),(((sub p0 p1 u2),()),(true,()),()))
 ) none
 )
def ada:Su:=⟨[.c false [q5],.c false [ah],.c false [ah]],[(false,[q5]),(false,[.bool])],false,.inl fun x=>BG x.1.1 x.2.1.1 x.2.2.1.1⟩
theorem ND:aw Tryz.prog 107 ada :=
 fq (ac iZ an) Tryz.f107
def ql(t0:S8)(t5 t6:Int):Rd UK Y2 :=
 cond (aD t6 t5) (
 cond (aZ t6 t0) (
 let u1:=(et t0 t6)
 cond (aD u1 48) (
 eC (false,())
 ) (
 cond (aZ t6 t0) (
 cond (aD 57 u1) (
 eC (false,())
 ) (
 eA (t0,t5,(ak .i64 t6 1),())
 )
 ) none
 )
 ) none
 ) (
 eB (t0,t5,t6,())
 )
def Oc:=pP (aq (fY ql))
def tO(p0:S8):Option gQ :=
 (Oc p0 (ae p0) 0).bind (Sum.elim (fun y1 =>
 zR (!(bw y1.1 []))
 ) (fun y1 =>
 some ((),(y1,()))
 ))
def adC:Su:=fU [.c false [.str]] ic fun x=>tO x.1.1
theorem yf:aw Tryz.prog 108 adC :=
 fl an [.d 2 .bool] [(0,⟨[.d 0 .str,.d 5 ah,.d 6 ah],aq (fY ql)⟩)] [] Tryz.f108 (lp [0] (sc dM sn))
def xE(t1 t2:Int)(t9:List R5)(t10:Bool)(t11 t27:List R5)(t28 t29:Int):Rd (Int×Int×(List R5)×Bool×(List R5)×(List R5)×Int×Int×Unit) Unit :=
 cond (aD t29 t28) (
 cond (aZ t29 t27) (
 cond (bj 1 t11 [((ak .u8 48 (pI .u8 (gt d5 t27 t29).1 4)),()),((ak .u8 48 (Jh .u8 (gt d5 t27 t29).1 15)),())]) (
 eA (t1,t2,t9,t10,(fy t11 [((ak .u8 48 (pI .u8 (gt d5 t27 t29).1 4)),()),((ak .u8 48 (Jh .u8 (gt d5 t27 t29).1 15)),())]),t27,t28,(ak .i64 t29 1),())
 ) none
 ) none
 ) (
 eB (t1,t2,t9,t10,t11,t27,t28,t29,())
 )
def Ty:=cu8 (aq (Rj xE))
def Na(p0:List R5)(p1 p2:Int):Option Xg :=
 (gY p2 1 38).bind fun y1 =>
 cond (!y1.2.1.1) (
 c3
 ) (
 (BG p0 p1 (jr .i64 (ak .i64 p2 1) 2)).bind fun y2 =>
 (Ty p1 p2 y2.2.1.1 y2.2.2.1.1 [] y2.2.1.1 (ae y2.2.1.1) 0).bind (Sum.elim (fun y3 =>
 cond (!y3.2.2.2.1) (
 c3
 ) (
 (tO (strOf y3.2.2.2.2.1)).bind fun y4 =>
 cond (!y4.2.1.1) (
 c3
 ) (
 cond (aj (dP y3.2.1 2) 1) (
 cond (aZ 0 y3.2.2.2.2.1) (
 cond (!(aj (gt d5 y3.2.2.2.2.1 0).1 48)) (
 c3
 ) (
 let u1:=(ae y3.2.2.2.2.1)
 let u2:=(ba .i64 u1 y3.2.1)
 let u3:=(ea u2 u1 y3.2.2.2.2.1)
 cond u3 (
 some ((),(((strOf (sub y3.2.2.2.2.1 u2 u1)),()),((ak .i64 y3.1 (ae y3.2.2.1)),()),(true,()),()))
 ) none
 )
 ) none
 ) (
 let u1:=(ae y3.2.2.2.2.1)
 let u2:=(ba .i64 u1 y3.2.1)
 let u3:=(ea u2 u1 y3.2.2.2.2.1)
 cond u3 (
 some ((),(((strOf (sub y3.2.2.2.2.1 u2 u1)),()),((ak .i64 y3.1 (ae y3.2.2.1)),()),(true,()),()))
 ) none
 )
 )
 )
 ) (fun _ =>
 none
 ))
 )
def s59:Su:=fU [.c false [q5],.c false [ah],.c false [ah]] PL fun x=>Na x.1.1 x.2.1.1 x.2.2.1.1
theorem Iv:aw Tryz.prog 59 s59 :=
 fl (ac iZ (ac ND (ac yf an))) [] [(0,⟨[.d 1 ah,.d 2 ah,.d 9 q5,.d 10 .bool,.own 11 q5,.d 27 q5,.d 28 ah,.d 29 ah],aq (Rj xE)⟩)] [] Tryz.f59 (lp [0] (sc dM sn))
def uq(t1:Int)(t7:List R5)(t9:List R3)(t10:Int):Rd (Int×(List R5)×(List R3)×Int×Unit) Unit :=
 cond (bT t10 64) (
 let u1:=(ba .i64 t10 1)
 let u2:=(jr .i64 u1 8)
 cond (aZ u2 t7) (
 let u3:=(dP u1 8)
 cond (bT 0 u3) (
 cond (!(aj (Jh .u8 (gt d5 t7 u2).1 (pI .u8 128 u3)) 0)) (
 cond (bj 8 t9 [(t10,())]) (
 let u4:=(ak .i64 t10 1)
 eA (t1,t7,(fy t9 [(t10,())]),u4,())
 ) none
 ) (
 let u4:=(ak .i64 t10 1)
 eA (t1,t7,t9,u4,())
 )
 ) none
 ) none
 ) (
 eB (t1,t7,t9,t10,())
 )
def MU:=pd (aq (dJ uq))
def CE(p0:List R5)(p1:Int):Option Y58 :=
 (BG p0 p1 8).bind fun y1 =>
 cond (!y1.2.2.1.1) (
 c16
 ) (
 (MU p1 y1.2.1.1 [] 1).bind (Sum.elim (fun y2 =>
 some ((),((y2.2.2.1,()),((ak .i64 y2.1 8),()),(true,()),()))
 ) (fun _ =>
 none
 ))
 )
def acy:Su:=fU [.c false [q5],.c false [ah]] [(false,[q3]),(false,[ah]),(false,[.bool])] fun x=>CE x.1.1 x.2.1.1
theorem Ze:aw Tryz.prog 100 acy :=
 fl (ac ND an) [] [(0,⟨[.d 1 ah,.d 7 q5,.own 9 q3,.d 10 ah],aq (dJ uq)⟩)] [] Tryz.f100 (lp [0] (sc dM sn))
def Xr  : Option (Unit×(((List Fp)×Unit)×Unit)) :=
 zR [(2,3,19,()),(3,1,6,()),(4,1,12,()),(7,1,10,()),(11,1,6,()),(14,1,4,()),(37,2,12,()),(38,2,6,()),(39,2,2,()),(41,2,8,()),(48,5,60,()),(49,1,3,()),(54,5,60,()),(95,2,12,()),(102,4,20,()),(103,4,20,())]
def acC:Su:=fU [] [(false,[.sl 188 OE])] fun x=>Xr 
theorem Yv:aw Tryz.prog 242 acC :=
 fq an Tryz.f242
def ui(t0:Int)(t5:List Fp)(t6 t7:Int)(b2:Int×Int×Int×Unit):Rd (Int×(List Fp)×Int×Int×Fp×Unit) (Fp×Unit) :=
 cond (aD t7 t6) (
 cond (aZ t7 t5) (
 let u1:=(gt d188 t5 t7)
 cond (aj u1.1 t0) (
 eC (u1,())
 ) (
 eA (t0,t5,t6,(ak .i64 t7 1),b2,())
 )
 ) none
 ) (
 eB (t0,t5,t6,t7,b2,())
 )
def NN:=J8 (aq (nM ui))
def IM(p0:Int):Option (Unit×(Fp×Unit)) :=
 (Xr).bind fun y1 =>
 (NN p0 y1.2.1.1 (ae y1.2.1.1) 0 (0,0,0,())).bind (Sum.elim (fun _ =>
 some ((),((0,0,0,()),()))
 ) (fun y2 =>
 some ((),(y2.1,()))
 ))
def ad8:Su:=fU [.c false [ah]] [(true,[ah,ah,ah])] fun x=>IM x.1.1
theorem K5:aw Tryz.prog 186 ad8 :=
 fl (ac Yv an) [.box 2 [(false,.int .i64),(false,.int .i64),(false,.int .i64)]] [(0,⟨[.d 0 ah,.own 5 (.sl 188 OE),.d 6 ah,.d 7 ah,.box 2 [(false,.int .i64),(false,.int .i64),(false,.int .i64)]],aq (nM ui)⟩)] [] Tryz.f186 (lp [0] (sc dM sn))
def A5(p0:Int):Option ib :=
 (IM p0).bind fun y1 =>
 zR y1.2.1.2.1
def adh:Su:=fU [.c false [ah]] iX fun x=>A5 x.1.1
theorem C3:aw Tryz.prog 101 adh :=
 fq (ac K5 an) Tryz.f101
def KR(p0:Int):Option ib :=
 (IM p0).bind fun y1 =>
 zR y1.2.1.2.2.1
def ac8:Su:=fU [.c false [ah]] iX fun x=>KR x.1.1
theorem Sp:aw Tryz.prog 187 ac8 :=
 fq (ac K5 an) Tryz.f187
def B9(p0:Int):Option ib :=
 (A5 p0).bind fun y1 =>
 cond (aj y1.2.1.1 5) (
 c17
 ) (
 c9
 )
def adZ:Su:=fU [.c false [ah]] iX fun x=>B9 x.1.1
theorem RI:aw Tryz.prog 189 adZ :=
 fq (ac C3 an) Tryz.f189
section
open Go.RowKit Go.Lib
theorem ad2:HM Tryz.prog 121 108 201:=by
 intro s b v w R R2 hd ha
 have e1:Enters Tryz.prog 108:=enters_of (fn:=Tryz.f108) (c:=ar Tryz.f108) (by kernel_rfl) (by kernel_rfl) (by kernel_rfl)
 have e2:Enters Tryz.prog 201:=enters_of (fn:=Tryz.f201) (c:=ar Tryz.f201) (by kernel_rfl) (by kernel_rfl) (by kernel_rfl)
 have hsz:s.size<9223372036854775808∨9223372036854775808<=s.size:=aeB _ _
 cases b with
 | false =>
   go_enter Tryz.func121,Tryz.ntmps121
   go_wp2_with (go_at_call 108; refine hd.mono ?_; rintro e W1 ⟨rfl,hW⟩)
   go_ret2
   exact .inr ⟨by simp,rfl,hW⟩
 | true =>
   by_cases hs:s.size<=18
   . have hb:=ha rfl hs
     have h1:¬ (18:Int)<(s.size:Int):=by omega
     go_enter Tryz.func121,Tryz.ntmps121
     go_wp2_with (first
      | (go_at_call 108; refine hd.mono ?_; rintro e W1 ⟨rfl,hW⟩)
      | (go_at_call 201; refine(hb _ hW).mono ?_; rintro e W2 ⟨rfl,hW2⟩))
     go_ret2
     exact .inl ⟨by trivial,hs,rfl,hW2⟩
   . have h1:(18:Int)<(s.size:Int):=by omega
     go_enter Tryz.func121,Tryz.ntmps121
     go_wp2_with (go_at_call 108; refine hd.mono ?_; rintro e W1 ⟨rfl,hW⟩)
     go_ret2
     exact .inr ⟨by simp[hs],rfl,hW⟩
end
def EJ(p0:S8):Option Y36:=vH tO p0
def abt:Su:=fU [.c false [.str]] [(false,[ah]),(false,[.bool])] fun x=>EJ x.1.1
theorem TY:aw Tryz.prog 121 abt:=JT yC (gd:=tO) yf (fnd:=Tryz.f108) (cd:=ar Tryz.f108) (by kernel_rfl) (by kernel_rfl) (by kernel_rfl) rfl ad2 (fn:=Tryz.f121) (c:=ar Tryz.f121) (by kernel_rfl) (by kernel_rfl) (by kernel_rfl)
def IG(p0:List R5)(p1 p2:Int):Option (Unit×(Y1×Y1×Y2×Unit)) :=
 (gY p2 2 3).bind fun y1 =>
 cond (!y1.2.1.1) (
 c24
 ) (
 (Na p0 p1 p2).bind fun y2 =>
 cond (!y2.2.2.2.1.1) (
 c24
 ) (
 (EJ y2.2.1.1).bind fun y3 =>
 some ((),(y3.2.1,y2.2.2.1,(true,()),()))
 )
 )
def aej:Su:=fU [.c false [q5],.c false [ah],.c false [ah]] [(false,[ah]),(false,[ah]),(false,[.bool])] fun x=>IG x.1.1 x.2.1.1 x.2.2.1.1
theorem Xz:aw Tryz.prog 188 aej :=
 fq (ac iZ (ac Iv (ac TY an))) Tryz.f188
def qC(t0:S8)(t5 t6:Int):Rd UK Y2 :=
 cond (aD t6 t5) (
 cond (aZ t6 t0) (
 let u1:=(et t0 t6)
 cond (aD u1 32) (
 eC (false,())
 ) (
 cond (aZ t6 t0) (
 cond (aD 126 u1) (
 eC (false,())
 ) (
 eA (t0,t5,(ak .i64 t6 1),())
 )
 ) none
 )
 ) none
 ) (
 eB (t0,t5,t6,())
 )
def MZ:=pP (aq (fY qC))
def Ju(p0:S8):Option gQ :=
 (MZ p0 (ae p0) 0).bind (Sum.elim (fun _ =>
 c4
 ) (fun y1 =>
 some ((),(y1,()))
 ))
def ad1:Su:=fU [.c false [.str]] ic fun x=>Ju x.1.1
theorem XM:aw Tryz.prog 243 ad1 :=
 fl an [.d 2 .bool] [(0,⟨[.d 0 .str,.d 5 ah,.d 6 ah],aq (fY qC)⟩)] [] Tryz.f243 (lp [0] (sc dM sn))
def rL(p0:Int)(p1:S8):Option gQ :=
 (IM p0).bind fun y1 =>
 cond (aj y1.2.1.2.1 1) (
 let u1:=(tO p1)
 Option.bind u1 fun y2 =>
 let u2:=(ae p1)
 zR (cond y2.2.1.1 (aj u2 y1.2.1.2.2.1) false)
 ) (
 cond (aj y1.2.1.2.1 2) (
 let u1:=(Ju p1)
 Option.bind u1 fun y2 =>
 let u2:=(ae p1)
 zR (cond y2.2.1.1 (aj u2 y1.2.1.2.2.1) false)
 ) (
 cond (aj y1.2.1.2.1 3) (
 let u1:=(tO p1)
 Option.bind u1 fun y2 =>
 cond y2.2.1.1 (
 let u2:=(ae p1)
 let u3:=(gY u2 1 y1.2.1.2.2.1)
 Option.bind u3 fun y3 =>
 some ((),(y3.2.1,()))
 ) (
 c0
 )
 ) (
 cond (aj y1.2.1.2.1 4) (
 let u1:=(Ju p1)
 Option.bind u1 fun y2 =>
 cond y2.2.1.1 (
 let u2:=(ae p1)
 let u3:=(gY u2 1 y1.2.1.2.2.1)
 Option.bind u3 fun y3 =>
 some ((),(y3.2.1,()))
 ) (
 c0
 )
 ) (
 cond (aj y1.2.1.2.1 5) (
 let u1:=(Ju p1)
 Option.bind u1 fun y2 =>
 cond y2.2.1.1 (
 let u2:=(ae p1)
 let u3:=(gY u2 1 y1.2.1.2.2.1)
 Option.bind u3 fun y3 =>
 some ((),(y3.2.1,()))
 ) (
 c0
 )
 ) (
 c0
 )
 )
 )
 )
 )
def abr:Su:=fU [.c false [ah],.c false [.str]] ic fun x=>rL x.1.1 x.2.1.1
theorem GV:aw Tryz.prog 190 abr :=
 fq (ac iZ (ac yf (ac K5 (ac XM an)))) Tryz.f190
def Nq(p0:List R5)(p1 p2:Int):Option Xg :=
 (KR p2).bind fun y1 =>
 (A5 p2).bind fun y2 =>
 cond (cond (cond (aj y2.2.1.1 3) true (aj y2.2.1.1 4)) true (aj y2.2.1.1 5)) (
 (B9 p2).bind fun y3 =>
 (IG p0 p1 y3.2.1.1).bind fun y4 =>
 cond (!y4.2.2.2.1.1) (
 c3
 ) (
 let u1:=(cond (aj y2.2.1.1 1) true (aj y2.2.1.1 3))
 cond u1 (
 (Na p0 y4.2.2.1.1 y4.2.1.1).bind fun y5 =>
 cond (!y5.2.2.2.1.1) (
 c3
 ) (
 (rL p2 y5.2.1.1).bind fun y6 =>
 cond (!y6.2.1.1) (
 c3
 ) (
 some ((),(y5.2.1,y5.2.2.1,(true,()),()))
 )
 )
 ) (
 (BG p0 y4.2.2.1.1 y4.2.1.1).bind fun y5 =>
 cond (!y5.2.2.1.1) (
 c3
 ) (
 let u2:=(strOf y5.2.1.1)
 (rL p2 u2).bind fun y6 =>
 cond (!y6.2.1.1) (
 c3
 ) (
 some ((),((u2,()),((ak .i64 y4.2.2.1.1 y4.2.1.1),()),(true,()),()))
 )
 )
 )
 )
 ) (
 let u1:=(cond (aj y2.2.1.1 1) true (aj y2.2.1.1 3))
 cond u1 (
 (Na p0 p1 y1.2.1.1).bind fun y3 =>
 cond (!y3.2.2.2.1.1) (
 c3
 ) (
 (rL p2 y3.2.1.1).bind fun y4 =>
 cond (!y4.2.1.1) (
 c3
 ) (
 some ((),(y3.2.1,y3.2.2.1,(true,()),()))
 )
 )
 ) (
 (BG p0 p1 y1.2.1.1).bind fun y3 =>
 cond (!y3.2.2.1.1) (
 c3
 ) (
 let u2:=(strOf y3.2.1.1)
 (rL p2 u2).bind fun y4 =>
 cond (!y4.2.1.1) (
 c3
 ) (
 some ((),((u2,()),((ak .i64 p1 y1.2.1.1),()),(true,()),()))
 )
 )
 )
 )
def acE:Su:=fU [.c false [q5],.c false [ah],.c false [ah]] PL fun x=>Nq x.1.1 x.2.1.1 x.2.2.1.1
theorem Zs:aw Tryz.prog 102 acE :=
 fq (ac ND (ac Iv (ac C3 (ac Sp (ac RI (ac Xz (ac GV an))))))) Tryz.f102
def yr(t0:List R5)(t4:S8)(t5:Int)(t8:List R3)(t9:Bool)(t41:List R3)(t42 t43:Int)(b2:S8×(List eX)×Unit):Rd ((List R5)×S8×Int×(List R3)×Bool×(List R3)×Int×Int×vn×Unit) Y38 :=
 cond (aD t43 t42) (
 cond (aZ t43 t41) (
 let u1:=(gt d3 t41 t43)
 cond (aj u1.1 1) (
 let u2:=(ak .i64 t43 1)
 eA (t0,t4,t5,t8,true,t41,t42,u2,b2,())
 ) (
 (A5 u1.1).bind fun y1 =>
 cond (aj y1.2.1.1 0) (
 eC (2,([],[],()),())
 ) (
 cond (bj 8 t8 [u1]) (
 let u2:=(ak .i64 t43 1)
 eA (t0,t4,t5,(fy t8 [u1]),t9,t41,t42,u2,b2,())
 ) none
 )
 )
 ) none
 ) (
 eB (t0,t4,t5,t8,t9,t41,t42,t43,b2,())
 )
def Tm:=cu9 (aq (un9 yr))
def ye(t0:List R5)(t4:S8)(t5:Int)(t8 t76:List R3)(t77 t78:Int)(b2:S8×(List eX)×Unit):Rd ((List R5)×S8×Int×(List R3)×(List R3)×Int×Int×vn×Unit) Y38 :=
 cond (aD t78 t77) (
 cond (aZ t78 t76) (
 let u1:=(ak .i64 (gt d3 t76 t78).1 64)
 (A5 u1).bind fun y1 =>
 cond (aj y1.2.1.1 0) (
 eC (2,([],[],()),())
 ) (
 cond (bj 8 t8 [(u1,())]) (
 eA (t0,t4,t5,(fy t8 [(u1,())]),t76,t77,(ak .i64 t78 1),b2,())
 ) none
 )
 ) none
 ) (
 eB (t0,t4,t5,t8,t76,t77,t78,b2,())
 )
def SR:=cu8 (aq (Rj ye))
def xK(t0:List R5)(t5:Int)(t95:List R3)(t96 t97:Int)(b2 b15:S8×(List eX)×Unit):Rd ((List R5)×Int×(List R3)×Int×Int×vn×vn×Unit) Y38 :=
 cond (aD t97 t96) (
 cond (aZ t97 t95) (
 (Nq t0 t5 (gt d3 t95 t97).1).bind fun y1 =>
 cond (!y1.2.2.2.1.1) (
 eC (3,([],[],()),())
 ) (
 cond (bj 24 b15.2.1 [((gt d3 t95 t97).1,y1.2.1.1,())]) (
 eA (t0,y1.2.2.1.1,t95,t96,(ak .i64 t97 1),b2,(b15.1,(fy b15.2.1 [((gt d3 t95 t97).1,y1.2.1.1,())]),()),())
 ) none
 )
 ) none
 ) (
 eB (t0,t5,t95,t96,t97,b2,b15,())
 )
def HS:=cu7 (aq (Ft xK))
def g55(p0:List R5):Option (Unit×(vn×Y1×Unit)) :=
 (Na p0 0 4).bind fun y1 =>
 cond (!y1.2.2.2.1.1) (
 some ((),(([],[],()),(1,()),()))
 ) (
 (CE p0 y1.2.2.1.1).bind fun y2 =>
 cond (!y2.2.2.2.1.1) (
 c25
 ) (
 (Tm p0 y1.2.1.1 y2.2.2.1.1 [] false y2.2.1.1 (ae y2.2.1.1) 0 ([],[],())).bind (Sum.elim (fun y3 =>
 cond y3.2.2.2.2.1 (
 (CE y3.1 y3.2.2.1).bind fun y4 =>
 let u1:=(ae y4.2.1.1)
 cond (cond (!y4.2.2.2.1.1) true (aj u1 0)) (
 c25
 ) (
 (SR y3.1 y3.2.1 y4.2.2.1.1 y3.2.2.2.1 y4.2.1.1 u1 0 y3.2.2.2.2.2.2.2.2.1).bind (Sum.elim (fun y5 =>
 (HS y5.1 y5.2.2.1 y5.2.2.2.1 (ae y5.2.2.2.1) 0 y5.2.2.2.2.2.2.2.1 (y5.2.1,[],())).bind (Sum.elim (fun y6 =>
 cond (!(aj y6.2.1 (ae y6.1))) (
 c26
 ) (
 some ((),(y6.2.2.2.2.2.2.1,(0,()),()))
 )
 ) (fun y6 =>
 some ((),(y6.2.1,(y6.1,()),()))
 ))
 ) (fun y5 =>
 some ((),(y5.2.1,(y5.1,()),()))
 ))
 )
 ) (
 (HS y3.1 y3.2.2.1 y3.2.2.2.1 (ae y3.2.2.2.1) 0 y3.2.2.2.2.2.2.2.2.1 (y3.2.1,[],())).bind (Sum.elim (fun y4 =>
 cond (!(aj y4.2.1 (ae y4.1))) (
 c26
 ) (
 some ((),(y4.2.2.2.2.2.2.1,(0,()),()))
 )
 ) (fun y4 =>
 some ((),(y4.2.1,(y4.1,()),()))
 ))
 )
 ) (fun y3 =>
 some ((),(y3.2.1,(y3.1,()),()))
 ))
 )
 )
def s55:Su:=fU [.c false [q5]] [(true,[.str,dS]),(false,[ah])] fun x=>g55 x.1.1
theorem WE:aw Tryz.prog 55 s55 :=
 fl (ac Iv (ac Ze (ac C3 (ac Zs an)))) [.d 3 ah,.box 2 [(false,.str),(true,dS)]] [(0,⟨[.d 0 q5,.d 4 .str,.d 5 ah,.own 8 q3,.d 9 .bool,.own 41 q3,.d 42 ah,.d 43 ah,.box 2 [(false,.str),(true,dS)]],aq (un9 yr)⟩),(3,⟨[.d 0 q5,.d 4 .str,.d 5 ah,.own 8 q3,.own 76 q3,.d 77 ah,.d 78 ah,.box 2 [(false,.str),(true,dS)]],aq (Rj ye)⟩),(5,⟨[.d 0 q5,.d 5 ah,.own 95 q3,.d 96 ah,.d 97 ah,.box 2 [(false,.str),(true,dS)],.box 15 [(false,.str),(true,dS)]],aq (Ft xK)⟩)] [] Tryz.f55 (lp [0,3,5] (sc dM (sc dM (sc dM sn))))
def uO(t0:S8)(t3:Int)(t4:Bool)(t5:Int):Rd (S8×Int×Bool×Int×Unit) Unit :=
 cond (bT 0 t5) (
 cond (aZ t5 t0) (
 cond t4 (
 let u1:=(cW .i64 (ba .u8 (et t0 t5) 48))
 let u2:=(vB .i64 u1 2)
 cond (aD 9 u2) (
 let u3:=(ba .i64 t5 1)
 eA (t0,(ak .i64 t3 (ba .i64 u2 9)),(!t4),u3,())
 ) (
 let u3:=(ba .i64 t5 1)
 eA (t0,(ak .i64 t3 u2),(!t4),u3,())
 )
 ) (
 let u1:=(cW .i64 (ba .u8 (et t0 t5) 48))
 let u2:=(ba .i64 t5 1)
 eA (t0,(ak .i64 t3 u1),(!t4),u2,())
 )
 ) none
 ) (
 eB (t0,t3,t4,t5,())
 )
def LU:=pd (aq (dJ uO))
def Rz(p0:S8):Option ib :=
 (tO p0).bind fun y1 =>
 cond (!y1.2.1.1) (
 c2
 ) (
 (LU p0 0 true (ba .i64 (ae p0) 1)).bind (Sum.elim (fun y2 =>
 zR (dP (ba .i64 10 (dP y2.2.1 10)) 10)
 ) (fun _ =>
 none
 ))
 )
def acZ:Su:=fU [.c false [.str]] iX fun x=>Rz x.1.1
theorem ZV:aw Tryz.prog 275 acZ :=
 fl (ac yf an) [] [(0,⟨[.d 0 .str,.d 3 ah,.d 4 .bool,.d 5 ah],aq (dJ uO)⟩)] [] Tryz.f275 (lp [0] (sc dM sn))
def Qc(p0:S8):Option gQ :=
 let u1:=(ba .i64 (ae p0) 1)
 cond (bT 1 u1) (
 (tO p0).bind fun y1 =>
 cond y1.2.1.1 (
 cond (ea 0 u1 p0) (
 (Rz (sub p0 0 u1)).bind fun y2 =>
 cond (aZ u1 p0) (
 zR (aj y2.2.1.1 (cW .i64 (ba .u8 (et p0 u1) 48)))
 ) none
 ) none
 ) (
 c0
 )
 ) (
 c0
 )
def aeg:Su:=fU [.c false [.str]] ic fun x=>Qc x.1.1
theorem Zv:aw Tryz.prog 244 aeg :=
 fq (ac yf (ac ZV an)) Tryz.f244
def uC(p0:S8):Option gQ :=
 cond (bT (ae p0) 19) (
 (Qc p0).bind fun y1 =>
 some ((),(y1.2.1,()))
 ) (
 c0
 )
def acf:Su:=fU [.c false [.str]] ic fun x=>uC x.1.1
theorem Tb:aw Tryz.prog 191 acf :=
 fq (ac Zv an) Tryz.f191
def Ki(p0:Int):Option gQ :=
 (gY p0 0 4611686018427387904).bind fun y1 =>
 some ((),(y1.2.1,()))
def aan:Su:=fU [.c false [ah]] ic fun x=>Ki x.1.1
theorem GS:aw Tryz.prog 192 aan :=
 fq (ac iZ an) Tryz.f192
def rm(t0:S8)(t5 t6:Int):Rd UK Y2 :=
 cond (aD t6 t5) (
 cond (aZ t6 t0) (
 let u1:=(et t0 t6)
 cond (aD u1 48) (
 cond (aZ t6 t0) (
 cond (aD u1 97) (
 eC (false,())
 ) (
 cond (aZ t6 t0) (
 cond (aD 122 u1) (
 eC (false,())
 ) (
 eA (t0,t5,(ak .i64 t6 1),())
 )
 ) none
 )
 ) none
 ) (
 cond (aZ t6 t0) (
 cond (aD 57 u1) (
 cond (aZ t6 t0) (
 cond (aD u1 97) (
 eC (false,())
 ) (
 cond (aZ t6 t0) (
 cond (aD 122 u1) (
 eC (false,())
 ) (
 eA (t0,t5,(ak .i64 t6 1),())
 )
 ) none
 )
 ) none
 ) (
 eA (t0,t5,(ak .i64 t6 1),())
 )
 ) none
 )
 ) none
 ) (
 eB (t0,t5,t6,())
 )
def MJ:=pP (aq (fY rm))
def Dy(p0:S8):Option gQ :=
 (MJ p0 (ae p0) 0).bind (Sum.elim (fun y1 =>
 (gY (ae y1.1) 1 6).bind fun y2 =>
 some ((),(y2.2.1,()))
 ) (fun y1 =>
 some ((),(y1,()))
 ))
def aa5:Su:=fU [.c false [.str]] ic fun x=>Dy x.1.1
theorem wq:aw Tryz.prog 204 aa5 :=
 fl (ac iZ an) [.d 2 .bool] [(0,⟨[.d 0 .str,.d 5 ah,.d 6 ah],aq (fY rm)⟩)] [] Tryz.f204 (lp [0] (sc dM sn))
def Ib(p0:Int):Option gQ :=
 (gY p0 0 1000000000).bind fun y1 =>
 some ((),(y1.2.1,()))
def s57:Su:=fU [.c false [ah]] ic fun x=>Ib x.1.1
theorem qo:aw Tryz.prog 57 s57 :=
 fq (ac iZ an) Tryz.f57
def Rp(p0:S8×Int×Int×Unit):Option gQ :=
 (Dy p0.1).bind fun y1 =>
 cond y1.2.1.1 (
 (gY p0.2.1 1 9007199254740992).bind fun y2 =>
 cond y2.2.1.1 (
 (Ib p0.2.2.1).bind fun y3 =>
 some ((),(y3.2.1,()))
 ) (
 c0
 )
 ) (
 c0
 )
def acW:Su:=fU [.c true [.str,ah,ah]] ic fun x=>Rp x.1
theorem aal:aw Tryz.prog 245 acW :=
 fq (ac iZ (ac wq (ac qo an))) Tryz.f245
def qh(t0 t5:List bm)(t6 t7:Int):Rd ((List bm)×(List bm)×Int×Int×Unit) Y2 :=
 cond (aD t7 t6) (
 cond (aZ t7 t5) (
 let u1:=(gt d192 t5 t7)
 (Rp u1).bind fun y1 =>
 cond (!y1.2.1.1) (
 eC (false,())
 ) (
 cond (aD 0 t7) (
 let u2:=(ba .i64 t7 1)
 cond (aZ u2 t0) (
 cond (leS u1.1 (gt d192 t0 u2).1) (
 eC (false,())
 ) (
 eA (t0,t5,t6,(ak .i64 t7 1),())
 )
 ) none
 ) (
 eA (t0,t5,t6,(ak .i64 t7 1),())
 )
 )
 ) none
 ) (
 eB (t0,t5,t6,t7,())
 )
def LS:=pd (aq (dJ qh))
def Jr(p0:List bm):Option gQ :=
 (LS p0 p0 (ae p0) 0).bind (Sum.elim (fun y1 =>
 zR (bT (ae y1.1) 4)
 ) (fun y1 =>
 some ((),(y1,()))
 ))
def acz:Su:=fU [.c false [bB]] ic fun x=>Jr x.1.1
theorem Tc:aw Tryz.prog 193 acz :=
 fl (ac aal an) [.d 2 .bool] [(0,⟨[.d 0 bB,.d 5 bB,.d 6 ah,.d 7 ah],aq (dJ qh)⟩)] [] Tryz.f193 (lp [0] (sc dM sn))
def OV(p1:Int):Option Y25 :=
 cond (aD p1 0) (
 none
 ) (
 let u1:=(ba .i64 p1 (ba .i64 0 0))
 cond (aD 0 u1) (
 cond (YX 0 0) (
 cond (mzB 8 u1) (
 let u2:=(vE d3 u1)
 cond (ea 0 0 u2) (
 zR (Ps u2 0)
 ) none
 ) none
 ) none
 ) (
 zR []
 )
 )
def ab9:Su:=fU [.nil,.c false [ah]] [(false,[q3])] fun x=>OV x.1.1
theorem YM:aw Tryz.prog 276 ab9 :=
 fq an Tryz.f276
def tM(t0:List J3)(t3:Int)(t9:List J3)(t10 t11:Int):Rd ((List J3)×Int×(List J3)×Int×Int×Unit) Unit :=
 cond (aD t11 t10) (
 cond (aZ t11 t9) (
 let u1:=(ak .i64 t3 (ae (gt d52 t9 t11).1))
 cond (aD u1 0) (
 none
 ) (
 eA (t0,u1,t9,t10,(ak .i64 t11 1),())
 )
 ) none
 ) (
 eB (t0,t3,t9,t10,t11,())
 )
def FU:=J8 (aq (nM tM))
def uE(t6:List R3)(t25:List J3)(t26 t27:Int):Rd ((List R3)×(List J3)×Int×Int×Unit) Unit :=
 cond (aD t27 t26) (
 cond (aZ t27 t25) (
 cond (bj 8 t6 (gt d52 t25 t27).1) (
 eA ((fy t6 (gt d52 t25 t27).1),t25,t26,(ak .i64 t27 1),())
 ) none
 ) none
 ) (
 eB (t6,t25,t26,t27,())
 )
def Ek:=pd (aq (dJ uE))
def Pq(p0:List J3):Option Y25 :=
 (FU p0 0 p0 (ae p0) 0).bind (Sum.elim (fun y1 =>
 (OV y1.2.1).bind fun y2 =>
 (Ek y2.2.1.1 y1.1 (ae y1.1) 0).bind (Sum.elim (fun y3 =>
 zR y3.1
 ) (fun _ =>
 none
 ))
 ) (fun _ =>
 none
 ))
def aef:Su:=fU [.c false [.sl 52 KY]] [(false,[q3])] fun x=>Pq x.1.1
theorem aaK:aw Tryz.prog 246 aef :=
 fl (ac YM an) [] [(0,⟨[.d 0 (.sl 52 KY),.d 3 ah,.d 9 (.sl 52 KY),.d 10 ah,.d 11 ah],aq (nM tM)⟩),(2,⟨[.own 6 q3,.d 25 (.sl 52 KY),.d 26 ah,.d 27 ah],aq (dJ uE)⟩)] [] Tryz.f246 (lp [0,2] (sc dM (sc dM sn)))
def rI(t3:Int)(t14:List R3)(t15 t16:Int)(b1:Int×Int×(List R3)×(List R3)×Unit):Rd (Int×(List R3)×Int×Int×UX×Unit) Y2 :=
 cond (aD t16 t15) (
 cond (aZ t16 t14) (
 (Ki (gt d3 t14 t16).1).bind fun y1 =>
 cond (!y1.2.1.1) (
 eC (false,())
 ) (
 eA (t3,t14,t15,(ak .i64 t16 1),b1,())
 )
 ) none
 ) (
 eB (t3,t14,t15,t16,b1,())
 )
def LZ:=J8 (aq (nM rI))
def AP(p0:Int×Int×(List R3)×(List R3)×Unit):Option gQ :=
 (Pq [(p0.2.2.1,()),(p0.2.2.2.1,())]).bind fun y1 =>
 (LZ (ae p0.2.2.1) y1.2.1.1 (ae y1.2.1.1) 0 p0).bind (Sum.elim (fun y2 =>
 (gY y2.2.2.2.2.1.1 1 1000).bind fun y3 =>
 cond y3.2.1.1 (
 (gY y2.1 1 8).bind fun y4 =>
 cond (cond y4.2.1.1 (aj (ae y2.2.2.2.2.1.2.2.2.1) y2.1) false) (
 (Ib y2.2.2.2.2.1.2.1).bind fun y5 =>
 some ((),(y5.2.1,()))
 ) (
 c0
 )
 ) (
 c0
 )
 ) (fun y2 =>
 some ((),(y2,()))
 ))
def XU:Su:=fU [.c true [ah,ah,q3,q3]] ic fun x=>AP x.1
theorem zk:aw Tryz.prog 194 XU :=
 fl (ac iZ (ac GS (ac qo (ac aaK an)))) [.d 2 .bool] [(0,⟨[.d 3 ah,.own 14 q3,.d 15 ah,.d 16 ah,.box 1 [(false,.int .i64),(false,.int .i64),(false,q3),(false,q3)]],aq (nM rI)⟩)] [] Tryz.f194 (lp [0] (sc dM sn))
def vD(p0:S8)(p1:Int):Option gQ :=
 (tO p0).bind fun y1 =>
 zR (cond y1.2.1.1 (aj (ae p0) p1) false)
def adi:Su:=fU [.c false [.str],.c false [ah]] ic fun x=>vD x.1.1 x.2.1.1
theorem G5:aw Tryz.prog 109 adi :=
 fq (ac yf an) Tryz.f109
def P4(p0:S8×S8×(List R5)×Unit):Option gQ :=
 (vD p0.1 6).bind fun y1 =>
 cond y1.2.1.1 (
 (vD p0.2.1 4).bind fun y2 =>
 cond y2.2.1.1 (
 (gY (ae p0.2.2.1) 1 200).bind fun y3 =>
 some ((),(y3.2.1,()))
 ) (
 c0
 )
 ) (
 c0
 )
def acD:Su:=fU [.c true [.str,.str,q5]] ic fun x=>P4 x.1
theorem aaV:aw Tryz.prog 218 acD :=
 fq (ac iZ (ac G5 an)) Tryz.f218
def UR(p0:S8×S8×(List R5)×Unit)(p1 p2:S8×Unit):Option gQ :=
 zR (cond (bw p0.1 p1.1) (bw p0.2.1 p2.1) false)
def ab7:Su:=fU [.c true [.str,.str,q5],.pt [.str],.pt [.str]] ic fun x=>UR x.1 x.2.1 x.2.2.1
theorem XJ:aw Tryz.prog 208 ab7 :=
 fq an Tryz.f208
def pW(t0:List bS)(f1:Y9×Y9×Unit)(t7 t8:Int):Rd ((List bS)×(Y9×Y9×Unit)×Int×Int×Unit) Y1 :=
 cond (aD t8 t7) (
 cond (aZ t8 t0) (
 (UR (gt d100 t0 t8) f1.1 f1.2.1).bind fun y1 =>
 cond y1.2.1.1 (
 eC (t8,())
 ) (
 eA (t0,f1,t7,(ak .i64 t8 1),())
 )
 ) none
 ) (
 eB (t0,f1,t7,t8,())
 )
def Ke:=pd (aq (dJ pW))
def Vu(p0:List bS)(c1_0 c1_1:S8×Unit):Option ib :=
 (Ke p0 (c1_0,c1_1,()) (ae p0) 0).bind (Sum.elim (fun _ =>
 c2
 ) (fun y1 =>
 some ((),(y1,()))
 ))
def abN:Su:=fU [.c false [bU],.fn 208 [.p [.str],.p [.str]]] iX fun x=>Vu x.1.1 x.2.1.1 x.2.1.2.1
theorem aay:aw Tryz.prog 207 abN :=
 fl (ac XJ an) [.d 4 ah] [(0,⟨[.d 0 bU,.fn 1 208 [.p [.str],.p [.str]],.d 7 ah,.d 8 ah],aq (dJ pW)⟩)] [] Tryz.f207 (lp [0] (sc dM sn))
def Oq(p0:List bS)(p1 p2:S8):Option ib :=
 (Vu p0 (p1,()) (p2,())).bind fun y1 =>
 some ((),(y1.2.1,()))
def abD:Su:=fU [.c false [bU],.c false [.str],.c false [.str]] iX fun x=>Oq x.1.1 x.2.1.1 x.2.2.1.1
theorem Sm:aw Tryz.prog 127 abD :=
 fq (ac aay an) Tryz.f127
def qE(t0 t5:List bS)(t6 t7:Int):Rd Y35 Y2 :=
 cond (aD t7 t6) (
 cond (aZ t7 t5) (
 let u1:=(gt d100 t5 t7)
 (P4 u1).bind fun y1 =>
 cond (!y1.2.1.1) (
 eC (false,())
 ) (
 (Oq t0 u1.1 u1.2.1).bind fun y2 =>
 cond (!(aj y2.2.1.1 t7)) (
 eC (false,())
 ) (
 eA (t0,t5,t6,(ak .i64 t7 1),())
 )
 )
 ) none
 ) (
 eB (t0,t5,t6,t7,())
 )
def MO:=pd (aq (dJ qE))
def Lt(p0:List bS):Option gQ :=
 (MO p0 p0 (ae p0) 0).bind (Sum.elim (fun y1 =>
 zR (bT (ae y1.1) 6)
 ) (fun y1 =>
 some ((),(y1,()))
 ))
def acn:Su:=fU [.c false [bU]] ic fun x=>Lt x.1.1
theorem Tj:aw Tryz.prog 138 acn :=
 fl (ac aaV (ac Sm an)) [.d 2 .bool] [(0,⟨[.d 0 bU,.d 5 bU,.d 6 ah,.d 7 ah],aq (dJ qE)⟩)] [] Tryz.f138 (lp [0] (sc dM sn))
def yP(p0 p1:Int):Option ib :=
 let u1:=(El 0 (OM p1 4611686018427387904))
 let u2:=(El 0 (OM p0 4611686018427387904))
 cond (aD (ba .i64 4611686018427387904 u1) u2) (
 c28
 ) (
 zR (ak .i64 u2 u1)
 )
def aaZ:Su:=fU [.c false [ah],.c false [ah]] iX fun x=>yP x.1.1 x.2.1.1
theorem zv:aw Tryz.prog 195 aaZ :=
 fq an Tryz.f195
def rf(t3:Int)(t6:List bm)(t7 t8:Int):Rd (Int×(List bm)×Int×Int×Unit) Unit :=
 cond (aD t8 t7) (
 cond (aZ t8 t6) (
 (yP t3 (gt d192 t6 t8).2.1).bind fun y1 =>
 eA (y1.2.1.1,t6,t7,(ak .i64 t8 1),())
 ) none
 ) (
 eB (t3,t6,t7,t8,())
 )
def LG:=pd (aq (dJ rf))
def L5(p0:List bm):Option ib :=
 (LG 0 p0 (ae p0) 0).bind (Sum.elim (fun y1 =>
 zR y1.1
 ) (fun _ =>
 none
 ))
def ady:Su:=fU [.c false [bB]] iX fun x=>L5 x.1.1
theorem Tn:aw Tryz.prog 196 ady :=
 fl (ac zv an) [] [(0,⟨[.d 3 ah,.d 6 bB,.d 7 ah,.d 8 ah],aq (dJ rf)⟩)] [] Tryz.f196 (lp [0] (sc dM sn))
def Fz(p0:S8×Int×Int×Int×Int×(List bm)×Int×Int×(List R3)×(List R3)×(List bS)×Unit):Option gQ :=
 (uC p0.1).bind fun y1 =>
 cond y1.2.1.1 (
 (gY p0.2.1 0 9007199254740992).bind fun y2 =>
 cond y2.2.1.1 (
 (gY p0.2.2.2.1 0 1000).bind fun y3 =>
 cond y3.2.1.1 (
 (gY p0.2.2.2.2.1 0 9007199254740992).bind fun y4 =>
 cond y4.2.1.1 (
 (Ki p0.2.2.1).bind fun y5 =>
 cond y5.2.1.1 (
 (Jr p0.2.2.2.2.2.1).bind fun y6 =>
 cond y6.2.1.1 (
 (AP (p0.2.2.2.2.2.2.1,p0.2.2.2.2.2.2.2.1,p0.2.2.2.2.2.2.2.2.1,p0.2.2.2.2.2.2.2.2.2.1,())).bind fun y7 =>
 cond y7.2.1.1 (
 (Lt p0.2.2.2.2.2.2.2.2.2.2.1).bind fun y8 =>
 cond y8.2.1.1 (
 (L5 p0.2.2.2.2.2.1).bind fun y9 =>
 (yP p0.2.2.1 y9.2.1.1).bind fun y10 =>
 zR (bT y10.2.1.1 p0.2.1)
 ) (
 c0
 )
 ) (
 c0
 )
 ) (
 c0
 )
 ) (
 c0
 )
 ) (
 c0
 )
 ) (
 c0
 )
 ) (
 c0
 )
 ) (
 c0
 )
def ac9:Su:=fU [.c true [.str,ah,ah,ah,ah,bB,ah,ah,q3,q3,bU]] ic fun x=>Fz x.1
theorem F4:aw Tryz.prog 103 ac9 :=
 fq (ac iZ (ac Tb (ac GS (ac Tc (ac zk (ac Tj (ac zv (ac Tn an)))))))) Tryz.f103
def xk(t6:List gL)(t7 t8:Int)(b1:(List gL)×Unit):Rd ((List gL)×Int×Int×Y5×Unit) Y2 :=
 cond (aD t8 t7) (
 cond (aZ t8 t6) (
 let u1:=(gt d94 t6 t8)
 (Fz u1).bind fun y1 =>
 cond (!y1.2.1.1) (
 eC (false,())
 ) (
 cond (aD 0 t8) (
 let u2:=(ba .i64 t8 1)
 cond (aZ u2 b1.1) (
 cond (leS u1.1 (gt d94 b1.1 u2).1) (
 eC (false,())
 ) (
 eA (t6,t7,(ak .i64 t8 1),b1,())
 )
 ) none
 ) (
 eA (t6,t7,(ak .i64 t8 1),b1,())
 )
 )
 ) none
 ) (
 eB (t6,t7,t8,b1,())
 )
def RJ:=pd (aq (dJ xk))
def Zt(p0:(List gL)×Unit):Option gQ :=
 (RJ p0.1 (ae p0.1) 0 p0).bind (Sum.elim (fun y1 =>
 zR (bT (ae y1.2.2.2.1.1) 6)
 ) (fun y1 =>
 some ((),(y1,()))
 ))
def s56:Su:=fU [.c true [lr]] ic fun x=>Zt x.1
theorem N1:aw Tryz.prog 56 s56 :=
 fl (ac F4 an) [.d 2 .bool] [(0,⟨[.d 6 lr,.d 7 ah,.d 8 ah,.box 1 [(false,lr)]],aq (dJ xk)⟩)] [] Tryz.f56 (lp [0] (sc dM sn))
def A3(p0:List bm):Option (Unit×Y7×Unit):=cond (bj 32 ([]:List bm) p0) (zR p0) none
def IK:Su:=fU [.c false [bB]] Q7 fun x=>A3 x.1.1
def Ug:En:=vN 8 tt [] [] (fun _=>none) [] fun _=>none
def S2(x:PT IK.ps):St:=⟨[(2,.v .nil),(0,.v (.d bB x.1.1))],[]⟩
theorem t197(x:PT IK.ps)(b:Bool):((cH Ug (.seq (cJ (dC (cJ (ar Tryz.f197)))) (cJ (cJ (ar Tryz.f197)))) (((S2 x).aV 3 (.v (.d bB x.1.1),none)).aV 4 (.v (.d .bool b),none))).bind (Ec Ug Tryz.f197.results.toList IK.ps IK.rs IK.fresh)).run =
 cond b (zR []) (A3 x.1.1):=by kernel_rfl
theorem Ot:aw Tryz.prog 197 IK :=
 EZ (E:=Ug) (qW hT) (cF (l:=[]) trivial) iU (fn:=Tryz.f197) (c0:=dC (ar Tryz.f197)) (cc:=cJ (dC (cJ (ar Tryz.f197)))) (c3:=cJ (cJ (ar Tryz.f197))) (id:=GR (dC (dC (cJ (ar Tryz.f197)))))
  (o1:=nJ (dC (dC (cJ (ar Tryz.f197)))) 0) (o2:=nJ (dC (dC (cJ (ar Tryz.f197)))) 1) (by kernel_rfl) (by kernel_rfl) (by kernel_rfl) rfl
  (bG (fun _=>rfl) _ (by kernel_rfl)) (bG (fun _=>rfl) _ (by kernel_rfl)) (bG (fun _=>rfl) _ (by kernel_rfl)) (t0:=0) (t3:=3) (t4:=4) (ty:=89) (ty':=89) (e:=192) (e':=192) (by':=24) (fl:=[]) (ks:=lO) (by kernel_rfl) (by kernel_rfl) (by kernel_rfl) (by kernel_rfl) (by kernel_rfl) (by kernel_rfl) (by kernel_rfl) (by kernel_rfl) (by kernel_rfl)
  S2 (fun x=>x.1.1) (fun x=>by kernel_rfl) (fun x=>by kernel_rfl) fun x y hy b hb=>by
   refine⟨y.1,fun _=>rfl,?_⟩
   rw[t197]
   have hy:A3 x.1.1=some y:=hy
   cases b with
   | false=>exact hy
   | true =>
     have he:x.1.1=([]:List bm):=hb rfl
     rw[he]at hy
     exact hy
def Im(p0:List R3):Option (Unit×J3×Unit):=cond (bj 8 ([]:List R3) p0) (zR p0) none
def Ie:Su:=fU [.c false [q3]] [(false,[q3])] fun x=>Im x.1.1
def U4:En:=vN 8 tt [] [] (fun _=>none) [] fun _=>none
def Sf(x:PT Ie.ps):St:=⟨[(2,.v .nil),(0,.v (.d q3 x.1.1))],[]⟩
theorem t247(x:PT Ie.ps)(b:Bool):((cH U4 (.seq (cJ (dC (cJ (ar Tryz.f247)))) (cJ (cJ (ar Tryz.f247)))) (((Sf x).aV 3 (.v (.d q3 x.1.1),none)).aV 4 (.v (.d .bool b),none))).bind (Ec U4 Tryz.f247.results.toList Ie.ps Ie.rs Ie.fresh)).run =
 cond b (zR []) (Im x.1.1):=by kernel_rfl
theorem YL:aw Tryz.prog 247 Ie :=
 EZ (E:=U4) (qW hT) (cF (l:=[]) trivial) iU (fn:=Tryz.f247) (c0:=dC (ar Tryz.f247)) (cc:=cJ (dC (cJ (ar Tryz.f247)))) (c3:=cJ (cJ (ar Tryz.f247))) (id:=GR (dC (dC (cJ (ar Tryz.f247)))))
  (o1:=nJ (dC (dC (cJ (ar Tryz.f247)))) 0) (o2:=nJ (dC (dC (cJ (ar Tryz.f247)))) 1) (by kernel_rfl) (by kernel_rfl) (by kernel_rfl) rfl
  (bG (fun _=>rfl) _ (by kernel_rfl)) (bG (fun _=>rfl) _ (by kernel_rfl)) (bG (fun _=>rfl) _ (by kernel_rfl)) (t0:=0) (t3:=3) (t4:=4) (ty:=52) (ty':=52) (e:=3) (e':=3) (by':=24) (fl:=[]) (ks:=sr) (by kernel_rfl) (by kernel_rfl) (by kernel_rfl) (by kernel_rfl) (by kernel_rfl) (by kernel_rfl) (by kernel_rfl) (by kernel_rfl) (by kernel_rfl)
  Sf (fun x=>x.1.1) (fun x=>by kernel_rfl) (fun x=>by kernel_rfl) fun x y hy b hb=>by
   refine⟨y.1,fun _=>rfl,?_⟩
   rw[t247]
   have hy:Im x.1.1=some y:=hy
   cases b with
   | false=>exact hy
   | true =>
     have he:x.1.1=([]:List R3):=hb rfl
     rw[he]at hy
     exact hy
def BF(p0:Int×Int×(List R3)×(List R3)×Unit):Option V4 :=
 (Im p0.2.2.1).bind fun y1 =>
 (Im p0.2.2.2.1).bind fun y2 =>
 some ((),((p0.1,p0.2.1,y1.2.1.1,y2.2.1.1,()),()))
def XT:Su:=fU [.c true [ah,ah,q3,q3]] VH fun x=>BF x.1
theorem HL:aw Tryz.prog 198 XT :=
 fq (ac YL an) Tryz.f198
def FC(p0:List R5):Option (Unit×Y4×Unit):=cond (bj 1 ([]:List R5) p0) (zR p0) none
def Jt:Su:=fU [.c false [q5]] Xb fun x=>FC x.1.1
def VE:En:=vN 8 tt [] [] (fun _=>none) [] fun _=>none
def Tx(x:PT Jt.ps):St:=⟨[(2,.v .nil),(0,.v (.d q5 x.1.1))],[]⟩
theorem t128(x:PT Jt.ps)(b:Bool):((cH VE (.seq (cJ (dC (cJ (ar Tryz.f128)))) (cJ (cJ (ar Tryz.f128)))) (((Tx x).aV 3 (.v (.d q5 x.1.1),none)).aV 4 (.v (.d .bool b),none))).bind (Ec VE Tryz.f128.results.toList Jt.ps Jt.rs Jt.fresh)).run =
 cond b (zR []) (FC x.1.1):=by kernel_rfl
theorem Tf:aw Tryz.prog 128 Jt :=
 EZ (E:=VE) (qW hT) (cF (l:=[]) trivial) iU (fn:=Tryz.f128) (c0:=dC (ar Tryz.f128)) (cc:=cJ (dC (cJ (ar Tryz.f128)))) (c3:=cJ (cJ (ar Tryz.f128))) (id:=GR (dC (dC (cJ (ar Tryz.f128)))))
  (o1:=nJ (dC (dC (cJ (ar Tryz.f128)))) 0) (o2:=nJ (dC (dC (cJ (ar Tryz.f128)))) 1) (by kernel_rfl) (by kernel_rfl) (by kernel_rfl) rfl
  (bG (fun _=>rfl) _ (by kernel_rfl)) (bG (fun _=>rfl) _ (by kernel_rfl)) (bG (fun _=>rfl) _ (by kernel_rfl)) (t0:=0) (t3:=3) (t4:=4) (ty:=38) (ty':=38) (e:=5) (e':=5) (by':=24) (fl:=[]) (ks:=yM) (by kernel_rfl) (by kernel_rfl) (by kernel_rfl) (by kernel_rfl) (by kernel_rfl) (by kernel_rfl) (by kernel_rfl) (by kernel_rfl) (by kernel_rfl)
  Tx (fun x=>x.1.1) (fun x=>by kernel_rfl) (fun x=>by kernel_rfl) fun x y hy b hb=>by
   refine⟨y.1,fun _=>rfl,?_⟩
   rw[t128]
   have hy:FC x.1.1=some y:=hy
   cases b with
   | false=>exact hy
   | true =>
     have he:x.1.1=([]:List R5):=hb rfl
     rw[he]at hy
     exact hy
def pZ(t3 t7:List bS)(t8 t9:Int):Rd Y35 Unit :=
 cond (aD t9 t8) (
 cond (aZ t9 t7) (
 let u1:=(gt d100 t7 t9)
 (FC u1.2.2.1).bind fun y1 =>
 cond (bj 56 t3 [(u1.1,u1.2.1,y1.2.1.1,())]) (
 eA ((fy t3 [(u1.1,u1.2.1,y1.2.1.1,())]),t7,t8,(ak .i64 t9 1),())
 ) none
 ) none
 ) (
 eB (t3,t7,t8,t9,())
 )
def MI:=pd (aq (dJ pZ))
def Jd(p0:List bS):Option Y30 :=
 (MI [] p0 (ae p0) 0).bind (Sum.elim (fun y1 =>
 zR y1.1
 ) (fun _ =>
 none
 ))
def abR:Su:=fU [.c false [bU]] [(false,[bU])] fun x=>Jd x.1.1
theorem Td:aw Tryz.prog 136 abR :=
 fl (ac Tf an) [] [(0,⟨[.own 3 bU,.d 7 bU,.d 8 ah,.d 9 ah],aq (dJ pZ)⟩)] [] Tryz.f136 (lp [0] (sc dM sn))
def Of(p0:S8×Int×Int×Int×Int×(List bm)×Int×Int×(List R3)×(List R3)×(List bS)×Unit):Option ZF :=
 (A3 p0.2.2.2.2.2.1).bind fun y1 =>
 (BF (p0.2.2.2.2.2.2.1,p0.2.2.2.2.2.2.2.1,p0.2.2.2.2.2.2.2.2.1,p0.2.2.2.2.2.2.2.2.2.1,())).bind fun y2 =>
 (Jd p0.2.2.2.2.2.2.2.2.2.2.1).bind fun y3 =>
 some ((),((p0.1,p0.2.1,p0.2.2.1,p0.2.2.2.1,p0.2.2.2.2.1,y1.2.1.1,y2.2.1.1,y2.2.1.2.1,y2.2.1.2.2.1,y2.2.1.2.2.2.1,y3.2.1.1,()),()))
def abi:Su:=fU [.c true [.str,ah,ah,ah,ah,bB,ah,ah,q3,q3,bU]] Zx fun x=>Of x.1
theorem Sk:aw Tryz.prog 106 abi :=
 fq (ac Ot (ac HL (ac Td an))) Tryz.f106
def qj(_:Unit)(t10:List gL)(t11 t12:Int)(b4 b5:(List gL)×Unit):Rd (Unit×(List gL)×Int×Int×Y5×Y5×Unit) Unit :=
 cond (aD t12 t11) (
 cond (aZ t12 t10) (
 (Of (gt d94 t10 t12)).bind fun y1 =>
 cond (bj 160 b5.1 [y1.2.1]) (
 eA ((),t10,t11,(ak .i64 t12 1),b4,((fy b5.1 [y1.2.1]),()),())
 ) none
 ) none
 ) (
 eB ((),t10,t11,t12,b4,b5,())
 )
def Ov:=cu6 (aq (J7 qj))
def Wr(p0:(List gL)×Unit):Option XV :=
 (Ov () p0.1 (ae p0.1) 0 ([],()) ([],())).bind (Sum.elim (fun y1 =>
 some ((),(y1.2.2.2.2.2.1,()))
 ) (fun _ =>
 none
 ))
def ad3:Su:=fU [.c true [lr],.fn 106 []] [(true,[lr])] fun x=>Wr x.1
theorem XF:aw Tryz.prog 105 ad3 :=
 fl (ac Sk an) [] [(0,⟨[.fn 1 106 [],.d 10 lr,.d 11 ah,.d 12 ah,.box 4 [(true,lr)],.box 5 [(true,lr)]],aq (J7 qj)⟩)] [] Tryz.f105 (lp [0] (sc dM sn))
def Hg(p0:(List gL)×Unit):Option XV :=
 (Wr p0).bind fun y1 =>
 some ((),(y1.2.1,()))
def s58:Su:=fU [.c true [lr]] [(true,[lr])] fun x=>Hg x.1
theorem KF:aw Tryz.prog 58 s58 :=
 fq (ac XF an) Tryz.f58
def W8(p0:S8):Option Au :=
 (vD p0 4).bind fun y1 =>
 cond (!y1.2.1.1) (
 c6
 ) (
 cond (aZ 2 p0) (
 let u1:=(et p0 2)
 cond (aj (dP (ba .u8 u1 48) 2) 1) (
 c6
 ) (
 cond (ea 0 2 p0) (
 cond (aZ 2 p0) (
 let u2:=(cW .i32 (ak .u8 u1 1))
 cond (Hn u2) (
 let u3:=(sub p0 0 2)
 let u4:=(W7 u2)
 cond (iJ u3 u4) (
 let u5:=(ae p0)
 cond (ea 3 u5 p0) (
 let u6:=(rN u3 u4)
 let u7:=(sub p0 3 u5)
 cond (iJ u6 u7) (
 zR (rN u6 u7)
 ) none
 ) none
 ) none
 ) none
 ) none
 ) none
 )
 ) none
 )
def s60:Su:=fU [.c false [.str]] BQ fun x=>W8 x.1.1
theorem OB:aw Tryz.prog 60 s60 :=
 fq (ac G5 an) Tryz.f60
def U2  : Option Xn :=
 c29
def adU:Su:=fU [] [(false,[.sl 9 kk9])] fun x=>U2 
theorem aar:aw Tryz.prog 199 adU :=
 fq an Tryz.f199
def H7(p0:Int):Option Au :=
 (gY p0 0 10).bind fun y1 =>
 cond (!y1.2.1.1) (
 c6
 ) (
 (U2).bind fun y2 =>
 cond (aZ p0 y2.2.1.1) (
 some ((),((gt d9 y2.2.1.1 p0),()))
 ) none
 )
def abF:Su:=fU [.c false [ah]] BQ fun x=>H7 x.1.1
theorem SA:aw Tryz.prog 110 abF :=
 fq (ac iZ (ac aar an)) Tryz.f110
def qt(t6:List eX)(t7 t8:Int)(b1:S8×(List eX)×Unit):Rd ((List eX)×Int×Int×vn×Unit) Y2 :=
 cond (aD t8 t7) (
 cond (aZ t8 t6) (
 let u1:=(gt d117 t6 t8)
 (rL u1.1 u1.2.1).bind fun y1 =>
 cond (!y1.2.1.1) (
 eC (false,())
 ) (
 cond (aD 0 t8) (
 let u2:=(ba .i64 t8 1)
 cond (aZ u2 b1.2.1) (
 cond (bT u1.1 (gt d117 b1.2.1 u2).1) (
 eC (false,())
 ) (
 eA (t6,t7,(ak .i64 t8 1),b1,())
 )
 ) none
 ) (
 eA (t6,t7,(ak .i64 t8 1),b1,())
 )
 )
 ) none
 ) (
 eB (t6,t7,t8,b1,())
 )
def FK:=pd (aq (dJ qt))
def D0(p0:S8×(List eX)×Unit):Option gQ :=
 (FK p0.2.1 (ae p0.2.1) 0 p0).bind (Sum.elim (fun y1 =>
 (vD y1.2.2.2.1.1 4).bind fun y2 =>
 some ((),(y2.2.1,()))
 ) (fun y1 =>
 some ((),(y1,()))
 ))
def ab6:Su:=fU [.c true [.str,dS]] ic fun x=>D0 x.1
theorem Gu:aw Tryz.prog 111 ab6 :=
 fl (ac GV (ac G5 an)) [.d 2 .bool] [(0,⟨[.d 6 dS,.d 7 ah,.d 8 ah,.box 1 [(false,.str),(false,dS)]],aq (dJ qt)⟩)] [] Tryz.f111 (lp [0] (sc dM sn))
def g61(p0:S8)(p1:Int):Option ZC :=
 (W8 p0).bind fun y1 =>
 (H7 p1).bind fun y2 =>
 (D0 (y1.2.1.1,[(39,y2.2.1.1,())],())).bind fun y3 =>
 cond (!y3.2.1.1) (
 Pg
 ) (
 some ((),((y1.2.1.1,[(39,y2.2.1.1,())],()),(true,()),()))
 )
def s61:Su:=fU [.c false [.str],.c false [ah]] [(true,[.str,dS]),(false,[.bool])] fun x=>g61 x.1.1 x.2.1.1
theorem WG:aw Tryz.prog 61 s61 :=
 fq (ac OB (ac SA (ac Gu an))) Tryz.f61
def rr(t0:S8)(t4:List R5)(t5:Int):Rd (S8×(List R5)×Int×Unit) Unit :=
 cond (aD t5 (ae t0)) (
 cond (aZ t5 t0) (
 let u1:=(ak .i64 t5 1)
 cond (aZ u1 t0) (
 cond (bj 1 t4 [((OP .u8 (Rx .u8 (ba .u8 (et t0 t5) 48) 4) (ba .u8 (et t0 u1) 48)),())]) (
 eA (t0,(fy t4 [((OP .u8 (Rx .u8 (ba .u8 (et t0 t5) 48) 4) (ba .u8 (et t0 u1) 48)),())]),(ak .i64 t5 2),())
 ) none
 ) none
 ) none
 ) (
 eB (t0,t4,t5,())
 )
def Fh:=pP (aq (fY rr))
def Bm(p0:S8):Option J2 :=
 (tO p0).bind fun y1 =>
 let u1:=(ae p0)
 cond (cond (!y1.2.1.1) true (aD 38 u1)) (
 c7
 ) (
 cond (aj (dP u1 2) 1) (
 cond (iJ [48] p0) (
 (Fh (rN [48] p0) [] 0).bind (Sum.elim (fun y2 =>
 some ((),((y2.2.1,()),(true,()),()))
 ) (fun _ =>
 none
 ))
 ) none
 ) (
 (Fh p0 [] 0).bind (Sum.elim (fun y2 =>
 some ((),((y2.2.1,()),(true,()),()))
 ) (fun _ =>
 none
 ))
 )
 )
def acv:Su:=fU [.c false [.str]] OK fun x=>Bm x.1.1
theorem MX:aw Tryz.prog 113 acv :=
 fl (ac yf an) [] [(0,⟨[.d 0 .str,.own 4 q5,.d 5 ah],aq (fY rr)⟩)] [] Tryz.f113 (lp [0] (sc dM sn))
def qN(t3:List R5)(t7:List R3)(t8 t9:Int):Rd ((List R5)×(List R3)×Int×Int×Unit) Unit :=
 cond (aD t9 t8) (
 cond (aZ t9 t7) (
 (gY (gt d3 t7 t9).1 1 64).bind fun y1 =>
 cond y1.2.1.1 (
 let u1:=(ba .i64 (gt d3 t7 t9).1 1)
 let u2:=(jr .i64 u1 8)
 cond (aZ u2 t3) (
 let u3:=(dP u1 8)
 cond (bT 0 u3) (
 cond (aZ u2 t3) (
 let u4:=(ak .i64 t9 1)
 eA ((cO t3 u2 ((OP .u8 (gt d5 t3 u2).1 (pI .u8 128 u3)),())),t7,t8,u4,())
 ) none
 ) none
 ) none
 ) (
 let u1:=(ak .i64 t9 1)
 eA (t3,t7,t8,u1,())
 )
 ) none
 ) (
 eB (t3,t7,t8,t9,())
 )
def Vx:=pd (aq (dJ qN))
def BS(p0:List R3):Option YS :=
 (Vx (vE d5 8) p0 (ae p0) 0).bind (Sum.elim (fun y1 =>
 zR y1.1
 ) (fun _ =>
 none
 ))
def abU:Su:=fU [.c false [q3]] Xb fun x=>BS x.1.1
theorem aaz:aw Tryz.prog 114 abU :=
 fl (ac iZ an) [] [(0,⟨[.own 3 q5,.d 7 q3,.d 8 ah,.d 9 ah],aq (dJ qN)⟩)] [] Tryz.f114 (lp [0] (sc dM sn))
def VQ(p0:Int):Option Au:=Gi p0
def abC:Su:=fU [.c false [ah]] BQ fun x=>VQ x.1.1
theorem ZM:aw Tryz.prog 265 abC:=QP yl rfl (fn:=Tryz.f265) (c:=ar Tryz.f265) (by kernel_rfl) (by kernel_rfl) (by kernel_rfl)
def E5(p0:S8)(p1:Int):Option Au:=po p0 p1
def aei:Su:=fU [.c false [.str],.c false [ah]] BQ fun x=>E5 x.1.1 x.2.1.1
theorem R6:aw Tryz.prog 255 aei:=I8 yV sW rfl (fn:=Tryz.f255) (c:=ar Tryz.f255) (by kernel_rfl) (by kernel_rfl) (by kernel_rfl)
def IY(p0 p1:Int):Option Au :=
 (VQ p0).bind fun y1 =>
 cond (aD p0 0) (
 c6
 ) (
 (gY p1 1 18).bind fun y2 =>
 let u1:=(ae y1.2.1.1)
 cond (cond (!y2.2.1.1) true (aD p1 u1)) (
 c6
 ) (
 (E5 [48] (ba .i64 p1 u1)).bind fun y3 =>
 cond (iJ y3.2.1.1 y1.2.1.1) (
 zR (rN y3.2.1.1 y1.2.1.1)
 ) none
 )
 )
def acO:Su:=fU [.c false [ah],.c false [ah]] BQ fun x=>IY x.1.1 x.2.1.1
theorem Sd:aw Tryz.prog 217 acO :=
 fq (ac iZ (ac ZM (ac R6 an))) Tryz.f217
def Cv(p0 p1:Int):Option J2 :=
 (gY p1 2 3).bind fun y1 =>
 cond (!y1.2.1.1) (
 c7
 ) (
 (IY p0 p1).bind fun y2 =>
 (Bm y2.2.1.1).bind fun y3 =>
 some ((),(y3.2.1,y3.2.2.1,()))
 )
def abQ:Su:=fU [.c false [ah],.c false [ah]] OK fun x=>Cv x.1.1 x.2.1.1
theorem XP:aw Tryz.prog 200 abQ :=
 fq (ac iZ (ac MX (ac Sd an))) Tryz.f200
def Ko(p0:Int)(p1:S8):Option J2 :=
 (rL p0 p1).bind fun y1 =>
 cond (!y1.2.1.1) (
 c7
 ) (
 (A5 p0).bind fun y2 =>
 cond (cond (aj y2.2.1.1 1) true (aj y2.2.1.1 3)) (
 (Bm p1).bind fun y3 =>
 let u1:=(cond (aj y2.2.1.1 1) true (aj y2.2.1.1 2))
 cond u1 (
 some ((),(y3.2.1,(true,()),()))
 ) (
 let u2:=(B9 p0)
 Option.bind u2 fun y4 =>
 let u3:=(ae p1)
 (Cv u3 y4.2.1.1).bind fun y5 =>
 cond (bj 1 y5.2.1.1 y3.2.1.1) (
 some ((),(((fy y5.2.1.1 y3.2.1.1),()),(true,()),()))
 ) none
 )
 ) (
 let u1:=(cond (aj y2.2.1.1 1) true (aj y2.2.1.1 2))
 cond u1 (
 let u2:=(bytesOf p1)
 some ((),((u2,()),(true,()),()))
 ) (
 let u2:=(B9 p0)
 Option.bind u2 fun y3 =>
 let u3:=(ae p1)
 (Cv u3 y3.2.1.1).bind fun y4 =>
 let u4:=(bytesOf p1)
 cond (bj 1 y4.2.1.1 u4) (
 some ((),(((fy y4.2.1.1 u4),()),(true,()),()))
 ) none
 )
 )
 )
def abX:Su:=fU [.c false [ah],.c false [.str]] OK fun x=>Ko x.1.1 x.2.1.1
theorem aaH:aw Tryz.prog 112 abX :=
 fq (ac C3 (ac RI (ac GV (ac MX (ac XP an))))) Tryz.f112
def yi(t4 t5:List R3)(t6:List R5)(t20:List eX)(t21 t22:Int)(b1:S8×(List eX)×Unit):Rd ((List R3)×(List R3)×(List R5)×(List eX)×Int×Int×vn×Unit) Unit :=
 cond (aD t22 t21) (
 cond (aZ t22 t20) (
 let u1:=(gt d117 t20 t22)
 cond (aD 64 u1.1) (
 cond (bj 8 t5 [((ba .i64 u1.1 64),())]) (
 let u2:=(Ko u1.1 u1.2.1)
 Option.bind u2 fun y1 =>
 let u3:=(bj 1 t6 y1.2.1.1)
 cond u3 (
 let u4:=(fy t6 y1.2.1.1)
 let u5:=(ak .i64 t22 1)
 eA (t4,(fy t5 [((ba .i64 u1.1 64),())]),u4,t20,t21,u5,b1,())
 ) none
 ) none
 ) (
 cond (bj 8 t4 [(u1.1,())]) (
 let u2:=(Ko u1.1 u1.2.1)
 Option.bind u2 fun y1 =>
 let u3:=(bj 1 t6 y1.2.1.1)
 cond u3 (
 let u4:=(fy t6 y1.2.1.1)
 let u5:=(ak .i64 t22 1)
 eA ((fy t4 [(u1.1,())]),t5,u4,t20,t21,u5,b1,())
 ) none
 ) none
 )
 ) none
 ) (
 eB (t4,t5,t6,t20,t21,t22,b1,())
 )
def RP:=cu7 (aq (Ft yi))
def g62(p0:S8×(List eX)×Unit):Option J2 :=
 (D0 p0).bind fun y1 =>
 cond (!y1.2.1.1) (
 c7
 ) (
 (RP [] [] [] p0.2.1 (ae p0.2.1) 0 p0).bind (Sum.elim (fun y2 =>
 (Bm y2.2.2.2.2.2.2.1.1).bind fun y3 =>
 cond (aD 0 (ae y2.2.1)) (
 cond (bj 8 y2.1 [(1,())]) (
 (BS (fy y2.1 [(1,())])).bind fun y4 =>
 let u1:=(bj 1 y3.2.1.1 y4.2.1.1)
 cond u1 (
 (BS y2.2.1).bind fun y5 =>
 let u2:=(fy y3.2.1.1 y4.2.1.1)
 cond (bj 1 u2 y5.2.1.1) (
 let u3:=(fy u2 y5.2.1.1)
 cond (bj 1 u3 y2.2.2.1) (
 some ((),(((fy u3 y2.2.2.1),()),(true,()),()))
 ) none
 ) none
 ) none
 ) none
 ) (
 (BS y2.1).bind fun y4 =>
 let u1:=(bj 1 y3.2.1.1 y4.2.1.1)
 cond u1 (
 let u2:=(fy y3.2.1.1 y4.2.1.1)
 cond (bj 1 u2 y2.2.2.1) (
 some ((),(((fy u2 y2.2.2.1),()),(true,()),()))
 ) none
 ) none
 )
 ) (fun _ =>
 none
 ))
 )
def s62:Su:=fU [.c true [.str,dS]] OK fun x=>g62 x.1
theorem Rh:aw Tryz.prog 62 s62 :=
 fl (ac Gu (ac MX (ac aaz (ac aaH an)))) [] [(0,⟨[.own 4 q3,.own 5 q3,.own 6 q5,.d 20 dS,.d 21 ah,.d 22 ah,.box 1 [(false,.str),(false,dS)]],aq (Ft yi)⟩)] [] Tryz.f62 (lp [0] (sc dM sn))
def UD(p0:S8):Option gQ :=
 zR (cond (cond (bw p0 [48,49,48,48]) true (bw p0 [48,50,48,48])) true (bw p0 [48,50,50,48]))
def aca:Su:=fU [.c false [.str]] ic fun x=>UD x.1.1
theorem aam:aw Tryz.prog 115 aca :=
 fq an Tryz.f115
def qY(t1:Int)(t9:List eX)(t10 t11:Int):Rd (Int×(List eX)×Int×Int×Unit) (S8×Bool×Unit) :=
 cond (aD t11 t10) (
 cond (aZ t11 t9) (
 let u1:=(gt d117 t9 t11)
 cond (aj u1.1 t1) (
 eC (u1.2.1,true,())
 ) (
 eA (t1,t9,t10,(ak .i64 t11 1),())
 )
 ) none
 ) (
 eB (t1,t9,t10,t11,())
 )
def L9:=pd (aq (dJ qY))
def Em(p0:S8×(List eX)×Unit)(p1:Int):Option (Unit×(Y9×Y2×Unit)) :=
 (L9 p1 p0.2.1 (ae p0.2.1) 0).bind (Sum.elim (fun _ =>
 some ((),(([],()),(false,()),()))
 ) (fun y1 =>
 some ((),((y1.1,()),(y1.2.1,()),()))
 ))
def adg:Su:=fU [.c true [.str,dS],.c false [ah]] [(false,[.str]),(false,[.bool])] fun x=>Em x.1 x.2.1.1
theorem T1:aw Tryz.prog 116 adg :=
 fl an [.d 4 .str,.d 5 .bool] [(0,⟨[.d 1 ah,.d 9 dS,.d 10 ah,.d 11 ah],aq (dJ qY)⟩)] [] Tryz.f116 (lp [0] (sc dM sn))
def QT  : Option (Unit×(((List HZ)×Unit)×Unit)) :=
 zR [([48,49,48,48],[48,48],[97,117,116,104],[(4,()),(14,()),(38,())],()),([48,49,48,48],[48,50],[109,111,114,101],[(4,()),(38,())],()),([48,50,50,48],[48,49],[112,97,114,116],[(4,()),(38,())],()),([48,50,50,48],[48,48],[102,105,110,97,108],[(4,()),(38,())],()),([48,50,50,48],[50,48],[102,114,101,101],[(38,())],()),([48,50,48,48],[52,48],[109,111,118,101],[(38,()),(103,())],()),([48,49,48,48],[51,49],[97,115,107],[],()),([48,50,48,48],[57,48],[115,119,101,101,112],[],())]
def adQ:Su:=⟨[],[(false,[.sl 146 Gk])],false,.inl fun x=>QT ⟩
theorem T0:aw Tryz.prog 118 adQ :=
 fl an [] [] [999999] Tryz.f118 dM
def WD(p0:S8×S8×S8×(List R3)×Unit)(p1:S8×(List eX)×Unit)(p2:S8×Unit):Option gQ :=
 cond (bw p0.1 p1.1) (
 cond (ea 0 2 p2.1) (
 zR (bw p0.2.1 (sub p2.1 0 2))
 ) none
 ) (
 c0
 )
def adS:Su:=fU [.c true [.str,.str,.str,q3],.pt [.str,dS],.pt [.str]] ic fun x=>WD x.1 x.2.1 x.2.2.1
theorem YJ:aw Tryz.prog 119 adS :=
 fq an Tryz.f119
def pX(t0:List HZ)(f1:vn×Y9×Unit)(t7 t8:Int):Rd ((List HZ)×(vn×Y9×Unit)×Int×Int×Unit) Y1 :=
 cond (aD t8 t7) (
 cond (aZ t8 t0) (
 (WD (gt d146 t0 t8) f1.1 f1.2.1).bind fun y1 =>
 cond y1.2.1.1 (
 eC (t8,())
 ) (
 eA (t0,f1,t7,(ak .i64 t8 1),())
 )
 ) none
 ) (
 eB (t0,f1,t7,t8,())
 )
def VA:=pd (aq (dJ pX))
def QQ(p0:List HZ)(c1_0:S8×(List eX)×Unit)(c1_1:S8×Unit):Option ib :=
 (VA p0 (c1_0,c1_1,()) (ae p0) 0).bind (Sum.elim (fun _ =>
 c2
 ) (fun y1 =>
 some ((),(y1,()))
 ))
def ael:Su:=fU [.c false [.sl 146 Gk],.fn 119 [.p [.str,dS],.p [.str]]] iX fun x=>QQ x.1.1 x.2.1.1 x.2.1.2.1
theorem Zw:aw Tryz.prog 117 ael :=
 fl (ac YJ an) [.d 4 ah] [(0,⟨[.d 0 (.sl 146 Gk),.fn 1 119 [.p [.str,dS],.p [.str]],.d 7 ah,.d 8 ah],aq (dJ pX)⟩)] [] Tryz.f117 (lp [0] (sc dM sn))
def AU(p0:Int):Option (Unit×(HZ×Unit)) :=
 (gY p0 1 8).bind fun y1 =>
 cond (!y1.2.1.1) (
 some ((),(([],[],[],[],()),()))
 ) (
 (QT).bind fun y2 =>
 let u1:=(ba .i64 p0 1)
 cond (aZ u1 y2.2.1.1) (
 some ((),((gt d146 y2.2.1.1 u1),()))
 ) none
 )
def adL:Su:=⟨[.c false [ah]],[(true,[.str,.str,.str,q3])],false,.inl fun x=>AU x.1.1⟩
theorem KD:aw Tryz.prog 120 adL :=
 fl (ac iZ (ac T0 an)) [] [] [999999] Tryz.f120 dM
def qV(t0:List R3)(t1 t7 t8:Int):Rd ((List R3)×Int×Int×Int×Unit) Y1 :=
 cond (aD t8 t7) (
 cond (aZ t8 t0) (
 cond (aj t1 (gt d3 t0 t8).1) (
 eC (t8,())
 ) (
 eA (t0,t1,t7,(ak .i64 t8 1),())
 )
 ) none
 ) (
 eB (t0,t1,t7,t8,())
 )
def No:=pd (aq (dJ qV))
def UI(p0:List R3)(p1:Int):Option ib :=
 (No p0 p1 (ae p0) 0).bind (Sum.elim (fun _ =>
 c2
 ) (fun y1 =>
 some ((),(y1,()))
 ))
def aea:Su:=fU [.c false [q3],.c false [ah]] iX fun x=>UI x.1.1 x.2.1.1
theorem aaL:aw Tryz.prog 285 aea :=
 fl an [.d 4 ah] [(0,⟨[.d 0 q3,.d 1 ah,.d 7 ah,.d 8 ah],aq (dJ qV)⟩)] [] Tryz.f285 (lp [0] (sc dM sn))
def QE(p0:List R3)(p1:Int):Option gQ :=
 (UI p0 p1).bind fun y1 =>
 zR (bT 0 y1.2.1.1)
def acV:Su:=fU [.c false [q3],.c false [ah]] ic fun x=>QE x.1.1 x.2.1.1
theorem Xv:aw Tryz.prog 254 acV :=
 fq (ac aaL an) Tryz.f254
def l7(p0 p1:Int):Option gQ :=
 (AU p0).bind fun y1 =>
 (QE y1.2.1.2.2.2.1 p1).bind fun y2 =>
 some ((),(y2.2.1,()))
def abW:Su:=fU [.c false [ah],.c false [ah]] ic fun x=>l7 x.1.1 x.2.1.1
theorem Yq:aw Tryz.prog 203 abW :=
 fq (ac KD (ac Xv an)) Tryz.f203
def JA(p0:Int×S8×S8×S8×S8×S8×Int×Int×Unit):Option gQ :=
 (AU p0.1).bind fun y1 =>
 cond (cond (bw y1.2.1.2.2.1 []) true (!(bw p0.2.2.2.2.2.1 y1.2.1.1))) (
 c0
 ) (
 (uC p0.2.1).bind fun y2 =>
 cond (!y2.2.1.1) (
 c0
 ) (
 (vD p0.2.2.2.2.1 6).bind fun y3 =>
 cond (!y3.2.1.1) (
 c0
 ) (
 (l7 p0.1 38).bind fun y4 =>
 cond y4.2.1.1 (
 (Dy p0.2.2.2.1).bind fun y5 =>
 let u1:=(l7 p0.1 4)
 Option.bind u1 fun y6 =>
 cond y6.2.1.1 (
 let u2:=(gY p0.2.2.2.2.2.2.1 0 999999999999)
 Option.bind u2 fun y7 =>
 let u3:=(l7 p0.1 14)
 Option.bind u3 fun y8 =>
 cond y8.2.1.1 (
 let u4:=(gY p0.2.2.2.2.2.2.2.1 0 9999)
 Option.bind u4 fun y9 =>
 let u5:=(l7 p0.1 103)
 Option.bind u5 fun y10 =>
 cond y10.2.1.1 (
 let u6:=(uC p0.2.2.1)
 Option.bind u6 fun y11 =>
 let u7:=(cond y5.2.1.1 y7.2.1.1 false)
 let u8:=(cond u7 y9.2.1.1 false)
 zR (cond u8 y11.2.1.1 false)
 ) (
 let u6:=(cond y5.2.1.1 y7.2.1.1 false)
 let u7:=(cond u6 y9.2.1.1 false)
 let u8:=(bw p0.2.2.1 [])
 zR (cond u7 u8 false)
 )
 ) (
 let u4:=(l7 p0.1 103)
 Option.bind u4 fun y9 =>
 cond y9.2.1.1 (
 let u5:=(uC p0.2.2.1)
 Option.bind u5 fun y10 =>
 let u6:=(cond y5.2.1.1 y7.2.1.1 false)
 let u7:=(cond u6 (aj p0.2.2.2.2.2.2.2.1 0) false)
 zR (cond u7 y10.2.1.1 false)
 ) (
 let u5:=(cond y5.2.1.1 y7.2.1.1 false)
 let u6:=(cond u5 (aj p0.2.2.2.2.2.2.2.1 0) false)
 let u7:=(bw p0.2.2.1 [])
 zR (cond u6 u7 false)
 )
 )
 ) (
 let u2:=(l7 p0.1 14)
 Option.bind u2 fun y7 =>
 cond y7.2.1.1 (
 let u3:=(gY p0.2.2.2.2.2.2.2.1 0 9999)
 Option.bind u3 fun y8 =>
 let u4:=(l7 p0.1 103)
 Option.bind u4 fun y9 =>
 cond y9.2.1.1 (
 let u5:=(uC p0.2.2.1)
 Option.bind u5 fun y10 =>
 let u6:=(cond y5.2.1.1 (aj p0.2.2.2.2.2.2.1 0) false)
 let u7:=(cond u6 y8.2.1.1 false)
 zR (cond u7 y10.2.1.1 false)
 ) (
 let u5:=(cond y5.2.1.1 (aj p0.2.2.2.2.2.2.1 0) false)
 let u6:=(cond u5 y8.2.1.1 false)
 let u7:=(bw p0.2.2.1 [])
 zR (cond u6 u7 false)
 )
 ) (
 let u3:=(l7 p0.1 103)
 Option.bind u3 fun y8 =>
 cond y8.2.1.1 (
 let u4:=(uC p0.2.2.1)
 Option.bind u4 fun y9 =>
 let u5:=(cond y5.2.1.1 (aj p0.2.2.2.2.2.2.1 0) false)
 let u6:=(cond u5 (aj p0.2.2.2.2.2.2.2.1 0) false)
 zR (cond u6 y9.2.1.1 false)
 ) (
 let u4:=(cond y5.2.1.1 (aj p0.2.2.2.2.2.2.1 0) false)
 let u5:=(cond u4 (aj p0.2.2.2.2.2.2.2.1 0) false)
 let u6:=(bw p0.2.2.1 [])
 zR (cond u5 u6 false)
 )
 )
 )
 ) (
 let u1:=(l7 p0.1 4)
 Option.bind u1 fun y5 =>
 cond y5.2.1.1 (
 let u2:=(gY p0.2.2.2.2.2.2.1 0 999999999999)
 Option.bind u2 fun y6 =>
 let u3:=(l7 p0.1 14)
 Option.bind u3 fun y7 =>
 cond y7.2.1.1 (
 let u4:=(gY p0.2.2.2.2.2.2.2.1 0 9999)
 Option.bind u4 fun y8 =>
 let u5:=(l7 p0.1 103)
 Option.bind u5 fun y9 =>
 cond y9.2.1.1 (
 let u6:=(uC p0.2.2.1)
 Option.bind u6 fun y10 =>
 let u7:=(bw p0.2.2.2.1 [])
 let u8:=(cond u7 y6.2.1.1 false)
 let u9:=(cond u8 y8.2.1.1 false)
 zR (cond u9 y10.2.1.1 false)
 ) (
 let u6:=(bw p0.2.2.2.1 [])
 let u7:=(cond u6 y6.2.1.1 false)
 let u8:=(cond u7 y8.2.1.1 false)
 let u9:=(bw p0.2.2.1 [])
 zR (cond u8 u9 false)
 )
 ) (
 let u4:=(l7 p0.1 103)
 Option.bind u4 fun y8 =>
 cond y8.2.1.1 (
 let u5:=(uC p0.2.2.1)
 Option.bind u5 fun y9 =>
 let u6:=(bw p0.2.2.2.1 [])
 let u7:=(cond u6 y6.2.1.1 false)
 let u8:=(cond u7 (aj p0.2.2.2.2.2.2.2.1 0) false)
 zR (cond u8 y9.2.1.1 false)
 ) (
 let u5:=(bw p0.2.2.2.1 [])
 let u6:=(cond u5 y6.2.1.1 false)
 let u7:=(cond u6 (aj p0.2.2.2.2.2.2.2.1 0) false)
 let u8:=(bw p0.2.2.1 [])
 zR (cond u7 u8 false)
 )
 )
 ) (
 let u2:=(l7 p0.1 14)
 Option.bind u2 fun y6 =>
 cond y6.2.1.1 (
 let u3:=(gY p0.2.2.2.2.2.2.2.1 0 9999)
 Option.bind u3 fun y7 =>
 let u4:=(l7 p0.1 103)
 Option.bind u4 fun y8 =>
 cond y8.2.1.1 (
 let u5:=(uC p0.2.2.1)
 Option.bind u5 fun y9 =>
 let u6:=(bw p0.2.2.2.1 [])
 let u7:=(cond u6 (aj p0.2.2.2.2.2.2.1 0) false)
 let u8:=(cond u7 y7.2.1.1 false)
 zR (cond u8 y9.2.1.1 false)
 ) (
 let u5:=(bw p0.2.2.2.1 [])
 let u6:=(cond u5 (aj p0.2.2.2.2.2.2.1 0) false)
 let u7:=(cond u6 y7.2.1.1 false)
 let u8:=(bw p0.2.2.1 [])
 zR (cond u7 u8 false)
 )
 ) (
 let u3:=(l7 p0.1 103)
 Option.bind u3 fun y7 =>
 cond y7.2.1.1 (
 let u4:=(uC p0.2.2.1)
 Option.bind u4 fun y8 =>
 let u5:=(bw p0.2.2.2.1 [])
 let u6:=(cond u5 (aj p0.2.2.2.2.2.2.1 0) false)
 let u7:=(cond u6 (aj p0.2.2.2.2.2.2.2.1 0) false)
 zR (cond u7 y8.2.1.1 false)
 ) (
 let u4:=(bw p0.2.2.2.1 [])
 let u5:=(cond u4 (aj p0.2.2.2.2.2.2.1 0) false)
 let u6:=(cond u5 (aj p0.2.2.2.2.2.2.2.1 0) false)
 let u7:=(bw p0.2.2.1 [])
 zR (cond u6 u7 false)
 )
 )
 )
 )
 )
 )
 )
def YW:Su:=fU [.c true [ah,.str,.str,.str,.str,.str,ah,ah]] ic fun x=>JA x.1
theorem Lg:aw Tryz.prog 123 YW :=
 fq (ac iZ (ac Tb (ac wq (ac G5 (ac KD (ac Yq an)))))) Tryz.f123
end
end Go.Av
