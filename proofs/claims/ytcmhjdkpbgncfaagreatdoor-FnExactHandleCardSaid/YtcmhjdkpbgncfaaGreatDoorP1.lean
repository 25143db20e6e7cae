/- FnExactHandle, a part. -/
import Derived.Test.YtcmhjdkpbgncfaaGreatDoorP1a
set_option maxRecDepth 100000
namespace Go.Av
open Go.Proofs
set_option maxHeartbeats 4000000
noncomputable section
def By(t0:S8)(t1:Int):Rd ZQ Unit :=
 let u1:=(ae t0)
 cond (aD 0 u1) (
 let u2:=(ba .i64 u1 1)
 cond (aZ u2 t0) (
 cond (aj (et t0 u2) t1) (
 cond (ea 0 u2 t0) (
 eA ((sub t0 0 u2),t1,())
 ) none
 ) (
 eB (t0,t1,())
 )
 ) none
 ) (
 eB (t0,t1,())
 )
def KG:=OO (aq (x3 By))
def My(p0:S8)(p1:Int):Option Au :=
 (KG p0 p1).bind (Sum.elim (fun y1 =>
 zR y1.1
 ) (fun _ =>
 none
 ))
def aee:Su:=fU [.c false [.str],.c false yM] BQ fun x=>My x.1.1 x.2.1.1
theorem ZL:aw Tryz.prog 250 aee :=
 fl an [] [(0,⟨[.d 0 .str,.d 1 (.int .u8)],aq (x3 By)⟩)] [] Tryz.f250 (lp [0] (sc dM sn))
def WA(p0 p1:S8):Option Au :=
 cond (cond (bw p0 []) true (bw p1 [])) (
 zR p0
 ) (
 cond (aj (ae p1) 1) (
 cond (aZ 0 p1) (
 let u1:=(et p1 0)
 cond (aD u1 128) (
 cond (aZ 0 p1) (
 (My p0 u1).bind fun y1 =>
 some ((),(y1.2.1,()))
 ) none
 ) (
 none
 )
 ) none
 ) (
 none
 )
 )
def ac4:Su:=fU [.c false [.str],.c false [.str]] BQ fun x=>WA x.1.1 x.2.1.1
theorem X4:aw Tryz.prog 202 ac4 :=
 fq (ac ZL an) Tryz.f202
def Qz(p0:S8):Option Au :=
 (WA p0 [32]).bind fun y1 =>
 some ((),(y1.2.1,()))
def adz:Su:=fU [.c false [.str]] BQ fun x=>Qz x.1.1
theorem Y3:aw Tryz.prog 122 adz :=
 fq (ac X4 an) Tryz.f122
def xQ(t41:List R3)(t42 t43:Int)(b1:S8×(List eX)×Unit)(b2 b6:Int×S8×S8×S8×S8×S8×Int×Int×Unit):Rd ((List R3)×Int×Int×vn×Wq×Wq×Unit) (Int×Wq×Unit) :=
 cond (aD t43 t42) (
 cond (aZ t43 t41) (
 (Em b1 (gt d3 t41 t43).1).bind fun y1 =>
 cond (!y1.2.2.1.1) (
 eC (1,(0,[],[],[],[],[],0,0,()),())
 ) (
 cond (aj (gt d3 t41 t43).1 2) (
 let u1:=(ak .i64 t43 1)
 eA (t41,t42,u1,b1,b2,(b6.1,y1.2.1.1,b6.2.2.1,b6.2.2.2.1,b6.2.2.2.2.1,b6.2.2.2.2.2.1,b6.2.2.2.2.2.2.1,b6.2.2.2.2.2.2.2.1,()),())
 ) (
 cond (aj (gt d3 t41 t43).1 4) (
 let u1:=(EJ y1.2.1.1)
 Option.bind u1 fun y2 =>
 let u2:=(ak .i64 t43 1)
 eA (t41,t42,u2,b1,b2,(b6.1,b6.2.1,b6.2.2.1,b6.2.2.2.1,b6.2.2.2.2.1,b6.2.2.2.2.2.1,y2.2.1.1,b6.2.2.2.2.2.2.2.1,()),())
 ) (
 cond (aj (gt d3 t41 t43).1 11) (
 let u1:=(ak .i64 t43 1)
 eA (t41,t42,u1,b1,b2,(b6.1,b6.2.1,b6.2.2.1,b6.2.2.2.1,y1.2.1.1,b6.2.2.2.2.2.1,b6.2.2.2.2.2.2.1,b6.2.2.2.2.2.2.2.1,()),())
 ) (
 cond (aj (gt d3 t41 t43).1 14) (
 let u1:=(EJ y1.2.1.1)
 Option.bind u1 fun y2 =>
 let u2:=(ak .i64 t43 1)
 eA (t41,t42,u2,b1,b2,(b6.1,b6.2.1,b6.2.2.1,b6.2.2.2.1,b6.2.2.2.2.1,b6.2.2.2.2.2.1,b6.2.2.2.2.2.2.1,y2.2.1.1,()),())
 ) (
 cond (aj (gt d3 t41 t43).1 38) (
 (Qz y1.2.1.1).bind fun y2 =>
 let u1:=(ak .i64 t43 1)
 eA (t41,t42,u1,b1,b2,(b6.1,b6.2.1,b6.2.2.1,y2.2.1.1,b6.2.2.2.2.1,b6.2.2.2.2.2.1,b6.2.2.2.2.2.2.1,b6.2.2.2.2.2.2.2.1,()),())
 ) (
 cond (aj (gt d3 t41 t43).1 103) (
 let u1:=(ak .i64 t43 1)
 eA (t41,t42,u1,b1,b2,(b6.1,b6.2.1,y1.2.1.1,b6.2.2.2.1,b6.2.2.2.2.1,b6.2.2.2.2.2.1,b6.2.2.2.2.2.2.1,b6.2.2.2.2.2.2.2.1,()),())
 ) (
 let u1:=(ak .i64 t43 1)
 eA (t41,t42,u1,b1,b2,b6,())
 )
 )
 )
 )
 )
 )
 )
 ) none
 ) (
 eB (t41,t42,t43,b1,b2,b6,())
 )
def TM:=cu6 (aq (J7 xQ))
def g63(p0:S8×(List eX)×Unit):Option (Unit×(Wq×Y1×Unit)) :=
 (D0 p0).bind fun y1 =>
 cond (!y1.2.1.1) (
 c1
 ) (
 (UD p0.1).bind fun y2 =>
 cond (!y2.2.1.1) (
 c30
 ) (
 (Em p0 3).bind fun y3 =>
 cond (!y3.2.2.1.1) (
 c1
 ) (
 (QT).bind fun y4 =>
 (QQ y4.2.1.1 p0 y3.2.1).bind fun y5 =>
 let u1:=(ak .i64 1 y5.2.1.1)
 (AU u1).bind fun y6 =>
 cond (bj 8 [(2,()),(11,())] y6.2.1.2.2.2.1) (
 let u2:=(fy [(2,()),(11,())] y6.2.1.2.2.2.1)
 (TM u2 (ae u2) 0 p0 (0,[],[],[],[],[],0,0,()) (u1,[],[],[],[],p0.1,0,0,())).bind (Sum.elim (fun y7 =>
 (JA y7.2.2.2.2.2.1).bind fun y8 =>
 cond (!y8.2.1.1) (
 c1
 ) (
 some ((),(y7.2.2.2.2.2.1,(0,()),()))
 )
 ) (fun y7 =>
 some ((),(y7.2.1,(y7.1,()),()))
 ))
 ) none
 )
 )
 )
def s63:Su:=fU [.c true [.str,dS]] [(true,[ah,.str,.str,.str,.str,.str,ah,ah]),(false,[ah])] fun x=>g63 x.1
theorem U6:aw Tryz.prog 63 s63 :=
 fl (ac TY (ac Gu (ac aam (ac T1 (ac T0 (ac Zw (ac KD (ac Lg (ac Y3 an))))))))) [.d 3 ah,.box 2 [(false,.int .i64),(false,.str),(false,.str),(false,.str),(false,.str),(false,.str),(false,.int .i64),(false,.int .i64)]] [(0,⟨[.own 41 q3,.d 42 ah,.d 43 ah,.box 1 [(false,.str),(false,dS)],.box 2 [(false,.int .i64),(false,.str),(false,.str),(false,.str),(false,.str),(false,.str),(false,.int .i64),(false,.int .i64)],.box 6 [(false,.int .i64),(false,.str),(false,.str),(false,.str),(false,.str),(false,.str),(false,.int .i64),(false,.int .i64)]],aq (J7 xQ)⟩)] [] Tryz.f63 (lp [0] (sc dM sn))
def PN(p0:Int)(p1:S8):Option Au :=
 (KR p0).bind fun y1 =>
 (A5 p0).bind fun y2 =>
 cond (aj y2.2.1.1 1) (
 let u1:=(El (ba .i64 y1.2.1.1 (ae p1)) 0)
 (E5 [48] u1).bind fun y3 =>
 cond (iJ y3.2.1.1 p1) (
 let u2:=(rN y3.2.1.1 p1)
 (rL p0 u2).bind fun y4 =>
 cond (!y4.2.1.1) (
 c6
 ) (
 zR u2
 )
 ) none
 ) (
 cond (aj y2.2.1.1 2) (
 let u1:=(El (ba .i64 y1.2.1.1 (ae p1)) 0)
 (E5 [32] u1).bind fun y3 =>
 cond (iJ p1 y3.2.1.1) (
 let u2:=(rN p1 y3.2.1.1)
 (rL p0 u2).bind fun y4 =>
 cond (!y4.2.1.1) (
 c6
 ) (
 zR u2
 )
 ) none
 ) (
 (rL p0 p1).bind fun y3 =>
 cond (!y3.2.1.1) (
 c6
 ) (
 zR p1
 )
 )
 )
def acA:Su:=fU [.c false [ah],.c false [.str]] BQ fun x=>PN x.1.1 x.2.1.1
theorem Z8:aw Tryz.prog 206 acA :=
 fq (ac C3 (ac Sp (ac GV (ac R6 an)))) Tryz.f206
def Ch(p0:Int)(p1:S8)(p2:S8×(List eX)×Unit):Option ((vn×Unit)×Unit) :=
 cond (bj 24 p2.2.1 [(p0,p1,())]) (
 some (((p2.1,(fy p2.2.1 [(p0,p1,())]),()),()),())
 ) none
def aec:Su:=fU [.c false [ah],.c false [.str],.pw [(false,.str),(true,dS)]] [] fun x=>Ch x.1.1 x.2.1.1 x.2.2.1
theorem aaf:aw Tryz.prog 205 aec :=
 fl an [] [] [2] Tryz.f205 dM
def qu(t1:Int)(t2 t3:S8)(_:Unit)(t36:List R3)(t37 t38:Int)(b4 b8 b10:S8×(List eX)×Unit):Rd (Int×S8×S8×Unit×(List R3)×Int×Int×vn×vn×vn×Unit) Unit :=
 cond (aD t38 t37) (
 cond (aZ t38 t36) (
 (Em b4 (gt d3 t36 t38).1).bind fun y1 =>
 cond (aj (gt d3 t36 t38).1 38) (
 cond (cond (aj t1 0) (!(bw t2 [])) false) (
 (PN 38 t2).bind fun y2 =>
 (Ch 38 y2.2.1.1 b10).bind fun y3 =>
 let u1:=(ak .i64 t38 1)
 eA (t1,t2,t3,(),t36,t37,u1,b4,b8,y3.1.1,())
 ) (
 let u1:=(ak .i64 t38 1)
 eA (t1,t2,t3,(),t36,t37,u1,b4,b8,b10,())
 )
 ) (
 cond (aj (gt d3 t36 t38).1 39) (
 (H7 t1).bind fun y2 =>
 (Ch 39 y2.2.1.1 b10).bind fun y3 =>
 let u1:=(ak .i64 t38 1)
 eA (t1,t2,t3,(),t36,t37,u1,b4,b8,y3.1.1,())
 ) (
 cond (aj (gt d3 t36 t38).1 54) (
 cond (!(bw t3 [])) (
 (Ch 54 t3 b10).bind fun y2 =>
 let u1:=(ak .i64 t38 1)
 eA (t1,t2,t3,(),t36,t37,u1,b4,b8,y2.1.1,())
 ) (
 let u1:=(ak .i64 t38 1)
 eA (t1,t2,t3,(),t36,t37,u1,b4,b8,b10,())
 )
 ) (
 cond y1.2.2.1.1 (
 (Ch (gt d3 t36 t38).1 y1.2.1.1 b10).bind fun y2 =>
 let u1:=(ak .i64 t38 1)
 eA (t1,t2,t3,(),t36,t37,u1,b4,b8,y2.1.1,())
 ) (
 let u1:=(ak .i64 t38 1)
 eA (t1,t2,t3,(),t36,t37,u1,b4,b8,b10,())
 )
 )
 )
 )
 ) none
 ) (
 eB (t1,t2,t3,(),t36,t37,t38,b4,b8,b10,())
 )
def N9:=aba (aq (IT qu))
def P2(p0:S8×(List eX)×Unit)(p1:Int)(p2 p3:S8):Option ZC :=
 (D0 p0).bind fun y1 =>
 cond (!y1.2.1.1) (
 Pg
 ) (
 let u1:=(W8 p0.1)
 Option.bind u1 fun y2 =>
 cond (bw y2.2.1.1 []) (
 Pg
 ) (
 (H7 p1).bind fun y3 =>
 cond (bw y3.2.1.1 []) (
 Pg
 ) (
 Option.bind u1 fun y4 =>
 (N9 p1 p2 p3 () [(2,()),(3,()),(4,()),(7,()),(11,()),(37,()),(38,()),(39,()),(41,()),(49,()),(54,()),(102,()),(103,())] (ae [(2,()),(3,()),(4,()),(7,()),(11,()),(37,()),(38,()),(39,()),(41,()),(49,()),(54,()),(102,()),(103,())]) 0 p0 ([],[],()) (y4.2.1.1,[],())).bind (Sum.elim (fun y5 =>
 (D0 y5.2.2.2.2.2.2.2.2.2.1).bind fun y6 =>
 cond (!y6.2.1.1) (
 Pg
 ) (
 some ((),(y5.2.2.2.2.2.2.2.2.2.1,(true,()),()))
 )
 ) (fun _ =>
 none
 ))
 )
 )
 )
def ab1:Su:=fU [.c true [.str,dS],.c false [ah],.c false [.str],.c false [.str]] [(true,[.str,dS]),(false,[.bool])] fun x=>P2 x.1 x.2.1.1 x.2.2.1.1 x.2.2.2.1.1
theorem aaN:aw Tryz.prog 124 ab1 :=
 fl (ac OB (ac SA (ac Gu (ac T1 (ac Z8 (ac aaf an)))))) [] [(0,⟨[.d 1 ah,.d 2 .str,.d 3 .str,.fr 11 205 10,.own 36 q3,.d 37 ah,.d 38 ah,.box 4 [(false,.str),(false,dS)],.box 8 [(false,.str),(true,dS)],.box 10 [(false,.str),(true,dS)]],aq (IT qu)⟩)] [] Tryz.f124 (lp [0] (sc dM sn))
def RN(p0:S8×(List eX)×Unit)(p1:Int)(p2 p3:S8):Option YS :=
 (P2 p0 p1 p2 p3).bind fun y1 =>
 (g62 y1.2.1).bind fun y2 =>
 some ((),(y2.2.1,()))
def s64:Su:=fU [.c true [.str,dS],.c false [ah],.c false [.str],.c false [.str]] Xb fun x=>RN x.1 x.2.1.1 x.2.2.1.1 x.2.2.2.1.1
theorem Vb:aw Tryz.prog 64 s64 :=
 fq (ac Rh (ac aaN an)) Tryz.f64
def WH(p0:S8×Int×Int×Int×Int×(List bm)×Int×Int×(List R3)×(List R3)×(List bS)×Unit)(p1:S8×Unit):Option gQ :=
 zR (bw p0.1 p1.1)
def adD:Su:=fU [.c true [.str,ah,ah,ah,ah,bB,ah,ah,q3,q3,bU],.pt [.str]] ic fun x=>WH x.1 x.2.1
theorem aaI:aw Tryz.prog 126 adD :=
 fq an Tryz.f126
def qd(t0:List gL)(f1:Y9×Unit)(t7 t8:Int):Rd ((List gL)×(Y9×Unit)×Int×Int×Unit) Y1 :=
 cond (aD t8 t7) (
 cond (aZ t8 t0) (
 (WH (gt d94 t0 t8) f1.1).bind fun y1 =>
 cond y1.2.1.1 (
 eC (t8,())
 ) (
 eA (t0,f1,t7,(ak .i64 t8 1),())
 )
 ) none
 ) (
 eB (t0,f1,t7,t8,())
 )
def Nv:=pd (aq (dJ qd))
def Uq(p0:List gL)(c1_0:S8×Unit):Option ib :=
 (Nv p0 (c1_0,()) (ae p0) 0).bind (Sum.elim (fun _ =>
 c2
 ) (fun y1 =>
 some ((),(y1,()))
 ))
def adq:Su:=fU [.c false [lr],.fn 126 [.p [.str]]] iX fun x=>Uq x.1.1 x.2.1.1
theorem Z5:aw Tryz.prog 125 adq :=
 fl (ac aaI an) [.d 4 ah] [(0,⟨[.d 0 lr,.fn 1 126 [.p [.str]],.d 7 ah,.d 8 ah],aq (dJ qd)⟩)] [] Tryz.f125 (lp [0] (sc dM sn))
def W4(p0:(List gL)×Unit)(p1:S8):Option ib :=
 (Uq p0.1 (p1,())).bind fun y1 =>
 some ((),(y1.2.1,()))
def s65:Su:=fU [.c true [lr],.c false [.str]] iX fun x=>W4 x.1 x.2.1.1
theorem Ll:aw Tryz.prog 65 s65 :=
 fq (ac Z5 an) Tryz.f65
def g66(p0:List bS)(p1 p2:S8):Option J2 :=
 (Oq p0 p1 p2).bind fun y1 =>
 cond (aD y1.2.1.1 0) (
 c7
 ) (
 cond (aZ y1.2.1.1 p0) (
 (FC (gt d100 p0 y1.2.1.1).2.2.1).bind fun y2 =>
 some ((),(y2.2.1,(true,()),()))
 ) none
 )
def s66:Su:=fU [.c false [bU],.c false [.str],.c false [.str]] OK fun x=>g66 x.1.1 x.2.1.1 x.2.2.1.1
theorem Up:aw Tryz.prog 66 s66 :=
 fq (ac Sm (ac Tf an)) Tryz.f66
def Qi(p0:S8×Int×Int×Unit)(p1:Int):Option gQ :=
 zR (aD p1 p0.2.2.1)
def adJ:Su:=fU [.c true [.str,ah,ah],.c false [ah]] ic fun x=>Qi x.1 x.2.1.1
theorem aa8:aw Tryz.prog 268 adJ :=
 fq an Tryz.f268
def Ns(p0:S8×Int×Int×Unit)(p1:Int×Unit):Option gQ :=
 (Qi p0 p1.1).bind fun y1 =>
 zR (!y1.2.1.1)
def aaa:Su:=fU [.c true [.str,ah,ah],.pt [ah]] ic fun x=>Ns x.1 x.2.1
theorem SQ:aw Tryz.prog 267 aaa :=
 fq (ac aa8 an) Tryz.f267
def qR(t0:List bm)(f1:Y1×Unit)(t7 t8:Int):Rd ((List bm)×Y8×Int×Int×Unit) Y1 :=
 cond (aD t8 t7) (
 cond (aZ t8 t0) (
 (Ns (gt d192 t0 t8) f1.1).bind fun y1 =>
 cond y1.2.1.1 (
 eC (t8,())
 ) (
 eA (t0,f1,t7,(ak .i64 t8 1),())
 )
 ) none
 ) (
 eB (t0,f1,t7,t8,())
 )
def J9:=pd (aq (dJ qR))
def Qv(p0:List bm)(c1_0:Int×Unit):Option ib :=
 (J9 p0 (c1_0,()) (ae p0) 0).bind (Sum.elim (fun _ =>
 c2
 ) (fun y1 =>
 some ((),(y1,()))
 ))
def aaA:Su:=fU [.c false [bB],.fn 267 [.p [ah]]] iX fun x=>Qv x.1.1 x.2.1.1
theorem YZ:aw Tryz.prog 256 aaA :=
 fl (ac SQ an) [.d 4 ah] [(0,⟨[.d 0 bB,.fn 1 267 [.p [ah]],.d 7 ah,.d 8 ah],aq (dJ qR)⟩)] [] Tryz.f256 (lp [0] (sc dM sn))
def oA(t0:List bm)(f1:Y1×Unit)(t5 t6:Int):Rd ((List bm)×Y8×Int×Int×Unit) Unit :=
 cond (aD t6 (ae t0)) (
 cond (aZ t6 t0) (
 let u1:=(gt d192 t0 t6)
 (Ns u1 f1.1).bind fun y1 =>
 cond (!y1.2.1.1) (
 cond (aZ t5 t0) (
 let u2:=(gt d192 t0 t5)
 let u3:=(cO t0 t5 (u1.1,u2.2.1,u2.2.2.1,()))
 let u4:=(gt d192 u3 t5)
 let u5:=(cO u3 t5 (u4.1,u1.2.1,u4.2.2.1,()))
 let u6:=(gt d192 u5 t5)
 let u7:=(ak .i64 t6 1)
 eA ((cO u5 t5 (u6.1,u6.2.1,u1.2.2.1,())),f1,(ak .i64 t5 1),u7,())
 ) none
 ) (
 let u2:=(ak .i64 t6 1)
 eA (t0,f1,t5,u2,())
 )
 ) none
 ) (
 eB (t0,f1,t5,t6,())
 )
def BD:=pd (aq (dJ oA))
def NA(p0:List bm)(c1_0:Int×Unit):Option Wh :=
 (Qv p0 c1_0).bind fun y1 =>
 cond (aj y1.2.1.1 (-1)) (
 zR p0
 ) (
 (BD p0 (c1_0,()) y1.2.1.1 (ak .i64 y1.2.1.1 1)).bind (Sum.elim (fun y2 =>
 cond (ea y2.2.2.1 (ae y2.1) y2.1) (
 let u1:=(l5 d192 y2.1 y2.2.2.1)
 cond (ea 0 y2.2.2.1 u1) (
 zR (Ps u1 y2.2.2.1)
 ) none
 ) none
 ) (fun _ =>
 none
 ))
 )
def Qh:Su:=fU [.mv bB,.fn 267 [.p [ah]]] Q7 fun x=>NA x.1 x.2.1.1
def rV:List SE:=[.own 0 bB,.fn 1 267 [.p [ah]],.d 5 ah,.d 6 ah]
def Sz:List SE:=[]
def XW:Nat->Option (Lo Sz)
 | 0=>some ⟨rV,dJ BD⟩
 | _=>none
def Sa:List Y0:=[(267,iS aaa),(256,iS aaA)]
def aaY:Nat->Option (St->Tr St)
 | 11=>some (ug 36 37 38 0 5 lO)
 | _=>none
def E1:En:=vN 42 tt Sa Sz XW [] (aaY)
theorem WB(x:eU rV):(mZ E1 0 rV (lU 0 (ar Tryz.f262)) x).run=dJ oA x:=by kernel_rfl
theorem t262(x:PT Qh.ps):(EU E1 (ar Tryz.f262) Tryz.f262.results.toList Qh.ps Qh.rs true x).run=NA x.1 x.2.1.1:=by kernel_rfl
theorem KM:dw Tryz.prog E1:=cF (l:=Sa) ⟨SQ,YZ,trivial⟩
theorem Q0:cY Tryz.prog E1 (bo 11 (ar Tryz.f262)) (ug 36 37 38 0 5 lO) :=
 Aa (E:=E1) (qW hT) (rid:=11) (ta:=36) (tb:=37) (tc:=38) (t0:=0) (tI:=5) (ty:=89) (o1:=nJ (bo 11 (ar Tryz.f262)) 0) (o2:=nJ (bo 11 (ar Tryz.f262)) 1) (o3:=nJ (bo 11 (ar Tryz.f262)) 2) (o4:=nJ (bo 11 (ar Tryz.f262)) 3) (c:=K9 (nJ (bo 11 (ar Tryz.f262)) 3)) (te:=⟨true,lO,0,32,[(0,9),(1,3),(2,3)]⟩)
  (by kernel_rfl) (by kernel_rfl) (by kernel_rfl) (by kernel_rfl) (by kernel_rfl) (by kernel_rfl) (by kernel_rfl) (by kernel_rfl) (by kernel_rfl) (by kernel_rfl) (by kernel_rfl) (by kernel_rfl) (by kernel_rfl) (by kernel_rfl) (by kernel_rfl) (by kernel_rfl) (by kernel_rfl) (by kernel_rfl) (by kernel_rfl) (by kernel_rfl) (by kernel_rfl)
theorem VO:jM Tryz.prog E1 0 (.loop (lU 0 (ar Tryz.f262))) ⟨rV,dJ BD⟩ :=
 FR (qW hT) KM iU (step:=fun(x:eU rV)=>oA x.1 x.2.1 x.2.2.1 x.2.2.2.1) WB (di [] (by kernel_rfl) trivial [] (by kernel_rfl) trivial)
theorem Yj:aw Tryz.prog 262 Qh :=
 nN (E:=E1) (qW hT) KM iU (fn:=Tryz.f262) (c:=(ar Tryz.f262)) (by kernel_rfl) (by kernel_rfl) (by kernel_rfl) rfl (di [(0,.loop (lU 0 (ar Tryz.f262)))] (by kernel_rfl) ⟨VV rfl VO,trivial⟩ [(11,bo 11 (ar Tryz.f262))] (by kernel_rfl) ⟨sw rfl Q0,trivial⟩) fun x y h=>⟨y.1,fun _=>rfl,(t262 x).trans h⟩
def LP(p0:List bm)(p1:Int):Option Wh :=
 (A3 p0).bind fun y1 =>
 (NA y1.2.1.1 (p1,())).bind fun y2 =>
 some ((),(y2.2.1,()))
def abH:Su:=fU [.c false [bB],.c false [ah]] Q7 fun x=>LP x.1.1 x.2.1.1
theorem SO:aw Tryz.prog 220 abH :=
 fq (ac Ot (ac Yj an)) Tryz.f220
def Qx(p0:S8×Int×Int×Int×Int×(List bm)×Int×Int×(List R3)×(List R3)×(List bS)×Unit)(p1:Int):Option ZF :=
 (Of p0).bind fun y1 =>
 (Fz p0).bind fun y2 =>
 cond y2.2.1.1 (
 (Ib p1).bind fun y3 =>
 cond y3.2.1.1 (
 (LP p0.2.2.2.2.2.1 p1).bind fun y4 =>
 some ((),((y1.2.1.1,y1.2.1.2.1,y1.2.1.2.2.1,y1.2.1.2.2.2.1,y1.2.1.2.2.2.2.1,y4.2.1.1,y1.2.1.2.2.2.2.2.2.1,y1.2.1.2.2.2.2.2.2.2.1,y1.2.1.2.2.2.2.2.2.2.2.1,y1.2.1.2.2.2.2.2.2.2.2.2.1,y1.2.1.2.2.2.2.2.2.2.2.2.2.1,()),()))
 ) (
 some ((),(y1.2.1,()))
 )
 ) (
 some ((),(y1.2.1,()))
 )
def abq:Su:=fU [.c true [.str,ah,ah,ah,ah,bB,ah,ah,q3,q3,bU],.c false [ah]] Zx fun x=>Qx x.1 x.2.1.1
theorem aap:aw Tryz.prog 147 abq :=
 fq (ac qo (ac F4 (ac Sk (ac SO an)))) Tryz.f147
def sd(p0:S8×Int×Int×Int×Int×(List bm)×Int×Int×(List R3)×(List R3)×(List bS)×Unit)(p1:Int):Option DV :=
 (Fz p0).bind fun y1 =>
 cond (!y1.2.1.1) (
 c8
 ) (
 (Ib p1).bind fun y2 =>
 cond (!y2.2.1.1) (
 c8
 ) (
 (Qx p0 p1).bind fun y3 =>
 some ((),(y3.2.1,(0,()),()))
 )
 )
def aaR:Su:=fU [.c true [.str,ah,ah,ah,ah,bB,ah,ah,q3,q3,bU],.c false [ah]] NP fun x=>sd x.1 x.2.1.1
theorem yA:aw Tryz.prog 209 aaR :=
 fq (ac qo (ac F4 (ac aap an))) Tryz.f209
def Uy(p0:S8×Int×Int×Unit)(p1:S8×Unit):Option gQ :=
 zR (bw p0.1 p1.1)
def abZ:Su:=fU [.c true [.str,ah,ah],.pt [.str]] ic fun x=>Uy x.1 x.2.1
theorem Xk:aw Tryz.prog 257 abZ :=
 fq an Tryz.f257
def lq(t0:List bm)(f1:Y9×Unit)(t7 t8:Int):Rd Y56 Y1 :=
 cond (aD t8 t7) (
 cond (aZ t8 t0) (
 (Uy (gt d192 t0 t8) f1.1).bind fun y1 =>
 cond y1.2.1.1 (
 eC (t8,())
 ) (
 eA (t0,f1,t7,(ak .i64 t8 1),())
 )
 ) none
 ) (
 eB (t0,f1,t7,t8,())
 )
def Cy:=pd (aq (dJ lq))
def FT(p0:List bm)(c1_0:S8×Unit):Option ib :=
 (Cy p0 (c1_0,()) (ae p0) 0).bind (Sum.elim (fun _ =>
 c2
 ) (fun y1 =>
 some ((),(y1,()))
 ))
def V2:Su:=fU [.c false [bB],.fn 257 [.p [.str]]] iX fun x=>FT x.1.1 x.2.1.1
theorem QR:aw Tryz.prog 256 V2 :=
 fl (ac Xk an) [.d 4 ah] [(0,⟨[.d 0 bB,.fn 1 257 [.p [.str]],.d 7 ah,.d 8 ah],aq (dJ lq)⟩)] [] Tryz.f256 (lp [0] (sc dM sn))
def FQ(p0:List bm)(p1:S8):Option ib :=
 (FT p0 (p1,())).bind fun y1 =>
 some ((),(y1.2.1,()))
def Zi:Su:=fU [.c false [bB],.c false [.str]] iX fun x=>FQ x.1.1 x.2.1.1
theorem DH:aw Tryz.prog 210 Zi :=
 fq (ac QR an) Tryz.f210
def Ry(p0:List bm)(p1:Int):Option ib :=
 (LP p0 p1).bind fun y1 =>
 (L5 y1.2.1.1).bind fun y2 =>
 some ((),(y2.2.1,()))
def ac3:Su:=fU [.c false [bB],.c false [ah]] iX fun x=>Ry x.1.1 x.2.1.1
theorem XC:aw Tryz.prog 264 ac3 :=
 fq (ac Tn (ac SO an)) Tryz.f264
def Jj(p0:S8×Int×Int×Int×Int×(List bm)×Int×Int×(List R3)×(List R3)×(List bS)×Unit)(p1:Int):Option ib :=
 (Fz p0).bind fun y1 =>
 cond (!y1.2.1.1) (
 c5
 ) (
 (Ib p1).bind fun y2 =>
 cond (!y2.2.1.1) (
 c5
 ) (
 (Ry p0.2.2.2.2.2.1 p1).bind fun y3 =>
 zR (ba .i64 (ba .i64 p0.2.1 p0.2.2.1) y3.2.1.1)
 )
 )
def X3:Su:=fU [.c true [.str,ah,ah,ah,ah,bB,ah,ah,q3,q3,bU],.c false [ah]] iX fun x=>Jj x.1 x.2.1.1
theorem Dz:aw Tryz.prog 216 X3 :=
 fq (ac qo (ac F4 (ac XC an))) Tryz.f216
def qm(t0:List R3)(t1:Int)(t5:List R3)(t11 t12:Int):Rd ((List R3)×Int×(List R3)×Int×Int×Unit) Unit :=
 cond (aD t12 t11) (
 cond (bT t1 t12) (
 let u1:=(ba .i64 t12 t1)
 cond (aZ u1 t0) (
 cond (aZ t12 t5) (
 let u2:=(ak .i64 t12 1)
 eA (t0,t1,(cO t5 t12 (gt d3 t0 u1)),t11,u2,())
 ) none
 ) none
 ) (
 let u1:=(ak .i64 t12 1)
 eA (t0,t1,t5,t11,u1,())
 )
 ) (
 eB (t0,t1,t5,t11,t12,())
 )
def Nn:=J8 (aq (nM qm))
def M8(p0:List R3)(p1:Int):Option Y25 :=
 let u1:=(ae p0)
 cond (Tw 8 u1) (
 (Nn p0 p1 (vE d3 u1) u1 0).bind (Sum.elim (fun y1 =>
 zR y1.2.2.1
 ) (fun _ =>
 none
 ))
 ) none
def abv:Su:=fU [.c false [q3],.c false [ah]] [(false,[q3])] fun x=>M8 x.1.1 x.2.1.1
theorem Yx:aw Tryz.prog 295 abv :=
 fl an [] [(0,⟨[.d 0 q3,.d 1 ah,.own 5 q3,.d 11 ah,.d 12 ah],aq (nM qm)⟩)] [] Tryz.f295 (lp [0] (sc dM sn))
def Io(p0:Int×Int×(List R3)×(List R3)×Unit)(p1:Int):Option V4 :=
 (BF p0).bind fun y1 =>
 (AP p0).bind fun y2 =>
 cond (!y2.2.1.1) (
 some ((),(y1.2.1,()))
 ) (
 (Ib p1).bind fun y3 =>
 cond (!y3.2.1.1) (
 some ((),(y1.2.1,()))
 ) (
 cond (!(aj p0.1 0)) (
 let u1:=(jr .i64 p1 p0.1)
 cond (bT u1 p0.2.1) (
 some ((),(y1.2.1,()))
 ) (
 cond (!(aj p0.1 0)) (
 cond (!(aj p0.1 0)) (
 let u2:=(ba .i64 u1 p0.2.1)
 (M8 p0.2.2.1 u2).bind fun y4 =>
 (M8 p0.2.2.2.1 u2).bind fun y5 =>
 some ((),((p0.1,u1,y4.2.1.1,y5.2.1.1,()),()))
 ) none
 ) none
 )
 ) none
 )
 )
def aaX:Su:=fU [.c true [ah,ah,q3,q3],.c false [ah]] VH fun x=>Io x.1 x.2.1.1
theorem F5:aw Tryz.prog 261 aaX :=
 fq (ac qo (ac zk (ac HL (ac Yx an)))) Tryz.f261
def ru(t3:Int)(t6:List R3)(t7 t8:Int):Rd (Int×(List R3)×Int×Int×Unit) Unit :=
 cond (aD t8 t7) (
 cond (aZ t8 t6) (
 (yP t3 (gt d3 t6 t8).1).bind fun y1 =>
 eA (y1.2.1.1,t6,t7,(ak .i64 t8 1),())
 ) none
 ) (
 eB (t3,t6,t7,t8,())
 )
def MR:=pd (aq (dJ ru))
def K7(p0:List R3):Option ib :=
 (MR 0 p0 (ae p0) 0).bind (Sum.elim (fun y1 =>
 zR y1.1
 ) (fun _ =>
 none
 ))
def acX:Su:=fU [.c false [q3]] iX fun x=>K7 x.1.1
theorem T5:aw Tryz.prog 292 acX :=
 fl (ac zv an) [] [(0,⟨[.d 3 ah,.d 6 q3,.d 7 ah,.d 8 ah],aq (dJ ru)⟩)] [] Tryz.f292 (lp [0] (sc dM sn))
def L4(p0:Int×Int×(List R3)×(List R3)×Unit)(p1:Int):Option ib :=
 (AP p0).bind fun y1 =>
 cond (!y1.2.1.1) (
 c5
 ) (
 (Ib p1).bind fun y2 =>
 cond (!y2.2.1.1) (
 c5
 ) (
 (Io p0 p1).bind fun y3 =>
 (K7 y3.2.1.2.2.1).bind fun y4 =>
 some ((),(y4.2.1,()))
 )
 )
def adP:Su:=fU [.c true [ah,ah,q3,q3],.c false [ah]] iX fun x=>L4 x.1 x.2.1.1
theorem aaT:aw Tryz.prog 258 adP :=
 fq (ac qo (ac zk (ac F5 (ac T5 an)))) Tryz.f258
def Kr(p0:Int×Int×(List R3)×(List R3)×Unit)(p1:Int):Option ib :=
 (AP p0).bind fun y1 =>
 cond (!y1.2.1.1) (
 c5
 ) (
 (Ib p1).bind fun y2 =>
 cond (!y2.2.1.1) (
 c5
 ) (
 (Io p0 p1).bind fun y3 =>
 (K7 y3.2.1.2.2.2.1).bind fun y4 =>
 some ((),(y4.2.1,()))
 )
 )
def acH:Su:=fU [.c true [ah,ah,q3,q3],.c false [ah]] iX fun x=>Kr x.1 x.2.1.1
theorem XO:aw Tryz.prog 259 acH :=
 fq (ac qo (ac zk (ac F5 (ac T5 an)))) Tryz.f259
def LQ(p0:S8×Int×Int×Int×Int×(List bm)×Int×Int×(List R3)×(List R3)×(List bS)×Unit)(p1 p2:Int):Option ib :=
 (Jj p0 p2).bind fun y1 =>
 cond (aD y1.2.1.1 p1) (
 zR 7
 ) (
 (L4 (p0.2.2.2.2.2.2.1,p0.2.2.2.2.2.2.2.1,p0.2.2.2.2.2.2.2.2.1,p0.2.2.2.2.2.2.2.2.2.1,()) p2).bind fun y2 =>
 (yP y2.2.1.1 1).bind fun y3 =>
 cond (aD p0.2.2.2.1 y3.2.1.1) (
 c22
 ) (
 (Kr (p0.2.2.2.2.2.2.1,p0.2.2.2.2.2.2.2.1,p0.2.2.2.2.2.2.2.2.1,p0.2.2.2.2.2.2.2.2.2.1,()) p2).bind fun y4 =>
 (yP y4.2.1.1 p1).bind fun y5 =>
 cond (aD p0.2.2.2.2.1 y5.2.1.1) (
 zR 9
 ) (
 c5
 )
 )
 )
def abG:Su:=fU [.c true [.str,ah,ah,ah,ah,bB,ah,ah,q3,q3,bU],.c false [ah],.c false [ah]] iX fun x=>LQ x.1 x.2.1.1 x.2.2.1.1
theorem RZ:aw Tryz.prog 211 abG :=
 fq (ac zv (ac Dz (ac aaT (ac XO an)))) Tryz.f211
def Lk(p0:S8×Int×Int×Unit)(p1:S8×Unit):Option gQ :=
 zR (bw p0.1 p1.1)
def XA:Su:=fU [.c true [.str,ah,ah],.pt [.str]] ic fun x=>Lk x.1 x.2.1
theorem RW:aw Tryz.prog 263 XA :=
 fq an Tryz.f263
def kY(t0:List bm)(f1:Y9×Unit)(t7 t8:Int):Rd Y56 Y1 :=
 cond (aD t8 t7) (
 cond (aZ t8 t0) (
 (Lk (gt d192 t0 t8) f1.1).bind fun y1 =>
 cond y1.2.1.1 (
 eC (t8,())
 ) (
 eA (t0,f1,t7,(ak .i64 t8 1),())
 )
 ) none
 ) (
 eB (t0,f1,t7,t8,())
 )
def CM:=pd (aq (dJ kY))
def Bf(p0:List bm)(c1_0:S8×Unit):Option ib :=
 (CM p0 (c1_0,()) (ae p0) 0).bind (Sum.elim (fun _ =>
 c2
 ) (fun y1 =>
 some ((),(y1,()))
 ))
def NI:Su:=fU [.c false [bB],.fn 263 [.p [.str]]] iX fun x=>Bf x.1.1 x.2.1.1
theorem Rf:aw Tryz.prog 256 NI :=
 fl (ac RW an) [.d 4 ah] [(0,⟨[.d 0 bB,.fn 1 263 [.p [.str]],.d 7 ah,.d 8 ah],aq (dJ kY)⟩)] [] Tryz.f256 (lp [0] (sc dM sn))
def jX(t0:List bm)(f1:Y9×Unit)(t5 t6:Int):Rd Y56 Unit :=
 cond (aD t6 (ae t0)) (
 cond (aZ t6 t0) (
 let u1:=(gt d192 t0 t6)
 (Lk u1 f1.1).bind fun y1 =>
 cond (!y1.2.1.1) (
 cond (aZ t5 t0) (
 let u2:=(gt d192 t0 t5)
 let u3:=(cO t0 t5 (u1.1,u2.2.1,u2.2.2.1,()))
 let u4:=(gt d192 u3 t5)
 let u5:=(cO u3 t5 (u4.1,u1.2.1,u4.2.2.1,()))
 let u6:=(gt d192 u5 t5)
 let u7:=(ak .i64 t6 1)
 eA ((cO u5 t5 (u6.1,u6.2.1,u1.2.2.1,())),f1,(ak .i64 t5 1),u7,())
 ) none
 ) (
 let u2:=(ak .i64 t6 1)
 eA (t0,f1,t5,u2,())
 )
 ) none
 ) (
 eB (t0,f1,t5,t6,())
 )
def sD:=pd (aq (dJ jX))
def xR(p0:List bm)(c1_0:S8×Unit):Option Wh :=
 (Bf p0 c1_0).bind fun y1 =>
 cond (aj y1.2.1.1 (-1)) (
 zR p0
 ) (
 (sD p0 (c1_0,()) y1.2.1.1 (ak .i64 y1.2.1.1 1)).bind (Sum.elim (fun y2 =>
 cond (ea y2.2.2.1 (ae y2.1) y2.1) (
 let u1:=(l5 d192 y2.1 y2.2.2.1)
 cond (ea 0 y2.2.2.1 u1) (
 zR (Ps u1 y2.2.2.1)
 ) none
 ) none
 ) (fun _ =>
 none
 ))
 )
def AG:Su:=fU [.mv bB,.fn 263 [.p [.str]]] Q7 fun x=>xR x.1 x.2.1.1
def my:List SE:=[.own 0 bB,.fn 1 263 [.p [.str]],.d 5 ah,.d 6 ah]
def HE:List SE:=[]
def Pc:Nat->Option (Lo HE)
 | 0=>some ⟨my,dJ sD⟩
 | _=>none
def Hc:List Y0:=[(263,iS XA),(256,iS NI)]
def PD:Nat->Option (St->Tr St)
 | 11=>some (ug 36 37 38 0 5 lO)
 | _=>none
def qv:En:=vN 42 tt Hc HE Pc [] (PD)
theorem NF(x:eU my):(mZ qv 0 my (lU 0 (ar Tryz.f262)) x).run=dJ jX x:=by kernel_rfl
theorem We(x:PT AG.ps):(EU qv (ar Tryz.f262) Tryz.f262.results.toList AG.ps AG.rs true x).run=xR x.1 x.2.1.1:=by kernel_rfl
theorem Ds:dw Tryz.prog qv:=cF (l:=Hc) ⟨RW,Rf,trivial⟩
theorem Ia:cY Tryz.prog qv (bo 11 (ar Tryz.f262)) (ug 36 37 38 0 5 lO) :=
 Aa (E:=qv) (qW hT) (rid:=11) (ta:=36) (tb:=37) (tc:=38) (t0:=0) (tI:=5) (ty:=89) (o1:=nJ (bo 11 (ar Tryz.f262)) 0) (o2:=nJ (bo 11 (ar Tryz.f262)) 1) (o3:=nJ (bo 11 (ar Tryz.f262)) 2) (o4:=nJ (bo 11 (ar Tryz.f262)) 3) (c:=K9 (nJ (bo 11 (ar Tryz.f262)) 3)) (te:=⟨true,lO,0,32,[(0,9),(1,3),(2,3)]⟩)
  (by kernel_rfl) (by kernel_rfl) (by kernel_rfl) (by kernel_rfl) (by kernel_rfl) (by kernel_rfl) (by kernel_rfl) (by kernel_rfl) (by kernel_rfl) (by kernel_rfl) (by kernel_rfl) (by kernel_rfl) (by kernel_rfl) (by kernel_rfl) (by kernel_rfl) (by kernel_rfl) (by kernel_rfl) (by kernel_rfl) (by kernel_rfl) (by kernel_rfl) (by kernel_rfl)
theorem MQ:jM Tryz.prog qv 0 (.loop (lU 0 (ar Tryz.f262))) ⟨my,dJ sD⟩ :=
 FR (qW hT) Ds iU (step:=fun(x:eU my)=>jX x.1 x.2.1 x.2.2.1 x.2.2.2.1) NF (di [] (by kernel_rfl) trivial [] (by kernel_rfl) trivial)
theorem RD:aw Tryz.prog 262 AG :=
 nN (E:=qv) (qW hT) Ds iU (fn:=Tryz.f262) (c:=(ar Tryz.f262)) (by kernel_rfl) (by kernel_rfl) (by kernel_rfl) rfl (di [(0,.loop (lU 0 (ar Tryz.f262)))] (by kernel_rfl) ⟨VV rfl MQ,trivial⟩ [(11,bo 11 (ar Tryz.f262))] (by kernel_rfl) ⟨sw rfl Ia,trivial⟩) fun x y h=>⟨y.1,fun _=>rfl,(We x).trans h⟩
def AW(p0:List bm)(p1:S8):Option Wh :=
 (A3 p0).bind fun y1 =>
 (xR y1.2.1.1 (p1,())).bind fun y2 =>
 some ((),(y2.2.1,()))
def aaS:Su:=fU [.c false [bB],.c false [.str]] Q7 fun x=>AW x.1.1 x.2.1.1
theorem Ab:aw Tryz.prog 215 aaS :=
 fq (ac Ot (ac RD an)) Tryz.f215
section
open Go.RowKit Go.Lib
theorem Vi(a:Option Addr)(n c i:Nat)(a2:Option Addr)(m c2:Nat)(w:World)(hi:i<=n)(hc:n<=c)(hm:(m:Int)=0) :
 Calls Tryz.prog 260 #[.slice a n c,.int .i64 i,.slice a2 m c2] w fun e w'=>e= .returned (.slice a n c)/\w'=w:=by
 go_enter Tryz.func260,Tryz.ntmps260
 go_wp2
 all_goals (go_ret; exact⟨rfl,rfl⟩)
theorem Wt(a:Option Addr)(n c:Nat)(a2:Option Addr)(m c2:Nat)(w w':World)(v':Value)(hc:n<=c)(hm:¬ ((m:Int)=0))
 (hr:(Builtin.append_ #[89,89] 89 #[.slice a n c,.slice a2 m c2]).run Tryz.prog w= .ok v' w') :
 Calls Tryz.prog 260 #[.slice a n c,.int .i64 n,.slice a2 m c2] w fun e w1=>e= .returned v'/\w1=w':=by
 go_enter Tryz.func260,Tryz.ntmps260
 go_wp2_with (at_builtin; refine Lib.wpList_append_run _ rfl _ _ _ _ rfl _ _ rfl rfl _ _ hr ?_)
 all_goals (go_ret; exact⟨rfl,rfl⟩)
theorem V1(b o n c i:Nat)(a2:Option Addr)(m c2:Nat)(w:World)(hi:i<n)(hroom:n+m<=c)(hb:n+m<=140737488355328)(hm:0<m)(W1 W2:World)
 (hov:∀ lb cb,(callFunc 293 #[.slice a2 m c2,.slice (some ⟨b,o+(i+m) * 3,none⟩) lb cb]).run Tryz.prog w= .ok (.value (.bool false)) w)
 (hcp1:∀ ty dc sc,(Builtin.copy_ #[89,89] ty #[.slice (some ⟨b,o+(i+m) * 3,none⟩) (n+m-(i+m)) dc,.slice (some ⟨b,o+i * 3,none⟩) (n+m-i) sc]).run Tryz.prog w.drew= .ok (goInt (n-i:Nat)) W1)
 (hcp2:∀ ty dc,(Builtin.copy_ #[89,89] ty #[.slice (some ⟨b,o+i * 3,none⟩) (n+m-i) dc,.slice a2 m c2]).run Tryz.prog W1= .ok (goInt m) W2) :
 Calls Tryz.prog 260 #[.slice (some ⟨b,o,none⟩) n c,.int .i64 i,.slice a2 m c2] w fun e w1=>e= .returned (.slice (some ⟨b,o,none⟩) (n+m) c)/\w1=W2:=by
 have hz1:¬ ((m:Int)=0):=by omega
 have hz2:¬ ((i:Int)=(n:Int)):=by omega
 have hw1:IntKind.i64.wrap ((i:Int)+(m:Int))=(i:Int)+(m:Int):=by rw[IntKind.wrap_i64]; omega
 have hb1:(0:Int)<=(i:Int)+(m:Int):=by omega
 have hin:i<=n:=by omega
 have htn:((i:Int)+(m:Int)).toNat=i+m:=by omega
 have hb2:¬ (c=i+m):=by omega
 have hb3:(i:Int)<=(n:Int)+(m:Int):=by omega
 have hb4:¬ (c=i):=by omega
 go_enter Tryz.func260,Tryz.ntmps260
 go_wp2_with (simp only[hov])
 go_region_law (refine step_copy_runI rfl _ _ 89 89 rfl _ _ (by simp[Act.eval,Act.put]) (by simp[Act.eval,Act.put]) (hcp1 _ _ _) ?_)
 go_wp2_with (at_builtin; refine wpList_copy_runI _ rfl _ _ 89 89 rfl _ _ rfl rfl (hcp2 _ _) ?_)
 go_ret
 exact⟨rfl,rfl⟩
theorem Vh(b o n c i:Nat)(a2:Option Addr)(m c2:Nat)(w:World)(hi:i<n)(hnc:n<=c)(hroom:c<n+m)(hc63:n+m<=140737488355328)(hm:0<m)(W1 W2 W3:World)(N G:Nat)(hG:n+m<=G)(hG63:G<=9223372036854775807)
 (hrz:∀ ty,(Builtin.append_ #[89,3] ty #[.slice (some ⟨b,o,none⟩) i c,.int .i64 ((n:Int)+(m:Int)-(i:Int))]).run Tryz.prog w= .ok (.slice (some ⟨N,0,none⟩) (n+m) G) W1)
 (hcp1:∀ ty dc,(Builtin.copy_ #[89,89] ty #[.slice (some ⟨N,i * 3,none⟩) (n+m-i) dc,.slice a2 m c2]).run Tryz.prog W1= .ok (goInt m) W2)
 (hcp2:∀ ty dc sc,(Builtin.copy_ #[89,89] ty #[.slice (some ⟨N,(i+m) * 3,none⟩) (n+m-(i+m)) dc,.slice (some ⟨b,o+i * 3,none⟩) (n-i) sc]).run Tryz.prog W2.drew= .ok (goInt (n-i:Nat)) W3) :
 Calls Tryz.prog 260 #[.slice (some ⟨b,o,none⟩) n c,.int .i64 i,.slice a2 m c2] w fun e w1=>e= .returned (.slice (some ⟨N,0,none⟩) (n+m) G)/\w1=W3:=by
 have hz1:¬ ((m:Int)=0):=by omega
 have hz2:¬ ((i:Int)=(n:Int)):=by omega
 have hz3:(c:Int)<(n:Int)+(m:Int):=by omega
 have hw1:IntKind.i64.wrap ((i:Int)+(m:Int))=(i:Int)+(m:Int):=by rw[IntKind.wrap_i64]; omega
 have hb1:(0:Int)<=(i:Int)+(m:Int):=by omega
 have hin:i<=n:=by omega
 have htn:((i:Int)+(m:Int)).toNat=i+m:=by omega
 have hb3:(i:Int)<=(n:Int):=by omega
 have hGi:¬ (G=i):=by omega
 have hGim:¬ (G=i+m):=by omega
 have hci:¬ (c=i):=by omega
 go_enter Tryz.func260,Tryz.ntmps260
 go_wp2_with (first
  | (at_builtin; refine Lib.wpList_append_run _ rfl _ _ _ _ rfl _ _ rfl rfl _ _ (hrz _) ?_)
  | (at_builtin; refine wpList_copy_runI _ rfl _ _ 89 89 rfl _ _ rfl rfl (hcp1 _ _) ?_))
 go_region_law (refine step_copy_runI rfl _ _ 89 89 rfl (.slice (some ⟨N,(i+m) * 3,none⟩) (n+m-(i+m)) (G-(i+m))) (.slice (some ⟨b,o+i * 3,none⟩) (n-i) (c-i)) (by simp[Act.eval,Act.put]) (by simp[Act.eval,Act.put]) (hcp2 _ _ _) ?_)
 go_wp2
 go_ret
 exact⟨rfl,rfl⟩
theorem ac1:Hb Tryz.prog 260 89 293 3:=⟨Vi,Wt,V1,Vh⟩
end
def Rm(p0:List bm)(p1:Int)(p2:List bm):Option (Unit×Y7×Unit):=Le 32 p0 p1 p2
def acp:Su:=fU [.mv bB,.c false [ah],.mv bB] Q7 fun x=>Rm x.1 x.2.1.1 x.2.2.1
theorem Yp:aw Tryz.prog 260 acp :=
 H2 (f:=260) (T:=89) (ov:=293) (e:=192) (te:=⟨true,[.str,ah,ah],0,32,[(0,9),(1,3),(2,3)]⟩) (fn:=Tryz.f260) (fo:=Tryz.f293) (c:=ar Tryz.f260) (tR:=4) (by kernel_rfl) (by kernel_rfl) (by kernel_rfl) (by kernel_rfl) (by kernel_rfl) (hT 192 _ (by kernel_rfl)) (by kernel_rfl) (by kernel_rfl) (by kernel_rfl)
  (by kernel_rfl) (by kernel_rfl) (by kernel_rfl) (by kernel_rfl) (by kernel_rfl) ac1 rfl
def qX(t6:List bm)(t7:Int)(b3:S8×Int×Int×Unit):Rd ((List bm)×Int×UK×Unit) Unit :=
 cond (aD t7 (ae t6)) (
 cond (aZ t7 t6) (
 cond (yK (gt d192 t6 t7).1 b3.1) (
 eA (t6,(ak .i64 t7 1),b3,())
 ) (
 eB (t6,t7,b3,())
 )
 ) none
 ) (
 eB (t6,t7,b3,())
 )
def Lj:=pP (aq (fY qX))
def Ob(p0:List bm)(p1:S8×Int×Int×Unit):Option (Unit×(Y7×Y2×Unit)) :=
 (Jr p0).bind fun y1 =>
 cond (!y1.2.1.1) (
 Ys
 ) (
 (AW p0 p1.1).bind fun y2 =>
 (Lj y2.2.1.1 0 p1).bind (Sum.elim (fun y3 =>
 (Rm y3.1 y3.2.1 [y3.2.2.1]).bind fun y4 =>
 (Jr y4.2.1.1).bind fun y5 =>
 cond (!y5.2.1.1) (
 Ys
 ) (
 some ((),(y4.2.1,(true,()),()))
 )
 ) (fun _ =>
 none
 ))
 )
def ZT:Su:=fU [.c false [bB],.c true [.str,ah,ah]] [(false,[bB]),(false,[.bool])] fun x=>Ob x.1.1 x.2.1
theorem HP:aw Tryz.prog 212 ZT :=
 fl (ac Tc (ac Ab (ac Yp an))) [] [(0,⟨[.own 6 bB,.d 7 ah,.box 3 [(false,.str),(false,.int .i64),(false,.int .i64)]],aq (fY qX)⟩)] [] Tryz.f212 (lp [0] (sc dM sn))
def BK(p0:Int×Int×(List R3)×(List R3)×Unit)(p1 p2:Int):Option V4 :=
 (AP p0).bind fun y1 =>
 cond (!y1.2.1.1) (
 let u1:=(BF p0)
 Option.bind u1 fun y2 =>
 some ((),(y2.2.1,()))
 ) (
 (Ib p1).bind fun y2 =>
 cond (!y2.2.1.1) (
 let u1:=(BF p0)
 Option.bind u1 fun y3 =>
 some ((),(y3.2.1,()))
 ) (
 (Ki p2).bind fun y3 =>
 cond (!y3.2.1.1) (
 let u1:=(BF p0)
 Option.bind u1 fun y4 =>
 some ((),(y4.2.1,()))
 ) (
 (Io p0 p1).bind fun y4 =>
 cond (aZ 0 y4.2.1.2.2.1) (
 (yP (gt d3 y4.2.1.2.2.1 0).1 1).bind fun y5 =>
 cond (aZ 0 y4.2.1.2.2.2.1) (
 (yP (gt d3 y4.2.1.2.2.2.1 0).1 p2).bind fun y6 =>
 cond (aZ 0 y4.2.1.2.2.1) (
 cond (aZ 0 y4.2.1.2.2.2.1) (
 some ((),((y4.2.1.1,y4.2.1.2.1,(cO y4.2.1.2.2.1 0 y5.2.1),(cO y4.2.1.2.2.2.1 0 y6.2.1),()),()))
 ) none
 ) none
 ) none
 ) none
 )
 )
 )
def OW:Su:=fU [.c true [ah,ah,q3,q3],.c false [ah],.c false [ah]] VH fun x=>BK x.1 x.2.1.1 x.2.2.1.1
def NG:List SE:=[]
def R8:Nat->Option (Lo NG)
 | _=>none
def Gz:List Y0:=[(192,iS aan),(57,iS s57),(194,iS XU),(195,iS aaZ),(198,iS XT),(261,iS aaX)]
def HR:En:=vN 44 tt Gz NG R8 [] fun _=>none
def XG:Nat->Option (St->Tr St)
 | 4=>some (oO HR (opsOf (bo 4 (ar Tryz.f213))) 16 [2,3])
 | _=>none
def Rn:En:=vN 44 tt Gz NG R8 [] (XG)
theorem t213(x:PT OW.ps):(EU Rn (ar Tryz.f213) Tryz.f213.results.toList OW.ps OW.rs true x).run=BK x.1 x.2.1.1 x.2.2.1.1:=by kernel_rfl
theorem V8:dw Tryz.prog Rn:=cF (l:=Gz) ⟨GS,qo,zk,zv,HL,F5,trivial⟩
theorem IP:dw Tryz.prog HR:=cF (l:=Gz) ⟨GS,qo,zk,zv,HL,F5,trivial⟩
theorem Wn:cY Tryz.prog Rn (bo 4 (ar Tryz.f213)) (oO HR (opsOf (bo 4 (ar Tryz.f213))) 16 [2,3]) :=
 eu rfl rfl (BH (E:=HR) (qW hT) IP iU (c:=(bo 4 (ar Tryz.f213))) (id:=4) (by kernel_rfl))
theorem RG:aw Tryz.prog 213 OW :=
 nN (E:=Rn) (qW hT) V8 iU (fn:=Tryz.f213) (c:=(ar Tryz.f213)) (by kernel_rfl) (by kernel_rfl) (by kernel_rfl) rfl (di [] (by kernel_rfl) trivial [(4,bo 4 (ar Tryz.f213))] (by kernel_rfl) ⟨sw rfl Wn,trivial⟩) fun x y h=>⟨y.1,fun _=>rfl,(t213 x).trans h⟩
def Mi(p0:S8×Int×Int×Int×Int×(List bm)×Int×Int×(List R3)×(List R3)×(List bS)×Unit)(p1:S8)(p2 p3 p4:Int):Option DV :=
 (sd p0 p4).bind fun y1 =>
 cond (!(aj y1.2.2.1.1 0)) (
 c8
 ) (
 (Dy p1).bind fun y2 =>
 cond (!y2.2.1.1) (
 c8
 ) (
 (gY p2 1 9007199254740992).bind fun y3 =>
 cond (!y3.2.1.1) (
 c12
 ) (
 (gY p3 1 9999).bind fun y4 =>
 let u1:=(ak .i64 p4 p3)
 cond (cond (!y4.2.1.1) true (aD 1000000000 u1)) (
 c12
 ) (
 (FQ y1.2.1.2.2.2.2.2.1 p1).bind fun y5 =>
 cond (bT 0 y5.2.1.1) (
 c31
 ) (
 cond (aj (ae y1.2.1.2.2.2.2.2.1) 4) (
 c32
 ) (
 (LQ y1.2.1 p2 p4).bind fun y6 =>
 cond (!(aj y6.2.1.1 0)) (
 some ((),(([],0,0,0,0,[],0,0,[],[],[],()),y6.2.1,()))
 ) (
 (Ob y1.2.1.2.2.2.2.2.1 (p1,p2,u1,())).bind fun y7 =>
 (BK (y1.2.1.2.2.2.2.2.2.1,y1.2.1.2.2.2.2.2.2.2.1,y1.2.1.2.2.2.2.2.2.2.2.1,y1.2.1.2.2.2.2.2.2.2.2.2.1,()) p4 p2).bind fun y8 =>
 some ((),((y1.2.1.1,y1.2.1.2.1,y1.2.1.2.2.1,y1.2.1.2.2.2.1,y1.2.1.2.2.2.2.1,y7.2.1.1,y8.2.1.1,y8.2.1.2.1,y8.2.1.2.2.1,y8.2.1.2.2.2.1,y1.2.1.2.2.2.2.2.2.2.2.2.2.1,()),(0,()),()))
 )
 )
 )
 )
 )
 )
 )
def aax:Su:=fU [.c true [.str,ah,ah,ah,ah,bB,ah,ah,q3,q3,bU],.c false [.str],.c false [ah],.c false [ah],.c false [ah]] NP fun x=>Mi x.1 x.2.1.1 x.2.2.1.1 x.2.2.2.1.1 x.2.2.2.2.1.1
theorem RS:aw Tryz.prog 129 aax :=
 fq (ac iZ (ac wq (ac yA (ac DH (ac RZ (ac HP (ac RG an))))))) Tryz.f129
def Fg(p0:S8×Int×Int×Int×Int×(List bm)×Int×Int×(List R3)×(List R3)×(List bS)×Unit)(p1:S8)(p2 p3:Int):Option (Unit×(yL×Y1×Y1×Unit)) :=
 (sd p0 p3).bind fun y1 =>
 (FQ y1.2.1.2.2.2.2.2.1 p1).bind fun y2 =>
 cond (!(aj y1.2.2.1.1 0)) (
 c39
 ) (
 (Dy p1).bind fun y3 =>
 cond (!y3.2.1.1) (
 c39
 ) (
 (gY p2 1 9007199254740992).bind fun y4 =>
 cond (!y4.2.1.1) (
 some ((),(([],0,0,0,0,[],0,0,[],[],[],()),(0,()),(4,()),()))
 ) (
 cond (aD y2.2.1.1 0) (
 some ((),(([],0,0,0,0,[],0,0,[],[],[],()),(0,()),(5,()),()))
 ) (
 some ((),(y1.2.1,y2.2.1,(0,()),()))
 )
 )
 )
 )
def acF:Su:=fU [.c true [.str,ah,ah,ah,ah,bB,ah,ah,q3,q3,bU],.c false [.str],.c false [ah],.c false [ah]] [(true,[.str,ah,ah,ah,ah,bB,ah,ah,q3,q3,bU]),(false,[ah]),(false,[ah])] fun x=>Fg x.1 x.2.1.1 x.2.2.1.1 x.2.2.2.1.1
theorem Nx:aw Tryz.prog 214 acF :=
 fq (ac iZ (ac wq (ac yA (ac DH an)))) Tryz.f214
def LD(p0:S8×Int×Int×Int×Int×(List bm)×Int×Int×(List R3)×(List R3)×(List bS)×Unit)(p1:S8)(p2 p3:Int):Option DV :=
 (Fg p0 p1 p2 p3).bind fun y1 =>
 cond (aj y1.2.2.2.1.1 0) (
 (LQ y1.2.1 p2 p3).bind fun y2 =>
 cond (!(aj y2.2.1.1 0)) (
 some ((),(([],0,0,0,0,[],0,0,[],[],[],()),y2.2.1,()))
 ) (
 cond (aZ y1.2.2.1.1 y1.2.1.2.2.2.2.2.1) (
 cond (aZ y1.2.2.1.1 y1.2.1.2.2.2.2.2.1) (
 let u1:=(BK (y1.2.1.2.2.2.2.2.2.1,y1.2.1.2.2.2.2.2.2.2.1,y1.2.1.2.2.2.2.2.2.2.2.1,y1.2.1.2.2.2.2.2.2.2.2.2.1,()) p3 p2)
 Option.bind u1 fun y3 =>
 let u2:=(gt d192 y1.2.1.2.2.2.2.2.1 y1.2.2.1.1)
 let u3:=(cO y1.2.1.2.2.2.2.2.1 y1.2.2.1.1 (u2.1,(ak .i64 u2.2.1 p2),u2.2.2.1,()))
 some ((),((y1.2.1.1,y1.2.1.2.1,y1.2.1.2.2.1,y1.2.1.2.2.2.1,y1.2.1.2.2.2.2.1,u3,y3.2.1.1,y3.2.1.2.1,y3.2.1.2.2.1,y3.2.1.2.2.2.1,y1.2.1.2.2.2.2.2.2.2.2.2.2.1,()),(0,()),()))
 ) none
 ) none
 )
 ) (
 cond (!(aj y1.2.2.2.1.1 0)) (
 some ((),(([],0,0,0,0,[],0,0,[],[],[],()),y1.2.2.2.1,()))
 ) (
 cond (aZ y1.2.2.1.1 y1.2.1.2.2.2.2.2.1) (
 cond (aZ y1.2.2.1.1 y1.2.1.2.2.2.2.2.1) (
 let u1:=(BK (y1.2.1.2.2.2.2.2.2.1,y1.2.1.2.2.2.2.2.2.2.1,y1.2.1.2.2.2.2.2.2.2.2.1,y1.2.1.2.2.2.2.2.2.2.2.2.1,()) p3 p2)
 Option.bind u1 fun y2 =>
 let u2:=(gt d192 y1.2.1.2.2.2.2.2.1 y1.2.2.1.1)
 let u3:=(cO y1.2.1.2.2.2.2.2.1 y1.2.2.1.1 (u2.1,(ak .i64 u2.2.1 p2),u2.2.2.1,()))
 some ((),((y1.2.1.1,y1.2.1.2.1,y1.2.1.2.2.1,y1.2.1.2.2.2.1,y1.2.1.2.2.2.2.1,u3,y2.2.1.1,y2.2.1.2.1,y2.2.1.2.2.1,y2.2.1.2.2.2.1,y1.2.1.2.2.2.2.2.2.2.2.2.2.1,()),(0,()),()))
 ) none
 ) none
 )
 )
def Xo:Su:=fU [.c true [.str,ah,ah,ah,ah,bB,ah,ah,q3,q3,bU],.c false [.str],.c false [ah],.c false [ah]] NP fun x=>LD x.1 x.2.1.1 x.2.2.1.1 x.2.2.2.1.1
theorem TE:aw Tryz.prog 130 Xo :=
 fq (ac RZ (ac RG (ac Nx an))) Tryz.f130
def FD(p0:S8×Int×Int×Int×Int×(List bm)×Int×Int×(List R3)×(List R3)×(List bS)×Unit)(p1:S8)(p2:Int)(p3:Bool)(p4:Int):Option DV :=
 (Fg p0 p1 p2 p4).bind fun y1 =>
 cond (aj y1.2.2.2.1.1 0) (
 cond (aZ y1.2.2.1.1 y1.2.1.2.2.2.2.2.1) (
 let u1:=(gt d192 y1.2.1.2.2.2.2.2.1 y1.2.2.1.1)
 cond (aD u1.2.1 p2) (
 c33
 ) (
 cond (!(aj y1.2.2.2.1.1 0)) (
 some ((),(([],0,0,0,0,[],0,0,[],[],[],()),y1.2.2.2.1,()))
 ) (
 cond (aZ y1.2.2.1.1 y1.2.1.2.2.2.2.2.1) (
 cond (aZ y1.2.2.1.1 y1.2.1.2.2.2.2.2.1) (
 let u2:=(cO y1.2.1.2.2.2.2.2.1 y1.2.2.1.1 (u1.1,(ba .i64 u1.2.1 p2),u1.2.2.1,()))
 cond (aZ y1.2.2.1.1 u2) (
 let u3:=(cond (aj (gt d192 u2 y1.2.2.1.1).2.1 0) true p3)
 cond u3 (
 let u4:=(AW u2 p1)
 Option.bind u4 fun y2 =>
 let u5:=(ak .i64 y1.2.1.2.2.1 p2)
 some ((),((y1.2.1.1,y1.2.1.2.1,u5,y1.2.1.2.2.2.1,y1.2.1.2.2.2.2.1,y2.2.1.1,y1.2.1.2.2.2.2.2.2.1,y1.2.1.2.2.2.2.2.2.2.1,y1.2.1.2.2.2.2.2.2.2.2.1,y1.2.1.2.2.2.2.2.2.2.2.2.1,y1.2.1.2.2.2.2.2.2.2.2.2.2.1,()),(0,()),()))
 ) (
 let u4:=(ak .i64 y1.2.1.2.2.1 p2)
 some ((),((y1.2.1.1,y1.2.1.2.1,u4,y1.2.1.2.2.2.1,y1.2.1.2.2.2.2.1,u2,y1.2.1.2.2.2.2.2.2.1,y1.2.1.2.2.2.2.2.2.2.1,y1.2.1.2.2.2.2.2.2.2.2.1,y1.2.1.2.2.2.2.2.2.2.2.2.1,y1.2.1.2.2.2.2.2.2.2.2.2.2.1,()),(0,()),()))
 )
 ) none
 ) none
 ) none
 )
 )
 ) none
 ) (
 cond (!(aj y1.2.2.2.1.1 0)) (
 some ((),(([],0,0,0,0,[],0,0,[],[],[],()),y1.2.2.2.1,()))
 ) (
 cond (aZ y1.2.2.1.1 y1.2.1.2.2.2.2.2.1) (
 cond (aZ y1.2.2.1.1 y1.2.1.2.2.2.2.2.1) (
 let u1:=(gt d192 y1.2.1.2.2.2.2.2.1 y1.2.2.1.1)
 let u2:=(cO y1.2.1.2.2.2.2.2.1 y1.2.2.1.1 (u1.1,(ba .i64 u1.2.1 p2),u1.2.2.1,()))
 cond (aZ y1.2.2.1.1 u2) (
 let u3:=(cond (aj (gt d192 u2 y1.2.2.1.1).2.1 0) true p3)
 cond u3 (
 let u4:=(AW u2 p1)
 Option.bind u4 fun y2 =>
 let u5:=(ak .i64 y1.2.1.2.2.1 p2)
 some ((),((y1.2.1.1,y1.2.1.2.1,u5,y1.2.1.2.2.2.1,y1.2.1.2.2.2.2.1,y2.2.1.1,y1.2.1.2.2.2.2.2.2.1,y1.2.1.2.2.2.2.2.2.2.1,y1.2.1.2.2.2.2.2.2.2.2.1,y1.2.1.2.2.2.2.2.2.2.2.2.1,y1.2.1.2.2.2.2.2.2.2.2.2.2.1,()),(0,()),()))
 ) (
 let u4:=(ak .i64 y1.2.1.2.2.1 p2)
 some ((),((y1.2.1.1,y1.2.1.2.1,u4,y1.2.1.2.2.2.1,y1.2.1.2.2.2.2.1,u2,y1.2.1.2.2.2.2.2.2.1,y1.2.1.2.2.2.2.2.2.2.1,y1.2.1.2.2.2.2.2.2.2.2.1,y1.2.1.2.2.2.2.2.2.2.2.2.1,y1.2.1.2.2.2.2.2.2.2.2.2.2.1,()),(0,()),()))
 )
 ) none
 ) none
 ) none
 )
 )
def Zg:Su:=fU [.c true [.str,ah,ah,ah,ah,bB,ah,ah,q3,q3,bU],.c false [.str],.c false [ah],.c false [.bool],.c false [ah]] NP fun x=>FD x.1 x.2.1.1 x.2.2.1.1 x.2.2.2.1.1 x.2.2.2.2.1.1
theorem T6:aw Tryz.prog 131 Zg :=
 fq (ac Ab (ac Nx an)) Tryz.f131
def KU(p0:S8×Int×Int×Int×Int×(List bm)×Int×Int×(List R3)×(List R3)×(List bS)×Unit)(p1:S8)(p2:Int):Option DV :=
 (Fg p0 p1 1 p2).bind fun y1 =>
 cond (!(aj y1.2.2.2.1.1 0)) (
 some ((),(([],0,0,0,0,[],0,0,[],[],[],()),y1.2.2.2.1,()))
 ) (
 (AW y1.2.1.2.2.2.2.2.1 p1).bind fun y2 =>
 some ((),((y1.2.1.1,y1.2.1.2.1,y1.2.1.2.2.1,y1.2.1.2.2.2.1,y1.2.1.2.2.2.2.1,y2.2.1.1,y1.2.1.2.2.2.2.2.2.1,y1.2.1.2.2.2.2.2.2.2.1,y1.2.1.2.2.2.2.2.2.2.2.1,y1.2.1.2.2.2.2.2.2.2.2.2.1,y1.2.1.2.2.2.2.2.2.2.2.2.2.1,()),(0,()),()))
 )
def aaq:Su:=fU [.c true [.str,ah,ah,ah,ah,bB,ah,ah,q3,q3,bU],.c false [.str],.c false [ah]] NP fun x=>KU x.1 x.2.1.1 x.2.2.1.1
theorem Tu:aw Tryz.prog 132 aaq :=
 fq (ac Ab (ac Nx an)) Tryz.f132
def JH(p0 p1:S8×Int×Int×Int×Int×(List bm)×Int×Int×(List R3)×(List R3)×(List bS)×Unit)(p2:S8)(p3:Int):Option (Unit×(yL×yL×Y1×Unit)) :=
 (sd p0 p3).bind fun y1 =>
 (sd p1 p3).bind fun y2 =>
 (FQ y1.2.1.2.2.2.2.2.1 p2).bind fun y3 =>
 cond (cond (!(aj y1.2.2.1.1 0)) true (!(aj y2.2.2.1.1 0))) (
 c18
 ) (
 (Dy p2).bind fun y4 =>
 cond (!y4.2.1.1) (
 c18
 ) (
 cond (bw p0.1 p1.1) (
 c34
 ) (
 cond (aD y3.2.1.1 0) (
 c35
 ) (
 (FQ y2.2.1.2.2.2.2.2.1 p2).bind fun y5 =>
 cond (bT 0 y5.2.1.1) (
 c36
 ) (
 cond (aj (ae y2.2.1.2.2.2.2.2.1) 4) (
 c37
 ) (
 cond (aZ y3.2.1.1 y1.2.1.2.2.2.2.2.1) (
 (Jj y2.2.1 p3).bind fun y6 =>
 let u1:=(gt d192 y1.2.1.2.2.2.2.2.1 y3.2.1.1)
 cond (aD y6.2.1.1 u1.2.1) (
 c38
 ) (
 cond (aZ y3.2.1.1 y1.2.1.2.2.2.2.2.1) (
 (Ob y2.2.1.2.2.2.2.2.1 u1).bind fun y7 =>
 (AW y1.2.1.2.2.2.2.2.1 p2).bind fun y8 =>
 some ((),((y1.2.1.1,y1.2.1.2.1,y1.2.1.2.2.1,y1.2.1.2.2.2.1,y1.2.1.2.2.2.2.1,y8.2.1.1,y1.2.1.2.2.2.2.2.2.1,y1.2.1.2.2.2.2.2.2.2.1,y1.2.1.2.2.2.2.2.2.2.2.1,y1.2.1.2.2.2.2.2.2.2.2.2.1,y1.2.1.2.2.2.2.2.2.2.2.2.2.1,()),(y2.2.1.1,y2.2.1.2.1,y2.2.1.2.2.1,y2.2.1.2.2.2.1,y2.2.1.2.2.2.2.1,y7.2.1.1,y2.2.1.2.2.2.2.2.2.1,y2.2.1.2.2.2.2.2.2.2.1,y2.2.1.2.2.2.2.2.2.2.2.1,y2.2.1.2.2.2.2.2.2.2.2.2.1,y2.2.1.2.2.2.2.2.2.2.2.2.2.1,()),(0,()),()))
 ) none
 )
 ) none
 )
 )
 )
 )
 )
 )
def NS:Su:=fU [.c true [.str,ah,ah,ah,ah,bB,ah,ah,q3,q3,bU],.c true [.str,ah,ah,ah,ah,bB,ah,ah,q3,q3,bU],.c false [.str],.c false [ah]] [(true,[.str,ah,ah,ah,ah,bB,ah,ah,q3,q3,bU]),(true,[.str,ah,ah,ah,ah,bB,ah,ah,q3,q3,bU]),(false,[ah])] fun x=>JH x.1 x.2.1 x.2.2.1.1 x.2.2.2.1.1
def MM:List SE:=[]
def RF:Nat->Option (Lo MM)
 | _=>none
def Dx:List Y0:=[(204,iS aa5),(209,iS aaR),(210,iS Zi),(216,iS X3),(215,iS aaS),(212,iS ZT)]
def uY:En:=vN 100 tt Dx MM RF [] fun _=>none
def Yl:Nat->Option (St->Tr St)
 | 19=>some (gy uY (opsOf (bo 19 (ar Tryz.f133))) [(12,10)])
 | 21=>some (oO uY (opsOf (bo 21 (ar Tryz.f133))) 2 [1])
 | _=>none
def Kf:En:=vN 100 tt Dx MM RF [] (Yl)
theorem t133(x:PT NS.ps):(EU Kf (ar Tryz.f133) Tryz.f133.results.toList NS.ps NS.rs true x).run=JH x.1 x.2.1 x.2.2.1.1 x.2.2.2.1.1:=by kernel_rfl
theorem UH:dw Tryz.prog Kf:=cF (l:=Dx) ⟨wq,yA,DH,Dz,Ab,HP,trivial⟩
theorem EW:dw Tryz.prog uY:=cF (l:=Dx) ⟨wq,yA,DH,Dz,Ab,HP,trivial⟩
theorem PS:cY Tryz.prog Kf (bo 19 (ar Tryz.f133)) (gy uY (opsOf (bo 19 (ar Tryz.f133))) [(12,10)]) :=
 eu rfl rfl (kJ (E:=uY) (qW hT) EW iU (c:=(bo 19 (ar Tryz.f133))) (id:=19) (by kernel_rfl))
theorem Fb:dw Tryz.prog uY:=cF (l:=Dx) ⟨wq,yA,DH,Dz,Ab,HP,trivial⟩
theorem P9:cY Tryz.prog Kf (bo 21 (ar Tryz.f133)) (oO uY (opsOf (bo 21 (ar Tryz.f133))) 2 [1]) :=
 eu rfl rfl (BH (E:=uY) (qW hT) Fb iU (c:=(bo 21 (ar Tryz.f133))) (id:=21) (by kernel_rfl))
theorem Sr:aw Tryz.prog 133 NS :=
 nN (E:=Kf) (qW hT) UH iU (fn:=Tryz.f133) (c:=(ar Tryz.f133)) (by kernel_rfl) (by kernel_rfl) (by kernel_rfl) rfl (di [] (by kernel_rfl) trivial [(19,bo 19 (ar Tryz.f133)),(21,bo 21 (ar Tryz.f133))] (by kernel_rfl) ⟨sw rfl PS,sw rfl P9,trivial⟩) fun x y h=>⟨y.1,fun _=>rfl,(t133 x).trans h⟩
def On(p0:S8×Int×Int×Int×Int×(List bm)×Int×Int×(List R3)×(List R3)×(List bS)×Unit)(p1:Int):Option (Unit×(Y9×Y1×Unit)) :=
 (sd p0 p1).bind fun y1 =>
 cond (!(aj y1.2.2.1.1 0)) (
 some ((),(([],()),y1.2.2.1,()))
 ) (
 (Jj y1.2.1 p1).bind fun y2 =>
 (IY y2.2.1.1 16).bind fun y3 =>
 cond (iJ y3.2.1.1 [32]) (
 (IY y1.2.1.2.2.1 16).bind fun y4 =>
 let u1:=(rN y3.2.1.1 [32])
 cond (iJ u1 y4.2.1.1) (
 some ((),(((rN u1 y4.2.1.1),()),(0,()),()))
 ) none
 ) none
 )
def Xm:Su:=fU [.c true [.str,ah,ah,ah,ah,bB,ah,ah,q3,q3,bU],.c false [ah]] [(false,[.str]),(false,[ah])] fun x=>On x.1 x.2.1.1
theorem SI:aw Tryz.prog 134 Xm :=
 fq (ac Sd (ac yA (ac Dz an))) Tryz.f134
def Kp(p0:S8×Int×Int×Int×Int×(List bm)×Int×Int×(List R3)×(List R3)×(List bS)×Unit)(p1:Int):Option DV :=
 (sd p0 p1).bind fun y1 =>
 some ((),(y1.2.1,y1.2.2.1,()))
def aaJ:Su:=fU [.c true [.str,ah,ah,ah,ah,bB,ah,ah,q3,q3,bU],.c false [ah]] NP fun x=>Kp x.1 x.2.1.1
theorem SD:aw Tryz.prog 135 aaJ :=
 fq (ac yA an) Tryz.f135
def YQ(p0:(List gL)×Unit)(p1:Int×S8×S8×S8×S8×S8×Int×Int×Unit)(p2:Int):Option (Unit×(Y5×Y1×Y9×Unit)) :=
 (Zt p0).bind fun y1 =>
 cond (!y1.2.1.1) (
 Xe
 ) (
 (JA p1).bind fun y2 =>
 cond (!y2.2.1.1) (
 Xe
 ) (
 (Ib p2).bind fun y3 =>
 cond (!y3.2.1.1) (
 Xe
 ) (
 (W4 p0 p1.2.1).bind fun y4 =>
 cond (aj p1.1 6) (
 (W4 p0 p1.2.2.1).bind fun y5 =>
 cond (aD y4.2.1.1 0) (
 WZ
 ) (
 cond (cond (aj p1.1 6) (aD y5.2.1.1 0) false) (
 WZ
 ) (
 let u1:=(Hg p0)
 Option.bind u1 fun y6 =>
 cond (aZ y4.2.1.1 y6.2.1.1) (
 cond (aj p1.1 1) (
 let u2:=(gt d94 y6.2.1.1 y4.2.1.1)
 (Mi u2 p1.2.2.2.1 p1.2.2.2.2.2.2.1 p1.2.2.2.2.2.2.2.1 p2).bind fun y7 =>
 cond (!(aj y7.2.2.1.1 0)) (
 some ((),(([],()),y7.2.2.1,([],()),()))
 ) (
 cond (aZ y4.2.1.1 y6.2.1.1) (
 some ((),(((cO y6.2.1.1 y4.2.1.1 y7.2.1),()),(0,()),([],()),()))
 ) none
 )
 ) (
 cond (aj p1.1 2) (
 let u2:=(gt d94 y6.2.1.1 y4.2.1.1)
 (LD u2 p1.2.2.2.1 p1.2.2.2.2.2.2.1 p2).bind fun y7 =>
 cond (!(aj y7.2.2.1.1 0)) (
 some ((),(([],()),y7.2.2.1,([],()),()))
 ) (
 cond (aZ y4.2.1.1 y6.2.1.1) (
 some ((),(((cO y6.2.1.1 y4.2.1.1 y7.2.1),()),(0,()),([],()),()))
 ) none
 )
 ) (
 cond (aj p1.1 3) (
 let u2:=(gt d94 y6.2.1.1 y4.2.1.1)
 let u3:=(FD u2 p1.2.2.2.1 p1.2.2.2.2.2.2.1 (aj p1.1 4) p2)
 Option.bind u3 fun y7 =>
 cond (!(aj y7.2.2.1.1 0)) (
 some ((),(([],()),y7.2.2.1,([],()),()))
 ) (
 cond (aZ y4.2.1.1 y6.2.1.1) (
 some ((),(((cO y6.2.1.1 y4.2.1.1 y7.2.1),()),(0,()),([],()),()))
 ) none
 )
 ) (
 cond (aj p1.1 4) (
 let u2:=(gt d94 y6.2.1.1 y4.2.1.1)
 let u3:=(FD u2 p1.2.2.2.1 p1.2.2.2.2.2.2.1 (aj p1.1 4) p2)
 Option.bind u3 fun y7 =>
 cond (!(aj y7.2.2.1.1 0)) (
 some ((),(([],()),y7.2.2.1,([],()),()))
 ) (
 cond (aZ y4.2.1.1 y6.2.1.1) (
 some ((),(((cO y6.2.1.1 y4.2.1.1 y7.2.1),()),(0,()),([],()),()))
 ) none
 )
 ) (
 cond (aj p1.1 5) (
 let u2:=(gt d94 y6.2.1.1 y4.2.1.1)
 (KU u2 p1.2.2.2.1 p2).bind fun y7 =>
 cond (!(aj y7.2.2.1.1 0)) (
 some ((),(([],()),y7.2.2.1,([],()),()))
 ) (
 cond (aZ y4.2.1.1 y6.2.1.1) (
 some ((),(((cO y6.2.1.1 y4.2.1.1 y7.2.1),()),(0,()),([],()),()))
 ) none
 )
 ) (
 cond (aj p1.1 6) (
 cond (aZ y5.2.1.1 y6.2.1.1) (
 let u2:=(gt d94 y6.2.1.1 y4.2.1.1)
 (JH u2 (gt d94 y6.2.1.1 y5.2.1.1) p1.2.2.2.1 p2).bind fun y7 =>
 cond (aZ y5.2.1.1 y6.2.1.1) (
 cond (!(aj y7.2.2.2.1.1 0)) (
 some ((),(([],()),y7.2.2.2.1,([],()),()))
 ) (
 let u3:=(cO y6.2.1.1 y5.2.1.1 y7.2.2.1)
 cond (aZ y4.2.1.1 u3) (
 some ((),(((cO u3 y4.2.1.1 y7.2.1),()),(0,()),([],()),()))
 ) none
 )
 ) none
 ) none
 ) (
 cond (aj p1.1 7) (
 let u2:=(gt d94 y6.2.1.1 y4.2.1.1)
 (On u2 p2).bind fun y7 =>
 cond (!(aj y7.2.2.1.1 0)) (
 some ((),(([],()),y7.2.2.1,([],()),()))
 ) (
 cond (aZ y4.2.1.1 y6.2.1.1) (
 let u3:=(G4 4 y4.2.1.1 y4.2.1.1)
 cond u3 (
 some ((),(((cO y6.2.1.1 y4.2.1.1 u2),()),(0,()),y7.2.1,()))
 ) none
 ) none
 )
 ) (
 let u2:=(gt d94 y6.2.1.1 y4.2.1.1)
 (Kp u2 p2).bind fun y7 =>
 cond (!(aj y7.2.2.1.1 0)) (
 some ((),(([],()),y7.2.2.1,([],()),()))
 ) (
 cond (aZ y4.2.1.1 y6.2.1.1) (
 some ((),(((cO y6.2.1.1 y4.2.1.1 y7.2.1),()),(0,()),([],()),()))
 ) none
 )
 )
 )
 )
 )
 )
 )
 )
 ) none
 )
 )
 ) (
 cond (aD y4.2.1.1 0) (
 WZ
 ) (
 cond (cond (aj p1.1 6) (aD (-1) 0) false) (
 WZ
 ) (
 let u1:=(Hg p0)
 Option.bind u1 fun y5 =>
 cond (aZ y4.2.1.1 y5.2.1.1) (
 cond (aj p1.1 1) (
 let u2:=(gt d94 y5.2.1.1 y4.2.1.1)
 (Mi u2 p1.2.2.2.1 p1.2.2.2.2.2.2.1 p1.2.2.2.2.2.2.2.1 p2).bind fun y6 =>
 cond (!(aj y6.2.2.1.1 0)) (
 some ((),(([],()),y6.2.2.1,([],()),()))
 ) (
 cond (aZ y4.2.1.1 y5.2.1.1) (
 some ((),(((cO y5.2.1.1 y4.2.1.1 y6.2.1),()),(0,()),([],()),()))
 ) none
 )
 ) (
 cond (aj p1.1 2) (
 let u2:=(gt d94 y5.2.1.1 y4.2.1.1)
 (LD u2 p1.2.2.2.1 p1.2.2.2.2.2.2.1 p2).bind fun y6 =>
 cond (!(aj y6.2.2.1.1 0)) (
 some ((),(([],()),y6.2.2.1,([],()),()))
 ) (
 cond (aZ y4.2.1.1 y5.2.1.1) (
 some ((),(((cO y5.2.1.1 y4.2.1.1 y6.2.1),()),(0,()),([],()),()))
 ) none
 )
 ) (
 cond (aj p1.1 3) (
 let u2:=(gt d94 y5.2.1.1 y4.2.1.1)
 let u3:=(FD u2 p1.2.2.2.1 p1.2.2.2.2.2.2.1 (aj p1.1 4) p2)
 Option.bind u3 fun y6 =>
 cond (!(aj y6.2.2.1.1 0)) (
 some ((),(([],()),y6.2.2.1,([],()),()))
 ) (
 cond (aZ y4.2.1.1 y5.2.1.1) (
 some ((),(((cO y5.2.1.1 y4.2.1.1 y6.2.1),()),(0,()),([],()),()))
 ) none
 )
 ) (
 cond (aj p1.1 4) (
 let u2:=(gt d94 y5.2.1.1 y4.2.1.1)
 let u3:=(FD u2 p1.2.2.2.1 p1.2.2.2.2.2.2.1 (aj p1.1 4) p2)
 Option.bind u3 fun y6 =>
 cond (!(aj y6.2.2.1.1 0)) (
 some ((),(([],()),y6.2.2.1,([],()),()))
 ) (
 cond (aZ y4.2.1.1 y5.2.1.1) (
 some ((),(((cO y5.2.1.1 y4.2.1.1 y6.2.1),()),(0,()),([],()),()))
 ) none
 )
 ) (
 cond (aj p1.1 5) (
 let u2:=(gt d94 y5.2.1.1 y4.2.1.1)
 (KU u2 p1.2.2.2.1 p2).bind fun y6 =>
 cond (!(aj y6.2.2.1.1 0)) (
 some ((),(([],()),y6.2.2.1,([],()),()))
 ) (
 cond (aZ y4.2.1.1 y5.2.1.1) (
 some ((),(((cO y5.2.1.1 y4.2.1.1 y6.2.1),()),(0,()),([],()),()))
 ) none
 )
 ) (
 cond (aj p1.1 6) (
 cond (aZ (-1) y5.2.1.1) (
 let u2:=(gt d94 y5.2.1.1 y4.2.1.1)
 (JH u2 (gt d94 y5.2.1.1 (-1)) p1.2.2.2.1 p2).bind fun y6 =>
 cond (aZ (-1) y5.2.1.1) (
 cond (!(aj y6.2.2.2.1.1 0)) (
 some ((),(([],()),y6.2.2.2.1,([],()),()))
 ) (
 let u3:=(cO y5.2.1.1 (-1) y6.2.2.1)
 cond (aZ y4.2.1.1 u3) (
 some ((),(((cO u3 y4.2.1.1 y6.2.1),()),(0,()),([],()),()))
 ) none
 )
 ) none
 ) none
 ) (
 cond (aj p1.1 7) (
 let u2:=(gt d94 y5.2.1.1 y4.2.1.1)
 (On u2 p2).bind fun y6 =>
 cond (!(aj y6.2.2.1.1 0)) (
 some ((),(([],()),y6.2.2.1,([],()),()))
 ) (
 cond (aZ y4.2.1.1 y5.2.1.1) (
 let u3:=(G4 4 y4.2.1.1 y4.2.1.1)
 cond u3 (
 some ((),(((cO y5.2.1.1 y4.2.1.1 u2),()),(0,()),y6.2.1,()))
 ) none
 ) none
 )
 ) (
 let u2:=(gt d94 y5.2.1.1 y4.2.1.1)
 (Kp u2 p2).bind fun y6 =>
 cond (!(aj y6.2.2.1.1 0)) (
 some ((),(([],()),y6.2.2.1,([],()),()))
 ) (
 cond (aZ y4.2.1.1 y5.2.1.1) (
 some ((),(((cO y5.2.1.1 y4.2.1.1 y6.2.1),()),(0,()),([],()),()))
 ) none
 )
 )
 )
 )
 )
 )
 )
 )
 ) none
 )
 )
 )
 )
 )
 )
def YC:Su:=fU [.c true [lr],.c true [ah,.str,.str,.str,.str,.str,ah,ah],.c false [ah]] [(true,[lr]),(false,[ah]),(false,[.str])] fun x=>YQ x.1 x.2.1 x.2.2.1.1
def WC:List SE:=[]
def aaD:Nat->Option (Lo WC)
 | _=>none
def OT:List Y0:=[(57,iS s57),(56,iS s56),(58,iS s58),(123,iS YW),(65,iS s65),(129,iS aax),(130,iS Xo),(131,iS Zg),(132,iS aaq),(133,iS NS),(134,iS Xm),(135,iS aaJ)]
def Qp:En:=vN 158 tt OT WC aaD [] fun _=>none
def abJ:Nat->Option (St->Tr St)
 | 22=>some (Vl Qp (opsOf (bo 22 (ar Tryz.f67))) [(17,2),(17,15),(17,16)] 17 [0,1])
 | _=>none
def E67:En:=vN 158 tt OT WC aaD [] (abJ)
theorem t67(x:PT YC.ps):(EU E67 (ar Tryz.f67) Tryz.f67.results.toList YC.ps YC.rs true x).run=YQ x.1 x.2.1 x.2.2.1.1:=by kernel_rfl
theorem Z9:dw Tryz.prog E67:=cF (l:=OT) ⟨qo,N1,KF,Lg,Ll,RS,TE,T6,Tu,Sr,SI,SD,trivial⟩
theorem IE:dw Tryz.prog Qp:=cF (l:=OT) ⟨qo,N1,KF,Lg,Ll,RS,TE,T6,Tu,Sr,SI,SD,trivial⟩
theorem UQ:cY Tryz.prog E67 (bo 22 (ar Tryz.f67)) (Vl Qp (opsOf (bo 22 (ar Tryz.f67))) [(17,2),(17,15),(17,16)] 17 [0,1]) :=
 eu rfl rfl (Ts (E:=Qp) (qW hT) IE iU (c:=(bo 22 (ar Tryz.f67))) (id:=22) (by kernel_rfl))
theorem VJ:aw Tryz.prog 67 YC :=
 nN (E:=E67) (qW hT) Z9 iU (fn:=Tryz.f67) (c:=(ar Tryz.f67)) (by kernel_rfl) (by kernel_rfl) (by kernel_rfl) rfl (di [] (by kernel_rfl) trivial [(22,bo 22 (ar Tryz.f67))] (by kernel_rfl) ⟨sw rfl UQ,trivial⟩) fun x y h=>⟨y.1,fun _=>rfl,(t67 x).trans h⟩
def Zy:Sc:=⟨100,r9,56⟩
def aaQ:En:=vN 8 tt [] [] (fun _=>none) [] fun _=>none
def Sy(x:List bS):St:=⟨[(2,.v .nil),(0,.v (.d bU x))],[]⟩
theorem t137(x:List bS)(b:Bool):((cH aaQ (.seq (cJ (dC (cJ (ar Tryz.f137)))) (cJ (cJ (ar Tryz.f137)))) (((Sy x).aV 3 (.v (.d bU x),none)).aV 4 (.v (.d .bool b),none))).bind fun ou=>Tr.bY (LI ou 2 100 r9) .ret).run =
 cond b (some []) (cond (bj 56 ([]:List bS) x) (some x) none):=by kernel_rfl
theorem Yk:Fx Tryz.prog 137 Zy :=
 Xl (E:=aaQ) (qW hT) (cF (l:=[]) trivial) iU (fn:=Tryz.f137) (c0:=dC (ar Tryz.f137)) (cc:=cJ (dC (cJ (ar Tryz.f137)))) (c3:=cJ (cJ (ar Tryz.f137))) (id:=GR (dC (dC (cJ (ar Tryz.f137)))))
  (o1:=nJ (dC (dC (cJ (ar Tryz.f137)))) 0) (o2:=nJ (dC (dC (cJ (ar Tryz.f137)))) 1) (by kernel_rfl) (by kernel_rfl) (by kernel_rfl) rfl (by kernel_rfl)
  (bG (fun _=>rfl) _ (by kernel_rfl)) (bG (fun _=>rfl) _ (by kernel_rfl)) (bG (fun _=>rfl) _ (by kernel_rfl)) (t0:=0) (t3:=3) (t4:=4) (ty:=92) (ty':=92) (e':=100) (by':=24) (fl:=[]) (by kernel_rfl) (by kernel_rfl) (by kernel_rfl) (by kernel_rfl) (by kernel_rfl) (by kernel_rfl) (by kernel_rfl) (by kernel_rfl) (s:=Zy) (by kernel_rfl)
  Sy (fun x=>by kernel_rfl) (fun x=>by kernel_rfl) t137
def Yo(p0:List bS)(p1:S8×S8×(List R5)×Unit):Option (Unit×(Y6×Y2×Unit)) :=
 cond (XR 56 p0) (
 cond (bj 56 p0 [p1]) (
 (Jd (fy p0 [p1])).bind fun y1 =>
 (Lt y1.2.1.1).bind fun y2 =>
 cond (!y2.2.1.1) (
 some ((),(([],()),(false,()),()))
 ) (
 some ((),(y1.2.1,(true,()),()))
 )
 ) none
 ) none
def s68:Su:=fU [.c false [bU],.c true [.str,.str,q5]] [(false,[bU]),(false,[.bool])] fun x=>Yo x.1.1 x.2.1
theorem Wc:aw Tryz.prog 68 s68 :=
 fq (ack Yk (ac Tj (ac Td an))) Tryz.f68
def g17(p0:(List gL)×Unit)(p1:List R5)(p2:Int):Option (Unit×(Y5×Y4×Unit)) :=
 (g55 p1).bind fun y1 =>
 (Zt p0).bind fun y2 =>
 cond (!y2.2.1.1) (
 let u1:=(Hg p0)
 Option.bind u1 fun y3 =>
 some ((),(y3.2.1,([],()),()))
 ) (
 (Ib p2).bind fun y3 =>
 cond (cond (!y3.2.1.1) true (aj y1.2.2.1.1 1)) (
 let u1:=(Hg p0)
 Option.bind u1 fun y4 =>
 some ((),(y4.2.1,([],()),()))
 ) (
 (Na p1 0 4).bind fun y4 =>
 (W8 y4.2.1.1).bind fun y5 =>
 cond (bw y5.2.1.1 []) (
 let u1:=(Hg p0)
 Option.bind u1 fun y6 =>
 some ((),(y6.2.1,([],()),()))
 ) (
 cond (!(aj y1.2.2.1.1 0)) (
 (g61 y4.2.1.1 1).bind fun y6 =>
 (g62 y6.2.1).bind fun y7 =>
 let u1:=(Hg p0)
 Option.bind u1 fun y8 =>
 some ((),(y8.2.1,y7.2.1,()))
 ) (
 (g63 y1.2.1).bind fun y6 =>
 cond (!(aj y6.2.2.1.1 0)) (
 let u1:=(Hg p0)
 Option.bind u1 fun y7 =>
 (RN y1.2.1 y6.2.2.1.1 [] []).bind fun y8 =>
 some ((),(y7.2.1,y8.2.1,()))
 ) (
 (W4 p0 y6.2.1.2.1).bind fun y7 =>
 cond (aD y7.2.1.1 0) (
 let u1:=(Hg p0)
 Option.bind u1 fun y8 =>
 (RN y1.2.1 3 [] []).bind fun y9 =>
 some ((),(y8.2.1,y9.2.1,()))
 ) (
 cond (aZ y7.2.1.1 p0.1) (
 (g66 (gt d94 p0.1 y7.2.1.1).2.2.2.2.2.2.2.2.2.2.1 y6.2.1.2.2.2.2.1 y6.2.1.2.2.2.2.2.1).bind fun y8 =>
 cond y8.2.2.1.1 (
 let u1:=(Hg p0)
 Option.bind u1 fun y9 =>
 some ((),(y9.2.1,y8.2.1,()))
 ) (
 cond (aZ y7.2.1.1 p0.1) (
 cond (aj (ae (gt d94 p0.1 y7.2.1.1).2.2.2.2.2.2.2.2.2.2.1) 6) (
 let u1:=(Hg p0)
 Option.bind u1 fun y9 =>
 (RN y1.2.1 10 [] []).bind fun y10 =>
 some ((),(y9.2.1,y10.2.1,()))
 ) (
 (YQ p0 y6.2.1 p2).bind fun y9 =>
 cond (!(aj y9.2.2.1.1 0)) (
 let u1:=(Hg p0)
 Option.bind u1 fun y10 =>
 let u2:=(RN y1.2.1 y9.2.2.1.1 y6.2.1.2.2.2.1 y9.2.2.2.1.1)
 Option.bind u2 fun y11 =>
 cond (aZ y7.2.1.1 y10.2.1.1) (
 let u3:=(gt d94 y10.2.1.1 y7.2.1.1)
 (Yo u3.2.2.2.2.2.2.2.2.2.2.1 (y6.2.1.2.2.2.2.1,y6.2.1.2.2.2.2.2.1,y11.2.1.1,())).bind fun y12 =>
 cond y12.2.2.1.1 (
 cond (aZ y7.2.1.1 y10.2.1.1) (
 some ((),(((cO y10.2.1.1 y7.2.1.1 (u3.1,u3.2.1,u3.2.2.1,u3.2.2.2.1,u3.2.2.2.2.1,u3.2.2.2.2.2.1,u3.2.2.2.2.2.2.1,u3.2.2.2.2.2.2.2.1,u3.2.2.2.2.2.2.2.2.1,u3.2.2.2.2.2.2.2.2.2.1,y12.2.1.1,())),()),y11.2.1,()))
 ) none
 ) (
 some ((),(y10.2.1,y11.2.1,()))
 )
 ) none
 ) (
 let u1:=(RN y1.2.1 y9.2.2.1.1 y6.2.1.2.2.2.1 y9.2.2.2.1.1)
 Option.bind u1 fun y10 =>
 cond (aZ y7.2.1.1 y9.2.1.1) (
 let u2:=(gt d94 y9.2.1.1 y7.2.1.1)
 (Yo u2.2.2.2.2.2.2.2.2.2.2.1 (y6.2.1.2.2.2.2.1,y6.2.1.2.2.2.2.2.1,y10.2.1.1,())).bind fun y11 =>
 cond y11.2.2.1.1 (
 cond (aZ y7.2.1.1 y9.2.1.1) (
 some ((),(((cO y9.2.1.1 y7.2.1.1 (u2.1,u2.2.1,u2.2.2.1,u2.2.2.2.1,u2.2.2.2.2.1,u2.2.2.2.2.2.1,u2.2.2.2.2.2.2.1,u2.2.2.2.2.2.2.2.1,u2.2.2.2.2.2.2.2.2.1,u2.2.2.2.2.2.2.2.2.2.1,y11.2.1.1,())),()),y10.2.1,()))
 ) none
 ) (
 some ((),(y9.2.1,y10.2.1,()))
 )
 ) none
 )
 )
 ) none
 )
 ) none
 )
 )
 )
 )
 )
 )
def s17:Su:=fU [.c true [lr],.c false [q5],.c false [ah]] [(true,[lr]),(false,[q5])] fun x=>g17 x.1 x.2.1.1 x.2.2.1.1
def Uj:List SE:=[]
def Zr:Nat->Option (Lo Uj)
 | _=>none
def Mf:List Y0:=[(59,iS s59),(55,iS s55),(57,iS s57),(56,iS s56),(58,iS s58),(60,iS s60),(61,iS s61),(62,iS s62),(63,iS s63),(64,iS s64),(65,iS s65),(66,iS s66),(67,iS YC),(68,iS s68)]
def CO:En:=vN 167 tt Mf Uj Zr [] fun _=>none
def aed:Nat->Option (St->Tr St)
 | 17=>some (gy CO (opsOf (bo 17 (ar Tryz.f17))) [(14,13)])
 | 26=>some (gy CO (opsOf (bo 26 (ar Tryz.f17))) [(16,15)])
 | _=>none
def Yu:En:=vN 167 tt Mf Uj Zr [] (aed)
theorem t17(x:PT s17.ps):(EU Yu (ar Tryz.f17) Tryz.f17.results.toList s17.ps s17.rs true x).run=g17 x.1 x.2.1.1 x.2.2.1.1:=by kernel_rfl
theorem Yi:dw Tryz.prog Yu:=cF (l:=Mf) ⟨Iv,WE,qo,N1,KF,OB,WG,Rh,U6,Vb,Ll,Up,VJ,Wc,trivial⟩
theorem Ji:dw Tryz.prog CO:=cF (l:=Mf) ⟨Iv,WE,qo,N1,KF,OB,WG,Rh,U6,Vb,Ll,Up,VJ,Wc,trivial⟩
theorem Ud:cY Tryz.prog Yu (bo 17 (ar Tryz.f17)) (gy CO (opsOf (bo 17 (ar Tryz.f17))) [(14,13)]) :=
 eu rfl rfl (kJ (E:=CO) (qW hT) Ji iU (c:=(bo 17 (ar Tryz.f17))) (id:=17) (by kernel_rfl))
theorem JC:dw Tryz.prog CO:=cF (l:=Mf) ⟨Iv,WE,qo,N1,KF,OB,WG,Rh,U6,Vb,Ll,Up,VJ,Wc,trivial⟩
theorem U0:cY Tryz.prog Yu (bo 26 (ar Tryz.f17)) (gy CO (opsOf (bo 26 (ar Tryz.f17))) [(16,15)]) :=
 eu rfl rfl (kJ (E:=CO) (qW hT) JC iU (c:=(bo 26 (ar Tryz.f17))) (id:=26) (by kernel_rfl))
theorem acP:aw Tryz.prog 17 s17 :=
 nN (E:=Yu) (qW hT) Yi iU (fn:=Tryz.f17) (c:=(ar Tryz.f17)) (by kernel_rfl) (by kernel_rfl) (by kernel_rfl) rfl (di [] (by kernel_rfl) trivial [(17,bo 17 (ar Tryz.f17)),(26,bo 26 (ar Tryz.f17))] (by kernel_rfl) ⟨sw rfl Ud,sw rfl U0,trivial⟩) fun x y h=>⟨y.1,fun _=>rfl,(t17 x).trans h⟩
def QJ(p0 p1:S8×Int×Int×Unit):Option gQ :=
 cond (!(bw p0.1 p1.1)) (
 c0
 ) (
 cond (!(aj p0.2.1 p1.2.1)) (
 c0
 ) (
 cond (!(aj p0.2.2.1 p1.2.2.1)) (
 c0
 ) (
 c4
 )
 )
 )
def adH:Su:=fU [.c true [.str,ah,ah],.c true [.str,ah,ah]] ic fun x=>QJ x.1 x.2.1
theorem Za:aw Tryz.prog 226 adH :=
 fq an Tryz.f226
def qg(t0 t1:List bm)(t5:Int):Rd ((List bm)×(List bm)×Int×Unit) Y2 :=
 cond (aD t5 (ae t0)) (
 cond (aZ t5 t0) (
 cond (aZ t5 t1) (
 (QJ (gt d192 t0 t5) (gt d192 t1 t5)).bind fun y1 =>
 cond (!y1.2.1.1) (
 eC (false,())
 ) (
 eA (t0,t1,(ak .i64 t5 1),())
 )
 ) none
 ) none
 ) (
 eB (t0,t1,t5,())
 )
def Mw:=pP (aq (fY qg))
def Q2(p0 p1:List bm):Option gQ :=
 cond (!(aj (ae p0) (ae p1))) (
 c0
 ) (
 (Mw p0 p1 0).bind (Sum.elim (fun _ =>
 c4
 ) (fun y1 =>
 some ((),(y1,()))
 ))
 )
def acx:Su:=fU [.c false [bB],.c false [bB]] ic fun x=>Q2 x.1.1 x.2.1.1
theorem Zd:aw Tryz.prog 154 acx :=
 fl (ac Za an) [.d 4 .bool] [(0,⟨[.d 0 bB,.d 1 bB,.d 5 ah],aq (fY qg)⟩)] [] Tryz.f154 (lp [0] (sc dM sn))
def wh(t0 t1:List R3)(t5:Int):Rd ((List R3)×(List R3)×Int×Unit) Y2 :=
 cond (aD t5 (ae t0)) (
 cond (aZ t5 t0) (
 cond (aZ t5 t1) (
 cond (!(aj (gt d3 t0 t5).1 (gt d3 t1 t5).1)) (
 eC (false,())
 ) (
 eA (t0,t1,(ak .i64 t5 1),())
 )
 ) none
 ) none
 ) (
 eB (t0,t1,t5,())
 )
def S1:=pP (aq (fY wh))
def YV(p0 p1:List R3):Option gQ :=
 cond (!(aj (ae p0) (ae p1))) (
 c0
 ) (
 (S1 p0 p1 0).bind (Sum.elim (fun _ =>
 c4
 ) (fun y1 =>
 some ((),(y1,()))
 ))
 )
def s32:Su:=fU [.c false [q3],.c false [q3]] ic fun x=>YV x.1.1 x.2.1.1
theorem adv:aw Tryz.prog 32 s32 :=
 fl an [.d 4 .bool] [(0,⟨[.d 0 q3,.d 1 q3,.d 5 ah],aq (fY wh)⟩)] [] Tryz.f32 (lp [0] (sc dM sn))
def Pw(p0 p1:Int×Int×(List R3)×(List R3)×Unit):Option gQ :=
 cond (!(aj p0.1 p1.1)) (
 c0
 ) (
 cond (!(aj p0.2.1 p1.2.1)) (
 c0
 ) (
 (YV p0.2.2.1 p1.2.2.1).bind fun y1 =>
 cond (!y1.2.1.1) (
 c0
 ) (
 (YV p0.2.2.2.1 p1.2.2.2.1).bind fun y2 =>
 cond (!y2.2.1.1) (
 c0
 ) (
 c4
 )
 )
 )
 )
def adu:Su:=fU [.c true [ah,ah,q3,q3],.c true [ah,ah,q3,q3]] ic fun x=>Pw x.1 x.2.1
theorem XI:aw Tryz.prog 155 adu :=
 fq (ac adv an) Tryz.f155
def wJ(t0 t1:List R5)(t5:Int):Rd ((List R5)×(List R5)×Int×Unit) Y2 :=
 cond (aD t5 (ae t0)) (
 cond (aZ t5 t0) (
 cond (aZ t5 t1) (
 cond (!(aj (gt d5 t0 t5).1 (gt d5 t1 t5).1)) (
 eC (false,())
 ) (
 eA (t0,t1,(ak .i64 t5 1),())
 )
 ) none
 ) none
 ) (
 eB (t0,t1,t5,())
 )
def SW:=pP (aq (fY wJ))
def g18(p0 p1:List R5):Option gQ :=
 cond (!(aj (ae p0) (ae p1))) (
 c0
 ) (
 (SW p0 p1 0).bind (Sum.elim (fun _ =>
 c4
 ) (fun y1 =>
 some ((),(y1,()))
 ))
 )
def s18:Su:=fU [.c false [q5],.c false [q5]] ic fun x=>g18 x.1.1 x.2.1.1
theorem XY:aw Tryz.prog 18 s18 :=
 fl an [.d 4 .bool] [(0,⟨[.d 0 q5,.d 1 q5,.d 5 ah],aq (fY wJ)⟩)] [] Tryz.f18 (lp [0] (sc dM sn))
def PV(p0 p1:S8×S8×(List R5)×Unit):Option gQ :=
 cond (!(bw p0.1 p1.1)) (
 c0
 ) (
 cond (!(bw p0.2.1 p1.2.1)) (
 c0
 ) (
 (g18 p0.2.2.1 p1.2.2.1).bind fun y1 =>
 cond (!y1.2.1.1) (
 c0
 ) (
 c4
 )
 )
 )
def acN:Su:=fU [.c true [.str,.str,q5],.c true [.str,.str,q5]] ic fun x=>PV x.1 x.2.1
theorem Zj:aw Tryz.prog 227 acN :=
 fq (ac XY an) Tryz.f227
def qS(t0 t1:List bS)(t5:Int):Rd ((List bS)×(List bS)×Int×Unit) Y2 :=
 cond (aD t5 (ae t0)) (
 cond (aZ t5 t0) (
 cond (aZ t5 t1) (
 (PV (gt d100 t0 t5) (gt d100 t1 t5)).bind fun y1 =>
 cond (!y1.2.1.1) (
 eC (false,())
 ) (
 eA (t0,t1,(ak .i64 t5 1),())
 )
 ) none
 ) none
 ) (
 eB (t0,t1,t5,())
 )
def KC:=pP (aq (fY qS))
def QH(p0 p1:List bS):Option gQ :=
 cond (!(aj (ae p0) (ae p1))) (
 c0
 ) (
 (KC p0 p1 0).bind (Sum.elim (fun _ =>
 c4
 ) (fun y1 =>
 some ((),(y1,()))
 ))
 )
def adW:Su:=fU [.c false [bU],.c false [bU]] ic fun x=>QH x.1.1 x.2.1.1
theorem aaP:aw Tryz.prog 156 adW :=
 fl (ac Zj an) [.d 4 .bool] [(0,⟨[.d 0 bU,.d 1 bU,.d 5 ah],aq (fY qS)⟩)] [] Tryz.f156 (lp [0] (sc dM sn))
def g76(p0 p1:S8×Int×Int×Int×Int×(List bm)×Int×Int×(List R3)×(List R3)×(List bS)×Unit):Option gQ :=
 cond (!(bw p0.1 p1.1)) (
 c0
 ) (
 cond (!(aj p0.2.1 p1.2.1)) (
 c0
 ) (
 cond (!(aj p0.2.2.1 p1.2.2.1)) (
 c0
 ) (
 cond (!(aj p0.2.2.2.1 p1.2.2.2.1)) (
 c0
 ) (
 cond (!(aj p0.2.2.2.2.1 p1.2.2.2.2.1)) (
 c0
 ) (
 (Q2 p0.2.2.2.2.2.1 p1.2.2.2.2.2.1).bind fun y1 =>
 cond (!y1.2.1.1) (
 c0
 ) (
 (Pw (p0.2.2.2.2.2.2.1,p0.2.2.2.2.2.2.2.1,p0.2.2.2.2.2.2.2.2.1,p0.2.2.2.2.2.2.2.2.2.1,()) (p1.2.2.2.2.2.2.1,p1.2.2.2.2.2.2.2.1,p1.2.2.2.2.2.2.2.2.1,p1.2.2.2.2.2.2.2.2.2.1,())).bind fun y2 =>
 cond (!y2.2.1.1) (
 c0
 ) (
 (QH p0.2.2.2.2.2.2.2.2.2.2.1 p1.2.2.2.2.2.2.2.2.2.2.1).bind fun y3 =>
 cond (!y3.2.1.1) (
 c0
 ) (
 c4
 )
 )
 )
 )
 )
 )
 )
 )
def s76:Su:=fU [.c true [.str,ah,ah,ah,ah,bB,ah,ah,q3,q3,bU],.c true [.str,ah,ah,ah,ah,bB,ah,ah,q3,q3,bU]] ic fun x=>g76 x.1 x.2.1
theorem adk:aw Tryz.prog 76 s76 :=
 fq (ac Zd (ac XI (ac aaP an))) Tryz.f76
def x7(t0 t1:List gL)(t5:Int):Rd ((List gL)×(List gL)×Int×Unit) Y2 :=
 cond (aD t5 (ae t0)) (
 cond (aZ t5 t0) (
 cond (aZ t5 t1) (
 (g76 (gt d94 t0 t5) (gt d94 t1 t5)).bind fun y1 =>
 cond (!y1.2.1.1) (
 eC (false,())
 ) (
 eA (t0,t1,(ak .i64 t5 1),())
 )
 ) none
 ) none
 ) (
 eB (t0,t1,t5,())
 )
def Ta:=pP (aq (fY x7))
def g39(p0 p1:List gL):Option gQ :=
 cond (!(aj (ae p0) (ae p1))) (
 c0
 ) (
 (Ta p0 p1 0).bind (Sum.elim (fun _ =>
 c4
 ) (fun y1 =>
 some ((),(y1,()))
 ))
 )
def s39:Su:=fU [.c false [lr],.c false [lr]] ic fun x=>g39 x.1.1 x.2.1.1
theorem acm:aw Tryz.prog 39 s39 :=
 fl (ac adk an) [.d 4 .bool] [(0,⟨[.d 0 lr,.d 1 lr,.d 5 ah],aq (fY x7)⟩)] [] Tryz.f39 (lp [0] (sc dM sn))
def g13(p0 p1:(List gL)×Unit):Option gQ :=
 (g39 p0.1 p1.1).bind fun y1 =>
 cond (!y1.2.1.1) (
 c0
 ) (
 c4
 )
def s13:Su:=fU [.c true [lr],.c true [lr]] ic fun x=>g13 x.1 x.2.1
theorem adV:aw Tryz.prog 13 s13 :=
 fq (ac acm an) Tryz.f13
def nR(t0:Int)(t3:S8):Rd YA Unit :=
 cond (aD 0 t0) (
 let u1:=(strOf [((cW .u8 (ak .i64 48 (dP t0 10))),())])
 cond (iJ u1 t3) (
 eA ((jr .i64 t0 10),(rN u1 t3),())
 ) none
 ) (
 eB (t0,t3,())
 )
def Mm:=OO (aq (x3 nR))
def uD(p0:Int):Option Au :=
 cond (bT p0 0) (
 zR [109,48]
 ) (
 (Mm p0 []).bind (Sum.elim (fun y1 =>
 cond (iJ [109] y1.2.1) (
 zR (rN [109] y1.2.1)
 ) none
 ) (fun _ =>
 none
 ))
 )
def adY:Su:=fU [.c false [ah]] BQ fun x=>uD x.1.1
theorem zo:aw Tryz.prog 139 adY :=
 fl an [] [(0,⟨[.d 0 ah,.d 3 .str],aq (x3 nR)⟩)] [] Tryz.f139 (lp [0] (sc dM sn))
def qy(t0:List bm)(t1 t5:Int):Rd ((List bm)×Int×Int×Unit) Unit :=
 cond (aD t5 (ae t0)) (
 (uD t1).bind fun y1 =>
 cond (aZ t5 t0) (
 let u1:=(gt d192 t0 t5)
 let u2:=(cO t0 t5 (y1.2.1.1,u1.2.1,u1.2.2.1,()))
 cond (aZ t5 u2) (
 let u3:=(gt d192 u2 t5)
 let u4:=(ak .i64 t1 1)
 let u5:=(cO u2 t5 (u3.1,u4,u3.2.2.1,()))
 cond (aZ t5 u5) (
 let u6:=(gt d192 u5 t5)
 let u7:=(ak .i64 u4 1)
 eA ((cO u5 t5 (u6.1,u6.2.1,u7,())),(ak .i64 u7 1),(ak .i64 t5 1),())
 ) none
 ) none
 ) none
 ) (
 eB (t0,t1,t5,())
 )
def Me:=pP (aq (fY qy))
def PG(p0:List bm)(p1:Int):Option ((Y7×Unit)×Y8) :=
 (Me p0 p1 0).bind (Sum.elim (fun y1 =>
 some (((y1.1,()),()),((y1.2.1,()),()))
 ) (fun _ =>
 none
 ))
def acu:Su:=fU [.io false [bB],.c false [ah]] iX fun x=>PG x.1.1 x.2.1.1
theorem Zp:aw Tryz.prog 140 acu :=
 fl (ac zo an) [] [(0,⟨[.own 0 bB,.d 1 ah,.d 5 ah],aq (fY qy)⟩)] [0] Tryz.f140 (lp [0] (sc dM sn))
def xu(t0:List R3)(t1 t5:Int):Rd ((List R3)×Int×Int×Unit) Unit :=
 cond (aD t5 (ae t0)) (
 cond (aZ t5 t0) (
 eA ((cO t0 t5 (t1,())),(ak .i64 t1 1),(ak .i64 t5 1),())
 ) none
 ) (
 eB (t0,t1,t5,())
 )
def T7:=pP (aq (fY xu))
def g33(p0:List R3)(p1:Int):Option ((J3×Unit)×Y8) :=
 (T7 p0 p1 0).bind (Sum.elim (fun y1 =>
 some (((y1.1,()),()),((y1.2.1,()),()))
 ) (fun _ =>
 none
 ))
def s33:Su:=fU [.io false [q3],.c false [ah]] iX fun x=>g33 x.1.1 x.2.1.1
theorem adK:aw Tryz.prog 33 s33 :=
 fl an [] [(0,⟨[.own 0 q3,.d 1 ah,.d 5 ah],aq (fY xu)⟩)] [0] Tryz.f33 (lp [0] (sc dM sn))
def wT(t0:List R5)(t1 t5:Int):Rd ((List R5)×Int×Int×Unit) Unit :=
 cond (aD t5 (ae t0)) (
 cond (aZ t5 t0) (
 eA ((cO t0 t5 ((cW .u8 t1),())),(ak .i64 t1 1),(ak .i64 t5 1),())
 ) none
 ) (
 eB (t0,t1,t5,())
 )
def SY:=pP (aq (fY wT))
def g20(p0:List R5)(p1:Int):Option ((Y4×Unit)×Y8) :=
 (SY p0 p1 0).bind (Sum.elim (fun y1 =>
 some (((y1.1,()),()),((y1.2.1,()),()))
 ) (fun _ =>
 none
 ))
def s20:Su:=fU [.io false [q5],.c false [ah]] iX fun x=>g20 x.1.1 x.2.1.1
theorem YK:aw Tryz.prog 20 s20 :=
 fl an [] [(0,⟨[.own 0 q5,.d 1 ah,.d 5 ah],aq (fY wT)⟩)] [0] Tryz.f20 (lp [0] (sc dM sn))
def p9(t0:List bS)(t1 t5:Int):Rd ((List bS)×Int×Int×Unit) Unit :=
 cond (aD t5 (ae t0)) (
 (uD t1).bind fun y1 =>
 cond (aZ t5 t0) (
 let u1:=(ak .i64 t1 1)
 (uD u1).bind fun y2 =>
 let u2:=(gt d100 t0 t5)
 let u3:=(cO t0 t5 (y1.2.1.1,u2.2.1,u2.2.2.1,()))
 cond (aZ t5 u3) (
 let u4:=(gt d100 u3 t5)
 let u5:=(cO u3 t5 (u4.1,y2.2.1.1,u4.2.2.1,()))
 cond (aZ t5 u5) (
 let u6:=(gt d100 u5 t5)
 (g20 u6.2.2.1 (ak .i64 u1 1)).bind fun y3 =>
 eA ((cO u5 t5 (u6.1,u6.2.1,y3.1.1.1,())),y3.2.1.1,(ak .i64 t5 1),())
 ) none
 ) none
 ) none
 ) (
 eB (t0,t1,t5,())
 )
def Km:=pP (aq (fY p9))
def Pf(p0:List bS)(p1:Int):Option ((Y6×Unit)×Y8) :=
 (Km p0 p1 0).bind (Sum.elim (fun y1 =>
 some (((y1.1,()),()),((y1.2.1,()),()))
 ) (fun _ =>
 none
 ))
def acs:Su:=fU [.io false [bU],.c false [ah]] iX fun x=>Pf x.1.1 x.2.1.1
theorem ZD:aw Tryz.prog 141 acs :=
 fl (ac zo (ac YK an)) [] [(0,⟨[.own 0 bU,.d 1 ah,.d 5 ah],aq (fY p9)⟩)] [0] Tryz.f141 (lp [0] (sc dM sn))
def xr(t0:List gL)(t1 t5:Int):Rd ((List gL)×Int×Int×Unit) Unit :=
 cond (aD t5 (ae t0)) (
 (uD t1).bind fun y1 =>
 cond (aZ t5 t0) (
 let u1:=(gt d94 t0 t5)
 let u2:=(cO t0 t5 (y1.2.1.1,u1.2.1,u1.2.2.1,u1.2.2.2.1,u1.2.2.2.2.1,u1.2.2.2.2.2.1,u1.2.2.2.2.2.2.1,u1.2.2.2.2.2.2.2.1,u1.2.2.2.2.2.2.2.2.1,u1.2.2.2.2.2.2.2.2.2.1,u1.2.2.2.2.2.2.2.2.2.2.1,()))
 cond (aZ t5 u2) (
 let u3:=(gt d94 u2 t5)
 let u4:=(ak .i64 t1 1)
 let u5:=(cO u2 t5 (u3.1,u4,u3.2.2.1,u3.2.2.2.1,u3.2.2.2.2.1,u3.2.2.2.2.2.1,u3.2.2.2.2.2.2.1,u3.2.2.2.2.2.2.2.1,u3.2.2.2.2.2.2.2.2.1,u3.2.2.2.2.2.2.2.2.2.1,u3.2.2.2.2.2.2.2.2.2.2.1,()))
 cond (aZ t5 u5) (
 let u6:=(gt d94 u5 t5)
 let u7:=(ak .i64 u4 1)
 let u8:=(cO u5 t5 (u6.1,u6.2.1,u7,u6.2.2.2.1,u6.2.2.2.2.1,u6.2.2.2.2.2.1,u6.2.2.2.2.2.2.1,u6.2.2.2.2.2.2.2.1,u6.2.2.2.2.2.2.2.2.1,u6.2.2.2.2.2.2.2.2.2.1,u6.2.2.2.2.2.2.2.2.2.2.1,()))
 cond (aZ t5 u8) (
 let u9:=(gt d94 u8 t5)
 let u10:=(ak .i64 u7 1)
 let u11:=(cO u8 t5 (u9.1,u9.2.1,u9.2.2.1,u10,u9.2.2.2.2.1,u9.2.2.2.2.2.1,u9.2.2.2.2.2.2.1,u9.2.2.2.2.2.2.2.1,u9.2.2.2.2.2.2.2.2.1,u9.2.2.2.2.2.2.2.2.2.1,u9.2.2.2.2.2.2.2.2.2.2.1,()))
 cond (aZ t5 u11) (
 let u12:=(gt d94 u11 t5)
 let u13:=(ak .i64 u10 1)
 let u14:=(cO u11 t5 (u12.1,u12.2.1,u12.2.2.1,u12.2.2.2.1,u13,u12.2.2.2.2.2.1,u12.2.2.2.2.2.2.1,u12.2.2.2.2.2.2.2.1,u12.2.2.2.2.2.2.2.2.1,u12.2.2.2.2.2.2.2.2.2.1,u12.2.2.2.2.2.2.2.2.2.2.1,()))
 cond (aZ t5 u14) (
 let u15:=(gt d94 u14 t5)
 (PG u15.2.2.2.2.2.1 (ak .i64 u13 1)).bind fun y2 =>
 let u16:=(cO u14 t5 (u15.1,u15.2.1,u15.2.2.1,u15.2.2.2.1,u15.2.2.2.2.1,y2.1.1.1,u15.2.2.2.2.2.2.1,u15.2.2.2.2.2.2.2.1,u15.2.2.2.2.2.2.2.2.1,u15.2.2.2.2.2.2.2.2.2.1,u15.2.2.2.2.2.2.2.2.2.2.1,()))
 cond (aZ t5 u16) (
 let u17:=(gt d94 u16 t5)
 let u18:=(cO u16 t5 (u17.1,u17.2.1,u17.2.2.1,u17.2.2.2.1,u17.2.2.2.2.1,u17.2.2.2.2.2.1,y2.2.1.1,u17.2.2.2.2.2.2.2.1,u17.2.2.2.2.2.2.2.2.1,u17.2.2.2.2.2.2.2.2.2.1,u17.2.2.2.2.2.2.2.2.2.2.1,()))
 cond (aZ t5 u18) (
 let u19:=(gt d94 u18 t5)
 let u20:=(ak .i64 y2.2.1.1 1)
 let u21:=(cO u18 t5 (u19.1,u19.2.1,u19.2.2.1,u19.2.2.2.1,u19.2.2.2.2.1,u19.2.2.2.2.2.1,u19.2.2.2.2.2.2.1,u20,u19.2.2.2.2.2.2.2.2.1,u19.2.2.2.2.2.2.2.2.2.1,u19.2.2.2.2.2.2.2.2.2.2.1,()))
 cond (aZ t5 u21) (
 let u22:=(gt d94 u21 t5)
 (g33 u22.2.2.2.2.2.2.2.2.1 (ak .i64 u20 1)).bind fun y3 =>
 let u23:=(cO u21 t5 (u22.1,u22.2.1,u22.2.2.1,u22.2.2.2.1,u22.2.2.2.2.1,u22.2.2.2.2.2.1,u22.2.2.2.2.2.2.1,u22.2.2.2.2.2.2.2.1,y3.1.1.1,u22.2.2.2.2.2.2.2.2.2.1,u22.2.2.2.2.2.2.2.2.2.2.1,()))
 cond (aZ t5 u23) (
 let u24:=(gt d94 u23 t5)
 (g33 u24.2.2.2.2.2.2.2.2.2.1 y3.2.1.1).bind fun y4 =>
 let u25:=(cO u23 t5 (u24.1,u24.2.1,u24.2.2.1,u24.2.2.2.1,u24.2.2.2.2.1,u24.2.2.2.2.2.1,u24.2.2.2.2.2.2.1,u24.2.2.2.2.2.2.2.1,u24.2.2.2.2.2.2.2.2.1,y4.1.1.1,u24.2.2.2.2.2.2.2.2.2.2.1,()))
 cond (aZ t5 u25) (
 let u26:=(gt d94 u25 t5)
 (Pf u26.2.2.2.2.2.2.2.2.2.2.1 y4.2.1.1).bind fun y5 =>
 eA ((cO u25 t5 (u26.1,u26.2.1,u26.2.2.1,u26.2.2.2.1,u26.2.2.2.2.1,u26.2.2.2.2.2.1,u26.2.2.2.2.2.2.1,u26.2.2.2.2.2.2.2.1,u26.2.2.2.2.2.2.2.2.1,u26.2.2.2.2.2.2.2.2.2.1,y5.1.1.1,())),y5.2.1.1,(ak .i64 t5 1),())
 ) none
 ) none
 ) none
 ) none
 ) none
 ) none
 ) none
 ) none
 ) none
 ) none
 ) none
 ) (
 eB (t0,t1,t5,())
 )
def TS:=pP (aq (fY xr))
def g69(p0:List gL)(p1:Int):Option ((Y5×Unit)×Y8) :=
 (TS p0 p1 0).bind (Sum.elim (fun y1 =>
 some (((y1.1,()),()),((y1.2.1,()),()))
 ) (fun _ =>
 none
 ))
def s69:Su:=fU [.io false [lr],.c false [ah]] iX fun x=>g69 x.1.1 x.2.1.1
theorem acU:aw Tryz.prog 69 s69 :=
 fl (ac zo (ac Zp (ac adK (ac ZD an)))) [] [(0,⟨[.own 0 lr,.d 1 ah,.d 5 ah],aq (fY xr)⟩)] [0] Tryz.f69 (lp [0] (sc dM sn))
def g19(p0:(List gL)×Unit)(p1:Int):Option ((Y5×Unit)×Y8) :=
 (g69 p0.1 p1).bind fun y1 =>
 some ((y1.1.1,()),(y1.2.1,()))
def s19:Su:=fU [.io true [lr],.c false [ah]] iX fun x=>g19 x.1 x.2.1.1
theorem acQ:aw Tryz.prog 19 s19 :=
 fl (ac acU an) [] [] [0] Tryz.f19 dM
def rk(t0:List bm)(t1 t5:Int):Rd ((List bm)×Int×Int×Unit) Y1 :=
 cond (aD t5 (ae t0)) (
 cond (aZ t5 t0) (
 (uD t1).bind fun y1 =>
 let u1:=(gt d192 t0 t5)
 cond (!(bw u1.1 y1.2.1.1)) (
 eC ((-1),())
 ) (
 cond (aZ t5 t0) (
 let u2:=(ak .i64 t1 1)
 cond (!(aj u1.2.1 u2)) (
 eC ((-1),())
 ) (
 cond (aZ t5 t0) (
 let u3:=(ak .i64 u2 1)
 cond (!(aj u1.2.2.1 u3)) (
 eC ((-1),())
 ) (
 eA (t0,(ak .i64 u3 1),(ak .i64 t5 1),())
 )
 ) none
 )
 ) none
 )
 ) none
 ) (
 eB (t0,t1,t5,())
 )
def MS:=pP (aq (fY rk))
def Pj(p0:List bm)(p1:Int):Option ib :=
 (MS p0 p1 0).bind (Sum.elim (fun y1 =>
 zR y1.2.1
 ) (fun y1 =>
 some ((),(y1,()))
 ))
def ad5:Su:=fU [.c false [bB],.c false [ah]] iX fun x=>Pj x.1.1 x.2.1.1
theorem aa3:aw Tryz.prog 142 ad5 :=
 fl (ac zo an) [.d 4 ah] [(0,⟨[.d 0 bB,.d 1 ah,.d 5 ah],aq (fY rk)⟩)] [] Tryz.f142 (lp [0] (sc dM sn))
def qU(t0:List R3)(t1 t5:Int):Rd ((List R3)×Int×Int×Unit) Y1 :=
 cond (aD t5 (ae t0)) (
 cond (aZ t5 t0) (
 cond (!(aj (gt d3 t0 t5).1 t1)) (
 eC ((-1),())
 ) (
 eA (t0,(ak .i64 t1 1),(ak .i64 t5 1),())
 )
 ) none
 ) (
 eB (t0,t1,t5,())
 )
def NC:=pP (aq (fY qU))
def Lx(p0:List R3)(p1:Int):Option ib :=
 (NC p0 p1 0).bind (Sum.elim (fun y1 =>
 zR y1.2.1
 ) (fun y1 =>
 some ((),(y1,()))
 ))
def ade:Su:=fU [.c false [q3],.c false [ah]] iX fun x=>Lx x.1.1 x.2.1.1
theorem Yf:aw Tryz.prog 143 ade :=
 fl an [.d 4 ah] [(0,⟨[.d 0 q3,.d 1 ah,.d 5 ah],aq (fY qU)⟩)] [] Tryz.f143 (lp [0] (sc dM sn))
def xm(t0:List R5)(t1 t5:Int):Rd ((List R5)×Int×Int×Unit) Y1 :=
 cond (aD t5 (ae t0)) (
 cond (aZ t5 t0) (
 cond (!(aj (gt d5 t0 t5).1 (cW .u8 t1))) (
 eC ((-1),())
 ) (
 eA (t0,(ak .i64 t1 1),(ak .i64 t5 1),())
 )
 ) none
 ) (
 eB (t0,t1,t5,())
 )
def T2:=pP (aq (fY xm))
def g22(p0:List R5)(p1:Int):Option ib :=
 (T2 p0 p1 0).bind (Sum.elim (fun y1 =>
 zR y1.2.1
 ) (fun y1 =>
 some ((),(y1,()))
 ))
def s22:Su:=fU [.c false [q5],.c false [ah]] iX fun x=>g22 x.1.1 x.2.1.1
theorem aaF:aw Tryz.prog 22 s22 :=
 fl an [.d 4 ah] [(0,⟨[.d 0 q5,.d 1 ah,.d 5 ah],aq (fY xm)⟩)] [] Tryz.f22 (lp [0] (sc dM sn))
def qP(t0:List bS)(t1 t5:Int):Rd ((List bS)×Int×Int×Unit) Y1 :=
 cond (aD t5 (ae t0)) (
 cond (aZ t5 t0) (
 (uD t1).bind fun y1 =>
 let u1:=(gt d100 t0 t5)
 cond (!(bw u1.1 y1.2.1.1)) (
 eC ((-1),())
 ) (
 cond (aZ t5 t0) (
 let u2:=(ak .i64 t1 1)
 (uD u2).bind fun y2 =>
 cond (!(bw u1.2.1 y2.2.1.1)) (
 eC ((-1),())
 ) (
 cond (aZ t5 t0) (
 (g22 u1.2.2.1 (ak .i64 u2 1)).bind fun y3 =>
 cond (aD y3.2.1.1 0) (
 eC ((-1),())
 ) (
 eA (t0,y3.2.1.1,(ak .i64 t5 1),())
 )
 ) none
 )
 ) none
 )
 ) none
 ) (
 eB (t0,t1,t5,())
 )
def Kb:=pP (aq (fY qP))
def PO(p0:List bS)(p1:Int):Option ib :=
 (Kb p0 p1 0).bind (Sum.elim (fun y1 =>
 zR y1.2.1
 ) (fun y1 =>
 some ((),(y1,()))
 ))
def ads:Su:=fU [.c false [bU],.c false [ah]] iX fun x=>PO x.1.1 x.2.1.1
theorem YH:aw Tryz.prog 144 ads :=
 fl (ac zo (ac aaF an)) [.d 4 ah] [(0,⟨[.d 0 bU,.d 1 ah,.d 5 ah],aq (fY qP)⟩)] [] Tryz.f144 (lp [0] (sc dM sn))
def wS(t0:List gL)(t1 t5:Int):Rd ((List gL)×Int×Int×Unit) Y1 :=
 cond (aD t5 (ae t0)) (
 cond (aZ t5 t0) (
 (uD t1).bind fun y1 =>
 let u1:=(gt d94 t0 t5)
 cond (!(bw u1.1 y1.2.1.1)) (
 eC ((-1),())
 ) (
 cond (aZ t5 t0) (
 let u2:=(ak .i64 t1 1)
 cond (!(aj u1.2.1 u2)) (
 eC ((-1),())
 ) (
 cond (aZ t5 t0) (
 let u3:=(ak .i64 u2 1)
 cond (!(aj u1.2.2.1 u3)) (
 eC ((-1),())
 ) (
 cond (aZ t5 t0) (
 let u4:=(ak .i64 u3 1)
 cond (!(aj u1.2.2.2.1 u4)) (
 eC ((-1),())
 ) (
 cond (aZ t5 t0) (
 let u5:=(ak .i64 u4 1)
 cond (!(aj u1.2.2.2.2.1 u5)) (
 eC ((-1),())
 ) (
 cond (aZ t5 t0) (
 (Pj u1.2.2.2.2.2.1 (ak .i64 u5 1)).bind fun y2 =>
 cond (aD y2.2.1.1 0) (
 eC ((-1),())
 ) (
 cond (aZ t5 t0) (
 cond (!(aj u1.2.2.2.2.2.2.1 y2.2.1.1)) (
 eC ((-1),())
 ) (
 cond (aZ t5 t0) (
 let u6:=(ak .i64 y2.2.1.1 1)
 cond (!(aj u1.2.2.2.2.2.2.2.1 u6)) (
 eC ((-1),())
 ) (
 cond (aZ t5 t0) (
 (Lx u1.2.2.2.2.2.2.2.2.1 (ak .i64 u6 1)).bind fun y3 =>
 cond (aD y3.2.1.1 0) (
 eC ((-1),())
 ) (
 cond (aZ t5 t0) (
 (Lx u1.2.2.2.2.2.2.2.2.2.1 y3.2.1.1).bind fun y4 =>
 cond (aD y4.2.1.1 0) (
 eC ((-1),())
 ) (
 cond (aZ t5 t0) (
 (PO u1.2.2.2.2.2.2.2.2.2.2.1 y4.2.1.1).bind fun y5 =>
 cond (aD y5.2.1.1 0) (
 eC ((-1),())
 ) (
 eA (t0,y5.2.1.1,(ak .i64 t5 1),())
 )
 ) none
 )
 ) none
 )
 ) none
 )
 ) none
 )
 ) none
 )
 ) none
 )
 ) none
 )
 ) none
 )
 ) none
 )
 ) none
 )
 ) none
 ) (
 eB (t0,t1,t5,())
 )
def SJ:=pP (aq (fY wS))
def g70(p0:List gL)(p1:Int):Option ib :=
 (SJ p0 p1 0).bind (Sum.elim (fun y1 =>
 zR y1.2.1
 ) (fun y1 =>
 some ((),(y1,()))
 ))
def s70:Su:=fU [.c false [lr],.c false [ah]] iX fun x=>g70 x.1.1 x.2.1.1
theorem ad6:aw Tryz.prog 70 s70 :=
 fl (ac zo (ac aa3 (ac Yf (ac YH an)))) [.d 4 ah] [(0,⟨[.d 0 lr,.d 1 ah,.d 5 ah],aq (fY wS)⟩)] [] Tryz.f70 (lp [0] (sc dM sn))
def g21(p0:(List gL)×Unit)(p1:Int):Option ib :=
 (g70 p0.1 p1).bind fun y1 =>
 cond (aD y1.2.1.1 0) (
 c2
 ) (
 some ((),(y1.2.1,()))
 )
def s21:Su:=fU [.c true [lr],.c false [ah]] iX fun x=>g21 x.1 x.2.1.1
theorem ab3:aw Tryz.prog 21 s21 :=
 fq (ac ad6 an) Tryz.f21
def g4(p0:(List ir)×Unit)(p1:List R5)(p2:Int):Option gQ :=
 cond (aD 1048576 (ae p1)) (
 c4
 ) (
 (g7 p0 1048576).bind fun y1 =>
 cond (aD y1.2.1.1 0) (
 c4
 ) (
 let u1:=(g10 p0)
 Option.bind u1 fun y2 =>
 let u2:=(g16 p1)
 Option.bind u2 fun y3 =>
 (g15 y2.2.1 y3.2.1.1 p2).bind fun y4 =>
 Option.bind u1 fun y5 =>
 Option.bind u2 fun y6 =>
 (g17 y5.2.1 y6.2.1.1 p2).bind fun y7 =>
 let u3:=(g13 y7.2.1 y4.2.1)
 Option.bind u3 fun y8 =>
 cond (!y8.2.1.1) (
 c0
 ) (
 let u4:=(g18 y7.2.2.1.1 y4.2.2.1.1)
 Option.bind u4 fun y9 =>
 cond (!y9.2.1.1) (
 c0
 ) (
 Option.bind u1 fun y10 =>
 (g13 y5.2.1 y10.2.1).bind fun y11 =>
 cond (!y11.2.1.1) (
 c0
 ) (
 Option.bind u2 fun y12 =>
 (g18 y6.2.1.1 y12.2.1.1).bind fun y13 =>
 cond (!y13.2.1.1) (
 c0
 ) (
 (g19 y5.2.1 1).bind fun y14 =>
 (g20 y6.2.1.1 y14.2.1.1).bind fun y15 =>
 cond (aD y15.2.1.1 0) (
 c0
 ) (
 Option.bind u3 fun y16 =>
 cond (!y16.2.1.1) (
 c0
 ) (
 Option.bind u4 fun y17 =>
 cond (!y17.2.1.1) (
 c0
 ) (
 (g19 y7.2.1 1).bind fun y18 =>
 (g20 y7.2.2.1.1 y18.2.1.1).bind fun y19 =>
 let u5:=(g21 y18.1.1 1)
 Option.bind u5 fun y20 =>
 cond (aD y20.2.1.1 0) (
 c0
 ) (
 (g22 y19.1.1.1 y20.2.1.1).bind fun y21 =>
 cond (aD y21.2.1.1 0) (
 c0
 ) (
 cond (!(aj y21.2.1.1 y19.2.1.1)) (
 c0
 ) (
 Option.bind u1 fun y22 =>
 Option.bind u2 fun y23 =>
 (g17 y22.2.1 y23.2.1.1 p2).bind fun y24 =>
 (g13 y24.2.1 y4.2.1).bind fun y25 =>
 cond (!y25.2.1.1) (
 c0
 ) (
 (g18 y24.2.2.1.1 y4.2.2.1.1).bind fun y26 =>
 cond (!y26.2.1.1) (
 c0
 ) (
 Option.bind u5 fun y27 =>
 cond (aD y27.2.1.1 0) (
 c0
 ) (
 (g22 y19.1.1.1 y27.2.1.1).bind fun y28 =>
 cond (aD y28.2.1.1 0) (
 c0
 ) (
 cond (!(aj y28.2.1.1 y19.2.1.1)) (
 c0
 ) (
 c4
 )
 )
 )
 )
 )
 )
 )
 )
 )
 )
 )
 )
 )
 )
 )
 )
 )
def s4:Su:=fU [.c true [Er],.c false [q5],.c false [ah]] ic fun x=>g4 x.1 x.2.1.1 x.2.2.1.1
theorem ok4:aw Tryz.prog 4 s4 :=
 fq (ac ok7 (ac ZG (ac ac0 (ac ab5 (ac acP (ac XY (ac adV (ac YK (ac acQ (ac aaF (ac ab3 an))))))))))) Tryz.f4
end
end Go.Av
