/- Part of a proof that the law FnExactRestripe answers true for every input: the printed functions of this program and their plain laws. No conditions beyond the statement. -/
import Derived.Test.YtbgoaopannojjaaGreatDoorP1a
set_option maxRecDepth 100000
namespace Go.Av
open Go.Proofs
set_option maxHeartbeats 4000000
noncomputable section
def AP (p0:Int):Option (Unit×(Hs×Unit)) :=
 (mS p0 1 8).bind fun y1 =>
 cond (!y1.2.1.1) (
 some ((),(([],[],[],[],()),()))
 ) (
 (OQ).bind fun y2 =>
 let u1:=(aO .i64 p0 1)
 cond (aR u1 y2.2.1.1) (
 some ((),((gt d198 y2.2.1.1 u1),()))
 ) none
 )
def abS:Su:=⟨[.c false [ki]],[(true,[.str,.str,.str,q3])],false,.inl fun x=>AP x.1.1⟩
theorem Jk:ar Tryz.prog 214 abS :=
 fl (ac lR (ac Ri an)) [] [] [999999] Tryz.f214 cN
def qa (t0:List R3) (t1 t7 t8:Int):Rd ((List R3)×Int×Int×Int×Unit) Y1 :=
 cond (aw t8 t7) (
 cond (aR t8 t0) (
 cond (aq t1 (gt d3 t0 t8).1) (
 some (.inr (.inr (t8,())))
 ) (
 some (.inl (t0,t1,t7,(aj .i64 t8 1),()))
 )
 ) none
 ) (
 some (.inr (.inl (t0,t1,t7,t8,())))
 )
def ME:=mm (ah (cV qa))
def TR (p0:List R3) (p1:Int):Option im :=
 (ME p0 p1 (ae p0) 0).bind (Sum.elim (fun _ =>
 c3
 ) (fun y1 =>
 some ((),(y1,()))
 ))
def aa7:Su:=⟨[.c false [q3],.c false [ki]],[(false,[ki])],true,.inl fun x=>TR x.1.1 x.2.1.1⟩
theorem W0:ar Tryz.prog 134 aa7 :=
 fl an [.d 4 ki] [(0,⟨[.d 0 q3,.d 1 ki,.d 7 ki,.d 8 ki],ah (cV qa)⟩)] [] Tryz.f134 (lp [0] (sc cN sn))
def SX (p0:List R3) (p1:Int):Option dY :=
 (TR p0 p1).bind fun y1 =>
 some ((),(((bL 0 y1.2.1.1),()),()))
def s76:Su:=⟨[.c false [q3],.c false [ki]],[(false,[.bool])],true,.inl fun x=>SX x.1.1 x.2.1.1⟩
theorem S6:ar Tryz.prog 76 s76 :=
 fq (ac W0 an) Tryz.f76
def kP (p0 p1:Int):Option dY :=
 (AP p0).bind fun y1 =>
 (SX y1.2.1.2.2.2.1 p1).bind fun y2 =>
 some ((),(y2.2.1,()))
def acx:Su:=⟨[.c false [ki],.c false [ki]],[(false,[.bool])],true,.inl fun x=>kP x.1.1 x.2.1.1⟩
theorem X7:ar Tryz.prog 273 acx :=
 fq (ac Jk (ac S6 an)) Tryz.f273
def Mx (p0:Int×(List UInt8)×(List UInt8)×(List UInt8)×(List UInt8)×(List UInt8)×Int×Int×Unit):Option dY :=
 (AP p0.1).bind fun y1 =>
 cond (cond (cC y1.2.1.2.2.1 []) true (!(cC p0.2.2.2.2.2.1 y1.2.1.1))) (
 c0
 ) (
 (sD p0.2.1).bind fun y2 =>
 cond (!y2.2.1.1) (
 c0
 ) (
 (xy p0.2.2.2.2.1 6).bind fun y3 =>
 cond (!y3.2.1.1) (
 c0
 ) (
 (kP p0.1 38).bind fun y4 =>
 cond y4.2.1.1 (
 (Jp p0.2.2.2.1).bind fun y5 =>
 let u1:=(kP p0.1 4)
 Option.bind u1 fun y6 =>
 cond y6.2.1.1 (
 let u2:=(mS p0.2.2.2.2.2.2.1 0 999999999999)
 Option.bind u2 fun y7 =>
 let u3:=(kP p0.1 14)
 Option.bind u3 fun y8 =>
 cond y8.2.1.1 (
 let u4:=(mS p0.2.2.2.2.2.2.2.1 0 9999)
 Option.bind u4 fun y9 =>
 let u5:=(kP p0.1 103)
 Option.bind u5 fun y10 =>
 cond y10.2.1.1 (
 let u6:=(sD p0.2.2.1)
 Option.bind u6 fun y11 =>
 let u7:=(cond y5.2.1.1 y7.2.1.1 false)
 let u8:=(cond u7 y9.2.1.1 false)
 some ((),(((cond u8 y11.2.1.1 false),()),()))
 ) (
 let u6:=(cond y5.2.1.1 y7.2.1.1 false)
 let u7:=(cond u6 y9.2.1.1 false)
 let u8:=(cC p0.2.2.1 [])
 some ((),(((cond u7 u8 false),()),()))
 )
 ) (
 let u4:=(kP p0.1 103)
 Option.bind u4 fun y9 =>
 cond y9.2.1.1 (
 let u5:=(sD p0.2.2.1)
 Option.bind u5 fun y10 =>
 let u6:=(cond y5.2.1.1 y7.2.1.1 false)
 let u7:=(cond u6 (aq p0.2.2.2.2.2.2.2.1 0) false)
 some ((),(((cond u7 y10.2.1.1 false),()),()))
 ) (
 let u5:=(cond y5.2.1.1 y7.2.1.1 false)
 let u6:=(cond u5 (aq p0.2.2.2.2.2.2.2.1 0) false)
 let u7:=(cC p0.2.2.1 [])
 some ((),(((cond u6 u7 false),()),()))
 )
 )
 ) (
 let u2:=(kP p0.1 14)
 Option.bind u2 fun y7 =>
 cond y7.2.1.1 (
 let u3:=(mS p0.2.2.2.2.2.2.2.1 0 9999)
 Option.bind u3 fun y8 =>
 let u4:=(kP p0.1 103)
 Option.bind u4 fun y9 =>
 cond y9.2.1.1 (
 let u5:=(sD p0.2.2.1)
 Option.bind u5 fun y10 =>
 let u6:=(cond y5.2.1.1 (aq p0.2.2.2.2.2.2.1 0) false)
 let u7:=(cond u6 y8.2.1.1 false)
 some ((),(((cond u7 y10.2.1.1 false),()),()))
 ) (
 let u5:=(cond y5.2.1.1 (aq p0.2.2.2.2.2.2.1 0) false)
 let u6:=(cond u5 y8.2.1.1 false)
 let u7:=(cC p0.2.2.1 [])
 some ((),(((cond u6 u7 false),()),()))
 )
 ) (
 let u3:=(kP p0.1 103)
 Option.bind u3 fun y8 =>
 cond y8.2.1.1 (
 let u4:=(sD p0.2.2.1)
 Option.bind u4 fun y9 =>
 let u5:=(cond y5.2.1.1 (aq p0.2.2.2.2.2.2.1 0) false)
 let u6:=(cond u5 (aq p0.2.2.2.2.2.2.2.1 0) false)
 some ((),(((cond u6 y9.2.1.1 false),()),()))
 ) (
 let u4:=(cond y5.2.1.1 (aq p0.2.2.2.2.2.2.1 0) false)
 let u5:=(cond u4 (aq p0.2.2.2.2.2.2.2.1 0) false)
 let u6:=(cC p0.2.2.1 [])
 some ((),(((cond u5 u6 false),()),()))
 )
 )
 )
 ) (
 let u1:=(kP p0.1 4)
 Option.bind u1 fun y5 =>
 cond y5.2.1.1 (
 let u2:=(mS p0.2.2.2.2.2.2.1 0 999999999999)
 Option.bind u2 fun y6 =>
 let u3:=(kP p0.1 14)
 Option.bind u3 fun y7 =>
 cond y7.2.1.1 (
 let u4:=(mS p0.2.2.2.2.2.2.2.1 0 9999)
 Option.bind u4 fun y8 =>
 let u5:=(kP p0.1 103)
 Option.bind u5 fun y9 =>
 cond y9.2.1.1 (
 let u6:=(sD p0.2.2.1)
 Option.bind u6 fun y10 =>
 let u7:=(cC p0.2.2.2.1 [])
 let u8:=(cond u7 y6.2.1.1 false)
 let u9:=(cond u8 y8.2.1.1 false)
 some ((),(((cond u9 y10.2.1.1 false),()),()))
 ) (
 let u6:=(cC p0.2.2.2.1 [])
 let u7:=(cond u6 y6.2.1.1 false)
 let u8:=(cond u7 y8.2.1.1 false)
 let u9:=(cC p0.2.2.1 [])
 some ((),(((cond u8 u9 false),()),()))
 )
 ) (
 let u4:=(kP p0.1 103)
 Option.bind u4 fun y8 =>
 cond y8.2.1.1 (
 let u5:=(sD p0.2.2.1)
 Option.bind u5 fun y9 =>
 let u6:=(cC p0.2.2.2.1 [])
 let u7:=(cond u6 y6.2.1.1 false)
 let u8:=(cond u7 (aq p0.2.2.2.2.2.2.2.1 0) false)
 some ((),(((cond u8 y9.2.1.1 false),()),()))
 ) (
 let u5:=(cC p0.2.2.2.1 [])
 let u6:=(cond u5 y6.2.1.1 false)
 let u7:=(cond u6 (aq p0.2.2.2.2.2.2.2.1 0) false)
 let u8:=(cC p0.2.2.1 [])
 some ((),(((cond u7 u8 false),()),()))
 )
 )
 ) (
 let u2:=(kP p0.1 14)
 Option.bind u2 fun y6 =>
 cond y6.2.1.1 (
 let u3:=(mS p0.2.2.2.2.2.2.2.1 0 9999)
 Option.bind u3 fun y7 =>
 let u4:=(kP p0.1 103)
 Option.bind u4 fun y8 =>
 cond y8.2.1.1 (
 let u5:=(sD p0.2.2.1)
 Option.bind u5 fun y9 =>
 let u6:=(cC p0.2.2.2.1 [])
 let u7:=(cond u6 (aq p0.2.2.2.2.2.2.1 0) false)
 let u8:=(cond u7 y7.2.1.1 false)
 some ((),(((cond u8 y9.2.1.1 false),()),()))
 ) (
 let u5:=(cC p0.2.2.2.1 [])
 let u6:=(cond u5 (aq p0.2.2.2.2.2.2.1 0) false)
 let u7:=(cond u6 y7.2.1.1 false)
 let u8:=(cC p0.2.2.1 [])
 some ((),(((cond u7 u8 false),()),()))
 )
 ) (
 let u3:=(kP p0.1 103)
 Option.bind u3 fun y7 =>
 cond y7.2.1.1 (
 let u4:=(sD p0.2.2.1)
 Option.bind u4 fun y8 =>
 let u5:=(cC p0.2.2.2.1 [])
 let u6:=(cond u5 (aq p0.2.2.2.2.2.2.1 0) false)
 let u7:=(cond u6 (aq p0.2.2.2.2.2.2.2.1 0) false)
 some ((),(((cond u7 y8.2.1.1 false),()),()))
 ) (
 let u4:=(cC p0.2.2.2.1 [])
 let u5:=(cond u4 (aq p0.2.2.2.2.2.2.1 0) false)
 let u6:=(cond u5 (aq p0.2.2.2.2.2.2.2.1 0) false)
 let u7:=(cC p0.2.2.1 [])
 some ((),(((cond u6 u7 false),()),()))
 )
 )
 )
 )
 )
 )
 )
def aco:Su:=⟨[.c true [ki,.str,.str,.str,.str,.str,ki,ki]],[(false,[.bool])],true,.inl fun x=>Mx x.1⟩
theorem V3:ar Tryz.prog 217 aco :=
 fq (ac lR (ac QV (ac QU (ac Ka (ac Jk (ac X7 an)))))) Tryz.f217
def At (t0:List UInt8) (t1:Int):Rd Wx Unit :=
 let u1:=(ae t0)
 cond (aw 0 u1) (
 let u2:=(aO .i64 u1 1)
 cond (aR u2 t0) (
 cond (aq (dE t0 u2) t1) (
 cond (dW 0 u2 t0) (
 some (.inl ((sub t0 0 u2),t1,()))
 ) none
 ) (
 some (.inr (.inl (t0,t1,())))
 )
 ) none
 ) (
 some (.inr (.inl (t0,t1,())))
 )
def JL:=Q2 (ah (wB At))
def JV (p0:List UInt8) (p1:Int):Option Nt :=
 (JL p0 p1).bind (Sum.elim (fun y1 =>
 some ((),((y1.1,()),()))
 ) (fun _ =>
 none
 ))
def acJ:Su:=⟨[.c false [.str],.c false uM],[(false,[.str])],true,.inl fun x=>JV x.1.1 x.2.1.1⟩
theorem UA:ar Tryz.prog 306 acJ :=
 fl an [] [(0,⟨[.d 0 .str,.d 1 (.int .u8)],ah (wB At)⟩)] [] Tryz.f306 (lp [0] (sc cN sn))
def Tz (p0 p1:List UInt8):Option Nt :=
 cond (cond (cC p0 []) true (cC p1 [])) (
 some ((),((p0,()),()))
 ) (
 cond (aq (ae p1) 1) (
 cond (aR 0 p1) (
 let u1:=(dE p1 0)
 cond (aw u1 128) (
 cond (aR 0 p1) (
 (JV p0 u1).bind fun y1 =>
 some ((),(y1.2.1,()))
 ) none
 ) (
 none
 )
 ) none
 ) (
 none
 )
 )
def abm:Su:=⟨[.c false [.str],.c false [.str]],[(false,[.str])],true,.inl fun x=>Tz x.1.1 x.2.1.1⟩
theorem Vm:ar Tryz.prog 272 abm :=
 fq (ac UA an) Tryz.f272
def Na (p0:List UInt8):Option Nt :=
 (Tz p0 [32]).bind fun y1 =>
 some ((),(y1.2.1,()))
def Zy:Su:=⟨[.c false [.str]],[(false,[.str])],true,.inl fun x=>Na x.1.1⟩
theorem Wr:ar Tryz.prog 216 Zy :=
 fq (ac Vm an) Tryz.f216
def qe (t41:List R3) (t42 t43:Int) (b1:(List UInt8)×(List iX)×Unit) (b2 b6:Int×(List UInt8)×(List UInt8)×(List UInt8)×(List UInt8)×(List UInt8)×Int×Int×Unit):Rd ((List R3)×Int×Int×Dz×S5×S5×Unit) (Int×S5×Unit) :=
 cond (aw t43 t42) (
 cond (aR t43 t41) (
 (Gt b1 (gt d3 t41 t43).1).bind fun y1 =>
 cond (!y1.2.2.1.1) (
 some (.inr (.inr (1,(0,[],[],[],[],[],0,0,()),())))
 ) (
 cond (aq (gt d3 t41 t43).1 2) (
 let u1:=(aj .i64 t43 1)
 some (.inl (t41,t42,u1,b1,b2,(b6.1,y1.2.1.1,b6.2.2.1,b6.2.2.2.1,b6.2.2.2.2.1,b6.2.2.2.2.2.1,b6.2.2.2.2.2.2.1,b6.2.2.2.2.2.2.2.1,()),()))
 ) (
 cond (aq (gt d3 t41 t43).1 4) (
 let u1:=(EP y1.2.1.1)
 Option.bind u1 fun y2 =>
 let u2:=(aj .i64 t43 1)
 some (.inl (t41,t42,u2,b1,b2,(b6.1,b6.2.1,b6.2.2.1,b6.2.2.2.1,b6.2.2.2.2.1,b6.2.2.2.2.2.1,y2.2.1.1,b6.2.2.2.2.2.2.2.1,()),()))
 ) (
 cond (aq (gt d3 t41 t43).1 11) (
 let u1:=(aj .i64 t43 1)
 some (.inl (t41,t42,u1,b1,b2,(b6.1,b6.2.1,b6.2.2.1,b6.2.2.2.1,y1.2.1.1,b6.2.2.2.2.2.1,b6.2.2.2.2.2.2.1,b6.2.2.2.2.2.2.2.1,()),()))
 ) (
 cond (aq (gt d3 t41 t43).1 14) (
 let u1:=(EP y1.2.1.1)
 Option.bind u1 fun y2 =>
 let u2:=(aj .i64 t43 1)
 some (.inl (t41,t42,u2,b1,b2,(b6.1,b6.2.1,b6.2.2.1,b6.2.2.2.1,b6.2.2.2.2.1,b6.2.2.2.2.2.1,b6.2.2.2.2.2.2.1,y2.2.1.1,()),()))
 ) (
 cond (aq (gt d3 t41 t43).1 38) (
 (Na y1.2.1.1).bind fun y2 =>
 let u1:=(aj .i64 t43 1)
 some (.inl (t41,t42,u1,b1,b2,(b6.1,b6.2.1,b6.2.2.1,y2.2.1.1,b6.2.2.2.2.1,b6.2.2.2.2.2.1,b6.2.2.2.2.2.2.1,b6.2.2.2.2.2.2.2.1,()),()))
 ) (
 cond (aq (gt d3 t41 t43).1 103) (
 let u1:=(aj .i64 t43 1)
 some (.inl (t41,t42,u1,b1,b2,(b6.1,b6.2.1,y1.2.1.1,b6.2.2.2.1,b6.2.2.2.2.1,b6.2.2.2.2.2.1,b6.2.2.2.2.2.2.1,b6.2.2.2.2.2.2.2.1,()),()))
 ) (
 let u1:=(aj .i64 t43 1)
 some (.inl (t41,t42,u1,b1,b2,b6,()))
 )
 )
 )
 )
 )
 )
 )
 ) none
 ) (
 some (.inr (.inl (t41,t42,t43,b1,b2,b6,())))
 )
def Lc:=X4 (ah (FO qe))
def Pd (p0:(List UInt8)×(List iX)×Unit):Option (Unit×(S5×Y1×Unit)) :=
 (OT p0).bind fun y1 =>
 cond (!y1.2.1.1) (
 c1
 ) (
 (SQ p0.1).bind fun y2 =>
 cond (!y2.2.1.1) (
 c22
 ) (
 (Gt p0 3).bind fun y3 =>
 cond (!y3.2.2.1.1) (
 c1
 ) (
 (OQ).bind fun y4 =>
 (OO y4.2.1.1 p0 y3.2.1).bind fun y5 =>
 let u1:=(aj .i64 1 y5.2.1.1)
 (AP u1).bind fun y6 =>
 cond (bT 8 [(2,()),(11,())] y6.2.1.2.2.2.1) (
 let u2:=(jn [(2,()),(11,())] y6.2.1.2.2.2.1)
 (Lc u2 (ae u2) 0 p0 (0,[],[],[],[],[],0,0,()) (u1,[],[],[],[],p0.1,0,0,())).bind (Sum.elim (fun y7 =>
 (Mx y7.2.2.2.2.2.1).bind fun y8 =>
 cond (!y8.2.1.1) (
 c1
 ) (
 some ((),(y7.2.2.2.2.2.1,(0,()),()))
 )
 ) (fun y7 =>
 some ((),(y7.2.1,(y7.1,()),()))
 ))
 ) none
 )
 )
 )
def ab1:Su:=⟨[.c true [.str,jf]],[(true,[ki,.str,.str,.str,.str,.str,ki,ki]),(false,[ki])],true,.inl fun x=>Pd x.1⟩
theorem WZ:ar Tryz.prog 171 ab1 :=
 fl (ac QJ (ac W9 (ac UR (ac XJ (ac Ri (ac VE (ac Jk (ac V3 (ac Wr an))))))))) [.d 3 ki,.box 2 [(false,ki),(false,.str),(false,.str),(false,.str),(false,.str),(false,.str),(false,ki),(false,ki)]] [(0,⟨[.own 41 q3,.d 42 ki,.d 43 ki,.box 1 [(false,.str),(false,jf)],.box 2 [(false,ki),(false,.str),(false,.str),(false,.str),(false,.str),(false,.str),(false,ki),(false,ki)],.box 6 [(false,ki),(false,.str),(false,.str),(false,.str),(false,.str),(false,.str),(false,ki),(false,ki)]],ah (FO qe)⟩)] [] Tryz.f171 (lp [0] (sc cN sn))
def VK (p0:Int):Option im :=
 cond (bL 4294967296 p0) (
 let u1:=(iT .u64 p0 32)
 cond (bL 65536 u1) (
 let u2:=(iT .u64 u1 16)
 cond (bL 256 u2) (
 let u3:=(bI .u8 (iT .u64 u2 8))
 cond (aR u3 nX) (
 let u4:=(aj .i64 32 16)
 some ((),(((aj .i64 (aj .i64 u4 8) (bI .i64 (dE nX u3))),()),()))
 ) none
 ) (
 let u3:=(bI .u8 u2)
 cond (aR u3 nX) (
 let u4:=(aj .i64 32 16)
 some ((),(((aj .i64 u4 (bI .i64 (dE nX u3))),()),()))
 ) none
 )
 ) (
 cond (bL 256 u1) (
 let u2:=(bI .u8 (iT .u64 u1 8))
 cond (aR u2 nX) (
 some ((),(((aj .i64 (aj .i64 32 8) (bI .i64 (dE nX u2))),()),()))
 ) none
 ) (
 let u2:=(bI .u8 u1)
 cond (aR u2 nX) (
 some ((),(((aj .i64 32 (bI .i64 (dE nX u2))),()),()))
 ) none
 )
 )
 ) (
 cond (bL 65536 p0) (
 let u1:=(iT .u64 p0 16)
 cond (bL 256 u1) (
 let u2:=(bI .u8 (iT .u64 u1 8))
 cond (aR u2 nX) (
 let u3:=(aj .i64 0 16)
 some ((),(((aj .i64 (aj .i64 u3 8) (bI .i64 (dE nX u2))),()),()))
 ) none
 ) (
 let u2:=(bI .u8 u1)
 cond (aR u2 nX) (
 let u3:=(aj .i64 0 16)
 some ((),(((aj .i64 u3 (bI .i64 (dE nX u2))),()),()))
 ) none
 )
 ) (
 cond (bL 256 p0) (
 let u1:=(bI .u8 (iT .u64 p0 8))
 cond (aR u1 nX) (
 some ((),(((aj .i64 (aj .i64 0 8) (bI .i64 (dE nX u1))),()),()))
 ) none
 ) (
 let u1:=(bI .u8 p0)
 cond (aR u1 nX) (
 some ((),(((aj .i64 0 (bI .i64 (dE nX u1))),()),()))
 ) none
 )
 )
 )
def aaW:Su:=⟨[.c false [.int .u64]],[(false,[ki])],true,.inl fun x=>VK x.1.1⟩
theorem VQ:ar Tryz.prog 270 aaW :=
 fq an Tryz.f270
def G6 (p0:Int):Option im :=
 (VK p0).bind fun y1 =>
 some ((),(y1.2.1,()))
def ace:Su:=⟨[.c false [.int .u64]],[(false,[ki])],true,.inl fun x=>G6 x.1.1⟩
theorem Q6:ar Tryz.prog 208 ace :=
 fq (ac VQ an) Tryz.f208
def O3 (p0:List UInt8):Option dY :=
 some ((),(((!(cC p0 p0)),()),()))
def aaz:Su:=⟨[.c false [.str]],[(false,[.bool])],true,.inl fun x=>O3 x.1.1⟩
theorem WM:ar Tryz.prog 313 aaz :=
 fq an Tryz.f313
def Og (p0 p1:List UInt8):Option dY :=
 (O3 p0).bind fun y1 =>
 cond y1.2.1.1 (
 (O3 p1).bind fun y2 =>
 let u1:=(kB p0 p1)
 some ((),(((cond (!y2.2.1.1) true u1),()),()))
 ) (
 let u1:=(kB p0 p1)
 some ((),((u1,()),()))
 )
def Xq:Su:=⟨[.c false [.str],.c false [.str]],[(false,[.bool])],true,.inl fun x=>Og x.1.1 x.2.1.1⟩
theorem QP:ar Tryz.prog 280 Xq :=
 fq (ac WM an) Tryz.f280
def wu (t0:List R9) (t1 t2 t6 t7:Int):Rd ((List R9)×Int×Int×Int×Int×Unit) Unit :=
 cond (aw t1 t7) (
 cond (aR t7 t0) (
 let u1:=(aO .i64 t7 1)
 cond (aR u1 t0) (
 let u2:=(gt d9 t0 t7)
 let u3:=(gt d9 t0 u1)
 (Og u2.1 u3.1).bind fun y1 =>
 cond y1.2.1.1 (
 cond (aR u1 t0) (
 cond (aR t7 t0) (
 cond (aR t7 t0) (
 let u4:=(jh t0 t7 u3)
 cond (aR u1 u4) (
 some (.inl ((jh u4 u1 u2),t1,t2,t6,u1,()))
 ) none
 ) none
 ) none
 ) none
 ) (
 some (.inr (.inl (t0,t1,t2,t6,t7,())))
 )
 ) none
 ) none
 ) (
 some (.inr (.inl (t0,t1,t2,t6,t7,())))
 )
def yu:=tV (ah (dQ wu))
def vU (t0:List R9) (t1 t2 t6:Int):Rd ((List R9)×Int×Int×Int×Unit) Unit :=
 cond (aw t6 t2) (
 (yu t0 t1 t2 t6 t6).bind (Sum.elim (fun y1 =>
 some (.inl (y1.1,y1.2.1,y1.2.2.1,(aj .i64 y1.2.2.2.1 1),()))
 ) (fun _ =>
 some (.inr (.inr ()))
 ))
 ) (
 some (.inr (.inl (t0,t1,t2,t6,())))
 )
def pd:=mm (ah (cV vU))
def Tt (p0:List R9) (p1 p2:Int):Option Y27 :=
 (pd p0 p1 p2 (aj .i64 p1 1)).bind (Sum.elim (fun y1 =>
 some (((y1.1,()),()),())
 ) (fun _ =>
 none
 ))
def NC:Su:=⟨[.io false [q9],.c false [ki],.c false [ki]],[],true,.inl fun x=>Tt x.1.1 x.2.1.1 x.2.2.1.1⟩
def rD:List SE:=[.own 0 q9,.d 1 ki,.d 2 ki,.d 6 ki,.d 7 ki]
def rz:List SE:=[.own 0 q9,.d 1 ki,.d 2 ki,.d 6 ki]
def Jq:List SE:=[]
def Rp:Nat->Option (Lo Jq)
 | 2=>some ⟨rD,dQ yu⟩
 | 0=>some ⟨rz,cV pd⟩
 | _=>none
def FQ:List Y0:=[(280,iS Xq)]
def Gd:En:=yK 49 tt FQ Jq Rp [0] fun _=>none
def Vv:Nat->Option (St->Tr St)
 | 6=>some (lY Gd (opsOf (bg 6 (ak Tryz.f274))) [7] [(15,2),(15,3),(15,4)])
 | _=>none
def B0:En:=yK 49 tt FQ Jq Rp [0] (Vv)
theorem SA (x:bJ rD):(cZ B0 2 rD (aX 2 (ak Tryz.f274)) x).run=dQ wu x:=by kernel_rfl
theorem TJ (x:bJ rz):(cZ B0 0 rz (aX 0 (ak Tryz.f274)) x).run=cV vU x:=by kernel_rfl
theorem t274 (x:PT NC.ps):(FK B0 (ak Tryz.f274) Tryz.f274.results.toList NC.ps NC.rs true x).run=Tt x.1.1 x.2.1.1 x.2.2.1.1:=by kernel_rfl
theorem D8:df Tryz.prog B0:=cR (l:=FQ) ⟨QP,trivial⟩
theorem HW:df Tryz.prog Gd:=cR (l:=FQ) ⟨QP,trivial⟩
theorem Ty:cH Tryz.prog B0 (bg 6 (ak Tryz.f274)) (lY Gd (opsOf (bg 6 (ak Tryz.f274))) [7] [(15,2),(15,3),(15,4)]) :=
 fV rfl rfl (zg (E:=Gd) (kM hT) HW eu (c:=(bg 6 (ak Tryz.f274))) (id:=6) (by kernel_rfl))
theorem S2:cl Tryz.prog B0 2 (.loop (aX 2 (ak Tryz.f274))) ⟨rD,dQ yu⟩ :=
 er (kM hT) D8 eu (step:=fun (x:bJ rD)=>wu x.1 x.2.1 x.2.2.1 x.2.2.2.1 x.2.2.2.2.1) SA (aW [] (by kernel_rfl) trivial [(6,bg 6 (ak Tryz.f274))] (by kernel_rfl) ⟨xH rfl Ty,trivial⟩)
theorem Te:cl Tryz.prog B0 0 (.loop (aX 0 (ak Tryz.f274))) ⟨rz,cV pd⟩ :=
 er (kM hT) D8 eu (step:=fun (x:bJ rz)=>vU x.1 x.2.1 x.2.2.1 x.2.2.2.1) TJ (aW [(2,.loop (aX 2 (ak Tryz.f274)))] (by kernel_rfl) ⟨lC rfl S2,trivial⟩ [] (by kernel_rfl) trivial)
theorem Xj:ar Tryz.prog 274 NC :=
 oh (E:=B0) (kM hT) D8 eu (fn:=Tryz.f274) (c:=(ak Tryz.f274)) (by kernel_rfl) (by kernel_rfl) (by kernel_rfl) rfl (aW [(0,.loop (aX 0 (ak Tryz.f274)))] (by kernel_rfl) ⟨lC rfl Te,trivial⟩ [] (by kernel_rfl) trivial) fun x y h=>⟨y.1,fun _=>rfl,(t274 x).trans h⟩
def Xo (p0:List R9) (p1 p2 p3:Int):Option Y27 :=
 cond (bL (aO .i64 p2 p1) 12) (
 (Tt p0 p1 p2).bind fun y1 =>
 some ((y1.1.1,()),())
 ) (
 cond (aq p3 0) (
 none
 ) (
 none
 )
 )
def aau:Su:=⟨[.io false [q9],.c false [ki],.c false [ki],.c false [ki]],[],true,.inl fun x=>Xo x.1.1 x.2.1.1 x.2.2.1.1 x.2.2.2.1.1⟩
theorem Wk:ar Tryz.prog 218 aau :=
 fl (ac Xj an) [] [] [0] Tryz.f218 cN
def Dp (p0:List R9):Option Y27 :=
 let u1:=(ae p0)
 (G6 (bI .u64 u1)).bind fun y1 =>
 (Xo p0 0 u1 y1.2.1.1).bind fun y2 =>
 some ((y2.1.1,()),())
def aaL:Su:=⟨[.io false [q9]],[],true,.inl fun x=>Dp x.1.1⟩
theorem UU:ar Tryz.prog 172 aaL :=
 fl (ac Q6 (ac Wk an)) [] [] [0] Tryz.f172 cN
def Ah (t0:List R9) (t3:Int):Rd ((List R9)×Int×Unit) ((List R9)×Unit) :=
 let u1:=(ae t0)
 cond (aw t3 u1) (
 cond (aR t3 t0) (
 let u2:=(aO .i64 t3 1)
 cond (aR u2 t0) (
 cond (cC (gt d9 t0 t3).1 (gt d9 t0 u2).1) (
 let u3:=(dW t3 u1 t0)
 cond u3 (
 let u4:=(sub t0 t3 u1)
 cond (aw 1 (ae u4)) (
 cond (aR 1 u4) (
 let u5:=(aO .i64 1 1)
 cond (aR u5 u4) (
 cond (!(cC (gt d9 u4 1).1 (gt d9 u4 u5).1)) (
 cond (aR 1 u4) (
 cond (aR t3 t0) (
 none
 ) none
 ) none
 ) (
 none
 )
 ) none
 ) none
 ) (
 cond u3 (
 let u5:=(AA d9 t0 t3)
 cond (dW 0 t3 u5) (
 some (.inr (.inr ((P2 u5 t3),())))
 ) none
 ) none
 )
 ) none
 ) (
 some (.inl (t0,(aj .i64 t3 1),()))
 )
 ) none
 ) none
 ) (
 some (.inr (.inl (t0,t3,())))
 )
def xO:=Q2 (ah (wB Ah))
def Hn (p0:List R9):Option Ui :=
 cond (aw (ae p0) 2) (
 some ((),((p0,()),()))
 ) (
 (xO p0 1).bind (Sum.elim (fun y1 =>
 some ((),((y1.1,()),()))
 ) (fun y1 =>
 some ((),(y1,()))
 ))
 )
def Nw:Su:=⟨[.mv q9],[(false,[q9])],true,.inl fun x=>Hn x.1⟩
def rE:List SE:=[.own 0 q9,.d 3 ki]
def Q8:List SE:=[.own 2 q9]
def XP:Nat->Option (Lo Q8)
 | 0=>some ⟨rE,wB xO⟩
 | _=>none
def QT:List Y0:=[]
def Yg:Nat->Option (St->Tr St)
 | 14=>some (sP 54 55 56 0 3 U8)
 | _=>none
def DY:En:=yK 61 tt QT Q8 XP [] (Yg)
theorem S1 (x:bJ rE):(cZ DY 0 rE (aX 0 (ak Tryz.f173)) x).run=wB Ah x:=by kernel_rfl
theorem t173 (x:PT Nw.ps):(FK DY (ak Tryz.f173) Tryz.f173.results.toList Nw.ps Nw.rs true x).run=Hn x.1:=by kernel_rfl
theorem LD:df Tryz.prog DY:=cR (l:=QT) trivial
theorem NY:cH Tryz.prog DY (bg 14 (ak Tryz.f173)) (sP 54 55 56 0 3 U8) :=
 zr (E:=DY) (kM hT) (rid:=14) (ta:=54) (tb:=55) (tc:=56) (t0:=0) (tI:=3) (ty:=112) (o1:=gn (bg 14 (ak Tryz.f173)) 0) (o2:=gn (bg 14 (ak Tryz.f173)) 1) (o3:=gn (bg 14 (ak Tryz.f173)) 2) (o4:=gn (bg 14 (ak Tryz.f173)) 3) (c:=Bk (gn (bg 14 (ak Tryz.f173)) 3)) (te:=⟨false,U8,0,16,[]⟩)
  (by kernel_rfl) (by kernel_rfl) (by kernel_rfl) (by kernel_rfl) (by kernel_rfl) (by kernel_rfl) (by kernel_rfl) (by kernel_rfl) (by kernel_rfl) (by kernel_rfl) (by kernel_rfl) (by kernel_rfl) (by kernel_rfl) (by kernel_rfl) (by kernel_rfl) (by kernel_rfl) (by kernel_rfl) (by kernel_rfl) (by kernel_rfl) (by kernel_rfl) (by kernel_rfl)
theorem Sm:cl Tryz.prog DY 0 (.loop (aX 0 (ak Tryz.f173))) ⟨rE,wB xO⟩ :=
 er (kM hT) LD eu (step:=fun (x:bJ rE)=>Ah x.1 x.2.1) S1 (aW [] (by kernel_rfl) trivial [(14,bg 14 (ak Tryz.f173))] (by kernel_rfl) ⟨xH rfl NY,trivial⟩)
theorem Wf:ar Tryz.prog 173 Nw :=
 oh (E:=DY) (kM hT) LD eu (fn:=Tryz.f173) (c:=(ak Tryz.f173)) (by kernel_rfl) (by kernel_rfl) (by kernel_rfl) rfl (aW [(0,.loop (aX 0 (ak Tryz.f173)))] (by kernel_rfl) ⟨lC rfl Sm,trivial⟩ [] (by kernel_rfl) trivial) fun x y h=>⟨y.1,fun _=>rfl,(t173 x).trans h⟩
def Pf (p0:List R5):Option Ui :=
 (O8 p0).bind fun y1 =>
 (Pd y1.2.1).bind fun y2 =>
 cond (cond (!(aq y1.2.2.1.1 0)) true (!(aq y2.2.2.1.1 0))) (
 c20
 ) (
 cond (aq y2.2.1.1 6) (
 cond (bT 16 [(y2.2.1.2.1,())] [(y2.2.1.2.2.1,())]) (
 (Dp (jn [(y2.2.1.2.1,())] [(y2.2.1.2.2.1,())])).bind fun y3 =>
 let u1:=(Hn y3.1.1.1)
 Option.bind u1 fun y4 =>
 some ((),(y4.2.1,()))
 ) none
 ) (
 (Dp [(y2.2.1.2.1,())]).bind fun y3 =>
 let u1:=(Hn y3.1.1.1)
 Option.bind u1 fun y4 =>
 some ((),(y4.2.1,()))
 )
 )
def Z8:Su:=⟨[.c false [q5]],[(false,[q9])],true,.inl fun x=>Pf x.1.1⟩
theorem XN:ar Tryz.prog 110 Z8 :=
 fq (ac Vn (ac WZ (ac UU (ac Wf an)))) Tryz.f110
def Oc (p0:Int):Option dY :=
 some ((),(((!(aq p0 p0)),()),()))
def aa6:Su:=⟨[.c false [ki]],[(false,[.bool])],true,.inl fun x=>Oc x.1.1⟩
theorem WL:ar Tryz.prog 303 aa6 :=
 fq an Tryz.f303
def MX (p0 p1:Int):Option dY :=
 (Oc p0).bind fun y1 =>
 cond y1.2.1.1 (
 (Oc p1).bind fun y2 =>
 some ((),(((cond (!y2.2.1.1) true (aw p0 p1)),()),()))
 ) (
 some ((),(((aw p0 p1),()),()))
 )
def Yn:Su:=⟨[.c false [ki],.c false [ki]],[(false,[.bool])],true,.inl fun x=>MX x.1.1 x.2.1.1⟩
theorem Rg:ar Tryz.prog 266 Yn :=
 fq (ac WL an) Tryz.f266
def vz (t0:List R3) (t1 t2 t6 t7:Int):Rd ((List R3)×Int×Int×Int×Int×Unit) Unit :=
 cond (aw t1 t7) (
 cond (aR t7 t0) (
 let u1:=(aO .i64 t7 1)
 cond (aR u1 t0) (
 let u2:=(gt d3 t0 t7)
 let u3:=(gt d3 t0 u1)
 (MX u2.1 u3.1).bind fun y1 =>
 cond y1.2.1.1 (
 cond (aR u1 t0) (
 cond (aR t7 t0) (
 cond (aR t7 t0) (
 let u4:=(jh t0 t7 u3)
 cond (aR u1 u4) (
 some (.inl ((jh u4 u1 u2),t1,t2,t6,u1,()))
 ) none
 ) none
 ) none
 ) none
 ) (
 some (.inr (.inl (t0,t1,t2,t6,t7,())))
 )
 ) none
 ) none
 ) (
 some (.inr (.inl (t0,t1,t2,t6,t7,())))
 )
def wx:=tV (ah (dQ vz))
def vq (t0:List R3) (t1 t2 t6:Int):Rd ((List R3)×Int×Int×Int×Unit) Unit :=
 cond (aw t6 t2) (
 (wx t0 t1 t2 t6 t6).bind (Sum.elim (fun y1 =>
 some (.inl (y1.1,y1.2.1,y1.2.2.1,(aj .i64 y1.2.2.2.1 1),()))
 ) (fun _ =>
 some (.inr (.inr ()))
 ))
 ) (
 some (.inr (.inl (t0,t1,t2,t6,())))
 )
def mc:=mm (ah (cV vq))
def RK (p0:List R3) (p1 p2:Int):Option Y26 :=
 (mc p0 p1 p2 (aj .i64 p1 1)).bind (Sum.elim (fun y1 =>
 some (((y1.1,()),()),())
 ) (fun _ =>
 none
 ))
def MP:Su:=⟨[.io false [q3],.c false [ki],.c false [ki]],[],true,.inl fun x=>RK x.1.1 x.2.1.1 x.2.2.1.1⟩
def rI:List SE:=[.own 0 q3,.d 1 ki,.d 2 ki,.d 6 ki,.d 7 ki]
def rm:List SE:=[.own 0 q3,.d 1 ki,.d 2 ki,.d 6 ki]
def Kg:List SE:=[]
def QS:Nat->Option (Lo Kg)
 | 2=>some ⟨rI,dQ wx⟩
 | 0=>some ⟨rm,cV mc⟩
 | _=>none
def Fu:List Y0:=[(266,iS Yn)]
def F8:En:=yK 49 tt Fu Kg QS [0] fun _=>none
def VP:Nat->Option (St->Tr St)
 | 6=>some (lY F8 (opsOf (bg 6 (ak Tryz.f260))) [7] [(15,2),(15,3),(15,4)])
 | _=>none
def BR:En:=yK 49 tt Fu Kg QS [0] (VP)
theorem RX (x:bJ rI):(cZ BR 2 rI (aX 2 (ak Tryz.f260)) x).run=dQ vz x:=by kernel_rfl
theorem Sn (x:bJ rm):(cZ BR 0 rm (aX 0 (ak Tryz.f260)) x).run=cV vq x:=by kernel_rfl
theorem t260 (x:PT MP.ps):(FK BR (ak Tryz.f260) Tryz.f260.results.toList MP.ps MP.rs true x).run=RK x.1.1 x.2.1.1 x.2.2.1.1:=by kernel_rfl
theorem DW:df Tryz.prog BR:=cR (l:=Fu) ⟨Rg,trivial⟩
theorem GY:df Tryz.prog F8:=cR (l:=Fu) ⟨Rg,trivial⟩
theorem TC:cH Tryz.prog BR (bg 6 (ak Tryz.f260)) (lY F8 (opsOf (bg 6 (ak Tryz.f260))) [7] [(15,2),(15,3),(15,4)]) :=
 fV rfl rfl (zg (E:=F8) (kM hT) GY eu (c:=(bg 6 (ak Tryz.f260))) (id:=6) (by kernel_rfl))
theorem Tc:cl Tryz.prog BR 2 (.loop (aX 2 (ak Tryz.f260))) ⟨rI,dQ wx⟩ :=
 er (kM hT) DW eu (step:=fun (x:bJ rI)=>vz x.1 x.2.1 x.2.2.1 x.2.2.2.1 x.2.2.2.2.1) RX (aW [] (by kernel_rfl) trivial [(6,bg 6 (ak Tryz.f260))] (by kernel_rfl) ⟨xH rfl TC,trivial⟩)
theorem Sw:cl Tryz.prog BR 0 (.loop (aX 0 (ak Tryz.f260))) ⟨rm,cV mc⟩ :=
 er (kM hT) DW eu (step:=fun (x:bJ rm)=>vq x.1 x.2.1 x.2.2.1 x.2.2.2.1) Sn (aW [(2,.loop (aX 2 (ak Tryz.f260)))] (by kernel_rfl) ⟨lC rfl Tc,trivial⟩ [] (by kernel_rfl) trivial)
theorem VY:ar Tryz.prog 260 MP :=
 oh (E:=BR) (kM hT) DW eu (fn:=Tryz.f260) (c:=(ak Tryz.f260)) (by kernel_rfl) (by kernel_rfl) (by kernel_rfl) rfl (aW [(0,.loop (aX 0 (ak Tryz.f260)))] (by kernel_rfl) ⟨lC rfl Sw,trivial⟩ [] (by kernel_rfl) trivial) fun x y h=>⟨y.1,fun _=>rfl,(t260 x).trans h⟩
def XG (p0:List R3) (p1 p2 p3:Int):Option Y26 :=
 cond (bL (aO .i64 p2 p1) 12) (
 (RK p0 p1 p2).bind fun y1 =>
 some ((y1.1.1,()),())
 ) (
 cond (aq p3 0) (
 none
 ) (
 none
 )
 )
def aaD:Su:=⟨[.io false [q3],.c false [ki],.c false [ki],.c false [ki]],[],true,.inl fun x=>XG x.1.1 x.2.1.1 x.2.2.1.1 x.2.2.2.1.1⟩
theorem VL:ar Tryz.prog 207 aaD :=
 fl (ac VY an) [] [] [0] Tryz.f207 cN
def vX (p0:List R3):Option Y26 :=
 let u1:=(ae p0)
 (G6 (bI .u64 u1)).bind fun y1 =>
 (XG p0 0 u1 y1.2.1.1).bind fun y2 =>
 some ((y2.1.1,()),())
def ab6:Su:=⟨[.io false [q3]],[],true,.inl fun x=>vX x.1.1⟩
theorem Ur:ar Tryz.prog 169 ab6 :=
 fl (ac Q6 (ac VL an)) [] [] [0] Tryz.f169 cN
def Bg (t0:List R3) (t3:Int):Rd ((List R3)×Int×Unit) Y3 :=
 let u1:=(ae t0)
 cond (aw t3 u1) (
 cond (aR t3 t0) (
 let u2:=(aO .i64 t3 1)
 cond (aR u2 t0) (
 cond (aq (gt d3 t0 t3).1 (gt d3 t0 u2).1) (
 let u3:=(dW t3 u1 t0)
 cond u3 (
 let u4:=(sub t0 t3 u1)
 cond (aw 1 (ae u4)) (
 cond (aR 1 u4) (
 let u5:=(aO .i64 1 1)
 cond (aR u5 u4) (
 cond (!(aq (gt d3 u4 1).1 (gt d3 u4 u5).1)) (
 cond (aR 1 u4) (
 cond (aR t3 t0) (
 none
 ) none
 ) none
 ) (
 none
 )
 ) none
 ) none
 ) (
 cond u3 (
 let u5:=(AA d3 t0 t3)
 cond (dW 0 t3 u5) (
 some (.inr (.inr ((P2 u5 t3),())))
 ) none
 ) none
 )
 ) none
 ) (
 some (.inl (t0,(aj .i64 t3 1),()))
 )
 ) none
 ) none
 ) (
 some (.inr (.inl (t0,t3,())))
 )
def wy:=Q2 (ah (wB Bg))
def Mh (p0:List R3):Option PN :=
 cond (aw (ae p0) 2) (
 some ((),((p0,()),()))
 ) (
 (wy p0 1).bind (Sum.elim (fun y1 =>
 some ((),((y1.1,()),()))
 ) (fun y1 =>
 some ((),(y1,()))
 ))
 )
def Pb:Su:=⟨[.mv q3],[(false,[q3])],true,.inl fun x=>Mh x.1⟩
def qZ:List SE:=[.own 0 q3,.d 3 ki]
def QX:List SE:=[.own 2 q3]
def Wq:Nat->Option (Lo QX)
 | 0=>some ⟨qZ,wB wy⟩
 | _=>none
def Ru:List Y0:=[]
def Xc:Nat->Option (St->Tr St)
 | 14=>some (sP 54 55 56 0 3 l0)
 | _=>none
def EC:En:=yK 61 tt Ru QX Wq [] (Xc)
theorem SY (x:bJ qZ):(cZ EC 0 qZ (aX 0 (ak Tryz.f170)) x).run=wB Bg x:=by kernel_rfl
theorem t170 (x:PT Pb.ps):(FK EC (ak Tryz.f170) Tryz.f170.results.toList Pb.ps Pb.rs true x).run=Mh x.1:=by kernel_rfl
theorem Mb:df Tryz.prog EC:=cR (l:=Ru) trivial
theorem Pq:cH Tryz.prog EC (bg 14 (ak Tryz.f170)) (sP 54 55 56 0 3 l0) :=
 zr (E:=EC) (kM hT) (rid:=14) (ta:=54) (tb:=55) (tc:=56) (t0:=0) (tI:=3) (ty:=54) (o1:=gn (bg 14 (ak Tryz.f170)) 0) (o2:=gn (bg 14 (ak Tryz.f170)) 1) (o3:=gn (bg 14 (ak Tryz.f170)) 2) (o4:=gn (bg 14 (ak Tryz.f170)) 3) (c:=Bk (gn (bg 14 (ak Tryz.f170)) 3)) (te:=⟨false,l0,0,8,[]⟩)
  (by kernel_rfl) (by kernel_rfl) (by kernel_rfl) (by kernel_rfl) (by kernel_rfl) (by kernel_rfl) (by kernel_rfl) (by kernel_rfl) (by kernel_rfl) (by kernel_rfl) (by kernel_rfl) (by kernel_rfl) (by kernel_rfl) (by kernel_rfl) (by kernel_rfl) (by kernel_rfl) (by kernel_rfl) (by kernel_rfl) (by kernel_rfl) (by kernel_rfl) (by kernel_rfl)
theorem Sl:cl Tryz.prog EC 0 (.loop (aX 0 (ak Tryz.f170))) ⟨qZ,wB wy⟩ :=
 er (kM hT) Mb eu (step:=fun (x:bJ qZ)=>Bg x.1 x.2.1) SY (aW [] (by kernel_rfl) trivial [(14,bg 14 (ak Tryz.f170))] (by kernel_rfl) ⟨xH rfl Pq,trivial⟩)
theorem WW:ar Tryz.prog 170 Pb :=
 oh (E:=EC) (kM hT) Mb eu (fn:=Tryz.f170) (c:=(ak Tryz.f170)) (by kernel_rfl) (by kernel_rfl) (by kernel_rfl) rfl (aW [(0,.loop (aX 0 (ak Tryz.f170)))] (by kernel_rfl) ⟨lC rfl Sl,trivial⟩ [] (by kernel_rfl) trivial) fun x y h=>⟨y.1,fun _=>rfl,(t170 x).trans h⟩
def oz (t1:Int) (t5:List R3) (t9:List R9) (t10 t11:Int):Rd (Int×(List R3)×(List R9)×Int×Int×Unit) Unit :=
 cond (aw t11 t10) (
 cond (aR t11 t9) (
 (H3 (gt d9 t9 t11).1 t1).bind fun y1 =>
 cond (bT 8 t5 [y1.2.1]) (
 some (.inl (t1,(jn t5 [y1.2.1]),t9,t10,(aj .i64 t11 1),()))
 ) none
 ) none
 ) (
 some (.inr (.inl (t1,t5,t9,t10,t11,())))
 )
def KG:=tV (ah (dQ oz))
def OP (p0:List R9) (p1:Int):Option PN :=
 (KG p1 [] p0 (ae p0) 0).bind (Sum.elim (fun y1 =>
 (vX y1.2.1).bind fun y2 =>
 (Mh y2.1.1.1).bind fun y3 =>
 some ((),(y3.2.1,()))
 ) (fun _ =>
 none
 ))
def aaY:Su:=⟨[.c false [q9],.c false [ki]],[(false,[q3])],true,.inl fun x=>OP x.1.1 x.2.1.1⟩
theorem Wi:ar Tryz.prog 109 aaY :=
 fl (ac E4 (ac Ur (ac WW an))) [] [(0,⟨[.d 1 ki,.own 5 q3,.d 9 q9,.d 10 ki,.d 11 ki],ah (dQ oz)⟩)] [] Tryz.f109 (lp [0] (sc cN sn))
def Vh (p0:(List R5)×Int×(List R3)×Int×Int×Int×Int×Int×(List R5)×Unit) (p1:Int):Option PN :=
 (Pf p0.1).bind fun y1 =>
 (OP y1.2.1.1 p1).bind fun y2 =>
 some ((),(y2.2.1,()))
def s54:Su:=⟨[.c true [q5,ki,q3,ki,ki,ki,ki,ki,q5],.c false [ki]],[(false,[q3])],true,.inl fun x=>Vh x.1 x.2.1.1⟩
theorem V4:ar Tryz.prog 54 s54 :=
 fq (ac XN (ac Wi an)) Tryz.f54
def IP (t0 t1:List R3) (t12 t13:Int):Rd ((List R3)×(List R3)×Int×Int×Unit) Y2 :=
 cond (aw t13 t12) (
 cond (aR t13 t0) (
 cond (aR t13 t1) (
 cond (!(aq (gt d3 t0 t13).1 (gt d3 t1 t13).1)) (
 some (.inr (.inr (false,())))
 ) (
 some (.inl (t0,t1,t12,(aj .i64 t13 1),()))
 )
 ) none
 ) none
 ) (
 some (.inr (.inl (t0,t1,t12,t13,())))
 )
def TE:=mm (ah (cV IP))
def RS (p0 p1:List R3):Option dY :=
 let u1:=(ae p0)
 cond (!(aq u1 (ae p1))) (
 c0
 ) (
 (TE p0 p1 u1 0).bind (Sum.elim (fun _ =>
 c2
 ) (fun y1 =>
 some ((),(y1,()))
 ))
 )
def acK:Su:=⟨[.c false [q3],.c false [q3]],[(false,[.bool])],true,.inl fun x=>RS x.1.1 x.2.1.1⟩
theorem UD:ar Tryz.prog 133 acK :=
 fl an [.d 4 .bool] [(0,⟨[.d 0 q3,.d 1 q3,.d 12 ki,.d 13 ki],ah (cV IP)⟩)] [] Tryz.f133 (lp [0] (sc cN sn))
def Vi (p0:(List R5)×Int×(List R3)×Int×Int×Int×Int×Int×(List R5)×Unit) (p1:Int):Option dY :=
 (mS p1 1 5).bind fun y1 =>
 cond (!y1.2.1.1) (
 c0
 ) (
 (WN p0.2.1).bind fun y2 =>
 let u1:=(ae p0.2.2.2.2.2.2.2.2.1)
 cond (cond (cond (cC y2.2.1.1 []) true (aw 300 (ae p0.1))) true (aw 200 u1)) (
 c0
 ) (
 (vi p0.2.2.2.2.1).bind fun y3 =>
 cond (!y3.2.1.1) (
 c0
 ) (
 (vi p0.2.2.2.2.2.2.2.1).bind fun y4 =>
 cond (!y4.2.1.1) (
 c0
 ) (
 cond (aq p0.2.1 0) (
 let u2:=(ae p0.2.2.1)
 cond (aw 0 u2) (
 c0
 ) (
 cond (aq p0.2.1 1) (
 let u3:=(mS p0.2.2.2.1 0 (aO .i64 u2 1))
 Option.bind u3 fun y5 =>
 cond (!y5.2.1.1) (
 c0
 ) (
 cond (aw p0.2.1 3) (
 some ((),(((cond (cond (cond (aq p0.2.2.2.2.2.1 (-1)) (aq p0.2.2.2.2.2.2.1 (-1)) false) (aq p0.2.2.2.2.2.2.2.1 0) false) (aq u1 0) false),()),()))
 ) (
 let u4:=(vi p0.2.2.2.2.2.1)
 Option.bind u4 fun y6 =>
 let u5:=(cond (!y6.2.1.1) true (aw p0.2.2.2.2.2.1 p0.2.2.2.2.1))
 cond u5 (
 c0
 ) (
 cond (aq p0.2.1 5) (
 let u6:=(vi p0.2.2.2.2.2.2.1)
 Option.bind u6 fun y7 =>
 some ((),(((cond y7.2.1.1 (bL p0.2.2.2.2.2.1 p0.2.2.2.2.2.2.1) false),()),()))
 ) (
 some ((),(((aq p0.2.2.2.2.2.2.1 (-1)),()),()))
 )
 )
 )
 )
 ) (
 cond (aq p0.2.1 2) (
 cond (!(cond (aq p0.2.2.2.1 u2) (aw 0 u2) false)) (
 c0
 ) (
 cond (aw p0.2.1 3) (
 some ((),(((cond (cond (cond (aq p0.2.2.2.2.2.1 (-1)) (aq p0.2.2.2.2.2.2.1 (-1)) false) (aq p0.2.2.2.2.2.2.2.1 0) false) (aq u1 0) false),()),()))
 ) (
 let u3:=(vi p0.2.2.2.2.2.1)
 Option.bind u3 fun y5 =>
 let u4:=(cond (!y5.2.1.1) true (aw p0.2.2.2.2.2.1 p0.2.2.2.2.1))
 cond u4 (
 c0
 ) (
 cond (aq p0.2.1 5) (
 let u5:=(vi p0.2.2.2.2.2.2.1)
 Option.bind u5 fun y6 =>
 some ((),(((cond y6.2.1.1 (bL p0.2.2.2.2.2.1 p0.2.2.2.2.2.2.1) false),()),()))
 ) (
 some ((),(((aq p0.2.2.2.2.2.2.1 (-1)),()),()))
 )
 )
 )
 )
 ) (
 cond (aq p0.2.1 3) (
 let u3:=(mS p0.2.2.2.1 1 u2)
 Option.bind u3 fun y5 =>
 cond (!y5.2.1.1) (
 c0
 ) (
 cond (aw p0.2.1 3) (
 some ((),(((cond (cond (cond (aq p0.2.2.2.2.2.1 (-1)) (aq p0.2.2.2.2.2.2.1 (-1)) false) (aq p0.2.2.2.2.2.2.2.1 0) false) (aq u1 0) false),()),()))
 ) (
 let u4:=(vi p0.2.2.2.2.2.1)
 Option.bind u4 fun y6 =>
 let u5:=(cond (!y6.2.1.1) true (aw p0.2.2.2.2.2.1 p0.2.2.2.2.1))
 cond u5 (
 c0
 ) (
 cond (aq p0.2.1 5) (
 let u6:=(vi p0.2.2.2.2.2.2.1)
 Option.bind u6 fun y7 =>
 some ((),(((cond y7.2.1.1 (bL p0.2.2.2.2.2.1 p0.2.2.2.2.2.2.1) false),()),()))
 ) (
 some ((),(((aq p0.2.2.2.2.2.2.1 (-1)),()),()))
 )
 )
 )
 )
 ) (
 cond (!(aq p0.2.2.2.1 0)) (
 c0
 ) (
 cond (aw p0.2.1 3) (
 some ((),(((cond (cond (cond (aq p0.2.2.2.2.2.1 (-1)) (aq p0.2.2.2.2.2.2.1 (-1)) false) (aq p0.2.2.2.2.2.2.2.1 0) false) (aq u1 0) false),()),()))
 ) (
 let u3:=(vi p0.2.2.2.2.2.1)
 Option.bind u3 fun y5 =>
 let u4:=(cond (!y5.2.1.1) true (aw p0.2.2.2.2.2.1 p0.2.2.2.2.1))
 cond u4 (
 c0
 ) (
 cond (aq p0.2.1 5) (
 let u5:=(vi p0.2.2.2.2.2.2.1)
 Option.bind u5 fun y6 =>
 some ((),(((cond y6.2.1.1 (bL p0.2.2.2.2.2.1 p0.2.2.2.2.2.2.1) false),()),()))
 ) (
 some ((),(((aq p0.2.2.2.2.2.2.1 (-1)),()),()))
 )
 )
 )
 )
 )
 )
 )
 )
 ) (
 (Vh p0 p1).bind fun y5 =>
 (RS p0.2.2.1 y5.2.1.1).bind fun y6 =>
 cond (!y6.2.1.1) (
 c0
 ) (
 cond (aq p0.2.1 1) (
 let u2:=(ae p0.2.2.1)
 let u3:=(mS p0.2.2.2.1 0 (aO .i64 u2 1))
 Option.bind u3 fun y7 =>
 cond (!y7.2.1.1) (
 c0
 ) (
 cond (aw p0.2.1 3) (
 some ((),(((cond (cond (cond (aq p0.2.2.2.2.2.1 (-1)) (aq p0.2.2.2.2.2.2.1 (-1)) false) (aq p0.2.2.2.2.2.2.2.1 0) false) (aq u1 0) false),()),()))
 ) (
 let u4:=(vi p0.2.2.2.2.2.1)
 Option.bind u4 fun y8 =>
 let u5:=(cond (!y8.2.1.1) true (aw p0.2.2.2.2.2.1 p0.2.2.2.2.1))
 cond u5 (
 c0
 ) (
 cond (aq p0.2.1 5) (
 let u6:=(vi p0.2.2.2.2.2.2.1)
 Option.bind u6 fun y9 =>
 some ((),(((cond y9.2.1.1 (bL p0.2.2.2.2.2.1 p0.2.2.2.2.2.2.1) false),()),()))
 ) (
 some ((),(((aq p0.2.2.2.2.2.2.1 (-1)),()),()))
 )
 )
 )
 )
 ) (
 cond (aq p0.2.1 2) (
 let u2:=(ae p0.2.2.1)
 cond (!(cond (aq p0.2.2.2.1 u2) (aw 0 u2) false)) (
 c0
 ) (
 cond (aw p0.2.1 3) (
 some ((),(((cond (cond (cond (aq p0.2.2.2.2.2.1 (-1)) (aq p0.2.2.2.2.2.2.1 (-1)) false) (aq p0.2.2.2.2.2.2.2.1 0) false) (aq u1 0) false),()),()))
 ) (
 let u3:=(vi p0.2.2.2.2.2.1)
 Option.bind u3 fun y7 =>
 let u4:=(cond (!y7.2.1.1) true (aw p0.2.2.2.2.2.1 p0.2.2.2.2.1))
 cond u4 (
 c0
 ) (
 cond (aq p0.2.1 5) (
 let u5:=(vi p0.2.2.2.2.2.2.1)
 Option.bind u5 fun y8 =>
 some ((),(((cond y8.2.1.1 (bL p0.2.2.2.2.2.1 p0.2.2.2.2.2.2.1) false),()),()))
 ) (
 some ((),(((aq p0.2.2.2.2.2.2.1 (-1)),()),()))
 )
 )
 )
 )
 ) (
 cond (aq p0.2.1 3) (
 let u2:=(ae p0.2.2.1)
 let u3:=(mS p0.2.2.2.1 1 u2)
 Option.bind u3 fun y7 =>
 cond (!y7.2.1.1) (
 c0
 ) (
 cond (aw p0.2.1 3) (
 some ((),(((cond (cond (cond (aq p0.2.2.2.2.2.1 (-1)) (aq p0.2.2.2.2.2.2.1 (-1)) false) (aq p0.2.2.2.2.2.2.2.1 0) false) (aq u1 0) false),()),()))
 ) (
 let u4:=(vi p0.2.2.2.2.2.1)
 Option.bind u4 fun y8 =>
 let u5:=(cond (!y8.2.1.1) true (aw p0.2.2.2.2.2.1 p0.2.2.2.2.1))
 cond u5 (
 c0
 ) (
 cond (aq p0.2.1 5) (
 let u6:=(vi p0.2.2.2.2.2.2.1)
 Option.bind u6 fun y9 =>
 some ((),(((cond y9.2.1.1 (bL p0.2.2.2.2.2.1 p0.2.2.2.2.2.2.1) false),()),()))
 ) (
 some ((),(((aq p0.2.2.2.2.2.2.1 (-1)),()),()))
 )
 )
 )
 )
 ) (
 cond (!(aq p0.2.2.2.1 0)) (
 c0
 ) (
 cond (aw p0.2.1 3) (
 some ((),(((cond (cond (cond (aq p0.2.2.2.2.2.1 (-1)) (aq p0.2.2.2.2.2.2.1 (-1)) false) (aq p0.2.2.2.2.2.2.2.1 0) false) (aq u1 0) false),()),()))
 ) (
 let u2:=(vi p0.2.2.2.2.2.1)
 Option.bind u2 fun y7 =>
 let u3:=(cond (!y7.2.1.1) true (aw p0.2.2.2.2.2.1 p0.2.2.2.2.1))
 cond u3 (
 c0
 ) (
 cond (aq p0.2.1 5) (
 let u4:=(vi p0.2.2.2.2.2.2.1)
 Option.bind u4 fun y8 =>
 some ((),(((cond y8.2.1.1 (bL p0.2.2.2.2.2.1 p0.2.2.2.2.2.2.1) false),()),()))
 ) (
 some ((),(((aq p0.2.2.2.2.2.2.1 (-1)),()),()))
 )
 )
 )
 )
 )
 )
 )
 )
 )
 )
 )
 )
 )
def s75:Su:=⟨[.c true [q5,ki,q3,ki,ki,ki,ki,ki,q5],.c false [ki]],[(false,[.bool])],true,.inl fun x=>Vi x.1 x.2.1.1⟩
theorem aal:ar Tryz.prog 75 s75 :=
 fq (ac lR (ac O0 (ac aaN (ac V4 (ac UD an))))) Tryz.f75
def YW (p0:(List R5)×Int×(List R3)×Int×Int×Int×Int×Int×(List R5)×Unit) (p1:Int):Option dY :=
 let u1:=(Ik 0 (Iu p0.2.2.2.1 (ae p0.2.2.1)))
 cond (dW 0 u1 p0.2.2.1) (
 (SX (sub p0.2.2.1 0 u1) p1).bind fun y1 =>
 some ((),(y1.2.1,()))
 ) none
def s77:Su:=⟨[.c true [q5,ki,q3,ki,ki,ki,ki,ki,q5],.c false [ki]],[(false,[.bool])],true,.inl fun x=>YW x.1 x.2.1.1⟩
theorem abt:ar Tryz.prog 77 s77 :=
 fq (ac S6 an) Tryz.f77
def yc (t3:List R3) (t36:List fj) (t37 t38:Int) (t61:List R3) (t62 t63:Int) (b1:(List dy)×Int×Int×(List fj)×Unit):Rd ((List R3)×(List fj)×Int×Int×(List R3)×Int×Int×zW×Unit) Y2 :=
 cond (aw t63 t62) (
 cond (aR t63 t61) (
 let u1:=(gt d3 t61 t63)
 cond (aq u1.1 (-1)) (
 let u2:=(aj .i64 t63 1)
 some (.inl (t3,t36,t37,t38,t61,t62,u2,b1,()))
 ) (
 cond (bL b1.2.2.1 u1.1) (
 some (.inr (.inr (false,())))
 ) (
 (SX t3 u1.1).bind fun y1 =>
 cond y1.2.1.1 (
 some (.inr (.inr (false,())))
 ) (
 cond (bT 8 t3 [u1]) (
 let u2:=(aj .i64 t63 1)
 some (.inl ((jn t3 [u1]),t36,t37,t38,t61,t62,u2,b1,()))
 ) none
 )
 )
 )
 ) none
 ) (
 some (.inr (.inl (t3,t36,t37,t38,t61,t62,t63,b1,())))
 )
def Rs:=Tj (ah (xx yc))
def xM (t3:List R3) (t36:List fj) (t37 t38:Int) (b1:(List dy)×Int×Int×(List fj)×Unit):Rd ((List R3)×(List fj)×Int×Int×zW×Unit) Y2 :=
 cond (aw t38 t37) (
 cond (aR t38 t36) (
 let u1:=(gt d62 t36 t38)
 (Vi u1 (ae b1.1)).bind fun y1 =>
 cond (cond (!y1.2.1.1) true (aw b1.2.1 u1.2.2.2.2.2.2.2.1)) (
 some (.inr (.inr (false,())))
 ) (
 (Rs t3 t36 t37 t38 [(u1.2.2.2.2.1,()),(u1.2.2.2.2.2.1,()),(u1.2.2.2.2.2.2.1,())] (ae [(u1.2.2.2.2.1,()),(u1.2.2.2.2.2.1,()),(u1.2.2.2.2.2.2.1,())]) 0 b1).bind (Sum.elim (fun y2 =>
 some (.inl (y2.1,y2.2.1,y2.2.2.1,(aj .i64 y2.2.2.2.1 1),y2.2.2.2.2.2.2.2.1,()))
 ) (fun y2 =>
 some (.inr (.inr (y2.1,())))
 ))
 )
 ) none
 ) (
 some (.inr (.inl (t3,t36,t37,t38,b1,())))
 )
def Q0:=tV (ah (dQ xM))
def yh (t8:Int) (t85:List dy) (t86 t87:Int) (t99:List fj) (t100 t101:Int) (b1:(List dy)×Int×Int×(List fj)×Unit) (b9:Int×(List de)×Unit):Rd (Int×(List dy)×Int×Int×(List fj)×Int×Int×zW×Uh×Unit) Y2 :=
 cond (aw t101 t100) (
 cond (aR t101 t99) (
 (YW (gt d62 t99 t101) t8).bind fun y1 =>
 cond (!(Jg y1.2.1.1 (aq b9.1 t101))) (
 some (.inr (.inr (false,())))
 ) (
 some (.inl (t8,t85,t86,t87,t99,t100,(aj .i64 t101 1),b1,b9,()))
 )
 ) none
 ) (
 some (.inr (.inl (t8,t85,t86,t87,t99,t100,t101,b1,b9,())))
 )
def Qn:=UK (ah (DD yh))
def wb (t85:List dy) (t86 t87:Int) (b1:(List dy)×Int×Int×(List fj)×Unit):Rd ((List dy)×Int×Int×zW×Unit) Y2 :=
 cond (aw t87 t86) (
 cond (aR t87 t85) (
 let u1:=(ae b1.2.2.2.1)
 let u2:=(gt d89 t85 t87)
 cond (bL u1 u2.1) (
 some (.inr (.inr (false,())))
 ) (
 (Qn t87 t85 t86 t87 b1.2.2.2.1 u1 0 b1 u2).bind (Sum.elim (fun y1 =>
 some (.inl (y1.2.1,y1.2.2.1,(aj .i64 y1.2.2.2.1 1),y1.2.2.2.2.2.2.2.1,()))
 ) (fun y1 =>
 some (.inr (.inr (y1.1,())))
 ))
 )
 ) none
 ) (
 some (.inr (.inl (t85,t86,t87,b1,())))
 )
def Qi:=mm (ah (cV wb))
def YO (p0:(List dy)×Int×Int×(List fj)×Unit):Option dY :=
 (YQ p0.1).bind fun y1 =>
 cond (!y1.2.1.1) (
 c0
 ) (
 (vi p0.2.1).bind fun y2 =>
 cond (!y2.2.1.1) (
 c0
 ) (
 (vi p0.2.2.1).bind fun y3 =>
 let u1:=(ae p0.2.2.2.1)
 cond (cond (!y3.2.1.1) true (aw 12 u1)) (
 c0
 ) (
 (Q0 [] p0.2.2.2.1 u1 0 p0).bind (Sum.elim (fun y4 =>
 (Qi y4.2.2.2.2.1.1 (ae y4.2.2.2.2.1.1) 0 y4.2.2.2.2.1).bind (Sum.elim (fun _ =>
 c2
 ) (fun y5 =>
 some ((),(y5,()))
 ))
 ) (fun y4 =>
 some ((),(y4,()))
 ))
 )
 )
 )
def s32:Su:=⟨[.c true [eJ,ki,ki,il]],[(false,[.bool])],true,.inl fun x=>YO x.1⟩
theorem acF:ar Tryz.prog 32 s32 :=
 fl (ac O0 (ac Zt (ac S6 (ac aal (ac abt an))))) [.d 2 .bool] [(2,⟨[.own 3 q3,.d 36 il,.d 37 ki,.d 38 ki,.own 61 q3,.d 62 ki,.d 63 ki,.box 1 [(false,eJ),(false,ki),(false,ki),(false,il)]],ah (xx yc)⟩),(0,⟨[.own 3 q3,.d 36 il,.d 37 ki,.d 38 ki,.box 1 [(false,eJ),(false,ki),(false,ki),(false,il)]],ah (dQ xM)⟩),(6,⟨[.d 8 ki,.d 85 eJ,.d 86 ki,.d 87 ki,.d 99 il,.d 100 ki,.d 101 ki,.box 1 [(false,eJ),(false,ki),(false,ki),(false,il)],.box 9 [(false,ki),(false,eH)]],ah (DD yh)⟩),(4,⟨[.d 85 eJ,.d 86 ki,.d 87 ki,.box 1 [(false,eJ),(false,ki),(false,ki),(false,il)]],ah (cV wb)⟩)] [] Tryz.f32 (lp [0,4] (sc (lp [2] (sc cN sn)) (sc (lp [6] (sc cN sn)) sn)))
def S3 (p0:(List R5)×Int×(List R3)×Int×Int×Int×Int×Int×(List R5)×Unit):Option dY :=
 some ((),(((!(aq p0.2.1 5)),()),()))
def abR:Su:=⟨[.c true [q5,ki,q3,ki,ki,ki,ki,ki,q5]],[(false,[.bool])],true,.inl fun x=>S3 x.1⟩
theorem VM:ar Tryz.prog 105 abR :=
 fq an Tryz.f105
def pQ (t0:List fj) (_:Unit) (t7 t8:Int):Rd ((List fj)×Unit×Int×Int×Unit) Y1 :=
 cond (aw t8 t7) (
 cond (aR t8 t0) (
 (S3 (gt d62 t0 t8)).bind fun y1 =>
 cond y1.2.1.1 (
 some (.inr (.inr (t8,())))
 ) (
 some (.inl (t0,(),t7,(aj .i64 t8 1),()))
 )
 ) none
 ) (
 some (.inr (.inl (t0,(),t7,t8,())))
 )
def RY:=mm (ah (cV pQ))
def OE (p0:List fj):Option im :=
 (RY p0 () (ae p0) 0).bind (Sum.elim (fun _ =>
 c3
 ) (fun y1 =>
 some ((),(y1,()))
 ))
def acs:Su:=⟨[.c false [il],.fn 105 []],[(false,[ki])],true,.inl fun x=>OE x.1.1⟩
theorem UW:ar Tryz.prog 165 acs :=
 fl (ac VM an) [.d 4 ki] [(0,⟨[.d 0 il,.fn 1 105 [],.d 7 ki,.d 8 ki],ah (cV pQ)⟩)] [] Tryz.f165 (lp [0] (sc cN sn))
def Tk (p0:List fj):Option dY :=
 (OE p0).bind fun y1 =>
 some ((),(((bL 0 y1.2.1.1),()),()))
def acB:Su:=⟨[.c false [il],.fn 105 []],[(false,[.bool])],true,.inl fun x=>Tk x.1.1⟩
theorem Xt:ar Tryz.prog 104 acB :=
 fq (ac UW an) Tryz.f104
def Yz (p0:(List dy)×Int×Int×(List fj)×Unit):Option dY :=
 (Tk p0.2.2.2.1).bind fun y1 =>
 some ((),(((!y1.2.1.1),()),()))
def s52:Su:=⟨[.c true [eJ,ki,ki,il]],[(false,[.bool])],true,.inl fun x=>Yz x.1⟩
theorem ac1:ar Tryz.prog 52 s52 :=
 fq (ac Xt an) Tryz.f52
def xU (t3 t7:List dy) (t8 t9:Int):Rd Zo Unit :=
 cond (aw t9 t8) (
 cond (aR t9 t7) (
 let u1:=(gt d89 t7 t9)
 (KH (u1.2.1,())).bind fun y1 =>
 cond (bT 32 t3 [(u1.1,y1.2.1.1,())]) (
 some (.inl ((jn t3 [(u1.1,y1.2.1.1,())]),t7,t8,(aj .i64 t9 1),()))
 ) none
 ) none
 ) (
 some (.inr (.inl (t3,t7,t8,t9,())))
 )
def Q7:=mm (ah (cV xU))
def YN (p0:List dy):Option Ug :=
 (Q7 [] p0 (ae p0) 0).bind (Sum.elim (fun y1 =>
 some ((),((y1.1,()),()))
 ) (fun _ =>
 none
 ))
def s92:Su:=⟨[.c false [eJ]],[(false,[eJ])],true,.inl fun x=>YN x.1.1⟩
theorem ac2:ar Tryz.prog 92 s92 :=
 fl (ac Rn an) [] [(0,⟨[.own 3 eJ,.d 7 eJ,.d 8 ki,.d 9 ki],ah (cV xU)⟩)] [] Tryz.f92 (lp [0] (sc cN sn))
def YP (p0:(List R5)×Int×(List R3)×Int×Int×Int×Int×Int×(List R5)×Unit):Option Y64 :=
 (P4 p0.1).bind fun y1 =>
 (Ds p0.2.2.1).bind fun y2 =>
 (P4 p0.2.2.2.2.2.2.2.2.1).bind fun y3 =>
 some ((),((y1.2.1.1,p0.2.1,y2.2.1.1,p0.2.2.2.1,p0.2.2.2.2.1,p0.2.2.2.2.2.1,p0.2.2.2.2.2.2.1,p0.2.2.2.2.2.2.2.1,y3.2.1.1,()),()))
def s93:Su:=⟨[.c true [q5,ki,q3,ki,ki,ki,ki,ki,q5]],[(true,[q5,ki,q3,ki,ki,ki,ki,ki,q5])],true,.inl fun x=>YP x.1⟩
theorem abE:ar Tryz.prog 93 s93 :=
 fq (ac Rc (ac VF an)) Tryz.f93
def xb (t15:List fj) (t16 t17:Int) (b2 b3:(List dy)×Int×Int×(List fj)×Unit):Rd ((List fj)×Int×Int×zW×zW×Unit) Unit :=
 cond (aw t17 t16) (
 cond (aR t17 t15) (
 (YP (gt d62 t15 t17)).bind fun y1 =>
 cond (bT 120 b3.2.2.2.1 [y1.2.1]) (
 some (.inl (t15,t16,(aj .i64 t17 1),b2,(b3.1,b3.2.1,b3.2.2.1,(jn b3.2.2.2.1 [y1.2.1]),()),()))
 ) none
 ) none
 ) (
 some (.inr (.inl (t15,t16,t17,b2,b3,())))
 )
def QI:=tV (ah (dQ xb))
def YM (p0:(List dy)×Int×Int×(List fj)×Unit):Option Y54 :=
 (YN p0.1).bind fun y1 =>
 (QI p0.2.2.2.1 (ae p0.2.2.2.1) 0 ([],0,0,[],()) (y1.2.1.1,p0.2.1,p0.2.2.1,[],())).bind (Sum.elim (fun y2 =>
 some ((),(y2.2.2.2.2.1,()))
 ) (fun _ =>
 none
 ))
def s42:Su:=⟨[.c true [eJ,ki,ki,il]],[(true,[eJ,ki,ki,il])],true,.inl fun x=>YM x.1⟩
theorem Zz:ar Tryz.prog 42 s42 :=
 fl (ac ac2 (ac abE an)) [] [(0,⟨[.d 15 il,.d 16 ki,.d 17 ki,.box 2 [(true,eJ),(false,ki),(false,ki),(true,il)],.box 3 [(true,eJ),(false,ki),(false,ki),(true,il)]],ah (dQ xb)⟩)] [] Tryz.f42 (lp [0] (sc cN sn))
def g34 (p0:(List dy)×Int×Int×(List fj)×Unit):Option Th :=
 (Q1 p0.1).bind fun y1 =>
 some ((),(y1.2.1,()))
def s34:Su:=⟨[.c true [eJ,ki,ki,il]],[(true,[eH])],true,.inl fun x=>g34 x.1⟩
theorem ZJ:ar Tryz.prog 34 s34 :=
 fq (ac Ye an) Tryz.f34
def ug (t1:Int) (t5:List dy) (t18 t19:Int) (b2:(List de)×Unit):Rd (Int×(List dy)×Int×Int×Y5×Unit) Unit :=
 cond (aw t19 t18) (
 cond (bT 32 t5 [((-1),[],())]) (
 some (.inl (t1,(jn t5 [((-1),[],())]),t18,(aj .i64 t19 1),b2,()))
 ) none
 ) (
 some (.inr (.inl (t1,t5,t18,t19,b2,())))
 )
def zw:=tV (ah (dQ ug))
def tW (t1:Int) (t5:List dy) (t27:List de) (t28 t29:Int):Rd (Int×(List dy)×(List de)×Int×Int×Unit) Unit :=
 cond (aw t29 t28) (
 cond (aR t29 t27) (
 let u1:=(gt d59 t27 t29)
 (H3 u1.1 t1).bind fun y1 =>
 cond (aR y1.2.1.1 t5) (
 (L5 u1).bind fun y2 =>
 let u2:=(gt d89 t5 y1.2.1.1)
 cond (bT 160 u2.2.1 [y2.2.1]) (
 cond (yT y1.2.1.1 t5 y1.2.1.1) (
 some (.inl (t1,(jh t5 y1.2.1.1 (u2.1,(jn u2.2.1 [y2.2.1]),())),t27,t28,(aj .i64 t29 1),()))
 ) none
 ) none
 ) none
 ) none
 ) (
 some (.inr (.inl (t1,t5,t27,t28,t29,())))
 )
def Dq:=tV (ah (dQ tW))
def Xl (p0:(List de)×Unit) (p1:Int):Option Ug :=
 (GF p0).bind fun y1 =>
 cond (!y1.2.1.1) (
 YJ
 ) (
 (mS p1 1 5).bind fun y2 =>
 cond (!y2.2.1.1) (
 YJ
 ) (
 (zw p1 [] p1 0 p0).bind (Sum.elim (fun y3 =>
 (Dq y3.1 y3.2.1 y3.2.2.2.2.1.1 (ae y3.2.2.2.2.1.1) 0).bind (Sum.elim (fun y4 =>
 some ((),((y4.2.1,()),()))
 ) (fun _ =>
 none
 ))
 ) (fun _ =>
 none
 ))
 )
 )
def Zq:Su:=⟨[.c true [eH],.c false [ki]],[(false,[eJ])],true,.inl fun x=>Xl x.1 x.2.1.1⟩
def xL:List SE:=[.d 1 ki,.own 5 eJ,.d 18 ki,.d 19 ki,.box 2 [(false,eH)]]
def vC:List SE:=[.d 1 ki,.own 5 eJ,.d 27 eH,.d 28 ki,.d 29 ki]
def TO:List SE:=[]
def X8:Nat->Option (Lo TO)
 | 0=>some ⟨xL,dQ zw⟩
 | 2=>some ⟨vC,dQ Dq⟩
 | _=>none
def OS:List Y0:=[(41,iS s41),(108,iS W8),(106,iS X3),(107,iS WJ)]
def On:En:=yK 52 tt OS TO X8 [] fun _=>none
def ab8:Nat->Option (St->Tr St)
 | 12=>some (Ld On (opsOf (bg 12 (ak Tryz.f53))) [(10,0),(10,1)] 10)
 | _=>none
def QE:En:=yK 52 tt OS TO X8 [] (ab8)
theorem WG (x:bJ xL):(cZ QE 0 xL (aX 0 (ak Tryz.f53)) x).run=dQ ug x:=by kernel_rfl
theorem U7 (x:bJ vC):(cZ QE 2 vC (aX 2 (ak Tryz.f53)) x).run=dQ tW x:=by kernel_rfl
theorem t53 (x:PT Zq.ps):(FK QE (ak Tryz.f53) Tryz.f53.results.toList Zq.ps Zq.rs true x).run=Xl x.1 x.2.1.1:=by kernel_rfl
theorem JG:df Tryz.prog QE:=cR (l:=OS) ⟨lR,Kw,JC,E4,trivial⟩
theorem Ic:df Tryz.prog On:=cR (l:=OS) ⟨lR,Kw,JC,E4,trivial⟩
theorem RM:cH Tryz.prog QE (bg 12 (ak Tryz.f53)) (Ld On (opsOf (bg 12 (ak Tryz.f53))) [(10,0),(10,1)] 10) :=
 fV rfl rfl (Ss (E:=On) (kM hT) Ic eu (c:=(bg 12 (ak Tryz.f53))) (id:=12) (by kernel_rfl))
theorem Xx:cl Tryz.prog QE 0 (.loop (aX 0 (ak Tryz.f53))) ⟨xL,dQ zw⟩ :=
 er (kM hT) JG eu (step:=fun (x:bJ xL)=>ug x.1 x.2.1 x.2.2.1 x.2.2.2.1 x.2.2.2.2.1) WG (aW [] (by kernel_rfl) trivial [] (by kernel_rfl) trivial)
theorem XX:cl Tryz.prog QE 2 (.loop (aX 2 (ak Tryz.f53))) ⟨vC,dQ Dq⟩ :=
 er (kM hT) JG eu (step:=fun (x:bJ vC)=>tW x.1 x.2.1 x.2.2.1 x.2.2.2.1 x.2.2.2.2.1) U7 (aW [] (by kernel_rfl) trivial [(12,bg 12 (ak Tryz.f53))] (by kernel_rfl) ⟨xH rfl RM,trivial⟩)
theorem acP:ar Tryz.prog 53 Zq :=
 oh (E:=QE) (kM hT) JG eu (fn:=Tryz.f53) (c:=(ak Tryz.f53)) (by kernel_rfl) (by kernel_rfl) (by kernel_rfl) rfl (aW [(0,.loop (aX 0 (ak Tryz.f53))),(2,.loop (aX 2 (ak Tryz.f53)))] (by kernel_rfl) ⟨lC rfl Xx,lC rfl XX,trivial⟩ [] (by kernel_rfl) trivial) fun x y h=>⟨y.1,fun _=>rfl,(t53 x).trans h⟩
def wW (t1 t31 t32:Int) (b4 b6:(List dy)×Int×Int×(List fj)×Unit):Rd (Int×Int×Int×zW×zW×Unit) Unit :=
 cond (aw t32 t31) (
 cond (aR t32 b6.2.2.2.1) (
 let u1:=(gt d62 b6.2.2.2.1 t32)
 (Vh u1 t1).bind fun y1 =>
 cond (aR t32 b6.2.2.2.1) (
 some (.inl (t1,t31,(aj .i64 t32 1),b4,(b6.1,b6.2.1,b6.2.2.1,(jh b6.2.2.2.1 t32 (u1.1,u1.2.1,y1.2.1.1,u1.2.2.2.1,u1.2.2.2.2.1,u1.2.2.2.2.2.1,u1.2.2.2.2.2.2.1,u1.2.2.2.2.2.2.2.1,u1.2.2.2.2.2.2.2.2.1,())),()),()))
 ) none
 ) none
 ) (
 some (.inr (.inl (t1,t31,t32,b4,b6,())))
 )
def Rm:=tV (ah (dQ wW))
def g22 (p0:(List dy)×Int×Int×(List fj)×Unit) (p1:Int):Option (Unit×(zW×Y2×Unit)) :=
 (YO p0).bind fun y1 =>
 cond (!y1.2.1.1) (
 c8
 ) (
 (Yz p0).bind fun y2 =>
 cond (!y2.2.1.1) (
 c8
 ) (
 (mS p1 1 5).bind fun y3 =>
 cond (!y3.2.1.1) (
 c8
 ) (
 (YM p0).bind fun y4 =>
 (g34 p0).bind fun y5 =>
 (Xl y5.2.1 p1).bind fun y6 =>
 (Rm p1 (ae y4.2.1.2.2.2.1) 0 ([],0,0,[],()) (y6.2.1.1,y4.2.1.2.1,y4.2.1.2.2.1,y4.2.1.2.2.2.1,())).bind (Sum.elim (fun y7 =>
 some ((),(y7.2.2.2.2.1,(true,()),()))
 ) (fun _ =>
 none
 ))
 )
 )
 )
def s22:Su:=⟨[.c true [eJ,ki,ki,il],.c false [ki]],[(true,[eJ,ki,ki,il]),(false,[.bool])],true,.inl fun x=>g22 x.1 x.2.1.1⟩
theorem abO:ar Tryz.prog 22 s22 :=
 fl (ac lR (ac V4 (ac acF (ac ac1 (ac Zz (ac ZJ (ac acP an))))))) [] [(0,⟨[.d 1 ki,.d 31 ki,.d 32 ki,.box 4 [(true,eJ),(false,ki),(false,ki),(true,il)],.box 6 [(true,eJ),(false,ki),(false,ki),(true,il)]],ah (dQ wW)⟩)] [] Tryz.f22 (lp [0] (sc cN sn))
def Pc (p0 p1:(List UInt8)×Int×Int×Unit):Option dY :=
 cond (!(cC p0.1 p1.1)) (
 c0
 ) (
 cond (!(aq p0.2.1 p1.2.1)) (
 c0
 ) (
 cond (!(aq p0.2.2.1 p1.2.2.1)) (
 c0
 ) (
 c2
 )
 )
 )
def abX:Su:=⟨[.c true [.str,ki,ki],.c true [.str,ki,ki]],[(false,[.bool])],true,.inl fun x=>Pc x.1 x.2.1⟩
theorem VC:ar Tryz.prog 294 abX :=
 fq an Tryz.f294
def oH (t0 t1:List gD) (t5:Int):Rd ((List gD)×(List gD)×Int×Unit) Y2 :=
 cond (aw t5 (ae t0)) (
 cond (aR t5 t0) (
 cond (aR t5 t1) (
 (Pc (gt d95 t0 t5) (gt d95 t1 t5)).bind fun y1 =>
 cond (!y1.2.1.1) (
 some (.inr (.inr (false,())))
 ) (
 some (.inl (t0,t1,(aj .i64 t5 1),()))
 )
 ) none
 ) none
 ) (
 some (.inr (.inl (t0,t1,t5,())))
 )
def K0:=kz (ah (dq oH))
def N7 (p0 p1:List gD):Option dY :=
 cond (!(aq (ae p0) (ae p1))) (
 c0
 ) (
 (K0 p0 p1 0).bind (Sum.elim (fun _ =>
 c2
 ) (fun y1 =>
 some ((),(y1,()))
 ))
 )
def ZN:Su:=⟨[.c false [mE],.c false [mE]],[(false,[.bool])],true,.inl fun x=>N7 x.1.1 x.2.1.1⟩
theorem V6:ar Tryz.prog 253 ZN :=
 fl (ac VC an) [.d 4 .bool] [(0,⟨[.d 0 mE,.d 1 mE,.d 5 ki],ah (dq oH)⟩)] [] Tryz.f253 (lp [0] (sc cN sn))
def qu (t0 t1:List R3) (t5:Int):Rd ((List R3)×(List R3)×Int×Unit) Y2 :=
 cond (aw t5 (ae t0)) (
 cond (aR t5 t0) (
 cond (aR t5 t1) (
 cond (!(aq (gt d3 t0 t5).1 (gt d3 t1 t5).1)) (
 some (.inr (.inr (false,())))
 ) (
 some (.inl (t0,t1,(aj .i64 t5 1),()))
 )
 ) none
 ) none
 ) (
 some (.inr (.inl (t0,t1,t5,())))
 )
def Kz:=kz (ah (dq qu))
def Hb (p0 p1:List R3):Option dY :=
 cond (!(aq (ae p0) (ae p1))) (
 c0
 ) (
 (Kz p0 p1 0).bind (Sum.elim (fun _ =>
 c2
 ) (fun y1 =>
 some ((),(y1,()))
 ))
 )
def acG:Su:=⟨[.c false [q3],.c false [q3]],[(false,[.bool])],true,.inl fun x=>Hb x.1.1 x.2.1.1⟩
theorem QF:ar Tryz.prog 155 acG :=
 fl an [.d 4 .bool] [(0,⟨[.d 0 q3,.d 1 q3,.d 5 ki],ah (dq qu)⟩)] [] Tryz.f155 (lp [0] (sc cN sn))
def NJ (p0 p1:Int×Int×(List R3)×(List R3)×Unit):Option dY :=
 cond (!(aq p0.1 p1.1)) (
 c0
 ) (
 cond (!(aq p0.2.1 p1.2.1)) (
 c0
 ) (
 (Hb p0.2.2.1 p1.2.2.1).bind fun y1 =>
 cond (!y1.2.1.1) (
 c0
 ) (
 (Hb p0.2.2.2.1 p1.2.2.2.1).bind fun y2 =>
 cond (!y2.2.1.1) (
 c0
 ) (
 c2
 )
 )
 )
 )
def abL:Su:=⟨[.c true [ki,ki,q3,q3],.c true [ki,ki,q3,q3]],[(false,[.bool])],true,.inl fun x=>NJ x.1 x.2.1⟩
theorem Wn:ar Tryz.prog 254 abL :=
 fq (ac QF an) Tryz.f254
def wG (t0 t1:List R5) (t5:Int):Rd ((List R5)×(List R5)×Int×Unit) Y2 :=
 cond (aw t5 (ae t0)) (
 cond (aR t5 t0) (
 cond (aR t5 t1) (
 cond (!(aq (gt d5 t0 t5).1 (gt d5 t1 t5).1)) (
 some (.inr (.inr (false,())))
 ) (
 some (.inl (t0,t1,(aj .i64 t5 1),()))
 )
 ) none
 ) none
 ) (
 some (.inr (.inl (t0,t1,t5,())))
 )
def QK:=kz (ah (dq wG))
def g19 (p0 p1:List R5):Option dY :=
 cond (!(aq (ae p0) (ae p1))) (
 c0
 ) (
 (QK p0 p1 0).bind (Sum.elim (fun _ =>
 c2
 ) (fun y1 =>
 some ((),(y1,()))
 ))
 )
def s19:Su:=⟨[.c false [q5],.c false [q5]],[(false,[.bool])],true,.inl fun x=>g19 x.1.1 x.2.1.1⟩
theorem WS:ar Tryz.prog 19 s19 :=
 fl an [.d 4 .bool] [(0,⟨[.d 0 q5,.d 1 q5,.d 5 ki],ah (dq wG)⟩)] [] Tryz.f19 (lp [0] (sc cN sn))
def Py (p0 p1:(List UInt8)×(List UInt8)×(List R5)×Unit):Option dY :=
 cond (!(cC p0.1 p1.1)) (
 c0
 ) (
 cond (!(cC p0.2.1 p1.2.1)) (
 c0
 ) (
 (g19 p0.2.2.1 p1.2.2.1).bind fun y1 =>
 cond (!y1.2.1.1) (
 c0
 ) (
 c2
 )
 )
 )
def ZX:Su:=⟨[.c true [.str,.str,q5],.c true [.str,.str,q5]],[(false,[.bool])],true,.inl fun x=>Py x.1 x.2.1⟩
theorem U9:ar Tryz.prog 295 ZX :=
 fq (ac WS an) Tryz.f295
def qb (t0 t1:List cD) (t5:Int):Rd ((List cD)×(List cD)×Int×Unit) Y2 :=
 cond (aw t5 (ae t0)) (
 cond (aR t5 t0) (
 cond (aR t5 t1) (
 (Py (gt d166 t0 t5) (gt d166 t1 t5)).bind fun y1 =>
 cond (!y1.2.1.1) (
 some (.inr (.inr (false,())))
 ) (
 some (.inl (t0,t1,(aj .i64 t5 1),()))
 )
 ) none
 ) none
 ) (
 some (.inr (.inl (t0,t1,t5,())))
 )
def Lt:=kz (ah (dq qb))
def NO (p0 p1:List cD):Option dY :=
 cond (!(aq (ae p0) (ae p1))) (
 c0
 ) (
 (Lt p0 p1 0).bind (Sum.elim (fun _ =>
 c2
 ) (fun y1 =>
 some ((),(y1,()))
 ))
 )
def abv:Su:=⟨[.c false [dX],.c false [dX]],[(false,[.bool])],true,.inl fun x=>NO x.1.1 x.2.1.1⟩
theorem X5:ar Tryz.prog 255 abv :=
 fl (ac U9 an) [.d 4 .bool] [(0,⟨[.d 0 dX,.d 1 dX,.d 5 ki],ah (dq qb)⟩)] [] Tryz.f255 (lp [0] (sc cN sn))
def OR (p0 p1:(List UInt8)×Int×Int×Int×Int×(List gD)×Int×Int×(List R3)×(List R3)×(List cD)×Unit):Option dY :=
 cond (!(cC p0.1 p1.1)) (
 c0
 ) (
 cond (!(aq p0.2.1 p1.2.1)) (
 c0
 ) (
 cond (!(aq p0.2.2.1 p1.2.2.1)) (
 c0
 ) (
 cond (!(aq p0.2.2.2.1 p1.2.2.2.1)) (
 c0
 ) (
 cond (!(aq p0.2.2.2.2.1 p1.2.2.2.2.1)) (
 c0
 ) (
 (N7 p0.2.2.2.2.2.1 p1.2.2.2.2.2.1).bind fun y1 =>
 cond (!y1.2.1.1) (
 c0
 ) (
 (NJ (p0.2.2.2.2.2.2.1,p0.2.2.2.2.2.2.2.1,p0.2.2.2.2.2.2.2.2.1,p0.2.2.2.2.2.2.2.2.2.1,()) (p1.2.2.2.2.2.2.1,p1.2.2.2.2.2.2.2.1,p1.2.2.2.2.2.2.2.2.1,p1.2.2.2.2.2.2.2.2.2.1,())).bind fun y2 =>
 cond (!y2.2.1.1) (
 c0
 ) (
 (NO p0.2.2.2.2.2.2.2.2.2.2.1 p1.2.2.2.2.2.2.2.2.2.2.1).bind fun y3 =>
 cond (!y3.2.1.1) (
 c0
 ) (
 c2
 )
 )
 )
 )
 )
 )
 )
 )
def acy:Su:=⟨[.c true [.str,ki,ki,ki,ki,mE,ki,ki,q3,q3,dX],.c true [.str,ki,ki,ki,ki,mE,ki,ki,q3,q3,dX]],[(false,[.bool])],true,.inl fun x=>OR x.1 x.2.1⟩
theorem WD:ar Tryz.prog 198 acy :=
 fq (ac V6 (ac Wn (ac X5 an))) Tryz.f198
def qv (t0 t1:List de) (t5:Int):Rd ((List de)×(List de)×Int×Unit) Y2 :=
 cond (aw t5 (ae t0)) (
 cond (aR t5 t0) (
 cond (aR t5 t1) (
 (OR (gt d59 t0 t5) (gt d59 t1 t5)).bind fun y1 =>
 cond (!y1.2.1.1) (
 some (.inr (.inr (false,())))
 ) (
 some (.inl (t0,t1,(aj .i64 t5 1),()))
 )
 ) none
 ) none
 ) (
 some (.inr (.inl (t0,t1,t5,())))
 )
def JS:=kz (ah (dq qv))
def M5 (p0 p1:List de):Option dY :=
 cond (!(aq (ae p0) (ae p1))) (
 c0
 ) (
 (JS p0 p1 0).bind (Sum.elim (fun _ =>
 c2
 ) (fun y1 =>
 some ((),(y1,()))
 ))
 )
def acU:Su:=⟨[.c false [eH],.c false [eH]],[(false,[.bool])],true,.inl fun x=>M5 x.1.1 x.2.1.1⟩
theorem UB:ar Tryz.prog 154 acU :=
 fl (ac WD an) [.d 4 .bool] [(0,⟨[.d 0 eH,.d 1 eH,.d 5 ki],ah (dq qv)⟩)] [] Tryz.f154 (lp [0] (sc cN sn))
def YD (p0 p1:Int×(List de)×Unit):Option dY :=
 cond (!(aq p0.1 p1.1)) (
 c0
 ) (
 (M5 p0.2.1 p1.2.1).bind fun y1 =>
 cond (!y1.2.1.1) (
 c0
 ) (
 c2
 )
 )
def s88:Su:=⟨[.c true [ki,eH],.c true [ki,eH]],[(false,[.bool])],true,.inl fun x=>YD x.1 x.2.1⟩
theorem acq:ar Tryz.prog 88 s88 :=
 fq (ac UB an) Tryz.f88
def we (t0 t1:List dy) (t5:Int):Rd ((List dy)×(List dy)×Int×Unit) Y2 :=
 cond (aw t5 (ae t0)) (
 cond (aR t5 t0) (
 cond (aR t5 t1) (
 (YD (gt d89 t0 t5) (gt d89 t1 t5)).bind fun y1 =>
 cond (!y1.2.1.1) (
 some (.inr (.inr (false,())))
 ) (
 some (.inl (t0,t1,(aj .i64 t5 1),()))
 )
 ) none
 ) none
 ) (
 some (.inr (.inl (t0,t1,t5,())))
 )
def Qu:=kz (ah (dq we))
def Zj (p0 p1:List dy):Option dY :=
 cond (!(aq (ae p0) (ae p1))) (
 c0
 ) (
 (Qu p0 p1 0).bind (Sum.elim (fun _ =>
 c2
 ) (fun y1 =>
 some ((),(y1,()))
 ))
 )
def s37:Su:=⟨[.c false [eJ],.c false [eJ]],[(false,[.bool])],true,.inl fun x=>Zj x.1.1 x.2.1.1⟩
theorem acR:ar Tryz.prog 37 s37 :=
 fl (ac acq an) [.d 4 .bool] [(0,⟨[.d 0 eJ,.d 1 eJ,.d 5 ki],ah (dq we)⟩)] [] Tryz.f37 (lp [0] (sc cN sn))
def YG (p0 p1:(List R5)×Int×(List R3)×Int×Int×Int×Int×Int×(List R5)×Unit):Option dY :=
 (g19 p0.1 p1.1).bind fun y1 =>
 cond (!y1.2.1.1) (
 c0
 ) (
 cond (!(aq p0.2.1 p1.2.1)) (
 c0
 ) (
 (Hb p0.2.2.1 p1.2.2.1).bind fun y2 =>
 cond (!y2.2.1.1) (
 c0
 ) (
 cond (!(aq p0.2.2.2.1 p1.2.2.2.1)) (
 c0
 ) (
 cond (!(aq p0.2.2.2.2.1 p1.2.2.2.2.1)) (
 c0
 ) (
 cond (!(aq p0.2.2.2.2.2.1 p1.2.2.2.2.2.1)) (
 c0
 ) (
 cond (!(aq p0.2.2.2.2.2.2.1 p1.2.2.2.2.2.2.1)) (
 c0
 ) (
 cond (!(aq p0.2.2.2.2.2.2.2.1 p1.2.2.2.2.2.2.2.1)) (
 c0
 ) (
 (g19 p0.2.2.2.2.2.2.2.2.1 p1.2.2.2.2.2.2.2.2.1).bind fun y3 =>
 cond (!y3.2.1.1) (
 c0
 ) (
 c2
 )
 )
 )
 )
 )
 )
 )
 )
 )
def s89:Su:=⟨[.c true [q5,ki,q3,ki,ki,ki,ki,ki,q5],.c true [q5,ki,q3,ki,ki,ki,ki,ki,q5]],[(false,[.bool])],true,.inl fun x=>YG x.1 x.2.1⟩
theorem aag:ar Tryz.prog 89 s89 :=
 fq (ac QF (ac WS an)) Tryz.f89
def xX (t0 t1:List fj) (t5:Int):Rd ((List fj)×(List fj)×Int×Unit) Y2 :=
 cond (aw t5 (ae t0)) (
 cond (aR t5 t0) (
 cond (aR t5 t1) (
 (YG (gt d62 t0 t5) (gt d62 t1 t5)).bind fun y1 =>
 cond (!y1.2.1.1) (
 some (.inr (.inr (false,())))
 ) (
 some (.inl (t0,t1,(aj .i64 t5 1),()))
 )
 ) none
 ) none
 ) (
 some (.inr (.inl (t0,t1,t5,())))
 )
def PJ:=kz (ah (dq xX))
def YX (p0 p1:List fj):Option dY :=
 cond (!(aq (ae p0) (ae p1))) (
 c0
 ) (
 (PJ p0 p1 0).bind (Sum.elim (fun _ =>
 c2
 ) (fun y1 =>
 some ((),(y1,()))
 ))
 )
def s38:Su:=⟨[.c false [il],.c false [il]],[(false,[.bool])],true,.inl fun x=>YX x.1.1 x.2.1.1⟩
theorem aaI:ar Tryz.prog 38 s38 :=
 fl (ac aag an) [.d 4 .bool] [(0,⟨[.d 0 il,.d 1 il,.d 5 ki],ah (dq xX)⟩)] [] Tryz.f38 (lp [0] (sc cN sn))
def g11 (p0 p1:(List dy)×Int×Int×(List fj)×Unit):Option dY :=
 (Zj p0.1 p1.1).bind fun y1 =>
 cond (!y1.2.1.1) (
 c0
 ) (
 cond (!(aq p0.2.1 p1.2.1)) (
 c0
 ) (
 cond (!(aq p0.2.2.1 p1.2.2.1)) (
 c0
 ) (
 (YX p0.2.2.2.1 p1.2.2.2.1).bind fun y2 =>
 cond (!y2.2.1.1) (
 c0
 ) (
 c2
 )
 )
 )
 )
def s11:Su:=⟨[.c true [eJ,ki,ki,il],.c true [eJ,ki,ki,il]],[(false,[.bool])],true,.inl fun x=>g11 x.1 x.2.1⟩
theorem aby:ar Tryz.prog 11 s11 :=
 fq (ac acR (ac aaI an)) Tryz.f11
def nq (t0:Int) (t3:List UInt8):Rd iX Unit :=
 cond (aw 0 t0) (
 let u1:=(strOf [((bI .u8 (aj .i64 48 (fX t0 10))),())])
 cond (GM u1 t3) (
 some (.inl ((mA .i64 t0 10),(QY u1 t3),()))
 ) none
 ) (
 some (.inr (.inl (t0,t3,())))
 )
def KE:=Q2 (ah (wB nq))
def sY (p0:Int):Option Nt :=
 cond (bL p0 0) (
 some ((),(([109,48],()),()))
 ) (
 (KE p0 []).bind (Sum.elim (fun y1 =>
 cond (GM [109] y1.2.1) (
 some ((),(((QY [109] y1.2.1),()),()))
 ) none
 ) (fun _ =>
 none
 ))
 )
def ab2:Su:=⟨[.c false [ki]],[(false,[.str])],true,.inl fun x=>sY x.1.1⟩
theorem zD:ar Tryz.prog 158 ab2 :=
 fl an [] [(0,⟨[.d 0 ki,.d 3 .str],ah (wB nq)⟩)] [] Tryz.f158 (lp [0] (sc cN sn))
def pF (t0:List gD) (t1 t5:Int):Rd ((List gD)×Int×Int×Unit) Unit :=
 cond (aw t5 (ae t0)) (
 (sY t1).bind fun y1 =>
 cond (aR t5 t0) (
 let u1:=(gt d95 t0 t5)
 let u2:=(jh t0 t5 (y1.2.1.1,u1.2.1,u1.2.2.1,()))
 cond (aR t5 u2) (
 let u3:=(gt d95 u2 t5)
 let u4:=(aj .i64 t1 1)
 let u5:=(jh u2 t5 (u3.1,u4,u3.2.2.1,()))
 cond (aR t5 u5) (
 let u6:=(gt d95 u5 t5)
 let u7:=(aj .i64 u4 1)
 some (.inl ((jh u5 t5 (u6.1,u6.2.1,u7,())),(aj .i64 u7 1),(aj .i64 t5 1),()))
 ) none
 ) none
 ) none
 ) (
 some (.inr (.inl (t0,t1,t5,())))
 )
def K5:=kz (ah (dq pF))
def Pw (p0:List gD) (p1:Int):Option ((((List gD)×Unit)×Unit)×Y8) :=
 (K5 p0 p1 0).bind (Sum.elim (fun y1 =>
 some (((y1.1,()),()),((y1.2.1,()),()))
 ) (fun _ =>
 none
 ))
def acw:Su:=⟨[.io false [mE],.c false [ki]],[(false,[ki])],true,.inl fun x=>Pw x.1.1 x.2.1.1⟩
theorem VX:ar Tryz.prog 159 acw :=
 fl (ac zD an) [] [(0,⟨[.own 0 mE,.d 1 ki,.d 5 ki],ah (dq pF)⟩)] [0] Tryz.f159 (lp [0] (sc cN sn))
def vu (t0:List R3) (t1 t5:Int):Rd ((List R3)×Int×Int×Unit) Unit :=
 cond (aw t5 (ae t0)) (
 cond (aR t5 t0) (
 some (.inl ((jh t0 t5 (t1,())),(aj .i64 t1 1),(aj .i64 t5 1),()))
 ) none
 ) (
 some (.inr (.inl (t0,t1,t5,())))
 )
def Q4:=kz (ah (dq vu))
def Uj (p0:List R3) (p1:Int):Option ((Y3×Unit)×Y8) :=
 (Q4 p0 p1 0).bind (Sum.elim (fun y1 =>
 some (((y1.1,()),()),((y1.2.1,()),()))
 ) (fun _ =>
 none
 ))
def s95:Su:=⟨[.io false [q3],.c false [ki]],[(false,[ki])],true,.inl fun x=>Uj x.1.1 x.2.1.1⟩
theorem Wp:ar Tryz.prog 95 s95 :=
 fl an [] [(0,⟨[.own 0 q3,.d 1 ki,.d 5 ki],ah (dq vu)⟩)] [0] Tryz.f95 (lp [0] (sc cN sn))
def yy (t0:List R5) (t1 t5:Int):Rd ((List R5)×Int×Int×Unit) Unit :=
 cond (aw t5 (ae t0)) (
 cond (aR t5 t0) (
 some (.inl ((jh t0 t5 ((bI .u8 t1),())),(aj .i64 t1 1),(aj .i64 t5 1),()))
 ) none
 ) (
 some (.inr (.inl (t0,t1,t5,())))
 )
def Rr:=kz (ah (dq yy))
def g20 (p0:List R5) (p1:Int):Option ((((List R5)×Unit)×Unit)×Y8) :=
 (Rr p0 p1 0).bind (Sum.elim (fun y1 =>
 some (((y1.1,()),()),((y1.2.1,()),()))
 ) (fun _ =>
 none
 ))
def s20:Su:=⟨[.io false [q5],.c false [ki]],[(false,[ki])],true,.inl fun x=>g20 x.1.1 x.2.1.1⟩
theorem Yt:ar Tryz.prog 20 s20 :=
 fl an [] [(0,⟨[.own 0 q5,.d 1 ki,.d 5 ki],ah (dq yy)⟩)] [0] Tryz.f20 (lp [0] (sc cN sn))
def o7 (t0:List cD) (t1 t5:Int):Rd ((List cD)×Int×Int×Unit) Unit :=
 cond (aw t5 (ae t0)) (
 (sY t1).bind fun y1 =>
 cond (aR t5 t0) (
 let u1:=(aj .i64 t1 1)
 (sY u1).bind fun y2 =>
 let u2:=(gt d166 t0 t5)
 let u3:=(jh t0 t5 (y1.2.1.1,u2.2.1,u2.2.2.1,()))
 cond (aR t5 u3) (
 let u4:=(gt d166 u3 t5)
 let u5:=(jh u3 t5 (u4.1,y2.2.1.1,u4.2.2.1,()))
 cond (aR t5 u5) (
 let u6:=(gt d166 u5 t5)
 (g20 u6.2.2.1 (aj .i64 u1 1)).bind fun y3 =>
 some (.inl ((jh u5 t5 (u6.1,u6.2.1,y3.1.1.1,())),y3.2.1.1,(aj .i64 t5 1),()))
 ) none
 ) none
 ) none
 ) (
 some (.inr (.inl (t0,t1,t5,())))
 )
def J3:=kz (ah (dq o7))
def NS (p0:List cD) (p1:Int):Option ((((List cD)×Unit)×Unit)×Y8) :=
 (J3 p0 p1 0).bind (Sum.elim (fun y1 =>
 some (((y1.1,()),()),((y1.2.1,()),()))
 ) (fun _ =>
 none
 ))
def aaV:Su:=⟨[.io false [dX],.c false [ki]],[(false,[ki])],true,.inl fun x=>NS x.1.1 x.2.1.1⟩
theorem XH:ar Tryz.prog 160 aaV :=
 fl (ac zD (ac Yt an)) [] [(0,⟨[.own 0 dX,.d 1 ki,.d 5 ki],ah (dq o7)⟩)] [0] Tryz.f160 (lp [0] (sc cN sn))
def xP (t0:List de) (t1 t5:Int):Rd Zk Unit :=
 cond (aw t5 (ae t0)) (
 (sY t1).bind fun y1 =>
 cond (aR t5 t0) (
 let u1:=(gt d59 t0 t5)
 let u2:=(jh t0 t5 (y1.2.1.1,u1.2.1,u1.2.2.1,u1.2.2.2.1,u1.2.2.2.2.1,u1.2.2.2.2.2.1,u1.2.2.2.2.2.2.1,u1.2.2.2.2.2.2.2.1,u1.2.2.2.2.2.2.2.2.1,u1.2.2.2.2.2.2.2.2.2.1,u1.2.2.2.2.2.2.2.2.2.2.1,()))
 cond (aR t5 u2) (
 let u3:=(gt d59 u2 t5)
 let u4:=(aj .i64 t1 1)
 let u5:=(jh u2 t5 (u3.1,u4,u3.2.2.1,u3.2.2.2.1,u3.2.2.2.2.1,u3.2.2.2.2.2.1,u3.2.2.2.2.2.2.1,u3.2.2.2.2.2.2.2.1,u3.2.2.2.2.2.2.2.2.1,u3.2.2.2.2.2.2.2.2.2.1,u3.2.2.2.2.2.2.2.2.2.2.1,()))
 cond (aR t5 u5) (
 let u6:=(gt d59 u5 t5)
 let u7:=(aj .i64 u4 1)
 let u8:=(jh u5 t5 (u6.1,u6.2.1,u7,u6.2.2.2.1,u6.2.2.2.2.1,u6.2.2.2.2.2.1,u6.2.2.2.2.2.2.1,u6.2.2.2.2.2.2.2.1,u6.2.2.2.2.2.2.2.2.1,u6.2.2.2.2.2.2.2.2.2.1,u6.2.2.2.2.2.2.2.2.2.2.1,()))
 cond (aR t5 u8) (
 let u9:=(gt d59 u8 t5)
 let u10:=(aj .i64 u7 1)
 let u11:=(jh u8 t5 (u9.1,u9.2.1,u9.2.2.1,u10,u9.2.2.2.2.1,u9.2.2.2.2.2.1,u9.2.2.2.2.2.2.1,u9.2.2.2.2.2.2.2.1,u9.2.2.2.2.2.2.2.2.1,u9.2.2.2.2.2.2.2.2.2.1,u9.2.2.2.2.2.2.2.2.2.2.1,()))
 cond (aR t5 u11) (
 let u12:=(gt d59 u11 t5)
 let u13:=(aj .i64 u10 1)
 let u14:=(jh u11 t5 (u12.1,u12.2.1,u12.2.2.1,u12.2.2.2.1,u13,u12.2.2.2.2.2.1,u12.2.2.2.2.2.2.1,u12.2.2.2.2.2.2.2.1,u12.2.2.2.2.2.2.2.2.1,u12.2.2.2.2.2.2.2.2.2.1,u12.2.2.2.2.2.2.2.2.2.2.1,()))
 cond (aR t5 u14) (
 let u15:=(gt d59 u14 t5)
 (Pw u15.2.2.2.2.2.1 (aj .i64 u13 1)).bind fun y2 =>
 let u16:=(jh u14 t5 (u15.1,u15.2.1,u15.2.2.1,u15.2.2.2.1,u15.2.2.2.2.1,y2.1.1.1,u15.2.2.2.2.2.2.1,u15.2.2.2.2.2.2.2.1,u15.2.2.2.2.2.2.2.2.1,u15.2.2.2.2.2.2.2.2.2.1,u15.2.2.2.2.2.2.2.2.2.2.1,()))
 cond (aR t5 u16) (
 let u17:=(gt d59 u16 t5)
 let u18:=(jh u16 t5 (u17.1,u17.2.1,u17.2.2.1,u17.2.2.2.1,u17.2.2.2.2.1,u17.2.2.2.2.2.1,y2.2.1.1,u17.2.2.2.2.2.2.2.1,u17.2.2.2.2.2.2.2.2.1,u17.2.2.2.2.2.2.2.2.2.1,u17.2.2.2.2.2.2.2.2.2.2.1,()))
 cond (aR t5 u18) (
 let u19:=(gt d59 u18 t5)
 let u20:=(aj .i64 y2.2.1.1 1)
 let u21:=(jh u18 t5 (u19.1,u19.2.1,u19.2.2.1,u19.2.2.2.1,u19.2.2.2.2.1,u19.2.2.2.2.2.1,u19.2.2.2.2.2.2.1,u20,u19.2.2.2.2.2.2.2.2.1,u19.2.2.2.2.2.2.2.2.2.1,u19.2.2.2.2.2.2.2.2.2.2.1,()))
 cond (aR t5 u21) (
 let u22:=(gt d59 u21 t5)
 (Uj u22.2.2.2.2.2.2.2.2.1 (aj .i64 u20 1)).bind fun y3 =>
 let u23:=(jh u21 t5 (u22.1,u22.2.1,u22.2.2.1,u22.2.2.2.1,u22.2.2.2.2.1,u22.2.2.2.2.2.1,u22.2.2.2.2.2.2.1,u22.2.2.2.2.2.2.2.1,y3.1.1.1,u22.2.2.2.2.2.2.2.2.2.1,u22.2.2.2.2.2.2.2.2.2.2.1,()))
 cond (aR t5 u23) (
 let u24:=(gt d59 u23 t5)
 (Uj u24.2.2.2.2.2.2.2.2.2.1 y3.2.1.1).bind fun y4 =>
 let u25:=(jh u23 t5 (u24.1,u24.2.1,u24.2.2.1,u24.2.2.2.1,u24.2.2.2.2.1,u24.2.2.2.2.2.1,u24.2.2.2.2.2.2.1,u24.2.2.2.2.2.2.2.1,u24.2.2.2.2.2.2.2.2.1,y4.1.1.1,u24.2.2.2.2.2.2.2.2.2.2.1,()))
 cond (aR t5 u25) (
 let u26:=(gt d59 u25 t5)
 (NS u26.2.2.2.2.2.2.2.2.2.2.1 y4.2.1.1).bind fun y5 =>
 some (.inl ((jh u25 t5 (u26.1,u26.2.1,u26.2.2.1,u26.2.2.2.1,u26.2.2.2.2.1,u26.2.2.2.2.2.1,u26.2.2.2.2.2.2.1,u26.2.2.2.2.2.2.2.1,u26.2.2.2.2.2.2.2.2.1,u26.2.2.2.2.2.2.2.2.2.1,y5.1.1.1,())),y5.2.1.1,(aj .i64 t5 1),()))
 ) none
 ) none
 ) none
 ) none
 ) none
 ) none
 ) none
 ) none
 ) none
 ) none
 ) none
 ) (
 some (.inr (.inl (t0,t1,t5,())))
 )
def Qz:=kz (ah (dq xP))
def YV (p0:List de) (p1:Int):Option ((Y5×Unit)×Y8) :=
 (Qz p0 p1 0).bind (Sum.elim (fun y1 =>
 some (((y1.1,()),()),((y1.2.1,()),()))
 ) (fun _ =>
 none
 ))
def s94:Su:=⟨[.io false [eH],.c false [ki]],[(false,[ki])],true,.inl fun x=>YV x.1.1 x.2.1.1⟩
theorem aaj:ar Tryz.prog 94 s94 :=
 fl (ac zD (ac VX (ac Wp (ac XH an)))) [] [(0,⟨[.own 0 eH,.d 1 ki,.d 5 ki],ah (dq xP)⟩)] [0] Tryz.f94 (lp [0] (sc cN sn))
def vl (t0:List dy) (t1 t5:Int):Rd ((List dy)×Int×Int×Unit) Unit :=
 cond (aw t5 (ae t0)) (
 cond (aR t5 t0) (
 let u1:=(jh t0 t5 (t1,(gt d89 t0 t5).2.1,()))
 cond (aR t5 u1) (
 let u2:=(gt d89 u1 t5)
 (YV u2.2.1 (aj .i64 t1 1)).bind fun y1 =>
 some (.inl ((jh u1 t5 (u2.1,y1.1.1.1,())),y1.2.1.1,(aj .i64 t5 1),()))
 ) none
 ) none
 ) (
 some (.inr (.inl (t0,t1,t5,())))
 )
def Q5:=kz (ah (dq vl))
def Y6 (p0:List dy) (p1:Int):Option ((((List dy)×Unit)×Unit)×Y8) :=
 (Q5 p0 p1 0).bind (Sum.elim (fun y1 =>
 some (((y1.1,()),()),((y1.2.1,()),()))
 ) (fun _ =>
 none
 ))
def s43:Su:=⟨[.io false [eJ],.c false [ki]],[(false,[ki])],true,.inl fun x=>Y6 x.1.1 x.2.1.1⟩
theorem Zr:ar Tryz.prog 43 s43 :=
 fl (ac aaj an) [] [(0,⟨[.own 0 eJ,.d 1 ki,.d 5 ki],ah (dq vl)⟩)] [0] Tryz.f43 (lp [0] (sc cN sn))
def wE (t0:List fj) (t1 t5:Int):Rd Y22 Unit :=
 cond (aw t5 (ae t0)) (
 cond (aR t5 t0) (
 let u1:=(gt d62 t0 t5)
 (g20 u1.1 t1).bind fun y1 =>
 let u2:=(jh t0 t5 (y1.1.1.1,u1.2.1,u1.2.2.1,u1.2.2.2.1,u1.2.2.2.2.1,u1.2.2.2.2.2.1,u1.2.2.2.2.2.2.1,u1.2.2.2.2.2.2.2.1,u1.2.2.2.2.2.2.2.2.1,()))
 cond (aR t5 u2) (
 let u3:=(gt d62 u2 t5)
 let u4:=(jh u2 t5 (u3.1,y1.2.1.1,u3.2.2.1,u3.2.2.2.1,u3.2.2.2.2.1,u3.2.2.2.2.2.1,u3.2.2.2.2.2.2.1,u3.2.2.2.2.2.2.2.1,u3.2.2.2.2.2.2.2.2.1,()))
 cond (aR t5 u4) (
 let u5:=(gt d62 u4 t5)
 (Uj u5.2.2.1 (aj .i64 y1.2.1.1 1)).bind fun y2 =>
 let u6:=(jh u4 t5 (u5.1,u5.2.1,y2.1.1.1,u5.2.2.2.1,u5.2.2.2.2.1,u5.2.2.2.2.2.1,u5.2.2.2.2.2.2.1,u5.2.2.2.2.2.2.2.1,u5.2.2.2.2.2.2.2.2.1,()))
 cond (aR t5 u6) (
 let u7:=(gt d62 u6 t5)
 let u8:=(jh u6 t5 (u7.1,u7.2.1,u7.2.2.1,y2.2.1.1,u7.2.2.2.2.1,u7.2.2.2.2.2.1,u7.2.2.2.2.2.2.1,u7.2.2.2.2.2.2.2.1,u7.2.2.2.2.2.2.2.2.1,()))
 cond (aR t5 u8) (
 let u9:=(gt d62 u8 t5)
 let u10:=(aj .i64 y2.2.1.1 1)
 let u11:=(jh u8 t5 (u9.1,u9.2.1,u9.2.2.1,u9.2.2.2.1,u10,u9.2.2.2.2.2.1,u9.2.2.2.2.2.2.1,u9.2.2.2.2.2.2.2.1,u9.2.2.2.2.2.2.2.2.1,()))
 cond (aR t5 u11) (
 let u12:=(gt d62 u11 t5)
 let u13:=(aj .i64 u10 1)
 let u14:=(jh u11 t5 (u12.1,u12.2.1,u12.2.2.1,u12.2.2.2.1,u12.2.2.2.2.1,u13,u12.2.2.2.2.2.2.1,u12.2.2.2.2.2.2.2.1,u12.2.2.2.2.2.2.2.2.1,()))
 cond (aR t5 u14) (
 let u15:=(gt d62 u14 t5)
 let u16:=(aj .i64 u13 1)
 let u17:=(jh u14 t5 (u15.1,u15.2.1,u15.2.2.1,u15.2.2.2.1,u15.2.2.2.2.1,u15.2.2.2.2.2.1,u16,u15.2.2.2.2.2.2.2.1,u15.2.2.2.2.2.2.2.2.1,()))
 cond (aR t5 u17) (
 let u18:=(gt d62 u17 t5)
 let u19:=(aj .i64 u16 1)
 let u20:=(jh u17 t5 (u18.1,u18.2.1,u18.2.2.1,u18.2.2.2.1,u18.2.2.2.2.1,u18.2.2.2.2.2.1,u18.2.2.2.2.2.2.1,u19,u18.2.2.2.2.2.2.2.2.1,()))
 cond (aR t5 u20) (
 let u21:=(gt d62 u20 t5)
 (g20 u21.2.2.2.2.2.2.2.2.1 (aj .i64 u19 1)).bind fun y3 =>
 some (.inl ((jh u20 t5 (u21.1,u21.2.1,u21.2.2.1,u21.2.2.2.1,u21.2.2.2.2.1,u21.2.2.2.2.2.1,u21.2.2.2.2.2.2.1,u21.2.2.2.2.2.2.2.1,y3.1.1.1,())),y3.2.1.1,(aj .i64 t5 1),()))
 ) none
 ) none
 ) none
 ) none
 ) none
 ) none
 ) none
 ) none
 ) none
 ) (
 some (.inr (.inl (t0,t1,t5,())))
 )
def Qa:=kz (ah (dq wE))
def YU (p0:List fj) (p1:Int):Option ((((List fj)×Unit)×Unit)×Y8) :=
 (Qa p0 p1 0).bind (Sum.elim (fun y1 =>
 some (((y1.1,()),()),((y1.2.1,()),()))
 ) (fun _ =>
 none
 ))
def s44:Su:=⟨[.io false [il],.c false [ki]],[(false,[ki])],true,.inl fun x=>YU x.1.1 x.2.1.1⟩
theorem abK:ar Tryz.prog 44 s44 :=
 fl (ac Wp (ac Yt an)) [] [(0,⟨[.own 0 il,.d 1 ki,.d 5 ki],ah (dq wE)⟩)] [0] Tryz.f44 (lp [0] (sc cN sn))
def g14 (p0:(List dy)×Int×Int×(List fj)×Unit) (p1:Int):Option ((zW×Unit)×Y8) :=
 (Y6 p0.1 p1).bind fun y1 =>
 (YU p0.2.2.2.1 y1.2.1.1).bind fun y2 =>
 some (((y1.1.1.1,p0.2.1,p0.2.2.1,y2.1.1.1,()),()),(y2.2.1,()))
def s14:Su:=⟨[.io true [eJ,ki,ki,il],.c false [ki]],[(false,[ki])],true,.inl fun x=>g14 x.1 x.2.1.1⟩
theorem aah:ar Tryz.prog 14 s14 :=
 fl (ac Zr (ac abK an)) [] [] [0] Tryz.f14 cN
def pM (t0:List gD) (t1 t5:Int):Rd ((List gD)×Int×Int×Unit) Y1 :=
 cond (aw t5 (ae t0)) (
 cond (aR t5 t0) (
 (sY t1).bind fun y1 =>
 let u1:=(gt d95 t0 t5)
 cond (!(cC u1.1 y1.2.1.1)) (
 some (.inr (.inr ((-1),())))
 ) (
 cond (aR t5 t0) (
 let u2:=(aj .i64 t1 1)
 cond (!(aq u1.2.1 u2)) (
 some (.inr (.inr ((-1),())))
 ) (
 cond (aR t5 t0) (
 let u3:=(aj .i64 u2 1)
 cond (!(aq u1.2.2.1 u3)) (
 some (.inr (.inr ((-1),())))
 ) (
 some (.inl (t0,(aj .i64 u3 1),(aj .i64 t5 1),()))
 )
 ) none
 )
 ) none
 )
 ) none
 ) (
 some (.inr (.inl (t0,t1,t5,())))
 )
def Le:=kz (ah (dq pM))
def NA (p0:List gD) (p1:Int):Option im :=
 (Le p0 p1 0).bind (Sum.elim (fun y1 =>
 some ((),((y1.2.1,()),()))
 ) (fun y1 =>
 some ((),(y1,()))
 ))
def abz:Su:=⟨[.c false [mE],.c false [ki]],[(false,[ki])],true,.inl fun x=>NA x.1.1 x.2.1.1⟩
theorem Uy:ar Tryz.prog 161 abz :=
 fl (ac zD an) [.d 4 ki] [(0,⟨[.d 0 mE,.d 1 ki,.d 5 ki],ah (dq pM)⟩)] [] Tryz.f161 (lp [0] (sc cN sn))
def wz (t0:List R3) (t1 t5:Int):Rd ((List R3)×Int×Int×Unit) Y1 :=
 cond (aw t5 (ae t0)) (
 cond (aR t5 t0) (
 cond (!(aq (gt d3 t0 t5).1 t1)) (
 some (.inr (.inr ((-1),())))
 ) (
 some (.inl (t0,(aj .i64 t1 1),(aj .i64 t5 1),()))
 )
 ) none
 ) (
 some (.inr (.inl (t0,t1,t5,())))
 )
def P1:=kz (ah (dq wz))
def Ul (p0:List R3) (p1:Int):Option im :=
 (P1 p0 p1 0).bind (Sum.elim (fun y1 =>
 some ((),((y1.2.1,()),()))
 ) (fun y1 =>
 some ((),(y1,()))
 ))
def s98:Su:=⟨[.c false [q3],.c false [ki]],[(false,[ki])],true,.inl fun x=>Ul x.1.1 x.2.1.1⟩
theorem Ww:ar Tryz.prog 98 s98 :=
 fl an [.d 4 ki] [(0,⟨[.d 0 q3,.d 1 ki,.d 5 ki],ah (dq wz)⟩)] [] Tryz.f98 (lp [0] (sc cN sn))
def xh (t0:List R5) (t1 t5:Int):Rd ((List R5)×Int×Int×Unit) Y1 :=
 cond (aw t5 (ae t0)) (
 cond (aR t5 t0) (
 cond (!(aq (gt d5 t0 t5).1 (bI .u8 t1))) (
 some (.inr (.inr ((-1),())))
 ) (
 some (.inl (t0,(aj .i64 t1 1),(aj .i64 t5 1),()))
 )
 ) none
 ) (
 some (.inr (.inl (t0,t1,t5,())))
 )
def PI:=kz (ah (dq xh))
def Ud (p0:List R5) (p1:Int):Option im :=
 (PI p0 p1 0).bind (Sum.elim (fun y1 =>
 some ((),((y1.2.1,()),()))
 ) (fun y1 =>
 some ((),(y1,()))
 ))
def s97:Su:=⟨[.c false [q5],.c false [ki]],[(false,[ki])],true,.inl fun x=>Ud x.1.1 x.2.1.1⟩
theorem Yq:ar Tryz.prog 97 s97 :=
 fl an [.d 4 ki] [(0,⟨[.d 0 q5,.d 1 ki,.d 5 ki],ah (dq xh)⟩)] [] Tryz.f97 (lp [0] (sc cN sn))
def pq (t0:List cD) (t1 t5:Int):Rd ((List cD)×Int×Int×Unit) Y1 :=
 cond (aw t5 (ae t0)) (
 cond (aR t5 t0) (
 (sY t1).bind fun y1 =>
 let u1:=(gt d166 t0 t5)
 cond (!(cC u1.1 y1.2.1.1)) (
 some (.inr (.inr ((-1),())))
 ) (
 cond (aR t5 t0) (
 let u2:=(aj .i64 t1 1)
 (sY u2).bind fun y2 =>
 cond (!(cC u1.2.1 y2.2.1.1)) (
 some (.inr (.inr ((-1),())))
 ) (
 cond (aR t5 t0) (
 (Ud u1.2.2.1 (aj .i64 u2 1)).bind fun y3 =>
 cond (aw y3.2.1.1 0) (
 some (.inr (.inr ((-1),())))
 ) (
 some (.inl (t0,y3.2.1.1,(aj .i64 t5 1),()))
 )
 ) none
 )
 ) none
 )
 ) none
 ) (
 some (.inr (.inl (t0,t1,t5,())))
 )
def Jj:=kz (ah (dq pq))
def NR (p0:List cD) (p1:Int):Option im :=
 (Jj p0 p1 0).bind (Sum.elim (fun y1 =>
 some ((),((y1.2.1,()),()))
 ) (fun y1 =>
 some ((),(y1,()))
 ))
def abh:Su:=⟨[.c false [dX],.c false [ki]],[(false,[ki])],true,.inl fun x=>NR x.1.1 x.2.1.1⟩
theorem U3:ar Tryz.prog 162 abh :=
 fl (ac zD (ac Yq an)) [.d 4 ki] [(0,⟨[.d 0 dX,.d 1 ki,.d 5 ki],ah (dq pq)⟩)] [] Tryz.f162 (lp [0] (sc cN sn))
def wS (t0:List de) (t1 t5:Int):Rd Zk Y1 :=
 cond (aw t5 (ae t0)) (
 cond (aR t5 t0) (
 (sY t1).bind fun y1 =>
 let u1:=(gt d59 t0 t5)
 cond (!(cC u1.1 y1.2.1.1)) (
 some (.inr (.inr ((-1),())))
 ) (
 cond (aR t5 t0) (
 let u2:=(aj .i64 t1 1)
 cond (!(aq u1.2.1 u2)) (
 some (.inr (.inr ((-1),())))
 ) (
 cond (aR t5 t0) (
 let u3:=(aj .i64 u2 1)
 cond (!(aq u1.2.2.1 u3)) (
 some (.inr (.inr ((-1),())))
 ) (
 cond (aR t5 t0) (
 let u4:=(aj .i64 u3 1)
 cond (!(aq u1.2.2.2.1 u4)) (
 some (.inr (.inr ((-1),())))
 ) (
 cond (aR t5 t0) (
 let u5:=(aj .i64 u4 1)
 cond (!(aq u1.2.2.2.2.1 u5)) (
 some (.inr (.inr ((-1),())))
 ) (
 cond (aR t5 t0) (
 (NA u1.2.2.2.2.2.1 (aj .i64 u5 1)).bind fun y2 =>
 cond (aw y2.2.1.1 0) (
 some (.inr (.inr ((-1),())))
 ) (
 cond (aR t5 t0) (
 cond (!(aq u1.2.2.2.2.2.2.1 y2.2.1.1)) (
 some (.inr (.inr ((-1),())))
 ) (
 cond (aR t5 t0) (
 let u6:=(aj .i64 y2.2.1.1 1)
 cond (!(aq u1.2.2.2.2.2.2.2.1 u6)) (
 some (.inr (.inr ((-1),())))
 ) (
 cond (aR t5 t0) (
 (Ul u1.2.2.2.2.2.2.2.2.1 (aj .i64 u6 1)).bind fun y3 =>
 cond (aw y3.2.1.1 0) (
 some (.inr (.inr ((-1),())))
 ) (
 cond (aR t5 t0) (
 (Ul u1.2.2.2.2.2.2.2.2.2.1 y3.2.1.1).bind fun y4 =>
 cond (aw y4.2.1.1 0) (
 some (.inr (.inr ((-1),())))
 ) (
 cond (aR t5 t0) (
 (NR u1.2.2.2.2.2.2.2.2.2.2.1 y4.2.1.1).bind fun y5 =>
 cond (aw y5.2.1.1 0) (
 some (.inr (.inr ((-1),())))
 ) (
 some (.inl (t0,y5.2.1.1,(aj .i64 t5 1),()))
 )
 ) none
 )
 ) none
 )
 ) none
 )
 ) none
 )
 ) none
 )
 ) none
 )
 ) none
 )
 ) none
 )
 ) none
 )
 ) none
 )
 ) none
 ) (
 some (.inr (.inl (t0,t1,t5,())))
 )
def PM:=kz (ah (dq wS))
def Zm (p0:List de) (p1:Int):Option im :=
 (PM p0 p1 0).bind (Sum.elim (fun y1 =>
 some ((),((y1.2.1,()),()))
 ) (fun y1 =>
 some ((),(y1,()))
 ))
def s96:Su:=⟨[.c false [eH],.c false [ki]],[(false,[ki])],true,.inl fun x=>Zm x.1.1 x.2.1.1⟩
theorem ZQ:ar Tryz.prog 96 s96 :=
 fl (ac zD (ac Uy (ac Ww (ac U3 an)))) [.d 4 ki] [(0,⟨[.d 0 eH,.d 1 ki,.d 5 ki],ah (dq wS)⟩)] [] Tryz.f96 (lp [0] (sc cN sn))
def wm (t0:List dy) (t1 t5:Int):Rd ((List dy)×Int×Int×Unit) Y1 :=
 cond (aw t5 (ae t0)) (
 cond (aR t5 t0) (
 let u1:=(gt d89 t0 t5)
 cond (!(aq u1.1 t1)) (
 some (.inr (.inr ((-1),())))
 ) (
 cond (aR t5 t0) (
 (Zm u1.2.1 (aj .i64 t1 1)).bind fun y1 =>
 cond (aw y1.2.1.1 0) (
 some (.inr (.inr ((-1),())))
 ) (
 some (.inl (t0,y1.2.1.1,(aj .i64 t5 1),()))
 )
 ) none
 )
 ) none
 ) (
 some (.inr (.inl (t0,t1,t5,())))
 )
def QB:=kz (ah (dq wm))
def Yx (p0:List dy) (p1:Int):Option im :=
 (QB p0 p1 0).bind (Sum.elim (fun y1 =>
 some ((),((y1.2.1,()),()))
 ) (fun y1 =>
 some ((),(y1,()))
 ))
def s45:Su:=⟨[.c false [eJ],.c false [ki]],[(false,[ki])],true,.inl fun x=>Yx x.1.1 x.2.1.1⟩
theorem aad:ar Tryz.prog 45 s45 :=
 fl (ac ZQ an) [.d 4 ki] [(0,⟨[.d 0 eJ,.d 1 ki,.d 5 ki],ah (dq wm)⟩)] [] Tryz.f45 (lp [0] (sc cN sn))
def xv (t0:List fj) (t1 t5:Int):Rd Y22 Y1 :=
 cond (aw t5 (ae t0)) (
 cond (aR t5 t0) (
 let u1:=(gt d62 t0 t5)
 (Ud u1.1 t1).bind fun y1 =>
 cond (aw y1.2.1.1 0) (
 some (.inr (.inr ((-1),())))
 ) (
 cond (aR t5 t0) (
 cond (!(aq u1.2.1 y1.2.1.1)) (
 some (.inr (.inr ((-1),())))
 ) (
 cond (aR t5 t0) (
 (Ul u1.2.2.1 (aj .i64 y1.2.1.1 1)).bind fun y2 =>
 cond (aw y2.2.1.1 0) (
 some (.inr (.inr ((-1),())))
 ) (
 cond (aR t5 t0) (
 cond (!(aq u1.2.2.2.1 y2.2.1.1)) (
 some (.inr (.inr ((-1),())))
 ) (
 cond (aR t5 t0) (
 let u2:=(aj .i64 y2.2.1.1 1)
 cond (!(aq u1.2.2.2.2.1 u2)) (
 some (.inr (.inr ((-1),())))
 ) (
 cond (aR t5 t0) (
 let u3:=(aj .i64 u2 1)
 cond (!(aq u1.2.2.2.2.2.1 u3)) (
 some (.inr (.inr ((-1),())))
 ) (
 cond (aR t5 t0) (
 let u4:=(aj .i64 u3 1)
 cond (!(aq u1.2.2.2.2.2.2.1 u4)) (
 some (.inr (.inr ((-1),())))
 ) (
 cond (aR t5 t0) (
 let u5:=(aj .i64 u4 1)
 cond (!(aq u1.2.2.2.2.2.2.2.1 u5)) (
 some (.inr (.inr ((-1),())))
 ) (
 cond (aR t5 t0) (
 (Ud u1.2.2.2.2.2.2.2.2.1 (aj .i64 u5 1)).bind fun y3 =>
 cond (aw y3.2.1.1 0) (
 some (.inr (.inr ((-1),())))
 ) (
 some (.inl (t0,y3.2.1.1,(aj .i64 t5 1),()))
 )
 ) none
 )
 ) none
 )
 ) none
 )
 ) none
 )
 ) none
 )
 ) none
 )
 ) none
 )
 ) none
 )
 ) none
 ) (
 some (.inr (.inl (t0,t1,t5,())))
 )
def Rb:=kz (ah (dq xv))
def Zl (p0:List fj) (p1:Int):Option im :=
 (Rb p0 p1 0).bind (Sum.elim (fun y1 =>
 some ((),((y1.2.1,()),()))
 ) (fun y1 =>
 some ((),(y1,()))
 ))
def s46:Su:=⟨[.c false [il],.c false [ki]],[(false,[ki])],true,.inl fun x=>Zl x.1.1 x.2.1.1⟩
theorem aaX:ar Tryz.prog 46 s46 :=
 fl (ac Ww (ac Yq an)) [.d 4 ki] [(0,⟨[.d 0 il,.d 1 ki,.d 5 ki],ah (dq xv)⟩)] [] Tryz.f46 (lp [0] (sc cN sn))
def g15 (p0:(List dy)×Int×Int×(List fj)×Unit) (p1:Int):Option im :=
 (Yx p0.1 p1).bind fun y1 =>
 cond (aw y1.2.1.1 0) (
 c3
 ) (
 (Zl p0.2.2.2.1 y1.2.1.1).bind fun y2 =>
 cond (aw y2.2.1.1 0) (
 c3
 ) (
 some ((),(y2.2.1,()))
 )
 )
def s15:Su:=⟨[.c true [eJ,ki,ki,il],.c false [ki]],[(false,[ki])],true,.inl fun x=>g15 x.1 x.2.1.1⟩
theorem abM:ar Tryz.prog 15 s15 :=
 fq (ac aad (ac aaX an)) Tryz.f15
def g6 (p0:(List qp)×Int×Int×(List od)×Unit) (p1:Int):Option dY :=
 (g7 p0 1048576).bind fun y1 =>
 cond (aw y1.2.1.1 0) (
 c2
 ) (
 let u1:=(g9 p0)
 Option.bind u1 fun y2 =>
 (g21 y2.2.1 p1).bind fun y3 =>
 Option.bind u1 fun y4 =>
 (g22 y4.2.1 p1).bind fun y5 =>
 let u2:=(g11 y5.2.1 y3.2.1)
 Option.bind u2 fun y6 =>
 cond (cond (!y6.2.1.1) true (!(Jg y5.2.2.1.1 y3.2.2.1.1))) (
 c0
 ) (
 Option.bind u1 fun y7 =>
 (g11 y4.2.1 y7.2.1).bind fun y8 =>
 cond (!y8.2.1.1) (
 c0
 ) (
 (g14 y4.2.1 1).bind fun y9 =>
 cond (aw y9.2.1.1 0) (
 c0
 ) (
 Option.bind u2 fun y10 =>
 cond (cond (!y10.2.1.1) true (!(Jg y5.2.2.1.1 y3.2.2.1.1))) (
 c0
 ) (
 (g14 y5.2.1 1).bind fun y11 =>
 let u3:=(g15 (y11.1.1.1,y5.2.1.2.1,y5.2.1.2.2.1,y11.1.1.2.2.2.1,()) 1)
 Option.bind u3 fun y12 =>
 cond (aw y12.2.1.1 0) (
 c0
 ) (
 cond (!(aq y12.2.1.1 y11.2.1.1)) (
 c0
 ) (
 Option.bind u1 fun y13 =>
 (g22 y13.2.1 p1).bind fun y14 =>
 (g11 y14.2.1 y3.2.1).bind fun y15 =>
 cond (cond (!y15.2.1.1) true (!(Jg y14.2.2.1.1 y3.2.2.1.1))) (
 c0
 ) (
 Option.bind u3 fun y16 =>
 cond (aw y16.2.1.1 0) (
 c0
 ) (
 cond (!(aq y16.2.1.1 y11.2.1.1)) (
 c0
 ) (
 c2
 )
 )
 )
 )
 )
 )
 )
 )
 )
 )
def s6:Su:=⟨[.c true [SR,ki,ki,TL],.c false [ki]],[(false,[.bool])],true,.inl fun x=>g6 x.1 x.2.1.1⟩
theorem ok6:ar Tryz.prog 6 s6 :=
 fq (ac ok7 (ac ok9 (ac ZI (ac abO (ac aby (ac aah (ac abM an))))))) Tryz.f6
end
end Go.Av
