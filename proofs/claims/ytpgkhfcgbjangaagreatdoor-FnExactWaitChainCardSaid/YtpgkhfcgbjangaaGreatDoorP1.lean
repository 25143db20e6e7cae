/- Part of a proof that the law FnExactWaitChain answers true for every input: the printed functions of this program and their plain laws. No conditions beyond the statement. -/
import Derived.Test.YtpgkhfcgbjangaaGreatDoorP1a
set_option maxRecDepth 100000
namespace Go.Av
open Go.Proofs
set_option maxHeartbeats 4000000
noncomputable section
def QB (p0:List UInt8):Option eo :=
 some ((),(((cond (cond (cq p0 [48,49,48,48]) true (cq p0 [48,50,48,48])) true (cq p0 [48,50,50,48])),()),()))
def Yy:Su:=⟨[.c false [.str]],[(false,[.bool])],true,.inl fun x=>QB x.1.1⟩
theorem Uj:ar Tryz.prog 173 Yy :=
 fq an Tryz.f173
def pI (t1:Int) (t9:List iq) (t10 t11:Int):Rd (Int×(List iq)×Int×Int×Unit) ((List UInt8)×Bool×Unit) :=
 cond (au t11 t10) (
 cond (aU t11 t9) (
 let u1:=(gt d178 t9 t11)
 cond (aq u1.1 t1) (
 some (.inr (.inr (u1.2.1,true,())))
 ) (
 some (.inl (t1,t9,t10,(ak .i64 t11 1),()))
 )
 ) none
 ) (
 some (.inr (.inl (t1,t9,t10,t11,())))
 )
def Ik:=nh (ah (dh pI))
def FO (p0:(List UInt8)×(List iq)×Unit) (p1:Int):Option (Unit×(Y7×Y1×Unit)) :=
 (Ik p1 p0.2.1 (ae p0.2.1) 0).bind (Sum.elim (fun y1 =>
 some ((),(([],()),(false,()),()))
 ) (fun y1 =>
 some ((),((y1.1,()),(y1.2.1,()),()))
 ))
def ZO:Su:=⟨[.c true [.str,.sl 178 dH],.c false aJ],[(false,[.str]),(false,[.bool])],true,.inl fun x=>FO x.1 x.2.1.1⟩
theorem SD:ar Tryz.prog 174 ZO :=
 fl an [.d 4 (.str),.d 5 (.bool)] [(0,⟨[.d 1 (.int .i64),.d 9 (.sl 178 dH),.d 10 (.int .i64),.d 11 (.int .i64)],ah (dh pI)⟩)] [] Tryz.f174 (lp [0] (sc cX sn))
def Mt  : Option (Unit×(((List EY)×Unit)×Unit)) :=
 some ((),(([([48,49,48,48],[48,48],[97,117,116,104],[(4,()),(14,()),(38,())],()),([48,49,48,48],[48,50],[109,111,114,101],[(4,()),(38,())],()),([48,50,50,48],[48,49],[112,97,114,116],[(4,()),(38,())],()),([48,50,50,48],[48,48],[102,105,110,97,108],[(4,()),(38,())],()),([48,50,50,48],[50,48],[102,114,101,101],[(38,())],()),([48,50,48,48],[52,48],[109,111,118,101],[(38,()),(103,())],()),([48,49,48,48],[51,49],[97,115,107],[],()),([48,50,48,48],[57,48],[115,119,101,101,112],[],())],()),()))
def WC:Su:=⟨[],[(false,[.sl 198 yC])],false,.inl fun x=>Mt ⟩
theorem O0:ar Tryz.prog 176 WC :=
 fl an [] [] [999999] Tryz.f176 cX
def O9 (p0:(List UInt8)×(List UInt8)×(List UInt8)×(List R3)×Unit) (p1:(List UInt8)×(List iq)×Unit) (p2:(List UInt8)×Unit):Option eo :=
 cond (cq p0.1 p1.1) (
 cond (dO 0 2 p2.1) (
 some ((),(((cq p0.2.1 (sub p2.1 0 2)),()),()))
 ) none
 ) (
 some ((),((false,()),()))
 )
def Wx:Su:=⟨[.c true yC,.pt [.str,.sl 178 dH],.pt [.str]],[(false,[.bool])],true,.inl fun x=>O9 x.1 x.2.1 x.2.2.1⟩
theorem SG:ar Tryz.prog 177 Wx :=
 fq an Tryz.f177
def pq (t0:List EY) (f1:DV×Y7×Unit) (t7 t8:Int):Rd ((List EY)×(DV×Y7×Unit)×Int×Int×Unit) Y0 :=
 cond (au t8 t7) (
 cond (aU t8 t0) (
 (O9 (gt d198 t0 t8) f1.1 f1.2.1).bind fun y1 =>
 cond y1.2.1.1 (
 some (.inr (.inr (t8,())))
 ) (
 some (.inl (t0,f1,t7,(ak .i64 t8 1),()))
 )
 ) none
 ) (
 some (.inr (.inl (t0,f1,t7,t8,())))
 )
def P4:=nh (ah (dh pq))
def Mo (p0:List EY) (c1_0:(List UInt8)×(List iq)×Unit) (c1_1:(List UInt8)×Unit):Option kf :=
 (P4 p0 (c1_0,c1_1,()) (ae p0) 0).bind (Sum.elim (fun y1 =>
 some ((),(((-1),()),()))
 ) (fun y1 =>
 some ((),(y1,()))
 ))
def Zv:Su:=⟨[.c false [.sl 198 yC],.fn 177 [.p [.str,.sl 178 dH],.p [.str]]],[(false,aJ)],true,.inl fun x=>Mo x.1.1 x.2.1.1 x.2.1.2.1⟩
theorem UX:ar Tryz.prog 175 Zv :=
 fl (ac SG an) [.d 4 (.int .i64)] [(0,⟨[.d 0 (.sl 198 yC),.fn 1 177 [.p [.str,.sl 178 dH],.p [.str]],.d 7 (.int .i64),.d 8 (.int .i64)],ah (dh pq)⟩)] [] Tryz.f175 (lp [0] (sc cX sn))
def An (p0:Int):Option (Unit×(EY×Unit)) :=
 (mA p0 1 8).bind fun y1 =>
 cond (!y1.2.1.1) (
 some ((),(([],[],[],[],()),()))
 ) (
 (Mt).bind fun y2 =>
 let u1:=(aH .i64 p0 1)
 cond (aU u1 y2.2.1.1) (
 some ((),((gt d198 y2.2.1.1 u1),()))
 ) none
 )
def Zm:Su:=⟨[.c false aJ],[(true,yC)],false,.inl fun x=>An x.1.1⟩
theorem IE:ar Tryz.prog 178 Zm :=
 fl (ac l8 (ac O0 an)) [] [] [999999] Tryz.f178 cX
def vQ (t0:List R3) (t1 t7 t8:Int):Rd ((List R3)×Int×Int×Int×Unit) Y0 :=
 cond (au t8 t7) (
 cond (aU t8 t0) (
 cond (aq t1 (gt d3 t0 t8).1) (
 some (.inr (.inr (t8,())))
 ) (
 some (.inl (t0,t1,t7,(ak .i64 t8 1),()))
 )
 ) none
 ) (
 some (.inr (.inl (t0,t1,t7,t8,())))
 )
def O1:=nh (ah (dh vQ))
def Yj (p0:List R3) (p1:Int):Option kf :=
 (O1 p0 p1 (ae p0) 0).bind (Sum.elim (fun y1 =>
 some ((),(((-1),()),()))
 ) (fun y1 =>
 some ((),(y1,()))
 ))
def s72:Su:=⟨[.c false fU,.c false aJ],[(false,aJ)],true,.inl fun x=>Yj x.1.1 x.2.1.1⟩
theorem Zx:ar Tryz.prog 72 s72 :=
 fl an [.d 4 (.int .i64)] [(0,⟨[.d 0 (.sl 3 aJ),.d 1 (.int .i64),.d 7 (.int .i64),.d 8 (.int .i64)],ah (dh vQ)⟩)] [] Tryz.f72 (lp [0] (sc cX sn))
def QT (p0:List R3) (p1:Int):Option eo :=
 (Yj p0 p1).bind fun y1 =>
 some ((),(((bD 0 y1.2.1.1),()),()))
def s40:Su:=⟨[.c false fU,.c false aJ],[(false,[.bool])],true,.inl fun x=>QT x.1.1 x.2.1.1⟩
theorem Qg:ar Tryz.prog 40 s40 :=
 fq (ac Zx an) Tryz.f40
def kz (p0 p1:Int):Option eo :=
 (An p0).bind fun y1 =>
 (QT y1.2.1.2.2.2.1 p1).bind fun y2 =>
 some ((),(y2.2.1,()))
def YH:Su:=⟨[.c false aJ,.c false aJ],[(false,[.bool])],true,.inl fun x=>kz x.1.1 x.2.1.1⟩
theorem Sj:ar Tryz.prog 231 YH :=
 fq (ac IE (ac Qg an)) Tryz.f231
def HA (p0:Int×(List UInt8)×(List UInt8)×(List UInt8)×(List UInt8)×(List UInt8)×Int×Int×Unit):Option eo :=
 (An p0.1).bind fun y1 =>
 cond (cond (cq y1.2.1.2.2.1 []) true (!(cq p0.2.2.2.2.2.1 y1.2.1.1))) (
 some ((),((false,()),()))
 ) (
 (rU p0.2.1).bind fun y2 =>
 cond (!y2.2.1.1) (
 some ((),((false,()),()))
 ) (
 (vq p0.2.2.2.2.1 6).bind fun y3 =>
 cond (!y3.2.1.1) (
 some ((),((false,()),()))
 ) (
 (kz p0.1 38).bind fun y4 =>
 cond y4.2.1.1 (
 (Kn p0.2.2.2.1).bind fun y5 =>
 let u1:=(kz p0.1 4)
 Option.bind u1 fun y6 =>
 cond y6.2.1.1 (
 let u2:=(mA p0.2.2.2.2.2.2.1 0 999999999999)
 Option.bind u2 fun y7 =>
 let u3:=(kz p0.1 14)
 Option.bind u3 fun y8 =>
 cond y8.2.1.1 (
 let u4:=(mA p0.2.2.2.2.2.2.2.1 0 9999)
 Option.bind u4 fun y9 =>
 let u5:=(kz p0.1 103)
 Option.bind u5 fun y10 =>
 cond y10.2.1.1 (
 let u6:=(rU p0.2.2.1)
 Option.bind u6 fun y11 =>
 let u7:=(cond y5.2.1.1 y7.2.1.1 false)
 let u8:=(cond u7 y9.2.1.1 false)
 some ((),(((cond u8 y11.2.1.1 false),()),()))
 ) (
 let u6:=(cond y5.2.1.1 y7.2.1.1 false)
 let u7:=(cond u6 y9.2.1.1 false)
 let u8:=(cq p0.2.2.1 [])
 some ((),(((cond u7 u8 false),()),()))
 )
 ) (
 let u4:=(kz p0.1 103)
 Option.bind u4 fun y9 =>
 cond y9.2.1.1 (
 let u5:=(rU p0.2.2.1)
 Option.bind u5 fun y10 =>
 let u6:=(cond y5.2.1.1 y7.2.1.1 false)
 let u7:=(cond u6 (aq p0.2.2.2.2.2.2.2.1 0) false)
 some ((),(((cond u7 y10.2.1.1 false),()),()))
 ) (
 let u5:=(cond y5.2.1.1 y7.2.1.1 false)
 let u6:=(cond u5 (aq p0.2.2.2.2.2.2.2.1 0) false)
 let u7:=(cq p0.2.2.1 [])
 some ((),(((cond u6 u7 false),()),()))
 )
 )
 ) (
 let u2:=(kz p0.1 14)
 Option.bind u2 fun y7 =>
 cond y7.2.1.1 (
 let u3:=(mA p0.2.2.2.2.2.2.2.1 0 9999)
 Option.bind u3 fun y8 =>
 let u4:=(kz p0.1 103)
 Option.bind u4 fun y9 =>
 cond y9.2.1.1 (
 let u5:=(rU p0.2.2.1)
 Option.bind u5 fun y10 =>
 let u6:=(cond y5.2.1.1 (aq p0.2.2.2.2.2.2.1 0) false)
 let u7:=(cond u6 y8.2.1.1 false)
 some ((),(((cond u7 y10.2.1.1 false),()),()))
 ) (
 let u5:=(cond y5.2.1.1 (aq p0.2.2.2.2.2.2.1 0) false)
 let u6:=(cond u5 y8.2.1.1 false)
 let u7:=(cq p0.2.2.1 [])
 some ((),(((cond u6 u7 false),()),()))
 )
 ) (
 let u3:=(kz p0.1 103)
 Option.bind u3 fun y8 =>
 cond y8.2.1.1 (
 let u4:=(rU p0.2.2.1)
 Option.bind u4 fun y9 =>
 let u5:=(cond y5.2.1.1 (aq p0.2.2.2.2.2.2.1 0) false)
 let u6:=(cond u5 (aq p0.2.2.2.2.2.2.2.1 0) false)
 some ((),(((cond u6 y9.2.1.1 false),()),()))
 ) (
 let u4:=(cond y5.2.1.1 (aq p0.2.2.2.2.2.2.1 0) false)
 let u5:=(cond u4 (aq p0.2.2.2.2.2.2.2.1 0) false)
 let u6:=(cq p0.2.2.1 [])
 some ((),(((cond u5 u6 false),()),()))
 )
 )
 )
 ) (
 let u1:=(kz p0.1 4)
 Option.bind u1 fun y5 =>
 cond y5.2.1.1 (
 let u2:=(mA p0.2.2.2.2.2.2.1 0 999999999999)
 Option.bind u2 fun y6 =>
 let u3:=(kz p0.1 14)
 Option.bind u3 fun y7 =>
 cond y7.2.1.1 (
 let u4:=(mA p0.2.2.2.2.2.2.2.1 0 9999)
 Option.bind u4 fun y8 =>
 let u5:=(kz p0.1 103)
 Option.bind u5 fun y9 =>
 cond y9.2.1.1 (
 let u6:=(rU p0.2.2.1)
 Option.bind u6 fun y10 =>
 let u7:=(cq p0.2.2.2.1 [])
 let u8:=(cond u7 y6.2.1.1 false)
 let u9:=(cond u8 y8.2.1.1 false)
 some ((),(((cond u9 y10.2.1.1 false),()),()))
 ) (
 let u6:=(cq p0.2.2.2.1 [])
 let u7:=(cond u6 y6.2.1.1 false)
 let u8:=(cond u7 y8.2.1.1 false)
 let u9:=(cq p0.2.2.1 [])
 some ((),(((cond u8 u9 false),()),()))
 )
 ) (
 let u4:=(kz p0.1 103)
 Option.bind u4 fun y8 =>
 cond y8.2.1.1 (
 let u5:=(rU p0.2.2.1)
 Option.bind u5 fun y9 =>
 let u6:=(cq p0.2.2.2.1 [])
 let u7:=(cond u6 y6.2.1.1 false)
 let u8:=(cond u7 (aq p0.2.2.2.2.2.2.2.1 0) false)
 some ((),(((cond u8 y9.2.1.1 false),()),()))
 ) (
 let u5:=(cq p0.2.2.2.1 [])
 let u6:=(cond u5 y6.2.1.1 false)
 let u7:=(cond u6 (aq p0.2.2.2.2.2.2.2.1 0) false)
 let u8:=(cq p0.2.2.1 [])
 some ((),(((cond u7 u8 false),()),()))
 )
 )
 ) (
 let u2:=(kz p0.1 14)
 Option.bind u2 fun y6 =>
 cond y6.2.1.1 (
 let u3:=(mA p0.2.2.2.2.2.2.2.1 0 9999)
 Option.bind u3 fun y7 =>
 let u4:=(kz p0.1 103)
 Option.bind u4 fun y8 =>
 cond y8.2.1.1 (
 let u5:=(rU p0.2.2.1)
 Option.bind u5 fun y9 =>
 let u6:=(cq p0.2.2.2.1 [])
 let u7:=(cond u6 (aq p0.2.2.2.2.2.2.1 0) false)
 let u8:=(cond u7 y7.2.1.1 false)
 some ((),(((cond u8 y9.2.1.1 false),()),()))
 ) (
 let u5:=(cq p0.2.2.2.1 [])
 let u6:=(cond u5 (aq p0.2.2.2.2.2.2.1 0) false)
 let u7:=(cond u6 y7.2.1.1 false)
 let u8:=(cq p0.2.2.1 [])
 some ((),(((cond u7 u8 false),()),()))
 )
 ) (
 let u3:=(kz p0.1 103)
 Option.bind u3 fun y7 =>
 cond y7.2.1.1 (
 let u4:=(rU p0.2.2.1)
 Option.bind u4 fun y8 =>
 let u5:=(cq p0.2.2.2.1 [])
 let u6:=(cond u5 (aq p0.2.2.2.2.2.2.1 0) false)
 let u7:=(cond u6 (aq p0.2.2.2.2.2.2.2.1 0) false)
 some ((),(((cond u7 y8.2.1.1 false),()),()))
 ) (
 let u4:=(cq p0.2.2.2.1 [])
 let u5:=(cond u4 (aq p0.2.2.2.2.2.2.1 0) false)
 let u6:=(cond u5 (aq p0.2.2.2.2.2.2.2.1 0) false)
 let u7:=(cq p0.2.2.1 [])
 some ((),(((cond u6 u7 false),()),()))
 )
 )
 )
 )
 )
 )
 )
def W4:Su:=⟨[.c true [.int .i64,.str,.str,.str,.str,.str,.int .i64,.int .i64]],[(false,[.bool])],true,.inl fun x=>HA x.1⟩
theorem UH:ar Tryz.prog 181 W4 :=
 fq (ac l8 (ac NA (ac Oc (ac HB (ac IE (ac Sj an)))))) Tryz.f181
def zm (t0:List UInt8) (t1:Int):Rd Uk Unit :=
 let u1:=(ae t0)
 cond (au 0 u1) (
 let u2:=(aH .i64 u1 1)
 cond (aU u2 t0) (
 cond (aq (dy t0 u2) t1) (
 cond (dO 0 u2 t0) (
 some (.inl ((sub t0 0 u2),t1,()))
 ) none
 ) (
 some (.inr (.inl (t0,t1,())))
 )
 ) none
 ) (
 some (.inr (.inl (t0,t1,())))
 )
def Iy:=OB (ah (wY zm))
def G1 (p0:List UInt8) (p1:Int):Option Oz :=
 (Iy p0 p1).bind (Sum.elim (fun y1 =>
 some ((),((y1.1,()),()))
 ) (fun y1 =>
 none
 ))
def YT:Su:=⟨[.c false [.str],.c false fK],[(false,[.str])],true,.inl fun x=>G1 x.1.1 x.2.1.1⟩
theorem SP:ar Tryz.prog 254 YT :=
 fl an [] [(0,⟨[.d 0 (.str),.d 1 (.int .u8)],ah (wY zm)⟩)] [] Tryz.f254 (lp [0] (sc cX sn))
def QY (p0 p1:List UInt8):Option Oz :=
 cond (cond (cq p0 []) true (cq p1 [])) (
 some ((),((p0,()),()))
 ) (
 cond (aq (ae p1) 1) (
 cond (aU 0 p1) (
 let u1:=(dy p1 0)
 cond (au u1 128) (
 cond (aU 0 p1) (
 (G1 p0 u1).bind fun y1 =>
 some ((),(y1.2.1,()))
 ) none
 ) (
 none
 )
 ) none
 ) (
 none
 )
 )
def YB:Su:=⟨[.c false [.str],.c false [.str]],[(false,[.str])],true,.inl fun x=>QY x.1.1 x.2.1.1⟩
theorem S5:ar Tryz.prog 230 YB :=
 fq (ac SP an) Tryz.f230
def Lk (p0:List UInt8):Option Oz :=
 (QY p0 [32]).bind fun y1 =>
 some ((),(y1.2.1,()))
def ZN:Su:=⟨[.c false [.str]],[(false,[.str])],true,.inl fun x=>Lk x.1.1⟩
theorem Tx:ar Tryz.prog 180 ZN :=
 fq (ac S5 an) Tryz.f180
def pg (t41:List R3) (t42 t43:Int) (b1:(List UInt8)×(List iq)×Unit) (b2 b6:Int×(List UInt8)×(List UInt8)×(List UInt8)×(List UInt8)×(List UInt8)×Int×Int×Unit):Rd ((List R3)×Int×Int×DV×TJ×TJ×Unit) (Int×TJ×Unit) :=
 cond (au t43 t42) (
 cond (aU t43 t41) (
 (FO b1 (gt d3 t41 t43).1).bind fun y1 =>
 cond (!y1.2.2.1.1) (
 some (.inr (.inr (1,(0,[],[],[],[],[],0,0,()),())))
 ) (
 cond (aq (gt d3 t41 t43).1 2) (
 let u1:=(ak .i64 t43 1)
 some (.inl (t41,t42,u1,b1,b2,(b6.1,y1.2.1.1,b6.2.2.1,b6.2.2.2.1,b6.2.2.2.2.1,b6.2.2.2.2.2.1,b6.2.2.2.2.2.2.1,b6.2.2.2.2.2.2.2.1,()),()))
 ) (
 cond (aq (gt d3 t41 t43).1 4) (
 let u1:=(CK y1.2.1.1)
 Option.bind u1 fun y2 =>
 let u2:=(ak .i64 t43 1)
 some (.inl (t41,t42,u2,b1,b2,(b6.1,b6.2.1,b6.2.2.1,b6.2.2.2.1,b6.2.2.2.2.1,b6.2.2.2.2.2.1,y2.2.1.1,b6.2.2.2.2.2.2.2.1,()),()))
 ) (
 cond (aq (gt d3 t41 t43).1 11) (
 let u1:=(ak .i64 t43 1)
 some (.inl (t41,t42,u1,b1,b2,(b6.1,b6.2.1,b6.2.2.1,b6.2.2.2.1,y1.2.1.1,b6.2.2.2.2.2.1,b6.2.2.2.2.2.2.1,b6.2.2.2.2.2.2.2.1,()),()))
 ) (
 cond (aq (gt d3 t41 t43).1 14) (
 let u1:=(CK y1.2.1.1)
 Option.bind u1 fun y2 =>
 let u2:=(ak .i64 t43 1)
 some (.inl (t41,t42,u2,b1,b2,(b6.1,b6.2.1,b6.2.2.1,b6.2.2.2.1,b6.2.2.2.2.1,b6.2.2.2.2.2.1,b6.2.2.2.2.2.2.1,y2.2.1.1,()),()))
 ) (
 cond (aq (gt d3 t41 t43).1 38) (
 (Lk y1.2.1.1).bind fun y2 =>
 let u1:=(ak .i64 t43 1)
 some (.inl (t41,t42,u1,b1,b2,(b6.1,b6.2.1,b6.2.2.1,y2.2.1.1,b6.2.2.2.2.1,b6.2.2.2.2.2.1,b6.2.2.2.2.2.2.1,b6.2.2.2.2.2.2.2.1,()),()))
 ) (
 cond (aq (gt d3 t41 t43).1 103) (
 let u1:=(ak .i64 t43 1)
 some (.inl (t41,t42,u1,b1,b2,(b6.1,b6.2.1,y1.2.1.1,b6.2.2.2.1,b6.2.2.2.2.1,b6.2.2.2.2.2.1,b6.2.2.2.2.2.2.1,b6.2.2.2.2.2.2.2.1,()),()))
 ) (
 let u1:=(ak .i64 t43 1)
 some (.inl (t41,t42,u1,b1,b2,b6,()))
 )
 )
 )
 )
 )
 )
 )
 ) none
 ) (
 some (.inr (.inl (t41,t42,t43,b1,b2,b6,())))
 )
def Ix:=S8 (ah (D2 pg))
def LY (p0:(List UInt8)×(List iq)×Unit):Option (Unit×(TJ×Y0×Unit)) :=
 (MJ p0).bind fun y1 =>
 cond (!y1.2.1.1) (
 some ((),((0,[],[],[],[],[],0,0,()),(1,()),()))
 ) (
 (QB p0.1).bind fun y2 =>
 cond (!y2.2.1.1) (
 some ((),((0,[],[],[],[],[],0,0,()),(2,()),()))
 ) (
 (FO p0 3).bind fun y3 =>
 cond (!y3.2.2.1.1) (
 some ((),((0,[],[],[],[],[],0,0,()),(1,()),()))
 ) (
 (Mt).bind fun y4 =>
 (Mo y4.2.1.1 p0 y3.2.1).bind fun y5 =>
 let u1:=(ak .i64 1 y5.2.1.1)
 (An u1).bind fun y6 =>
 cond (cT 8 [(2,()),(11,())] y6.2.1.2.2.2.1) (
 let u2:=(ll [(2,()),(11,())] y6.2.1.2.2.2.1)
 (Ix u2 (ae u2) 0 p0 (0,[],[],[],[],[],0,0,()) (u1,[],[],[],[],p0.1,0,0,())).bind (Sum.elim (fun y7 =>
 (HA y7.2.2.2.2.2.1).bind fun y8 =>
 cond (!y8.2.1.1) (
 some ((),((0,[],[],[],[],[],0,0,()),(1,()),()))
 ) (
 some ((),(y7.2.2.2.2.2.1,(0,()),()))
 )
 ) (fun y7 =>
 some ((),(y7.2.1,(y7.1,()),()))
 ))
 ) none
 )
 )
 )
def W5:Su:=⟨[.c true [.str,.sl 178 dH]],[(true,[.int .i64,.str,.str,.str,.str,.str,.int .i64,.int .i64]),(false,aJ)],true,.inl fun x=>LY x.1⟩
theorem Ss:ar Tryz.prog 127 W5 :=
 fl (ac Nu (ac Tz (ac Uj (ac SD (ac O0 (ac UX (ac IE (ac UH (ac Tx an))))))))) [.d 3 (.int .i64),.box 2 [(false,.int .i64),(false,.str),(false,.str),(false,.str),(false,.str),(false,.str),(false,.int .i64),(false,.int .i64)]] [(0,⟨[.own 41 (.sl 3 aJ),.d 42 (.int .i64),.d 43 (.int .i64),.box 1 [(false,.str),(false,.sl 178 dH)],.box 2 [(false,.int .i64),(false,.str),(false,.str),(false,.str),(false,.str),(false,.str),(false,.int .i64),(false,.int .i64)],.box 6 [(false,.int .i64),(false,.str),(false,.str),(false,.str),(false,.str),(false,.str),(false,.int .i64),(false,.int .i64)]],ah (D2 pg)⟩)] [] Tryz.f127 (lp [0] (sc cX sn))
def UK (p0:Int):Option kf :=
 cond (bD 4294967296 p0) (
 let u1:=(iK .u64 p0 32)
 cond (bD 65536 u1) (
 let u2:=(iK .u64 u1 16)
 cond (bD 256 u2) (
 let u3:=(bG .u8 (iK .u64 u2 8))
 cond (aU u3 nI) (
 let u4:=(ak .i64 32 16)
 some ((),(((ak .i64 (ak .i64 u4 8) (bG .i64 (dy nI u3))),()),()))
 ) none
 ) (
 let u3:=(bG .u8 u2)
 cond (aU u3 nI) (
 let u4:=(ak .i64 32 16)
 some ((),(((ak .i64 u4 (bG .i64 (dy nI u3))),()),()))
 ) none
 )
 ) (
 cond (bD 256 u1) (
 let u2:=(bG .u8 (iK .u64 u1 8))
 cond (aU u2 nI) (
 some ((),(((ak .i64 (ak .i64 32 8) (bG .i64 (dy nI u2))),()),()))
 ) none
 ) (
 let u2:=(bG .u8 u1)
 cond (aU u2 nI) (
 some ((),(((ak .i64 32 (bG .i64 (dy nI u2))),()),()))
 ) none
 )
 )
 ) (
 cond (bD 65536 p0) (
 let u1:=(iK .u64 p0 16)
 cond (bD 256 u1) (
 let u2:=(bG .u8 (iK .u64 u1 8))
 cond (aU u2 nI) (
 let u3:=(ak .i64 0 16)
 some ((),(((ak .i64 (ak .i64 u3 8) (bG .i64 (dy nI u2))),()),()))
 ) none
 ) (
 let u2:=(bG .u8 u1)
 cond (aU u2 nI) (
 let u3:=(ak .i64 0 16)
 some ((),(((ak .i64 u3 (bG .i64 (dy nI u2))),()),()))
 ) none
 )
 ) (
 cond (bD 256 p0) (
 let u1:=(bG .u8 (iK .u64 p0 8))
 cond (aU u1 nI) (
 some ((),(((ak .i64 (ak .i64 0 8) (bG .i64 (dy nI u1))),()),()))
 ) none
 ) (
 let u1:=(bG .u8 p0)
 cond (aU u1 nI) (
 some ((),(((ak .i64 0 (bG .i64 (dy nI u1))),()),()))
 ) none
 )
 )
 )
def Yb:Su:=⟨[.c false [.int .u64]],[(false,aJ)],true,.inl fun x=>UK x.1.1⟩
theorem UY:ar Tryz.prog 222 Yb :=
 fq an Tryz.f222
def Fc (p0:Int):Option kf :=
 (UK p0).bind fun y1 =>
 some ((),(y1.2.1,()))
def WL:Su:=⟨[.c false [.int .u64]],[(false,aJ)],true,.inl fun x=>Fc x.1.1⟩
theorem Nx:ar Tryz.prog 167 WL :=
 fq (ac UY an) Tryz.f167
def K1 (p0:List UInt8):Option eo :=
 some ((),(((!(cq p0 p0)),()),()))
def Xo:Su:=⟨[.c false [.str]],[(false,[.bool])],true,.inl fun x=>K1 x.1.1⟩
theorem SF:ar Tryz.prog 261 Xo :=
 fq an Tryz.f261
def LP (p0 p1:List UInt8):Option eo :=
 (K1 p0).bind fun y1 =>
 cond y1.2.1.1 (
 (K1 p1).bind fun y2 =>
 let u1:=(kd p0 p1)
 some ((),(((cond (!y2.2.1.1) true u1),()),()))
 ) (
 let u1:=(kd p0 p1)
 some ((),((u1,()),()))
 )
def Tj:Su:=⟨[.c false [.str],.c false [.str]],[(false,[.bool])],true,.inl fun x=>LP x.1.1 x.2.1.1⟩
theorem Oj:ar Tryz.prog 238 Tj :=
 fq (ac SF an) Tryz.f238
def uM (t0:List R9) (t1 t2 t6 t7:Int):Rd ((List R9)×Int×Int×Int×Int×Unit) Unit :=
 cond (au t1 t7) (
 cond (aU t7 t0) (
 let u1:=(aH .i64 t7 1)
 cond (aU u1 t0) (
 let u2:=(gt d9 t0 t7)
 let u3:=(gt d9 t0 u1)
 (LP u2.1 u3.1).bind fun y1 =>
 cond y1.2.1.1 (
 cond (aU u1 t0) (
 cond (aU t7 t0) (
 cond (aU t7 t0) (
 let u4:=(jh t0 t7 u3)
 cond (aU u1 u4) (
 some (.inl ((jh u4 u1 u2),t1,t2,t6,u1,()))
 ) none
 ) none
 ) none
 ) none
 ) (
 some (.inr (.inl (t0,t1,t2,t6,t7,())))
 )
 ) none
 ) none
 ) (
 some (.inr (.inl (t0,t1,t2,t6,t7,())))
 )
def uJ:=zz (ah (gz uM))
def wG (t0:List R9) (t1 t2 t6:Int):Rd ((List R9)×Int×Int×Int×Unit) Unit :=
 cond (au t6 t2) (
 (uJ t0 t1 t2 t6 t6).bind (Sum.elim (fun y1 =>
 some (.inl (y1.1,y1.2.1,y1.2.2.1,(ak .i64 y1.2.2.2.1 1),()))
 ) (fun y1 =>
 some (.inr (.inr ()))
 ))
 ) (
 some (.inr (.inl (t0,t1,t2,t6,())))
 )
def pM:=nh (ah (dh wG))
def PF (p0:List R9) (p1 p2:Int):Option Zz :=
 (pM p0 p1 p2 (ak .i64 p1 1)).bind (Sum.elim (fun y1 =>
 some (((y1.1,()),()),())
 ) (fun y1 =>
 none
 ))
def LM:Su:=⟨[.io false [.sl 9 xA],.c false aJ,.c false aJ],[],true,.inl fun x=>PF x.1.1 x.2.1.1 x.2.2.1.1⟩
def qx:List SE:=[.own 0 (.sl 9 xA),.d 1 (.int .i64),.d 2 (.int .i64),.d 6 (.int .i64),.d 7 (.int .i64)]
def qm:List SE:=[.own 0 (.sl 9 xA),.d 1 (.int .i64),.d 2 (.int .i64),.d 6 (.int .i64)]
def HM:List SE:=[]
def Ok:Nat->Option (Lo HM)
 | 2=>some ⟨qx,gz uJ⟩
 | 0=>some ⟨qm,dh pM⟩
 | _=>none
def ES:List (Nat×Su):=[(238,Tj)]
def EJ:En:=⟨49,tt,je ES,HM,Ok,[0],fun _=>none⟩
def RU:Nat->Option (St->Tr St)
 | 6=>some (lH EJ (opsOf (bf 6 (ai Tryz.f232))) [7] [(15,2),(15,3),(15,4)])
 | _=>none
def Ba:En:=⟨49,tt,je ES,HM,Ok,[0],RU⟩
theorem QN (x:bJ qx):(dj Ba 2 qx (bb 2 (ai Tryz.f232)) x).run=gz uM x:=by kernel_rfl
theorem Pv (x:bJ qm):(dj Ba 0 qm (bb 0 (ai Tryz.f232)) x).run=dh wG x:=by kernel_rfl
theorem t232 (x:PT LM.ps):(FQ Ba (ai Tryz.f232) Tryz.f232.results.toList LM.ps LM.rs true x).run=PF x.1.1 x.2.1.1 x.2.2.1.1:=by kernel_rfl
theorem CJ:dp Tryz.prog Ba:=cY (l:=ES) ⟨Oj,trivial⟩
theorem Gz:dp Tryz.prog EJ:=cY (l:=ES) ⟨Oj,trivial⟩
theorem Pp:cP Tryz.prog Ba (bf 6 (ai Tryz.f232)) (lH EJ (opsOf (bf 6 (ai Tryz.f232))) [7] [(15,2),(15,3),(15,4)]) :=
 gy rfl rfl (yD (E:=EJ) (lv hT) Gz eR (c:=(bf 6 (ai Tryz.f232))) (id:=6) (by kernel_rfl))
theorem P1:cf Tryz.prog Ba 2 (.loop (bb 2 (ai Tryz.f232))) ⟨qx,gz uJ⟩ :=
 eD (lv hT) CJ eR (step:=fun (x:bJ qx)=>uM x.1 x.2.1 x.2.2.1 x.2.2.2.1 x.2.2.2.2.1) QN (ba [] (by kernel_rfl) trivial [(6,bf 6 (ai Tryz.f232))] (by kernel_rfl) ⟨xG rfl Pp,trivial⟩)
theorem PZ:cf Tryz.prog Ba 0 (.loop (bb 0 (ai Tryz.f232))) ⟨qm,dh pM⟩ :=
 eD (lv hT) CJ eR (step:=fun (x:bJ qm)=>wG x.1 x.2.1 x.2.2.1 x.2.2.2.1) Pv (ba [(2,.loop (bb 2 (ai Tryz.f232)))] (by kernel_rfl) ⟨l5 rfl P1,trivial⟩ [] (by kernel_rfl) trivial)
theorem S0:ar Tryz.prog 232 LM :=
 qL (E:=Ba) (lv hT) CJ eR (fn:=Tryz.f232) (c:=(ai Tryz.f232)) (by kernel_rfl) (by kernel_rfl) (by kernel_rfl) rfl (ba [(0,.loop (bb 0 (ai Tryz.f232)))] (by kernel_rfl) ⟨l5 rfl PZ,trivial⟩ [] (by kernel_rfl) trivial) fun x y h=>⟨y.1,fun _=>rfl,(t232 x).trans h⟩
def TZ (p0:List R9) (p1 p2 p3:Int):Option Zz :=
 cond (bD (aH .i64 p2 p1) 12) (
 (PF p0 p1 p2).bind fun y1 =>
 some ((y1.1.1,()),())
 ) (
 cond (aq p3 0) (
 none
 ) (
 none
 )
 )
def Xh:Su:=⟨[.io false [.sl 9 xA],.c false aJ,.c false aJ,.c false aJ],[],true,.inl fun x=>TZ x.1.1 x.2.1.1 x.2.2.1.1 x.2.2.2.1.1⟩
theorem U7:ar Tryz.prog 182 Xh :=
 fl (ac S0 an) [] [] [0] Tryz.f182 cX
def Ch (p0:List R9):Option Zz :=
 let u1:=(ae p0)
 (Fc (bG .u64 u1)).bind fun y1 =>
 (TZ p0 0 u1 y1.2.1.1).bind fun y2 =>
 some ((y2.1.1,()),())
def Xn:Su:=⟨[.io false [.sl 9 xA]],[],true,.inl fun x=>Ch x.1.1⟩
theorem Tt:ar Tryz.prog 128 Xn :=
 fl (ac Nx (ac U7 an)) [] [] [0] Tryz.f128 cX
def z8 (t0:List R9) (t3:Int):Rd ((List R9)×Int×Unit) ((List R9)×Unit) :=
 let u1:=(ae t0)
 cond (au t3 u1) (
 cond (aU t3 t0) (
 let u2:=(aH .i64 t3 1)
 cond (aU u2 t0) (
 cond (cq (gt d9 t0 t3).1 (gt d9 t0 u2).1) (
 let u3:=(dO t3 u1 t0)
 cond u3 (
 let u4:=(sub t0 t3 u1)
 cond (au 1 (ae u4)) (
 cond (aU 1 u4) (
 let u5:=(aH .i64 1 1)
 cond (aU u5 u4) (
 cond (!(cq (gt d9 u4 1).1 (gt d9 u4 u5).1)) (
 cond (aU 1 u4) (
 cond (aU t3 t0) (
 none
 ) none
 ) none
 ) (
 none
 )
 ) none
 ) none
 ) (
 cond u3 (
 let u5:=(Aa d9 t0 t3)
 cond (dO 0 t3 u5) (
 some (.inr (.inr ((Nw u5 t3),())))
 ) none
 ) none
 )
 ) none
 ) (
 some (.inl (t0,(ak .i64 t3 1),()))
 )
 ) none
 ) none
 ) (
 some (.inr (.inl (t0,t3,())))
 )
def uY:=OB (ah (wY z8))
def Gx (p0:List R9):Option T2 :=
 cond (au (ae p0) 2) (
 some ((),((p0,()),()))
 ) (
 (uY p0 1).bind (Sum.elim (fun y1 =>
 some ((),((y1.1,()),()))
 ) (fun y1 =>
 some ((),(y1,()))
 ))
 )
def Mf:Su:=⟨[.mv (.sl 9 xA)],[(false,[.sl 9 xA])],true,.inl fun x=>Gx x.1⟩
def qY:List SE:=[.own 0 (.sl 9 xA),.d 3 (.int .i64)]
def Oy:List SE:=[.own 2 (.sl 9 xA)]
def Uw:Nat->Option (Lo Oy)
 | 0=>some ⟨qY,wY uY⟩
 | _=>none
def NT:List (Nat×Su):=[]
def Tm:Nat->Option (St->Tr St)
 | 14=>some (sh 54 55 56 0 3 xA)
 | _=>none
def Ct:En:=⟨61,tt,je NT,Oy,Uw,[],Tm⟩
theorem QV (x:bJ qY):(dj Ct 0 qY (bb 0 (ai Tryz.f129)) x).run=wY z8 x:=by kernel_rfl
theorem t129 (x:PT Mf.ps):(FQ Ct (ai Tryz.f129) Tryz.f129.results.toList Mf.ps Mf.rs true x).run=Gx x.1:=by kernel_rfl
theorem IV:dp Tryz.prog Ct:=cY (l:=NT) trivial
theorem K2:cP Tryz.prog Ct (bf 14 (ai Tryz.f129)) (sh 54 55 56 0 3 xA) :=
 yu (E:=Ct) (lv hT) (rid:=14) (ta:=54) (tb:=55) (tc:=56) (t0:=0) (tI:=3) (ty:=111) (o1:=fX (bf 14 (ai Tryz.f129)) 0) (o2:=fX (bf 14 (ai Tryz.f129)) 1) (o3:=fX (bf 14 (ai Tryz.f129)) 2) (o4:=fX (bf 14 (ai Tryz.f129)) 3) (c:=zT (fX (bf 14 (ai Tryz.f129)) 3)) (te:=⟨false,xA,0,16,[]⟩)
  (by kernel_rfl) (by kernel_rfl) (by kernel_rfl) (by kernel_rfl) (by kernel_rfl) (by kernel_rfl) (by kernel_rfl) (by kernel_rfl) (by kernel_rfl) (by kernel_rfl) (by kernel_rfl) (by kernel_rfl) (by kernel_rfl) (by kernel_rfl) (by kernel_rfl) (by kernel_rfl) (by kernel_rfl) (by kernel_rfl) (by kernel_rfl) (by kernel_rfl) (by kernel_rfl)
theorem Qo:cf Tryz.prog Ct 0 (.loop (bb 0 (ai Tryz.f129))) ⟨qY,wY uY⟩ :=
 eD (lv hT) IV eR (step:=fun (x:bJ qY)=>z8 x.1 x.2.1) QV (ba [] (by kernel_rfl) trivial [(14,bf 14 (ai Tryz.f129))] (by kernel_rfl) ⟨xG rfl K2,trivial⟩)
theorem Tb:ar Tryz.prog 129 Mf :=
 qL (E:=Ct) (lv hT) IV eR (fn:=Tryz.f129) (c:=(ai Tryz.f129)) (by kernel_rfl) (by kernel_rfl) (by kernel_rfl) rfl (ba [(0,.loop (bb 0 (ai Tryz.f129)))] (by kernel_rfl) ⟨l5 rfl Qo,trivial⟩ [] (by kernel_rfl) trivial) fun x y h=>⟨y.1,fun _=>rfl,(t129 x).trans h⟩
def Wb (p0:List R5):Option T2 :=
 (Nb p0).bind fun y1 =>
 (LY y1.2.1).bind fun y2 =>
 cond (cond (!(aq y1.2.2.1.1 0)) true (!(aq y2.2.2.1.1 0))) (
 some ((),(([],()),()))
 ) (
 cond (aq y2.2.1.1 6) (
 cond (cT 16 [(y2.2.1.2.1,())] [(y2.2.1.2.2.1,())]) (
 (Ch (ll [(y2.2.1.2.1,())] [(y2.2.1.2.2.1,())])).bind fun y3 =>
 let u1:=(Gx y3.1.1.1)
 Option.bind u1 fun y4 =>
 some ((),(y4.2.1,()))
 ) none
 ) (
 (Ch [(y2.2.1.2.1,())]).bind fun y3 =>
 let u1:=(Gx y3.1.1.1)
 Option.bind u1 fun y4 =>
 some ((),(y4.2.1,()))
 )
 )
def s95:Su:=⟨[.c false [.sl 5 fK]],[(false,[.sl 9 xA])],true,.inl fun x=>Wb x.1.1⟩
theorem Yp:ar Tryz.prog 95 s95 :=
 fq (ac TC (ac Ss (ac Tt (ac Tb an)))) Tryz.f95
def MN (p0:Int):Option eo :=
 some ((),(((!(aq p0 p0)),()),()))
def YY:Su:=⟨[.c false aJ],[(false,[.bool])],true,.inl fun x=>MN x.1.1⟩
theorem Vb:ar Tryz.prog 249 YY :=
 fq an Tryz.f249
def KP (p0 p1:Int):Option eo :=
 (MN p0).bind fun y1 =>
 cond y1.2.1.1 (
 (MN p1).bind fun y2 =>
 some ((),(((cond (!y2.2.1.1) true (au p0 p1)),()),()))
 ) (
 some ((),(((au p0 p1),()),()))
 )
def Ut:Su:=⟨[.c false aJ,.c false aJ],[(false,[.bool])],true,.inl fun x=>KP x.1.1 x.2.1.1⟩
theorem O5:ar Tryz.prog 218 Ut :=
 fq (ac Vb an) Tryz.f218
def vd (t0:List R3) (t1 t2 t6 t7:Int):Rd ((List R3)×Int×Int×Int×Int×Unit) Unit :=
 cond (au t1 t7) (
 cond (aU t7 t0) (
 let u1:=(aH .i64 t7 1)
 cond (aU u1 t0) (
 let u2:=(gt d3 t0 t7)
 let u3:=(gt d3 t0 u1)
 (KP u2.1 u3.1).bind fun y1 =>
 cond y1.2.1.1 (
 cond (aU u1 t0) (
 cond (aU t7 t0) (
 cond (aU t7 t0) (
 let u4:=(jh t0 t7 u3)
 cond (aU u1 u4) (
 some (.inl ((jh u4 u1 u2),t1,t2,t6,u1,()))
 ) none
 ) none
 ) none
 ) none
 ) (
 some (.inr (.inl (t0,t1,t2,t6,t7,())))
 )
 ) none
 ) none
 ) (
 some (.inr (.inl (t0,t1,t2,t6,t7,())))
 )
def xt:=zz (ah (gz vd))
def wN (t0:List R3) (t1 t2 t6:Int):Rd ((List R3)×Int×Int×Int×Unit) Unit :=
 cond (au t6 t2) (
 (xt t0 t1 t2 t6 t6).bind (Sum.elim (fun y1 =>
 some (.inl (y1.1,y1.2.1,y1.2.2.1,(ak .i64 y1.2.2.2.1 1),()))
 ) (fun y1 =>
 some (.inr (.inr ()))
 ))
 ) (
 some (.inr (.inl (t0,t1,t2,t6,())))
 )
def lK:=nh (ah (dh wN))
def Pn (p0:List R3) (p1 p2:Int):Option ZJ :=
 (lK p0 p1 p2 (ak .i64 p1 1)).bind (Sum.elim (fun y1 =>
 some (((y1.1,()),()),())
 ) (fun y1 =>
 none
 ))
def LU:Su:=⟨[.io false [.sl 3 aJ],.c false aJ,.c false aJ],[],true,.inl fun x=>Pn x.1.1 x.2.1.1 x.2.2.1.1⟩
def qf:List SE:=[.own 0 (.sl 3 aJ),.d 1 (.int .i64),.d 2 (.int .i64),.d 6 (.int .i64),.d 7 (.int .i64)]
def pW:List SE:=[.own 0 (.sl 3 aJ),.d 1 (.int .i64),.d 2 (.int .i64),.d 6 (.int .i64)]
def JG:List SE:=[]
def OA:Nat->Option (Lo JG)
 | 2=>some ⟨qf,gz xt⟩
 | 0=>some ⟨pW,dh lK⟩
 | _=>none
def EA:List (Nat×Su):=[(218,Ut)]
def DY:En:=⟨49,tt,je EA,JG,OA,[0],fun _=>none⟩
def Tn:Nat->Option (St->Tr St)
 | 6=>some (lH DY (opsOf (bf 6 (ai Tryz.f212))) [7] [(15,2),(15,3),(15,4)])
 | _=>none
def AL:En:=⟨49,tt,je EA,JG,OA,[0],Tn⟩
theorem PG (x:bJ qf):(dj AL 2 qf (bb 2 (ai Tryz.f212)) x).run=gz vd x:=by kernel_rfl
theorem Qc (x:bJ pW):(dj AL 0 pW (bb 0 (ai Tryz.f212)) x).run=dh wN x:=by kernel_rfl
theorem t212 (x:PT LU.ps):(FQ AL (ai Tryz.f212) Tryz.f212.results.toList LU.ps LU.rs true x).run=Pn x.1.1 x.2.1.1 x.2.2.1.1:=by kernel_rfl
theorem C0:dp Tryz.prog AL:=cY (l:=EA) ⟨O5,trivial⟩
theorem FJ:dp Tryz.prog DY:=cY (l:=EA) ⟨O5,trivial⟩
theorem Pc:cP Tryz.prog AL (bf 6 (ai Tryz.f212)) (lH DY (opsOf (bf 6 (ai Tryz.f212))) [7] [(15,2),(15,3),(15,4)]) :=
 gy rfl rfl (yD (E:=DY) (lv hT) FJ eR (c:=(bf 6 (ai Tryz.f212))) (id:=6) (by kernel_rfl))
theorem Py:cf Tryz.prog AL 2 (.loop (bb 2 (ai Tryz.f212))) ⟨qf,gz xt⟩ :=
 eD (lv hT) C0 eR (step:=fun (x:bJ qf)=>vd x.1 x.2.1 x.2.2.1 x.2.2.2.1 x.2.2.2.2.1) PG (ba [] (by kernel_rfl) trivial [(6,bf 6 (ai Tryz.f212))] (by kernel_rfl) ⟨xG rfl Pc,trivial⟩)
theorem PN:cf Tryz.prog AL 0 (.loop (bb 0 (ai Tryz.f212))) ⟨pW,dh lK⟩ :=
 eD (lv hT) C0 eR (step:=fun (x:bJ pW)=>wN x.1 x.2.1 x.2.2.1 x.2.2.2.1) Qc (ba [(2,.loop (bb 2 (ai Tryz.f212)))] (by kernel_rfl) ⟨l5 rfl Py,trivial⟩ [] (by kernel_rfl) trivial)
theorem TG:ar Tryz.prog 212 LU :=
 qL (E:=AL) (lv hT) C0 eR (fn:=Tryz.f212) (c:=(ai Tryz.f212)) (by kernel_rfl) (by kernel_rfl) (by kernel_rfl) rfl (ba [(0,.loop (bb 0 (ai Tryz.f212)))] (by kernel_rfl) ⟨l5 rfl PN,trivial⟩ [] (by kernel_rfl) trivial) fun x y h=>⟨y.1,fun _=>rfl,(t212 x).trans h⟩
def UT (p0:List R3) (p1 p2 p3:Int):Option ZJ :=
 cond (bD (aH .i64 p2 p1) 12) (
 (Pn p0 p1 p2).bind fun y1 =>
 some ((y1.1.1,()),())
 ) (
 cond (aq p3 0) (
 none
 ) (
 none
 )
 )
def XH:Su:=⟨[.io false [.sl 3 aJ],.c false aJ,.c false aJ,.c false aJ],[],true,.inl fun x=>UT x.1.1 x.2.1.1 x.2.2.1.1 x.2.2.2.1.1⟩
theorem Uz:ar Tryz.prog 166 XH :=
 fl (ac TG an) [] [] [0] Tryz.f166 cX
def uQ (p0:List R3):Option ZJ :=
 let u1:=(ae p0)
 (Fc (bG .u64 u1)).bind fun y1 =>
 (UT p0 0 u1 y1.2.1.1).bind fun y2 =>
 some ((y2.1.1,()),())
def Yd:Su:=⟨[.io false [.sl 3 aJ]],[],true,.inl fun x=>uQ x.1.1⟩
theorem Ti:ar Tryz.prog 124 Yd :=
 fl (ac Nx (ac Uz an)) [] [] [0] Tryz.f124 cX
def Ae (t0:List R3) (t3:Int):Rd ((List R3)×Int×Unit) Y2 :=
 let u1:=(ae t0)
 cond (au t3 u1) (
 cond (aU t3 t0) (
 let u2:=(aH .i64 t3 1)
 cond (aU u2 t0) (
 cond (aq (gt d3 t0 t3).1 (gt d3 t0 u2).1) (
 let u3:=(dO t3 u1 t0)
 cond u3 (
 let u4:=(sub t0 t3 u1)
 cond (au 1 (ae u4)) (
 cond (aU 1 u4) (
 let u5:=(aH .i64 1 1)
 cond (aU u5 u4) (
 cond (!(aq (gt d3 u4 1).1 (gt d3 u4 u5).1)) (
 cond (aU 1 u4) (
 cond (aU t3 t0) (
 none
 ) none
 ) none
 ) (
 none
 )
 ) none
 ) none
 ) (
 cond u3 (
 let u5:=(Aa d3 t0 t3)
 cond (dO 0 t3 u5) (
 some (.inr (.inr ((Nw u5 t3),())))
 ) none
 ) none
 )
 ) none
 ) (
 some (.inl (t0,(ak .i64 t3 1),()))
 )
 ) none
 ) none
 ) (
 some (.inr (.inl (t0,t3,())))
 )
def uZ:=OB (ah (wY Ae))
def J2 (p0:List R3):Option KF :=
 cond (au (ae p0) 2) (
 some ((),((p0,()),()))
 ) (
 (uZ p0 1).bind (Sum.elim (fun y1 =>
 some ((),((y1.1,()),()))
 ) (fun y1 =>
 some ((),(y1,()))
 ))
 )
def KU:Su:=⟨[.mv (.sl 3 aJ)],[(false,fU)],true,.inl fun x=>J2 x.1⟩
def qv:List SE:=[.own 0 (.sl 3 aJ),.d 3 (.int .i64)]
def OZ:List SE:=[.own 2 (.sl 3 aJ)]
def TO:Nat->Option (Lo OZ)
 | 0=>some ⟨qv,wY uZ⟩
 | _=>none
def N1:List (Nat×Su):=[]
def Vp:Nat->Option (St->Tr St)
 | 14=>some (sh 54 55 56 0 3 aJ)
 | _=>none
def C7:En:=⟨61,tt,je N1,OZ,TO,[],Vp⟩
theorem Ru (x:bJ qv):(dj C7 0 qv (bb 0 (ai Tryz.f125)) x).run=wY Ae x:=by kernel_rfl
theorem t125 (x:PT KU.ps):(FQ C7 (ai Tryz.f125) Tryz.f125.results.toList KU.ps KU.rs true x).run=J2 x.1:=by kernel_rfl
theorem I8:dp Tryz.prog C7:=cY (l:=N1) trivial
theorem La:cP Tryz.prog C7 (bf 14 (ai Tryz.f125)) (sh 54 55 56 0 3 aJ) :=
 yu (E:=C7) (lv hT) (rid:=14) (ta:=54) (tb:=55) (tc:=56) (t0:=0) (tI:=3) (ty:=53) (o1:=fX (bf 14 (ai Tryz.f125)) 0) (o2:=fX (bf 14 (ai Tryz.f125)) 1) (o3:=fX (bf 14 (ai Tryz.f125)) 2) (o4:=fX (bf 14 (ai Tryz.f125)) 3) (c:=zT (fX (bf 14 (ai Tryz.f125)) 3)) (te:=⟨false,aJ,0,8,[]⟩)
  (by kernel_rfl) (by kernel_rfl) (by kernel_rfl) (by kernel_rfl) (by kernel_rfl) (by kernel_rfl) (by kernel_rfl) (by kernel_rfl) (by kernel_rfl) (by kernel_rfl) (by kernel_rfl) (by kernel_rfl) (by kernel_rfl) (by kernel_rfl) (by kernel_rfl) (by kernel_rfl) (by kernel_rfl) (by kernel_rfl) (by kernel_rfl) (by kernel_rfl) (by kernel_rfl)
theorem Rn:cf Tryz.prog C7 0 (.loop (bb 0 (ai Tryz.f125))) ⟨qv,wY uZ⟩ :=
 eD (lv hT) I8 eR (step:=fun (x:bJ qv)=>Ae x.1 x.2.1) Ru (ba [] (by kernel_rfl) trivial [(14,bf 14 (ai Tryz.f125))] (by kernel_rfl) ⟨xG rfl La,trivial⟩)
theorem SU:ar Tryz.prog 125 KU :=
 qL (E:=C7) (lv hT) I8 eR (fn:=Tryz.f125) (c:=(ai Tryz.f125)) (by kernel_rfl) (by kernel_rfl) (by kernel_rfl) rfl (ba [(0,.loop (bb 0 (ai Tryz.f125)))] (by kernel_rfl) ⟨l5 rfl Rn,trivial⟩ [] (by kernel_rfl) trivial) fun x y h=>⟨y.1,fun _=>rfl,(t125 x).trans h⟩
def v7 (t1:Int) (t5:List R3) (t9:List R9) (t10 t11:Int):Rd (Int×(List R3)×(List R9)×Int×Int×Unit) Unit :=
 cond (au t11 t10) (
 cond (aU t11 t9) (
 (SK (gt d9 t9 t11).1 t1).bind fun y1 =>
 cond (cT 8 t5 [y1.2.1]) (
 some (.inl (t1,(ll t5 [y1.2.1]),t9,t10,(ak .i64 t11 1),()))
 ) none
 ) none
 ) (
 some (.inr (.inl (t1,t5,t9,t10,t11,())))
 )
def NK:=zz (ah (gz v7))
def VL (p0:List R9) (p1:Int):Option KF :=
 (NK p1 [] p0 (ae p0) 0).bind (Sum.elim (fun y1 =>
 (uQ y1.2.1).bind fun y2 =>
 (J2 y2.1.1.1).bind fun y3 =>
 some ((),(y3.2.1,()))
 ) (fun y1 =>
 none
 ))
def s94:Su:=⟨[.c false [.sl 9 xA],.c false aJ],[(false,fU)],true,.inl fun x=>VL x.1.1 x.2.1.1⟩
theorem YL:ar Tryz.prog 94 s94 :=
 fl (ac SJ (ac Ti (ac SU an))) [] [(0,⟨[.d 1 (.int .i64),.own 5 (.sl 3 aJ),.d 9 (.sl 9 xA),.d 10 (.int .i64),.d 11 (.int .i64)],ah (gz v7)⟩)] [] Tryz.f94 (lp [0] (sc cX sn))
def V4 (p0:(List R5)×Int×(List R3)×Int×Int×Int×Int×Int×(List R5)×Unit) (p1:Int):Option KF :=
 (Wb p0.1).bind fun y1 =>
 (VL y1.2.1.1 p1).bind fun y2 =>
 some ((),(y2.2.1,()))
def s71:Su:=⟨[.c true gV,.c false aJ],[(false,fU)],true,.inl fun x=>V4 x.1 x.2.1.1⟩
theorem Yh:ar Tryz.prog 71 s71 :=
 fq (ac Yp (ac YL an)) Tryz.f71
def O6 (t0 t1:List R3) (t12 t13:Int):Rd ((List R3)×(List R3)×Int×Int×Unit) Y1 :=
 cond (au t13 t12) (
 cond (aU t13 t0) (
 cond (aU t13 t1) (
 cond (!(aq (gt d3 t0 t13).1 (gt d3 t1 t13).1)) (
 some (.inr (.inr (false,())))
 ) (
 some (.inl (t0,t1,t12,(ak .i64 t13 1),()))
 )
 ) none
 ) none
 ) (
 some (.inr (.inl (t0,t1,t12,t13,())))
 )
def SC:=nh (ah (dh O6))
def XP (p0 p1:List R3):Option eo :=
 let u1:=(ae p0)
 cond (!(aq u1 (ae p1))) (
 some ((),((false,()),()))
 ) (
 (SC p0 p1 u1 0).bind (Sum.elim (fun y1 =>
 some ((),((true,()),()))
 ) (fun y1 =>
 some ((),(y1,()))
 ))
 )
def s70:Su:=⟨[.c false fU,.c false fU],[(false,[.bool])],true,.inl fun x=>XP x.1.1 x.2.1.1⟩
theorem WD:ar Tryz.prog 70 s70 :=
 fl an [.d 4 (.bool)] [(0,⟨[.d 0 (.sl 3 aJ),.d 1 (.sl 3 aJ),.d 12 (.int .i64),.d 13 (.int .i64)],ah (dh O6)⟩)] [] Tryz.f70 (lp [0] (sc cX sn))
def TL (p0:(List R5)×Int×(List R3)×Int×Int×Int×Int×Int×(List R5)×Unit) (p1:Int):Option eo :=
 (mA p1 1 5).bind fun y1 =>
 cond (!y1.2.1.1) (
 some ((),((false,()),()))
 ) (
 (Ul p0.2.1).bind fun y2 =>
 let u1:=(ae p0.2.2.2.2.2.2.2.2.1)
 cond (cond (cond (cq y2.2.1.1 []) true (au 300 (ae p0.1))) true (au 200 u1)) (
 some ((),((false,()),()))
 ) (
 (uh p0.2.2.2.2.1).bind fun y3 =>
 cond (!y3.2.1.1) (
 some ((),((false,()),()))
 ) (
 (uh p0.2.2.2.2.2.2.2.1).bind fun y4 =>
 cond (!y4.2.1.1) (
 some ((),((false,()),()))
 ) (
 cond (aq p0.2.1 0) (
 let u2:=(ae p0.2.2.1)
 cond (au 0 u2) (
 some ((),((false,()),()))
 ) (
 cond (aq p0.2.1 1) (
 let u3:=(mA p0.2.2.2.1 0 (aH .i64 u2 1))
 Option.bind u3 fun y5 =>
 cond (!y5.2.1.1) (
 some ((),((false,()),()))
 ) (
 cond (au p0.2.1 3) (
 some ((),(((cond (cond (cond (aq p0.2.2.2.2.2.1 (-1)) (aq p0.2.2.2.2.2.2.1 (-1)) false) (aq p0.2.2.2.2.2.2.2.1 0) false) (aq u1 0) false),()),()))
 ) (
 let u4:=(uh p0.2.2.2.2.2.1)
 Option.bind u4 fun y6 =>
 let u5:=(cond (!y6.2.1.1) true (au p0.2.2.2.2.2.1 p0.2.2.2.2.1))
 cond u5 (
 some ((),((false,()),()))
 ) (
 cond (aq p0.2.1 5) (
 let u6:=(uh p0.2.2.2.2.2.2.1)
 Option.bind u6 fun y7 =>
 some ((),(((cond y7.2.1.1 (bD p0.2.2.2.2.2.1 p0.2.2.2.2.2.2.1) false),()),()))
 ) (
 some ((),(((aq p0.2.2.2.2.2.2.1 (-1)),()),()))
 )
 )
 )
 )
 ) (
 cond (aq p0.2.1 2) (
 cond (!(cond (aq p0.2.2.2.1 u2) (au 0 u2) false)) (
 some ((),((false,()),()))
 ) (
 cond (au p0.2.1 3) (
 some ((),(((cond (cond (cond (aq p0.2.2.2.2.2.1 (-1)) (aq p0.2.2.2.2.2.2.1 (-1)) false) (aq p0.2.2.2.2.2.2.2.1 0) false) (aq u1 0) false),()),()))
 ) (
 let u3:=(uh p0.2.2.2.2.2.1)
 Option.bind u3 fun y5 =>
 let u4:=(cond (!y5.2.1.1) true (au p0.2.2.2.2.2.1 p0.2.2.2.2.1))
 cond u4 (
 some ((),((false,()),()))
 ) (
 cond (aq p0.2.1 5) (
 let u5:=(uh p0.2.2.2.2.2.2.1)
 Option.bind u5 fun y6 =>
 some ((),(((cond y6.2.1.1 (bD p0.2.2.2.2.2.1 p0.2.2.2.2.2.2.1) false),()),()))
 ) (
 some ((),(((aq p0.2.2.2.2.2.2.1 (-1)),()),()))
 )
 )
 )
 )
 ) (
 cond (aq p0.2.1 3) (
 let u3:=(mA p0.2.2.2.1 1 u2)
 Option.bind u3 fun y5 =>
 cond (!y5.2.1.1) (
 some ((),((false,()),()))
 ) (
 cond (au p0.2.1 3) (
 some ((),(((cond (cond (cond (aq p0.2.2.2.2.2.1 (-1)) (aq p0.2.2.2.2.2.2.1 (-1)) false) (aq p0.2.2.2.2.2.2.2.1 0) false) (aq u1 0) false),()),()))
 ) (
 let u4:=(uh p0.2.2.2.2.2.1)
 Option.bind u4 fun y6 =>
 let u5:=(cond (!y6.2.1.1) true (au p0.2.2.2.2.2.1 p0.2.2.2.2.1))
 cond u5 (
 some ((),((false,()),()))
 ) (
 cond (aq p0.2.1 5) (
 let u6:=(uh p0.2.2.2.2.2.2.1)
 Option.bind u6 fun y7 =>
 some ((),(((cond y7.2.1.1 (bD p0.2.2.2.2.2.1 p0.2.2.2.2.2.2.1) false),()),()))
 ) (
 some ((),(((aq p0.2.2.2.2.2.2.1 (-1)),()),()))
 )
 )
 )
 )
 ) (
 cond (!(aq p0.2.2.2.1 0)) (
 some ((),((false,()),()))
 ) (
 cond (au p0.2.1 3) (
 some ((),(((cond (cond (cond (aq p0.2.2.2.2.2.1 (-1)) (aq p0.2.2.2.2.2.2.1 (-1)) false) (aq p0.2.2.2.2.2.2.2.1 0) false) (aq u1 0) false),()),()))
 ) (
 let u3:=(uh p0.2.2.2.2.2.1)
 Option.bind u3 fun y5 =>
 let u4:=(cond (!y5.2.1.1) true (au p0.2.2.2.2.2.1 p0.2.2.2.2.1))
 cond u4 (
 some ((),((false,()),()))
 ) (
 cond (aq p0.2.1 5) (
 let u5:=(uh p0.2.2.2.2.2.2.1)
 Option.bind u5 fun y6 =>
 some ((),(((cond y6.2.1.1 (bD p0.2.2.2.2.2.1 p0.2.2.2.2.2.2.1) false),()),()))
 ) (
 some ((),(((aq p0.2.2.2.2.2.2.1 (-1)),()),()))
 )
 )
 )
 )
 )
 )
 )
 )
 ) (
 (V4 p0 p1).bind fun y5 =>
 (XP p0.2.2.1 y5.2.1.1).bind fun y6 =>
 cond (!y6.2.1.1) (
 some ((),((false,()),()))
 ) (
 cond (aq p0.2.1 1) (
 let u2:=(ae p0.2.2.1)
 let u3:=(mA p0.2.2.2.1 0 (aH .i64 u2 1))
 Option.bind u3 fun y7 =>
 cond (!y7.2.1.1) (
 some ((),((false,()),()))
 ) (
 cond (au p0.2.1 3) (
 some ((),(((cond (cond (cond (aq p0.2.2.2.2.2.1 (-1)) (aq p0.2.2.2.2.2.2.1 (-1)) false) (aq p0.2.2.2.2.2.2.2.1 0) false) (aq u1 0) false),()),()))
 ) (
 let u4:=(uh p0.2.2.2.2.2.1)
 Option.bind u4 fun y8 =>
 let u5:=(cond (!y8.2.1.1) true (au p0.2.2.2.2.2.1 p0.2.2.2.2.1))
 cond u5 (
 some ((),((false,()),()))
 ) (
 cond (aq p0.2.1 5) (
 let u6:=(uh p0.2.2.2.2.2.2.1)
 Option.bind u6 fun y9 =>
 some ((),(((cond y9.2.1.1 (bD p0.2.2.2.2.2.1 p0.2.2.2.2.2.2.1) false),()),()))
 ) (
 some ((),(((aq p0.2.2.2.2.2.2.1 (-1)),()),()))
 )
 )
 )
 )
 ) (
 cond (aq p0.2.1 2) (
 let u2:=(ae p0.2.2.1)
 cond (!(cond (aq p0.2.2.2.1 u2) (au 0 u2) false)) (
 some ((),((false,()),()))
 ) (
 cond (au p0.2.1 3) (
 some ((),(((cond (cond (cond (aq p0.2.2.2.2.2.1 (-1)) (aq p0.2.2.2.2.2.2.1 (-1)) false) (aq p0.2.2.2.2.2.2.2.1 0) false) (aq u1 0) false),()),()))
 ) (
 let u3:=(uh p0.2.2.2.2.2.1)
 Option.bind u3 fun y7 =>
 let u4:=(cond (!y7.2.1.1) true (au p0.2.2.2.2.2.1 p0.2.2.2.2.1))
 cond u4 (
 some ((),((false,()),()))
 ) (
 cond (aq p0.2.1 5) (
 let u5:=(uh p0.2.2.2.2.2.2.1)
 Option.bind u5 fun y8 =>
 some ((),(((cond y8.2.1.1 (bD p0.2.2.2.2.2.1 p0.2.2.2.2.2.2.1) false),()),()))
 ) (
 some ((),(((aq p0.2.2.2.2.2.2.1 (-1)),()),()))
 )
 )
 )
 )
 ) (
 cond (aq p0.2.1 3) (
 let u2:=(ae p0.2.2.1)
 let u3:=(mA p0.2.2.2.1 1 u2)
 Option.bind u3 fun y7 =>
 cond (!y7.2.1.1) (
 some ((),((false,()),()))
 ) (
 cond (au p0.2.1 3) (
 some ((),(((cond (cond (cond (aq p0.2.2.2.2.2.1 (-1)) (aq p0.2.2.2.2.2.2.1 (-1)) false) (aq p0.2.2.2.2.2.2.2.1 0) false) (aq u1 0) false),()),()))
 ) (
 let u4:=(uh p0.2.2.2.2.2.1)
 Option.bind u4 fun y8 =>
 let u5:=(cond (!y8.2.1.1) true (au p0.2.2.2.2.2.1 p0.2.2.2.2.1))
 cond u5 (
 some ((),((false,()),()))
 ) (
 cond (aq p0.2.1 5) (
 let u6:=(uh p0.2.2.2.2.2.2.1)
 Option.bind u6 fun y9 =>
 some ((),(((cond y9.2.1.1 (bD p0.2.2.2.2.2.1 p0.2.2.2.2.2.2.1) false),()),()))
 ) (
 some ((),(((aq p0.2.2.2.2.2.2.1 (-1)),()),()))
 )
 )
 )
 )
 ) (
 cond (!(aq p0.2.2.2.1 0)) (
 some ((),((false,()),()))
 ) (
 cond (au p0.2.1 3) (
 some ((),(((cond (cond (cond (aq p0.2.2.2.2.2.1 (-1)) (aq p0.2.2.2.2.2.2.1 (-1)) false) (aq p0.2.2.2.2.2.2.2.1 0) false) (aq u1 0) false),()),()))
 ) (
 let u2:=(uh p0.2.2.2.2.2.1)
 Option.bind u2 fun y7 =>
 let u3:=(cond (!y7.2.1.1) true (au p0.2.2.2.2.2.1 p0.2.2.2.2.1))
 cond u3 (
 some ((),((false,()),()))
 ) (
 cond (aq p0.2.1 5) (
 let u4:=(uh p0.2.2.2.2.2.2.1)
 Option.bind u4 fun y8 =>
 some ((),(((cond y8.2.1.1 (bD p0.2.2.2.2.2.1 p0.2.2.2.2.2.2.1) false),()),()))
 ) (
 some ((),(((aq p0.2.2.2.2.2.2.1 (-1)),()),()))
 )
 )
 )
 )
 )
 )
 )
 )
 )
 )
 )
 )
 )
def s39:Su:=⟨[.c true gV,.c false aJ],[(false,[.bool])],true,.inl fun x=>TL x.1 x.2.1.1⟩
theorem YD:ar Tryz.prog 39 s39 :=
 fq (ac l8 (ac Ld (ac Xy (ac Yh (ac WD an))))) Tryz.f39
def VV (p0:(List R5)×Int×(List R3)×Int×Int×Int×Int×Int×(List R5)×Unit) (p1:Int):Option eo :=
 let u1:=(Fx 0 (Gb p0.2.2.2.1 (ae p0.2.2.1)))
 cond (dO 0 u1 p0.2.2.1) (
 (QT (sub p0.2.2.1 0 u1) p1).bind fun y1 =>
 some ((),(y1.2.1,()))
 ) none
def s41:Su:=⟨[.c true gV,.c false aJ],[(false,[.bool])],true,.inl fun x=>VV x.1 x.2.1.1⟩
theorem XK:ar Tryz.prog 41 s41 :=
 fq (ac Qg an) Tryz.f41
def wS (t3:List R3) (t36:List iH) (t37 t38:Int) (t61:List R3) (t62 t63:Int) (b1:(List eS)×Int×Int×(List iH)×Unit):Rd ((List R3)×(List iH)×Int×Int×(List R3)×Int×Int×J8×Unit) Y1 :=
 cond (au t63 t62) (
 cond (aU t63 t61) (
 let u1:=(gt d3 t61 t63)
 cond (aq u1.1 (-1)) (
 let u2:=(ak .i64 t63 1)
 some (.inl (t3,t36,t37,t38,t61,t62,u2,b1,()))
 ) (
 cond (bD b1.2.2.1 u1.1) (
 some (.inr (.inr (false,())))
 ) (
 (QT t3 u1.1).bind fun y1 =>
 cond y1.2.1.1 (
 some (.inr (.inr (false,())))
 ) (
 cond (cT 8 t3 [u1]) (
 let u2:=(ak .i64 t63 1)
 some (.inl ((ll t3 [u1]),t36,t37,t38,t61,t62,u2,b1,()))
 ) none
 )
 )
 )
 ) none
 ) (
 some (.inr (.inl (t3,t36,t37,t38,t61,t62,t63,b1,())))
 )
def On:=RK (ah (yl wS))
def uz (t3:List R3) (t36:List iH) (t37 t38:Int) (b1:(List eS)×Int×Int×(List iH)×Unit):Rd ((List R3)×(List iH)×Int×Int×J8×Unit) Y1 :=
 cond (au t38 t37) (
 cond (aU t38 t36) (
 let u1:=(gt d64 t36 t38)
 (TL u1 (ae b1.1)).bind fun y1 =>
 cond (cond (!y1.2.1.1) true (au b1.2.1 u1.2.2.2.2.2.2.2.1)) (
 some (.inr (.inr (false,())))
 ) (
 (On t3 t36 t37 t38 [(u1.2.2.2.2.1,()),(u1.2.2.2.2.2.1,()),(u1.2.2.2.2.2.2.1,())] (ae [(u1.2.2.2.2.1,()),(u1.2.2.2.2.2.1,()),(u1.2.2.2.2.2.2.1,())]) 0 b1).bind (Sum.elim (fun y2 =>
 some (.inl (y2.1,y2.2.1,y2.2.2.1,(ak .i64 y2.2.2.2.1 1),y2.2.2.2.2.2.2.2.1,()))
 ) (fun y2 =>
 some (.inr (.inr (y2.1,())))
 ))
 )
 ) none
 ) (
 some (.inr (.inl (t3,t36,t37,t38,b1,())))
 )
def O2:=zz (ah (gz uz))
def uH (t8:Int) (t85:List eS) (t86 t87:Int) (t99:List iH) (t100 t101:Int) (b1:(List eS)×Int×Int×(List iH)×Unit) (b9:Int×(List di)×Unit):Rd (Int×(List eS)×Int×Int×(List iH)×Int×Int×J8×Y9×Unit) Y1 :=
 cond (au t101 t100) (
 cond (aU t101 t99) (
 (VV (gt d64 t99 t101) t8).bind fun y1 =>
 cond (!(Qf y1.2.1.1 (aq b9.1 t101))) (
 some (.inr (.inr (false,())))
 ) (
 some (.inl (t8,t85,t86,t87,t99,t100,(ak .i64 t101 1),b1,b9,()))
 )
 ) none
 ) (
 some (.inr (.inl (t8,t85,t86,t87,t99,t100,t101,b1,b9,())))
 )
def OM:=Sv (ah (C1 uH))
def uS (t85:List eS) (t86 t87:Int) (b1:(List eS)×Int×Int×(List iH)×Unit):Rd ((List eS)×Int×Int×J8×Unit) Y1 :=
 cond (au t87 t86) (
 cond (aU t87 t85) (
 let u1:=(ae b1.2.2.2.1)
 let u2:=(gt d67 t85 t87)
 cond (bD u1 u2.1) (
 some (.inr (.inr (false,())))
 ) (
 (OM t87 t85 t86 t87 b1.2.2.2.1 u1 0 b1 u2).bind (Sum.elim (fun y1 =>
 some (.inl (y1.2.1,y1.2.2.1,(ak .i64 y1.2.2.2.1 1),y1.2.2.2.2.2.2.2.1,()))
 ) (fun y1 =>
 some (.inr (.inr (y1.1,())))
 ))
 )
 ) none
 ) (
 some (.inr (.inl (t85,t86,t87,b1,())))
 )
def OK:=nh (ah (dh uS))
def g11 (p0:(List eS)×Int×Int×(List iH)×Unit):Option eo :=
 (Wh p0.1).bind fun y1 =>
 cond (!y1.2.1.1) (
 some ((),((false,()),()))
 ) (
 (uh p0.2.1).bind fun y2 =>
 cond (!y2.2.1.1) (
 some ((),((false,()),()))
 ) (
 (uh p0.2.2.1).bind fun y3 =>
 let u1:=(ae p0.2.2.2.1)
 cond (cond (!y3.2.1.1) true (au 12 u1)) (
 some ((),((false,()),()))
 ) (
 (O2 [] p0.2.2.2.1 u1 0 p0).bind (Sum.elim (fun y4 =>
 (OK y4.2.2.2.2.1.1 (ae y4.2.2.2.2.1.1) 0 y4.2.2.2.2.1).bind (Sum.elim (fun y5 =>
 some ((),((true,()),()))
 ) (fun y5 =>
 some ((),(y5,()))
 ))
 ) (fun y4 =>
 some ((),(y4,()))
 ))
 )
 )
 )
def s11:Su:=⟨[.c true [.sl 67 cN,.int .i64,.int .i64,.sl 64 dZ]],[(false,[.bool])],true,.inl fun x=>g11 x.1⟩
theorem Yr:ar Tryz.prog 11 s11 :=
 fl (ac Ld (ac YM (ac Qg (ac YD (ac XK an))))) [.d 2 (.bool)] [(2,⟨[.own 3 (.sl 3 aJ),.d 36 (.sl 64 dZ),.d 37 (.int .i64),.d 38 (.int .i64),.own 61 (.sl 3 aJ),.d 62 (.int .i64),.d 63 (.int .i64),.box 1 [(false,.sl 67 cN),(false,.int .i64),(false,.int .i64),(false,.sl 64 dZ)]],ah (yl wS)⟩),(0,⟨[.own 3 (.sl 3 aJ),.d 36 (.sl 64 dZ),.d 37 (.int .i64),.d 38 (.int .i64),.box 1 [(false,.sl 67 cN),(false,.int .i64),(false,.int .i64),(false,.sl 64 dZ)]],ah (gz uz)⟩),(6,⟨[.d 8 (.int .i64),.d 85 (.sl 67 cN),.d 86 (.int .i64),.d 87 (.int .i64),.d 99 (.sl 64 dZ),.d 100 (.int .i64),.d 101 (.int .i64),.box 1 [(false,.sl 67 cN),(false,.int .i64),(false,.int .i64),(false,.sl 64 dZ)],.box 9 [(false,.int .i64),(false,.sl 92 bz)]],ah (C1 uH)⟩),(4,⟨[.d 85 (.sl 67 cN),.d 86 (.int .i64),.d 87 (.int .i64),.box 1 [(false,.sl 67 cN),(false,.int .i64),(false,.int .i64),(false,.sl 64 dZ)]],ah (dh uS)⟩)] [] Tryz.f11 (lp [0,4] (sc (lp [2] (sc cX sn)) (sc (lp [6] (sc cX sn)) sn)))
def Yc (p0:(List R5)×Int×(List R3)×Int×Int×Int×Int×Int×(List R5)×Unit):Option kf :=
 cond (!(aq p0.2.1 1)) (
 some ((),(((-1),()),()))
 ) (
 (mA p0.2.2.2.1 0 (aH .i64 (ae p0.2.2.1) 1)).bind fun y1 =>
 cond (!y1.2.1.1) (
 some ((),(((-1),()),()))
 ) (
 cond (aU p0.2.2.2.1 p0.2.2.1) (
 some ((),((gt d3 p0.2.2.1 p0.2.2.2.1),()))
 ) none
 )
 )
def s47:Su:=⟨[.c true gV],[(false,aJ)],true,.inl fun x=>Yc x.1⟩
theorem YA:ar Tryz.prog 47 s47 :=
 fq (ac l8 an) Tryz.f47
def g14 (p0:(List eS)×Int×Int×(List iH)×Unit) (p1:Int):Option kf :=
 (mA p1 0 (aH .i64 (ae p0.2.2.2.1) 1)).bind fun y1 =>
 cond (!y1.2.1.1) (
 some ((),(((-1),()),()))
 ) (
 (g11 p0).bind fun y2 =>
 cond (!y2.2.1.1) (
 some ((),(((-1),()),()))
 ) (
 cond (aU p1 p0.2.2.2.1) (
 (Yc (gt d64 p0.2.2.2.1 p1)).bind fun y3 =>
 cond (au y3.2.1.1 0) (
 some ((),(((-1),()),()))
 ) (
 cond (aU y3.2.1.1 p0.1) (
 some ((),(((gt d67 p0.1 y3.2.1.1).1,()),()))
 ) none
 )
 ) none
 )
 )
def s14:Su:=⟨[.c true [.sl 67 cN,.int .i64,.int .i64,.sl 64 dZ],.c false aJ],[(false,aJ)],true,.inl fun x=>g14 x.1 x.2.1.1⟩
theorem Xf:ar Tryz.prog 14 s14 :=
 fq (ac l8 (ac Yr (ac YA an))) Tryz.f14
def sQ (t1:Int) (t5:List R3) (b2:(List eS)×Int×Int×(List iH)×Unit):Rd (Int×(List R3)×J8×Unit) Unit :=
 cond (au (ae t5) 12) (
 (g14 b2 t1).bind fun y1 =>
 cond (au y1.2.1.1 0) (
 some (.inr (.inl (y1.2.1.1,t5,b2,())))
 ) (
 cond (cT 8 t5 [y1.2.1]) (
 some (.inl (y1.2.1.1,(ll t5 [y1.2.1]),b2,()))
 ) none
 )
 ) (
 some (.inr (.inl (t1,t5,b2,())))
 )
def OH:=lM (ah (dC sQ))
def g23 (p0:(List eS)×Int×Int×(List iH)×Unit) (p1:Int):Option KF :=
 (OH p1 [] p0).bind (Sum.elim (fun y1 =>
 some ((),((y1.2.1,()),()))
 ) (fun y1 =>
 none
 ))
def s23:Su:=⟨[.c true [.sl 67 cN,.int .i64,.int .i64,.sl 64 dZ],.c false aJ],[(false,fU)],true,.inl fun x=>g23 x.1 x.2.1.1⟩
theorem Yf:ar Tryz.prog 23 s23 :=
 fl (ac Xf an) [] [(0,⟨[.d 1 (.int .i64),.own 5 (.sl 3 aJ),.box 2 [(false,.sl 67 cN),(false,.int .i64),(false,.int .i64),(false,.sl 64 dZ)]],ah (dC sQ)⟩)] [] Tryz.f23 (lp [0] (sc cX sn))
def vS (t0 t1:List R3) (t5:Int):Rd ((List R3)×(List R3)×Int×Unit) Y1 :=
 cond (au t5 (ae t0)) (
 cond (aU t5 t0) (
 cond (aU t5 t1) (
 cond (!(aq (gt d3 t0 t5).1 (gt d3 t1 t5).1)) (
 some (.inr (.inr (false,())))
 ) (
 some (.inl (t0,t1,(ak .i64 t5 1),()))
 )
 ) none
 ) none
 ) (
 some (.inr (.inl (t0,t1,t5,())))
 )
def Nq:=lM (ah (dC vS))
def g24 (p0 p1:List R3):Option eo :=
 cond (!(aq (ae p0) (ae p1))) (
 some ((),((false,()),()))
 ) (
 (Nq p0 p1 0).bind (Sum.elim (fun y1 =>
 some ((),((true,()),()))
 ) (fun y1 =>
 some ((),(y1,()))
 ))
 )
def s24:Su:=⟨[.c false fU,.c false fU],[(false,[.bool])],true,.inl fun x=>g24 x.1.1 x.2.1.1⟩
theorem Qx:ar Tryz.prog 24 s24 :=
 fl an [.d 4 (.bool)] [(0,⟨[.d 0 (.sl 3 aJ),.d 1 (.sl 3 aJ),.d 5 (.int .i64)],ah (dC vS)⟩)] [] Tryz.f24 (lp [0] (sc cX sn))
def Mn (p0 p1:(List UInt8)×Int×Int×Unit):Option eo :=
 cond (!(cq p0.1 p1.1)) (
 some ((),((false,()),()))
 ) (
 cond (!(aq p0.2.1 p1.2.1)) (
 some ((),((false,()),()))
 ) (
 cond (!(aq p0.2.2.1 p1.2.2.1)) (
 some ((),((false,()),()))
 ) (
 some ((),((true,()),()))
 )
 )
 )
def Zl:Su:=⟨[.c true jx,.c true jx],[(false,[.bool])],true,.inl fun x=>Mn x.1 x.2.1⟩
theorem RX:ar Tryz.prog 197 Zl :=
 fq an Tryz.f197
def pJ (t0 t1:List cG) (t5:Int):Rd ((List cG)×(List cG)×Int×Unit) Y1 :=
 cond (au t5 (ae t0)) (
 cond (aU t5 t0) (
 cond (aU t5 t1) (
 (Mn (gt d157 t0 t5) (gt d157 t1 t5)).bind fun y1 =>
 cond (!y1.2.1.1) (
 some (.inr (.inr (false,())))
 ) (
 some (.inl (t0,t1,(ak .i64 t5 1),()))
 )
 ) none
 ) none
 ) (
 some (.inr (.inl (t0,t1,t5,())))
 )
def Iw:=lM (ah (dC pJ))
def Ng (p0 p1:List cG):Option eo :=
 cond (!(aq (ae p0) (ae p1))) (
 some ((),((false,()),()))
 ) (
 (Iw p0 p1 0).bind (Sum.elim (fun y1 =>
 some ((),((true,()),()))
 ) (fun y1 =>
 some ((),(y1,()))
 ))
 )
def Xl:Su:=⟨[.c false [.sl 157 dx],.c false [.sl 157 dx]],[(false,[.bool])],true,.inl fun x=>Ng x.1.1 x.2.1.1⟩
theorem S6:ar Tryz.prog 146 Xl :=
 fl (ac RX an) [.d 4 (.bool)] [(0,⟨[.d 0 (.sl 157 dx),.d 1 (.sl 157 dx),.d 5 (.int .i64)],ah (dC pJ)⟩)] [] Tryz.f146 (lp [0] (sc cX sn))
def Lf (p0 p1:Int×Int×(List R3)×(List R3)×Unit):Option eo :=
 cond (!(aq p0.1 p1.1)) (
 some ((),((false,()),()))
 ) (
 cond (!(aq p0.2.1 p1.2.1)) (
 some ((),((false,()),()))
 ) (
 (g24 p0.2.2.1 p1.2.2.1).bind fun y1 =>
 cond (!y1.2.1.1) (
 some ((),((false,()),()))
 ) (
 (g24 p0.2.2.2.1 p1.2.2.2.1).bind fun y2 =>
 cond (!y2.2.1.1) (
 some ((),((false,()),()))
 ) (
 some ((),((true,()),()))
 )
 )
 )
 )
def Xr:Su:=⟨[.c true [.int .i64,.int .i64,.sl 3 aJ,.sl 3 aJ],.c true [.int .i64,.int .i64,.sl 3 aJ,.sl 3 aJ]],[(false,[.bool])],true,.inl fun x=>Lf x.1 x.2.1⟩
theorem UG:ar Tryz.prog 147 Xr :=
 fq (ac Qx an) Tryz.f147
def uP (t0 t1:List R5) (t5:Int):Rd ((List R5)×(List R5)×Int×Unit) Y1 :=
 cond (au t5 (ae t0)) (
 cond (aU t5 t0) (
 cond (aU t5 t1) (
 cond (!(aq (gt d5 t0 t5).1 (gt d5 t1 t5).1)) (
 some (.inr (.inr (false,())))
 ) (
 some (.inl (t0,t1,(ak .i64 t5 1),()))
 )
 ) none
 ) none
 ) (
 some (.inr (.inl (t0,t1,t5,())))
 )
def Nn:=lM (ah (dC uP))
def Rz (p0 p1:List R5):Option eo :=
 cond (!(aq (ae p0) (ae p1))) (
 some ((),((false,()),()))
 ) (
 (Nn p0 p1 0).bind (Sum.elim (fun y1 =>
 some ((),((true,()),()))
 ) (fun y1 =>
 some ((),(y1,()))
 ))
 )
def s96:Su:=⟨[.c false [.sl 5 fK],.c false [.sl 5 fK]],[(false,[.bool])],true,.inl fun x=>Rz x.1.1 x.2.1.1⟩
theorem Sx:ar Tryz.prog 96 s96 :=
 fl an [.d 4 (.bool)] [(0,⟨[.d 0 (.sl 5 fK),.d 1 (.sl 5 fK),.d 5 (.int .i64)],ah (dC uP)⟩)] [] Tryz.f96 (lp [0] (sc cX sn))
def Mq (p0 p1:(List UInt8)×(List UInt8)×(List R5)×Unit):Option eo :=
 cond (!(cq p0.1 p1.1)) (
 some ((),((false,()),()))
 ) (
 cond (!(cq p0.2.1 p1.2.1)) (
 some ((),((false,()),()))
 ) (
 (Rz p0.2.2.1 p1.2.2.1).bind fun y1 =>
 cond (!y1.2.1.1) (
 some ((),((false,()),()))
 ) (
 some ((),((true,()),()))
 )
 )
 )
def XD:Su:=⟨[.c true iU,.c true iU],[(false,[.bool])],true,.inl fun x=>Mq x.1 x.2.1⟩
theorem TU:ar Tryz.prog 198 XD :=
 fq (ac Sx an) Tryz.f198
def nZ (t0 t1:List cw) (t5:Int):Rd ((List cw)×(List cw)×Int×Unit) Y1 :=
 cond (au t5 (ae t0)) (
 cond (aU t5 t0) (
 cond (aU t5 t1) (
 (Mq (gt d160 t0 t5) (gt d160 t1 t5)).bind fun y1 =>
 cond (!y1.2.1.1) (
 some (.inr (.inr (false,())))
 ) (
 some (.inl (t0,t1,(ak .i64 t5 1),()))
 )
 ) none
 ) none
 ) (
 some (.inr (.inl (t0,t1,t5,())))
 )
def J0:=lM (ah (dC nZ))
def LR (p0 p1:List cw):Option eo :=
 cond (!(aq (ae p0) (ae p1))) (
 some ((),((false,()),()))
 ) (
 (J0 p0 p1 0).bind (Sum.elim (fun y1 =>
 some ((),((true,()),()))
 ) (fun y1 =>
 some ((),(y1,()))
 ))
 )
def XB:Su:=⟨[.c false [.sl 160 cU],.c false [.sl 160 cU]],[(false,[.bool])],true,.inl fun x=>LR x.1.1 x.2.1.1⟩
theorem Tw:ar Tryz.prog 148 XB :=
 fl (ac TU an) [.d 4 (.bool)] [(0,⟨[.d 0 (.sl 160 cU),.d 1 (.sl 160 cU),.d 5 (.int .i64)],ah (dC nZ)⟩)] [] Tryz.f148 (lp [0] (sc cX sn))
def LB (p0 p1:(List UInt8)×Int×Int×Int×Int×(List cG)×Int×Int×(List R3)×(List R3)×(List cw)×Unit):Option eo :=
 cond (!(cq p0.1 p1.1)) (
 some ((),((false,()),()))
 ) (
 cond (!(aq p0.2.1 p1.2.1)) (
 some ((),((false,()),()))
 ) (
 cond (!(aq p0.2.2.1 p1.2.2.1)) (
 some ((),((false,()),()))
 ) (
 cond (!(aq p0.2.2.2.1 p1.2.2.2.1)) (
 some ((),((false,()),()))
 ) (
 cond (!(aq p0.2.2.2.2.1 p1.2.2.2.2.1)) (
 some ((),((false,()),()))
 ) (
 (Ng p0.2.2.2.2.2.1 p1.2.2.2.2.2.1).bind fun y1 =>
 cond (!y1.2.1.1) (
 some ((),((false,()),()))
 ) (
 (Lf (p0.2.2.2.2.2.2.1,p0.2.2.2.2.2.2.2.1,p0.2.2.2.2.2.2.2.2.1,p0.2.2.2.2.2.2.2.2.2.1,()) (p1.2.2.2.2.2.2.1,p1.2.2.2.2.2.2.2.1,p1.2.2.2.2.2.2.2.2.1,p1.2.2.2.2.2.2.2.2.2.1,())).bind fun y2 =>
 cond (!y2.2.1.1) (
 some ((),((false,()),()))
 ) (
 (LR p0.2.2.2.2.2.2.2.2.2.2.1 p1.2.2.2.2.2.2.2.2.2.2.1).bind fun y3 =>
 cond (!y3.2.1.1) (
 some ((),((false,()),()))
 ) (
 some ((),((true,()),()))
 )
 )
 )
 )
 )
 )
 )
 )
def XT:Su:=⟨[.c true bz,.c true bz],[(false,[.bool])],true,.inl fun x=>LB x.1 x.2.1⟩
theorem SL:ar Tryz.prog 113 XT :=
 fq (ac S6 (ac UG (ac Tw an))) Tryz.f113
def vT (t0 t1:List di) (t5:Int):Rd ((List di)×(List di)×Int×Unit) Y1 :=
 cond (au t5 (ae t0)) (
 cond (aU t5 t0) (
 cond (aU t5 t1) (
 (LB (gt d92 t0 t5) (gt d92 t1 t5)).bind fun y1 =>
 cond (!y1.2.1.1) (
 some (.inr (.inr (false,())))
 ) (
 some (.inl (t0,t1,(ak .i64 t5 1),()))
 )
 ) none
 ) none
 ) (
 some (.inr (.inl (t0,t1,t5,())))
 )
def Om:=lM (ah (dC vT))
def Vz (p0 p1:List di):Option eo :=
 cond (!(aq (ae p0) (ae p1))) (
 some ((),((false,()),()))
 ) (
 (Om p0 p1 0).bind (Sum.elim (fun y1 =>
 some ((),((true,()),()))
 ) (fun y1 =>
 some ((),(y1,()))
 ))
 )
def s79:Su:=⟨[.c false [.sl 92 bz],.c false [.sl 92 bz]],[(false,[.bool])],true,.inl fun x=>Vz x.1.1 x.2.1.1⟩
theorem X9:ar Tryz.prog 79 s79 :=
 fl (ac SL an) [.d 4 (.bool)] [(0,⟨[.d 0 (.sl 92 bz),.d 1 (.sl 92 bz),.d 5 (.int .i64)],ah (dC vT)⟩)] [] Tryz.f79 (lp [0] (sc cX sn))
def VO (p0 p1:Int×(List di)×Unit):Option eo :=
 cond (!(aq p0.1 p1.1)) (
 some ((),((false,()),()))
 ) (
 (Vz p0.2.1 p1.2.1).bind fun y1 =>
 cond (!y1.2.1.1) (
 some ((),((false,()),()))
 ) (
 some ((),((true,()),()))
 )
 )
def s73:Su:=⟨[.c true cN,.c true cN],[(false,[.bool])],true,.inl fun x=>VO x.1 x.2.1⟩
theorem X0:ar Tryz.prog 73 s73 :=
 fq (ac X9 an) Tryz.f73
def vL (t0 t1:List eS) (t5:Int):Rd ((List eS)×(List eS)×Int×Unit) Y1 :=
 cond (au t5 (ae t0)) (
 cond (aU t5 t0) (
 cond (aU t5 t1) (
 (VO (gt d67 t0 t5) (gt d67 t1 t5)).bind fun y1 =>
 cond (!y1.2.1.1) (
 some (.inr (.inr (false,())))
 ) (
 some (.inl (t0,t1,(ak .i64 t5 1),()))
 )
 ) none
 ) none
 ) (
 some (.inr (.inl (t0,t1,t5,())))
 )
def N2:=lM (ah (dC vL))
def Wg (p0 p1:List eS):Option eo :=
 cond (!(aq (ae p0) (ae p1))) (
 some ((),((false,()),()))
 ) (
 (N2 p0 p1 0).bind (Sum.elim (fun y1 =>
 some ((),((true,()),()))
 ) (fun y1 =>
 some ((),(y1,()))
 ))
 )
def s42:Su:=⟨[.c false [.sl 67 cN],.c false [.sl 67 cN]],[(false,[.bool])],true,.inl fun x=>Wg x.1.1 x.2.1.1⟩
theorem Xb:ar Tryz.prog 42 s42 :=
 fl (ac X0 an) [.d 4 (.bool)] [(0,⟨[.d 0 (.sl 67 cN),.d 1 (.sl 67 cN),.d 5 (.int .i64)],ah (dC vL)⟩)] [] Tryz.f42 (lp [0] (sc cX sn))
def VK (p0 p1:(List R5)×Int×(List R3)×Int×Int×Int×Int×Int×(List R5)×Unit):Option eo :=
 (Rz p0.1 p1.1).bind fun y1 =>
 cond (!y1.2.1.1) (
 some ((),((false,()),()))
 ) (
 cond (!(aq p0.2.1 p1.2.1)) (
 some ((),((false,()),()))
 ) (
 (g24 p0.2.2.1 p1.2.2.1).bind fun y2 =>
 cond (!y2.2.1.1) (
 some ((),((false,()),()))
 ) (
 cond (!(aq p0.2.2.2.1 p1.2.2.2.1)) (
 some ((),((false,()),()))
 ) (
 cond (!(aq p0.2.2.2.2.1 p1.2.2.2.2.1)) (
 some ((),((false,()),()))
 ) (
 cond (!(aq p0.2.2.2.2.2.1 p1.2.2.2.2.2.1)) (
 some ((),((false,()),()))
 ) (
 cond (!(aq p0.2.2.2.2.2.2.1 p1.2.2.2.2.2.2.1)) (
 some ((),((false,()),()))
 ) (
 cond (!(aq p0.2.2.2.2.2.2.2.1 p1.2.2.2.2.2.2.2.1)) (
 some ((),((false,()),()))
 ) (
 (Rz p0.2.2.2.2.2.2.2.2.1 p1.2.2.2.2.2.2.2.2.1).bind fun y3 =>
 cond (!y3.2.1.1) (
 some ((),((false,()),()))
 ) (
 some ((),((true,()),()))
 )
 )
 )
 )
 )
 )
 )
 )
 )
def s74:Su:=⟨[.c true gV,.c true gV],[(false,[.bool])],true,.inl fun x=>VK x.1 x.2.1⟩
theorem Zd:ar Tryz.prog 74 s74 :=
 fq (ac Qx (ac Sx an)) Tryz.f74
def uo (t0 t1:List iH) (t5:Int):Rd ((List iH)×(List iH)×Int×Unit) Y1 :=
 cond (au t5 (ae t0)) (
 cond (aU t5 t0) (
 cond (aU t5 t1) (
 (VK (gt d64 t0 t5) (gt d64 t1 t5)).bind fun y1 =>
 cond (!y1.2.1.1) (
 some (.inr (.inr (false,())))
 ) (
 some (.inl (t0,t1,(ak .i64 t5 1),()))
 )
 ) none
 ) none
 ) (
 some (.inr (.inl (t0,t1,t5,())))
 )
def Oe:=lM (ah (dC uo))
def Wf (p0 p1:List iH):Option eo :=
 cond (!(aq (ae p0) (ae p1))) (
 some ((),((false,()),()))
 ) (
 (Oe p0 p1 0).bind (Sum.elim (fun y1 =>
 some ((),((true,()),()))
 ) (fun y1 =>
 some ((),(y1,()))
 ))
 )
def s43:Su:=⟨[.c false [.sl 64 dZ],.c false [.sl 64 dZ]],[(false,[.bool])],true,.inl fun x=>Wf x.1.1 x.2.1.1⟩
theorem Xs:ar Tryz.prog 43 s43 :=
 fl (ac Zd an) [.d 4 (.bool)] [(0,⟨[.d 0 (.sl 64 dZ),.d 1 (.sl 64 dZ),.d 5 (.int .i64)],ah (dC uo)⟩)] [] Tryz.f43 (lp [0] (sc cX sn))
def g12 (p0 p1:(List eS)×Int×Int×(List iH)×Unit):Option eo :=
 (Wg p0.1 p1.1).bind fun y1 =>
 cond (!y1.2.1.1) (
 some ((),((false,()),()))
 ) (
 cond (!(aq p0.2.1 p1.2.1)) (
 some ((),((false,()),()))
 ) (
 cond (!(aq p0.2.2.1 p1.2.2.1)) (
 some ((),((false,()),()))
 ) (
 (Wf p0.2.2.2.1 p1.2.2.2.1).bind fun y2 =>
 cond (!y2.2.1.1) (
 some ((),((false,()),()))
 ) (
 some ((),((true,()),()))
 )
 )
 )
 )
def s12:Su:=⟨[.c true [.sl 67 cN,.int .i64,.int .i64,.sl 64 dZ],.c true [.sl 67 cN,.int .i64,.int .i64,.sl 64 dZ]],[(false,[.bool])],true,.inl fun x=>g12 x.1 x.2.1⟩
theorem X5:ar Tryz.prog 12 s12 :=
 fq (ac Xb (ac Xs an)) Tryz.f12
def mR (t0:Int) (t3:List UInt8):Rd iq Unit :=
 cond (au 0 t0) (
 let u1:=(strOf [((bG .u8 (ak .i64 48 (fI t0 10))),())])
 cond (Gi u1 t3) (
 some (.inl ((l6 .i64 t0 10),(N4 u1 t3),()))
 ) none
 ) (
 some (.inr (.inl (t0,t3,())))
 )
def H6:=OB (ah (wY mR))
def zl (p0:Int):Option Oz :=
 cond (bD p0 0) (
 some ((),(([109,48],()),()))
 ) (
 (H6 p0 []).bind (Sum.elim (fun y1 =>
 cond (Gi [109] y1.2.1) (
 some ((),(((N4 [109] y1.2.1),()),()))
 ) none
 ) (fun y1 =>
 none
 ))
 )
def Xm:Su:=⟨[.c false aJ],[(false,[.str])],true,.inl fun x=>zl x.1.1⟩
theorem Jn:ar Tryz.prog 114 Xm :=
 fl an [] [(0,⟨[.d 0 (.int .i64),.d 3 (.str)],ah (wY mR)⟩)] [] Tryz.f114 (lp [0] (sc cX sn))
def oB (t0:List cG) (t1 t5:Int):Rd ((List cG)×Int×Int×Unit) Unit :=
 cond (au t5 (ae t0)) (
 (zl t1).bind fun y1 =>
 cond (aU t5 t0) (
 let u1:=(gt d157 t0 t5)
 let u2:=(jh t0 t5 (y1.2.1.1,u1.2.1,u1.2.2.1,()))
 cond (aU t5 u2) (
 let u3:=(gt d157 u2 t5)
 let u4:=(ak .i64 t1 1)
 let u5:=(jh u2 t5 (u3.1,u4,u3.2.2.1,()))
 cond (aU t5 u5) (
 let u6:=(gt d157 u5 t5)
 let u7:=(ak .i64 u4 1)
 some (.inl ((jh u5 t5 (u6.1,u6.2.1,u7,())),(ak .i64 u7 1),(ak .i64 t5 1),()))
 ) none
 ) none
 ) none
 ) (
 some (.inr (.inl (t0,t1,t5,())))
 )
def Jv:=lM (ah (dC oB))
def K9 (p0:List cG) (p1:Int):Option ((((List cG)×Unit)×Unit)×Y6) :=
 (Jv p0 p1 0).bind (Sum.elim (fun y1 =>
 some (((y1.1,()),()),((y1.2.1,()),()))
 ) (fun y1 =>
 none
 ))
def ZS:Su:=⟨[.io false [.sl 157 dx],.c false aJ],[(false,aJ)],true,.inl fun x=>K9 x.1.1 x.2.1.1⟩
theorem TF:ar Tryz.prog 115 ZS :=
 fl (ac Jn an) [] [(0,⟨[.own 0 (.sl 157 dx),.d 1 (.int .i64),.d 5 (.int .i64)],ah (dC oB)⟩)] [0] Tryz.f115 (lp [0] (sc cX sn))
def vH (t0:List R3) (t1 t5:Int):Rd ((List R3)×Int×Int×Unit) Unit :=
 cond (au t5 (ae t0)) (
 cond (aU t5 t0) (
 some (.inl ((jh t0 t5 (t1,())),(ak .i64 t1 1),(ak .i64 t5 1),()))
 ) none
 ) (
 some (.inr (.inl (t0,t1,t5,())))
 )
def Ns:=lM (ah (dC vH))
def Ql (p0:List R3) (p1:Int):Option ((Y2×Unit)×Y6) :=
 (Ns p0 p1 0).bind (Sum.elim (fun y1 =>
 some (((y1.1,()),()),((y1.2.1,()),()))
 ) (fun y1 =>
 none
 ))
def s26:Su:=⟨[.io false [.sl 3 aJ],.c false aJ],[(false,aJ)],true,.inl fun x=>Ql x.1.1 x.2.1.1⟩
theorem Pk:ar Tryz.prog 26 s26 :=
 fl an [] [(0,⟨[.own 0 (.sl 3 aJ),.d 1 (.int .i64),.d 5 (.int .i64)],ah (dC vH)⟩)] [0] Tryz.f26 (lp [0] (sc cX sn))
def vw (t0:List R5) (t1 t5:Int):Rd ((List R5)×Int×Int×Unit) Unit :=
 cond (au t5 (ae t0)) (
 cond (aU t5 t0) (
 some (.inl ((jh t0 t5 ((bG .u8 t1),())),(ak .i64 t1 1),(ak .i64 t5 1),()))
 ) none
 ) (
 some (.inr (.inl (t0,t1,t5,())))
 )
def N3:=lM (ah (dC vw))
def RE (p0:List R5) (p1:Int):Option ((((List R5)×Unit)×Unit)×Y6) :=
 (N3 p0 p1 0).bind (Sum.elim (fun y1 =>
 some (((y1.1,()),()),((y1.2.1,()),()))
 ) (fun y1 =>
 none
 ))
def Z7:Su:=⟨[.io false [.sl 5 fK],.c false aJ],[(false,aJ)],true,.inl fun x=>RE x.1.1 x.2.1.1⟩
theorem Vi:ar Tryz.prog 81 Z7 :=
 fl an [] [(0,⟨[.own 0 (.sl 5 fK),.d 1 (.int .i64),.d 5 (.int .i64)],ah (dC vw)⟩)] [0] Tryz.f81 (lp [0] (sc cX sn))
def nU (t0:List cw) (t1 t5:Int):Rd ((List cw)×Int×Int×Unit) Unit :=
 cond (au t5 (ae t0)) (
 (zl t1).bind fun y1 =>
 cond (aU t5 t0) (
 let u1:=(ak .i64 t1 1)
 (zl u1).bind fun y2 =>
 let u2:=(gt d160 t0 t5)
 let u3:=(jh t0 t5 (y1.2.1.1,u2.2.1,u2.2.2.1,()))
 cond (aU t5 u3) (
 let u4:=(gt d160 u3 t5)
 let u5:=(jh u3 t5 (u4.1,y2.2.1.1,u4.2.2.1,()))
 cond (aU t5 u5) (
 let u6:=(gt d160 u5 t5)
 (RE u6.2.2.1 (ak .i64 u1 1)).bind fun y3 =>
 some (.inl ((jh u5 t5 (u6.1,u6.2.1,y3.1.1.1,())),y3.2.1.1,(ak .i64 t5 1),()))
 ) none
 ) none
 ) none
 ) (
 some (.inr (.inl (t0,t1,t5,())))
 )
def IL:=lM (ah (dC nU))
def M8 (p0:List cw) (p1:Int):Option ((((List cw)×Unit)×Unit)×Y6) :=
 (IL p0 p1 0).bind (Sum.elim (fun y1 =>
 some (((y1.1,()),()),((y1.2.1,()),()))
 ) (fun y1 =>
 none
 ))
def Zy:Su:=⟨[.io false [.sl 160 cU],.c false aJ],[(false,aJ)],true,.inl fun x=>M8 x.1.1 x.2.1.1⟩
theorem T0:ar Tryz.prog 116 Zy :=
 fl (ac Jn (ac Vi an)) [] [(0,⟨[.own 0 (.sl 160 cU),.d 1 (.int .i64),.d 5 (.int .i64)],ah (dC nU)⟩)] [0] Tryz.f116 (lp [0] (sc cX sn))
def vD (t0:List di) (t1 t5:Int):Rd WV Unit :=
 cond (au t5 (ae t0)) (
 (zl t1).bind fun y1 =>
 cond (aU t5 t0) (
 let u1:=(gt d92 t0 t5)
 let u2:=(jh t0 t5 (y1.2.1.1,u1.2.1,u1.2.2.1,u1.2.2.2.1,u1.2.2.2.2.1,u1.2.2.2.2.2.1,u1.2.2.2.2.2.2.1,u1.2.2.2.2.2.2.2.1,u1.2.2.2.2.2.2.2.2.1,u1.2.2.2.2.2.2.2.2.2.1,u1.2.2.2.2.2.2.2.2.2.2.1,()))
 cond (aU t5 u2) (
 let u3:=(gt d92 u2 t5)
 let u4:=(ak .i64 t1 1)
 let u5:=(jh u2 t5 (u3.1,u4,u3.2.2.1,u3.2.2.2.1,u3.2.2.2.2.1,u3.2.2.2.2.2.1,u3.2.2.2.2.2.2.1,u3.2.2.2.2.2.2.2.1,u3.2.2.2.2.2.2.2.2.1,u3.2.2.2.2.2.2.2.2.2.1,u3.2.2.2.2.2.2.2.2.2.2.1,()))
 cond (aU t5 u5) (
 let u6:=(gt d92 u5 t5)
 let u7:=(ak .i64 u4 1)
 let u8:=(jh u5 t5 (u6.1,u6.2.1,u7,u6.2.2.2.1,u6.2.2.2.2.1,u6.2.2.2.2.2.1,u6.2.2.2.2.2.2.1,u6.2.2.2.2.2.2.2.1,u6.2.2.2.2.2.2.2.2.1,u6.2.2.2.2.2.2.2.2.2.1,u6.2.2.2.2.2.2.2.2.2.2.1,()))
 cond (aU t5 u8) (
 let u9:=(gt d92 u8 t5)
 let u10:=(ak .i64 u7 1)
 let u11:=(jh u8 t5 (u9.1,u9.2.1,u9.2.2.1,u10,u9.2.2.2.2.1,u9.2.2.2.2.2.1,u9.2.2.2.2.2.2.1,u9.2.2.2.2.2.2.2.1,u9.2.2.2.2.2.2.2.2.1,u9.2.2.2.2.2.2.2.2.2.1,u9.2.2.2.2.2.2.2.2.2.2.1,()))
 cond (aU t5 u11) (
 let u12:=(gt d92 u11 t5)
 let u13:=(ak .i64 u10 1)
 let u14:=(jh u11 t5 (u12.1,u12.2.1,u12.2.2.1,u12.2.2.2.1,u13,u12.2.2.2.2.2.1,u12.2.2.2.2.2.2.1,u12.2.2.2.2.2.2.2.1,u12.2.2.2.2.2.2.2.2.1,u12.2.2.2.2.2.2.2.2.2.1,u12.2.2.2.2.2.2.2.2.2.2.1,()))
 cond (aU t5 u14) (
 let u15:=(gt d92 u14 t5)
 (K9 u15.2.2.2.2.2.1 (ak .i64 u13 1)).bind fun y2 =>
 let u16:=(jh u14 t5 (u15.1,u15.2.1,u15.2.2.1,u15.2.2.2.1,u15.2.2.2.2.1,y2.1.1.1,u15.2.2.2.2.2.2.1,u15.2.2.2.2.2.2.2.1,u15.2.2.2.2.2.2.2.2.1,u15.2.2.2.2.2.2.2.2.2.1,u15.2.2.2.2.2.2.2.2.2.2.1,()))
 cond (aU t5 u16) (
 let u17:=(gt d92 u16 t5)
 let u18:=(jh u16 t5 (u17.1,u17.2.1,u17.2.2.1,u17.2.2.2.1,u17.2.2.2.2.1,u17.2.2.2.2.2.1,y2.2.1.1,u17.2.2.2.2.2.2.2.1,u17.2.2.2.2.2.2.2.2.1,u17.2.2.2.2.2.2.2.2.2.1,u17.2.2.2.2.2.2.2.2.2.2.1,()))
 cond (aU t5 u18) (
 let u19:=(gt d92 u18 t5)
 let u20:=(ak .i64 y2.2.1.1 1)
 let u21:=(jh u18 t5 (u19.1,u19.2.1,u19.2.2.1,u19.2.2.2.1,u19.2.2.2.2.1,u19.2.2.2.2.2.1,u19.2.2.2.2.2.2.1,u20,u19.2.2.2.2.2.2.2.2.1,u19.2.2.2.2.2.2.2.2.2.1,u19.2.2.2.2.2.2.2.2.2.2.1,()))
 cond (aU t5 u21) (
 let u22:=(gt d92 u21 t5)
 (Ql u22.2.2.2.2.2.2.2.2.1 (ak .i64 u20 1)).bind fun y3 =>
 let u23:=(jh u21 t5 (u22.1,u22.2.1,u22.2.2.1,u22.2.2.2.1,u22.2.2.2.2.1,u22.2.2.2.2.2.1,u22.2.2.2.2.2.2.1,u22.2.2.2.2.2.2.2.1,y3.1.1.1,u22.2.2.2.2.2.2.2.2.2.1,u22.2.2.2.2.2.2.2.2.2.2.1,()))
 cond (aU t5 u23) (
 let u24:=(gt d92 u23 t5)
 (Ql u24.2.2.2.2.2.2.2.2.2.1 y3.2.1.1).bind fun y4 =>
 let u25:=(jh u23 t5 (u24.1,u24.2.1,u24.2.2.1,u24.2.2.2.1,u24.2.2.2.2.1,u24.2.2.2.2.2.1,u24.2.2.2.2.2.2.1,u24.2.2.2.2.2.2.2.1,u24.2.2.2.2.2.2.2.2.1,y4.1.1.1,u24.2.2.2.2.2.2.2.2.2.2.1,()))
 cond (aU t5 u25) (
 let u26:=(gt d92 u25 t5)
 (M8 u26.2.2.2.2.2.2.2.2.2.2.1 y4.2.1.1).bind fun y5 =>
 some (.inl ((jh u25 t5 (u26.1,u26.2.1,u26.2.2.1,u26.2.2.2.1,u26.2.2.2.2.1,u26.2.2.2.2.2.1,u26.2.2.2.2.2.2.1,u26.2.2.2.2.2.2.2.1,u26.2.2.2.2.2.2.2.2.1,u26.2.2.2.2.2.2.2.2.2.1,y5.1.1.1,())),y5.2.1.1,(ak .i64 t5 1),()))
 ) none
 ) none
 ) none
 ) none
 ) none
 ) none
 ) none
 ) none
 ) none
 ) none
 ) none
 ) (
 some (.inr (.inl (t0,t1,t5,())))
 )
def Ob:=lM (ah (dC vD))
def V5 (p0:List di) (p1:Int):Option ((Y4×Unit)×Y6) :=
 (Ob p0 p1 0).bind (Sum.elim (fun y1 =>
 some (((y1.1,()),()),((y1.2.1,()),()))
 ) (fun y1 =>
 none
 ))
def s80:Su:=⟨[.io false [.sl 92 bz],.c false aJ],[(false,aJ)],true,.inl fun x=>V5 x.1.1 x.2.1.1⟩
theorem Wu:ar Tryz.prog 80 s80 :=
 fl (ac Jn (ac TF (ac Pk (ac T0 an)))) [] [(0,⟨[.own 0 (.sl 92 bz),.d 1 (.int .i64),.d 5 (.int .i64)],ah (dC vD)⟩)] [0] Tryz.f80 (lp [0] (sc cX sn))
def vh (t0:List eS) (t1 t5:Int):Rd ((List eS)×Int×Int×Unit) Unit :=
 cond (au t5 (ae t0)) (
 cond (aU t5 t0) (
 let u1:=(jh t0 t5 (t1,(gt d67 t0 t5).2.1,()))
 cond (aU t5 u1) (
 let u2:=(gt d67 u1 t5)
 (V5 u2.2.1 (ak .i64 t1 1)).bind fun y1 =>
 some (.inl ((jh u1 t5 (u2.1,y1.1.1.1,())),y1.2.1.1,(ak .i64 t5 1),()))
 ) none
 ) none
 ) (
 some (.inr (.inl (t0,t1,t5,())))
 )
def NV:=lM (ah (dC vh))
def VQ (p0:List eS) (p1:Int):Option ((((List eS)×Unit)×Unit)×Y6) :=
 (NV p0 p1 0).bind (Sum.elim (fun y1 =>
 some (((y1.1,()),()),((y1.2.1,()),()))
 ) (fun y1 =>
 none
 ))
def s55:Su:=⟨[.io false [.sl 67 cN],.c false aJ],[(false,aJ)],true,.inl fun x=>VQ x.1.1 x.2.1.1⟩
theorem YZ:ar Tryz.prog 55 s55 :=
 fl (ac Wu an) [] [(0,⟨[.own 0 (.sl 67 cN),.d 1 (.int .i64),.d 5 (.int .i64)],ah (dC vh)⟩)] [0] Tryz.f55 (lp [0] (sc cX sn))
def xh (t0:List iH) (t1 t5:Int):Rd ((List iH)×Int×Int×Unit) Unit :=
 cond (au t5 (ae t0)) (
 cond (aU t5 t0) (
 let u1:=(gt d64 t0 t5)
 (RE u1.1 t1).bind fun y1 =>
 let u2:=(jh t0 t5 (y1.1.1.1,u1.2.1,u1.2.2.1,u1.2.2.2.1,u1.2.2.2.2.1,u1.2.2.2.2.2.1,u1.2.2.2.2.2.2.1,u1.2.2.2.2.2.2.2.1,u1.2.2.2.2.2.2.2.2.1,()))
 cond (aU t5 u2) (
 let u3:=(gt d64 u2 t5)
 let u4:=(jh u2 t5 (u3.1,y1.2.1.1,u3.2.2.1,u3.2.2.2.1,u3.2.2.2.2.1,u3.2.2.2.2.2.1,u3.2.2.2.2.2.2.1,u3.2.2.2.2.2.2.2.1,u3.2.2.2.2.2.2.2.2.1,()))
 cond (aU t5 u4) (
 let u5:=(gt d64 u4 t5)
 (Ql u5.2.2.1 (ak .i64 y1.2.1.1 1)).bind fun y2 =>
 let u6:=(jh u4 t5 (u5.1,u5.2.1,y2.1.1.1,u5.2.2.2.1,u5.2.2.2.2.1,u5.2.2.2.2.2.1,u5.2.2.2.2.2.2.1,u5.2.2.2.2.2.2.2.1,u5.2.2.2.2.2.2.2.2.1,()))
 cond (aU t5 u6) (
 let u7:=(gt d64 u6 t5)
 let u8:=(jh u6 t5 (u7.1,u7.2.1,u7.2.2.1,y2.2.1.1,u7.2.2.2.2.1,u7.2.2.2.2.2.1,u7.2.2.2.2.2.2.1,u7.2.2.2.2.2.2.2.1,u7.2.2.2.2.2.2.2.2.1,()))
 cond (aU t5 u8) (
 let u9:=(gt d64 u8 t5)
 let u10:=(ak .i64 y2.2.1.1 1)
 let u11:=(jh u8 t5 (u9.1,u9.2.1,u9.2.2.1,u9.2.2.2.1,u10,u9.2.2.2.2.2.1,u9.2.2.2.2.2.2.1,u9.2.2.2.2.2.2.2.1,u9.2.2.2.2.2.2.2.2.1,()))
 cond (aU t5 u11) (
 let u12:=(gt d64 u11 t5)
 let u13:=(ak .i64 u10 1)
 let u14:=(jh u11 t5 (u12.1,u12.2.1,u12.2.2.1,u12.2.2.2.1,u12.2.2.2.2.1,u13,u12.2.2.2.2.2.2.1,u12.2.2.2.2.2.2.2.1,u12.2.2.2.2.2.2.2.2.1,()))
 cond (aU t5 u14) (
 let u15:=(gt d64 u14 t5)
 let u16:=(ak .i64 u13 1)
 let u17:=(jh u14 t5 (u15.1,u15.2.1,u15.2.2.1,u15.2.2.2.1,u15.2.2.2.2.1,u15.2.2.2.2.2.1,u16,u15.2.2.2.2.2.2.2.1,u15.2.2.2.2.2.2.2.2.1,()))
 cond (aU t5 u17) (
 let u18:=(gt d64 u17 t5)
 let u19:=(ak .i64 u16 1)
 let u20:=(jh u17 t5 (u18.1,u18.2.1,u18.2.2.1,u18.2.2.2.1,u18.2.2.2.2.1,u18.2.2.2.2.2.1,u18.2.2.2.2.2.2.1,u19,u18.2.2.2.2.2.2.2.2.1,()))
 cond (aU t5 u20) (
 let u21:=(gt d64 u20 t5)
 (RE u21.2.2.2.2.2.2.2.2.1 (ak .i64 u19 1)).bind fun y3 =>
 some (.inl ((jh u20 t5 (u21.1,u21.2.1,u21.2.2.1,u21.2.2.2.1,u21.2.2.2.2.1,u21.2.2.2.2.2.1,u21.2.2.2.2.2.2.1,u21.2.2.2.2.2.2.2.1,y3.1.1.1,())),y3.2.1.1,(ak .i64 t5 1),()))
 ) none
 ) none
 ) none
 ) none
 ) none
 ) none
 ) none
 ) none
 ) none
 ) (
 some (.inr (.inl (t0,t1,t5,())))
 )
def No:=lM (ah (dC xh))
def Wi (p0:List iH) (p1:Int):Option ((((List iH)×Unit)×Unit)×Y6) :=
 (No p0 p1 0).bind (Sum.elim (fun y1 =>
 some (((y1.1,()),()),((y1.2.1,()),()))
 ) (fun y1 =>
 none
 ))
def s56:Su:=⟨[.io false [.sl 64 dZ],.c false aJ],[(false,aJ)],true,.inl fun x=>Wi x.1.1 x.2.1.1⟩
theorem Zr:ar Tryz.prog 56 s56 :=
 fl (ac Pk (ac Vi an)) [] [(0,⟨[.own 0 (.sl 64 dZ),.d 1 (.int .i64),.d 5 (.int .i64)],ah (dC xh)⟩)] [0] Tryz.f56 (lp [0] (sc cX sn))
def VZ (p0:(List eS)×Int×Int×(List iH)×Unit) (p1:Int):Option ((J8×Unit)×Y6) :=
 (VQ p0.1 p1).bind fun y1 =>
 (Wi p0.2.2.2.1 y1.2.1.1).bind fun y2 =>
 some (((y1.1.1.1,p0.2.1,p0.2.2.1,y2.1.1.1,()),()),(y2.2.1,()))
def s25:Su:=⟨[.io true [.sl 67 cN,.int .i64,.int .i64,.sl 64 dZ],.c false aJ],[(false,aJ)],true,.inl fun x=>VZ x.1 x.2.1.1⟩
theorem Zo:ar Tryz.prog 25 s25 :=
 fl (ac YZ (ac Zr an)) [] [] [0] Tryz.f25 cX
def vg (t0:List R3) (t1 t5:Int):Rd ((List R3)×Int×Int×Unit) Y0 :=
 cond (au t5 (ae t0)) (
 cond (aU t5 t0) (
 cond (!(aq (gt d3 t0 t5).1 t1)) (
 some (.inr (.inr ((-1),())))
 ) (
 some (.inl (t0,(ak .i64 t1 1),(ak .i64 t5 1),()))
 )
 ) none
 ) (
 some (.inr (.inl (t0,t1,t5,())))
 )
def ON:=lM (ah (dC vg))
def VP (p0:List R3) (p1:Int):Option kf :=
 (ON p0 p1 0).bind (Sum.elim (fun y1 =>
 some ((),((y1.2.1,()),()))
 ) (fun y1 =>
 some ((),(y1,()))
 ))
def s27:Su:=⟨[.c false fU,.c false aJ],[(false,aJ)],true,.inl fun x=>VP x.1.1 x.2.1.1⟩
theorem ZH:ar Tryz.prog 27 s27 :=
 fl an [.d 4 (.int .i64)] [(0,⟨[.d 0 (.sl 3 aJ),.d 1 (.int .i64),.d 5 (.int .i64)],ah (dC vg)⟩)] [] Tryz.f27 (lp [0] (sc cX sn))
def g7 (p0:(List pT)×Int×Int×(List nS)×Unit) (p1:Int):Option eo :=
 (g8 p0 1048576).bind fun y1 =>
 cond (au y1.2.1.1 0) (
 some ((),((true,()),()))
 ) (
 let u1:=(g10 p0)
 Option.bind u1 fun y2 =>
 (g22 y2.2.1 p1).bind fun y3 =>
 Option.bind u1 fun y4 =>
 (g23 y4.2.1 p1).bind fun y5 =>
 let u2:=(g24 y5.2.1.1 y3.2.1.1)
 Option.bind u2 fun y6 =>
 cond (!y6.2.1.1) (
 some ((),((false,()),()))
 ) (
 Option.bind u1 fun y7 =>
 (g12 y4.2.1 y7.2.1).bind fun y8 =>
 cond (!y8.2.1.1) (
 some ((),((false,()),()))
 ) (
 (VZ y4.2.1 1).bind fun y9 =>
 cond (au y9.2.1.1 0) (
 some ((),((false,()),()))
 ) (
 Option.bind u2 fun y10 =>
 cond (!y10.2.1.1) (
 some ((),((false,()),()))
 ) (
 (Ql y5.2.1.1 1).bind fun y11 =>
 let u3:=(VP y11.1.1.1 1)
 Option.bind u3 fun y12 =>
 cond (au y12.2.1.1 0) (
 some ((),((false,()),()))
 ) (
 cond (!(aq y12.2.1.1 y11.2.1.1)) (
 some ((),((false,()),()))
 ) (
 Option.bind u1 fun y13 =>
 (g23 y13.2.1 p1).bind fun y14 =>
 (g24 y14.2.1.1 y3.2.1.1).bind fun y15 =>
 cond (!y15.2.1.1) (
 some ((),((false,()),()))
 ) (
 Option.bind u3 fun y16 =>
 cond (au y16.2.1.1 0) (
 some ((),((false,()),()))
 ) (
 cond (!(aq y16.2.1.1 y11.2.1.1)) (
 some ((),((false,()),()))
 ) (
 some ((),((true,()),()))
 )
 )
 )
 )
 )
 )
 )
 )
 )
 )
def s7:Su:=⟨[.c true [.sl 84 nH,.int .i64,.int .i64,.sl 86 gV],.c false aJ],[(false,[.bool])],true,.inl fun x=>g7 x.1 x.2.1.1⟩
theorem ok7:ar Tryz.prog 7 s7 :=
 fq (ac ok8 (ac W6 (ac YC (ac Yf (ac Qx (ac X5 (ac Pk (ac Zo (ac ZH an))))))))) Tryz.f7
end
end Go.Av
