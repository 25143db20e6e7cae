/- Part of a proof that the law FnExactWorkLeft answers true for every input: the printed functions of this program and their plain laws. No conditions beyond the statement. -/
import Derived.Test.YtpgkhfcgbjangaaGreatDoorP1a
set_option maxRecDepth 100000
namespace Go.Av
open Go.Proofs
set_option maxHeartbeats 4000000
noncomputable section
def N0 (p0:List UInt8):Option dZ :=
 some ((),(((cond (cond (bY p0 [48,49,48,48]) true (bY p0 [48,50,48,48])) true (bY p0 [48,50,50,48])),()),()))
def Vu:Su:=⟨[.c false [.str]],[(false,[.bool])],true,.inl fun x=>N0 x.1.1⟩
theorem Qv:ar Tryz.prog 173 Vu :=
 fq an Tryz.f173
def nV (t1:Int) (t9:List ir) (t10 t11:Int):Rd (Int×(List ir)×Int×Int×Unit) ((List UInt8)×Bool×Unit) :=
 cond (au t11 t10) (
 cond (a7 t11 t9) (
 let u1:=(gt d178 t9 t11)
 cond (aj u1.1 t1) (
 some (.inr (.inr (u1.2.1,true,())))
 ) (
 some (.inl (t1,t9,t10,(aq .i64 t11 1),()))
 )
 ) none
 ) (
 some (.inr (.inl (t1,t9,t10,t11,())))
 )
def Jp:=mZ (ai (cW nV))
def EC (p0:(List UInt8)×(List ir)×Unit) (p1:Int):Option (Unit×(Y6×Y1×Unit)) :=
 (Jp p1 p0.2.1 (ae p0.2.1) 0).bind (Sum.elim (fun y1 =>
 some ((),(([],()),(false,()),()))
 ) (fun y1 =>
 some ((),((y1.1,()),(y1.2.1,()),()))
 ))
def VO:Su:=⟨[.c true [.str,.sl 178 dv],.c false aK],[(false,[.str]),(false,[.bool])],true,.inl fun x=>EC x.1 x.2.1.1⟩
theorem Q9:ar Tryz.prog 174 VO :=
 fl an [.d 4 (.str),.d 5 (.bool)] [(0,⟨[.d 1 (.int .i64),.d 9 (.sl 178 dv),.d 10 (.int .i64),.d 11 (.int .i64)],ai (cW nV)⟩)] [] Tryz.f174 (lp [0] (sc di sn))
def K5  : Option (Unit×(((List E1)×Unit)×Unit)) :=
 some ((),(([([48,49,48,48],[48,48],[97,117,116,104],[(4,()),(14,()),(38,())],()),([48,49,48,48],[48,50],[109,111,114,101],[(4,()),(38,())],()),([48,50,50,48],[48,49],[112,97,114,116],[(4,()),(38,())],()),([48,50,50,48],[48,48],[102,105,110,97,108],[(4,()),(38,())],()),([48,50,50,48],[50,48],[102,114,101,101],[(38,())],()),([48,50,48,48],[52,48],[109,111,118,101],[(38,()),(103,())],()),([48,49,48,48],[51,49],[97,115,107],[],()),([48,50,48,48],[57,48],[115,119,101,101,112],[],())],()),()))
def VE:Su:=⟨[],[(false,[.sl 198 xx])],false,.inl fun x=>K5 ⟩
theorem Ml:ar Tryz.prog 176 VE :=
 fl an [] [] [999999] Tryz.f176 di
def Pz (p0:(List UInt8)×(List UInt8)×(List UInt8)×(List R3)×Unit) (p1:(List UInt8)×(List ir)×Unit) (p2:(List UInt8)×Unit):Option dZ :=
 cond (bY p0.1 p1.1) (
 cond (dJ 0 2 p2.1) (
 some ((),(((bY p0.2.1 (sub p2.1 0 2)),()),()))
 ) none
 ) (
 some ((),((false,()),()))
 )
def Xg:Su:=⟨[.c true xx,.pt [.str,.sl 178 dv],.pt [.str]],[(false,[.bool])],true,.inl fun x=>Pz x.1 x.2.1 x.2.2.1⟩
theorem TU:ar Tryz.prog 177 Xg :=
 fq an Tryz.f177
def nA (t0:List E1) (f1:DJ×Y6×Unit) (t7 t8:Int):Rd ((List E1)×(DJ×Y6×Unit)×Int×Int×Unit) Y0 :=
 cond (au t8 t7) (
 cond (a7 t8 t0) (
 (Pz (gt d198 t0 t8) f1.1 f1.2.1).bind fun y1 =>
 cond y1.2.1.1 (
 some (.inr (.inr (t8,())))
 ) (
 some (.inl (t0,f1,t7,(aq .i64 t8 1),()))
 )
 ) none
 ) (
 some (.inr (.inl (t0,f1,t7,t8,())))
 )
def NX:=mZ (ai (cW nA))
def JP (p0:List E1) (c1_0:(List UInt8)×(List ir)×Unit) (c1_1:(List UInt8)×Unit):Option j5 :=
 (NX p0 (c1_0,c1_1,()) (ae p0) 0).bind (Sum.elim (fun y1 =>
 some ((),(((-1),()),()))
 ) (fun y1 =>
 some ((),(y1,()))
 ))
def VU:Su:=⟨[.c false [.sl 198 xx],.fn 177 [.p [.str,.sl 178 dv],.p [.str]]],[(false,aK)],true,.inl fun x=>JP x.1.1 x.2.1.1 x.2.1.2.1⟩
theorem Ra:ar Tryz.prog 175 VU :=
 fl (ac TU an) [.d 4 (.int .i64)] [(0,⟨[.d 0 (.sl 198 xx),.fn 1 177 [.p [.str,.sl 178 dv],.p [.str]],.d 7 (.int .i64),.d 8 (.int .i64)],ai (cW nA)⟩)] [] Tryz.f175 (lp [0] (sc di sn))
def yA (p0:Int):Option (Unit×(E1×Unit)) :=
 (na p0 1 8).bind fun y1 =>
 cond (!y1.2.1.1) (
 some ((),(([],[],[],[],()),()))
 ) (
 (K5).bind fun y2 =>
 let u1:=(aH .i64 p0 1)
 cond (a7 u1 y2.2.1.1) (
 some ((),((gt d198 y2.2.1.1 u1),()))
 ) none
 )
def U8:Su:=⟨[.c false aK],[(true,xx)],false,.inl fun x=>yA x.1.1⟩
theorem Hg:ar Tryz.prog 178 U8 :=
 fl (ac ni (ac Ml an)) [] [] [999999] Tryz.f178 di
def wB (t0:List R3) (t1 t7 t8:Int):Rd ((List R3)×Int×Int×Int×Unit) Y0 :=
 cond (au t8 t7) (
 cond (a7 t8 t0) (
 cond (aj t1 (gt d3 t0 t8).1) (
 some (.inr (.inr (t8,())))
 ) (
 some (.inl (t0,t1,t7,(aq .i64 t8 1),()))
 )
 ) none
 ) (
 some (.inr (.inl (t0,t1,t7,t8,())))
 )
def M7:=mZ (ai (cW wB))
def VV (p0:List R3) (p1:Int):Option j5 :=
 (M7 p0 p1 (ae p0) 0).bind (Sum.elim (fun y1 =>
 some ((),(((-1),()),()))
 ) (fun y1 =>
 some ((),(y1,()))
 ))
def Zo:Su:=⟨[.c false gD,.c false aK],[(false,aK)],true,.inl fun x=>VV x.1.1 x.2.1.1⟩
theorem XK:ar Tryz.prog 72 Zo :=
 fl an [.d 4 (.int .i64)] [(0,⟨[.d 0 (.sl 3 aK),.d 1 (.int .i64),.d 7 (.int .i64),.d 8 (.int .i64)],ai (cW wB)⟩)] [] Tryz.f72 (lp [0] (sc di sn))
def PQ (p0:List R3) (p1:Int):Option dZ :=
 (VV p0 p1).bind fun y1 =>
 some ((),(((bz 0 y1.2.1.1),()),()))
def Zr:Su:=⟨[.c false gD,.c false aK],[(false,[.bool])],true,.inl fun x=>PQ x.1.1 x.2.1.1⟩
theorem Ox:ar Tryz.prog 40 Zr :=
 fq (ac XK an) Tryz.f40
def j3 (p0 p1:Int):Option dZ :=
 (yA p0).bind fun y1 =>
 (PQ y1.2.1.2.2.2.1 p1).bind fun y2 =>
 some ((),(y2.2.1,()))
def XW:Su:=⟨[.c false aK,.c false aK],[(false,[.bool])],true,.inl fun x=>j3 x.1.1 x.2.1.1⟩
theorem Qn:ar Tryz.prog 231 XW :=
 fq (ac Hg (ac Ox an)) Tryz.f231
def IH (p0:Int×(List UInt8)×(List UInt8)×(List UInt8)×(List UInt8)×(List UInt8)×Int×Int×Unit):Option dZ :=
 (yA p0.1).bind fun y1 =>
 cond (cond (bY y1.2.1.2.2.1 []) true (!(bY p0.2.2.2.2.2.1 y1.2.1.1))) (
 some ((),((false,()),()))
 ) (
 (qX p0.2.1).bind fun y2 =>
 cond (!y2.2.1.1) (
 some ((),((false,()),()))
 ) (
 (vc p0.2.2.2.2.1 6).bind fun y3 =>
 cond (!y3.2.1.1) (
 some ((),((false,()),()))
 ) (
 (j3 p0.1 38).bind fun y4 =>
 cond y4.2.1.1 (
 (Jo p0.2.2.2.1).bind fun y5 =>
 let u1:=(j3 p0.1 4)
 Option.bind u1 fun y6 =>
 cond y6.2.1.1 (
 let u2:=(na p0.2.2.2.2.2.2.1 0 999999999999)
 Option.bind u2 fun y7 =>
 let u3:=(j3 p0.1 14)
 Option.bind u3 fun y8 =>
 cond y8.2.1.1 (
 let u4:=(na p0.2.2.2.2.2.2.2.1 0 9999)
 Option.bind u4 fun y9 =>
 let u5:=(j3 p0.1 103)
 Option.bind u5 fun y10 =>
 cond y10.2.1.1 (
 let u6:=(qX p0.2.2.1)
 Option.bind u6 fun y11 =>
 let u7:=(cond y5.2.1.1 y7.2.1.1 false)
 let u8:=(cond u7 y9.2.1.1 false)
 some ((),(((cond u8 y11.2.1.1 false),()),()))
 ) (
 let u6:=(cond y5.2.1.1 y7.2.1.1 false)
 let u7:=(cond u6 y9.2.1.1 false)
 let u8:=(bY p0.2.2.1 [])
 some ((),(((cond u7 u8 false),()),()))
 )
 ) (
 let u4:=(j3 p0.1 103)
 Option.bind u4 fun y9 =>
 cond y9.2.1.1 (
 let u5:=(qX p0.2.2.1)
 Option.bind u5 fun y10 =>
 let u6:=(cond y5.2.1.1 y7.2.1.1 false)
 let u7:=(cond u6 (aj p0.2.2.2.2.2.2.2.1 0) false)
 some ((),(((cond u7 y10.2.1.1 false),()),()))
 ) (
 let u5:=(cond y5.2.1.1 y7.2.1.1 false)
 let u6:=(cond u5 (aj p0.2.2.2.2.2.2.2.1 0) false)
 let u7:=(bY p0.2.2.1 [])
 some ((),(((cond u6 u7 false),()),()))
 )
 )
 ) (
 let u2:=(j3 p0.1 14)
 Option.bind u2 fun y7 =>
 cond y7.2.1.1 (
 let u3:=(na p0.2.2.2.2.2.2.2.1 0 9999)
 Option.bind u3 fun y8 =>
 let u4:=(j3 p0.1 103)
 Option.bind u4 fun y9 =>
 cond y9.2.1.1 (
 let u5:=(qX p0.2.2.1)
 Option.bind u5 fun y10 =>
 let u6:=(cond y5.2.1.1 (aj p0.2.2.2.2.2.2.1 0) false)
 let u7:=(cond u6 y8.2.1.1 false)
 some ((),(((cond u7 y10.2.1.1 false),()),()))
 ) (
 let u5:=(cond y5.2.1.1 (aj p0.2.2.2.2.2.2.1 0) false)
 let u6:=(cond u5 y8.2.1.1 false)
 let u7:=(bY p0.2.2.1 [])
 some ((),(((cond u6 u7 false),()),()))
 )
 ) (
 let u3:=(j3 p0.1 103)
 Option.bind u3 fun y8 =>
 cond y8.2.1.1 (
 let u4:=(qX p0.2.2.1)
 Option.bind u4 fun y9 =>
 let u5:=(cond y5.2.1.1 (aj p0.2.2.2.2.2.2.1 0) false)
 let u6:=(cond u5 (aj p0.2.2.2.2.2.2.2.1 0) false)
 some ((),(((cond u6 y9.2.1.1 false),()),()))
 ) (
 let u4:=(cond y5.2.1.1 (aj p0.2.2.2.2.2.2.1 0) false)
 let u5:=(cond u4 (aj p0.2.2.2.2.2.2.2.1 0) false)
 let u6:=(bY p0.2.2.1 [])
 some ((),(((cond u5 u6 false),()),()))
 )
 )
 )
 ) (
 let u1:=(j3 p0.1 4)
 Option.bind u1 fun y5 =>
 cond y5.2.1.1 (
 let u2:=(na p0.2.2.2.2.2.2.1 0 999999999999)
 Option.bind u2 fun y6 =>
 let u3:=(j3 p0.1 14)
 Option.bind u3 fun y7 =>
 cond y7.2.1.1 (
 let u4:=(na p0.2.2.2.2.2.2.2.1 0 9999)
 Option.bind u4 fun y8 =>
 let u5:=(j3 p0.1 103)
 Option.bind u5 fun y9 =>
 cond y9.2.1.1 (
 let u6:=(qX p0.2.2.1)
 Option.bind u6 fun y10 =>
 let u7:=(bY p0.2.2.2.1 [])
 let u8:=(cond u7 y6.2.1.1 false)
 let u9:=(cond u8 y8.2.1.1 false)
 some ((),(((cond u9 y10.2.1.1 false),()),()))
 ) (
 let u6:=(bY p0.2.2.2.1 [])
 let u7:=(cond u6 y6.2.1.1 false)
 let u8:=(cond u7 y8.2.1.1 false)
 let u9:=(bY p0.2.2.1 [])
 some ((),(((cond u8 u9 false),()),()))
 )
 ) (
 let u4:=(j3 p0.1 103)
 Option.bind u4 fun y8 =>
 cond y8.2.1.1 (
 let u5:=(qX p0.2.2.1)
 Option.bind u5 fun y9 =>
 let u6:=(bY p0.2.2.2.1 [])
 let u7:=(cond u6 y6.2.1.1 false)
 let u8:=(cond u7 (aj p0.2.2.2.2.2.2.2.1 0) false)
 some ((),(((cond u8 y9.2.1.1 false),()),()))
 ) (
 let u5:=(bY p0.2.2.2.1 [])
 let u6:=(cond u5 y6.2.1.1 false)
 let u7:=(cond u6 (aj p0.2.2.2.2.2.2.2.1 0) false)
 let u8:=(bY p0.2.2.1 [])
 some ((),(((cond u7 u8 false),()),()))
 )
 )
 ) (
 let u2:=(j3 p0.1 14)
 Option.bind u2 fun y6 =>
 cond y6.2.1.1 (
 let u3:=(na p0.2.2.2.2.2.2.2.1 0 9999)
 Option.bind u3 fun y7 =>
 let u4:=(j3 p0.1 103)
 Option.bind u4 fun y8 =>
 cond y8.2.1.1 (
 let u5:=(qX p0.2.2.1)
 Option.bind u5 fun y9 =>
 let u6:=(bY p0.2.2.2.1 [])
 let u7:=(cond u6 (aj p0.2.2.2.2.2.2.1 0) false)
 let u8:=(cond u7 y7.2.1.1 false)
 some ((),(((cond u8 y9.2.1.1 false),()),()))
 ) (
 let u5:=(bY p0.2.2.2.1 [])
 let u6:=(cond u5 (aj p0.2.2.2.2.2.2.1 0) false)
 let u7:=(cond u6 y7.2.1.1 false)
 let u8:=(bY p0.2.2.1 [])
 some ((),(((cond u7 u8 false),()),()))
 )
 ) (
 let u3:=(j3 p0.1 103)
 Option.bind u3 fun y7 =>
 cond y7.2.1.1 (
 let u4:=(qX p0.2.2.1)
 Option.bind u4 fun y8 =>
 let u5:=(bY p0.2.2.2.1 [])
 let u6:=(cond u5 (aj p0.2.2.2.2.2.2.1 0) false)
 let u7:=(cond u6 (aj p0.2.2.2.2.2.2.2.1 0) false)
 some ((),(((cond u7 y8.2.1.1 false),()),()))
 ) (
 let u4:=(bY p0.2.2.2.1 [])
 let u5:=(cond u4 (aj p0.2.2.2.2.2.2.1 0) false)
 let u6:=(cond u5 (aj p0.2.2.2.2.2.2.2.1 0) false)
 let u7:=(bY p0.2.2.1 [])
 some ((),(((cond u6 u7 false),()),()))
 )
 )
 )
 )
 )
 )
 )
def XQ:Su:=⟨[.c true [.int .i64,.str,.str,.str,.str,.str,.int .i64,.int .i64]],[(false,[.bool])],true,.inl fun x=>IH x.1⟩
theorem QP:ar Tryz.prog 181 XQ :=
 fq (ac ni (ac Mq (ac ND (ac It (ac Hg (ac Qn an)))))) Tryz.f181
def yS (t0:List UInt8) (t1:Int):Rd SK Unit :=
 let u1:=(ae t0)
 cond (au 0 u1) (
 let u2:=(aH .i64 u1 1)
 cond (a7 u2 t0) (
 cond (aj (dm t0 u2) t1) (
 cond (dJ 0 u2 t0) (
 some (.inl ((sub t0 0 u2),t1,()))
 ) none
 ) (
 some (.inr (.inl (t0,t1,())))
 )
 ) none
 ) (
 some (.inr (.inl (t0,t1,())))
 )
def I4:=OW (ai (wP yS))
def I6 (p0:List UInt8) (p1:Int):Option Oy :=
 (I4 p0 p1).bind (Sum.elim (fun y1 =>
 some ((),((y1.1,()),()))
 ) (fun y1 =>
 none
 ))
def XR:Su:=⟨[.c false [.str],.c false fz],[(false,[.str])],true,.inl fun x=>I6 x.1.1 x.2.1.1⟩
theorem RW:ar Tryz.prog 254 XR :=
 fl an [] [(0,⟨[.d 0 (.str),.d 1 (.int .u8)],ai (wP yS)⟩)] [] Tryz.f254 (lp [0] (sc di sn))
def Pc (p0 p1:List UInt8):Option Oy :=
 cond (cond (bY p0 []) true (bY p1 [])) (
 some ((),((p0,()),()))
 ) (
 cond (aj (ae p1) 1) (
 cond (a7 0 p1) (
 let u1:=(dm p1 0)
 cond (au u1 128) (
 cond (a7 0 p1) (
 (I6 p0 u1).bind fun y1 =>
 some ((),(y1.2.1,()))
 ) none
 ) (
 none
 )
 ) none
 ) (
 none
 )
 )
def Xf:Su:=⟨[.c false [.str],.c false [.str]],[(false,[.str])],true,.inl fun x=>Pc x.1.1 x.2.1.1⟩
theorem QW:ar Tryz.prog 230 Xf :=
 fq (ac RW an) Tryz.f230
def KK (p0:List UInt8):Option Oy :=
 (Pc p0 [32]).bind fun y1 =>
 some ((),(y1.2.1,()))
def Wm:Su:=⟨[.c false [.str]],[(false,[.str])],true,.inl fun x=>KK x.1.1⟩
theorem QS:ar Tryz.prog 180 Wm :=
 fq (ac QW an) Tryz.f180
def ow (t41:List R3) (t42 t43:Int) (b1:(List UInt8)×(List ir)×Unit) (b2 b6:Int×(List UInt8)×(List UInt8)×(List UInt8)×(List UInt8)×(List UInt8)×Int×Int×Unit):Rd ((List R3)×Int×Int×DJ×S1×S1×Unit) (Int×S1×Unit) :=
 cond (au t43 t42) (
 cond (a7 t43 t41) (
 (EC b1 (gt d3 t41 t43).1).bind fun y1 =>
 cond (!y1.2.2.1.1) (
 some (.inr (.inr (1,(0,[],[],[],[],[],0,0,()),())))
 ) (
 cond (aj (gt d3 t41 t43).1 2) (
 let u1:=(aq .i64 t43 1)
 some (.inl (t41,t42,u1,b1,b2,(b6.1,y1.2.1.1,b6.2.2.1,b6.2.2.2.1,b6.2.2.2.2.1,b6.2.2.2.2.2.1,b6.2.2.2.2.2.2.1,b6.2.2.2.2.2.2.2.1,()),()))
 ) (
 cond (aj (gt d3 t41 t43).1 4) (
 let u1:=(Ct y1.2.1.1)
 Option.bind u1 fun y2 =>
 let u2:=(aq .i64 t43 1)
 some (.inl (t41,t42,u2,b1,b2,(b6.1,b6.2.1,b6.2.2.1,b6.2.2.2.1,b6.2.2.2.2.1,b6.2.2.2.2.2.1,y2.2.1.1,b6.2.2.2.2.2.2.2.1,()),()))
 ) (
 cond (aj (gt d3 t41 t43).1 11) (
 let u1:=(aq .i64 t43 1)
 some (.inl (t41,t42,u1,b1,b2,(b6.1,b6.2.1,b6.2.2.1,b6.2.2.2.1,y1.2.1.1,b6.2.2.2.2.2.1,b6.2.2.2.2.2.2.1,b6.2.2.2.2.2.2.2.1,()),()))
 ) (
 cond (aj (gt d3 t41 t43).1 14) (
 let u1:=(Ct y1.2.1.1)
 Option.bind u1 fun y2 =>
 let u2:=(aq .i64 t43 1)
 some (.inl (t41,t42,u2,b1,b2,(b6.1,b6.2.1,b6.2.2.1,b6.2.2.2.1,b6.2.2.2.2.1,b6.2.2.2.2.2.1,b6.2.2.2.2.2.2.1,y2.2.1.1,()),()))
 ) (
 cond (aj (gt d3 t41 t43).1 38) (
 (KK y1.2.1.1).bind fun y2 =>
 let u1:=(aq .i64 t43 1)
 some (.inl (t41,t42,u1,b1,b2,(b6.1,b6.2.1,b6.2.2.1,y2.2.1.1,b6.2.2.2.2.1,b6.2.2.2.2.2.1,b6.2.2.2.2.2.2.1,b6.2.2.2.2.2.2.2.1,()),()))
 ) (
 cond (aj (gt d3 t41 t43).1 103) (
 let u1:=(aq .i64 t43 1)
 some (.inl (t41,t42,u1,b1,b2,(b6.1,b6.2.1,y1.2.1.1,b6.2.2.2.1,b6.2.2.2.2.1,b6.2.2.2.2.2.1,b6.2.2.2.2.2.2.1,b6.2.2.2.2.2.2.2.1,()),()))
 ) (
 let u1:=(aq .i64 t43 1)
 some (.inl (t41,t42,u1,b1,b2,b6,()))
 )
 )
 )
 )
 )
 )
 )
 ) none
 ) (
 some (.inr (.inl (t41,t42,t43,b1,b2,b6,())))
 )
def GS:=RH (ai (DY ow))
def KN (p0:(List UInt8)×(List ir)×Unit):Option (Unit×(S1×Y0×Unit)) :=
 (Lp p0).bind fun y1 =>
 cond (!y1.2.1.1) (
 some ((),((0,[],[],[],[],[],0,0,()),(1,()),()))
 ) (
 (N0 p0.1).bind fun y2 =>
 cond (!y2.2.1.1) (
 some ((),((0,[],[],[],[],[],0,0,()),(2,()),()))
 ) (
 (EC p0 3).bind fun y3 =>
 cond (!y3.2.2.1.1) (
 some ((),((0,[],[],[],[],[],0,0,()),(1,()),()))
 ) (
 (K5).bind fun y4 =>
 (JP y4.2.1.1 p0 y3.2.1).bind fun y5 =>
 let u1:=(aq .i64 1 y5.2.1.1)
 (yA u1).bind fun y6 =>
 cond (cQ 8 [(2,()),(11,())] y6.2.1.2.2.2.1) (
 let u2:=(lP [(2,()),(11,())] y6.2.1.2.2.2.1)
 (GS u2 (ae u2) 0 p0 (0,[],[],[],[],[],0,0,()) (u1,[],[],[],[],p0.1,0,0,())).bind (Sum.elim (fun y7 =>
 (IH y7.2.2.2.2.2.1).bind fun y8 =>
 cond (!y8.2.1.1) (
 some ((),((0,[],[],[],[],[],0,0,()),(1,()),()))
 ) (
 some ((),(y7.2.2.2.2.2.1,(0,()),()))
 )
 ) (fun y7 =>
 some ((),(y7.2.1,(y7.1,()),()))
 ))
 ) none
 )
 )
 )
def Xz:Su:=⟨[.c true [.str,.sl 178 dv]],[(true,[.int .i64,.str,.str,.str,.str,.str,.int .i64,.int .i64]),(false,aK)],true,.inl fun x=>KN x.1⟩
theorem TT:ar Tryz.prog 127 Xz :=
 fl (ac Mo (ac Q7 (ac Qv (ac Q9 (ac Ml (ac Ra (ac Hg (ac QP (ac QS an))))))))) [.d 3 (.int .i64),.box 2 [(false,.int .i64),(false,.str),(false,.str),(false,.str),(false,.str),(false,.str),(false,.int .i64),(false,.int .i64)]] [(0,⟨[.own 41 (.sl 3 aK),.d 42 (.int .i64),.d 43 (.int .i64),.box 1 [(false,.str),(false,.sl 178 dv)],.box 2 [(false,.int .i64),(false,.str),(false,.str),(false,.str),(false,.str),(false,.str),(false,.int .i64),(false,.int .i64)],.box 6 [(false,.int .i64),(false,.str),(false,.str),(false,.str),(false,.str),(false,.str),(false,.int .i64),(false,.int .i64)]],ai (DY ow)⟩)] [] Tryz.f127 (lp [0] (sc di sn))
def Ss (p0:Int):Option j5 :=
 cond (bz 4294967296 p0) (
 let u1:=(ib .u64 p0 32)
 cond (bz 65536 u1) (
 let u2:=(ib .u64 u1 16)
 cond (bz 256 u2) (
 let u3:=(bP .u8 (ib .u64 u2 8))
 cond (a7 u3 nf) (
 let u4:=(aq .i64 32 16)
 some ((),(((aq .i64 (aq .i64 u4 8) (bP .i64 (dm nf u3))),()),()))
 ) none
 ) (
 let u3:=(bP .u8 u2)
 cond (a7 u3 nf) (
 let u4:=(aq .i64 32 16)
 some ((),(((aq .i64 u4 (bP .i64 (dm nf u3))),()),()))
 ) none
 )
 ) (
 cond (bz 256 u1) (
 let u2:=(bP .u8 (ib .u64 u1 8))
 cond (a7 u2 nf) (
 some ((),(((aq .i64 (aq .i64 32 8) (bP .i64 (dm nf u2))),()),()))
 ) none
 ) (
 let u2:=(bP .u8 u1)
 cond (a7 u2 nf) (
 some ((),(((aq .i64 32 (bP .i64 (dm nf u2))),()),()))
 ) none
 )
 )
 ) (
 cond (bz 65536 p0) (
 let u1:=(ib .u64 p0 16)
 cond (bz 256 u1) (
 let u2:=(bP .u8 (ib .u64 u1 8))
 cond (a7 u2 nf) (
 let u3:=(aq .i64 0 16)
 some ((),(((aq .i64 (aq .i64 u3 8) (bP .i64 (dm nf u2))),()),()))
 ) none
 ) (
 let u2:=(bP .u8 u1)
 cond (a7 u2 nf) (
 let u3:=(aq .i64 0 16)
 some ((),(((aq .i64 u3 (bP .i64 (dm nf u2))),()),()))
 ) none
 )
 ) (
 cond (bz 256 p0) (
 let u1:=(bP .u8 (ib .u64 p0 8))
 cond (a7 u1 nf) (
 some ((),(((aq .i64 (aq .i64 0 8) (bP .i64 (dm nf u1))),()),()))
 ) none
 ) (
 let u1:=(bP .u8 p0)
 cond (a7 u1 nf) (
 some ((),(((aq .i64 0 (bP .i64 (dm nf u1))),()),()))
 ) none
 )
 )
 )
def VJ:Su:=⟨[.c false [.int .u64]],[(false,aK)],true,.inl fun x=>Ss x.1.1⟩
theorem SQ:ar Tryz.prog 222 VJ :=
 fq an Tryz.f222
def Eb (p0:Int):Option j5 :=
 (Ss p0).bind fun y1 =>
 some ((),(y1.2.1,()))
def VN:Su:=⟨[.c false [.int .u64]],[(false,aK)],true,.inl fun x=>Eb x.1.1⟩
theorem Ns:ar Tryz.prog 167 VN :=
 fq (ac SQ an) Tryz.f167
def Lb (p0:List UInt8):Option dZ :=
 some ((),(((!(bY p0 p0)),()),()))
def WO:Su:=⟨[.c false [.str]],[(false,[.bool])],true,.inl fun x=>Lb x.1.1⟩
theorem Sn:ar Tryz.prog 261 WO :=
 fq an Tryz.f261
def KB (p0 p1:List UInt8):Option dZ :=
 (Lb p0).bind fun y1 =>
 cond y1.2.1.1 (
 (Lb p1).bind fun y2 =>
 let u1:=(jO p0 p1)
 some ((),(((cond (!y2.2.1.1) true u1),()),()))
 ) (
 let u1:=(jO p0 p1)
 some ((),((u1,()),()))
 )
def QK:Su:=⟨[.c false [.str],.c false [.str]],[(false,[.bool])],true,.inl fun x=>KB x.1.1 x.2.1.1⟩
theorem Nh:ar Tryz.prog 238 QK :=
 fq (ac Sn an) Tryz.f238
def u0 (t0:List R9) (t1 t2 t6 t7:Int):Rd ((List R9)×Int×Int×Int×Int×Unit) Unit :=
 cond (au t1 t7) (
 cond (a7 t7 t0) (
 let u1:=(aH .i64 t7 1)
 cond (a7 u1 t0) (
 let u2:=(gt d9 t0 t7)
 let u3:=(gt d9 t0 u1)
 (KB u2.1 u3.1).bind fun y1 =>
 cond y1.2.1.1 (
 cond (a7 u1 t0) (
 cond (a7 t7 t0) (
 cond (a7 t7 t0) (
 let u4:=(zD t0 t7 u3)
 cond (a7 u1 u4) (
 some (.inl ((zD u4 u1 u2),t1,t2,t6,u1,()))
 ) none
 ) none
 ) none
 ) none
 ) (
 some (.inr (.inl (t0,t1,t2,t6,t7,())))
 )
 ) none
 ) none
 ) (
 some (.inr (.inl (t0,t1,t2,t6,t7,())))
 )
def uR:=wY (ai (ft u0))
def uP (t0:List R9) (t1 t2 t6:Int):Rd ((List R9)×Int×Int×Int×Unit) Unit :=
 cond (au t6 t2) (
 (uR t0 t1 t2 t6 t6).bind (Sum.elim (fun y1 =>
 some (.inl (y1.1,y1.2.1,y1.2.2.1,(aq .i64 y1.2.2.2.1 1),()))
 ) (fun y1 =>
 some (.inr (.inr ()))
 ))
 ) (
 some (.inr (.inl (t0,t1,t2,t6,())))
 )
def oH:=mZ (ai (cW uP))
def NU (p0:List R9) (p1 p2:Int):Option Xm :=
 (oH p0 p1 p2 (aq .i64 p1 1)).bind (Sum.elim (fun y1 =>
 some (((y1.1,()),()),())
 ) (fun y1 =>
 none
 ))
def LQ:Su:=⟨[.io false [.sl 9 wN],.c false aK,.c false aK],[],true,.inl fun x=>NU x.1.1 x.2.1.1 x.2.2.1.1⟩
def pX:List SE:=[.own 0 (.sl 9 wN),.d 1 (.int .i64),.d 2 (.int .i64),.d 6 (.int .i64),.d 7 (.int .i64)]
def pS:List SE:=[.own 0 (.sl 9 wN),.d 1 (.int .i64),.d 2 (.int .i64),.d 6 (.int .i64)]
def Ic:List SE:=[]
def MI:Nat->Option (Lo Ic)
 | 2=>some ⟨pX,ft uR⟩
 | 0=>some ⟨pS,cW oH⟩
 | _=>none
def D9:List (Nat×Su):=[(238,QK)]
def DG:En:=⟨49,tt,iN D9,Ic,MI,[0],fun _=>none⟩
def S5:Nat->Option (St->Tr St)
 | 6=>some (lg DG (opsOf (bc 6 (ah Tryz.f232))) [7] [(15,2),(15,3),(15,4)])
 | _=>none
def AG:En:=⟨49,tt,iN D9,Ic,MI,[0],S5⟩
theorem PM (x:bF pX):(cX AG 2 pX (aZ 2 (ah Tryz.f232)) x).run=ft u0 x:=by kernel_rfl
theorem PV (x:bF pS):(cX AG 0 pS (aZ 0 (ah Tryz.f232)) x).run=cW uP x:=by kernel_rfl
theorem t232 (x:PT LQ.ps):(EK AG (ah Tryz.f232) Tryz.f232.results.toList LQ.ps LQ.rs true x).run=NU x.1.1 x.2.1.1 x.2.2.1.1:=by kernel_rfl
theorem Ck:da Tryz.prog AG:=cO (l:=D9) ⟨Nh,trivial⟩
theorem Fl:da Tryz.prog DG:=cO (l:=D9) ⟨Nh,trivial⟩
theorem PU:cG Tryz.prog AG (bc 6 (ah Tryz.f232)) (lg DG (opsOf (bc 6 (ah Tryz.f232))) [7] [(15,2),(15,3),(15,4)]) :=
 fZ rfl rfl (xI (E:=DG) (kR hT) Fl eG (c:=(bc 6 (ah Tryz.f232))) (id:=6) (by kernel_rfl))
theorem O4:bV Tryz.prog AG 2 (.loop (aZ 2 (ah Tryz.f232))) ⟨pX,ft uR⟩ :=
 en (kR hT) Ck eG (step:=fun (x:bF pX)=>u0 x.1 x.2.1 x.2.2.1 x.2.2.2.1 x.2.2.2.2.1) PM (aW [] (by kernel_rfl) trivial [(6,bc 6 (ah Tryz.f232))] (by kernel_rfl) ⟨wV rfl PU,trivial⟩)
theorem O8:bV Tryz.prog AG 0 (.loop (aZ 0 (ah Tryz.f232))) ⟨pS,cW oH⟩ :=
 en (kR hT) Ck eG (step:=fun (x:bF pS)=>uP x.1 x.2.1 x.2.2.1 x.2.2.2.1) PV (aW [(2,.loop (aZ 2 (ah Tryz.f232)))] (by kernel_rfl) ⟨lO rfl O4,trivial⟩ [] (by kernel_rfl) trivial)
theorem TC:ar Tryz.prog 232 LQ :=
 qw (E:=AG) (kR hT) Ck eG (fn:=Tryz.f232) (c:=(ah Tryz.f232)) (by kernel_rfl) (by kernel_rfl) (by kernel_rfl) rfl (aW [(0,.loop (aZ 0 (ah Tryz.f232)))] (by kernel_rfl) ⟨lO rfl O8,trivial⟩ [] (by kernel_rfl) trivial) fun x y h=>⟨y.1,fun _=>rfl,(t232 x).trans h⟩
def RD (p0:List R9) (p1 p2 p3:Int):Option Xm :=
 cond (bz (aH .i64 p2 p1) 12) (
 (NU p0 p1 p2).bind fun y1 =>
 some ((y1.1.1,()),())
 ) (
 cond (aj p3 0) (
 none
 ) (
 none
 )
 )
def W9:Su:=⟨[.io false [.sl 9 wN],.c false aK,.c false aK,.c false aK],[],true,.inl fun x=>RD x.1.1 x.2.1.1 x.2.2.1.1 x.2.2.2.1.1⟩
theorem T7:ar Tryz.prog 182 W9 :=
 fl (ac TC an) [] [] [0] Tryz.f182 di
def An (p0:List R9):Option Xm :=
 let u1:=(ae p0)
 (Eb (bP .u64 u1)).bind fun y1 =>
 (RD p0 0 u1 y1.2.1.1).bind fun y2 =>
 some ((y2.1.1,()),())
def XI:Su:=⟨[.io false [.sl 9 wN]],[],true,.inl fun x=>An x.1.1⟩
theorem TE:ar Tryz.prog 128 XI :=
 fl (ac Ns (ac T7 an)) [] [] [0] Tryz.f128 di
def zx (t0:List R9) (t3:Int):Rd ((List R9)×Int×Unit) ((List R9)×Unit) :=
 let u1:=(ae t0)
 cond (au t3 u1) (
 cond (a7 t3 t0) (
 let u2:=(aH .i64 t3 1)
 cond (a7 u2 t0) (
 cond (bY (gt d9 t0 t3).1 (gt d9 t0 u2).1) (
 let u3:=(dJ t3 u1 t0)
 cond u3 (
 let u4:=(sub t0 t3 u1)
 cond (au 1 (ae u4)) (
 cond (a7 1 u4) (
 let u5:=(aH .i64 1 1)
 cond (a7 u5 u4) (
 cond (!(bY (gt d9 u4 1).1 (gt d9 u4 u5).1)) (
 cond (a7 1 u4) (
 cond (a7 t3 t0) (
 none
 ) none
 ) none
 ) (
 none
 )
 ) none
 ) none
 ) (
 cond u3 (
 let u5:=(yR d9 t0 t3)
 cond (dJ 0 t3 u5) (
 some (.inr (.inr ((NB u5 t3),())))
 ) none
 ) none
 )
 ) none
 ) (
 some (.inl (t0,(aq .i64 t3 1),()))
 )
 ) none
 ) none
 ) (
 some (.inr (.inl (t0,t3,())))
 )
def wI:=OW (ai (wP zx))
def Eh (p0:List R9):Option Re :=
 cond (au (ae p0) 2) (
 some ((),((p0,()),()))
 ) (
 (wI p0 1).bind (Sum.elim (fun y1 =>
 some ((),((y1.1,()),()))
 ) (fun y1 =>
 some ((),(y1,()))
 ))
 )
def KT:Su:=⟨[.mv (.sl 9 wN)],[(false,[.sl 9 wN])],true,.inl fun x=>Eh x.1⟩
def px:List SE:=[.own 0 (.sl 9 wN),.d 3 (.int .i64)]
def Ni:List SE:=[.own 2 (.sl 9 wN)]
def RB:Nat->Option (Lo Ni)
 | 0=>some ⟨px,wP wI⟩
 | _=>none
def M5:List (Nat×Su):=[]
def T5:Nat->Option (St->Tr St)
 | 14=>some (q8 54 55 56 0 3 wN)
 | _=>none
def CG:En:=⟨61,tt,iN M5,Ni,RB,[],T5⟩
theorem O5 (x:bF px):(cX CG 0 px (aZ 0 (ah Tryz.f129)) x).run=wP zx x:=by kernel_rfl
theorem t129 (x:PT KT.ps):(EK CG (ah Tryz.f129) Tryz.f129.results.toList KT.ps KT.rs true x).run=Eh x.1:=by kernel_rfl
theorem HM:da Tryz.prog CG:=cO (l:=M5) trivial
theorem Kp:cG Tryz.prog CG (bc 14 (ah Tryz.f129)) (q8 54 55 56 0 3 wN) :=
 xl (E:=CG) (kR hT) (rid:=14) (ta:=54) (tb:=55) (tc:=56) (t0:=0) (tI:=3) (ty:=111) (o1:=fA (bc 14 (ah Tryz.f129)) 0) (o2:=fA (bc 14 (ah Tryz.f129)) 1) (o3:=fA (bc 14 (ah Tryz.f129)) 2) (o4:=fA (bc 14 (ah Tryz.f129)) 3) (c:=zj (fA (bc 14 (ah Tryz.f129)) 3)) (te:=⟨false,wN,0,16,[]⟩)
  (by kernel_rfl) (by kernel_rfl) (by kernel_rfl) (by kernel_rfl) (by kernel_rfl) (by kernel_rfl) (by kernel_rfl) (by kernel_rfl) (by kernel_rfl) (by kernel_rfl) (by kernel_rfl) (by kernel_rfl) (by kernel_rfl) (by kernel_rfl) (by kernel_rfl) (by kernel_rfl) (by kernel_rfl) (by kernel_rfl) (by kernel_rfl) (by kernel_rfl) (by kernel_rfl)
theorem Pf:bV Tryz.prog CG 0 (.loop (aZ 0 (ah Tryz.f129))) ⟨px,wP wI⟩ :=
 en (kR hT) HM eG (step:=fun (x:bF px)=>zx x.1 x.2.1) O5 (aW [] (by kernel_rfl) trivial [(14,bc 14 (ah Tryz.f129))] (by kernel_rfl) ⟨wV rfl Kp,trivial⟩)
theorem SO:ar Tryz.prog 129 KT :=
 qw (E:=CG) (kR hT) HM eG (fn:=Tryz.f129) (c:=(ah Tryz.f129)) (by kernel_rfl) (by kernel_rfl) (by kernel_rfl) rfl (aW [(0,.loop (aZ 0 (ah Tryz.f129)))] (by kernel_rfl) ⟨lO rfl Pf,trivial⟩ [] (by kernel_rfl) trivial) fun x y h=>⟨y.1,fun _=>rfl,(t129 x).trans h⟩
def Ui (p0:List R5):Option Re :=
 (Ko p0).bind fun y1 =>
 (KN y1.2.1).bind fun y2 =>
 cond (cond (!(aj y1.2.2.1.1 0)) true (!(aj y2.2.2.1.1 0))) (
 some ((),(([],()),()))
 ) (
 cond (aj y2.2.1.1 6) (
 cond (cQ 16 [(y2.2.1.2.1,())] [(y2.2.1.2.2.1,())]) (
 (An (lP [(y2.2.1.2.1,())] [(y2.2.1.2.2.1,())])).bind fun y3 =>
 let u1:=(Eh y3.1.1.1)
 Option.bind u1 fun y4 =>
 some ((),(y4.2.1,()))
 ) none
 ) (
 (An [(y2.2.1.2.1,())]).bind fun y3 =>
 let u1:=(Eh y3.1.1.1)
 Option.bind u1 fun y4 =>
 some ((),(y4.2.1,()))
 )
 )
def Yx:Su:=⟨[.c false [.sl 5 fz]],[(false,[.sl 9 wN])],true,.inl fun x=>Ui x.1.1⟩
theorem Vp:ar Tryz.prog 95 Yx :=
 fq (ac SL (ac TT (ac TE (ac SO an)))) Tryz.f95
def LO (p0:Int):Option dZ :=
 some ((),(((!(aj p0 p0)),()),()))
def V6:Su:=⟨[.c false aK],[(false,[.bool])],true,.inl fun x=>LO x.1.1⟩
theorem Rn:ar Tryz.prog 249 V6 :=
 fq an Tryz.f249
def Ke (p0 p1:Int):Option dZ :=
 (LO p0).bind fun y1 =>
 cond y1.2.1.1 (
 (LO p1).bind fun y2 =>
 some ((),(((cond (!y2.2.1.1) true (au p0 p1)),()),()))
 ) (
 some ((),(((au p0 p1),()),()))
 )
def S2:Su:=⟨[.c false aK,.c false aK],[(false,[.bool])],true,.inl fun x=>Ke x.1.1 x.2.1.1⟩
theorem NH:ar Tryz.prog 218 S2 :=
 fq (ac Rn an) Tryz.f218
def tM (t0:List R3) (t1 t2 t6 t7:Int):Rd ((List R3)×Int×Int×Int×Int×Unit) Unit :=
 cond (au t1 t7) (
 cond (a7 t7 t0) (
 let u1:=(aH .i64 t7 1)
 cond (a7 u1 t0) (
 let u2:=(gt d3 t0 t7)
 let u3:=(gt d3 t0 u1)
 (Ke u2.1 u3.1).bind fun y1 =>
 cond y1.2.1.1 (
 cond (a7 u1 t0) (
 cond (a7 t7 t0) (
 cond (a7 t7 t0) (
 let u4:=(zD t0 t7 u3)
 cond (a7 u1 u4) (
 some (.inl ((zD u4 u1 u2),t1,t2,t6,u1,()))
 ) none
 ) none
 ) none
 ) none
 ) (
 some (.inr (.inl (t0,t1,t2,t6,t7,())))
 )
 ) none
 ) none
 ) (
 some (.inr (.inl (t0,t1,t2,t6,t7,())))
 )
def vE:=wY (ai (ft tM))
def wi (t0:List R3) (t1 t2 t6:Int):Rd ((List R3)×Int×Int×Int×Unit) Unit :=
 cond (au t6 t2) (
 (vE t0 t1 t2 t6 t6).bind (Sum.elim (fun y1 =>
 some (.inl (y1.1,y1.2.1,y1.2.2.1,(aq .i64 y1.2.2.2.1 1),()))
 ) (fun y1 =>
 some (.inr (.inr ()))
 ))
 ) (
 some (.inr (.inl (t0,t1,t2,t6,())))
 )
def kW:=mZ (ai (cW wi))
def P4 (p0:List R3) (p1 p2:Int):Option XA :=
 (kW p0 p1 p2 (aq .i64 p1 1)).bind (Sum.elim (fun y1 =>
 some (((y1.1,()),()),())
 ) (fun y1 =>
 none
 ))
def KM:Su:=⟨[.io false [.sl 3 aK],.c false aK,.c false aK],[],true,.inl fun x=>P4 x.1.1 x.2.1.1 x.2.2.1.1⟩
def ql:List SE:=[.own 0 (.sl 3 aK),.d 1 (.int .i64),.d 2 (.int .i64),.d 6 (.int .i64),.d 7 (.int .i64)]
def qz:List SE:=[.own 0 (.sl 3 aK),.d 1 (.int .i64),.d 2 (.int .i64),.d 6 (.int .i64)]
def Jn:List SE:=[]
def No:Nat->Option (Lo Jn)
 | 2=>some ⟨ql,ft vE⟩
 | 0=>some ⟨qz,cW kW⟩
 | _=>none
def C8:List (Nat×Su):=[(218,S2)]
def Df:En:=⟨49,tt,iN C8,Jn,No,[0],fun _=>none⟩
def SJ:Nat->Option (St->Tr St)
 | 6=>some (lg Df (opsOf (bc 6 (ah Tryz.f212))) [7] [(15,2),(15,3),(15,4)])
 | _=>none
def AT:En:=⟨49,tt,iN C8,Jn,No,[0],SJ⟩
theorem Pj (x:bF ql):(cX AT 2 ql (aZ 2 (ah Tryz.f212)) x).run=ft tM x:=by kernel_rfl
theorem NR (x:bF qz):(cX AT 0 qz (aZ 0 (ah Tryz.f212)) x).run=cW wi x:=by kernel_rfl
theorem t212 (x:PT KM.ps):(EK AT (ah Tryz.f212) Tryz.f212.results.toList KM.ps KM.rs true x).run=P4 x.1.1 x.2.1.1 x.2.2.1.1:=by kernel_rfl
theorem Co:da Tryz.prog AT:=cO (l:=C8) ⟨NH,trivial⟩
theorem FP:da Tryz.prog Df:=cO (l:=C8) ⟨NH,trivial⟩
theorem OQ:cG Tryz.prog AT (bc 6 (ah Tryz.f212)) (lg Df (opsOf (bc 6 (ah Tryz.f212))) [7] [(15,2),(15,3),(15,4)]) :=
 fZ rfl rfl (xI (E:=Df) (kR hT) FP eG (c:=(bc 6 (ah Tryz.f212))) (id:=6) (by kernel_rfl))
theorem P6:bV Tryz.prog AT 2 (.loop (aZ 2 (ah Tryz.f212))) ⟨ql,ft vE⟩ :=
 en (kR hT) Co eG (step:=fun (x:bF ql)=>tM x.1 x.2.1 x.2.2.1 x.2.2.2.1 x.2.2.2.2.1) Pj (aW [] (by kernel_rfl) trivial [(6,bc 6 (ah Tryz.f212))] (by kernel_rfl) ⟨wV rfl OQ,trivial⟩)
theorem N8:bV Tryz.prog AT 0 (.loop (aZ 0 (ah Tryz.f212))) ⟨qz,cW kW⟩ :=
 en (kR hT) Co eG (step:=fun (x:bF qz)=>wi x.1 x.2.1 x.2.2.1 x.2.2.2.1) NR (aW [(2,.loop (aZ 2 (ah Tryz.f212)))] (by kernel_rfl) ⟨lO rfl P6,trivial⟩ [] (by kernel_rfl) trivial)
theorem Te:ar Tryz.prog 212 KM :=
 qw (E:=AT) (kR hT) Co eG (fn:=Tryz.f212) (c:=(ah Tryz.f212)) (by kernel_rfl) (by kernel_rfl) (by kernel_rfl) rfl (aW [(0,.loop (aZ 0 (ah Tryz.f212)))] (by kernel_rfl) ⟨lO rfl N8,trivial⟩ [] (by kernel_rfl) trivial) fun x y h=>⟨y.1,fun _=>rfl,(t212 x).trans h⟩
def T0 (p0:List R3) (p1 p2 p3:Int):Option XA :=
 cond (bz (aH .i64 p2 p1) 12) (
 (P4 p0 p1 p2).bind fun y1 =>
 some ((y1.1.1,()),())
 ) (
 cond (aj p3 0) (
 none
 ) (
 none
 )
 )
def Xb:Su:=⟨[.io false [.sl 3 aK],.c false aK,.c false aK,.c false aK],[],true,.inl fun x=>T0 x.1.1 x.2.1.1 x.2.2.1.1 x.2.2.2.1.1⟩
theorem Qt:ar Tryz.prog 166 Xb :=
 fl (ac Te an) [] [] [0] Tryz.f166 di
def uJ (p0:List R3):Option XA :=
 let u1:=(ae p0)
 (Eb (bP .u64 u1)).bind fun y1 =>
 (T0 p0 0 u1 y1.2.1.1).bind fun y2 =>
 some ((y2.1.1,()),())
def WK:Su:=⟨[.io false [.sl 3 aK]],[],true,.inl fun x=>uJ x.1.1⟩
theorem SM:ar Tryz.prog 124 WK :=
 fl (ac Ns (ac Qt an)) [] [] [0] Tryz.f124 di
def zh (t0:List R3) (t3:Int):Rd ((List R3)×Int×Unit) FJ :=
 let u1:=(ae t0)
 cond (au t3 u1) (
 cond (a7 t3 t0) (
 let u2:=(aH .i64 t3 1)
 cond (a7 u2 t0) (
 cond (aj (gt d3 t0 t3).1 (gt d3 t0 u2).1) (
 let u3:=(dJ t3 u1 t0)
 cond u3 (
 let u4:=(sub t0 t3 u1)
 cond (au 1 (ae u4)) (
 cond (a7 1 u4) (
 let u5:=(aH .i64 1 1)
 cond (a7 u5 u4) (
 cond (!(aj (gt d3 u4 1).1 (gt d3 u4 u5).1)) (
 cond (a7 1 u4) (
 cond (a7 t3 t0) (
 none
 ) none
 ) none
 ) (
 none
 )
 ) none
 ) none
 ) (
 cond u3 (
 let u5:=(yR d3 t0 t3)
 cond (dJ 0 t3 u5) (
 some (.inr (.inr ((NB u5 t3),())))
 ) none
 ) none
 )
 ) none
 ) (
 some (.inl (t0,(aq .i64 t3 1),()))
 )
 ) none
 ) none
 ) (
 some (.inr (.inl (t0,t3,())))
 )
def wb:=OW (ai (wP zh))
def IF (p0:List R3):Option Mf :=
 cond (au (ae p0) 2) (
 some ((),((p0,()),()))
 ) (
 (wb p0 1).bind (Sum.elim (fun y1 =>
 some ((),((y1.1,()),()))
 ) (fun y1 =>
 some ((),(y1,()))
 ))
 )
def JN:Su:=⟨[.mv (.sl 3 aK)],[(false,gD)],true,.inl fun x=>IF x.1⟩
def qt:List SE:=[.own 0 (.sl 3 aK),.d 3 (.int .i64)]
def MT:List SE:=[.own 2 (.sl 3 aK)]
def TQ:Nat->Option (Lo MT)
 | 0=>some ⟨qt,wP wb⟩
 | _=>none
def MK:List (Nat×Su):=[]
def Qs:Nat->Option (St->Tr St)
 | 14=>some (q8 54 55 56 0 3 aK)
 | _=>none
def Cv:En:=⟨61,tt,iN MK,MT,TQ,[],Qs⟩
theorem Ol (x:bF qt):(cX Cv 0 qt (aZ 0 (ah Tryz.f125)) x).run=wP zh x:=by kernel_rfl
theorem t125 (x:PT JN.ps):(EK Cv (ah Tryz.f125) Tryz.f125.results.toList JN.ps JN.rs true x).run=IF x.1:=by kernel_rfl
theorem Jv:da Tryz.prog Cv:=cO (l:=MK) trivial
theorem KG:cG Tryz.prog Cv (bc 14 (ah Tryz.f125)) (q8 54 55 56 0 3 aK) :=
 xl (E:=Cv) (kR hT) (rid:=14) (ta:=54) (tb:=55) (tc:=56) (t0:=0) (tI:=3) (ty:=53) (o1:=fA (bc 14 (ah Tryz.f125)) 0) (o2:=fA (bc 14 (ah Tryz.f125)) 1) (o3:=fA (bc 14 (ah Tryz.f125)) 2) (o4:=fA (bc 14 (ah Tryz.f125)) 3) (c:=zj (fA (bc 14 (ah Tryz.f125)) 3)) (te:=⟨false,aK,0,8,[]⟩)
  (by kernel_rfl) (by kernel_rfl) (by kernel_rfl) (by kernel_rfl) (by kernel_rfl) (by kernel_rfl) (by kernel_rfl) (by kernel_rfl) (by kernel_rfl) (by kernel_rfl) (by kernel_rfl) (by kernel_rfl) (by kernel_rfl) (by kernel_rfl) (by kernel_rfl) (by kernel_rfl) (by kernel_rfl) (by kernel_rfl) (by kernel_rfl) (by kernel_rfl) (by kernel_rfl)
theorem Px:bV Tryz.prog Cv 0 (.loop (aZ 0 (ah Tryz.f125))) ⟨qt,wP wb⟩ :=
 en (kR hT) Jv eG (step:=fun (x:bF qt)=>zh x.1 x.2.1) Ol (aW [] (by kernel_rfl) trivial [(14,bc 14 (ah Tryz.f125))] (by kernel_rfl) ⟨wV rfl KG,trivial⟩)
theorem TZ:ar Tryz.prog 125 JN :=
 qw (E:=Cv) (kR hT) Jv eG (fn:=Tryz.f125) (c:=(ah Tryz.f125)) (by kernel_rfl) (by kernel_rfl) (by kernel_rfl) rfl (aW [(0,.loop (aZ 0 (ah Tryz.f125)))] (by kernel_rfl) ⟨lO rfl Px,trivial⟩ [] (by kernel_rfl) trivial) fun x y h=>⟨y.1,fun _=>rfl,(t125 x).trans h⟩
def wD (t1:Int) (t5:List R3) (t9:List R9) (t10 t11:Int):Rd (Int×(List R3)×(List R9)×Int×Int×Unit) Unit :=
 cond (au t11 t10) (
 cond (a7 t11 t9) (
 (Tq (gt d9 t9 t11).1 t1).bind fun y1 =>
 cond (cQ 8 t5 [y1.2.1]) (
 some (.inl (t1,(lP t5 [y1.2.1]),t9,t10,(aq .i64 t11 1),()))
 ) none
 ) none
 ) (
 some (.inr (.inl (t1,t5,t9,t10,t11,())))
 )
def MG:=wY (ai (ft wD))
def Uq (p0:List R9) (p1:Int):Option Mf :=
 (MG p1 [] p0 (ae p0) 0).bind (Sum.elim (fun y1 =>
 (uJ y1.2.1).bind fun y2 =>
 (IF y2.1.1.1).bind fun y3 =>
 some ((),(y3.2.1,()))
 ) (fun y1 =>
 none
 ))
def YD:Su:=⟨[.c false [.sl 9 wN],.c false aK],[(false,gD)],true,.inl fun x=>Uq x.1.1 x.2.1.1⟩
theorem XF:ar Tryz.prog 94 YD :=
 fl (ac TS (ac SM (ac TZ an))) [] [(0,⟨[.d 1 (.int .i64),.own 5 (.sl 3 aK),.d 9 (.sl 9 wN),.d 10 (.int .i64),.d 11 (.int .i64)],ai (ft wD)⟩)] [] Tryz.f94 (lp [0] (sc di sn))
def Ua (p0:(List R5)×Int×(List R3)×Int×Int×Int×Int×Int×(List R5)×Unit) (p1:Int):Option Mf :=
 (Ui p0.1).bind fun y1 =>
 (Uq y1.2.1.1 p1).bind fun y2 =>
 some ((),(y2.2.1,()))
def Zn:Su:=⟨[.c true gG,.c false aK],[(false,gD)],true,.inl fun x=>Ua x.1 x.2.1.1⟩
theorem RQ:ar Tryz.prog 71 Zn :=
 fq (ac Vp (ac XF an)) Tryz.f71
def Ng (t0 t1:List R3) (t12 t13:Int):Rd ((List R3)×(List R3)×Int×Int×Unit) Y1 :=
 cond (au t13 t12) (
 cond (a7 t13 t0) (
 cond (a7 t13 t1) (
 cond (!(aj (gt d3 t0 t13).1 (gt d3 t1 t13).1)) (
 some (.inr (.inr (false,())))
 ) (
 some (.inl (t0,t1,t12,(aq .i64 t13 1),()))
 )
 ) none
 ) none
 ) (
 some (.inr (.inl (t0,t1,t12,t13,())))
 )
def Ty:=mZ (ai (cW Ng))
def Vj (p0 p1:List R3):Option dZ :=
 let u1:=(ae p0)
 cond (!(aj u1 (ae p1))) (
 some ((),((false,()),()))
 ) (
 (Ty p0 p1 u1 0).bind (Sum.elim (fun y1 =>
 some ((),((true,()),()))
 ) (fun y1 =>
 some ((),(y1,()))
 ))
 )
def YO:Su:=⟨[.c false gD,.c false gD],[(false,[.bool])],true,.inl fun x=>Vj x.1.1 x.2.1.1⟩
theorem Vs:ar Tryz.prog 70 YO :=
 fl an [.d 4 (.bool)] [(0,⟨[.d 0 (.sl 3 aK),.d 1 (.sl 3 aK),.d 12 (.int .i64),.d 13 (.int .i64)],ai (cW Ng)⟩)] [] Tryz.f70 (lp [0] (sc di sn))
def Qi (p0:(List R5)×Int×(List R3)×Int×Int×Int×Int×Int×(List R5)×Unit) (p1:Int):Option dZ :=
 (na p1 1 5).bind fun y1 =>
 cond (!y1.2.1.1) (
 some ((),((false,()),()))
 ) (
 (TN p0.2.1).bind fun y2 =>
 let u1:=(ae p0.2.2.2.2.2.2.2.2.1)
 cond (cond (cond (bY y2.2.1.1 []) true (au 300 (ae p0.1))) true (au 200 u1)) (
 some ((),((false,()),()))
 ) (
 (tj p0.2.2.2.2.1).bind fun y3 =>
 cond (!y3.2.1.1) (
 some ((),((false,()),()))
 ) (
 (tj p0.2.2.2.2.2.2.2.1).bind fun y4 =>
 cond (!y4.2.1.1) (
 some ((),((false,()),()))
 ) (
 cond (aj p0.2.1 0) (
 let u2:=(ae p0.2.2.1)
 cond (au 0 u2) (
 some ((),((false,()),()))
 ) (
 cond (aj p0.2.1 1) (
 let u3:=(na p0.2.2.2.1 0 (aH .i64 u2 1))
 Option.bind u3 fun y5 =>
 cond (!y5.2.1.1) (
 some ((),((false,()),()))
 ) (
 cond (au p0.2.1 3) (
 some ((),(((cond (cond (cond (aj p0.2.2.2.2.2.1 (-1)) (aj p0.2.2.2.2.2.2.1 (-1)) false) (aj p0.2.2.2.2.2.2.2.1 0) false) (aj u1 0) false),()),()))
 ) (
 let u4:=(tj p0.2.2.2.2.2.1)
 Option.bind u4 fun y6 =>
 let u5:=(cond (!y6.2.1.1) true (au p0.2.2.2.2.2.1 p0.2.2.2.2.1))
 cond u5 (
 some ((),((false,()),()))
 ) (
 cond (aj p0.2.1 5) (
 let u6:=(tj p0.2.2.2.2.2.2.1)
 Option.bind u6 fun y7 =>
 some ((),(((cond y7.2.1.1 (bz p0.2.2.2.2.2.1 p0.2.2.2.2.2.2.1) false),()),()))
 ) (
 some ((),(((aj p0.2.2.2.2.2.2.1 (-1)),()),()))
 )
 )
 )
 )
 ) (
 cond (aj p0.2.1 2) (
 cond (!(cond (aj p0.2.2.2.1 u2) (au 0 u2) false)) (
 some ((),((false,()),()))
 ) (
 cond (au p0.2.1 3) (
 some ((),(((cond (cond (cond (aj p0.2.2.2.2.2.1 (-1)) (aj p0.2.2.2.2.2.2.1 (-1)) false) (aj p0.2.2.2.2.2.2.2.1 0) false) (aj u1 0) false),()),()))
 ) (
 let u3:=(tj p0.2.2.2.2.2.1)
 Option.bind u3 fun y5 =>
 let u4:=(cond (!y5.2.1.1) true (au p0.2.2.2.2.2.1 p0.2.2.2.2.1))
 cond u4 (
 some ((),((false,()),()))
 ) (
 cond (aj p0.2.1 5) (
 let u5:=(tj p0.2.2.2.2.2.2.1)
 Option.bind u5 fun y6 =>
 some ((),(((cond y6.2.1.1 (bz p0.2.2.2.2.2.1 p0.2.2.2.2.2.2.1) false),()),()))
 ) (
 some ((),(((aj p0.2.2.2.2.2.2.1 (-1)),()),()))
 )
 )
 )
 )
 ) (
 cond (aj p0.2.1 3) (
 let u3:=(na p0.2.2.2.1 1 u2)
 Option.bind u3 fun y5 =>
 cond (!y5.2.1.1) (
 some ((),((false,()),()))
 ) (
 cond (au p0.2.1 3) (
 some ((),(((cond (cond (cond (aj p0.2.2.2.2.2.1 (-1)) (aj p0.2.2.2.2.2.2.1 (-1)) false) (aj p0.2.2.2.2.2.2.2.1 0) false) (aj u1 0) false),()),()))
 ) (
 let u4:=(tj p0.2.2.2.2.2.1)
 Option.bind u4 fun y6 =>
 let u5:=(cond (!y6.2.1.1) true (au p0.2.2.2.2.2.1 p0.2.2.2.2.1))
 cond u5 (
 some ((),((false,()),()))
 ) (
 cond (aj p0.2.1 5) (
 let u6:=(tj p0.2.2.2.2.2.2.1)
 Option.bind u6 fun y7 =>
 some ((),(((cond y7.2.1.1 (bz p0.2.2.2.2.2.1 p0.2.2.2.2.2.2.1) false),()),()))
 ) (
 some ((),(((aj p0.2.2.2.2.2.2.1 (-1)),()),()))
 )
 )
 )
 )
 ) (
 cond (!(aj p0.2.2.2.1 0)) (
 some ((),((false,()),()))
 ) (
 cond (au p0.2.1 3) (
 some ((),(((cond (cond (cond (aj p0.2.2.2.2.2.1 (-1)) (aj p0.2.2.2.2.2.2.1 (-1)) false) (aj p0.2.2.2.2.2.2.2.1 0) false) (aj u1 0) false),()),()))
 ) (
 let u3:=(tj p0.2.2.2.2.2.1)
 Option.bind u3 fun y5 =>
 let u4:=(cond (!y5.2.1.1) true (au p0.2.2.2.2.2.1 p0.2.2.2.2.1))
 cond u4 (
 some ((),((false,()),()))
 ) (
 cond (aj p0.2.1 5) (
 let u5:=(tj p0.2.2.2.2.2.2.1)
 Option.bind u5 fun y6 =>
 some ((),(((cond y6.2.1.1 (bz p0.2.2.2.2.2.1 p0.2.2.2.2.2.2.1) false),()),()))
 ) (
 some ((),(((aj p0.2.2.2.2.2.2.1 (-1)),()),()))
 )
 )
 )
 )
 )
 )
 )
 )
 ) (
 (Ua p0 p1).bind fun y5 =>
 (Vj p0.2.2.1 y5.2.1.1).bind fun y6 =>
 cond (!y6.2.1.1) (
 some ((),((false,()),()))
 ) (
 cond (aj p0.2.1 1) (
 let u2:=(ae p0.2.2.1)
 let u3:=(na p0.2.2.2.1 0 (aH .i64 u2 1))
 Option.bind u3 fun y7 =>
 cond (!y7.2.1.1) (
 some ((),((false,()),()))
 ) (
 cond (au p0.2.1 3) (
 some ((),(((cond (cond (cond (aj p0.2.2.2.2.2.1 (-1)) (aj p0.2.2.2.2.2.2.1 (-1)) false) (aj p0.2.2.2.2.2.2.2.1 0) false) (aj u1 0) false),()),()))
 ) (
 let u4:=(tj p0.2.2.2.2.2.1)
 Option.bind u4 fun y8 =>
 let u5:=(cond (!y8.2.1.1) true (au p0.2.2.2.2.2.1 p0.2.2.2.2.1))
 cond u5 (
 some ((),((false,()),()))
 ) (
 cond (aj p0.2.1 5) (
 let u6:=(tj p0.2.2.2.2.2.2.1)
 Option.bind u6 fun y9 =>
 some ((),(((cond y9.2.1.1 (bz p0.2.2.2.2.2.1 p0.2.2.2.2.2.2.1) false),()),()))
 ) (
 some ((),(((aj p0.2.2.2.2.2.2.1 (-1)),()),()))
 )
 )
 )
 )
 ) (
 cond (aj p0.2.1 2) (
 let u2:=(ae p0.2.2.1)
 cond (!(cond (aj p0.2.2.2.1 u2) (au 0 u2) false)) (
 some ((),((false,()),()))
 ) (
 cond (au p0.2.1 3) (
 some ((),(((cond (cond (cond (aj p0.2.2.2.2.2.1 (-1)) (aj p0.2.2.2.2.2.2.1 (-1)) false) (aj p0.2.2.2.2.2.2.2.1 0) false) (aj u1 0) false),()),()))
 ) (
 let u3:=(tj p0.2.2.2.2.2.1)
 Option.bind u3 fun y7 =>
 let u4:=(cond (!y7.2.1.1) true (au p0.2.2.2.2.2.1 p0.2.2.2.2.1))
 cond u4 (
 some ((),((false,()),()))
 ) (
 cond (aj p0.2.1 5) (
 let u5:=(tj p0.2.2.2.2.2.2.1)
 Option.bind u5 fun y8 =>
 some ((),(((cond y8.2.1.1 (bz p0.2.2.2.2.2.1 p0.2.2.2.2.2.2.1) false),()),()))
 ) (
 some ((),(((aj p0.2.2.2.2.2.2.1 (-1)),()),()))
 )
 )
 )
 )
 ) (
 cond (aj p0.2.1 3) (
 let u2:=(ae p0.2.2.1)
 let u3:=(na p0.2.2.2.1 1 u2)
 Option.bind u3 fun y7 =>
 cond (!y7.2.1.1) (
 some ((),((false,()),()))
 ) (
 cond (au p0.2.1 3) (
 some ((),(((cond (cond (cond (aj p0.2.2.2.2.2.1 (-1)) (aj p0.2.2.2.2.2.2.1 (-1)) false) (aj p0.2.2.2.2.2.2.2.1 0) false) (aj u1 0) false),()),()))
 ) (
 let u4:=(tj p0.2.2.2.2.2.1)
 Option.bind u4 fun y8 =>
 let u5:=(cond (!y8.2.1.1) true (au p0.2.2.2.2.2.1 p0.2.2.2.2.1))
 cond u5 (
 some ((),((false,()),()))
 ) (
 cond (aj p0.2.1 5) (
 let u6:=(tj p0.2.2.2.2.2.2.1)
 Option.bind u6 fun y9 =>
 some ((),(((cond y9.2.1.1 (bz p0.2.2.2.2.2.1 p0.2.2.2.2.2.2.1) false),()),()))
 ) (
 some ((),(((aj p0.2.2.2.2.2.2.1 (-1)),()),()))
 )
 )
 )
 )
 ) (
 cond (!(aj p0.2.2.2.1 0)) (
 some ((),((false,()),()))
 ) (
 cond (au p0.2.1 3) (
 some ((),(((cond (cond (cond (aj p0.2.2.2.2.2.1 (-1)) (aj p0.2.2.2.2.2.2.1 (-1)) false) (aj p0.2.2.2.2.2.2.2.1 0) false) (aj u1 0) false),()),()))
 ) (
 let u2:=(tj p0.2.2.2.2.2.1)
 Option.bind u2 fun y7 =>
 let u3:=(cond (!y7.2.1.1) true (au p0.2.2.2.2.2.1 p0.2.2.2.2.1))
 cond u3 (
 some ((),((false,()),()))
 ) (
 cond (aj p0.2.1 5) (
 let u4:=(tj p0.2.2.2.2.2.2.1)
 Option.bind u4 fun y8 =>
 some ((),(((cond y8.2.1.1 (bz p0.2.2.2.2.2.1 p0.2.2.2.2.2.2.1) false),()),()))
 ) (
 some ((),(((aj p0.2.2.2.2.2.2.1 (-1)),()),()))
 )
 )
 )
 )
 )
 )
 )
 )
 )
 )
 )
 )
 )
def Za:Su:=⟨[.c true gG,.c false aK],[(false,[.bool])],true,.inl fun x=>Qi x.1 x.2.1.1⟩
theorem Sa:ar Tryz.prog 39 Za :=
 fq (ac ni (ac Ly (ac XN (ac RQ (ac Vs an))))) Tryz.f39
def UT (p0:(List R5)×Int×(List R3)×Int×Int×Int×Int×Int×(List R5)×Unit) (p1:Int):Option dZ :=
 let u1:=(FD 0 (ES p0.2.2.2.1 (ae p0.2.2.1)))
 cond (dJ 0 u1 p0.2.2.1) (
 (PQ (sub p0.2.2.1 0 u1) p1).bind fun y1 =>
 some ((),(y1.2.1,()))
 ) none
def Zu:Su:=⟨[.c true gG,.c false aK],[(false,[.bool])],true,.inl fun x=>UT x.1 x.2.1.1⟩
theorem Xc:ar Tryz.prog 41 Zu :=
 fq (ac Ox an) Tryz.f41
def uy (t3:List R3) (t36:List jH) (t37 t38:Int) (t61:List R3) (t62 t63:Int) (b1:(List gf)×Int×Int×(List jH)×Unit):Rd ((List R3)×(List jH)×Int×Int×(List R3)×Int×Int×JE×Unit) Y1 :=
 cond (au t63 t62) (
 cond (a7 t63 t61) (
 let u1:=(gt d3 t61 t63)
 cond (aj u1.1 (-1)) (
 let u2:=(aq .i64 t63 1)
 some (.inl (t3,t36,t37,t38,t61,t62,u2,b1,()))
 ) (
 cond (bz b1.2.2.1 u1.1) (
 some (.inr (.inr (false,())))
 ) (
 (PQ t3 u1.1).bind fun y1 =>
 cond y1.2.1.1 (
 some (.inr (.inr (false,())))
 ) (
 cond (cQ 8 t3 [u1]) (
 let u2:=(aq .i64 t63 1)
 some (.inl ((lP t3 [u1]),t36,t37,t38,t61,t62,u2,b1,()))
 ) none
 )
 )
 )
 ) none
 ) (
 some (.inr (.inl (t3,t36,t37,t38,t61,t62,t63,b1,())))
 )
def MN:=Qf (ai (xQ uy))
def wA (t3:List R3) (t36:List jH) (t37 t38:Int) (b1:(List gf)×Int×Int×(List jH)×Unit):Rd ((List R3)×(List jH)×Int×Int×JE×Unit) Y1 :=
 cond (au t38 t37) (
 cond (a7 t38 t36) (
 let u1:=(gt d64 t36 t38)
 (Qi u1 (ae b1.1)).bind fun y1 =>
 cond (cond (!y1.2.1.1) true (au b1.2.1 u1.2.2.2.2.2.2.2.1)) (
 some (.inr (.inr (false,())))
 ) (
 (MN t3 t36 t37 t38 [(u1.2.2.2.2.1,()),(u1.2.2.2.2.2.1,()),(u1.2.2.2.2.2.2.1,())] (ae [(u1.2.2.2.2.1,()),(u1.2.2.2.2.2.1,()),(u1.2.2.2.2.2.2.1,())]) 0 b1).bind (Sum.elim (fun y2 =>
 some (.inl (y2.1,y2.2.1,y2.2.2.1,(aq .i64 y2.2.2.2.1 1),y2.2.2.2.2.2.2.2.1,()))
 ) (fun y2 =>
 some (.inr (.inr (y2.1,())))
 ))
 )
 ) none
 ) (
 some (.inr (.inl (t3,t36,t37,t38,b1,())))
 )
def MZ:=wY (ai (ft wA))
def uN (t8:Int) (t85:List gf) (t86 t87:Int) (t99:List jH) (t100 t101:Int) (b1:(List gf)×Int×Int×(List jH)×Unit) (b9:Int×(List dn)×Unit):Rd (Int×(List gf)×Int×Int×(List jH)×Int×Int×JE×Y8×Unit) Y1 :=
 cond (au t101 t100) (
 cond (a7 t101 t99) (
 (UT (gt d64 t99 t101) t8).bind fun y1 =>
 cond (!(ON y1.2.1.1 (aj b9.1 t101))) (
 some (.inr (.inr (false,())))
 ) (
 some (.inl (t8,t85,t86,t87,t99,t100,(aq .i64 t101 1),b1,b9,()))
 )
 ) none
 ) (
 some (.inr (.inl (t8,t85,t86,t87,t99,t100,t101,b1,b9,())))
 )
def M4:=R7 (ai (CC uN))
def tz (t85:List gf) (t86 t87:Int) (b1:(List gf)×Int×Int×(List jH)×Unit):Rd ((List gf)×Int×Int×JE×Unit) Y1 :=
 cond (au t87 t86) (
 cond (a7 t87 t85) (
 let u1:=(ae b1.2.2.2.1)
 let u2:=(gt d67 t85 t87)
 cond (bz u1 u2.1) (
 some (.inr (.inr (false,())))
 ) (
 (M4 t87 t85 t86 t87 b1.2.2.2.1 u1 0 b1 u2).bind (Sum.elim (fun y1 =>
 some (.inl (y1.2.1,y1.2.2.1,(aq .i64 y1.2.2.2.1 1),y1.2.2.2.2.2.2.2.1,()))
 ) (fun y1 =>
 some (.inr (.inr (y1.1,())))
 ))
 )
 ) none
 ) (
 some (.inr (.inl (t85,t86,t87,b1,())))
 )
def MP:=mZ (ai (cW tz))
def g11 (p0:(List gf)×Int×Int×(List jH)×Unit):Option dZ :=
 (UL p0.1).bind fun y1 =>
 cond (!y1.2.1.1) (
 some ((),((false,()),()))
 ) (
 (tj p0.2.1).bind fun y2 =>
 cond (!y2.2.1.1) (
 some ((),((false,()),()))
 ) (
 (tj p0.2.2.1).bind fun y3 =>
 let u1:=(ae p0.2.2.2.1)
 cond (cond (!y3.2.1.1) true (au 12 u1)) (
 some ((),((false,()),()))
 ) (
 (MZ [] p0.2.2.2.1 u1 0 p0).bind (Sum.elim (fun y4 =>
 (MP y4.2.2.2.2.1.1 (ae y4.2.2.2.2.1.1) 0 y4.2.2.2.2.1).bind (Sum.elim (fun y5 =>
 some ((),((true,()),()))
 ) (fun y5 =>
 some ((),(y5,()))
 ))
 ) (fun y4 =>
 some ((),(y4,()))
 ))
 )
 )
 )
def YP:Su:=⟨[.c true [.sl 67 cT,.int .i64,.int .i64,.sl 64 eo]],[(false,[.bool])],true,.inl fun x=>g11 x.1⟩
theorem WG:ar Tryz.prog 11 YP :=
 fl (ac Ly (ac Vr (ac Ox (ac Sa (ac Xc an))))) [.d 2 (.bool)] [(2,⟨[.own 3 (.sl 3 aK),.d 36 (.sl 64 eo),.d 37 (.int .i64),.d 38 (.int .i64),.own 61 (.sl 3 aK),.d 62 (.int .i64),.d 63 (.int .i64),.box 1 [(false,.sl 67 cT),(false,.int .i64),(false,.int .i64),(false,.sl 64 eo)]],ai (xQ uy)⟩),(0,⟨[.own 3 (.sl 3 aK),.d 36 (.sl 64 eo),.d 37 (.int .i64),.d 38 (.int .i64),.box 1 [(false,.sl 67 cT),(false,.int .i64),(false,.int .i64),(false,.sl 64 eo)]],ai (ft wA)⟩),(6,⟨[.d 8 (.int .i64),.d 85 (.sl 67 cT),.d 86 (.int .i64),.d 87 (.int .i64),.d 99 (.sl 64 eo),.d 100 (.int .i64),.d 101 (.int .i64),.box 1 [(false,.sl 67 cT),(false,.int .i64),(false,.int .i64),(false,.sl 64 eo)],.box 9 [(false,.int .i64),(false,.sl 92 bw)]],ai (CC uN)⟩),(4,⟨[.d 85 (.sl 67 cT),.d 86 (.int .i64),.d 87 (.int .i64),.box 1 [(false,.sl 67 cT),(false,.int .i64),(false,.int .i64),(false,.sl 64 eo)]],ai (cW tz)⟩)] [] Tryz.f11 (lp [0,4] (sc (lp [2] (sc di sn)) (sc (lp [6] (sc di sn)) sn)))
def UW (p0:(List R5)×Int×(List R3)×Int×Int×Int×Int×Int×(List R5)×Unit) (p1:Int):Option j5 :=
 (Qi p0 p1).bind fun y1 =>
 cond (!y1.2.1.1) (
 some ((),((0,()),()))
 ) (
 (Ua p0 p1).bind fun y2 =>
 cond (aj p0.2.1 0) (
 let u1:=(ae y2.2.1.1)
 cond (aj u1 0) (
 some ((),((2,()),()))
 ) (
 some ((),(((aq .i64 3 (iq .i64 2 u1)),()),()))
 )
 ) (
 cond (aj p0.2.1 1) (
 let u1:=(ae y2.2.1.1)
 let u2:=(aq .i64 2 u1)
 some ((),(((aq .i64 u2 (aH .i64 u1 p0.2.2.2.1)),()),()))
 ) (
 cond (aj p0.2.1 2) (
 let u1:=(ae y2.2.1.1)
 let u2:=(aq .i64 2 u1)
 some ((),((u2,()),()))
 ) (
 cond (aj p0.2.1 3) (
 some ((),(((aq .i64 1 p0.2.2.2.1),()),()))
 ) (
 cond (aj p0.2.1 4) (
 some ((),((1,()),()))
 ) (
 some ((),((0,()),()))
 )
 )
 )
 )
 )
 )
def YE:Su:=⟨[.c true gG,.c false aK],[(false,aK)],true,.inl fun x=>UW x.1 x.2.1.1⟩
theorem Wd:ar Tryz.prog 54 YE :=
 fq (ac RQ (ac Sa an)) Tryz.f54
def uW (t3:Int) (t10:List jH) (t11 t12:Int) (b1:(List gf)×Int×Int×(List jH)×Unit):Rd (Int×(List jH)×Int×Int×JE×Unit) Unit :=
 cond (au t12 t11) (
 cond (a7 t12 t10) (
 (UW (gt d64 t10 t12) (ae b1.1)).bind fun y1 =>
 some (.inl ((aq .i64 t3 y1.2.1.1),t10,t11,(aq .i64 t12 1),b1,()))
 ) none
 ) (
 some (.inr (.inl (t3,t10,t11,t12,b1,())))
 )
def S8:=wY (ai (ft uW))
def g21 (p0:(List gf)×Int×Int×(List jH)×Unit):Option j5 :=
 (g11 p0).bind fun y1 =>
 cond (!y1.2.1.1) (
 some ((),((0,()),()))
 ) (
 (S8 0 p0.2.2.2.1 (ae p0.2.2.2.1) 0 p0).bind (Sum.elim (fun y2 =>
 some ((),((y2.1,()),()))
 ) (fun y2 =>
 none
 ))
 )
def Zs:Su:=⟨[.c true [.sl 67 cT,.int .i64,.int .i64,.sl 64 eo]],[(false,aK)],true,.inl fun x=>g21 x.1⟩
theorem V5:ar Tryz.prog 21 Zs :=
 fl (ac WG (ac Wd an)) [] [(0,⟨[.d 3 (.int .i64),.d 10 (.sl 64 eo),.d 11 (.int .i64),.d 12 (.int .i64),.box 1 [(false,.sl 67 cT),(false,.int .i64),(false,.int .i64),(false,.sl 64 eo)]],ai (ft uW)⟩)] [] Tryz.f21 (lp [0] (sc di sn))
def Lg (p0 p1:(List UInt8)×Int×Int×Unit):Option dZ :=
 cond (!(bY p0.1 p1.1)) (
 some ((),((false,()),()))
 ) (
 cond (!(aj p0.2.1 p1.2.1)) (
 some ((),((false,()),()))
 ) (
 cond (!(aj p0.2.2.1 p1.2.2.1)) (
 some ((),((false,()),()))
 ) (
 some ((),((true,()),()))
 )
 )
 )
def Xu:Su:=⟨[.c true iZ,.c true iZ],[(false,[.bool])],true,.inl fun x=>Lg x.1 x.2.1⟩
theorem S7:ar Tryz.prog 197 Xu :=
 fq an Tryz.f197
def pd (t0 t1:List dj) (t5:Int):Rd ((List dj)×(List dj)×Int×Unit) Y1 :=
 cond (au t5 (ae t0)) (
 cond (a7 t5 t0) (
 cond (a7 t5 t1) (
 (Lg (gt d157 t0 t5) (gt d157 t1 t5)).bind fun y1 =>
 cond (!y1.2.1.1) (
 some (.inr (.inr (false,())))
 ) (
 some (.inl (t0,t1,(aq .i64 t5 1),()))
 )
 ) none
 ) none
 ) (
 some (.inr (.inl (t0,t1,t5,())))
 )
def Hd:=qd (ai (fc pd))
def Kj (p0 p1:List dj):Option dZ :=
 cond (!(aj (ae p0) (ae p1))) (
 some ((),((false,()),()))
 ) (
 (Hd p0 p1 0).bind (Sum.elim (fun y1 =>
 some ((),((true,()),()))
 ) (fun y1 =>
 some ((),(y1,()))
 ))
 )
def W5:Su:=⟨[.c false [.sl 157 dH],.c false [.sl 157 dH]],[(false,[.bool])],true,.inl fun x=>Kj x.1.1 x.2.1.1⟩
theorem T3:ar Tryz.prog 146 W5 :=
 fl (ac S7 an) [.d 4 (.bool)] [(0,⟨[.d 0 (.sl 157 dH),.d 1 (.sl 157 dH),.d 5 (.int .i64)],ai (fc pd)⟩)] [] Tryz.f146 (lp [0] (sc di sn))
def tU (t0 t1:List R3) (t5:Int):Rd ((List R3)×(List R3)×Int×Unit) Y1 :=
 cond (au t5 (ae t0)) (
 cond (a7 t5 t0) (
 cond (a7 t5 t1) (
 cond (!(aj (gt d3 t0 t5).1 (gt d3 t1 t5).1)) (
 some (.inr (.inr (false,())))
 ) (
 some (.inl (t0,t1,(aq .i64 t5 1),()))
 )
 ) none
 ) none
 ) (
 some (.inr (.inl (t0,t1,t5,())))
 )
def Mj:=qd (ai (fc tU))
def g24 (p0 p1:List R3):Option dZ :=
 cond (!(aj (ae p0) (ae p1))) (
 some ((),((false,()),()))
 ) (
 (Mj p0 p1 0).bind (Sum.elim (fun y1 =>
 some ((),((true,()),()))
 ) (fun y1 =>
 some ((),(y1,()))
 ))
 )
def YQ:Su:=⟨[.c false gD,.c false gD],[(false,[.bool])],true,.inl fun x=>g24 x.1.1 x.2.1.1⟩
theorem QZ:ar Tryz.prog 24 YQ :=
 fl an [.d 4 (.bool)] [(0,⟨[.d 0 (.sl 3 aK),.d 1 (.sl 3 aK),.d 5 (.int .i64)],ai (fc tU)⟩)] [] Tryz.f24 (lp [0] (sc di sn))
def LY (p0 p1:Int×Int×(List R3)×(List R3)×Unit):Option dZ :=
 cond (!(aj p0.1 p1.1)) (
 some ((),((false,()),()))
 ) (
 cond (!(aj p0.2.1 p1.2.1)) (
 some ((),((false,()),()))
 ) (
 (g24 p0.2.2.1 p1.2.2.1).bind fun y1 =>
 cond (!y1.2.1.1) (
 some ((),((false,()),()))
 ) (
 (g24 p0.2.2.2.1 p1.2.2.2.1).bind fun y2 =>
 cond (!y2.2.1.1) (
 some ((),((false,()),()))
 ) (
 some ((),((true,()),()))
 )
 )
 )
 )
def XD:Su:=⟨[.c true [.int .i64,.int .i64,.sl 3 aK,.sl 3 aK],.c true [.int .i64,.int .i64,.sl 3 aK,.sl 3 aK]],[(false,[.bool])],true,.inl fun x=>LY x.1 x.2.1⟩
theorem So:ar Tryz.prog 147 XD :=
 fq (ac QZ an) Tryz.f147
def tP (t0 t1:List R5) (t5:Int):Rd ((List R5)×(List R5)×Int×Unit) Y1 :=
 cond (au t5 (ae t0)) (
 cond (a7 t5 t0) (
 cond (a7 t5 t1) (
 cond (!(aj (gt d5 t0 t5).1 (gt d5 t1 t5).1)) (
 some (.inr (.inr (false,())))
 ) (
 some (.inl (t0,t1,(aq .i64 t5 1),()))
 )
 ) none
 ) none
 ) (
 some (.inr (.inl (t0,t1,t5,())))
 )
def NF:=qd (ai (fc tP))
def Qh (p0 p1:List R5):Option dZ :=
 cond (!(aj (ae p0) (ae p1))) (
 some ((),((false,()),()))
 ) (
 (NF p0 p1 0).bind (Sum.elim (fun y1 =>
 some ((),((true,()),()))
 ) (fun y1 =>
 some ((),(y1,()))
 ))
 )
def Yw:Su:=⟨[.c false [.sl 5 fz],.c false [.sl 5 fz]],[(false,[.bool])],true,.inl fun x=>Qh x.1.1 x.2.1.1⟩
theorem Tc:ar Tryz.prog 96 Yw :=
 fl an [.d 4 (.bool)] [(0,⟨[.d 0 (.sl 5 fz),.d 1 (.sl 5 fz),.d 5 (.int .i64)],ai (fc tP)⟩)] [] Tryz.f96 (lp [0] (sc di sn))
def KL (p0 p1:(List UInt8)×(List UInt8)×(List R5)×Unit):Option dZ :=
 cond (!(bY p0.1 p1.1)) (
 some ((),((false,()),()))
 ) (
 cond (!(bY p0.2.1 p1.2.1)) (
 some ((),((false,()),()))
 ) (
 (Qh p0.2.2.1 p1.2.2.1).bind fun y1 =>
 cond (!y1.2.1.1) (
 some ((),((false,()),()))
 ) (
 some ((),((true,()),()))
 )
 )
 )
def WX:Su:=⟨[.c true iD,.c true iD],[(false,[.bool])],true,.inl fun x=>KL x.1 x.2.1⟩
theorem QV:ar Tryz.prog 198 WX :=
 fq (ac Tc an) Tryz.f198
def nz (t0 t1:List dh) (t5:Int):Rd ((List dh)×(List dh)×Int×Unit) Y1 :=
 cond (au t5 (ae t0)) (
 cond (a7 t5 t0) (
 cond (a7 t5 t1) (
 (KL (gt d160 t0 t5) (gt d160 t1 t5)).bind fun y1 =>
 cond (!y1.2.1.1) (
 some (.inr (.inr (false,())))
 ) (
 some (.inl (t0,t1,(aq .i64 t5 1),()))
 )
 ) none
 ) none
 ) (
 some (.inr (.inl (t0,t1,t5,())))
 )
def Hu:=qd (ai (fc nz))
def KC (p0 p1:List dh):Option dZ :=
 cond (!(aj (ae p0) (ae p1))) (
 some ((),((false,()),()))
 ) (
 (Hu p0 p1 0).bind (Sum.elim (fun y1 =>
 some ((),((true,()),()))
 ) (fun y1 =>
 some ((),(y1,()))
 ))
 )
def Wo:Su:=⟨[.c false [.sl 160 cV],.c false [.sl 160 cV]],[(false,[.bool])],true,.inl fun x=>KC x.1.1 x.2.1.1⟩
theorem QB:ar Tryz.prog 148 Wo :=
 fl (ac QV an) [.d 4 (.bool)] [(0,⟨[.d 0 (.sl 160 cV),.d 1 (.sl 160 cV),.d 5 (.int .i64)],ai (fc nz)⟩)] [] Tryz.f148 (lp [0] (sc di sn))
def Li (p0 p1:(List UInt8)×Int×Int×Int×Int×(List dj)×Int×Int×(List R3)×(List R3)×(List dh)×Unit):Option dZ :=
 cond (!(bY p0.1 p1.1)) (
 some ((),((false,()),()))
 ) (
 cond (!(aj p0.2.1 p1.2.1)) (
 some ((),((false,()),()))
 ) (
 cond (!(aj p0.2.2.1 p1.2.2.1)) (
 some ((),((false,()),()))
 ) (
 cond (!(aj p0.2.2.2.1 p1.2.2.2.1)) (
 some ((),((false,()),()))
 ) (
 cond (!(aj p0.2.2.2.2.1 p1.2.2.2.2.1)) (
 some ((),((false,()),()))
 ) (
 (Kj p0.2.2.2.2.2.1 p1.2.2.2.2.2.1).bind fun y1 =>
 cond (!y1.2.1.1) (
 some ((),((false,()),()))
 ) (
 (LY (p0.2.2.2.2.2.2.1,p0.2.2.2.2.2.2.2.1,p0.2.2.2.2.2.2.2.2.1,p0.2.2.2.2.2.2.2.2.2.1,()) (p1.2.2.2.2.2.2.1,p1.2.2.2.2.2.2.2.1,p1.2.2.2.2.2.2.2.2.1,p1.2.2.2.2.2.2.2.2.2.1,())).bind fun y2 =>
 cond (!y2.2.1.1) (
 some ((),((false,()),()))
 ) (
 (KC p0.2.2.2.2.2.2.2.2.2.2.1 p1.2.2.2.2.2.2.2.2.2.2.1).bind fun y3 =>
 cond (!y3.2.1.1) (
 some ((),((false,()),()))
 ) (
 some ((),((true,()),()))
 )
 )
 )
 )
 )
 )
 )
 )
def We:Su:=⟨[.c true bw,.c true bw],[(false,[.bool])],true,.inl fun x=>Li x.1 x.2.1⟩
theorem Ti:ar Tryz.prog 113 We :=
 fq (ac T3 (ac So (ac QB an))) Tryz.f113
def vo (t0 t1:List dn) (t5:Int):Rd ((List dn)×(List dn)×Int×Unit) Y1 :=
 cond (au t5 (ae t0)) (
 cond (a7 t5 t0) (
 cond (a7 t5 t1) (
 (Li (gt d92 t0 t5) (gt d92 t1 t5)).bind fun y1 =>
 cond (!y1.2.1.1) (
 some (.inr (.inr (false,())))
 ) (
 some (.inl (t0,t1,(aq .i64 t5 1),()))
 )
 ) none
 ) none
 ) (
 some (.inr (.inl (t0,t1,t5,())))
 )
def Nq:=qd (ai (fc vo))
def Uf (p0 p1:List dn):Option dZ :=
 cond (!(aj (ae p0) (ae p1))) (
 some ((),((false,()),()))
 ) (
 (Nq p0 p1 0).bind (Sum.elim (fun y1 =>
 some ((),((true,()),()))
 ) (fun y1 =>
 some ((),(y1,()))
 ))
 )
def Yz:Su:=⟨[.c false [.sl 92 bw],.c false [.sl 92 bw]],[(false,[.bool])],true,.inl fun x=>Uf x.1.1 x.2.1.1⟩
theorem UY:ar Tryz.prog 79 Yz :=
 fl (ac Ti an) [.d 4 (.bool)] [(0,⟨[.d 0 (.sl 92 bw),.d 1 (.sl 92 bw),.d 5 (.int .i64)],ai (fc vo)⟩)] [] Tryz.f79 (lp [0] (sc di sn))
def UO (p0 p1:Int×(List dn)×Unit):Option dZ :=
 cond (!(aj p0.1 p1.1)) (
 some ((),((false,()),()))
 ) (
 (Uf p0.2.1 p1.2.1).bind fun y1 =>
 cond (!y1.2.1.1) (
 some ((),((false,()),()))
 ) (
 some ((),((true,()),()))
 )
 )
def YM:Su:=⟨[.c true cT,.c true cT],[(false,[.bool])],true,.inl fun x=>UO x.1 x.2.1⟩
theorem UZ:ar Tryz.prog 73 YM :=
 fq (ac UY an) Tryz.f73
def uC (t0 t1:List gf) (t5:Int):Rd ((List gf)×(List gf)×Int×Unit) Y1 :=
 cond (au t5 (ae t0)) (
 cond (a7 t5 t0) (
 cond (a7 t5 t1) (
 (UO (gt d67 t0 t5) (gt d67 t1 t5)).bind fun y1 =>
 cond (!y1.2.1.1) (
 some (.inr (.inr (false,())))
 ) (
 some (.inl (t0,t1,(aq .i64 t5 1),()))
 )
 ) none
 ) none
 ) (
 some (.inr (.inl (t0,t1,t5,())))
 )
def M0:=qd (ai (fc uC))
def Uw (p0 p1:List gf):Option dZ :=
 cond (!(aj (ae p0) (ae p1))) (
 some ((),((false,()),()))
 ) (
 (M0 p0 p1 0).bind (Sum.elim (fun y1 =>
 some ((),((true,()),()))
 ) (fun y1 =>
 some ((),(y1,()))
 ))
 )
def YL:Su:=⟨[.c false [.sl 67 cT],.c false [.sl 67 cT]],[(false,[.bool])],true,.inl fun x=>Uw x.1.1 x.2.1.1⟩
theorem U0:ar Tryz.prog 42 YL :=
 fl (ac UZ an) [.d 4 (.bool)] [(0,⟨[.d 0 (.sl 67 cT),.d 1 (.sl 67 cT),.d 5 (.int .i64)],ai (fc uC)⟩)] [] Tryz.f42 (lp [0] (sc di sn))
def Uk (p0 p1:(List R5)×Int×(List R3)×Int×Int×Int×Int×Int×(List R5)×Unit):Option dZ :=
 (Qh p0.1 p1.1).bind fun y1 =>
 cond (!y1.2.1.1) (
 some ((),((false,()),()))
 ) (
 cond (!(aj p0.2.1 p1.2.1)) (
 some ((),((false,()),()))
 ) (
 (g24 p0.2.2.1 p1.2.2.1).bind fun y2 =>
 cond (!y2.2.1.1) (
 some ((),((false,()),()))
 ) (
 cond (!(aj p0.2.2.2.1 p1.2.2.2.1)) (
 some ((),((false,()),()))
 ) (
 cond (!(aj p0.2.2.2.2.1 p1.2.2.2.2.1)) (
 some ((),((false,()),()))
 ) (
 cond (!(aj p0.2.2.2.2.2.1 p1.2.2.2.2.2.1)) (
 some ((),((false,()),()))
 ) (
 cond (!(aj p0.2.2.2.2.2.2.1 p1.2.2.2.2.2.2.1)) (
 some ((),((false,()),()))
 ) (
 cond (!(aj p0.2.2.2.2.2.2.2.1 p1.2.2.2.2.2.2.2.1)) (
 some ((),((false,()),()))
 ) (
 (Qh p0.2.2.2.2.2.2.2.2.1 p1.2.2.2.2.2.2.2.2.1).bind fun y3 =>
 cond (!y3.2.1.1) (
 some ((),((false,()),()))
 ) (
 some ((),((true,()),()))
 )
 )
 )
 )
 )
 )
 )
 )
 )
def YX:Su:=⟨[.c true gG,.c true gG],[(false,[.bool])],true,.inl fun x=>Uk x.1 x.2.1⟩
theorem VY:ar Tryz.prog 74 YX :=
 fq (ac QZ (ac Tc an)) Tryz.f74
def v8 (t0 t1:List jH) (t5:Int):Rd ((List jH)×(List jH)×Int×Unit) Y1 :=
 cond (au t5 (ae t0)) (
 cond (a7 t5 t0) (
 cond (a7 t5 t1) (
 (Uk (gt d64 t0 t5) (gt d64 t1 t5)).bind fun y1 =>
 cond (!y1.2.1.1) (
 some (.inr (.inr (false,())))
 ) (
 some (.inl (t0,t1,(aq .i64 t5 1),()))
 )
 ) none
 ) none
 ) (
 some (.inr (.inl (t0,t1,t5,())))
 )
def MC:=qd (ai (fc v8))
def Us (p0 p1:List jH):Option dZ :=
 cond (!(aj (ae p0) (ae p1))) (
 some ((),((false,()),()))
 ) (
 (MC p0 p1 0).bind (Sum.elim (fun y1 =>
 some ((),((true,()),()))
 ) (fun y1 =>
 some ((),(y1,()))
 ))
 )
def Zp:Su:=⟨[.c false [.sl 64 eo],.c false [.sl 64 eo]],[(false,[.bool])],true,.inl fun x=>Us x.1.1 x.2.1.1⟩
theorem Wx:ar Tryz.prog 43 Zp :=
 fl (ac VY an) [.d 4 (.bool)] [(0,⟨[.d 0 (.sl 64 eo),.d 1 (.sl 64 eo),.d 5 (.int .i64)],ai (fc v8)⟩)] [] Tryz.f43 (lp [0] (sc di sn))
def g12 (p0 p1:(List gf)×Int×Int×(List jH)×Unit):Option dZ :=
 (Uw p0.1 p1.1).bind fun y1 =>
 cond (!y1.2.1.1) (
 some ((),((false,()),()))
 ) (
 cond (!(aj p0.2.1 p1.2.1)) (
 some ((),((false,()),()))
 ) (
 cond (!(aj p0.2.2.1 p1.2.2.1)) (
 some ((),((false,()),()))
 ) (
 (Us p0.2.2.2.1 p1.2.2.2.1).bind fun y2 =>
 cond (!y2.2.1.1) (
 some ((),((false,()),()))
 ) (
 some ((),((true,()),()))
 )
 )
 )
 )
def Zl:Su:=⟨[.c true [.sl 67 cT,.int .i64,.int .i64,.sl 64 eo],.c true [.sl 67 cT,.int .i64,.int .i64,.sl 64 eo]],[(false,[.bool])],true,.inl fun x=>g12 x.1 x.2.1⟩
theorem U5:ar Tryz.prog 12 Zl :=
 fq (ac U0 (ac Wx an)) Tryz.f12
def g6 (p0:(List sH)×Int×Int×(List rn)×Unit):Option dZ :=
 (g8 p0 1048576).bind fun y1 =>
 cond (au y1.2.1.1 0) (
 some ((),((true,()),()))
 ) (
 let u1:=(g10 p0)
 Option.bind u1 fun y2 =>
 (g20 y2.2.1).bind fun y3 =>
 Option.bind u1 fun y4 =>
 (g21 y4.2.1).bind fun y5 =>
 cond (!(aj y5.2.1.1 y3.2.1.1)) (
 some ((),((false,()),()))
 ) (
 Option.bind u1 fun y6 =>
 (g12 y4.2.1 y6.2.1).bind fun y7 =>
 cond (!y7.2.1.1) (
 some ((),((false,()),()))
 ) (
 some ((),((true,()),()))
 )
 )
 )
def s6:Su:=⟨[.c true [.sl 84 nc,.int .i64,.int .i64,.sl 86 gG]],[(false,[.bool])],true,.inl fun x=>g6 x.1⟩
theorem Yu:ar Tryz.prog 6 s6 :=
 fq (ac Yl (ac XT (ac Vk (ac V5 (ac U5 an))))) Tryz.f6
end
end Go.Av
