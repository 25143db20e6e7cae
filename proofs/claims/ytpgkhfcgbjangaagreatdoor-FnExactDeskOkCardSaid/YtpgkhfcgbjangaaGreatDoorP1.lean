/- Part of a proof that the law FnExactDeskOk answers true for every input: the printed functions of this program and their plain laws. No conditions beyond the statement. -/
import Derived.Test.YtpgkhfcgbjangaaGreatDoorP1a
set_option maxRecDepth 100000
namespace Go.Av
open Go.Proofs
set_option maxHeartbeats 4000000
noncomputable section
def N3 (p0:List UInt8):Option dS :=
 some ((),(((cond (cond (bY p0 [48,49,48,48]) true (bY p0 [48,50,48,48])) true (bY p0 [48,50,50,48])),()),()))
def Vy:Su:=⟨[.c false [.str]],[(false,[.bool])],true,.inl fun x=>N3 x.1.1⟩
theorem QF:ar Tryz.prog 173 Vy :=
 fq an Tryz.f173
def nz (t1:Int) (t9:List iv) (t10 t11:Int):Rd (Int×(List iv)×Int×Int×Unit) ((List UInt8)×Bool×Unit) :=
 cond (au t11 t10) (
 cond (a7 t11 t9) (
 let u1:=(gt d178 t9 t11)
 cond (ak u1.1 t1) (
 some (.inr (.inr (u1.2.1,true,())))
 ) (
 some (.inl (t1,t9,t10,(aq .i64 t11 1),()))
 )
 ) none
 ) (
 some (.inr (.inl (t1,t9,t10,t11,())))
 )
def Hr:=mU (ai (cU nz))
def E5 (p0:(List UInt8)×(List iv)×Unit) (p1:Int):Option (Unit×(Y6×Y1×Unit)) :=
 (Hr p1 p0.2.1 (ae p0.2.1) 0).bind (Sum.elim (fun y1 =>
 some ((),(([],()),(false,()),()))
 ) (fun y1 =>
 some ((),((y1.1,()),(y1.2.1,()),()))
 ))
def VY:Su:=⟨[.c true [.str,.sl 178 dq],.c false aK],[(false,[.str]),(false,[.bool])],true,.inl fun x=>E5 x.1 x.2.1.1⟩
theorem Rm:ar Tryz.prog 174 VY :=
 fl an [.d 4 (.str),.d 5 (.bool)] [(0,⟨[.d 1 (.int .i64),.d 9 (.sl 178 dq),.d 10 (.int .i64),.d 11 (.int .i64)],ai (cU nz)⟩)] [] Tryz.f174 (lp [0] (sc dk sn))
def K0  : Option (Unit×(((List E2)×Unit)×Unit)) :=
 some ((),(([([48,49,48,48],[48,48],[97,117,116,104],[(4,()),(14,()),(38,())],()),([48,49,48,48],[48,50],[109,111,114,101],[(4,()),(38,())],()),([48,50,50,48],[48,49],[112,97,114,116],[(4,()),(38,())],()),([48,50,50,48],[48,48],[102,105,110,97,108],[(4,()),(38,())],()),([48,50,50,48],[50,48],[102,114,101,101],[(38,())],()),([48,50,48,48],[52,48],[109,111,118,101],[(38,()),(103,())],()),([48,49,48,48],[51,49],[97,115,107],[],()),([48,50,48,48],[57,48],[115,119,101,101,112],[],())],()),()))
def Yb:Su:=⟨[],[(false,[.sl 198 xb])],false,.inl fun x=>K0 ⟩
theorem NA:ar Tryz.prog 176 Yb :=
 fl an [] [] [999999] Tryz.f176 dk
def Po (p0:(List UInt8)×(List UInt8)×(List UInt8)×(List R3)×Unit) (p1:(List UInt8)×(List iv)×Unit) (p2:(List UInt8)×Unit):Option dS :=
 cond (bY p0.1 p1.1) (
 cond (dH 0 2 p2.1) (
 some ((),(((bY p0.2.1 (sub p2.1 0 2)),()),()))
 ) none
 ) (
 some ((),((false,()),()))
 )
def WR:Su:=⟨[.c true xb,.pt [.str,.sl 178 dq],.pt [.str]],[(false,[.bool])],true,.inl fun x=>Po x.1 x.2.1 x.2.2.1⟩
theorem S7:ar Tryz.prog 177 WR :=
 fq an Tryz.f177
def o8 (t0:List E2) (f1:C6×Y6×Unit) (t7 t8:Int):Rd ((List E2)×(C6×Y6×Unit)×Int×Int×Unit) Y0 :=
 cond (au t8 t7) (
 cond (a7 t8 t0) (
 (Po (gt d198 t0 t8) f1.1 f1.2.1).bind fun y1 =>
 cond y1.2.1.1 (
 some (.inr (.inr (t8,())))
 ) (
 some (.inl (t0,f1,t7,(aq .i64 t8 1),()))
 )
 ) none
 ) (
 some (.inr (.inl (t0,f1,t7,t8,())))
 )
def O4:=mU (ai (cU o8))
def K5 (p0:List E2) (c1_0:(List UInt8)×(List iv)×Unit) (c1_1:(List UInt8)×Unit):Option ke :=
 (O4 p0 (c1_0,c1_1,()) (ae p0) 0).bind (Sum.elim (fun y1 =>
 some ((),(((-1),()),()))
 ) (fun y1 =>
 some ((),(y1,()))
 ))
def W4:Su:=⟨[.c false [.sl 198 xb],.fn 177 [.p [.str,.sl 178 dq],.p [.str]]],[(false,aK)],true,.inl fun x=>K5 x.1.1 x.2.1.1 x.2.1.2.1⟩
theorem TO:ar Tryz.prog 175 W4 :=
 fl (ac S7 an) [.d 4 (.int .i64)] [(0,⟨[.d 0 (.sl 198 xb),.fn 1 177 [.p [.str,.sl 178 dq],.p [.str]],.d 7 (.int .i64),.d 8 (.int .i64)],ai (cU o8)⟩)] [] Tryz.f175 (lp [0] (sc dk sn))
def yq (p0:Int):Option (Unit×(E2×Unit)) :=
 (ni p0 1 8).bind fun y1 =>
 cond (!y1.2.1.1) (
 some ((),(([],[],[],[],()),()))
 ) (
 (K0).bind fun y2 =>
 let u1:=(aI .i64 p0 1)
 cond (a7 u1 y2.2.1.1) (
 some ((),((gt d198 y2.2.1.1 u1),()))
 ) none
 )
def Vf:Su:=⟨[.c false aK],[(true,xb)],false,.inl fun x=>yq x.1.1⟩
theorem JF:ar Tryz.prog 178 Vf :=
 fl (ac nf (ac NA an)) [] [] [999999] Tryz.f178 dk
def tM (t0:List R3) (t1 t7 t8:Int):Rd ((List R3)×Int×Int×Int×Unit) Y0 :=
 cond (au t8 t7) (
 cond (a7 t8 t0) (
 cond (ak t1 (gt d3 t0 t8).1) (
 some (.inr (.inr (t8,())))
 ) (
 some (.inl (t0,t1,t7,(aq .i64 t8 1),()))
 )
 ) none
 ) (
 some (.inr (.inl (t0,t1,t7,t8,())))
 )
def MW:=mU (ai (cU tM))
def XQ (p0:List R3) (p1:Int):Option ke :=
 (MW p0 p1 (ae p0) 0).bind (Sum.elim (fun y1 =>
 some ((),(((-1),()),()))
 ) (fun y1 =>
 some ((),(y1,()))
 ))
def Zm:Su:=⟨[.c false gq,.c false aK],[(false,aK)],true,.inl fun x=>XQ x.1.1 x.2.1.1⟩
theorem Yj:ar Tryz.prog 72 Zm :=
 fl an [.d 4 (.int .i64)] [(0,⟨[.d 0 (.sl 3 aK),.d 1 (.int .i64),.d 7 (.int .i64),.d 8 (.int .i64)],ai (cU tM)⟩)] [] Tryz.f72 (lp [0] (sc dk sn))
def O7 (p0:List R3) (p1:Int):Option dS :=
 (XQ p0 p1).bind fun y1 =>
 some ((),(((bC 0 y1.2.1.1),()),()))
def ZI:Su:=⟨[.c false gq,.c false aK],[(false,[.bool])],true,.inl fun x=>O7 x.1.1 x.2.1.1⟩
theorem OR:ar Tryz.prog 40 ZI :=
 fq (ac Yj an) Tryz.f40
def j4 (p0 p1:Int):Option dS :=
 (yq p0).bind fun y1 =>
 (O7 y1.2.1.2.2.2.1 p1).bind fun y2 =>
 some ((),(y2.2.1,()))
def VO:Su:=⟨[.c false aK,.c false aK],[(false,[.bool])],true,.inl fun x=>j4 x.1.1 x.2.1.1⟩
theorem Ru:ar Tryz.prog 231 VO :=
 fq (ac JF (ac OR an)) Tryz.f231
def IT (p0:Int×(List UInt8)×(List UInt8)×(List UInt8)×(List UInt8)×(List UInt8)×Int×Int×Unit):Option dS :=
 (yq p0.1).bind fun y1 =>
 cond (cond (bY y1.2.1.2.2.1 []) true (!(bY p0.2.2.2.2.2.1 y1.2.1.1))) (
 some ((),((false,()),()))
 ) (
 (q8 p0.2.1).bind fun y2 =>
 cond (!y2.2.1.1) (
 some ((),((false,()),()))
 ) (
 (wF p0.2.2.2.2.1 6).bind fun y3 =>
 cond (!y3.2.1.1) (
 some ((),((false,()),()))
 ) (
 (j4 p0.1 38).bind fun y4 =>
 cond y4.2.1.1 (
 (HM p0.2.2.2.1).bind fun y5 =>
 let u1:=(j4 p0.1 4)
 Option.bind u1 fun y6 =>
 cond y6.2.1.1 (
 let u2:=(ni p0.2.2.2.2.2.2.1 0 999999999999)
 Option.bind u2 fun y7 =>
 let u3:=(j4 p0.1 14)
 Option.bind u3 fun y8 =>
 cond y8.2.1.1 (
 let u4:=(ni p0.2.2.2.2.2.2.2.1 0 9999)
 Option.bind u4 fun y9 =>
 let u5:=(j4 p0.1 103)
 Option.bind u5 fun y10 =>
 cond y10.2.1.1 (
 let u6:=(q8 p0.2.2.1)
 Option.bind u6 fun y11 =>
 let u7:=(cond y5.2.1.1 y7.2.1.1 false)
 let u8:=(cond u7 y9.2.1.1 false)
 some ((),(((cond u8 y11.2.1.1 false),()),()))
 ) (
 let u6:=(cond y5.2.1.1 y7.2.1.1 false)
 let u7:=(cond u6 y9.2.1.1 false)
 let u8:=(bY p0.2.2.1 [])
 some ((),(((cond u7 u8 false),()),()))
 )
 ) (
 let u4:=(j4 p0.1 103)
 Option.bind u4 fun y9 =>
 cond y9.2.1.1 (
 let u5:=(q8 p0.2.2.1)
 Option.bind u5 fun y10 =>
 let u6:=(cond y5.2.1.1 y7.2.1.1 false)
 let u7:=(cond u6 (ak p0.2.2.2.2.2.2.2.1 0) false)
 some ((),(((cond u7 y10.2.1.1 false),()),()))
 ) (
 let u5:=(cond y5.2.1.1 y7.2.1.1 false)
 let u6:=(cond u5 (ak p0.2.2.2.2.2.2.2.1 0) false)
 let u7:=(bY p0.2.2.1 [])
 some ((),(((cond u6 u7 false),()),()))
 )
 )
 ) (
 let u2:=(j4 p0.1 14)
 Option.bind u2 fun y7 =>
 cond y7.2.1.1 (
 let u3:=(ni p0.2.2.2.2.2.2.2.1 0 9999)
 Option.bind u3 fun y8 =>
 let u4:=(j4 p0.1 103)
 Option.bind u4 fun y9 =>
 cond y9.2.1.1 (
 let u5:=(q8 p0.2.2.1)
 Option.bind u5 fun y10 =>
 let u6:=(cond y5.2.1.1 (ak p0.2.2.2.2.2.2.1 0) false)
 let u7:=(cond u6 y8.2.1.1 false)
 some ((),(((cond u7 y10.2.1.1 false),()),()))
 ) (
 let u5:=(cond y5.2.1.1 (ak p0.2.2.2.2.2.2.1 0) false)
 let u6:=(cond u5 y8.2.1.1 false)
 let u7:=(bY p0.2.2.1 [])
 some ((),(((cond u6 u7 false),()),()))
 )
 ) (
 let u3:=(j4 p0.1 103)
 Option.bind u3 fun y8 =>
 cond y8.2.1.1 (
 let u4:=(q8 p0.2.2.1)
 Option.bind u4 fun y9 =>
 let u5:=(cond y5.2.1.1 (ak p0.2.2.2.2.2.2.1 0) false)
 let u6:=(cond u5 (ak p0.2.2.2.2.2.2.2.1 0) false)
 some ((),(((cond u6 y9.2.1.1 false),()),()))
 ) (
 let u4:=(cond y5.2.1.1 (ak p0.2.2.2.2.2.2.1 0) false)
 let u5:=(cond u4 (ak p0.2.2.2.2.2.2.2.1 0) false)
 let u6:=(bY p0.2.2.1 [])
 some ((),(((cond u5 u6 false),()),()))
 )
 )
 )
 ) (
 let u1:=(j4 p0.1 4)
 Option.bind u1 fun y5 =>
 cond y5.2.1.1 (
 let u2:=(ni p0.2.2.2.2.2.2.1 0 999999999999)
 Option.bind u2 fun y6 =>
 let u3:=(j4 p0.1 14)
 Option.bind u3 fun y7 =>
 cond y7.2.1.1 (
 let u4:=(ni p0.2.2.2.2.2.2.2.1 0 9999)
 Option.bind u4 fun y8 =>
 let u5:=(j4 p0.1 103)
 Option.bind u5 fun y9 =>
 cond y9.2.1.1 (
 let u6:=(q8 p0.2.2.1)
 Option.bind u6 fun y10 =>
 let u7:=(bY p0.2.2.2.1 [])
 let u8:=(cond u7 y6.2.1.1 false)
 let u9:=(cond u8 y8.2.1.1 false)
 some ((),(((cond u9 y10.2.1.1 false),()),()))
 ) (
 let u6:=(bY p0.2.2.2.1 [])
 let u7:=(cond u6 y6.2.1.1 false)
 let u8:=(cond u7 y8.2.1.1 false)
 let u9:=(bY p0.2.2.1 [])
 some ((),(((cond u8 u9 false),()),()))
 )
 ) (
 let u4:=(j4 p0.1 103)
 Option.bind u4 fun y8 =>
 cond y8.2.1.1 (
 let u5:=(q8 p0.2.2.1)
 Option.bind u5 fun y9 =>
 let u6:=(bY p0.2.2.2.1 [])
 let u7:=(cond u6 y6.2.1.1 false)
 let u8:=(cond u7 (ak p0.2.2.2.2.2.2.2.1 0) false)
 some ((),(((cond u8 y9.2.1.1 false),()),()))
 ) (
 let u5:=(bY p0.2.2.2.1 [])
 let u6:=(cond u5 y6.2.1.1 false)
 let u7:=(cond u6 (ak p0.2.2.2.2.2.2.2.1 0) false)
 let u8:=(bY p0.2.2.1 [])
 some ((),(((cond u7 u8 false),()),()))
 )
 )
 ) (
 let u2:=(j4 p0.1 14)
 Option.bind u2 fun y6 =>
 cond y6.2.1.1 (
 let u3:=(ni p0.2.2.2.2.2.2.2.1 0 9999)
 Option.bind u3 fun y7 =>
 let u4:=(j4 p0.1 103)
 Option.bind u4 fun y8 =>
 cond y8.2.1.1 (
 let u5:=(q8 p0.2.2.1)
 Option.bind u5 fun y9 =>
 let u6:=(bY p0.2.2.2.1 [])
 let u7:=(cond u6 (ak p0.2.2.2.2.2.2.1 0) false)
 let u8:=(cond u7 y7.2.1.1 false)
 some ((),(((cond u8 y9.2.1.1 false),()),()))
 ) (
 let u5:=(bY p0.2.2.2.1 [])
 let u6:=(cond u5 (ak p0.2.2.2.2.2.2.1 0) false)
 let u7:=(cond u6 y7.2.1.1 false)
 let u8:=(bY p0.2.2.1 [])
 some ((),(((cond u7 u8 false),()),()))
 )
 ) (
 let u3:=(j4 p0.1 103)
 Option.bind u3 fun y7 =>
 cond y7.2.1.1 (
 let u4:=(q8 p0.2.2.1)
 Option.bind u4 fun y8 =>
 let u5:=(bY p0.2.2.2.1 [])
 let u6:=(cond u5 (ak p0.2.2.2.2.2.2.1 0) false)
 let u7:=(cond u6 (ak p0.2.2.2.2.2.2.2.1 0) false)
 some ((),(((cond u7 y8.2.1.1 false),()),()))
 ) (
 let u4:=(bY p0.2.2.2.1 [])
 let u5:=(cond u4 (ak p0.2.2.2.2.2.2.1 0) false)
 let u6:=(cond u5 (ak p0.2.2.2.2.2.2.2.1 0) false)
 let u7:=(bY p0.2.2.1 [])
 some ((),(((cond u6 u7 false),()),()))
 )
 )
 )
 )
 )
 )
 )
def VR:Su:=⟨[.c true [.int .i64,.str,.str,.str,.str,.str,.int .i64,.int .i64]],[(false,[.bool])],true,.inl fun x=>IT x.1⟩
theorem Tv:ar Tryz.prog 181 VR :=
 fq (ac Mq (ac nf (ac Mn (ac IM (ac JF (ac Ru an)))))) Tryz.f181
def zA (t0:List UInt8) (t1:Int):Rd RJ Unit :=
 let u1:=(ae t0)
 cond (au 0 u1) (
 let u2:=(aI .i64 u1 1)
 cond (a7 u2 t0) (
 cond (ak (dm t0 u2) t1) (
 cond (dH 0 u2 t0) (
 some (.inl ((sub t0 0 u2),t1,()))
 ) none
 ) (
 some (.inr (.inl (t0,t1,())))
 )
 ) none
 ) (
 some (.inr (.inl (t0,t1,())))
 )
def Hc:=Qc (ai (wR zA))
def Gg (p0:List UInt8) (p1:Int):Option P2 :=
 (Hc p0 p1).bind (Sum.elim (fun y1 =>
 some ((),((y1.1,()),()))
 ) (fun y1 =>
 none
 ))
def U7:Su:=⟨[.c false [.str],.c false fx],[(false,[.str])],true,.inl fun x=>Gg x.1.1 x.2.1.1⟩
theorem Sc:ar Tryz.prog 254 U7 :=
 fl an [] [(0,⟨[.d 0 (.str),.d 1 (.int .u8)],ai (wR zA)⟩)] [] Tryz.f254 (lp [0] (sc dk sn))
def P0 (p0 p1:List UInt8):Option P2 :=
 cond (cond (bY p0 []) true (bY p1 [])) (
 some ((),((p0,()),()))
 ) (
 cond (ak (ae p1) 1) (
 cond (a7 0 p1) (
 let u1:=(dm p1 0)
 cond (au u1 128) (
 cond (a7 0 p1) (
 (Gg p0 u1).bind fun y1 =>
 some ((),(y1.2.1,()))
 ) none
 ) (
 none
 )
 ) none
 ) (
 none
 )
 )
def Xn:Su:=⟨[.c false [.str],.c false [.str]],[(false,[.str])],true,.inl fun x=>P0 x.1.1 x.2.1.1⟩
theorem SC:ar Tryz.prog 230 Xn :=
 fq (ac Sc an) Tryz.f230
def Kk (p0:List UInt8):Option P2 :=
 (P0 p0 [32]).bind fun y1 =>
 some ((),(y1.2.1,()))
def XI:Su:=⟨[.c false [.str]],[(false,[.str])],true,.inl fun x=>Kk x.1.1⟩
theorem Q6:ar Tryz.prog 180 XI :=
 fq (ac SC an) Tryz.f180
def oO (t41:List R3) (t42 t43:Int) (b1:(List UInt8)×(List iv)×Unit) (b2 b6:Int×(List UInt8)×(List UInt8)×(List UInt8)×(List UInt8)×(List UInt8)×Int×Int×Unit):Rd ((List R3)×Int×Int×C6×T8×T8×Unit) (Int×T8×Unit) :=
 cond (au t43 t42) (
 cond (a7 t43 t41) (
 (E5 b1 (gt d3 t41 t43).1).bind fun y1 =>
 cond (!y1.2.2.1.1) (
 some (.inr (.inr (1,(0,[],[],[],[],[],0,0,()),())))
 ) (
 cond (ak (gt d3 t41 t43).1 2) (
 let u1:=(aq .i64 t43 1)
 some (.inl (t41,t42,u1,b1,b2,(b6.1,y1.2.1.1,b6.2.2.1,b6.2.2.2.1,b6.2.2.2.2.1,b6.2.2.2.2.2.1,b6.2.2.2.2.2.2.1,b6.2.2.2.2.2.2.2.1,()),()))
 ) (
 cond (ak (gt d3 t41 t43).1 4) (
 let u1:=(Ck y1.2.1.1)
 Option.bind u1 fun y2 =>
 let u2:=(aq .i64 t43 1)
 some (.inl (t41,t42,u2,b1,b2,(b6.1,b6.2.1,b6.2.2.1,b6.2.2.2.1,b6.2.2.2.2.1,b6.2.2.2.2.2.1,y2.2.1.1,b6.2.2.2.2.2.2.2.1,()),()))
 ) (
 cond (ak (gt d3 t41 t43).1 11) (
 let u1:=(aq .i64 t43 1)
 some (.inl (t41,t42,u1,b1,b2,(b6.1,b6.2.1,b6.2.2.1,b6.2.2.2.1,y1.2.1.1,b6.2.2.2.2.2.1,b6.2.2.2.2.2.2.1,b6.2.2.2.2.2.2.2.1,()),()))
 ) (
 cond (ak (gt d3 t41 t43).1 14) (
 let u1:=(Ck y1.2.1.1)
 Option.bind u1 fun y2 =>
 let u2:=(aq .i64 t43 1)
 some (.inl (t41,t42,u2,b1,b2,(b6.1,b6.2.1,b6.2.2.1,b6.2.2.2.1,b6.2.2.2.2.1,b6.2.2.2.2.2.1,b6.2.2.2.2.2.2.1,y2.2.1.1,()),()))
 ) (
 cond (ak (gt d3 t41 t43).1 38) (
 (Kk y1.2.1.1).bind fun y2 =>
 let u1:=(aq .i64 t43 1)
 some (.inl (t41,t42,u1,b1,b2,(b6.1,b6.2.1,b6.2.2.1,y2.2.1.1,b6.2.2.2.2.1,b6.2.2.2.2.2.1,b6.2.2.2.2.2.2.1,b6.2.2.2.2.2.2.2.1,()),()))
 ) (
 cond (ak (gt d3 t41 t43).1 103) (
 let u1:=(aq .i64 t43 1)
 some (.inl (t41,t42,u1,b1,b2,(b6.1,b6.2.1,y1.2.1.1,b6.2.2.2.1,b6.2.2.2.2.1,b6.2.2.2.2.2.1,b6.2.2.2.2.2.2.1,b6.2.2.2.2.2.2.2.1,()),()))
 ) (
 let u1:=(aq .i64 t43 1)
 some (.inl (t41,t42,u1,b1,b2,b6,()))
 )
 )
 )
 )
 )
 )
 )
 ) none
 ) (
 some (.inr (.inl (t41,t42,t43,b1,b2,b6,())))
 )
def HO:=Ro (ai (Dt oO))
def J7 (p0:(List UInt8)×(List iv)×Unit):Option (Unit×(T8×Y0×Unit)) :=
 (LB p0).bind fun y1 =>
 cond (!y1.2.1.1) (
 some ((),((0,[],[],[],[],[],0,0,()),(1,()),()))
 ) (
 (N3 p0.1).bind fun y2 =>
 cond (!y2.2.1.1) (
 some ((),((0,[],[],[],[],[],0,0,()),(2,()),()))
 ) (
 (E5 p0 3).bind fun y3 =>
 cond (!y3.2.2.1.1) (
 some ((),((0,[],[],[],[],[],0,0,()),(1,()),()))
 ) (
 (K0).bind fun y4 =>
 (K5 y4.2.1.1 p0 y3.2.1).bind fun y5 =>
 let u1:=(aq .i64 1 y5.2.1.1)
 (yq u1).bind fun y6 =>
 cond (cS 8 [(2,()),(11,())] y6.2.1.2.2.2.1) (
 let u2:=(lO [(2,()),(11,())] y6.2.1.2.2.2.1)
 (HO u2 (ae u2) 0 p0 (0,[],[],[],[],[],0,0,()) (u1,[],[],[],[],p0.1,0,0,())).bind (Sum.elim (fun y7 =>
 (IT y7.2.2.2.2.2.1).bind fun y8 =>
 cond (!y8.2.1.1) (
 some ((),((0,[],[],[],[],[],0,0,()),(1,()),()))
 ) (
 some ((),(y7.2.2.2.2.2.1,(0,()),()))
 )
 ) (fun y7 =>
 some ((),(y7.2.1,(y7.1,()),()))
 ))
 ) none
 )
 )
 )
def Xj:Su:=⟨[.c true [.str,.sl 178 dq]],[(true,[.int .i64,.str,.str,.str,.str,.str,.int .i64,.int .i64]),(false,aK)],true,.inl fun x=>J7 x.1⟩
theorem Tc:ar Tryz.prog 127 Xj :=
 fl (ac Ng (ac Sp (ac QF (ac Rm (ac NA (ac TO (ac JF (ac Tv (ac Q6 an))))))))) [.d 3 (.int .i64),.box 2 [(false,.int .i64),(false,.str),(false,.str),(false,.str),(false,.str),(false,.str),(false,.int .i64),(false,.int .i64)]] [(0,⟨[.own 41 (.sl 3 aK),.d 42 (.int .i64),.d 43 (.int .i64),.box 1 [(false,.str),(false,.sl 178 dq)],.box 2 [(false,.int .i64),(false,.str),(false,.str),(false,.str),(false,.str),(false,.str),(false,.int .i64),(false,.int .i64)],.box 6 [(false,.int .i64),(false,.str),(false,.str),(false,.str),(false,.str),(false,.str),(false,.int .i64),(false,.int .i64)]],ai (Dt oO)⟩)] [] Tryz.f127 (lp [0] (sc dk sn))
def TA (p0:Int):Option ke :=
 cond (bC 4294967296 p0) (
 let u1:=(il .u64 p0 32)
 cond (bC 65536 u1) (
 let u2:=(il .u64 u1 16)
 cond (bC 256 u2) (
 let u3:=(bN .u8 (il .u64 u2 8))
 cond (a7 u3 nd) (
 let u4:=(aq .i64 32 16)
 some ((),(((aq .i64 (aq .i64 u4 8) (bN .i64 (dm nd u3))),()),()))
 ) none
 ) (
 let u3:=(bN .u8 u2)
 cond (a7 u3 nd) (
 let u4:=(aq .i64 32 16)
 some ((),(((aq .i64 u4 (bN .i64 (dm nd u3))),()),()))
 ) none
 )
 ) (
 cond (bC 256 u1) (
 let u2:=(bN .u8 (il .u64 u1 8))
 cond (a7 u2 nd) (
 some ((),(((aq .i64 (aq .i64 32 8) (bN .i64 (dm nd u2))),()),()))
 ) none
 ) (
 let u2:=(bN .u8 u1)
 cond (a7 u2 nd) (
 some ((),(((aq .i64 32 (bN .i64 (dm nd u2))),()),()))
 ) none
 )
 )
 ) (
 cond (bC 65536 p0) (
 let u1:=(il .u64 p0 16)
 cond (bC 256 u1) (
 let u2:=(bN .u8 (il .u64 u1 8))
 cond (a7 u2 nd) (
 let u3:=(aq .i64 0 16)
 some ((),(((aq .i64 (aq .i64 u3 8) (bN .i64 (dm nd u2))),()),()))
 ) none
 ) (
 let u2:=(bN .u8 u1)
 cond (a7 u2 nd) (
 let u3:=(aq .i64 0 16)
 some ((),(((aq .i64 u3 (bN .i64 (dm nd u2))),()),()))
 ) none
 )
 ) (
 cond (bC 256 p0) (
 let u1:=(bN .u8 (il .u64 p0 8))
 cond (a7 u1 nd) (
 some ((),(((aq .i64 (aq .i64 0 8) (bN .i64 (dm nd u1))),()),()))
 ) none
 ) (
 let u1:=(bN .u8 p0)
 cond (a7 u1 nd) (
 some ((),(((aq .i64 0 (bN .i64 (dm nd u1))),()),()))
 ) none
 )
 )
 )
def Yf:Su:=⟨[.c false [.int .u64]],[(false,aK)],true,.inl fun x=>TA x.1.1⟩
theorem SO:ar Tryz.prog 222 Yf :=
 fq an Tryz.f222
def FF (p0:Int):Option ke :=
 (TA p0).bind fun y1 =>
 some ((),(y1.2.1,()))
def Xa:Su:=⟨[.c false [.int .u64]],[(false,aK)],true,.inl fun x=>FF x.1.1⟩
theorem M3:ar Tryz.prog 167 Xa :=
 fq (ac SO an) Tryz.f167
def JN (p0:List UInt8):Option dS :=
 some ((),(((!(bY p0 p0)),()),()))
def V3:Su:=⟨[.c false [.str]],[(false,[.bool])],true,.inl fun x=>JN x.1.1⟩
theorem RY:ar Tryz.prog 261 V3 :=
 fq an Tryz.f261
def KJ (p0 p1:List UInt8):Option dS :=
 (JN p0).bind fun y1 =>
 cond y1.2.1.1 (
 (JN p1).bind fun y2 =>
 let u1:=(jT p0 p1)
 some ((),(((cond (!y2.2.1.1) true u1),()),()))
 ) (
 let u1:=(jT p0 p1)
 some ((),((u1,()),()))
 )
def QV:Su:=⟨[.c false [.str],.c false [.str]],[(false,[.bool])],true,.inl fun x=>KJ x.1.1 x.2.1.1⟩
theorem ML:ar Tryz.prog 238 QV :=
 fq (ac RY an) Tryz.f238
def u0 (t0:List R9) (t1 t2 t6 t7:Int):Rd ((List R9)×Int×Int×Int×Int×Unit) Unit :=
 cond (au t1 t7) (
 cond (a7 t7 t0) (
 let u1:=(aI .i64 t7 1)
 cond (a7 u1 t0) (
 let u2:=(gt d9 t0 t7)
 let u3:=(gt d9 t0 u1)
 (KJ u2.1 u3.1).bind fun y1 =>
 cond y1.2.1.1 (
 cond (a7 u1 t0) (
 cond (a7 t7 t0) (
 cond (a7 t7 t0) (
 let u4:=(zC t0 t7 u3)
 cond (a7 u1 u4) (
 some (.inl ((zC u4 u1 u2),t1,t2,t6,u1,()))
 ) none
 ) none
 ) none
 ) none
 ) (
 some (.inr (.inl (t0,t1,t2,t6,t7,())))
 )
 ) none
 ) none
 ) (
 some (.inr (.inl (t0,t1,t2,t6,t7,())))
 )
def vd:=zz (ai (gj u0))
def vG (t0:List R9) (t1 t2 t6:Int):Rd ((List R9)×Int×Int×Int×Unit) Unit :=
 cond (au t6 t2) (
 (vd t0 t1 t2 t6 t6).bind (Sum.elim (fun y1 =>
 some (.inl (y1.1,y1.2.1,y1.2.2.1,(aq .i64 y1.2.2.2.1 1),()))
 ) (fun y1 =>
 some (.inr (.inr ()))
 ))
 ) (
 some (.inr (.inl (t0,t1,t2,t6,())))
 )
def nX:=mU (ai (cU vG))
def NY (p0:List R9) (p1 p2:Int):Option Vr :=
 (nX p0 p1 p2 (aq .i64 p1 1)).bind (Sum.elim (fun y1 =>
 some (((y1.1,()),()),())
 ) (fun y1 =>
 none
 ))
def LX:Su:=⟨[.io false [.sl 9 wN],.c false aK,.c false aK],[],true,.inl fun x=>NY x.1.1 x.2.1.1 x.2.2.1.1⟩
def pn:List SE:=[.own 0 (.sl 9 wN),.d 1 (.int .i64),.d 2 (.int .i64),.d 6 (.int .i64),.d 7 (.int .i64)]
def qD:List SE:=[.own 0 (.sl 9 wN),.d 1 (.int .i64),.d 2 (.int .i64),.d 6 (.int .i64)]
def Ip:List SE:=[]
def Nv:Nat->Option (Lo Ip)
 | 2=>some ⟨pn,gj vd⟩
 | 0=>some ⟨qD,cU nX⟩
 | _=>none
def DP:List (Nat×Su):=[(238,QV)]
def DY:En:=⟨49,tt,iL DP,Ip,Nv,[0],fun _=>none⟩
def Ra:Nat->Option (St->Tr St)
 | 6=>some (kO DY (opsOf (bb 6 (ah Tryz.f232))) [7] [(15,2),(15,3),(15,4)])
 | _=>none
def zS:En:=⟨49,tt,iL DP,Ip,Nv,[0],Ra⟩
theorem PQ (x:bG pn):(cY zS 2 pn (aZ 2 (ah Tryz.f232)) x).run=gj u0 x:=by kernel_rfl
theorem Pp (x:bG qD):(cY zS 0 qD (aZ 0 (ah Tryz.f232)) x).run=cU vG x:=by kernel_rfl
theorem t232 (x:PT LX.ps):(Fh zS (ah Tryz.f232) Tryz.f232.results.toList LX.ps LX.rs true x).run=NY x.1.1 x.2.1.1 x.2.2.1.1:=by kernel_rfl
theorem Co:db Tryz.prog zS:=cM (l:=DP) ⟨ML,trivial⟩
theorem Fc:db Tryz.prog DY:=cM (l:=DP) ⟨ML,trivial⟩
theorem Py:cG Tryz.prog zS (bb 6 (ah Tryz.f232)) (kO DY (opsOf (bb 6 (ah Tryz.f232))) [7] [(15,2),(15,3),(15,4)]) :=
 fY rfl rfl (xv (E:=DY) (kX hT) Fc eF (c:=(bb 6 (ah Tryz.f232))) (id:=6) (by kernel_rfl))
theorem NS:bV Tryz.prog zS 2 (.loop (aZ 2 (ah Tryz.f232))) ⟨pn,gj vd⟩ :=
 eg (kX hT) Co eF (step:=fun (x:bG pn)=>u0 x.1 x.2.1 x.2.2.1 x.2.2.2.1 x.2.2.2.2.1) PQ (aV [] (by kernel_rfl) trivial [(6,bb 6 (ah Tryz.f232))] (by kernel_rfl) ⟨wO rfl Py,trivial⟩)
theorem O1:bV Tryz.prog zS 0 (.loop (aZ 0 (ah Tryz.f232))) ⟨qD,cU nX⟩ :=
 eg (kX hT) Co eF (step:=fun (x:bG qD)=>vG x.1 x.2.1 x.2.2.1 x.2.2.2.1) Pp (aV [(2,.loop (aZ 2 (ah Tryz.f232)))] (by kernel_rfl) ⟨lM rfl NS,trivial⟩ [] (by kernel_rfl) trivial)
theorem TQ:ar Tryz.prog 232 LX :=
 qt (E:=zS) (kX hT) Co eF (fn:=Tryz.f232) (c:=(ah Tryz.f232)) (by kernel_rfl) (by kernel_rfl) (by kernel_rfl) rfl (aV [(0,.loop (aZ 0 (ah Tryz.f232)))] (by kernel_rfl) ⟨lM rfl O1,trivial⟩ [] (by kernel_rfl) trivial) fun x y h=>⟨y.1,fun _=>rfl,(t232 x).trans h⟩
def Tw (p0:List R9) (p1 p2 p3:Int):Option Vr :=
 cond (bC (aI .i64 p2 p1) 12) (
 (NY p0 p1 p2).bind fun y1 =>
 some ((y1.1.1,()),())
 ) (
 cond (ak p3 0) (
 none
 ) (
 none
 )
 )
def Vx:Su:=⟨[.io false [.sl 9 wN],.c false aK,.c false aK,.c false aK],[],true,.inl fun x=>Tw x.1.1 x.2.1.1 x.2.2.1.1 x.2.2.2.1.1⟩
theorem SD:ar Tryz.prog 182 Vx :=
 fl (ac TQ an) [] [] [0] Tryz.f182 dk
def A9 (p0:List R9):Option Vr :=
 let u1:=(ae p0)
 (FF (bN .u64 u1)).bind fun y1 =>
 (Tw p0 0 u1 y1.2.1.1).bind fun y2 =>
 some ((y2.1.1,()),())
def Xq:Su:=⟨[.io false [.sl 9 wN]],[],true,.inl fun x=>A9 x.1.1⟩
theorem QR:ar Tryz.prog 128 Xq :=
 fl (ac M3 (ac SD an)) [] [] [0] Tryz.f128 dk
def yT (t0:List R9) (t3:Int):Rd ((List R9)×Int×Unit) ((List R9)×Unit) :=
 let u1:=(ae t0)
 cond (au t3 u1) (
 cond (a7 t3 t0) (
 let u2:=(aI .i64 t3 1)
 cond (a7 u2 t0) (
 cond (bY (gt d9 t0 t3).1 (gt d9 t0 u2).1) (
 let u3:=(dH t3 u1 t0)
 cond u3 (
 let u4:=(sub t0 t3 u1)
 cond (au 1 (ae u4)) (
 cond (a7 1 u4) (
 let u5:=(aI .i64 1 1)
 cond (a7 u5 u4) (
 cond (!(bY (gt d9 u4 1).1 (gt d9 u4 u5).1)) (
 cond (a7 1 u4) (
 cond (a7 t3 t0) (
 none
 ) none
 ) none
 ) (
 none
 )
 ) none
 ) none
 ) (
 cond u3 (
 let u5:=(zp d9 t0 t3)
 cond (dH 0 t3 u5) (
 some (.inr (.inr ((NJ u5 t3),())))
 ) none
 ) none
 )
 ) none
 ) (
 some (.inl (t0,(aq .i64 t3 1),()))
 )
 ) none
 ) none
 ) (
 some (.inr (.inl (t0,t3,())))
 )
def tE:=Qc (ai (wR yT))
def Fj (p0:List R9):Option TG :=
 cond (au (ae p0) 2) (
 some ((),((p0,()),()))
 ) (
 (tE p0 1).bind (Sum.elim (fun y1 =>
 some ((),((y1.1,()),()))
 ) (fun y1 =>
 some ((),(y1,()))
 ))
 )
def KX:Su:=⟨[.mv (.sl 9 wN)],[(false,[.sl 9 wN])],true,.inl fun x=>Fj x.1⟩
def pZ:List SE:=[.own 0 (.sl 9 wN),.d 3 (.int .i64)]
def Nb:List SE:=[.own 2 (.sl 9 wN)]
def RG:Nat->Option (Lo Nb)
 | 0=>some ⟨pZ,wR tE⟩
 | _=>none
def Mo:List (Nat×Su):=[]
def Tn:Nat->Option (St->Tr St)
 | 14=>some (rC 54 55 56 0 3 wN)
 | _=>none
def BL:En:=⟨61,tt,iL Mo,Nb,RG,[],Tn⟩
theorem Ok (x:bG pZ):(cY BL 0 pZ (aZ 0 (ah Tryz.f129)) x).run=wR yT x:=by kernel_rfl
theorem t129 (x:PT KX.ps):(Fh BL (ah Tryz.f129) Tryz.f129.results.toList KX.ps KX.rs true x).run=Fj x.1:=by kernel_rfl
theorem GA:db Tryz.prog BL:=cM (l:=Mo) trivial
theorem LM:cG Tryz.prog BL (bb 14 (ah Tryz.f129)) (rC 54 55 56 0 3 wN) :=
 xp (E:=BL) (kX hT) (rid:=14) (ta:=54) (tb:=55) (tc:=56) (t0:=0) (tI:=3) (ty:=111) (o1:=fC (bb 14 (ah Tryz.f129)) 0) (o2:=fC (bb 14 (ah Tryz.f129)) 1) (o3:=fC (bb 14 (ah Tryz.f129)) 2) (o4:=fC (bb 14 (ah Tryz.f129)) 3) (c:=yi (fC (bb 14 (ah Tryz.f129)) 3)) (te:=⟨false,wN,0,16,[]⟩)
  (by kernel_rfl) (by kernel_rfl) (by kernel_rfl) (by kernel_rfl) (by kernel_rfl) (by kernel_rfl) (by kernel_rfl) (by kernel_rfl) (by kernel_rfl) (by kernel_rfl) (by kernel_rfl) (by kernel_rfl) (by kernel_rfl) (by kernel_rfl) (by kernel_rfl) (by kernel_rfl) (by kernel_rfl) (by kernel_rfl) (by kernel_rfl) (by kernel_rfl) (by kernel_rfl)
theorem O6:bV Tryz.prog BL 0 (.loop (aZ 0 (ah Tryz.f129))) ⟨pZ,wR tE⟩ :=
 eg (kX hT) GA eF (step:=fun (x:bG pZ)=>yT x.1 x.2.1) Ok (aV [] (by kernel_rfl) trivial [(14,bb 14 (ah Tryz.f129))] (by kernel_rfl) ⟨wO rfl LM,trivial⟩)
theorem Rc:ar Tryz.prog 129 KX :=
 qt (E:=BL) (kX hT) GA eF (fn:=Tryz.f129) (c:=(ah Tryz.f129)) (by kernel_rfl) (by kernel_rfl) (by kernel_rfl) rfl (aV [(0,.loop (aZ 0 (ah Tryz.f129)))] (by kernel_rfl) ⟨lM rfl O6,trivial⟩ [] (by kernel_rfl) trivial) fun x y h=>⟨y.1,fun _=>rfl,(t129 x).trans h⟩
def UW (p0:List R5):Option TG :=
 (KB p0).bind fun y1 =>
 (J7 y1.2.1).bind fun y2 =>
 cond (cond (!(ak y1.2.2.1.1 0)) true (!(ak y2.2.2.1.1 0))) (
 some ((),(([],()),()))
 ) (
 cond (ak y2.2.1.1 6) (
 cond (cS 16 [(y2.2.1.2.1,())] [(y2.2.1.2.2.1,())]) (
 (A9 (lO [(y2.2.1.2.1,())] [(y2.2.1.2.2.1,())])).bind fun y3 =>
 let u1:=(Fj y3.1.1.1)
 Option.bind u1 fun y4 =>
 some ((),(y4.2.1,()))
 ) none
 ) (
 (A9 [(y2.2.1.2.1,())]).bind fun y3 =>
 let u1:=(Fj y3.1.1.1)
 Option.bind u1 fun y4 =>
 some ((),(y4.2.1,()))
 )
 )
def YL:Su:=⟨[.c false [.sl 5 fx]],[(false,[.sl 9 wN])],true,.inl fun x=>UW x.1.1⟩
theorem W0:ar Tryz.prog 95 YL :=
 fq (ac Qv (ac Tc (ac QR (ac Rc an)))) Tryz.f95
def L3 (p0:Int):Option dS :=
 some ((),(((!(ak p0 p0)),()),()))
def U9:Su:=⟨[.c false aK],[(false,[.bool])],true,.inl fun x=>L3 x.1.1⟩
theorem Ub:ar Tryz.prog 249 U9 :=
 fq an Tryz.f249
def Lf (p0 p1:Int):Option dS :=
 (L3 p0).bind fun y1 =>
 cond y1.2.1.1 (
 (L3 p1).bind fun y2 =>
 some ((),(((cond (!y2.2.1.1) true (au p0 p1)),()),()))
 ) (
 some ((),(((au p0 p1),()),()))
 )
def Q8:Su:=⟨[.c false aK,.c false aK],[(false,[.bool])],true,.inl fun x=>Lf x.1.1 x.2.1.1⟩
theorem Ny:ar Tryz.prog 218 Q8 :=
 fq (ac Ub an) Tryz.f218
def vl (t0:List R3) (t1 t2 t6 t7:Int):Rd ((List R3)×Int×Int×Int×Int×Unit) Unit :=
 cond (au t1 t7) (
 cond (a7 t7 t0) (
 let u1:=(aI .i64 t7 1)
 cond (a7 u1 t0) (
 let u2:=(gt d3 t0 t7)
 let u3:=(gt d3 t0 u1)
 (Lf u2.1 u3.1).bind fun y1 =>
 cond y1.2.1.1 (
 cond (a7 u1 t0) (
 cond (a7 t7 t0) (
 cond (a7 t7 t0) (
 let u4:=(zC t0 t7 u3)
 cond (a7 u1 u4) (
 some (.inl ((zC u4 u1 u2),t1,t2,t6,u1,()))
 ) none
 ) none
 ) none
 ) none
 ) (
 some (.inr (.inl (t0,t1,t2,t6,t7,())))
 )
 ) none
 ) none
 ) (
 some (.inr (.inl (t0,t1,t2,t6,t7,())))
 )
def uD:=zz (ai (gj vl))
def vq (t0:List R3) (t1 t2 t6:Int):Rd ((List R3)×Int×Int×Int×Unit) Unit :=
 cond (au t6 t2) (
 (uD t0 t1 t2 t6 t6).bind (Sum.elim (fun y1 =>
 some (.inl (y1.1,y1.2.1,y1.2.2.1,(aq .i64 y1.2.2.2.1 1),()))
 ) (fun y1 =>
 some (.inr (.inr ()))
 ))
 ) (
 some (.inr (.inl (t0,t1,t2,t6,())))
 )
def lA:=mU (ai (cU vq))
def OS (p0:List R3) (p1 p2:Int):Option Yi :=
 (lA p0 p1 p2 (aq .i64 p1 1)).bind (Sum.elim (fun y1 =>
 some (((y1.1,()),()),())
 ) (fun y1 =>
 none
 ))
def KY:Su:=⟨[.io false [.sl 3 aK],.c false aK,.c false aK],[],true,.inl fun x=>OS x.1.1 x.2.1.1 x.2.2.1.1⟩
def pI:List SE:=[.own 0 (.sl 3 aK),.d 1 (.int .i64),.d 2 (.int .i64),.d 6 (.int .i64),.d 7 (.int .i64)]
def pw:List SE:=[.own 0 (.sl 3 aK),.d 1 (.int .i64),.d 2 (.int .i64),.d 6 (.int .i64)]
def GU:List SE:=[]
def Nt:Nat->Option (Lo GU)
 | 2=>some ⟨pI,gj uD⟩
 | 0=>some ⟨pw,cU lA⟩
 | _=>none
def C8:List (Nat×Su):=[(218,Q8)]
def C0:En:=⟨49,tt,iL C8,GU,Nt,[0],fun _=>none⟩
def RK:Nat->Option (St->Tr St)
 | 6=>some (kO C0 (opsOf (bb 6 (ah Tryz.f212))) [7] [(15,2),(15,3),(15,4)])
 | _=>none
def zO:En:=⟨49,tt,iL C8,GU,Nt,[0],RK⟩
theorem PD (x:bG pI):(cY zO 2 pI (aZ 2 (ah Tryz.f212)) x).run=gj vl x:=by kernel_rfl
theorem Pf (x:bG pw):(cY zO 0 pw (aZ 0 (ah Tryz.f212)) x).run=cU vq x:=by kernel_rfl
theorem t212 (x:PT KY.ps):(Fh zO (ah Tryz.f212) Tryz.f212.results.toList KY.ps KY.rs true x).run=OS x.1.1 x.2.1.1 x.2.2.1.1:=by kernel_rfl
theorem Ci:db Tryz.prog zO:=cM (l:=C8) ⟨Ny,trivial⟩
theorem Fp:db Tryz.prog C0:=cM (l:=C8) ⟨Ny,trivial⟩
theorem N7:cG Tryz.prog zO (bb 6 (ah Tryz.f212)) (kO C0 (opsOf (bb 6 (ah Tryz.f212))) [7] [(15,2),(15,3),(15,4)]) :=
 fY rfl rfl (xv (E:=C0) (kX hT) Fp eF (c:=(bb 6 (ah Tryz.f212))) (id:=6) (by kernel_rfl))
theorem N1:bV Tryz.prog zO 2 (.loop (aZ 2 (ah Tryz.f212))) ⟨pI,gj uD⟩ :=
 eg (kX hT) Ci eF (step:=fun (x:bG pI)=>vl x.1 x.2.1 x.2.2.1 x.2.2.2.1 x.2.2.2.2.1) PD (aV [] (by kernel_rfl) trivial [(6,bb 6 (ah Tryz.f212))] (by kernel_rfl) ⟨wO rfl N7,trivial⟩)
theorem Pz:bV Tryz.prog zO 0 (.loop (aZ 0 (ah Tryz.f212))) ⟨pw,cU lA⟩ :=
 eg (kX hT) Ci eF (step:=fun (x:bG pw)=>vq x.1 x.2.1 x.2.2.1 x.2.2.2.1) Pf (aV [(2,.loop (aZ 2 (ah Tryz.f212)))] (by kernel_rfl) ⟨lM rfl N1,trivial⟩ [] (by kernel_rfl) trivial)
theorem QS:ar Tryz.prog 212 KY :=
 qt (E:=zO) (kX hT) Ci eF (fn:=Tryz.f212) (c:=(ah Tryz.f212)) (by kernel_rfl) (by kernel_rfl) (by kernel_rfl) rfl (aV [(0,.loop (aZ 0 (ah Tryz.f212)))] (by kernel_rfl) ⟨lM rfl Pz,trivial⟩ [] (by kernel_rfl) trivial) fun x y h=>⟨y.1,fun _=>rfl,(t212 x).trans h⟩
def Q7 (p0:List R3) (p1 p2 p3:Int):Option Yi :=
 cond (bC (aI .i64 p2 p1) 12) (
 (OS p0 p1 p2).bind fun y1 =>
 some ((y1.1.1,()),())
 ) (
 cond (ak p3 0) (
 none
 ) (
 none
 )
 )
def Xf:Su:=⟨[.io false [.sl 3 aK],.c false aK,.c false aK,.c false aK],[],true,.inl fun x=>Q7 x.1.1 x.2.1.1 x.2.2.1.1 x.2.2.2.1.1⟩
theorem QD:ar Tryz.prog 166 Xf :=
 fl (ac QS an) [] [] [0] Tryz.f166 dk
def tL (p0:List R3):Option Yi :=
 let u1:=(ae p0)
 (FF (bN .u64 u1)).bind fun y1 =>
 (Q7 p0 0 u1 y1.2.1.1).bind fun y2 =>
 some ((y2.1.1,()),())
def Wq:Su:=⟨[.io false [.sl 3 aK]],[],true,.inl fun x=>tL x.1.1⟩
theorem TE:ar Tryz.prog 124 Wq :=
 fl (ac M3 (ac QD an)) [] [] [0] Tryz.f124 dk
def yz (t0:List R3) (t3:Int):Rd ((List R3)×Int×Unit) Et :=
 let u1:=(ae t0)
 cond (au t3 u1) (
 cond (a7 t3 t0) (
 let u2:=(aI .i64 t3 1)
 cond (a7 u2 t0) (
 cond (ak (gt d3 t0 t3).1 (gt d3 t0 u2).1) (
 let u3:=(dH t3 u1 t0)
 cond u3 (
 let u4:=(sub t0 t3 u1)
 cond (au 1 (ae u4)) (
 cond (a7 1 u4) (
 let u5:=(aI .i64 1 1)
 cond (a7 u5 u4) (
 cond (!(ak (gt d3 u4 1).1 (gt d3 u4 u5).1)) (
 cond (a7 1 u4) (
 cond (a7 t3 t0) (
 none
 ) none
 ) none
 ) (
 none
 )
 ) none
 ) none
 ) (
 cond u3 (
 let u5:=(zp d3 t0 t3)
 cond (dH 0 t3 u5) (
 some (.inr (.inr ((NJ u5 t3),())))
 ) none
 ) none
 )
 ) none
 ) (
 some (.inl (t0,(aq .i64 t3 1),()))
 )
 ) none
 ) none
 ) (
 some (.inr (.inl (t0,t3,())))
 )
def uM:=Qc (ai (wR yz))
def Jq (p0:List R3):Option Ni :=
 cond (au (ae p0) 2) (
 some ((),((p0,()),()))
 ) (
 (uM p0 1).bind (Sum.elim (fun y1 =>
 some ((),((y1.1,()),()))
 ) (fun y1 =>
 some ((),(y1,()))
 ))
 )
def KZ:Su:=⟨[.mv (.sl 3 aK)],[(false,gq)],true,.inl fun x=>Jq x.1⟩
def pP:List SE:=[.own 0 (.sl 3 aK),.d 3 (.int .i64)]
def Mf:List SE:=[.own 2 (.sl 3 aK)]
def Rs:Nat->Option (Lo Mf)
 | 0=>some ⟨pP,wR uM⟩
 | _=>none
def Mp:List (Nat×Su):=[]
def TW:Nat->Option (St->Tr St)
 | 14=>some (rC 54 55 56 0 3 aK)
 | _=>none
def B0:En:=⟨61,tt,iL Mp,Mf,Rs,[],TW⟩
theorem Pr (x:bG pP):(cY B0 0 pP (aZ 0 (ah Tryz.f125)) x).run=wR yz x:=by kernel_rfl
theorem t125 (x:PT KZ.ps):(Fh B0 (ah Tryz.f125) Tryz.f125.results.toList KZ.ps KZ.rs true x).run=Jq x.1:=by kernel_rfl
theorem GP:db Tryz.prog B0:=cM (l:=Mp) trivial
theorem JY:cG Tryz.prog B0 (bb 14 (ah Tryz.f125)) (rC 54 55 56 0 3 aK) :=
 xp (E:=B0) (kX hT) (rid:=14) (ta:=54) (tb:=55) (tc:=56) (t0:=0) (tI:=3) (ty:=53) (o1:=fC (bb 14 (ah Tryz.f125)) 0) (o2:=fC (bb 14 (ah Tryz.f125)) 1) (o3:=fC (bb 14 (ah Tryz.f125)) 2) (o4:=fC (bb 14 (ah Tryz.f125)) 3) (c:=yi (fC (bb 14 (ah Tryz.f125)) 3)) (te:=⟨false,aK,0,8,[]⟩)
  (by kernel_rfl) (by kernel_rfl) (by kernel_rfl) (by kernel_rfl) (by kernel_rfl) (by kernel_rfl) (by kernel_rfl) (by kernel_rfl) (by kernel_rfl) (by kernel_rfl) (by kernel_rfl) (by kernel_rfl) (by kernel_rfl) (by kernel_rfl) (by kernel_rfl) (by kernel_rfl) (by kernel_rfl) (by kernel_rfl) (by kernel_rfl) (by kernel_rfl) (by kernel_rfl)
theorem O3:bV Tryz.prog B0 0 (.loop (aZ 0 (ah Tryz.f125))) ⟨pP,wR uM⟩ :=
 eg (kX hT) GP eF (step:=fun (x:bG pP)=>yz x.1 x.2.1) Pr (aV [] (by kernel_rfl) trivial [(14,bb 14 (ah Tryz.f125))] (by kernel_rfl) ⟨wO rfl JY,trivial⟩)
theorem QT:ar Tryz.prog 125 KZ :=
 qt (E:=B0) (kX hT) GP eF (fn:=Tryz.f125) (c:=(ah Tryz.f125)) (by kernel_rfl) (by kernel_rfl) (by kernel_rfl) rfl (aV [(0,.loop (aZ 0 (ah Tryz.f125)))] (by kernel_rfl) ⟨lM rfl O3,trivial⟩ [] (by kernel_rfl) trivial) fun x y h=>⟨y.1,fun _=>rfl,(t125 x).trans h⟩
def uq (t1:Int) (t5:List R3) (t9:List R9) (t10 t11:Int):Rd (Int×(List R3)×(List R9)×Int×Int×Unit) Unit :=
 cond (au t11 t10) (
 cond (a7 t11 t9) (
 (Sj (gt d9 t9 t11).1 t1).bind fun y1 =>
 cond (cS 8 t5 [y1.2.1]) (
 some (.inl (t1,(lO t5 [y1.2.1]),t9,t10,(aq .i64 t11 1),()))
 ) none
 ) none
 ) (
 some (.inr (.inl (t1,t5,t9,t10,t11,())))
 )
def MK:=zz (ai (gj uq))
def UY (p0:List R9) (p1:Int):Option Ni :=
 (MK p1 [] p0 (ae p0) 0).bind (Sum.elim (fun y1 =>
 (tL y1.2.1).bind fun y2 =>
 (Jq y2.1.1.1).bind fun y3 =>
 some ((),(y3.2.1,()))
 ) (fun y1 =>
 none
 ))
def Zl:Su:=⟨[.c false [.sl 9 wN],.c false aK],[(false,gq)],true,.inl fun x=>UY x.1.1 x.2.1.1⟩
theorem V5:ar Tryz.prog 94 Zl :=
 fl (ac So (ac TE (ac QT an))) [] [(0,⟨[.d 1 (.int .i64),.own 5 (.sl 3 aK),.d 9 (.sl 9 wN),.d 10 (.int .i64),.d 11 (.int .i64)],ai (gj uq)⟩)] [] Tryz.f94 (lp [0] (sc dk sn))
def UE (p0:(List R5)×Int×(List R3)×Int×Int×Int×Int×Int×(List R5)×Unit) (p1:Int):Option Ni :=
 (UW p0.1).bind fun y1 =>
 (UY y1.2.1.1 p1).bind fun y2 =>
 some ((),(y2.2.1,()))
def Zq:Su:=⟨[.c true gJ,.c false aK],[(false,gq)],true,.inl fun x=>UE x.1 x.2.1.1⟩
theorem Wm:ar Tryz.prog 71 Zq :=
 fq (ac W0 (ac V5 an)) Tryz.f71
def MX (t0 t1:List R3) (t12 t13:Int):Rd ((List R3)×(List R3)×Int×Int×Unit) Y1 :=
 cond (au t13 t12) (
 cond (a7 t13 t0) (
 cond (a7 t13 t1) (
 cond (!(ak (gt d3 t0 t13).1 (gt d3 t1 t13).1)) (
 some (.inr (.inr (false,())))
 ) (
 some (.inl (t0,t1,t12,(aq .i64 t13 1),()))
 )
 ) none
 ) none
 ) (
 some (.inr (.inl (t0,t1,t12,t13,())))
 )
def Ui:=mU (ai (cU MX))
def WE (p0 p1:List R3):Option dS :=
 let u1:=(ae p0)
 cond (!(ak u1 (ae p1))) (
 some ((),((false,()),()))
 ) (
 (Ui p0 p1 u1 0).bind (Sum.elim (fun y1 =>
 some ((),((true,()),()))
 ) (fun y1 =>
 some ((),(y1,()))
 ))
 )
def ZC:Su:=⟨[.c false gq,.c false gq],[(false,[.bool])],true,.inl fun x=>WE x.1.1 x.2.1.1⟩
theorem XO:ar Tryz.prog 70 ZC :=
 fl an [.d 4 (.bool)] [(0,⟨[.d 0 (.sl 3 aK),.d 1 (.sl 3 aK),.d 12 (.int .i64),.d 13 (.int .i64)],ai (cU MX)⟩)] [] Tryz.f70 (lp [0] (sc dk sn))
def QE (p0:(List R5)×Int×(List R3)×Int×Int×Int×Int×Int×(List R5)×Unit) (p1:Int):Option dS :=
 (ni p1 1 5).bind fun y1 =>
 cond (!y1.2.1.1) (
 some ((),((false,()),()))
 ) (
 (Uk p0.2.1).bind fun y2 =>
 let u1:=(ae p0.2.2.2.2.2.2.2.2.1)
 cond (cond (cond (bY y2.2.1.1 []) true (au 300 (ae p0.1))) true (au 200 u1)) (
 some ((),((false,()),()))
 ) (
 (sS p0.2.2.2.2.1).bind fun y3 =>
 cond (!y3.2.1.1) (
 some ((),((false,()),()))
 ) (
 (sS p0.2.2.2.2.2.2.2.1).bind fun y4 =>
 cond (!y4.2.1.1) (
 some ((),((false,()),()))
 ) (
 cond (ak p0.2.1 0) (
 let u2:=(ae p0.2.2.1)
 cond (au 0 u2) (
 some ((),((false,()),()))
 ) (
 cond (ak p0.2.1 1) (
 let u3:=(ni p0.2.2.2.1 0 (aI .i64 u2 1))
 Option.bind u3 fun y5 =>
 cond (!y5.2.1.1) (
 some ((),((false,()),()))
 ) (
 cond (au p0.2.1 3) (
 some ((),(((cond (cond (cond (ak p0.2.2.2.2.2.1 (-1)) (ak p0.2.2.2.2.2.2.1 (-1)) false) (ak p0.2.2.2.2.2.2.2.1 0) false) (ak u1 0) false),()),()))
 ) (
 let u4:=(sS p0.2.2.2.2.2.1)
 Option.bind u4 fun y6 =>
 let u5:=(cond (!y6.2.1.1) true (au p0.2.2.2.2.2.1 p0.2.2.2.2.1))
 cond u5 (
 some ((),((false,()),()))
 ) (
 cond (ak p0.2.1 5) (
 let u6:=(sS p0.2.2.2.2.2.2.1)
 Option.bind u6 fun y7 =>
 some ((),(((cond y7.2.1.1 (bC p0.2.2.2.2.2.1 p0.2.2.2.2.2.2.1) false),()),()))
 ) (
 some ((),(((ak p0.2.2.2.2.2.2.1 (-1)),()),()))
 )
 )
 )
 )
 ) (
 cond (ak p0.2.1 2) (
 cond (!(cond (ak p0.2.2.2.1 u2) (au 0 u2) false)) (
 some ((),((false,()),()))
 ) (
 cond (au p0.2.1 3) (
 some ((),(((cond (cond (cond (ak p0.2.2.2.2.2.1 (-1)) (ak p0.2.2.2.2.2.2.1 (-1)) false) (ak p0.2.2.2.2.2.2.2.1 0) false) (ak u1 0) false),()),()))
 ) (
 let u3:=(sS p0.2.2.2.2.2.1)
 Option.bind u3 fun y5 =>
 let u4:=(cond (!y5.2.1.1) true (au p0.2.2.2.2.2.1 p0.2.2.2.2.1))
 cond u4 (
 some ((),((false,()),()))
 ) (
 cond (ak p0.2.1 5) (
 let u5:=(sS p0.2.2.2.2.2.2.1)
 Option.bind u5 fun y6 =>
 some ((),(((cond y6.2.1.1 (bC p0.2.2.2.2.2.1 p0.2.2.2.2.2.2.1) false),()),()))
 ) (
 some ((),(((ak p0.2.2.2.2.2.2.1 (-1)),()),()))
 )
 )
 )
 )
 ) (
 cond (ak p0.2.1 3) (
 let u3:=(ni p0.2.2.2.1 1 u2)
 Option.bind u3 fun y5 =>
 cond (!y5.2.1.1) (
 some ((),((false,()),()))
 ) (
 cond (au p0.2.1 3) (
 some ((),(((cond (cond (cond (ak p0.2.2.2.2.2.1 (-1)) (ak p0.2.2.2.2.2.2.1 (-1)) false) (ak p0.2.2.2.2.2.2.2.1 0) false) (ak u1 0) false),()),()))
 ) (
 let u4:=(sS p0.2.2.2.2.2.1)
 Option.bind u4 fun y6 =>
 let u5:=(cond (!y6.2.1.1) true (au p0.2.2.2.2.2.1 p0.2.2.2.2.1))
 cond u5 (
 some ((),((false,()),()))
 ) (
 cond (ak p0.2.1 5) (
 let u6:=(sS p0.2.2.2.2.2.2.1)
 Option.bind u6 fun y7 =>
 some ((),(((cond y7.2.1.1 (bC p0.2.2.2.2.2.1 p0.2.2.2.2.2.2.1) false),()),()))
 ) (
 some ((),(((ak p0.2.2.2.2.2.2.1 (-1)),()),()))
 )
 )
 )
 )
 ) (
 cond (!(ak p0.2.2.2.1 0)) (
 some ((),((false,()),()))
 ) (
 cond (au p0.2.1 3) (
 some ((),(((cond (cond (cond (ak p0.2.2.2.2.2.1 (-1)) (ak p0.2.2.2.2.2.2.1 (-1)) false) (ak p0.2.2.2.2.2.2.2.1 0) false) (ak u1 0) false),()),()))
 ) (
 let u3:=(sS p0.2.2.2.2.2.1)
 Option.bind u3 fun y5 =>
 let u4:=(cond (!y5.2.1.1) true (au p0.2.2.2.2.2.1 p0.2.2.2.2.1))
 cond u4 (
 some ((),((false,()),()))
 ) (
 cond (ak p0.2.1 5) (
 let u5:=(sS p0.2.2.2.2.2.2.1)
 Option.bind u5 fun y6 =>
 some ((),(((cond y6.2.1.1 (bC p0.2.2.2.2.2.1 p0.2.2.2.2.2.2.1) false),()),()))
 ) (
 some ((),(((ak p0.2.2.2.2.2.2.1 (-1)),()),()))
 )
 )
 )
 )
 )
 )
 )
 )
 ) (
 (UE p0 p1).bind fun y5 =>
 (WE p0.2.2.1 y5.2.1.1).bind fun y6 =>
 cond (!y6.2.1.1) (
 some ((),((false,()),()))
 ) (
 cond (ak p0.2.1 1) (
 let u2:=(ae p0.2.2.1)
 let u3:=(ni p0.2.2.2.1 0 (aI .i64 u2 1))
 Option.bind u3 fun y7 =>
 cond (!y7.2.1.1) (
 some ((),((false,()),()))
 ) (
 cond (au p0.2.1 3) (
 some ((),(((cond (cond (cond (ak p0.2.2.2.2.2.1 (-1)) (ak p0.2.2.2.2.2.2.1 (-1)) false) (ak p0.2.2.2.2.2.2.2.1 0) false) (ak u1 0) false),()),()))
 ) (
 let u4:=(sS p0.2.2.2.2.2.1)
 Option.bind u4 fun y8 =>
 let u5:=(cond (!y8.2.1.1) true (au p0.2.2.2.2.2.1 p0.2.2.2.2.1))
 cond u5 (
 some ((),((false,()),()))
 ) (
 cond (ak p0.2.1 5) (
 let u6:=(sS p0.2.2.2.2.2.2.1)
 Option.bind u6 fun y9 =>
 some ((),(((cond y9.2.1.1 (bC p0.2.2.2.2.2.1 p0.2.2.2.2.2.2.1) false),()),()))
 ) (
 some ((),(((ak p0.2.2.2.2.2.2.1 (-1)),()),()))
 )
 )
 )
 )
 ) (
 cond (ak p0.2.1 2) (
 let u2:=(ae p0.2.2.1)
 cond (!(cond (ak p0.2.2.2.1 u2) (au 0 u2) false)) (
 some ((),((false,()),()))
 ) (
 cond (au p0.2.1 3) (
 some ((),(((cond (cond (cond (ak p0.2.2.2.2.2.1 (-1)) (ak p0.2.2.2.2.2.2.1 (-1)) false) (ak p0.2.2.2.2.2.2.2.1 0) false) (ak u1 0) false),()),()))
 ) (
 let u3:=(sS p0.2.2.2.2.2.1)
 Option.bind u3 fun y7 =>
 let u4:=(cond (!y7.2.1.1) true (au p0.2.2.2.2.2.1 p0.2.2.2.2.1))
 cond u4 (
 some ((),((false,()),()))
 ) (
 cond (ak p0.2.1 5) (
 let u5:=(sS p0.2.2.2.2.2.2.1)
 Option.bind u5 fun y8 =>
 some ((),(((cond y8.2.1.1 (bC p0.2.2.2.2.2.1 p0.2.2.2.2.2.2.1) false),()),()))
 ) (
 some ((),(((ak p0.2.2.2.2.2.2.1 (-1)),()),()))
 )
 )
 )
 )
 ) (
 cond (ak p0.2.1 3) (
 let u2:=(ae p0.2.2.1)
 let u3:=(ni p0.2.2.2.1 1 u2)
 Option.bind u3 fun y7 =>
 cond (!y7.2.1.1) (
 some ((),((false,()),()))
 ) (
 cond (au p0.2.1 3) (
 some ((),(((cond (cond (cond (ak p0.2.2.2.2.2.1 (-1)) (ak p0.2.2.2.2.2.2.1 (-1)) false) (ak p0.2.2.2.2.2.2.2.1 0) false) (ak u1 0) false),()),()))
 ) (
 let u4:=(sS p0.2.2.2.2.2.1)
 Option.bind u4 fun y8 =>
 let u5:=(cond (!y8.2.1.1) true (au p0.2.2.2.2.2.1 p0.2.2.2.2.1))
 cond u5 (
 some ((),((false,()),()))
 ) (
 cond (ak p0.2.1 5) (
 let u6:=(sS p0.2.2.2.2.2.2.1)
 Option.bind u6 fun y9 =>
 some ((),(((cond y9.2.1.1 (bC p0.2.2.2.2.2.1 p0.2.2.2.2.2.2.1) false),()),()))
 ) (
 some ((),(((ak p0.2.2.2.2.2.2.1 (-1)),()),()))
 )
 )
 )
 )
 ) (
 cond (!(ak p0.2.2.2.1 0)) (
 some ((),((false,()),()))
 ) (
 cond (au p0.2.1 3) (
 some ((),(((cond (cond (cond (ak p0.2.2.2.2.2.1 (-1)) (ak p0.2.2.2.2.2.2.1 (-1)) false) (ak p0.2.2.2.2.2.2.2.1 0) false) (ak u1 0) false),()),()))
 ) (
 let u2:=(sS p0.2.2.2.2.2.1)
 Option.bind u2 fun y7 =>
 let u3:=(cond (!y7.2.1.1) true (au p0.2.2.2.2.2.1 p0.2.2.2.2.1))
 cond u3 (
 some ((),((false,()),()))
 ) (
 cond (ak p0.2.1 5) (
 let u4:=(sS p0.2.2.2.2.2.2.1)
 Option.bind u4 fun y8 =>
 some ((),(((cond y8.2.1.1 (bC p0.2.2.2.2.2.1 p0.2.2.2.2.2.2.1) false),()),()))
 ) (
 some ((),(((ak p0.2.2.2.2.2.2.1 (-1)),()),()))
 )
 )
 )
 )
 )
 )
 )
 )
 )
 )
 )
 )
 )
def Zk:Su:=⟨[.c true gJ,.c false aK],[(false,[.bool])],true,.inl fun x=>QE x.1 x.2.1.1⟩
theorem VX:ar Tryz.prog 39 Zk :=
 fq (ac nf (ac JR (ac XA (ac Wm (ac XO an))))) Tryz.f39
def UA (p0:(List R5)×Int×(List R3)×Int×Int×Int×Int×Int×(List R5)×Unit) (p1:Int):Option dS :=
 let u1:=(FD 0 (Ex p0.2.2.2.1 (ae p0.2.2.1)))
 cond (dH 0 u1 p0.2.2.1) (
 (O7 (sub p0.2.2.1 0 u1) p1).bind fun y1 =>
 some ((),(y1.2.1,()))
 ) none
def YR:Su:=⟨[.c true gJ,.c false aK],[(false,[.bool])],true,.inl fun x=>UA x.1 x.2.1.1⟩
theorem Wk:ar Tryz.prog 41 YR :=
 fq (ac OR an) Tryz.f41
def uI (t3:List R3) (t36:List j9) (t37 t38:Int) (t61:List R3) (t62 t63:Int) (b1:(List gb)×Int×Int×(List j9)×Unit):Rd ((List R3)×(List j9)×Int×Int×(List R3)×Int×Int×MO×Unit) Y1 :=
 cond (au t63 t62) (
 cond (a7 t63 t61) (
 let u1:=(gt d3 t61 t63)
 cond (ak u1.1 (-1)) (
 let u2:=(aq .i64 t63 1)
 some (.inl (t3,t36,t37,t38,t61,t62,u2,b1,()))
 ) (
 cond (bC b1.2.2.1 u1.1) (
 some (.inr (.inr (false,())))
 ) (
 (O7 t3 u1.1).bind fun y1 =>
 cond y1.2.1.1 (
 some (.inr (.inr (false,())))
 ) (
 cond (cS 8 t3 [u1]) (
 let u2:=(aq .i64 t63 1)
 some (.inl ((lO t3 [u1]),t36,t37,t38,t61,t62,u2,b1,()))
 ) none
 )
 )
 )
 ) none
 ) (
 some (.inr (.inl (t3,t36,t37,t38,t61,t62,t63,b1,())))
 )
def Mr:=Qq (ai (xd uI))
def vr (t3:List R3) (t36:List j9) (t37 t38:Int) (b1:(List gb)×Int×Int×(List j9)×Unit):Rd ((List R3)×(List j9)×Int×Int×MO×Unit) Y1 :=
 cond (au t38 t37) (
 cond (a7 t38 t36) (
 let u1:=(gt d64 t36 t38)
 (QE u1 (ae b1.1)).bind fun y1 =>
 cond (cond (!y1.2.1.1) true (au b1.2.1 u1.2.2.2.2.2.2.2.1)) (
 some (.inr (.inr (false,())))
 ) (
 (Mr t3 t36 t37 t38 [(u1.2.2.2.2.1,()),(u1.2.2.2.2.2.1,()),(u1.2.2.2.2.2.2.1,())] (ae [(u1.2.2.2.2.1,()),(u1.2.2.2.2.2.1,()),(u1.2.2.2.2.2.2.1,())]) 0 b1).bind (Sum.elim (fun y2 =>
 some (.inl (y2.1,y2.2.1,y2.2.2.1,(aq .i64 y2.2.2.2.1 1),y2.2.2.2.2.2.2.2.1,()))
 ) (fun y2 =>
 some (.inr (.inr (y2.1,())))
 ))
 )
 ) none
 ) (
 some (.inr (.inl (t3,t36,t37,t38,b1,())))
 )
def MY:=zz (ai (gj vr))
def uW (t8:Int) (t85:List gb) (t86 t87:Int) (t99:List j9) (t100 t101:Int) (b1:(List gb)×Int×Int×(List j9)×Unit) (b9:Int×(List de)×Unit):Rd (Int×(List gb)×Int×Int×(List j9)×Int×Int×MO×Y8×Unit) Y1 :=
 cond (au t101 t100) (
 cond (a7 t101 t99) (
 (UA (gt d64 t99 t101) t8).bind fun y1 =>
 cond (!(Ls y1.2.1.1 (ak b9.1 t101))) (
 some (.inr (.inr (false,())))
 ) (
 some (.inl (t8,t85,t86,t87,t99,t100,(aq .i64 t101 1),b1,b9,()))
 )
 ) none
 ) (
 some (.inr (.inl (t8,t85,t86,t87,t99,t100,t101,b1,b9,())))
 )
def Md:=TZ (ai (B9 uW))
def uF (t85:List gb) (t86 t87:Int) (b1:(List gb)×Int×Int×(List j9)×Unit):Rd ((List gb)×Int×Int×MO×Unit) Y1 :=
 cond (au t87 t86) (
 cond (a7 t87 t85) (
 let u1:=(ae b1.2.2.2.1)
 let u2:=(gt d67 t85 t87)
 cond (bC u1 u2.1) (
 some (.inr (.inr (false,())))
 ) (
 (Md t87 t85 t86 t87 b1.2.2.2.1 u1 0 b1 u2).bind (Sum.elim (fun y1 =>
 some (.inl (y1.2.1,y1.2.2.1,(aq .i64 y1.2.2.2.1 1),y1.2.2.2.2.2.2.2.1,()))
 ) (fun y1 =>
 some (.inr (.inr (y1.1,())))
 ))
 )
 ) none
 ) (
 some (.inr (.inl (t85,t86,t87,b1,())))
 )
def Mk:=mU (ai (cU uF))
def g11 (p0:(List gb)×Int×Int×(List j9)×Unit):Option dS :=
 (UD p0.1).bind fun y1 =>
 cond (!y1.2.1.1) (
 some ((),((false,()),()))
 ) (
 (sS p0.2.1).bind fun y2 =>
 cond (!y2.2.1.1) (
 some ((),((false,()),()))
 ) (
 (sS p0.2.2.1).bind fun y3 =>
 let u1:=(ae p0.2.2.2.1)
 cond (cond (!y3.2.1.1) true (au 12 u1)) (
 some ((),((false,()),()))
 ) (
 (MY [] p0.2.2.2.1 u1 0 p0).bind (Sum.elim (fun y4 =>
 (Mk y4.2.2.2.2.1.1 (ae y4.2.2.2.2.1.1) 0 y4.2.2.2.2.1).bind (Sum.elim (fun y5 =>
 some ((),((true,()),()))
 ) (fun y5 =>
 some ((),(y5,()))
 ))
 ) (fun y4 =>
 some ((),(y4,()))
 ))
 )
 )
 )
def Zf:Su:=⟨[.c true [.sl 67 cR,.int .i64,.int .i64,.sl 64 eG]],[(false,[.bool])],true,.inl fun x=>g11 x.1⟩
theorem W6:ar Tryz.prog 11 Zf :=
 fl (ac JR (ac Xy (ac OR (ac VX (ac Wk an))))) [.d 2 (.bool)] [(2,⟨[.own 3 (.sl 3 aK),.d 36 (.sl 64 eG),.d 37 (.int .i64),.d 38 (.int .i64),.own 61 (.sl 3 aK),.d 62 (.int .i64),.d 63 (.int .i64),.box 1 [(false,.sl 67 cR),(false,.int .i64),(false,.int .i64),(false,.sl 64 eG)]],ai (xd uI)⟩),(0,⟨[.own 3 (.sl 3 aK),.d 36 (.sl 64 eG),.d 37 (.int .i64),.d 38 (.int .i64),.box 1 [(false,.sl 67 cR),(false,.int .i64),(false,.int .i64),(false,.sl 64 eG)]],ai (gj vr)⟩),(6,⟨[.d 8 (.int .i64),.d 85 (.sl 67 cR),.d 86 (.int .i64),.d 87 (.int .i64),.d 99 (.sl 64 eG),.d 100 (.int .i64),.d 101 (.int .i64),.box 1 [(false,.sl 67 cR),(false,.int .i64),(false,.int .i64),(false,.sl 64 eG)],.box 9 [(false,.int .i64),(false,.sl 92 bl)]],ai (B9 uW)⟩),(4,⟨[.d 85 (.sl 67 cR),.d 86 (.int .i64),.d 87 (.int .i64),.box 1 [(false,.sl 67 cR),(false,.int .i64),(false,.int .i64),(false,.sl 64 eG)]],ai (cU uF)⟩)] [] Tryz.f11 (lp [0,4] (sc (lp [2] (sc dk sn)) (sc (lp [6] (sc dk sn)) sn)))
def g18 (p0:(List de)×Int×(List gb)×Int×Int×(List j9)×Unit):Option dS :=
 (Qn (p0.1,())).bind fun y1 =>
 cond y1.2.1.1 (
 (g11 (p0.2.2.1,p0.2.2.2.1,p0.2.2.2.2.1,p0.2.2.2.2.2.1,())).bind fun y2 =>
 some ((),(((cond y2.2.1.1 (ak (ae p0.2.2.1) p0.2.1) false),()),()))
 ) (
 some ((),((false,()),()))
 )
def YT:Su:=⟨[.c true [.sl 92 bl,.int .i64,.sl 67 cR,.int .i64,.int .i64,.sl 64 eG]],[(false,[.bool])],true,.inl fun x=>g18 x.1⟩
theorem XG:ar Tryz.prog 18 YT :=
 fq (ac Rz (ac W6 an)) Tryz.f18
def Ke (p0 p1:(List UInt8)×Int×Int×Unit):Option dS :=
 cond (!(bY p0.1 p1.1)) (
 some ((),((false,()),()))
 ) (
 cond (!(ak p0.2.1 p1.2.1)) (
 some ((),((false,()),()))
 ) (
 cond (!(ak p0.2.2.1 p1.2.2.1)) (
 some ((),((false,()),()))
 ) (
 some ((),((true,()),()))
 )
 )
 )
def Vz:Su:=⟨[.c true js,.c true js],[(false,[.bool])],true,.inl fun x=>Ke x.1 x.2.1⟩
theorem Sm:ar Tryz.prog 197 Vz :=
 fq an Tryz.f197
def nZ (t0 t1:List di) (t5:Int):Rd ((List di)×(List di)×Int×Unit) Y1 :=
 cond (au t5 (ae t0)) (
 cond (a7 t5 t0) (
 cond (a7 t5 t1) (
 (Ke (gt d157 t0 t5) (gt d157 t1 t5)).bind fun y1 =>
 cond (!y1.2.1.1) (
 some (.inr (.inr (false,())))
 ) (
 some (.inl (t0,t1,(aq .i64 t5 1),()))
 )
 ) none
 ) none
 ) (
 some (.inr (.inl (t0,t1,t5,())))
 )
def Ie:=qu (ai (fb nZ))
def LA (p0 p1:List di):Option dS :=
 cond (!(ak (ae p0) (ae p1))) (
 some ((),((false,()),()))
 ) (
 (Ie p0 p1 0).bind (Sum.elim (fun y1 =>
 some ((),((true,()),()))
 ) (fun y1 =>
 some ((),(y1,()))
 ))
 )
def XS:Su:=⟨[.c false [.sl 157 dF],.c false [.sl 157 dF]],[(false,[.bool])],true,.inl fun x=>LA x.1.1 x.2.1.1⟩
theorem Sx:ar Tryz.prog 146 XS :=
 fl (ac Sm an) [.d 4 (.bool)] [(0,⟨[.d 0 (.sl 157 dF),.d 1 (.sl 157 dF),.d 5 (.int .i64)],ai (fb nZ)⟩)] [] Tryz.f146 (lp [0] (sc dk sn))
def uN (t0 t1:List R3) (t5:Int):Rd ((List R3)×(List R3)×Int×Unit) Y1 :=
 cond (au t5 (ae t0)) (
 cond (a7 t5 t0) (
 cond (a7 t5 t1) (
 cond (!(ak (gt d3 t0 t5).1 (gt d3 t1 t5).1)) (
 some (.inr (.inr (false,())))
 ) (
 some (.inl (t0,t1,(aq .i64 t5 1),()))
 )
 ) none
 ) none
 ) (
 some (.inr (.inl (t0,t1,t5,())))
 )
def NH:=qu (ai (fb uN))
def g24 (p0 p1:List R3):Option dS :=
 cond (!(ak (ae p0) (ae p1))) (
 some ((),((false,()),()))
 ) (
 (NH p0 p1 0).bind (Sum.elim (fun y1 =>
 some ((),((true,()),()))
 ) (fun y1 =>
 some ((),(y1,()))
 ))
 )
def YK:Su:=⟨[.c false gq,.c false gq],[(false,[.bool])],true,.inl fun x=>g24 x.1.1 x.2.1.1⟩
theorem Rb:ar Tryz.prog 24 YK :=
 fl an [.d 4 (.bool)] [(0,⟨[.d 0 (.sl 3 aK),.d 1 (.sl 3 aK),.d 5 (.int .i64)],ai (fb uN)⟩)] [] Tryz.f24 (lp [0] (sc dk sn))
def KK (p0 p1:Int×Int×(List R3)×(List R3)×Unit):Option dS :=
 cond (!(ak p0.1 p1.1)) (
 some ((),((false,()),()))
 ) (
 cond (!(ak p0.2.1 p1.2.1)) (
 some ((),((false,()),()))
 ) (
 (g24 p0.2.2.1 p1.2.2.1).bind fun y1 =>
 cond (!y1.2.1.1) (
 some ((),((false,()),()))
 ) (
 (g24 p0.2.2.2.1 p1.2.2.2.1).bind fun y2 =>
 cond (!y2.2.1.1) (
 some ((),((false,()),()))
 ) (
 some ((),((true,()),()))
 )
 )
 )
 )
def Wd:Su:=⟨[.c true [.int .i64,.int .i64,.sl 3 aK,.sl 3 aK],.c true [.int .i64,.int .i64,.sl 3 aK,.sl 3 aK]],[(false,[.bool])],true,.inl fun x=>KK x.1 x.2.1⟩
theorem RF:ar Tryz.prog 147 Wd :=
 fq (ac Rb an) Tryz.f147
def tZ (t0 t1:List R5) (t5:Int):Rd ((List R5)×(List R5)×Int×Unit) Y1 :=
 cond (au t5 (ae t0)) (
 cond (a7 t5 t0) (
 cond (a7 t5 t1) (
 cond (!(ak (gt d5 t0 t5).1 (gt d5 t1 t5).1)) (
 some (.inr (.inr (false,())))
 ) (
 some (.inl (t0,t1,(aq .i64 t5 1),()))
 )
 ) none
 ) none
 ) (
 some (.inr (.inl (t0,t1,t5,())))
 )
def Na:=qu (ai (fb tZ))
def Qm (p0 p1:List R5):Option dS :=
 cond (!(ak (ae p0) (ae p1))) (
 some ((),((false,()),()))
 ) (
 (Na p0 p1 0).bind (Sum.elim (fun y1 =>
 some ((),((true,()),()))
 ) (fun y1 =>
 some ((),(y1,()))
 ))
 )
def YE:Su:=⟨[.c false [.sl 5 fx],.c false [.sl 5 fx]],[(false,[.bool])],true,.inl fun x=>Qm x.1.1 x.2.1.1⟩
theorem QM:ar Tryz.prog 96 YE :=
 fl an [.d 4 (.bool)] [(0,⟨[.d 0 (.sl 5 fx),.d 1 (.sl 5 fx),.d 5 (.int .i64)],ai (fb tZ)⟩)] [] Tryz.f96 (lp [0] (sc dk sn))
def L5 (p0 p1:(List UInt8)×(List UInt8)×(List R5)×Unit):Option dS :=
 cond (!(bY p0.1 p1.1)) (
 some ((),((false,()),()))
 ) (
 cond (!(bY p0.2.1 p1.2.1)) (
 some ((),((false,()),()))
 ) (
 (Qm p0.2.2.1 p1.2.2.1).bind fun y1 =>
 cond (!y1.2.1.1) (
 some ((),((false,()),()))
 ) (
 some ((),((true,()),()))
 )
 )
 )
def WM:Su:=⟨[.c true iF,.c true iF],[(false,[.bool])],true,.inl fun x=>L5 x.1 x.2.1⟩
theorem Tq:ar Tryz.prog 198 WM :=
 fq (ac QM an) Tryz.f198
def oE (t0 t1:List dh) (t5:Int):Rd ((List dh)×(List dh)×Int×Unit) Y1 :=
 cond (au t5 (ae t0)) (
 cond (a7 t5 t0) (
 cond (a7 t5 t1) (
 (L5 (gt d160 t0 t5) (gt d160 t1 t5)).bind fun y1 =>
 cond (!y1.2.1.1) (
 some (.inr (.inr (false,())))
 ) (
 some (.inl (t0,t1,(aq .i64 t5 1),()))
 )
 ) none
 ) none
 ) (
 some (.inr (.inl (t0,t1,t5,())))
 )
def HY:=qu (ai (fb oE))
def KN (p0 p1:List dh):Option dS :=
 cond (!(ak (ae p0) (ae p1))) (
 some ((),((false,()),()))
 ) (
 (HY p0 p1 0).bind (Sum.elim (fun y1 =>
 some ((),((true,()),()))
 ) (fun y1 =>
 some ((),(y1,()))
 ))
 )
def X5:Su:=⟨[.c false [.sl 160 cW],.c false [.sl 160 cW]],[(false,[.bool])],true,.inl fun x=>KN x.1.1 x.2.1.1⟩
theorem RQ:ar Tryz.prog 148 X5 :=
 fl (ac Tq an) [.d 4 (.bool)] [(0,⟨[.d 0 (.sl 160 cW),.d 1 (.sl 160 cW),.d 5 (.int .i64)],ai (fb oE)⟩)] [] Tryz.f148 (lp [0] (sc dk sn))
def JQ (p0 p1:(List UInt8)×Int×Int×Int×Int×(List di)×Int×Int×(List R3)×(List R3)×(List dh)×Unit):Option dS :=
 cond (!(bY p0.1 p1.1)) (
 some ((),((false,()),()))
 ) (
 cond (!(ak p0.2.1 p1.2.1)) (
 some ((),((false,()),()))
 ) (
 cond (!(ak p0.2.2.1 p1.2.2.1)) (
 some ((),((false,()),()))
 ) (
 cond (!(ak p0.2.2.2.1 p1.2.2.2.1)) (
 some ((),((false,()),()))
 ) (
 cond (!(ak p0.2.2.2.2.1 p1.2.2.2.2.1)) (
 some ((),((false,()),()))
 ) (
 (LA p0.2.2.2.2.2.1 p1.2.2.2.2.2.1).bind fun y1 =>
 cond (!y1.2.1.1) (
 some ((),((false,()),()))
 ) (
 (KK (p0.2.2.2.2.2.2.1,p0.2.2.2.2.2.2.2.1,p0.2.2.2.2.2.2.2.2.1,p0.2.2.2.2.2.2.2.2.2.1,()) (p1.2.2.2.2.2.2.1,p1.2.2.2.2.2.2.2.1,p1.2.2.2.2.2.2.2.2.1,p1.2.2.2.2.2.2.2.2.2.1,())).bind fun y2 =>
 cond (!y2.2.1.1) (
 some ((),((false,()),()))
 ) (
 (KN p0.2.2.2.2.2.2.2.2.2.2.1 p1.2.2.2.2.2.2.2.2.2.2.1).bind fun y3 =>
 cond (!y3.2.1.1) (
 some ((),((false,()),()))
 ) (
 some ((),((true,()),()))
 )
 )
 )
 )
 )
 )
 )
 )
def Wb:Su:=⟨[.c true bl,.c true bl],[(false,[.bool])],true,.inl fun x=>JQ x.1 x.2.1⟩
theorem QN:ar Tryz.prog 113 Wb :=
 fq (ac Sx (ac RF (ac RQ an))) Tryz.f113
def uQ (t0 t1:List de) (t5:Int):Rd ((List de)×(List de)×Int×Unit) Y1 :=
 cond (au t5 (ae t0)) (
 cond (a7 t5 t0) (
 cond (a7 t5 t1) (
 (JQ (gt d92 t0 t5) (gt d92 t1 t5)).bind fun y1 =>
 cond (!y1.2.1.1) (
 some (.inr (.inr (false,())))
 ) (
 some (.inl (t0,t1,(aq .i64 t5 1),()))
 )
 ) none
 ) none
 ) (
 some (.inr (.inl (t0,t1,t5,())))
 )
def Nf:=qu (ai (fb uQ))
def Sf (p0 p1:List de):Option dS :=
 cond (!(ak (ae p0) (ae p1))) (
 some ((),((false,()),()))
 ) (
 (Nf p0 p1 0).bind (Sum.elim (fun y1 =>
 some ((),((true,()),()))
 ) (fun y1 =>
 some ((),(y1,()))
 ))
 )
def Zu:Su:=⟨[.c false [.sl 92 bl],.c false [.sl 92 bl]],[(false,[.bool])],true,.inl fun x=>Sf x.1.1 x.2.1.1⟩
theorem SX:ar Tryz.prog 79 Zu :=
 fl (ac QN an) [.d 4 (.bool)] [(0,⟨[.d 0 (.sl 92 bl),.d 1 (.sl 92 bl),.d 5 (.int .i64)],ai (fb uQ)⟩)] [] Tryz.f79 (lp [0] (sc dk sn))
def UT (p0 p1:(List de)×Unit):Option dS :=
 (Sf p0.1 p1.1).bind fun y1 =>
 cond (!y1.2.1.1) (
 some ((),((false,()),()))
 ) (
 some ((),((true,()),()))
 )
def Zy:Su:=⟨[.c true [.sl 92 bl],.c true [.sl 92 bl]],[(false,[.bool])],true,.inl fun x=>UT x.1 x.2.1⟩
theorem Xl:ar Tryz.prog 52 Zy :=
 fq (ac SX an) Tryz.f52
def Uo (p0 p1:Int×(List de)×Unit):Option dS :=
 cond (!(ak p0.1 p1.1)) (
 some ((),((false,()),()))
 ) (
 (Sf p0.2.1 p1.2.1).bind fun y1 =>
 cond (!y1.2.1.1) (
 some ((),((false,()),()))
 ) (
 some ((),((true,()),()))
 )
 )
def Yv:Su:=⟨[.c true cR,.c true cR],[(false,[.bool])],true,.inl fun x=>Uo x.1 x.2.1⟩
theorem Vq:ar Tryz.prog 73 Yv :=
 fq (ac SX an) Tryz.f73
def vp (t0 t1:List gb) (t5:Int):Rd ((List gb)×(List gb)×Int×Unit) Y1 :=
 cond (au t5 (ae t0)) (
 cond (a7 t5 t0) (
 cond (a7 t5 t1) (
 (Uo (gt d67 t0 t5) (gt d67 t1 t5)).bind fun y1 =>
 cond (!y1.2.1.1) (
 some (.inr (.inr (false,())))
 ) (
 some (.inl (t0,t1,(aq .i64 t5 1),()))
 )
 ) none
 ) none
 ) (
 some (.inr (.inl (t0,t1,t5,())))
 )
def Mz:=qu (ai (fb vp))
def Uu (p0 p1:List gb):Option dS :=
 cond (!(ak (ae p0) (ae p1))) (
 some ((),((false,()),()))
 ) (
 (Mz p0 p1 0).bind (Sum.elim (fun y1 =>
 some ((),((true,()),()))
 ) (fun y1 =>
 some ((),(y1,()))
 ))
 )
def YA:Su:=⟨[.c false [.sl 67 cR],.c false [.sl 67 cR]],[(false,[.bool])],true,.inl fun x=>Uu x.1.1 x.2.1.1⟩
theorem XJ:ar Tryz.prog 42 YA :=
 fl (ac Vq an) [.d 4 (.bool)] [(0,⟨[.d 0 (.sl 67 cR),.d 1 (.sl 67 cR),.d 5 (.int .i64)],ai (fb vp)⟩)] [] Tryz.f42 (lp [0] (sc dk sn))
def UG (p0 p1:(List R5)×Int×(List R3)×Int×Int×Int×Int×Int×(List R5)×Unit):Option dS :=
 (Qm p0.1 p1.1).bind fun y1 =>
 cond (!y1.2.1.1) (
 some ((),((false,()),()))
 ) (
 cond (!(ak p0.2.1 p1.2.1)) (
 some ((),((false,()),()))
 ) (
 (g24 p0.2.2.1 p1.2.2.1).bind fun y2 =>
 cond (!y2.2.1.1) (
 some ((),((false,()),()))
 ) (
 cond (!(ak p0.2.2.2.1 p1.2.2.2.1)) (
 some ((),((false,()),()))
 ) (
 cond (!(ak p0.2.2.2.2.1 p1.2.2.2.2.1)) (
 some ((),((false,()),()))
 ) (
 cond (!(ak p0.2.2.2.2.2.1 p1.2.2.2.2.2.1)) (
 some ((),((false,()),()))
 ) (
 cond (!(ak p0.2.2.2.2.2.2.1 p1.2.2.2.2.2.2.1)) (
 some ((),((false,()),()))
 ) (
 cond (!(ak p0.2.2.2.2.2.2.2.1 p1.2.2.2.2.2.2.2.1)) (
 some ((),((false,()),()))
 ) (
 (Qm p0.2.2.2.2.2.2.2.2.1 p1.2.2.2.2.2.2.2.2.1).bind fun y3 =>
 cond (!y3.2.1.1) (
 some ((),((false,()),()))
 ) (
 some ((),((true,()),()))
 )
 )
 )
 )
 )
 )
 )
 )
 )
def Zt:Su:=⟨[.c true gJ,.c true gJ],[(false,[.bool])],true,.inl fun x=>UG x.1 x.2.1⟩
theorem Vi:ar Tryz.prog 74 Zt :=
 fq (ac Rb (ac QM an)) Tryz.f74
def wK (t0 t1:List j9) (t5:Int):Rd ((List j9)×(List j9)×Int×Unit) Y1 :=
 cond (au t5 (ae t0)) (
 cond (a7 t5 t0) (
 cond (a7 t5 t1) (
 (UG (gt d64 t0 t5) (gt d64 t1 t5)).bind fun y1 =>
 cond (!y1.2.1.1) (
 some (.inr (.inr (false,())))
 ) (
 some (.inl (t0,t1,(aq .i64 t5 1),()))
 )
 ) none
 ) none
 ) (
 some (.inr (.inl (t0,t1,t5,())))
 )
def Nr:=qu (ai (fb wK))
def UU (p0 p1:List j9):Option dS :=
 cond (!(ak (ae p0) (ae p1))) (
 some ((),((false,()),()))
 ) (
 (Nr p0 p1 0).bind (Sum.elim (fun y1 =>
 some ((),((true,()),()))
 ) (fun y1 =>
 some ((),(y1,()))
 ))
 )
def YS:Su:=⟨[.c false [.sl 64 eG],.c false [.sl 64 eG]],[(false,[.bool])],true,.inl fun x=>UU x.1.1 x.2.1.1⟩
theorem Yc:ar Tryz.prog 43 YS :=
 fl (ac Vi an) [.d 4 (.bool)] [(0,⟨[.d 0 (.sl 64 eG),.d 1 (.sl 64 eG),.d 5 (.int .i64)],ai (fb wK)⟩)] [] Tryz.f43 (lp [0] (sc dk sn))
def g12 (p0 p1:(List gb)×Int×Int×(List j9)×Unit):Option dS :=
 (Uu p0.1 p1.1).bind fun y1 =>
 cond (!y1.2.1.1) (
 some ((),((false,()),()))
 ) (
 cond (!(ak p0.2.1 p1.2.1)) (
 some ((),((false,()),()))
 ) (
 cond (!(ak p0.2.2.1 p1.2.2.1)) (
 some ((),((false,()),()))
 ) (
 (UU p0.2.2.2.1 p1.2.2.2.1).bind fun y2 =>
 cond (!y2.2.1.1) (
 some ((),((false,()),()))
 ) (
 some ((),((true,()),()))
 )
 )
 )
 )
def Zw:Su:=⟨[.c true [.sl 67 cR,.int .i64,.int .i64,.sl 64 eG],.c true [.sl 67 cR,.int .i64,.int .i64,.sl 64 eG]],[(false,[.bool])],true,.inl fun x=>g12 x.1 x.2.1⟩
theorem XC:ar Tryz.prog 12 Zw :=
 fq (ac XJ (ac Yc an)) Tryz.f12
def g19 (p0 p1:(List de)×Int×(List gb)×Int×Int×(List j9)×Unit):Option dS :=
 (UT (p0.1,()) (p1.1,())).bind fun y1 =>
 cond (!y1.2.1.1) (
 some ((),((false,()),()))
 ) (
 cond (!(ak p0.2.1 p1.2.1)) (
 some ((),((false,()),()))
 ) (
 (g12 (p0.2.2.1,p0.2.2.2.1,p0.2.2.2.2.1,p0.2.2.2.2.2.1,()) (p1.2.2.1,p1.2.2.2.1,p1.2.2.2.2.1,p1.2.2.2.2.2.1,())).bind fun y2 =>
 cond (!y2.2.1.1) (
 some ((),((false,()),()))
 ) (
 some ((),((true,()),()))
 )
 )
 )
def Zh:Su:=⟨[.c true [.sl 92 bl,.int .i64,.sl 67 cR,.int .i64,.int .i64,.sl 64 eG],.c true [.sl 92 bl,.int .i64,.sl 67 cR,.int .i64,.int .i64,.sl 64 eG]],[(false,[.bool])],true,.inl fun x=>g19 x.1 x.2.1⟩
theorem VB:ar Tryz.prog 19 Zh :=
 fq (ac Xl (ac XC an)) Tryz.f19
def g5 (p0:(List eD)×Int×(List nk)×Int×Int×(List lX)×Unit):Option dS :=
 (g15 p0 1048576).bind fun y1 =>
 cond (au y1.2.1.1 0) (
 some ((),((true,()),()))
 ) (
 let u1:=(g17 p0)
 Option.bind u1 fun y2 =>
 (g16 y2.2.1).bind fun y3 =>
 Option.bind u1 fun y4 =>
 (g18 y4.2.1).bind fun y5 =>
 cond (!(Ls y5.2.1.1 y3.2.1.1)) (
 some ((),((false,()),()))
 ) (
 Option.bind u1 fun y6 =>
 (g19 y4.2.1 y6.2.1).bind fun y7 =>
 cond (!y7.2.1.1) (
 some ((),((false,()),()))
 ) (
 some ((),((true,()),()))
 )
 )
 )
def s5:Su:=⟨[.c true [.sl 124 fF,.int .i64,.sl 84 lQ,.int .i64,.int .i64,.sl 86 gJ]],[(false,[.bool])],true,.inl fun x=>g5 x.1⟩
theorem Za:ar Tryz.prog 5 s5 :=
 fq (ac WJ (ac Vb (ac X0 (ac XG (ac VB an))))) Tryz.f5
end
end Go.Av
