/- Part of a proof that the law FnExactWaitsOn answers true for every input: the printed functions of this program and their plain laws. No conditions beyond the statement. -/
import Derived.Test.YtpgkhfcgbjangaaGreatDoorP1a
set_option maxRecDepth 100000
namespace Go.Av
open Go.Proofs
set_option maxHeartbeats 4000000
noncomputable section
def ow (t1:Int) (t9:List iw) (t10 t11:Int):Rd (Int×(List iw)×Int×Int×Unit) ((List UInt8)×Bool×Unit) :=
 cond (au t11 t10) (
 cond (a7 t11 t9) (
 let u1:=(gt d178 t9 t11)
 cond (ak u1.1 t1) (
 some (.inr (.inr (u1.2.1,true,())))
 ) (
 some (.inl (t1,t9,t10,(aq .i64 t11 1),()))
 )
 ) none
 ) (
 some (.inr (.inl (t1,t9,t10,t11,())))
 )
def HF:=mJ (ai (cW ow))
def FF (p0:(List UInt8)×(List iw)×Unit) (p1:Int):Option (Unit×(Y6×Y1×Unit)) :=
 (HF p1 p0.2.1 (ae p0.2.1) 0).bind (Sum.elim (fun y1 =>
 some ((),(([],()),(false,()),()))
 ) (fun y1 =>
 some ((),((y1.1,()),(y1.2.1,()),()))
 ))
def Ya:Su:=⟨[.c true [.str,.sl 178 dz],.c false aK],[(false,[.str]),(false,[.bool])],true,.inl fun x=>FF x.1 x.2.1.1⟩
theorem TY:ar Tryz.prog 174 Ya :=
 fl an [.d 4 (.str),.d 5 (.bool)] [(0,⟨[.d 1 (.int .i64),.d 9 (.sl 178 dz),.d 10 (.int .i64),.d 11 (.int .i64)],ai (cW ow)⟩)] [] Tryz.f174 (lp [0] (sc dn sn))
def KJ  : Option (Unit×(((List Eu)×Unit)×Unit)) :=
 some ((),(([([48,49,48,48],[48,48],[97,117,116,104],[(4,()),(14,()),(38,())],()),([48,49,48,48],[48,50],[109,111,114,101],[(4,()),(38,())],()),([48,50,50,48],[48,49],[112,97,114,116],[(4,()),(38,())],()),([48,50,50,48],[48,48],[102,105,110,97,108],[(4,()),(38,())],()),([48,50,50,48],[50,48],[102,114,101,101],[(38,())],()),([48,50,48,48],[52,48],[109,111,118,101],[(38,()),(103,())],()),([48,49,48,48],[51,49],[97,115,107],[],()),([48,50,48,48],[57,48],[115,119,101,101,112],[],())],()),()))
def Wu:Su:=⟨[],[(false,[.sl 198 xD])],false,.inl fun x=>KJ ⟩
theorem Mf:ar Tryz.prog 176 Wu :=
 fl an [] [] [999999] Tryz.f176 dn
def OH (p0:(List UInt8)×(List UInt8)×(List UInt8)×(List R3)×Unit) (p1:(List UInt8)×(List iw)×Unit) (p2:(List UInt8)×Unit):Option dZ :=
 cond (bY p0.1 p1.1) (
 cond (dI 0 2 p2.1) (
 some ((),(((bY p0.2.1 (sub p2.1 0 2)),()),()))
 ) none
 ) (
 some ((),((false,()),()))
 )
def Vj:Su:=⟨[.c true xD,.pt [.str,.sl 178 dz],.pt [.str]],[(false,[.bool])],true,.inl fun x=>OH x.1 x.2.1 x.2.2.1⟩
theorem Sp:ar Tryz.prog 177 Vj :=
 fq an Tryz.f177
def oa (t0:List Eu) (f1:Di×Y6×Unit) (t7 t8:Int):Rd ((List Eu)×(Di×Y6×Unit)×Int×Int×Unit) Y0 :=
 cond (au t8 t7) (
 cond (a7 t8 t0) (
 (OH (gt d198 t0 t8) f1.1 f1.2.1).bind fun y1 =>
 cond y1.2.1.1 (
 some (.inr (.inr (t8,())))
 ) (
 some (.inl (t0,f1,t7,(aq .i64 t8 1),()))
 )
 ) none
 ) (
 some (.inr (.inl (t0,f1,t7,t8,())))
 )
def Pv:=mJ (ai (cW oa))
def Lk (p0:List Eu) (c1_0:(List UInt8)×(List iw)×Unit) (c1_1:(List UInt8)×Unit):Option jX :=
 (Pv p0 (c1_0,c1_1,()) (ae p0) 0).bind (Sum.elim (fun y1 =>
 some ((),(((-1),()),()))
 ) (fun y1 =>
 some ((),(y1,()))
 ))
def VO:Su:=⟨[.c false [.sl 198 xD],.fn 177 [.p [.str,.sl 178 dz],.p [.str]]],[(false,aK)],true,.inl fun x=>Lk x.1.1 x.2.1.1 x.2.1.2.1⟩
theorem RK:ar Tryz.prog 175 VO :=
 fl (ac Sp an) [.d 4 (.int .i64)] [(0,⟨[.d 0 (.sl 198 xD),.fn 1 177 [.p [.str,.sl 178 dz],.p [.str]],.d 7 (.int .i64),.d 8 (.int .i64)],ai (cW oa)⟩)] [] Tryz.f175 (lp [0] (sc dn sn))
def za (p0:Int):Option (Unit×(Eu×Unit)) :=
 (lX p0 1 8).bind fun y1 =>
 cond (!y1.2.1.1) (
 some ((),(([],[],[],[],()),()))
 ) (
 (KJ).bind fun y2 =>
 let u1:=(aG .i64 p0 1)
 cond (a7 u1 y2.2.1.1) (
 some ((),((gt d198 y2.2.1.1 u1),()))
 ) none
 )
def Wz:Su:=⟨[.c false aK],[(true,xD)],false,.inl fun x=>za x.1.1⟩
theorem IT:ar Tryz.prog 178 Wz :=
 fl (ac lM (ac Mf an)) [] [] [999999] Tryz.f178 dn
def wk (t0:List R3) (t1 t7 t8:Int):Rd ((List R3)×Int×Int×Int×Unit) Y0 :=
 cond (au t8 t7) (
 cond (a7 t8 t0) (
 cond (ak t1 (gt d3 t0 t8).1) (
 some (.inr (.inr (t8,())))
 ) (
 some (.inl (t0,t1,t7,(aq .i64 t8 1),()))
 )
 ) none
 ) (
 some (.inr (.inl (t0,t1,t7,t8,())))
 )
def Ny:=mJ (ai (cW wk))
def Vd (p0:List R3) (p1:Int):Option jX :=
 (Ny p0 p1 (ae p0) 0).bind (Sum.elim (fun y1 =>
 some ((),(((-1),()),()))
 ) (fun y1 =>
 some ((),(y1,()))
 ))
def Zg:Su:=⟨[.c false gD,.c false aK],[(false,aK)],true,.inl fun x=>Vd x.1.1 x.2.1.1⟩
theorem VZ:ar Tryz.prog 72 Zg :=
 fl an [.d 4 (.int .i64)] [(0,⟨[.d 0 (.sl 3 aK),.d 1 (.int .i64),.d 7 (.int .i64),.d 8 (.int .i64)],ai (cW wk)⟩)] [] Tryz.f72 (lp [0] (sc dn sn))
def N6 (p0:List R3) (p1:Int):Option dZ :=
 (Vd p0 p1).bind fun y1 =>
 some ((),(((bz 0 y1.2.1.1),()),()))
def YP:Su:=⟨[.c false gD,.c false aK],[(false,[.bool])],true,.inl fun x=>N6 x.1.1 x.2.1.1⟩
theorem OJ:ar Tryz.prog 40 YP :=
 fq (ac VZ an) Tryz.f40
def kd (p0 p1:Int):Option dZ :=
 (za p0).bind fun y1 =>
 (N6 y1.2.1.2.2.2.1 p1).bind fun y2 =>
 some ((),(y2.2.1,()))
def VI:Su:=⟨[.c false aK,.c false aK],[(false,[.bool])],true,.inl fun x=>kd x.1.1 x.2.1.1⟩
theorem SK:ar Tryz.prog 231 VI :=
 fq (ac IT (ac OJ an)) Tryz.f231
def GO (p0:Int×(List UInt8)×(List UInt8)×(List UInt8)×(List UInt8)×(List UInt8)×Int×Int×Unit):Option dZ :=
 (za p0.1).bind fun y1 =>
 cond (cond (bY y1.2.1.2.2.1 []) true (!(bY p0.2.2.2.2.2.1 y1.2.1.1))) (
 some ((),((false,()),()))
 ) (
 (qN p0.2.1).bind fun y2 =>
 cond (!y2.2.1.1) (
 some ((),((false,()),()))
 ) (
 (wH p0.2.2.2.2.1 6).bind fun y3 =>
 cond (!y3.2.1.1) (
 some ((),((false,()),()))
 ) (
 (kd p0.1 38).bind fun y4 =>
 cond y4.2.1.1 (
 (HD p0.2.2.2.1).bind fun y5 =>
 let u1:=(kd p0.1 4)
 Option.bind u1 fun y6 =>
 cond y6.2.1.1 (
 let u2:=(lX p0.2.2.2.2.2.2.1 0 999999999999)
 Option.bind u2 fun y7 =>
 let u3:=(kd p0.1 14)
 Option.bind u3 fun y8 =>
 cond y8.2.1.1 (
 let u4:=(lX p0.2.2.2.2.2.2.2.1 0 9999)
 Option.bind u4 fun y9 =>
 let u5:=(kd p0.1 103)
 Option.bind u5 fun y10 =>
 cond y10.2.1.1 (
 let u6:=(qN p0.2.2.1)
 Option.bind u6 fun y11 =>
 let u7:=(cond y5.2.1.1 y7.2.1.1 false)
 let u8:=(cond u7 y9.2.1.1 false)
 some ((),(((cond u8 y11.2.1.1 false),()),()))
 ) (
 let u6:=(cond y5.2.1.1 y7.2.1.1 false)
 let u7:=(cond u6 y9.2.1.1 false)
 let u8:=(bY p0.2.2.1 [])
 some ((),(((cond u7 u8 false),()),()))
 )
 ) (
 let u4:=(kd p0.1 103)
 Option.bind u4 fun y9 =>
 cond y9.2.1.1 (
 let u5:=(qN p0.2.2.1)
 Option.bind u5 fun y10 =>
 let u6:=(cond y5.2.1.1 y7.2.1.1 false)
 let u7:=(cond u6 (ak p0.2.2.2.2.2.2.2.1 0) false)
 some ((),(((cond u7 y10.2.1.1 false),()),()))
 ) (
 let u5:=(cond y5.2.1.1 y7.2.1.1 false)
 let u6:=(cond u5 (ak p0.2.2.2.2.2.2.2.1 0) false)
 let u7:=(bY p0.2.2.1 [])
 some ((),(((cond u6 u7 false),()),()))
 )
 )
 ) (
 let u2:=(kd p0.1 14)
 Option.bind u2 fun y7 =>
 cond y7.2.1.1 (
 let u3:=(lX p0.2.2.2.2.2.2.2.1 0 9999)
 Option.bind u3 fun y8 =>
 let u4:=(kd p0.1 103)
 Option.bind u4 fun y9 =>
 cond y9.2.1.1 (
 let u5:=(qN p0.2.2.1)
 Option.bind u5 fun y10 =>
 let u6:=(cond y5.2.1.1 (ak p0.2.2.2.2.2.2.1 0) false)
 let u7:=(cond u6 y8.2.1.1 false)
 some ((),(((cond u7 y10.2.1.1 false),()),()))
 ) (
 let u5:=(cond y5.2.1.1 (ak p0.2.2.2.2.2.2.1 0) false)
 let u6:=(cond u5 y8.2.1.1 false)
 let u7:=(bY p0.2.2.1 [])
 some ((),(((cond u6 u7 false),()),()))
 )
 ) (
 let u3:=(kd p0.1 103)
 Option.bind u3 fun y8 =>
 cond y8.2.1.1 (
 let u4:=(qN p0.2.2.1)
 Option.bind u4 fun y9 =>
 let u5:=(cond y5.2.1.1 (ak p0.2.2.2.2.2.2.1 0) false)
 let u6:=(cond u5 (ak p0.2.2.2.2.2.2.2.1 0) false)
 some ((),(((cond u6 y9.2.1.1 false),()),()))
 ) (
 let u4:=(cond y5.2.1.1 (ak p0.2.2.2.2.2.2.1 0) false)
 let u5:=(cond u4 (ak p0.2.2.2.2.2.2.2.1 0) false)
 let u6:=(bY p0.2.2.1 [])
 some ((),(((cond u5 u6 false),()),()))
 )
 )
 )
 ) (
 let u1:=(kd p0.1 4)
 Option.bind u1 fun y5 =>
 cond y5.2.1.1 (
 let u2:=(lX p0.2.2.2.2.2.2.1 0 999999999999)
 Option.bind u2 fun y6 =>
 let u3:=(kd p0.1 14)
 Option.bind u3 fun y7 =>
 cond y7.2.1.1 (
 let u4:=(lX p0.2.2.2.2.2.2.2.1 0 9999)
 Option.bind u4 fun y8 =>
 let u5:=(kd p0.1 103)
 Option.bind u5 fun y9 =>
 cond y9.2.1.1 (
 let u6:=(qN p0.2.2.1)
 Option.bind u6 fun y10 =>
 let u7:=(bY p0.2.2.2.1 [])
 let u8:=(cond u7 y6.2.1.1 false)
 let u9:=(cond u8 y8.2.1.1 false)
 some ((),(((cond u9 y10.2.1.1 false),()),()))
 ) (
 let u6:=(bY p0.2.2.2.1 [])
 let u7:=(cond u6 y6.2.1.1 false)
 let u8:=(cond u7 y8.2.1.1 false)
 let u9:=(bY p0.2.2.1 [])
 some ((),(((cond u8 u9 false),()),()))
 )
 ) (
 let u4:=(kd p0.1 103)
 Option.bind u4 fun y8 =>
 cond y8.2.1.1 (
 let u5:=(qN p0.2.2.1)
 Option.bind u5 fun y9 =>
 let u6:=(bY p0.2.2.2.1 [])
 let u7:=(cond u6 y6.2.1.1 false)
 let u8:=(cond u7 (ak p0.2.2.2.2.2.2.2.1 0) false)
 some ((),(((cond u8 y9.2.1.1 false),()),()))
 ) (
 let u5:=(bY p0.2.2.2.1 [])
 let u6:=(cond u5 y6.2.1.1 false)
 let u7:=(cond u6 (ak p0.2.2.2.2.2.2.2.1 0) false)
 let u8:=(bY p0.2.2.1 [])
 some ((),(((cond u7 u8 false),()),()))
 )
 )
 ) (
 let u2:=(kd p0.1 14)
 Option.bind u2 fun y6 =>
 cond y6.2.1.1 (
 let u3:=(lX p0.2.2.2.2.2.2.2.1 0 9999)
 Option.bind u3 fun y7 =>
 let u4:=(kd p0.1 103)
 Option.bind u4 fun y8 =>
 cond y8.2.1.1 (
 let u5:=(qN p0.2.2.1)
 Option.bind u5 fun y9 =>
 let u6:=(bY p0.2.2.2.1 [])
 let u7:=(cond u6 (ak p0.2.2.2.2.2.2.1 0) false)
 let u8:=(cond u7 y7.2.1.1 false)
 some ((),(((cond u8 y9.2.1.1 false),()),()))
 ) (
 let u5:=(bY p0.2.2.2.1 [])
 let u6:=(cond u5 (ak p0.2.2.2.2.2.2.1 0) false)
 let u7:=(cond u6 y7.2.1.1 false)
 let u8:=(bY p0.2.2.1 [])
 some ((),(((cond u7 u8 false),()),()))
 )
 ) (
 let u3:=(kd p0.1 103)
 Option.bind u3 fun y7 =>
 cond y7.2.1.1 (
 let u4:=(qN p0.2.2.1)
 Option.bind u4 fun y8 =>
 let u5:=(bY p0.2.2.2.1 [])
 let u6:=(cond u5 (ak p0.2.2.2.2.2.2.1 0) false)
 let u7:=(cond u6 (ak p0.2.2.2.2.2.2.2.1 0) false)
 some ((),(((cond u7 y8.2.1.1 false),()),()))
 ) (
 let u4:=(bY p0.2.2.2.1 [])
 let u5:=(cond u4 (ak p0.2.2.2.2.2.2.1 0) false)
 let u6:=(cond u5 (ak p0.2.2.2.2.2.2.2.1 0) false)
 let u7:=(bY p0.2.2.1 [])
 some ((),(((cond u6 u7 false),()),()))
 )
 )
 )
 )
 )
 )
 )
def Xp:Su:=⟨[.c true [.int .i64,.str,.str,.str,.str,.str,.int .i64,.int .i64]],[(false,[.bool])],true,.inl fun x=>GO x.1⟩
theorem Ta:ar Tryz.prog 181 Xp :=
 fq (ac lM (ac Mq (ac Mh (ac I8 (ac IT (ac SK an)))))) Tryz.f181
def xY (t0:List UInt8) (t1:Int):Rd QF Unit :=
 let u1:=(ae t0)
 cond (au 0 u1) (
 let u2:=(aG .i64 u1 1)
 cond (a7 u2 t0) (
 cond (ak (dq t0 u2) t1) (
 cond (dI 0 u2 t0) (
 some (.inl ((sub t0 0 u2),t1,()))
 ) none
 ) (
 some (.inr (.inl (t0,t1,())))
 )
 ) none
 ) (
 some (.inr (.inl (t0,t1,())))
 )
def G0:=NQ (ai (wP xY))
def Ju (p0:List UInt8) (p1:Int):Option NZ :=
 (G0 p0 p1).bind (Sum.elim (fun y1 =>
 some ((),((y1.1,()),()))
 ) (fun y1 =>
 none
 ))
def Xf:Su:=⟨[.c false [.str],.c false fy],[(false,[.str])],true,.inl fun x=>Ju x.1.1 x.2.1.1⟩
theorem RT:ar Tryz.prog 254 Xf :=
 fl an [] [(0,⟨[.d 0 (.str),.d 1 (.int .u8)],ai (wP xY)⟩)] [] Tryz.f254 (lp [0] (sc dn sn))
def PS (p0 p1:List UInt8):Option NZ :=
 cond (cond (bY p0 []) true (bY p1 [])) (
 some ((),((p0,()),()))
 ) (
 cond (ak (ae p1) 1) (
 cond (a7 0 p1) (
 let u1:=(dq p1 0)
 cond (au u1 128) (
 cond (a7 0 p1) (
 (Ju p0 u1).bind fun y1 =>
 some ((),(y1.2.1,()))
 ) none
 ) (
 none
 )
 ) none
 ) (
 none
 )
 )
def XM:Su:=⟨[.c false [.str],.c false [.str]],[(false,[.str])],true,.inl fun x=>PS x.1.1 x.2.1.1⟩
theorem RU:ar Tryz.prog 230 XM :=
 fq (ac RT an) Tryz.f230
def KX (p0:List UInt8):Option NZ :=
 (PS p0 [32]).bind fun y1 =>
 some ((),(y1.2.1,()))
def W6:Su:=⟨[.c false [.str]],[(false,[.str])],true,.inl fun x=>KX x.1.1⟩
theorem Sl:ar Tryz.prog 180 W6 :=
 fq (ac RU an) Tryz.f180
def oz (t41:List R3) (t42 t43:Int) (b1:(List UInt8)×(List iw)×Unit) (b2 b6:Int×(List UInt8)×(List UInt8)×(List UInt8)×(List UInt8)×(List UInt8)×Int×Int×Unit):Rd ((List R3)×Int×Int×Di×S0×S0×Unit) (Int×S0×Unit) :=
 cond (au t43 t42) (
 cond (a7 t43 t41) (
 (FF b1 (gt d3 t41 t43).1).bind fun y1 =>
 cond (!y1.2.2.1.1) (
 some (.inr (.inr (1,(0,[],[],[],[],[],0,0,()),())))
 ) (
 cond (ak (gt d3 t41 t43).1 2) (
 let u1:=(aq .i64 t43 1)
 some (.inl (t41,t42,u1,b1,b2,(b6.1,y1.2.1.1,b6.2.2.1,b6.2.2.2.1,b6.2.2.2.2.1,b6.2.2.2.2.2.1,b6.2.2.2.2.2.2.1,b6.2.2.2.2.2.2.2.1,()),()))
 ) (
 cond (ak (gt d3 t41 t43).1 4) (
 let u1:=(Cv y1.2.1.1)
 Option.bind u1 fun y2 =>
 let u2:=(aq .i64 t43 1)
 some (.inl (t41,t42,u2,b1,b2,(b6.1,b6.2.1,b6.2.2.1,b6.2.2.2.1,b6.2.2.2.2.1,b6.2.2.2.2.2.1,y2.2.1.1,b6.2.2.2.2.2.2.2.1,()),()))
 ) (
 cond (ak (gt d3 t41 t43).1 11) (
 let u1:=(aq .i64 t43 1)
 some (.inl (t41,t42,u1,b1,b2,(b6.1,b6.2.1,b6.2.2.1,b6.2.2.2.1,y1.2.1.1,b6.2.2.2.2.2.1,b6.2.2.2.2.2.2.1,b6.2.2.2.2.2.2.2.1,()),()))
 ) (
 cond (ak (gt d3 t41 t43).1 14) (
 let u1:=(Cv y1.2.1.1)
 Option.bind u1 fun y2 =>
 let u2:=(aq .i64 t43 1)
 some (.inl (t41,t42,u2,b1,b2,(b6.1,b6.2.1,b6.2.2.1,b6.2.2.2.1,b6.2.2.2.2.1,b6.2.2.2.2.2.1,b6.2.2.2.2.2.2.1,y2.2.1.1,()),()))
 ) (
 cond (ak (gt d3 t41 t43).1 38) (
 (KX y1.2.1.1).bind fun y2 =>
 let u1:=(aq .i64 t43 1)
 some (.inl (t41,t42,u1,b1,b2,(b6.1,b6.2.1,b6.2.2.1,y2.2.1.1,b6.2.2.2.2.1,b6.2.2.2.2.2.1,b6.2.2.2.2.2.2.1,b6.2.2.2.2.2.2.2.1,()),()))
 ) (
 cond (ak (gt d3 t41 t43).1 103) (
 let u1:=(aq .i64 t43 1)
 some (.inl (t41,t42,u1,b1,b2,(b6.1,b6.2.1,y1.2.1.1,b6.2.2.2.1,b6.2.2.2.2.1,b6.2.2.2.2.2.1,b6.2.2.2.2.2.2.1,b6.2.2.2.2.2.2.2.1,()),()))
 ) (
 let u1:=(aq .i64 t43 1)
 some (.inl (t41,t42,u1,b1,b2,b6,()))
 )
 )
 )
 )
 )
 )
 )
 ) none
 ) (
 some (.inr (.inl (t41,t42,t43,b1,b2,b6,())))
 )
def Gu:=SQ (ai (D1 oz))
def K2 (p0:(List UInt8)×(List iw)×Unit):Option (Unit×(S0×Y0×Unit)) :=
 (KM p0).bind fun y1 =>
 cond (!y1.2.1.1) (
 some ((),((0,[],[],[],[],[],0,0,()),(1,()),()))
 ) (
 (Ok p0.1).bind fun y2 =>
 cond (!y2.2.1.1) (
 some ((),((0,[],[],[],[],[],0,0,()),(2,()),()))
 ) (
 (FF p0 3).bind fun y3 =>
 cond (!y3.2.2.1.1) (
 some ((),((0,[],[],[],[],[],0,0,()),(1,()),()))
 ) (
 (KJ).bind fun y4 =>
 (Lk y4.2.1.1 p0 y3.2.1).bind fun y5 =>
 let u1:=(aq .i64 1 y5.2.1.1)
 (za u1).bind fun y6 =>
 cond (cR 8 [(2,()),(11,())] y6.2.1.2.2.2.1) (
 let u2:=(lP [(2,()),(11,())] y6.2.1.2.2.2.1)
 (Gu u2 (ae u2) 0 p0 (0,[],[],[],[],[],0,0,()) (u1,[],[],[],[],p0.1,0,0,())).bind (Sum.elim (fun y7 =>
 (GO y7.2.2.2.2.2.1).bind fun y8 =>
 cond (!y8.2.1.1) (
 some ((),((0,[],[],[],[],[],0,0,()),(1,()),()))
 ) (
 some ((),(y7.2.2.2.2.2.1,(0,()),()))
 )
 ) (fun y7 =>
 some ((),(y7.2.1,(y7.1,()),()))
 ))
 ) none
 )
 )
 )
def X8:Su:=⟨[.c true [.str,.sl 178 dz]],[(true,[.int .i64,.str,.str,.str,.str,.str,.int .i64,.int .i64]),(false,aK)],true,.inl fun x=>K2 x.1⟩
theorem Tj:ar Tryz.prog 127 X8 :=
 fl (ac Mm (ac QV (ac Sx (ac TY (ac Mf (ac RK (ac IT (ac Ta (ac Sl an))))))))) [.d 3 (.int .i64),.box 2 [(false,.int .i64),(false,.str),(false,.str),(false,.str),(false,.str),(false,.str),(false,.int .i64),(false,.int .i64)]] [(0,⟨[.own 41 (.sl 3 aK),.d 42 (.int .i64),.d 43 (.int .i64),.box 1 [(false,.str),(false,.sl 178 dz)],.box 2 [(false,.int .i64),(false,.str),(false,.str),(false,.str),(false,.str),(false,.str),(false,.int .i64),(false,.int .i64)],.box 6 [(false,.int .i64),(false,.str),(false,.str),(false,.str),(false,.str),(false,.str),(false,.int .i64),(false,.int .i64)]],ai (D1 oz)⟩)] [] Tryz.f127 (lp [0] (sc dn sn))
def Tz (p0:Int):Option jX :=
 cond (bz 4294967296 p0) (
 let u1:=(ic .u64 p0 32)
 cond (bz 65536 u1) (
 let u2:=(ic .u64 u1 16)
 cond (bz 256 u2) (
 let u3:=(bN .u8 (ic .u64 u2 8))
 cond (a7 u3 nk) (
 let u4:=(aq .i64 32 16)
 some ((),(((aq .i64 (aq .i64 u4 8) (bN .i64 (dq nk u3))),()),()))
 ) none
 ) (
 let u3:=(bN .u8 u2)
 cond (a7 u3 nk) (
 let u4:=(aq .i64 32 16)
 some ((),(((aq .i64 u4 (bN .i64 (dq nk u3))),()),()))
 ) none
 )
 ) (
 cond (bz 256 u1) (
 let u2:=(bN .u8 (ic .u64 u1 8))
 cond (a7 u2 nk) (
 some ((),(((aq .i64 (aq .i64 32 8) (bN .i64 (dq nk u2))),()),()))
 ) none
 ) (
 let u2:=(bN .u8 u1)
 cond (a7 u2 nk) (
 some ((),(((aq .i64 32 (bN .i64 (dq nk u2))),()),()))
 ) none
 )
 )
 ) (
 cond (bz 65536 p0) (
 let u1:=(ic .u64 p0 16)
 cond (bz 256 u1) (
 let u2:=(bN .u8 (ic .u64 u1 8))
 cond (a7 u2 nk) (
 let u3:=(aq .i64 0 16)
 some ((),(((aq .i64 (aq .i64 u3 8) (bN .i64 (dq nk u2))),()),()))
 ) none
 ) (
 let u2:=(bN .u8 u1)
 cond (a7 u2 nk) (
 let u3:=(aq .i64 0 16)
 some ((),(((aq .i64 u3 (bN .i64 (dq nk u2))),()),()))
 ) none
 )
 ) (
 cond (bz 256 p0) (
 let u1:=(bN .u8 (ic .u64 p0 8))
 cond (a7 u1 nk) (
 some ((),(((aq .i64 (aq .i64 0 8) (bN .i64 (dq nk u1))),()),()))
 ) none
 ) (
 let u1:=(bN .u8 p0)
 cond (a7 u1 nk) (
 some ((),(((aq .i64 0 (bN .i64 (dq nk u1))),()),()))
 ) none
 )
 )
 )
def XA:Su:=⟨[.c false [.int .u64]],[(false,aK)],true,.inl fun x=>Tz x.1.1⟩
theorem RJ:ar Tryz.prog 222 XA :=
 fq an Tryz.f222
def FU (p0:Int):Option jX :=
 (Tz p0).bind fun y1 =>
 some ((),(y1.2.1,()))
def U4:Su:=⟨[.c false [.int .u64]],[(false,aK)],true,.inl fun x=>FU x.1.1⟩
theorem MK:ar Tryz.prog 167 U4 :=
 fq (ac RJ an) Tryz.f167
def JP (p0:List UInt8):Option dZ :=
 some ((),(((!(bY p0 p0)),()),()))
def Wr:Su:=⟨[.c false [.str]],[(false,[.bool])],true,.inl fun x=>JP x.1.1⟩
theorem TT:ar Tryz.prog 261 Wr :=
 fq an Tryz.f261
def K9 (p0 p1:List UInt8):Option dZ :=
 (JP p0).bind fun y1 =>
 cond y1.2.1.1 (
 (JP p1).bind fun y2 =>
 let u1:=(jU p0 p1)
 some ((),(((cond (!y2.2.1.1) true u1),()),()))
 ) (
 let u1:=(jU p0 p1)
 some ((),((u1,()),()))
 )
def Sm:Su:=⟨[.c false [.str],.c false [.str]],[(false,[.bool])],true,.inl fun x=>K9 x.1.1 x.2.1.1⟩
theorem MT:ar Tryz.prog 238 Sm :=
 fq (ac TT an) Tryz.f238
def tY (t0:List R9) (t1 t2 t6 t7:Int):Rd ((List R9)×Int×Int×Int×Int×Unit) Unit :=
 cond (au t1 t7) (
 cond (a7 t7 t0) (
 let u1:=(aG .i64 t7 1)
 cond (a7 u1 t0) (
 let u2:=(gt d9 t0 t7)
 let u3:=(gt d9 t0 u1)
 (K9 u2.1 u3.1).bind fun y1 =>
 cond y1.2.1.1 (
 cond (a7 u1 t0) (
 cond (a7 t7 t0) (
 cond (a7 t7 t0) (
 let u4:=(zE t0 t7 u3)
 cond (a7 u1 u4) (
 some (.inl ((zE u4 u1 u2),t1,t2,t6,u1,()))
 ) none
 ) none
 ) none
 ) none
 ) (
 some (.inr (.inl (t0,t1,t2,t6,t7,())))
 )
 ) none
 ) none
 ) (
 some (.inr (.inl (t0,t1,t2,t6,t7,())))
 )
def tX:=yA (ai (gi tY))
def um (t0:List R9) (t1 t2 t6:Int):Rd ((List R9)×Int×Int×Int×Unit) Unit :=
 cond (au t6 t2) (
 (tX t0 t1 t2 t6 t6).bind (Sum.elim (fun y1 =>
 some (.inl (y1.1,y1.2.1,y1.2.2.1,(aq .i64 y1.2.2.2.1 1),()))
 ) (fun y1 =>
 some (.inr (.inr ()))
 ))
 ) (
 some (.inr (.inl (t0,t1,t2,t6,())))
 )
def nB:=mJ (ai (cW um))
def O6 (p0:List R9) (p1 p2:Int):Option U3 :=
 (nB p0 p1 p2 (aq .i64 p1 1)).bind (Sum.elim (fun y1 =>
 some (((y1.1,()),()),())
 ) (fun y1 =>
 none
 ))
def LA:Su:=⟨[.io false [.sl 9 wM],.c false aK,.c false aK],[],true,.inl fun x=>O6 x.1.1 x.2.1.1 x.2.2.1.1⟩
def p7:List SE:=[.own 0 (.sl 9 wM),.d 1 (.int .i64),.d 2 (.int .i64),.d 6 (.int .i64),.d 7 (.int .i64)]
def pw:List SE:=[.own 0 (.sl 9 wM),.d 1 (.int .i64),.d 2 (.int .i64),.d 6 (.int .i64)]
def Ik:List SE:=[]
def Nu:Nat->Option (Lo Ik)
 | 2=>some ⟨p7,gi tX⟩
 | 0=>some ⟨pw,cW nB⟩
 | _=>none
def DZ:List (Nat×Su):=[(238,Sm)]
def DT:En:=⟨49,tt,iN DZ,Ik,Nu,[0],fun _=>none⟩
def Tu:Nat->Option (St->Tr St)
 | 6=>some (lh DT (opsOf (bb 6 (ah Tryz.f232))) [7] [(15,2),(15,3),(15,4)])
 | _=>none
def Aa:En:=⟨49,tt,iN DZ,Ik,Nu,[0],Tu⟩
theorem Pu (x:bE p7):(cX Aa 2 p7 (aZ 2 (ah Tryz.f232)) x).run=gi tY x:=by kernel_rfl
theorem OR (x:bE pw):(cX Aa 0 pw (aZ 0 (ah Tryz.f232)) x).run=cW um x:=by kernel_rfl
theorem t232 (x:PT LA.ps):(Es Aa (ah Tryz.f232) Tryz.f232.results.toList LA.ps LA.rs true x).run=O6 x.1.1 x.2.1.1 x.2.2.1.1:=by kernel_rfl
theorem BQ:db Tryz.prog Aa:=cO (l:=DZ) ⟨MT,trivial⟩
theorem Fh:db Tryz.prog DT:=cO (l:=DZ) ⟨MT,trivial⟩
theorem N1:cF Tryz.prog Aa (bb 6 (ah Tryz.f232)) (lh DT (opsOf (bb 6 (ah Tryz.f232))) [7] [(15,2),(15,3),(15,4)]) :=
 gb rfl rfl (xO (E:=DT) (kU hT) Fh eH (c:=(bb 6 (ah Tryz.f232))) (id:=6) (by kernel_rfl))
theorem PM:bV Tryz.prog Aa 2 (.loop (aZ 2 (ah Tryz.f232))) ⟨p7,gi tX⟩ :=
 ej (kU hT) BQ eH (step:=fun (x:bE p7)=>tY x.1 x.2.1 x.2.2.1 x.2.2.2.1 x.2.2.2.2.1) Pu (aW [] (by kernel_rfl) trivial [(6,bb 6 (ah Tryz.f232))] (by kernel_rfl) ⟨wX rfl N1,trivial⟩)
theorem OT:bV Tryz.prog Aa 0 (.loop (aZ 0 (ah Tryz.f232))) ⟨pw,cW nB⟩ :=
 ej (kU hT) BQ eH (step:=fun (x:bE pw)=>um x.1 x.2.1 x.2.2.1 x.2.2.2.1) OR (aW [(2,.loop (aZ 2 (ah Tryz.f232)))] (by kernel_rfl) ⟨lN rfl PM,trivial⟩ [] (by kernel_rfl) trivial)
theorem QN:ar Tryz.prog 232 LA :=
 qD (E:=Aa) (kU hT) BQ eH (fn:=Tryz.f232) (c:=(ah Tryz.f232)) (by kernel_rfl) (by kernel_rfl) (by kernel_rfl) rfl (aW [(0,.loop (aZ 0 (ah Tryz.f232)))] (by kernel_rfl) ⟨lN rfl OT,trivial⟩ [] (by kernel_rfl) trivial) fun x y h=>⟨y.1,fun _=>rfl,(t232 x).trans h⟩
def TK (p0:List R9) (p1 p2 p3:Int):Option U3 :=
 cond (bz (aG .i64 p2 p1) 12) (
 (O6 p0 p1 p2).bind fun y1 =>
 some ((y1.1.1,()),())
 ) (
 cond (ak p3 0) (
 none
 ) (
 none
 )
 )
def WC:Su:=⟨[.io false [.sl 9 wM],.c false aK,.c false aK,.c false aK],[],true,.inl fun x=>TK x.1.1 x.2.1.1 x.2.2.1.1 x.2.2.2.1.1⟩
theorem Tq:ar Tryz.prog 182 WC :=
 fl (ac QN an) [] [] [0] Tryz.f182 dn
def AI (p0:List R9):Option U3 :=
 let u1:=(ae p0)
 (FU (bN .u64 u1)).bind fun y1 =>
 (TK p0 0 u1 y1.2.1.1).bind fun y2 =>
 some ((y2.1.1,()),())
def XR:Su:=⟨[.io false [.sl 9 wM]],[],true,.inl fun x=>AI x.1.1⟩
theorem Sk:ar Tryz.prog 128 XR :=
 fl (ac MK (ac Tq an)) [] [] [0] Tryz.f128 dn
def yl (t0:List R9) (t3:Int):Rd ((List R9)×Int×Unit) ((List R9)×Unit) :=
 let u1:=(ae t0)
 cond (au t3 u1) (
 cond (a7 t3 t0) (
 let u2:=(aG .i64 t3 1)
 cond (a7 u2 t0) (
 cond (bY (gt d9 t0 t3).1 (gt d9 t0 u2).1) (
 let u3:=(dI t3 u1 t0)
 cond u3 (
 let u4:=(sub t0 t3 u1)
 cond (au 1 (ae u4)) (
 cond (a7 1 u4) (
 let u5:=(aG .i64 1 1)
 cond (a7 u5 u4) (
 cond (!(bY (gt d9 u4 1).1 (gt d9 u4 u5).1)) (
 cond (a7 1 u4) (
 cond (a7 t3 t0) (
 none
 ) none
 ) none
 ) (
 none
 )
 ) none
 ) none
 ) (
 cond u3 (
 let u5:=(yt d9 t0 t3)
 cond (dI 0 t3 u5) (
 some (.inr (.inr ((NA u5 t3),())))
 ) none
 ) none
 )
 ) none
 ) (
 some (.inl (t0,(aq .i64 t3 1),()))
 )
 ) none
 ) none
 ) (
 some (.inr (.inl (t0,t3,())))
 )
def wy:=NQ (ai (wP yl))
def EJ (p0:List R9):Option SJ :=
 cond (au (ae p0) 2) (
 some ((),((p0,()),()))
 ) (
 (wy p0 1).bind (Sum.elim (fun y1 =>
 some ((),((y1.1,()),()))
 ) (fun y1 =>
 some ((),(y1,()))
 ))
 )
def Ks:Su:=⟨[.mv (.sl 9 wM)],[(false,[.sl 9 wM])],true,.inl fun x=>EJ x.1⟩
def pS:List SE:=[.own 0 (.sl 9 wM),.d 3 (.int .i64)]
def MA:List SE:=[.own 2 (.sl 9 wM)]
def Rm:Nat->Option (Lo MA)
 | 0=>some ⟨pS,wP wy⟩
 | _=>none
def Nf:List (Nat×Su):=[]
def QC:Nat->Option (St->Tr St)
 | 14=>some (qI 54 55 56 0 3 wM)
 | _=>none
def BM:En:=⟨61,tt,iN Nf,MA,Rm,[],QC⟩
theorem OD (x:bE pS):(cX BM 0 pS (aZ 0 (ah Tryz.f129)) x).run=wP yl x:=by kernel_rfl
theorem t129 (x:PT Ks.ps):(Es BM (ah Tryz.f129) Tryz.f129.results.toList Ks.ps Ks.rs true x).run=EJ x.1:=by kernel_rfl
theorem F5:db Tryz.prog BM:=cO (l:=Nf) trivial
theorem KS:cF Tryz.prog BM (bb 14 (ah Tryz.f129)) (qI 54 55 56 0 3 wM) :=
 xN (E:=BM) (kU hT) (rid:=14) (ta:=54) (tb:=55) (tc:=56) (t0:=0) (tI:=3) (ty:=111) (o1:=fF (bb 14 (ah Tryz.f129)) 0) (o2:=fF (bb 14 (ah Tryz.f129)) 1) (o3:=fF (bb 14 (ah Tryz.f129)) 2) (o4:=fF (bb 14 (ah Tryz.f129)) 3) (c:=yf (fF (bb 14 (ah Tryz.f129)) 3)) (te:=⟨false,wM,0,16,[]⟩)
  (by kernel_rfl) (by kernel_rfl) (by kernel_rfl) (by kernel_rfl) (by kernel_rfl) (by kernel_rfl) (by kernel_rfl) (by kernel_rfl) (by kernel_rfl) (by kernel_rfl) (by kernel_rfl) (by kernel_rfl) (by kernel_rfl) (by kernel_rfl) (by kernel_rfl) (by kernel_rfl) (by kernel_rfl) (by kernel_rfl) (by kernel_rfl) (by kernel_rfl) (by kernel_rfl)
theorem Pq:bV Tryz.prog BM 0 (.loop (aZ 0 (ah Tryz.f129))) ⟨pS,wP wy⟩ :=
 ej (kU hT) F5 eH (step:=fun (x:bE pS)=>yl x.1 x.2.1) OD (aW [] (by kernel_rfl) trivial [(14,bb 14 (ah Tryz.f129))] (by kernel_rfl) ⟨wX rfl KS,trivial⟩)
theorem Ty:ar Tryz.prog 129 Ks :=
 qD (E:=BM) (kU hT) F5 eH (fn:=Tryz.f129) (c:=(ah Tryz.f129)) (by kernel_rfl) (by kernel_rfl) (by kernel_rfl) rfl (aW [(0,.loop (aZ 0 (ah Tryz.f129)))] (by kernel_rfl) ⟨lN rfl Pq,trivial⟩ [] (by kernel_rfl) trivial) fun x y h=>⟨y.1,fun _=>rfl,(t129 x).trans h⟩
def Ua (p0:List R5):Option SJ :=
 (LK p0).bind fun y1 =>
 (K2 y1.2.1).bind fun y2 =>
 cond (cond (!(ak y1.2.2.1.1 0)) true (!(ak y2.2.2.1.1 0))) (
 some ((),(([],()),()))
 ) (
 cond (ak y2.2.1.1 6) (
 cond (cR 16 [(y2.2.1.2.1,())] [(y2.2.1.2.2.1,())]) (
 (AI (lP [(y2.2.1.2.1,())] [(y2.2.1.2.2.1,())])).bind fun y3 =>
 let u1:=(EJ y3.1.1.1)
 Option.bind u1 fun y4 =>
 some ((),(y4.2.1,()))
 ) none
 ) (
 (AI [(y2.2.1.2.1,())]).bind fun y3 =>
 let u1:=(EJ y3.1.1.1)
 Option.bind u1 fun y4 =>
 some ((),(y4.2.1,()))
 )
 )
def Yn:Su:=⟨[.c false [.sl 5 fy]],[(false,[.sl 9 wM])],true,.inl fun x=>Ua x.1.1⟩
theorem VU:ar Tryz.prog 95 Yn :=
 fq (ac RF (ac Tj (ac Sk (ac Ty an)))) Tryz.f95
def JL (p0:Int):Option dZ :=
 some ((),(((!(ak p0 p0)),()),()))
def Xz:Su:=⟨[.c false aK],[(false,[.bool])],true,.inl fun x=>JL x.1.1⟩
theorem T1:ar Tryz.prog 249 Xz :=
 fq an Tryz.f249
def Lv (p0 p1:Int):Option dZ :=
 (JL p0).bind fun y1 =>
 cond y1.2.1.1 (
 (JL p1).bind fun y2 =>
 some ((),(((cond (!y2.2.1.1) true (au p0 p1)),()),()))
 ) (
 some ((),(((au p0 p1),()),()))
 )
def Qz:Su:=⟨[.c false aK,.c false aK],[(false,[.bool])],true,.inl fun x=>Lv x.1.1 x.2.1.1⟩
theorem Mo:ar Tryz.prog 218 Qz :=
 fq (ac T1 an) Tryz.f218
def uk (t0:List R3) (t1 t2 t6 t7:Int):Rd ((List R3)×Int×Int×Int×Int×Unit) Unit :=
 cond (au t1 t7) (
 cond (a7 t7 t0) (
 let u1:=(aG .i64 t7 1)
 cond (a7 u1 t0) (
 let u2:=(gt d3 t0 t7)
 let u3:=(gt d3 t0 u1)
 (Lv u2.1 u3.1).bind fun y1 =>
 cond y1.2.1.1 (
 cond (a7 u1 t0) (
 cond (a7 t7 t0) (
 cond (a7 t7 t0) (
 let u4:=(zE t0 t7 u3)
 cond (a7 u1 u4) (
 some (.inl ((zE u4 u1 u2),t1,t2,t6,u1,()))
 ) none
 ) none
 ) none
 ) none
 ) (
 some (.inr (.inl (t0,t1,t2,t6,t7,())))
 )
 ) none
 ) none
 ) (
 some (.inr (.inl (t0,t1,t2,t6,t7,())))
 )
def vm:=yA (ai (gi uk))
def ub (t0:List R3) (t1 t2 t6:Int):Rd ((List R3)×Int×Int×Int×Unit) Unit :=
 cond (au t6 t2) (
 (vm t0 t1 t2 t6 t6).bind (Sum.elim (fun y1 =>
 some (.inl (y1.1,y1.2.1,y1.2.2.1,(aq .i64 y1.2.2.2.1 1),()))
 ) (fun y1 =>
 some (.inr (.inr ()))
 ))
 ) (
 some (.inr (.inl (t0,t1,t2,t6,())))
 )
def kZ:=mJ (ai (cW ub))
def N8 (p0:List R3) (p1 p2:Int):Option VL :=
 (kZ p0 p1 p2 (aq .i64 p1 1)).bind (Sum.elim (fun y1 =>
 some (((y1.1,()),()),())
 ) (fun y1 =>
 none
 ))
def Kl:Su:=⟨[.io false [.sl 3 aK],.c false aK,.c false aK],[],true,.inl fun x=>N8 x.1.1 x.2.1.1 x.2.2.1.1⟩
def qt:List SE:=[.own 0 (.sl 3 aK),.d 1 (.int .i64),.d 2 (.int .i64),.d 6 (.int .i64),.d 7 (.int .i64)]
def pO:List SE:=[.own 0 (.sl 3 aK),.d 1 (.int .i64),.d 2 (.int .i64),.d 6 (.int .i64)]
def HY:List SE:=[]
def NH:Nat->Option (Lo HY)
 | 2=>some ⟨qt,gi vm⟩
 | 0=>some ⟨pO,cW kZ⟩
 | _=>none
def C3:List (Nat×Su):=[(218,Qz)]
def C2:En:=⟨49,tt,iN C3,HY,NH,[0],fun _=>none⟩
def QX:Nat->Option (St->Tr St)
 | 6=>some (lh C2 (opsOf (bb 6 (ah Tryz.f212))) [7] [(15,2),(15,3),(15,4)])
 | _=>none
def Ao:En:=⟨49,tt,iN C3,HY,NH,[0],QX⟩
theorem Pr (x:bE qt):(cX Ao 2 qt (aZ 2 (ah Tryz.f212)) x).run=gi uk x:=by kernel_rfl
theorem P3 (x:bE pO):(cX Ao 0 pO (aZ 0 (ah Tryz.f212)) x).run=cW ub x:=by kernel_rfl
theorem t212 (x:PT Kl.ps):(Es Ao (ah Tryz.f212) Tryz.f212.results.toList Kl.ps Kl.rs true x).run=N8 x.1.1 x.2.1.1 x.2.2.1.1:=by kernel_rfl
theorem Cp:db Tryz.prog Ao:=cO (l:=C3) ⟨Mo,trivial⟩
theorem Eg:db Tryz.prog C2:=cO (l:=C3) ⟨Mo,trivial⟩
theorem N4:cF Tryz.prog Ao (bb 6 (ah Tryz.f212)) (lh C2 (opsOf (bb 6 (ah Tryz.f212))) [7] [(15,2),(15,3),(15,4)]) :=
 gb rfl rfl (xO (E:=C2) (kU hT) Eg eH (c:=(bb 6 (ah Tryz.f212))) (id:=6) (by kernel_rfl))
theorem NL:bV Tryz.prog Ao 2 (.loop (aZ 2 (ah Tryz.f212))) ⟨qt,gi vm⟩ :=
 ej (kU hT) Cp eH (step:=fun (x:bE qt)=>uk x.1 x.2.1 x.2.2.1 x.2.2.2.1 x.2.2.2.2.1) Pr (aW [] (by kernel_rfl) trivial [(6,bb 6 (ah Tryz.f212))] (by kernel_rfl) ⟨wX rfl N4,trivial⟩)
theorem Px:bV Tryz.prog Ao 0 (.loop (aZ 0 (ah Tryz.f212))) ⟨pO,cW kZ⟩ :=
 ej (kU hT) Cp eH (step:=fun (x:bE pO)=>ub x.1 x.2.1 x.2.2.1 x.2.2.2.1) P3 (aW [(2,.loop (aZ 2 (ah Tryz.f212)))] (by kernel_rfl) ⟨lN rfl NL,trivial⟩ [] (by kernel_rfl) trivial)
theorem Sr:ar Tryz.prog 212 Kl :=
 qD (E:=Ao) (kU hT) Cp eH (fn:=Tryz.f212) (c:=(ah Tryz.f212)) (by kernel_rfl) (by kernel_rfl) (by kernel_rfl) rfl (aW [(0,.loop (aZ 0 (ah Tryz.f212)))] (by kernel_rfl) ⟨lN rfl Px,trivial⟩ [] (by kernel_rfl) trivial) fun x y h=>⟨y.1,fun _=>rfl,(t212 x).trans h⟩
def Qv (p0:List R3) (p1 p2 p3:Int):Option VL :=
 cond (bz (aG .i64 p2 p1) 12) (
 (N8 p0 p1 p2).bind fun y1 =>
 some ((y1.1.1,()),())
 ) (
 cond (ak p3 0) (
 none
 ) (
 none
 )
 )
def VQ:Su:=⟨[.io false [.sl 3 aK],.c false aK,.c false aK,.c false aK],[],true,.inl fun x=>Qv x.1.1 x.2.1.1 x.2.2.1.1 x.2.2.2.1.1⟩
theorem TU:ar Tryz.prog 166 VQ :=
 fl (ac Sr an) [] [] [0] Tryz.f166 dn
def vW (p0:List R3):Option VL :=
 let u1:=(ae p0)
 (FU (bN .u64 u1)).bind fun y1 =>
 (Qv p0 0 u1 y1.2.1.1).bind fun y2 =>
 some ((y2.1.1,()),())
def VN:Su:=⟨[.io false [.sl 3 aK]],[],true,.inl fun x=>vW x.1.1⟩
theorem QY:ar Tryz.prog 124 VN :=
 fl (ac MK (ac TU an)) [] [] [0] Tryz.f124 dn
def yZ (t0:List R3) (t3:Int):Rd ((List R3)×Int×Unit) EC :=
 let u1:=(ae t0)
 cond (au t3 u1) (
 cond (a7 t3 t0) (
 let u2:=(aG .i64 t3 1)
 cond (a7 u2 t0) (
 cond (ak (gt d3 t0 t3).1 (gt d3 t0 u2).1) (
 let u3:=(dI t3 u1 t0)
 cond u3 (
 let u4:=(sub t0 t3 u1)
 cond (au 1 (ae u4)) (
 cond (a7 1 u4) (
 let u5:=(aG .i64 1 1)
 cond (a7 u5 u4) (
 cond (!(ak (gt d3 u4 1).1 (gt d3 u4 u5).1)) (
 cond (a7 1 u4) (
 cond (a7 t3 t0) (
 none
 ) none
 ) none
 ) (
 none
 )
 ) none
 ) none
 ) (
 cond u3 (
 let u5:=(yt d3 t0 t3)
 cond (dI 0 t3 u5) (
 some (.inr (.inr ((NA u5 t3),())))
 ) none
 ) none
 )
 ) none
 ) (
 some (.inl (t0,(aq .i64 t3 1),()))
 )
 ) none
 ) none
 ) (
 some (.inr (.inl (t0,t3,())))
 )
def tW:=NQ (ai (wP yZ))
def GM (p0:List R3):Option Nx :=
 cond (au (ae p0) 2) (
 some ((),((p0,()),()))
 ) (
 (tW p0 1).bind (Sum.elim (fun y1 =>
 some ((),((y1.1,()),()))
 ) (fun y1 =>
 some ((),(y1,()))
 ))
 )
def KH:Su:=⟨[.mv (.sl 3 aK)],[(false,gD)],true,.inl fun x=>GM x.1⟩
def qz:List SE:=[.own 0 (.sl 3 aK),.d 3 (.int .i64)]
def MO:List SE:=[.own 2 (.sl 3 aK)]
def QP:Nat->Option (Lo MO)
 | 0=>some ⟨qz,wP tW⟩
 | _=>none
def M7:List (Nat×Su):=[]
def Q5:Nat->Option (St->Tr St)
 | 14=>some (qI 54 55 56 0 3 aK)
 | _=>none
def CK:En:=⟨61,tt,iN M7,MO,QP,[],Q5⟩
theorem Pc (x:bE qz):(cX CK 0 qz (aZ 0 (ah Tryz.f125)) x).run=wP yZ x:=by kernel_rfl
theorem t125 (x:PT KH.ps):(Es CK (ah Tryz.f125) Tryz.f125.results.toList KH.ps KH.rs true x).run=GM x.1:=by kernel_rfl
theorem HK:db Tryz.prog CK:=cO (l:=M7) trivial
theorem Kn:cF Tryz.prog CK (bb 14 (ah Tryz.f125)) (qI 54 55 56 0 3 aK) :=
 xN (E:=CK) (kU hT) (rid:=14) (ta:=54) (tb:=55) (tc:=56) (t0:=0) (tI:=3) (ty:=53) (o1:=fF (bb 14 (ah Tryz.f125)) 0) (o2:=fF (bb 14 (ah Tryz.f125)) 1) (o3:=fF (bb 14 (ah Tryz.f125)) 2) (o4:=fF (bb 14 (ah Tryz.f125)) 3) (c:=yf (fF (bb 14 (ah Tryz.f125)) 3)) (te:=⟨false,aK,0,8,[]⟩)
  (by kernel_rfl) (by kernel_rfl) (by kernel_rfl) (by kernel_rfl) (by kernel_rfl) (by kernel_rfl) (by kernel_rfl) (by kernel_rfl) (by kernel_rfl) (by kernel_rfl) (by kernel_rfl) (by kernel_rfl) (by kernel_rfl) (by kernel_rfl) (by kernel_rfl) (by kernel_rfl) (by kernel_rfl) (by kernel_rfl) (by kernel_rfl) (by kernel_rfl) (by kernel_rfl)
theorem Pk:bV Tryz.prog CK 0 (.loop (aZ 0 (ah Tryz.f125))) ⟨qz,wP tW⟩ :=
 ej (kU hT) HK eH (step:=fun (x:bE qz)=>yZ x.1 x.2.1) Pc (aW [] (by kernel_rfl) trivial [(14,bb 14 (ah Tryz.f125))] (by kernel_rfl) ⟨wX rfl Kn,trivial⟩)
theorem Ss:ar Tryz.prog 125 KH :=
 qD (E:=CK) (kU hT) HK eH (fn:=Tryz.f125) (c:=(ah Tryz.f125)) (by kernel_rfl) (by kernel_rfl) (by kernel_rfl) rfl (aW [(0,.loop (aZ 0 (ah Tryz.f125)))] (by kernel_rfl) ⟨lN rfl Pk,trivial⟩ [] (by kernel_rfl) trivial) fun x y h=>⟨y.1,fun _=>rfl,(t125 x).trans h⟩
def uj (t1:Int) (t5:List R3) (t9:List R9) (t10 t11:Int):Rd (Int×(List R3)×(List R9)×Int×Int×Unit) Unit :=
 cond (au t11 t10) (
 cond (a7 t11 t9) (
 (QE (gt d9 t9 t11).1 t1).bind fun y1 =>
 cond (cR 8 t5 [y1.2.1]) (
 some (.inl (t1,(lP t5 [y1.2.1]),t9,t10,(aq .i64 t11 1),()))
 ) none
 ) none
 ) (
 some (.inr (.inl (t1,t5,t9,t10,t11,())))
 )
def Mj:=yA (ai (gi uj))
def Uj (p0:List R9) (p1:Int):Option Nx :=
 (Mj p1 [] p0 (ae p0) 0).bind (Sum.elim (fun y1 =>
 (vW y1.2.1).bind fun y2 =>
 (GM y2.1.1.1).bind fun y3 =>
 some ((),(y3.2.1,()))
 ) (fun y1 =>
 none
 ))
def Y3:Su:=⟨[.c false [.sl 9 wM],.c false aK],[(false,gD)],true,.inl fun x=>Uj x.1.1 x.2.1.1⟩
theorem Xq:ar Tryz.prog 94 Y3 :=
 fl (ac RW (ac QY (ac Ss an))) [] [(0,⟨[.d 1 (.int .i64),.own 5 (.sl 3 aK),.d 9 (.sl 9 wM),.d 10 (.int .i64),.d 11 (.int .i64)],ai (gi uj)⟩)] [] Tryz.f94 (lp [0] (sc dn sn))
def UP (p0:(List R5)×Int×(List R3)×Int×Int×Int×Int×Int×(List R5)×Unit) (p1:Int):Option Nx :=
 (Ua p0.1).bind fun y1 =>
 (Uj y1.2.1.1 p1).bind fun y2 =>
 some ((),(y2.2.1,()))
def Yv:Su:=⟨[.c true gG,.c false aK],[(false,gD)],true,.inl fun x=>UP x.1 x.2.1.1⟩
theorem XQ:ar Tryz.prog 71 Yv :=
 fq (ac VU (ac Xq an)) Tryz.f71
def NF (t0 t1:List R3) (t12 t13:Int):Rd ((List R3)×(List R3)×Int×Int×Unit) Y1 :=
 cond (au t13 t12) (
 cond (a7 t13 t0) (
 cond (a7 t13 t1) (
 cond (!(ak (gt d3 t0 t13).1 (gt d3 t1 t13).1)) (
 some (.inr (.inr (false,())))
 ) (
 some (.inl (t0,t1,t12,(aq .i64 t13 1),()))
 )
 ) none
 ) none
 ) (
 some (.inr (.inl (t0,t1,t12,t13,())))
 )
def QU:=mJ (ai (cW NF))
def Wo (p0 p1:List R3):Option dZ :=
 let u1:=(ae p0)
 cond (!(ak u1 (ae p1))) (
 some ((),((false,()),()))
 ) (
 (QU p0 p1 u1 0).bind (Sum.elim (fun y1 =>
 some ((),((true,()),()))
 ) (fun y1 =>
 some ((),(y1,()))
 ))
 )
def Yy:Su:=⟨[.c false gD,.c false gD],[(false,[.bool])],true,.inl fun x=>Wo x.1.1 x.2.1.1⟩
theorem Xy:ar Tryz.prog 70 Yy :=
 fl an [.d 4 (.bool)] [(0,⟨[.d 0 (.sl 3 aK),.d 1 (.sl 3 aK),.d 12 (.int .i64),.d 13 (.int .i64)],ai (cW NF)⟩)] [] Tryz.f70 (lp [0] (sc dn sn))
def SG (p0:(List R5)×Int×(List R3)×Int×Int×Int×Int×Int×(List R5)×Unit) (p1:Int):Option dZ :=
 (lX p1 1 5).bind fun y1 =>
 cond (!y1.2.1.1) (
 some ((),((false,()),()))
 ) (
 (R8 p0.2.1).bind fun y2 =>
 let u1:=(ae p0.2.2.2.2.2.2.2.2.1)
 cond (cond (cond (bY y2.2.1.1 []) true (au 300 (ae p0.1))) true (au 200 u1)) (
 some ((),((false,()),()))
 ) (
 (sK p0.2.2.2.2.1).bind fun y3 =>
 cond (!y3.2.1.1) (
 some ((),((false,()),()))
 ) (
 (sK p0.2.2.2.2.2.2.2.1).bind fun y4 =>
 cond (!y4.2.1.1) (
 some ((),((false,()),()))
 ) (
 cond (ak p0.2.1 0) (
 let u2:=(ae p0.2.2.1)
 cond (au 0 u2) (
 some ((),((false,()),()))
 ) (
 cond (ak p0.2.1 1) (
 let u3:=(lX p0.2.2.2.1 0 (aG .i64 u2 1))
 Option.bind u3 fun y5 =>
 cond (!y5.2.1.1) (
 some ((),((false,()),()))
 ) (
 cond (au p0.2.1 3) (
 some ((),(((cond (cond (cond (ak p0.2.2.2.2.2.1 (-1)) (ak p0.2.2.2.2.2.2.1 (-1)) false) (ak p0.2.2.2.2.2.2.2.1 0) false) (ak u1 0) false),()),()))
 ) (
 let u4:=(sK p0.2.2.2.2.2.1)
 Option.bind u4 fun y6 =>
 let u5:=(cond (!y6.2.1.1) true (au p0.2.2.2.2.2.1 p0.2.2.2.2.1))
 cond u5 (
 some ((),((false,()),()))
 ) (
 cond (ak p0.2.1 5) (
 let u6:=(sK p0.2.2.2.2.2.2.1)
 Option.bind u6 fun y7 =>
 some ((),(((cond y7.2.1.1 (bz p0.2.2.2.2.2.1 p0.2.2.2.2.2.2.1) false),()),()))
 ) (
 some ((),(((ak p0.2.2.2.2.2.2.1 (-1)),()),()))
 )
 )
 )
 )
 ) (
 cond (ak p0.2.1 2) (
 cond (!(cond (ak p0.2.2.2.1 u2) (au 0 u2) false)) (
 some ((),((false,()),()))
 ) (
 cond (au p0.2.1 3) (
 some ((),(((cond (cond (cond (ak p0.2.2.2.2.2.1 (-1)) (ak p0.2.2.2.2.2.2.1 (-1)) false) (ak p0.2.2.2.2.2.2.2.1 0) false) (ak u1 0) false),()),()))
 ) (
 let u3:=(sK p0.2.2.2.2.2.1)
 Option.bind u3 fun y5 =>
 let u4:=(cond (!y5.2.1.1) true (au p0.2.2.2.2.2.1 p0.2.2.2.2.1))
 cond u4 (
 some ((),((false,()),()))
 ) (
 cond (ak p0.2.1 5) (
 let u5:=(sK p0.2.2.2.2.2.2.1)
 Option.bind u5 fun y6 =>
 some ((),(((cond y6.2.1.1 (bz p0.2.2.2.2.2.1 p0.2.2.2.2.2.2.1) false),()),()))
 ) (
 some ((),(((ak p0.2.2.2.2.2.2.1 (-1)),()),()))
 )
 )
 )
 )
 ) (
 cond (ak p0.2.1 3) (
 let u3:=(lX p0.2.2.2.1 1 u2)
 Option.bind u3 fun y5 =>
 cond (!y5.2.1.1) (
 some ((),((false,()),()))
 ) (
 cond (au p0.2.1 3) (
 some ((),(((cond (cond (cond (ak p0.2.2.2.2.2.1 (-1)) (ak p0.2.2.2.2.2.2.1 (-1)) false) (ak p0.2.2.2.2.2.2.2.1 0) false) (ak u1 0) false),()),()))
 ) (
 let u4:=(sK p0.2.2.2.2.2.1)
 Option.bind u4 fun y6 =>
 let u5:=(cond (!y6.2.1.1) true (au p0.2.2.2.2.2.1 p0.2.2.2.2.1))
 cond u5 (
 some ((),((false,()),()))
 ) (
 cond (ak p0.2.1 5) (
 let u6:=(sK p0.2.2.2.2.2.2.1)
 Option.bind u6 fun y7 =>
 some ((),(((cond y7.2.1.1 (bz p0.2.2.2.2.2.1 p0.2.2.2.2.2.2.1) false),()),()))
 ) (
 some ((),(((ak p0.2.2.2.2.2.2.1 (-1)),()),()))
 )
 )
 )
 )
 ) (
 cond (!(ak p0.2.2.2.1 0)) (
 some ((),((false,()),()))
 ) (
 cond (au p0.2.1 3) (
 some ((),(((cond (cond (cond (ak p0.2.2.2.2.2.1 (-1)) (ak p0.2.2.2.2.2.2.1 (-1)) false) (ak p0.2.2.2.2.2.2.2.1 0) false) (ak u1 0) false),()),()))
 ) (
 let u3:=(sK p0.2.2.2.2.2.1)
 Option.bind u3 fun y5 =>
 let u4:=(cond (!y5.2.1.1) true (au p0.2.2.2.2.2.1 p0.2.2.2.2.1))
 cond u4 (
 some ((),((false,()),()))
 ) (
 cond (ak p0.2.1 5) (
 let u5:=(sK p0.2.2.2.2.2.2.1)
 Option.bind u5 fun y6 =>
 some ((),(((cond y6.2.1.1 (bz p0.2.2.2.2.2.1 p0.2.2.2.2.2.2.1) false),()),()))
 ) (
 some ((),(((ak p0.2.2.2.2.2.2.1 (-1)),()),()))
 )
 )
 )
 )
 )
 )
 )
 )
 ) (
 (UP p0 p1).bind fun y5 =>
 (Wo p0.2.2.1 y5.2.1.1).bind fun y6 =>
 cond (!y6.2.1.1) (
 some ((),((false,()),()))
 ) (
 cond (ak p0.2.1 1) (
 let u2:=(ae p0.2.2.1)
 let u3:=(lX p0.2.2.2.1 0 (aG .i64 u2 1))
 Option.bind u3 fun y7 =>
 cond (!y7.2.1.1) (
 some ((),((false,()),()))
 ) (
 cond (au p0.2.1 3) (
 some ((),(((cond (cond (cond (ak p0.2.2.2.2.2.1 (-1)) (ak p0.2.2.2.2.2.2.1 (-1)) false) (ak p0.2.2.2.2.2.2.2.1 0) false) (ak u1 0) false),()),()))
 ) (
 let u4:=(sK p0.2.2.2.2.2.1)
 Option.bind u4 fun y8 =>
 let u5:=(cond (!y8.2.1.1) true (au p0.2.2.2.2.2.1 p0.2.2.2.2.1))
 cond u5 (
 some ((),((false,()),()))
 ) (
 cond (ak p0.2.1 5) (
 let u6:=(sK p0.2.2.2.2.2.2.1)
 Option.bind u6 fun y9 =>
 some ((),(((cond y9.2.1.1 (bz p0.2.2.2.2.2.1 p0.2.2.2.2.2.2.1) false),()),()))
 ) (
 some ((),(((ak p0.2.2.2.2.2.2.1 (-1)),()),()))
 )
 )
 )
 )
 ) (
 cond (ak p0.2.1 2) (
 let u2:=(ae p0.2.2.1)
 cond (!(cond (ak p0.2.2.2.1 u2) (au 0 u2) false)) (
 some ((),((false,()),()))
 ) (
 cond (au p0.2.1 3) (
 some ((),(((cond (cond (cond (ak p0.2.2.2.2.2.1 (-1)) (ak p0.2.2.2.2.2.2.1 (-1)) false) (ak p0.2.2.2.2.2.2.2.1 0) false) (ak u1 0) false),()),()))
 ) (
 let u3:=(sK p0.2.2.2.2.2.1)
 Option.bind u3 fun y7 =>
 let u4:=(cond (!y7.2.1.1) true (au p0.2.2.2.2.2.1 p0.2.2.2.2.1))
 cond u4 (
 some ((),((false,()),()))
 ) (
 cond (ak p0.2.1 5) (
 let u5:=(sK p0.2.2.2.2.2.2.1)
 Option.bind u5 fun y8 =>
 some ((),(((cond y8.2.1.1 (bz p0.2.2.2.2.2.1 p0.2.2.2.2.2.2.1) false),()),()))
 ) (
 some ((),(((ak p0.2.2.2.2.2.2.1 (-1)),()),()))
 )
 )
 )
 )
 ) (
 cond (ak p0.2.1 3) (
 let u2:=(ae p0.2.2.1)
 let u3:=(lX p0.2.2.2.1 1 u2)
 Option.bind u3 fun y7 =>
 cond (!y7.2.1.1) (
 some ((),((false,()),()))
 ) (
 cond (au p0.2.1 3) (
 some ((),(((cond (cond (cond (ak p0.2.2.2.2.2.1 (-1)) (ak p0.2.2.2.2.2.2.1 (-1)) false) (ak p0.2.2.2.2.2.2.2.1 0) false) (ak u1 0) false),()),()))
 ) (
 let u4:=(sK p0.2.2.2.2.2.1)
 Option.bind u4 fun y8 =>
 let u5:=(cond (!y8.2.1.1) true (au p0.2.2.2.2.2.1 p0.2.2.2.2.1))
 cond u5 (
 some ((),((false,()),()))
 ) (
 cond (ak p0.2.1 5) (
 let u6:=(sK p0.2.2.2.2.2.2.1)
 Option.bind u6 fun y9 =>
 some ((),(((cond y9.2.1.1 (bz p0.2.2.2.2.2.1 p0.2.2.2.2.2.2.1) false),()),()))
 ) (
 some ((),(((ak p0.2.2.2.2.2.2.1 (-1)),()),()))
 )
 )
 )
 )
 ) (
 cond (!(ak p0.2.2.2.1 0)) (
 some ((),((false,()),()))
 ) (
 cond (au p0.2.1 3) (
 some ((),(((cond (cond (cond (ak p0.2.2.2.2.2.1 (-1)) (ak p0.2.2.2.2.2.2.1 (-1)) false) (ak p0.2.2.2.2.2.2.2.1 0) false) (ak u1 0) false),()),()))
 ) (
 let u2:=(sK p0.2.2.2.2.2.1)
 Option.bind u2 fun y7 =>
 let u3:=(cond (!y7.2.1.1) true (au p0.2.2.2.2.2.1 p0.2.2.2.2.1))
 cond u3 (
 some ((),((false,()),()))
 ) (
 cond (ak p0.2.1 5) (
 let u4:=(sK p0.2.2.2.2.2.2.1)
 Option.bind u4 fun y8 =>
 some ((),(((cond y8.2.1.1 (bz p0.2.2.2.2.2.1 p0.2.2.2.2.2.2.1) false),()),()))
 ) (
 some ((),(((ak p0.2.2.2.2.2.2.1 (-1)),()),()))
 )
 )
 )
 )
 )
 )
 )
 )
 )
 )
 )
 )
 )
def YE:Su:=⟨[.c true gG,.c false aK],[(false,[.bool])],true,.inl fun x=>SG x.1 x.2.1.1⟩
theorem Vg:ar Tryz.prog 39 YE :=
 fq (ac lM (ac J0 (ac W5 (ac XQ (ac Xy an))))) Tryz.f39
def UM (p0:(List R5)×Int×(List R3)×Int×Int×Int×Int×Int×(List R5)×Unit) (p1:Int):Option dZ :=
 let u1:=(EO 0 (E6 p0.2.2.2.1 (ae p0.2.2.1)))
 cond (dI 0 u1 p0.2.2.1) (
 (N6 (sub p0.2.2.1 0 u1) p1).bind fun y1 =>
 some ((),(y1.2.1,()))
 ) none
def Zh:Su:=⟨[.c true gG,.c false aK],[(false,[.bool])],true,.inl fun x=>UM x.1 x.2.1.1⟩
theorem WE:ar Tryz.prog 41 Zh :=
 fq (ac OJ an) Tryz.f41
def vQ (t3:List R3) (t36:List kQ) (t37 t38:Int) (t61:List R3) (t62 t63:Int) (b1:(List gk)×Int×Int×(List kQ)×Unit):Rd ((List R3)×(List kQ)×Int×Int×(List R3)×Int×Int×ND×Unit) Y1 :=
 cond (au t63 t62) (
 cond (a7 t63 t61) (
 let u1:=(gt d3 t61 t63)
 cond (ak u1.1 (-1)) (
 let u2:=(aq .i64 t63 1)
 some (.inl (t3,t36,t37,t38,t61,t62,u2,b1,()))
 ) (
 cond (bz b1.2.2.1 u1.1) (
 some (.inr (.inr (false,())))
 ) (
 (N6 t3 u1.1).bind fun y1 =>
 cond y1.2.1.1 (
 some (.inr (.inr (false,())))
 ) (
 cond (cR 8 t3 [u1]) (
 let u2:=(aq .i64 t63 1)
 some (.inl ((lP t3 [u1]),t36,t37,t38,t61,t62,u2,b1,()))
 ) none
 )
 )
 )
 ) none
 ) (
 some (.inr (.inl (t3,t36,t37,t38,t61,t62,t63,b1,())))
 )
def MZ:=Qe (ai (xM vQ))
def uC (t3:List R3) (t36:List kQ) (t37 t38:Int) (b1:(List gk)×Int×Int×(List kQ)×Unit):Rd ((List R3)×(List kQ)×Int×Int×ND×Unit) Y1 :=
 cond (au t38 t37) (
 cond (a7 t38 t36) (
 let u1:=(gt d64 t36 t38)
 (SG u1 (ae b1.1)).bind fun y1 =>
 cond (cond (!y1.2.1.1) true (au b1.2.1 u1.2.2.2.2.2.2.2.1)) (
 some (.inr (.inr (false,())))
 ) (
 (MZ t3 t36 t37 t38 [(u1.2.2.2.2.1,()),(u1.2.2.2.2.2.1,()),(u1.2.2.2.2.2.2.1,())] (ae [(u1.2.2.2.2.1,()),(u1.2.2.2.2.2.1,()),(u1.2.2.2.2.2.2.1,())]) 0 b1).bind (Sum.elim (fun y2 =>
 some (.inl (y2.1,y2.2.1,y2.2.2.1,(aq .i64 y2.2.2.2.1 1),y2.2.2.2.2.2.2.2.1,()))
 ) (fun y2 =>
 some (.inr (.inr (y2.1,())))
 ))
 )
 ) none
 ) (
 some (.inr (.inl (t3,t36,t37,t38,b1,())))
 )
def Nt:=yA (ai (gi uC))
def vf (t8:Int) (t85:List gk) (t86 t87:Int) (t99:List kQ) (t100 t101:Int) (b1:(List gk)×Int×Int×(List kQ)×Unit) (b9:Int×(List dp)×Unit):Rd (Int×(List gk)×Int×Int×(List kQ)×Int×Int×ND×Y8×Unit) Y1 :=
 cond (au t101 t100) (
 cond (a7 t101 t99) (
 (UM (gt d64 t99 t101) t8).bind fun y1 =>
 cond (!(P6 y1.2.1.1 (ak b9.1 t101))) (
 some (.inr (.inr (false,())))
 ) (
 some (.inl (t8,t85,t86,t87,t99,t100,(aq .i64 t101 1),b1,b9,()))
 )
 ) none
 ) (
 some (.inr (.inl (t8,t85,t86,t87,t99,t100,t101,b1,b9,())))
 )
def MF:=TP (ai (CN vf))
def vp (t85:List gk) (t86 t87:Int) (b1:(List gk)×Int×Int×(List kQ)×Unit):Rd ((List gk)×Int×Int×ND×Unit) Y1 :=
 cond (au t87 t86) (
 cond (a7 t87 t85) (
 let u1:=(ae b1.2.2.2.1)
 let u2:=(gt d67 t85 t87)
 cond (bz u1 u2.1) (
 some (.inr (.inr (false,())))
 ) (
 (MF t87 t85 t86 t87 b1.2.2.2.1 u1 0 b1 u2).bind (Sum.elim (fun y1 =>
 some (.inl (y1.2.1,y1.2.2.1,(aq .i64 y1.2.2.2.1 1),y1.2.2.2.2.2.2.2.1,()))
 ) (fun y1 =>
 some (.inr (.inr (y1.1,())))
 ))
 )
 ) none
 ) (
 some (.inr (.inl (t85,t86,t87,b1,())))
 )
def Md:=mJ (ai (cW vp))
def g11 (p0:(List gk)×Int×Int×(List kQ)×Unit):Option dZ :=
 (UN p0.1).bind fun y1 =>
 cond (!y1.2.1.1) (
 some ((),((false,()),()))
 ) (
 (sK p0.2.1).bind fun y2 =>
 cond (!y2.2.1.1) (
 some ((),((false,()),()))
 ) (
 (sK p0.2.2.1).bind fun y3 =>
 let u1:=(ae p0.2.2.2.1)
 cond (cond (!y3.2.1.1) true (au 12 u1)) (
 some ((),((false,()),()))
 ) (
 (Nt [] p0.2.2.2.1 u1 0 p0).bind (Sum.elim (fun y4 =>
 (Md y4.2.2.2.2.1.1 (ae y4.2.2.2.2.1.1) 0 y4.2.2.2.2.1).bind (Sum.elim (fun y5 =>
 some ((),((true,()),()))
 ) (fun y5 =>
 some ((),(y5,()))
 ))
 ) (fun y4 =>
 some ((),(y4,()))
 ))
 )
 )
 )
def Ze:Su:=⟨[.c true [.sl 67 de,.int .i64,.int .i64,.sl 64 fw]],[(false,[.bool])],true,.inl fun x=>g11 x.1⟩
theorem VP:ar Tryz.prog 11 Ze :=
 fl (ac J0 (ac Xc (ac OJ (ac Vg (ac WE an))))) [.d 2 (.bool)] [(2,⟨[.own 3 (.sl 3 aK),.d 36 (.sl 64 fw),.d 37 (.int .i64),.d 38 (.int .i64),.own 61 (.sl 3 aK),.d 62 (.int .i64),.d 63 (.int .i64),.box 1 [(false,.sl 67 de),(false,.int .i64),(false,.int .i64),(false,.sl 64 fw)]],ai (xM vQ)⟩),(0,⟨[.own 3 (.sl 3 aK),.d 36 (.sl 64 fw),.d 37 (.int .i64),.d 38 (.int .i64),.box 1 [(false,.sl 67 de),(false,.int .i64),(false,.int .i64),(false,.sl 64 fw)]],ai (gi uC)⟩),(6,⟨[.d 8 (.int .i64),.d 85 (.sl 67 de),.d 86 (.int .i64),.d 87 (.int .i64),.d 99 (.sl 64 fw),.d 100 (.int .i64),.d 101 (.int .i64),.box 1 [(false,.sl 67 de),(false,.int .i64),(false,.int .i64),(false,.sl 64 fw)],.box 9 [(false,.int .i64),(false,.sl 92 bw)]],ai (CN vf)⟩),(4,⟨[.d 85 (.sl 67 de),.d 86 (.int .i64),.d 87 (.int .i64),.box 1 [(false,.sl 67 de),(false,.int .i64),(false,.int .i64),(false,.sl 64 fw)]],ai (cW vp)⟩)] [] Tryz.f11 (lp [0,4] (sc (lp [2] (sc dn sn)) (sc (lp [6] (sc dn sn)) sn)))
def Wx (p0:(List R5)×Int×(List R3)×Int×Int×Int×Int×Int×(List R5)×Unit):Option jX :=
 cond (!(ak p0.2.1 1)) (
 some ((),(((-1),()),()))
 ) (
 (lX p0.2.2.2.1 0 (aG .i64 (ae p0.2.2.1) 1)).bind fun y1 =>
 cond (!y1.2.1.1) (
 some ((),(((-1),()),()))
 ) (
 cond (a7 p0.2.2.2.1 p0.2.2.1) (
 some ((),((gt d3 p0.2.2.1 p0.2.2.2.1),()))
 ) none
 )
 )
def Yu:Su:=⟨[.c true gG],[(false,aK)],true,.inl fun x=>Wx x.1⟩
theorem WW:ar Tryz.prog 47 Yu :=
 fq (ac lM an) Tryz.f47
def g14 (p0:(List gk)×Int×Int×(List kQ)×Unit) (p1:Int):Option jX :=
 (lX p1 0 (aG .i64 (ae p0.2.2.2.1) 1)).bind fun y1 =>
 cond (!y1.2.1.1) (
 some ((),(((-1),()),()))
 ) (
 (g11 p0).bind fun y2 =>
 cond (!y2.2.1.1) (
 some ((),(((-1),()),()))
 ) (
 cond (a7 p1 p0.2.2.2.1) (
 (Wx (gt d64 p0.2.2.2.1 p1)).bind fun y3 =>
 cond (au y3.2.1.1 0) (
 some ((),(((-1),()),()))
 ) (
 cond (a7 y3.2.1.1 p0.1) (
 some ((),(((gt d67 p0.1 y3.2.1.1).1,()),()))
 ) none
 )
 ) none
 )
 )
def Zt:Su:=⟨[.c true [.sl 67 de,.int .i64,.int .i64,.sl 64 fw],.c false aK],[(false,aK)],true,.inl fun x=>g14 x.1 x.2.1.1⟩
theorem WB:ar Tryz.prog 14 Zt :=
 fq (ac lM (ac VP (ac WW an))) Tryz.f14
def Kc (p0 p1:(List UInt8)×Int×Int×Unit):Option dZ :=
 cond (!(bY p0.1 p1.1)) (
 some ((),((false,()),()))
 ) (
 cond (!(ak p0.2.1 p1.2.1)) (
 some ((),((false,()),()))
 ) (
 cond (!(ak p0.2.2.1 p1.2.2.1)) (
 some ((),((false,()),()))
 ) (
 some ((),((true,()),()))
 )
 )
 )
def WL:Su:=⟨[.c true jn,.c true jn],[(false,[.bool])],true,.inl fun x=>Kc x.1 x.2.1⟩
theorem RB:ar Tryz.prog 197 WL :=
 fq an Tryz.f197
def oN (t0 t1:List dj) (t5:Int):Rd ((List dj)×(List dj)×Int×Unit) Y1 :=
 cond (au t5 (ae t0)) (
 cond (a7 t5 t0) (
 cond (a7 t5 t1) (
 (Kc (gt d157 t0 t5) (gt d157 t1 t5)).bind fun y1 =>
 cond (!y1.2.1.1) (
 some (.inr (.inr (false,())))
 ) (
 some (.inl (t0,t1,(aq .i64 t5 1),()))
 )
 ) none
 ) none
 ) (
 some (.inr (.inl (t0,t1,t5,())))
 )
def Ga:=pJ (ai (fb oN))
def Ke (p0 p1:List dj):Option dZ :=
 cond (!(ak (ae p0) (ae p1))) (
 some ((),((false,()),()))
 ) (
 (Ga p0 p1 0).bind (Sum.elim (fun y1 =>
 some ((),((true,()),()))
 ) (fun y1 =>
 some ((),(y1,()))
 ))
 )
def Xu:Su:=⟨[.c false [.sl 157 dG],.c false [.sl 157 dG]],[(false,[.bool])],true,.inl fun x=>Ke x.1.1 x.2.1.1⟩
theorem SR:ar Tryz.prog 146 Xu :=
 fl (ac RB an) [.d 4 (.bool)] [(0,⟨[.d 0 (.sl 157 dG),.d 1 (.sl 157 dG),.d 5 (.int .i64)],ai (fb oN)⟩)] [] Tryz.f146 (lp [0] (sc dn sn))
def wo (t0 t1:List R3) (t5:Int):Rd ((List R3)×(List R3)×Int×Unit) Y1 :=
 cond (au t5 (ae t0)) (
 cond (a7 t5 t0) (
 cond (a7 t5 t1) (
 cond (!(ak (gt d3 t0 t5).1 (gt d3 t1 t5).1)) (
 some (.inr (.inr (false,())))
 ) (
 some (.inl (t0,t1,(aq .i64 t5 1),()))
 )
 ) none
 ) none
 ) (
 some (.inr (.inl (t0,t1,t5,())))
 )
def MC:=pJ (ai (fb wo))
def g24 (p0 p1:List R3):Option dZ :=
 cond (!(ak (ae p0) (ae p1))) (
 some ((),((false,()),()))
 ) (
 (MC p0 p1 0).bind (Sum.elim (fun y1 =>
 some ((),((true,()),()))
 ) (fun y1 =>
 some ((),(y1,()))
 ))
 )
def Zk:Su:=⟨[.c false gD,.c false gD],[(false,[.bool])],true,.inl fun x=>g24 x.1.1 x.2.1.1⟩
theorem Th:ar Tryz.prog 24 Zk :=
 fl an [.d 4 (.bool)] [(0,⟨[.d 0 (.sl 3 aK),.d 1 (.sl 3 aK),.d 5 (.int .i64)],ai (fb wo)⟩)] [] Tryz.f24 (lp [0] (sc dn sn))
def KW (p0 p1:Int×Int×(List R3)×(List R3)×Unit):Option dZ :=
 cond (!(ak p0.1 p1.1)) (
 some ((),((false,()),()))
 ) (
 cond (!(ak p0.2.1 p1.2.1)) (
 some ((),((false,()),()))
 ) (
 (g24 p0.2.2.1 p1.2.2.1).bind fun y1 =>
 cond (!y1.2.1.1) (
 some ((),((false,()),()))
 ) (
 (g24 p0.2.2.2.1 p1.2.2.2.1).bind fun y2 =>
 cond (!y2.2.1.1) (
 some ((),((false,()),()))
 ) (
 some ((),((true,()),()))
 )
 )
 )
 )
def U2:Su:=⟨[.c true [.int .i64,.int .i64,.sl 3 aK,.sl 3 aK],.c true [.int .i64,.int .i64,.sl 3 aK,.sl 3 aK]],[(false,[.bool])],true,.inl fun x=>KW x.1 x.2.1⟩
theorem QJ:ar Tryz.prog 147 U2 :=
 fq (ac Th an) Tryz.f147
def uW (t0 t1:List R5) (t5:Int):Rd ((List R5)×(List R5)×Int×Unit) Y1 :=
 cond (au t5 (ae t0)) (
 cond (a7 t5 t0) (
 cond (a7 t5 t1) (
 cond (!(ak (gt d5 t0 t5).1 (gt d5 t1 t5).1)) (
 some (.inr (.inr (false,())))
 ) (
 some (.inl (t0,t1,(aq .i64 t5 1),()))
 )
 ) none
 ) none
 ) (
 some (.inr (.inl (t0,t1,t5,())))
 )
def Ml:=pJ (ai (fb uW))
def Ql (p0 p1:List R5):Option dZ :=
 cond (!(ak (ae p0) (ae p1))) (
 some ((),((false,()),()))
 ) (
 (Ml p0 p1 0).bind (Sum.elim (fun y1 =>
 some ((),((true,()),()))
 ) (fun y1 =>
 some ((),(y1,()))
 ))
 )
def Zq:Su:=⟨[.c false [.sl 5 fy],.c false [.sl 5 fy]],[(false,[.bool])],true,.inl fun x=>Ql x.1.1 x.2.1.1⟩
theorem SI:ar Tryz.prog 96 Zq :=
 fl an [.d 4 (.bool)] [(0,⟨[.d 0 (.sl 5 fy),.d 1 (.sl 5 fy),.d 5 (.int .i64)],ai (fb uW)⟩)] [] Tryz.f96 (lp [0] (sc dn sn))
def Lj (p0 p1:(List UInt8)×(List UInt8)×(List R5)×Unit):Option dZ :=
 cond (!(bY p0.1 p1.1)) (
 some ((),((false,()),()))
 ) (
 cond (!(bY p0.2.1 p1.2.1)) (
 some ((),((false,()),()))
 ) (
 (Ql p0.2.2.1 p1.2.2.1).bind fun y1 =>
 cond (!y1.2.1.1) (
 some ((),((false,()),()))
 ) (
 some ((),((true,()),()))
 )
 )
 )
def UU:Su:=⟨[.c true iy,.c true iy],[(false,[.bool])],true,.inl fun x=>Lj x.1 x.2.1⟩
theorem TX:ar Tryz.prog 198 UU :=
 fq (ac SI an) Tryz.f198
def pg (t0 t1:List di) (t5:Int):Rd ((List di)×(List di)×Int×Unit) Y1 :=
 cond (au t5 (ae t0)) (
 cond (a7 t5 t0) (
 cond (a7 t5 t1) (
 (Lj (gt d160 t0 t5) (gt d160 t1 t5)).bind fun y1 =>
 cond (!y1.2.1.1) (
 some (.inr (.inr (false,())))
 ) (
 some (.inl (t0,t1,(aq .i64 t5 1),()))
 )
 ) none
 ) none
 ) (
 some (.inr (.inl (t0,t1,t5,())))
 )
def IX:=pJ (ai (fb pg))
def LV (p0 p1:List di):Option dZ :=
 cond (!(ak (ae p0) (ae p1))) (
 some ((),((false,()),()))
 ) (
 (IX p0 p1 0).bind (Sum.elim (fun y1 =>
 some ((),((true,()),()))
 ) (fun y1 =>
 some ((),(y1,()))
 ))
 )
def XZ:Su:=⟨[.c false [.sl 160 cT],.c false [.sl 160 cT]],[(false,[.bool])],true,.inl fun x=>LV x.1.1 x.2.1.1⟩
theorem QM:ar Tryz.prog 148 XZ :=
 fl (ac TX an) [.d 4 (.bool)] [(0,⟨[.d 0 (.sl 160 cT),.d 1 (.sl 160 cT),.d 5 (.int .i64)],ai (fb pg)⟩)] [] Tryz.f148 (lp [0] (sc dn sn))
def JI (p0 p1:(List UInt8)×Int×Int×Int×Int×(List dj)×Int×Int×(List R3)×(List R3)×(List di)×Unit):Option dZ :=
 cond (!(bY p0.1 p1.1)) (
 some ((),((false,()),()))
 ) (
 cond (!(ak p0.2.1 p1.2.1)) (
 some ((),((false,()),()))
 ) (
 cond (!(ak p0.2.2.1 p1.2.2.1)) (
 some ((),((false,()),()))
 ) (
 cond (!(ak p0.2.2.2.1 p1.2.2.2.1)) (
 some ((),((false,()),()))
 ) (
 cond (!(ak p0.2.2.2.2.1 p1.2.2.2.2.1)) (
 some ((),((false,()),()))
 ) (
 (Ke p0.2.2.2.2.2.1 p1.2.2.2.2.2.1).bind fun y1 =>
 cond (!y1.2.1.1) (
 some ((),((false,()),()))
 ) (
 (KW (p0.2.2.2.2.2.2.1,p0.2.2.2.2.2.2.2.1,p0.2.2.2.2.2.2.2.2.1,p0.2.2.2.2.2.2.2.2.2.1,()) (p1.2.2.2.2.2.2.1,p1.2.2.2.2.2.2.2.1,p1.2.2.2.2.2.2.2.2.1,p1.2.2.2.2.2.2.2.2.2.1,())).bind fun y2 =>
 cond (!y2.2.1.1) (
 some ((),((false,()),()))
 ) (
 (LV p0.2.2.2.2.2.2.2.2.2.2.1 p1.2.2.2.2.2.2.2.2.2.2.1).bind fun y3 =>
 cond (!y3.2.1.1) (
 some ((),((false,()),()))
 ) (
 some ((),((true,()),()))
 )
 )
 )
 )
 )
 )
 )
 )
def WK:Su:=⟨[.c true bw,.c true bw],[(false,[.bool])],true,.inl fun x=>JI x.1 x.2.1⟩
theorem RH:ar Tryz.prog 113 WK :=
 fq (ac SR (ac QJ (ac QM an))) Tryz.f113
def wA (t0 t1:List dp) (t5:Int):Rd ((List dp)×(List dp)×Int×Unit) Y1 :=
 cond (au t5 (ae t0)) (
 cond (a7 t5 t0) (
 cond (a7 t5 t1) (
 (JI (gt d92 t0 t5) (gt d92 t1 t5)).bind fun y1 =>
 cond (!y1.2.1.1) (
 some (.inr (.inr (false,())))
 ) (
 some (.inl (t0,t1,(aq .i64 t5 1),()))
 )
 ) none
 ) none
 ) (
 some (.inr (.inl (t0,t1,t5,())))
 )
def MX:=pJ (ai (fb wA))
def Uq (p0 p1:List dp):Option dZ :=
 cond (!(ak (ae p0) (ae p1))) (
 some ((),((false,()),()))
 ) (
 (MX p0 p1 0).bind (Sum.elim (fun y1 =>
 some ((),((true,()),()))
 ) (fun y1 =>
 some ((),(y1,()))
 ))
 )
def Ys:Su:=⟨[.c false [.sl 92 bw],.c false [.sl 92 bw]],[(false,[.bool])],true,.inl fun x=>Uq x.1.1 x.2.1.1⟩
theorem X4:ar Tryz.prog 79 Ys :=
 fl (ac RH an) [.d 4 (.bool)] [(0,⟨[.d 0 (.sl 92 bw),.d 1 (.sl 92 bw),.d 5 (.int .i64)],ai (fb wA)⟩)] [] Tryz.f79 (lp [0] (sc dn sn))
def Ut (p0 p1:Int×(List dp)×Unit):Option dZ :=
 cond (!(ak p0.1 p1.1)) (
 some ((),((false,()),()))
 ) (
 (Uq p0.2.1 p1.2.1).bind fun y1 =>
 cond (!y1.2.1.1) (
 some ((),((false,()),()))
 ) (
 some ((),((true,()),()))
 )
 )
def Zs:Su:=⟨[.c true de,.c true de],[(false,[.bool])],true,.inl fun x=>Ut x.1 x.2.1⟩
theorem WS:ar Tryz.prog 73 Zs :=
 fq (ac X4 an) Tryz.f73
def uc (t0 t1:List gk) (t5:Int):Rd ((List gk)×(List gk)×Int×Unit) Y1 :=
 cond (au t5 (ae t0)) (
 cond (a7 t5 t0) (
 cond (a7 t5 t1) (
 (Ut (gt d67 t0 t5) (gt d67 t1 t5)).bind fun y1 =>
 cond (!y1.2.1.1) (
 some (.inr (.inr (false,())))
 ) (
 some (.inl (t0,t1,(aq .i64 t5 1),()))
 )
 ) none
 ) none
 ) (
 some (.inr (.inl (t0,t1,t5,())))
 )
def ME:=pJ (ai (fb uc))
def Us (p0 p1:List gk):Option dZ :=
 cond (!(ak (ae p0) (ae p1))) (
 some ((),((false,()),()))
 ) (
 (ME p0 p1 0).bind (Sum.elim (fun y1 =>
 some ((),((true,()),()))
 ) (fun y1 =>
 some ((),(y1,()))
 ))
 )
def YD:Su:=⟨[.c false [.sl 67 de],.c false [.sl 67 de]],[(false,[.bool])],true,.inl fun x=>Us x.1.1 x.2.1.1⟩
theorem WM:ar Tryz.prog 42 YD :=
 fl (ac WS an) [.d 4 (.bool)] [(0,⟨[.d 0 (.sl 67 de),.d 1 (.sl 67 de),.d 5 (.int .i64)],ai (fb uc)⟩)] [] Tryz.f42 (lp [0] (sc dn sn))
def Uv (p0 p1:(List R5)×Int×(List R3)×Int×Int×Int×Int×Int×(List R5)×Unit):Option dZ :=
 (Ql p0.1 p1.1).bind fun y1 =>
 cond (!y1.2.1.1) (
 some ((),((false,()),()))
 ) (
 cond (!(ak p0.2.1 p1.2.1)) (
 some ((),((false,()),()))
 ) (
 (g24 p0.2.2.1 p1.2.2.1).bind fun y2 =>
 cond (!y2.2.1.1) (
 some ((),((false,()),()))
 ) (
 cond (!(ak p0.2.2.2.1 p1.2.2.2.1)) (
 some ((),((false,()),()))
 ) (
 cond (!(ak p0.2.2.2.2.1 p1.2.2.2.2.1)) (
 some ((),((false,()),()))
 ) (
 cond (!(ak p0.2.2.2.2.2.1 p1.2.2.2.2.2.1)) (
 some ((),((false,()),()))
 ) (
 cond (!(ak p0.2.2.2.2.2.2.1 p1.2.2.2.2.2.2.1)) (
 some ((),((false,()),()))
 ) (
 cond (!(ak p0.2.2.2.2.2.2.2.1 p1.2.2.2.2.2.2.2.1)) (
 some ((),((false,()),()))
 ) (
 (Ql p0.2.2.2.2.2.2.2.2.1 p1.2.2.2.2.2.2.2.2.1).bind fun y3 =>
 cond (!y3.2.1.1) (
 some ((),((false,()),()))
 ) (
 some ((),((true,()),()))
 )
 )
 )
 )
 )
 )
 )
 )
 )
def Yq:Su:=⟨[.c true gG,.c true gG],[(false,[.bool])],true,.inl fun x=>Uv x.1 x.2.1⟩
theorem X9:ar Tryz.prog 74 Yq :=
 fq (ac Th (ac SI an)) Tryz.f74
def uf (t0 t1:List kQ) (t5:Int):Rd ((List kQ)×(List kQ)×Int×Unit) Y1 :=
 cond (au t5 (ae t0)) (
 cond (a7 t5 t0) (
 cond (a7 t5 t1) (
 (Uv (gt d64 t0 t5) (gt d64 t1 t5)).bind fun y1 =>
 cond (!y1.2.1.1) (
 some (.inr (.inr (false,())))
 ) (
 some (.inl (t0,t1,(aq .i64 t5 1),()))
 )
 ) none
 ) none
 ) (
 some (.inr (.inl (t0,t1,t5,())))
 )
def Nr:=pJ (ai (fb uf))
def UQ (p0 p1:List kQ):Option dZ :=
 cond (!(ak (ae p0) (ae p1))) (
 some ((),((false,()),()))
 ) (
 (Nr p0 p1 0).bind (Sum.elim (fun y1 =>
 some ((),((true,()),()))
 ) (fun y1 =>
 some ((),(y1,()))
 ))
 )
def Yt:Su:=⟨[.c false [.sl 64 fw],.c false [.sl 64 fw]],[(false,[.bool])],true,.inl fun x=>UQ x.1.1 x.2.1.1⟩
theorem VX:ar Tryz.prog 43 Yt :=
 fl (ac X9 an) [.d 4 (.bool)] [(0,⟨[.d 0 (.sl 64 fw),.d 1 (.sl 64 fw),.d 5 (.int .i64)],ai (fb uf)⟩)] [] Tryz.f43 (lp [0] (sc dn sn))
def g12 (p0 p1:(List gk)×Int×Int×(List kQ)×Unit):Option dZ :=
 (Us p0.1 p1.1).bind fun y1 =>
 cond (!y1.2.1.1) (
 some ((),((false,()),()))
 ) (
 cond (!(ak p0.2.1 p1.2.1)) (
 some ((),((false,()),()))
 ) (
 cond (!(ak p0.2.2.1 p1.2.2.1)) (
 some ((),((false,()),()))
 ) (
 (UQ p0.2.2.2.1 p1.2.2.2.1).bind fun y2 =>
 cond (!y2.2.1.1) (
 some ((),((false,()),()))
 ) (
 some ((),((true,()),()))
 )
 )
 )
 )
def Zf:Su:=⟨[.c true [.sl 67 de,.int .i64,.int .i64,.sl 64 fw],.c true [.sl 67 de,.int .i64,.int .i64,.sl 64 fw]],[(false,[.bool])],true,.inl fun x=>g12 x.1 x.2.1⟩
theorem Xv:ar Tryz.prog 12 Zf :=
 fq (ac WM (ac VX an)) Tryz.f12
def g4 (p0:(List sG)×Int×Int×(List qP)×Unit) (p1:Int):Option dZ :=
 (g8 p0 1048576).bind fun y1 =>
 cond (au y1.2.1.1 0) (
 some ((),((true,()),()))
 ) (
 let u1:=(g10 p0)
 Option.bind u1 fun y2 =>
 (g13 y2.2.1 p1).bind fun y3 =>
 Option.bind u1 fun y4 =>
 (g14 y4.2.1 p1).bind fun y5 =>
 cond (!(ak y5.2.1.1 y3.2.1.1)) (
 some ((),((false,()),()))
 ) (
 Option.bind u1 fun y6 =>
 (g12 y4.2.1 y6.2.1).bind fun y7 =>
 cond (!y7.2.1.1) (
 some ((),((false,()),()))
 ) (
 some ((),((true,()),()))
 )
 )
 )
def s4:Su:=⟨[.c true [.sl 84 nh,.int .i64,.int .i64,.sl 86 gG],.c false aK],[(false,[.bool])],true,.inl fun x=>g4 x.1 x.2.1.1⟩
theorem Yp:ar Tryz.prog 4 s4 :=
 fq (ac Za (ac Vz (ac Xx (ac WB (ac Xv an))))) Tryz.f4
end
end Go.Av
