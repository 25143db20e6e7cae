/- Part of a proof that the law FnExactWorldShow answers true for every input: the printed functions of this program and their plain laws. No conditions beyond the statement. -/
import Derived.Test.YtbgoaopannojjaaGreatDoorP1a
set_option maxRecDepth 100000
namespace Go.Av
open Go.Proofs
set_option maxHeartbeats 4000000
noncomputable section
def px (t6:List ik) (t7 t8:Int) (b1:(List UInt8)×(List ik)×Unit):Rd ((List ik)×Int×Int×CC×Unit) Y2 :=
 cond (au t8 t7) (
 cond (aZ t8 t6) (
 let u1:=(gt d175 t6 t8)
 (xU u1.1 u1.2.1).bind fun y1 =>
 cond (!y1.2.1.1) (
 some (.inr (.inr (false,())))
 ) (
 cond (au 0 t8) (
 let u2:=(aI .i64 t8 1)
 cond (aZ u2 b1.2.1) (
 cond (bz u1.1 (gt d175 b1.2.1 u2).1) (
 some (.inr (.inr (false,())))
 ) (
 some (.inl (t6,t7,(aq .i64 t8 1),b1,()))
 )
 ) none
 ) (
 some (.inl (t6,t7,(aq .i64 t8 1),b1,()))
 )
 )
 ) none
 ) (
 some (.inr (.inl (t6,t7,t8,b1,())))
 )
def CW:=kq (ai (cf px))
def Mx (p0:(List UInt8)×(List ik)×Unit):Option dS :=
 (CW p0.2.1 (ae p0.2.1) 0 p0).bind (Sum.elim (fun y1 =>
 (wx y1.2.2.2.1.1 4).bind fun y2 =>
 some ((),(y2.2.1,()))
 ) (fun y1 =>
 some ((),(y1,()))
 ))
def abc:Su:=⟨[.c true [.str,ig]],[(false,[.bool])],true,.inl fun x=>Mx x.1⟩
theorem TB:ar Tryz.prog 209 abc :=
 fl (ac It (ac OM an)) [.d 2 .bool] [(0,⟨[.d 6 ig,.d 7 ki,.d 8 ki,.box 1 [(false,.str),(false,ig)]],ai (cf px)⟩)] [] Tryz.f209 (lp [0] (sc cX sn))
def QA (p0:List UInt8):Option dS :=
 some ((),(((cond (cond (bI p0 [48,49,48,48]) true (bI p0 [48,50,48,48])) true (bI p0 [48,50,50,48])),()),()))
def YH:Su:=⟨[.c false [.str]],[(false,[.bool])],true,.inl fun x=>QA x.1.1⟩
theorem Vp:ar Tryz.prog 210 YH :=
 fq an Tryz.f210
def oR (t1:Int) (t9:List ik) (t10 t11:Int):Rd (Int×(List ik)×Int×Int×Unit) ((List UInt8)×Bool×Unit) :=
 cond (au t11 t10) (
 cond (aZ t11 t9) (
 let u1:=(gt d175 t9 t11)
 cond (ak u1.1 t1) (
 some (.inr (.inr (u1.2.1,true,())))
 ) (
 some (.inl (t1,t9,t10,(aq .i64 t11 1),()))
 )
 ) none
 ) (
 some (.inr (.inl (t1,t9,t10,t11,())))
 )
def Ja:=kq (ai (cf oR))
def DS (p0:(List UInt8)×(List ik)×Unit) (p1:Int):Option (Unit×(Y8×Y2×Unit)) :=
 (Ja p1 p0.2.1 (ae p0.2.1) 0).bind (Sum.elim (fun _ =>
 some ((),(([],()),(false,()),()))
 ) (fun y1 =>
 some ((),((y1.1,()),(y1.2.1,()),()))
 ))
def abW:Su:=⟨[.c true [.str,ig],.c false [ki]],[(false,[.str]),(false,[.bool])],true,.inl fun x=>DS x.1 x.2.1.1⟩
theorem Qo:ar Tryz.prog 151 abW :=
 fl an [.d 4 .str,.d 5 .bool] [(0,⟨[.d 1 ki,.d 9 ig,.d 10 ki,.d 11 ki],ai (cf oR)⟩)] [] Tryz.f151 (lp [0] (sc cX sn))
def LP  : Option (Unit×(((List Hh)×Unit)×Unit)) :=
 some ((),(([([48,49,48,48],[48,48],[97,117,116,104],[(4,()),(14,()),(38,())],()),([48,49,48,48],[48,50],[109,111,114,101],[(4,()),(38,())],()),([48,50,50,48],[48,49],[112,97,114,116],[(4,()),(38,())],()),([48,50,50,48],[48,48],[102,105,110,97,108],[(4,()),(38,())],()),([48,50,50,48],[50,48],[102,114,101,101],[(38,())],()),([48,50,48,48],[52,48],[109,111,118,101],[(38,()),(103,())],()),([48,49,48,48],[51,49],[97,115,107],[],()),([48,50,48,48],[57,48],[115,119,101,101,112],[],())],()),()))
def ab2:Su:=⟨[],[(false,[.sl 198 Ep])],false,.inl fun x=>LP ⟩
theorem PQ:ar Tryz.prog 212 ab2 :=
 fl an [] [] [999999] Tryz.f212 cX
def Rq (p0:(List UInt8)×(List UInt8)×(List UInt8)×(List R3)×Unit) (p1:(List UInt8)×(List ik)×Unit) (p2:(List UInt8)×Unit):Option dS :=
 cond (bI p0.1 p1.1) (
 cond (dj 0 2 p2.1) (
 some ((),(((bI p0.2.1 (sub p2.1 0 2)),()),()))
 ) none
 ) (
 c0
 )
def aap:Su:=⟨[.c true [.str,.str,.str,q3],.pt [.str,ig],.pt [.str]],[(false,[.bool])],true,.inl fun x=>Rq x.1 x.2.1 x.2.2.1⟩
theorem Wt:ar Tryz.prog 213 aap :=
 fq an Tryz.f213
def pw (t0:List Hh) (f1:CC×Y8×Unit) (t7 t8:Int):Rd ((List Hh)×(CC×Y8×Unit)×Int×Int×Unit) Y1 :=
 cond (au t8 t7) (
 cond (aZ t8 t0) (
 (Rq (gt d198 t0 t8) f1.1 f1.2.1).bind fun y1 =>
 cond y1.2.1.1 (
 some (.inr (.inr (t8,())))
 ) (
 some (.inl (t0,f1,t7,(aq .i64 t8 1),()))
 )
 ) none
 ) (
 some (.inr (.inl (t0,f1,t7,t8,())))
 )
def Q8:=kq (ai (cf pw))
def MP (p0:List Hh) (c1_0:(List UInt8)×(List ik)×Unit) (c1_1:(List UInt8)×Unit):Option gX :=
 (Q8 p0 (c1_0,c1_1,()) (ae p0) 0).bind (Sum.elim (fun _ =>
 c3
 ) (fun y1 =>
 some ((),(y1,()))
 ))
def Yl:Su:=⟨[.c false [.sl 198 Ep],.fn 213 [.p [.str,ig],.p [.str]]],[(false,[ki])],true,.inl fun x=>MP x.1.1 x.2.1.1 x.2.1.2.1⟩
theorem Ud:ar Tryz.prog 211 Yl :=
 fl (ac Wt an) [.d 4 ki] [(0,⟨[.d 0 (.sl 198 Ep),.fn 1 213 [.p [.str,ig],.p [.str]],.d 7 ki,.d 8 ki],ai (cf pw)⟩)] [] Tryz.f211 (lp [0] (sc cX sn))
def zo (p0:Int):Option (Unit×(Hh×Unit)) :=
 (nc p0 1 8).bind fun y1 =>
 cond (!y1.2.1.1) (
 some ((),(([],[],[],[],()),()))
 ) (
 (LP).bind fun y2 =>
 let u1:=(aI .i64 p0 1)
 cond (aZ u1 y2.2.1.1) (
 some ((),((gt d198 y2.2.1.1 u1),()))
 ) none
 )
def abH:Su:=⟨[.c false [ki]],[(true,[.str,.str,.str,q3])],false,.inl fun x=>zo x.1.1⟩
theorem Iq:ar Tryz.prog 214 abH :=
 fl (ac my (ac PQ an)) [] [] [999999] Tryz.f214 cX
def ow (t0:List R3) (t1 t7 t8:Int):Rd ((List R3)×Int×Int×Int×Unit) Y1 :=
 cond (au t8 t7) (
 cond (aZ t8 t0) (
 cond (ak t1 (gt d3 t0 t8).1) (
 some (.inr (.inr (t8,())))
 ) (
 some (.inl (t0,t1,t7,(aq .i64 t8 1),()))
 )
 ) none
 ) (
 some (.inr (.inl (t0,t1,t7,t8,())))
 )
def Ih:=kq (ai (cf ow))
def SP (p0:List R3) (p1:Int):Option gX :=
 (Ih p0 p1 (ae p0) 0).bind (Sum.elim (fun _ =>
 c3
 ) (fun y1 =>
 some ((),(y1,()))
 ))
def Y3:Su:=⟨[.c false [q3],.c false [ki]],[(false,[ki])],true,.inl fun x=>SP x.1.1 x.2.1.1⟩
theorem WQ:ar Tryz.prog 134 Y3 :=
 fl an [.d 4 ki] [(0,⟨[.d 0 q3,.d 1 ki,.d 7 ki,.d 8 ki],ai (cf ow)⟩)] [] Tryz.f134 (lp [0] (sc cX sn))
def Rr (p0:List R3) (p1:Int):Option dS :=
 (SP p0 p1).bind fun y1 =>
 some ((),(((bz 0 y1.2.1.1),()),()))
def s76:Su:=⟨[.c false [q3],.c false [ki]],[(false,[.bool])],true,.inl fun x=>Rr x.1.1 x.2.1.1⟩
theorem Qu:ar Tryz.prog 76 s76 :=
 fq (ac WQ an) Tryz.f76
def kd (p0 p1:Int):Option dS :=
 (zo p0).bind fun y1 =>
 (Rr y1.2.1.2.2.2.1 p1).bind fun y2 =>
 some ((),(y2.2.1,()))
def YL:Su:=⟨[.c false [ki],.c false [ki]],[(false,[.bool])],true,.inl fun x=>kd x.1.1 x.2.1.1⟩
theorem UE:ar Tryz.prog 273 YL :=
 fq (ac Iq (ac Qu an)) Tryz.f273
def Kh (p0:Int×(List UInt8)×(List UInt8)×(List UInt8)×(List UInt8)×(List UInt8)×Int×Int×Unit):Option dS :=
 (zo p0.1).bind fun y1 =>
 cond (cond (bI y1.2.1.2.2.1 []) true (!(bI p0.2.2.2.2.2.1 y1.2.1.1))) (
 c0
 ) (
 (rZ p0.2.1).bind fun y2 =>
 cond (!y2.2.1.1) (
 c0
 ) (
 (wx p0.2.2.2.2.1 6).bind fun y3 =>
 cond (!y3.2.1.1) (
 c0
 ) (
 (kd p0.1 38).bind fun y4 =>
 cond y4.2.1.1 (
 (Kn p0.2.2.2.1).bind fun y5 =>
 let u1:=(kd p0.1 4)
 Option.bind u1 fun y6 =>
 cond y6.2.1.1 (
 let u2:=(nc p0.2.2.2.2.2.2.1 0 999999999999)
 Option.bind u2 fun y7 =>
 let u3:=(kd p0.1 14)
 Option.bind u3 fun y8 =>
 cond y8.2.1.1 (
 let u4:=(nc p0.2.2.2.2.2.2.2.1 0 9999)
 Option.bind u4 fun y9 =>
 let u5:=(kd p0.1 103)
 Option.bind u5 fun y10 =>
 cond y10.2.1.1 (
 let u6:=(rZ p0.2.2.1)
 Option.bind u6 fun y11 =>
 let u7:=(cond y5.2.1.1 y7.2.1.1 false)
 let u8:=(cond u7 y9.2.1.1 false)
 some ((),(((cond u8 y11.2.1.1 false),()),()))
 ) (
 let u6:=(cond y5.2.1.1 y7.2.1.1 false)
 let u7:=(cond u6 y9.2.1.1 false)
 let u8:=(bI p0.2.2.1 [])
 some ((),(((cond u7 u8 false),()),()))
 )
 ) (
 let u4:=(kd p0.1 103)
 Option.bind u4 fun y9 =>
 cond y9.2.1.1 (
 let u5:=(rZ p0.2.2.1)
 Option.bind u5 fun y10 =>
 let u6:=(cond y5.2.1.1 y7.2.1.1 false)
 let u7:=(cond u6 (ak p0.2.2.2.2.2.2.2.1 0) false)
 some ((),(((cond u7 y10.2.1.1 false),()),()))
 ) (
 let u5:=(cond y5.2.1.1 y7.2.1.1 false)
 let u6:=(cond u5 (ak p0.2.2.2.2.2.2.2.1 0) false)
 let u7:=(bI p0.2.2.1 [])
 some ((),(((cond u6 u7 false),()),()))
 )
 )
 ) (
 let u2:=(kd p0.1 14)
 Option.bind u2 fun y7 =>
 cond y7.2.1.1 (
 let u3:=(nc p0.2.2.2.2.2.2.2.1 0 9999)
 Option.bind u3 fun y8 =>
 let u4:=(kd p0.1 103)
 Option.bind u4 fun y9 =>
 cond y9.2.1.1 (
 let u5:=(rZ p0.2.2.1)
 Option.bind u5 fun y10 =>
 let u6:=(cond y5.2.1.1 (ak p0.2.2.2.2.2.2.1 0) false)
 let u7:=(cond u6 y8.2.1.1 false)
 some ((),(((cond u7 y10.2.1.1 false),()),()))
 ) (
 let u5:=(cond y5.2.1.1 (ak p0.2.2.2.2.2.2.1 0) false)
 let u6:=(cond u5 y8.2.1.1 false)
 let u7:=(bI p0.2.2.1 [])
 some ((),(((cond u6 u7 false),()),()))
 )
 ) (
 let u3:=(kd p0.1 103)
 Option.bind u3 fun y8 =>
 cond y8.2.1.1 (
 let u4:=(rZ p0.2.2.1)
 Option.bind u4 fun y9 =>
 let u5:=(cond y5.2.1.1 (ak p0.2.2.2.2.2.2.1 0) false)
 let u6:=(cond u5 (ak p0.2.2.2.2.2.2.2.1 0) false)
 some ((),(((cond u6 y9.2.1.1 false),()),()))
 ) (
 let u4:=(cond y5.2.1.1 (ak p0.2.2.2.2.2.2.1 0) false)
 let u5:=(cond u4 (ak p0.2.2.2.2.2.2.2.1 0) false)
 let u6:=(bI p0.2.2.1 [])
 some ((),(((cond u5 u6 false),()),()))
 )
 )
 )
 ) (
 let u1:=(kd p0.1 4)
 Option.bind u1 fun y5 =>
 cond y5.2.1.1 (
 let u2:=(nc p0.2.2.2.2.2.2.1 0 999999999999)
 Option.bind u2 fun y6 =>
 let u3:=(kd p0.1 14)
 Option.bind u3 fun y7 =>
 cond y7.2.1.1 (
 let u4:=(nc p0.2.2.2.2.2.2.2.1 0 9999)
 Option.bind u4 fun y8 =>
 let u5:=(kd p0.1 103)
 Option.bind u5 fun y9 =>
 cond y9.2.1.1 (
 let u6:=(rZ p0.2.2.1)
 Option.bind u6 fun y10 =>
 let u7:=(bI p0.2.2.2.1 [])
 let u8:=(cond u7 y6.2.1.1 false)
 let u9:=(cond u8 y8.2.1.1 false)
 some ((),(((cond u9 y10.2.1.1 false),()),()))
 ) (
 let u6:=(bI p0.2.2.2.1 [])
 let u7:=(cond u6 y6.2.1.1 false)
 let u8:=(cond u7 y8.2.1.1 false)
 let u9:=(bI p0.2.2.1 [])
 some ((),(((cond u8 u9 false),()),()))
 )
 ) (
 let u4:=(kd p0.1 103)
 Option.bind u4 fun y8 =>
 cond y8.2.1.1 (
 let u5:=(rZ p0.2.2.1)
 Option.bind u5 fun y9 =>
 let u6:=(bI p0.2.2.2.1 [])
 let u7:=(cond u6 y6.2.1.1 false)
 let u8:=(cond u7 (ak p0.2.2.2.2.2.2.2.1 0) false)
 some ((),(((cond u8 y9.2.1.1 false),()),()))
 ) (
 let u5:=(bI p0.2.2.2.1 [])
 let u6:=(cond u5 y6.2.1.1 false)
 let u7:=(cond u6 (ak p0.2.2.2.2.2.2.2.1 0) false)
 let u8:=(bI p0.2.2.1 [])
 some ((),(((cond u7 u8 false),()),()))
 )
 )
 ) (
 let u2:=(kd p0.1 14)
 Option.bind u2 fun y6 =>
 cond y6.2.1.1 (
 let u3:=(nc p0.2.2.2.2.2.2.2.1 0 9999)
 Option.bind u3 fun y7 =>
 let u4:=(kd p0.1 103)
 Option.bind u4 fun y8 =>
 cond y8.2.1.1 (
 let u5:=(rZ p0.2.2.1)
 Option.bind u5 fun y9 =>
 let u6:=(bI p0.2.2.2.1 [])
 let u7:=(cond u6 (ak p0.2.2.2.2.2.2.1 0) false)
 let u8:=(cond u7 y7.2.1.1 false)
 some ((),(((cond u8 y9.2.1.1 false),()),()))
 ) (
 let u5:=(bI p0.2.2.2.1 [])
 let u6:=(cond u5 (ak p0.2.2.2.2.2.2.1 0) false)
 let u7:=(cond u6 y7.2.1.1 false)
 let u8:=(bI p0.2.2.1 [])
 some ((),(((cond u7 u8 false),()),()))
 )
 ) (
 let u3:=(kd p0.1 103)
 Option.bind u3 fun y7 =>
 cond y7.2.1.1 (
 let u4:=(rZ p0.2.2.1)
 Option.bind u4 fun y8 =>
 let u5:=(bI p0.2.2.2.1 [])
 let u6:=(cond u5 (ak p0.2.2.2.2.2.2.1 0) false)
 let u7:=(cond u6 (ak p0.2.2.2.2.2.2.2.1 0) false)
 some ((),(((cond u7 y8.2.1.1 false),()),()))
 ) (
 let u4:=(bI p0.2.2.2.1 [])
 let u5:=(cond u4 (ak p0.2.2.2.2.2.2.1 0) false)
 let u6:=(cond u5 (ak p0.2.2.2.2.2.2.2.1 0) false)
 let u7:=(bI p0.2.2.1 [])
 some ((),(((cond u6 u7 false),()),()))
 )
 )
 )
 )
 )
 )
 )
def aa5:Su:=⟨[.c true [ki,.str,.str,.str,.str,.str,ki,ki]],[(false,[.bool])],true,.inl fun x=>Kh x.1⟩
theorem UR:ar Tryz.prog 217 aa5 :=
 fq (ac my (ac PM (ac Qn (ac It (ac Iq (ac UE an)))))) Tryz.f217
def Ah (t0:List UInt8) (t1:Int):Rd Wd Unit :=
 let u1:=(ae t0)
 cond (au 0 u1) (
 let u2:=(aI .i64 u1 1)
 cond (aZ u2 t0) (
 cond (ak (dq t0 u2) t1) (
 cond (dj 0 u2 t0) (
 some (.inl ((sub t0 0 u2),t1,()))
 ) none
 ) (
 some (.inr (.inl (t0,t1,())))
 )
 ) none
 ) (
 some (.inr (.inl (t0,t1,())))
 )
def IP:=PO (ai (wW Ah))
def IJ (p0:List UInt8) (p1:Int):Option xJ :=
 (IP p0 p1).bind (Sum.elim (fun y1 =>
 some ((),((y1.1,()),()))
 ) (fun _ =>
 none
 ))
def Yq:Su:=⟨[.c false [.str],.c false tZ],[(false,[.str])],true,.inl fun x=>IJ x.1.1 x.2.1.1⟩
theorem WE:ar Tryz.prog 306 Yq :=
 fl an [] [(0,⟨[.d 0 .str,.d 1 (.int .u8)],ai (wW Ah)⟩)] [] Tryz.f306 (lp [0] (sc cX sn))
def Rb (p0 p1:List UInt8):Option xJ :=
 cond (cond (bI p0 []) true (bI p1 [])) (
 some ((),((p0,()),()))
 ) (
 cond (ak (ae p1) 1) (
 cond (aZ 0 p1) (
 let u1:=(dq p1 0)
 cond (au u1 128) (
 cond (aZ 0 p1) (
 (IJ p0 u1).bind fun y1 =>
 some ((),(y1.2.1,()))
 ) none
 ) (
 none
 )
 ) none
 ) (
 none
 )
 )
def Yv:Su:=⟨[.c false [.str],.c false [.str]],[(false,[.str])],true,.inl fun x=>Rb x.1.1 x.2.1.1⟩
theorem Uz:ar Tryz.prog 272 Yv :=
 fq (ac WE an) Tryz.f272
def LN (p0:List UInt8):Option xJ :=
 (Rb p0 [32]).bind fun y1 =>
 some ((),(y1.2.1,()))
def aag:Su:=⟨[.c false [.str]],[(false,[.str])],true,.inl fun x=>LN x.1.1⟩
theorem V3:ar Tryz.prog 216 aag :=
 fq (ac Uz an) Tryz.f216
def oe (t41:List R3) (t42 t43:Int) (b1:(List UInt8)×(List ik)×Unit) (b2 b6:Int×(List UInt8)×(List UInt8)×(List UInt8)×(List UInt8)×(List UInt8)×Int×Int×Unit):Rd ((List R3)×Int×Int×CC×SH×SH×Unit) (Int×SH×Unit) :=
 cond (au t43 t42) (
 cond (aZ t43 t41) (
 (DS b1 (gt d3 t41 t43).1).bind fun y1 =>
 cond (!y1.2.2.1.1) (
 some (.inr (.inr (1,(0,[],[],[],[],[],0,0,()),())))
 ) (
 cond (ak (gt d3 t41 t43).1 2) (
 let u1:=(aq .i64 t43 1)
 some (.inl (t41,t42,u1,b1,b2,(b6.1,y1.2.1.1,b6.2.2.1,b6.2.2.2.1,b6.2.2.2.2.1,b6.2.2.2.2.2.1,b6.2.2.2.2.2.2.1,b6.2.2.2.2.2.2.2.1,()),()))
 ) (
 cond (ak (gt d3 t41 t43).1 4) (
 let u1:=(D1 y1.2.1.1)
 Option.bind u1 fun y2 =>
 let u2:=(aq .i64 t43 1)
 some (.inl (t41,t42,u2,b1,b2,(b6.1,b6.2.1,b6.2.2.1,b6.2.2.2.1,b6.2.2.2.2.1,b6.2.2.2.2.2.1,y2.2.1.1,b6.2.2.2.2.2.2.2.1,()),()))
 ) (
 cond (ak (gt d3 t41 t43).1 11) (
 let u1:=(aq .i64 t43 1)
 some (.inl (t41,t42,u1,b1,b2,(b6.1,b6.2.1,b6.2.2.1,b6.2.2.2.1,y1.2.1.1,b6.2.2.2.2.2.1,b6.2.2.2.2.2.2.1,b6.2.2.2.2.2.2.2.1,()),()))
 ) (
 cond (ak (gt d3 t41 t43).1 14) (
 let u1:=(D1 y1.2.1.1)
 Option.bind u1 fun y2 =>
 let u2:=(aq .i64 t43 1)
 some (.inl (t41,t42,u2,b1,b2,(b6.1,b6.2.1,b6.2.2.1,b6.2.2.2.1,b6.2.2.2.2.1,b6.2.2.2.2.2.1,b6.2.2.2.2.2.2.1,y2.2.1.1,()),()))
 ) (
 cond (ak (gt d3 t41 t43).1 38) (
 (LN y1.2.1.1).bind fun y2 =>
 let u1:=(aq .i64 t43 1)
 some (.inl (t41,t42,u1,b1,b2,(b6.1,b6.2.1,b6.2.2.1,y2.2.1.1,b6.2.2.2.2.1,b6.2.2.2.2.2.1,b6.2.2.2.2.2.2.1,b6.2.2.2.2.2.2.2.1,()),()))
 ) (
 cond (ak (gt d3 t41 t43).1 103) (
 let u1:=(aq .i64 t43 1)
 some (.inl (t41,t42,u1,b1,b2,(b6.1,b6.2.1,y1.2.1.1,b6.2.2.2.1,b6.2.2.2.2.1,b6.2.2.2.2.2.1,b6.2.2.2.2.2.2.1,b6.2.2.2.2.2.2.2.1,()),()))
 ) (
 let u1:=(aq .i64 t43 1)
 some (.inl (t41,t42,u1,b1,b2,b6,()))
 )
 )
 )
 )
 )
 )
 )
 ) none
 ) (
 some (.inr (.inl (t41,t42,t43,b1,b2,b6,())))
 )
def KW:=Vc (ai (FB oe))
def Nh (p0:(List UInt8)×(List ik)×Unit):Option (Unit×(SH×Y1×Unit)) :=
 (Mx p0).bind fun y1 =>
 cond (!y1.2.1.1) (
 c1
 ) (
 (QA p0.1).bind fun y2 =>
 cond (!y2.2.1.1) (
 c20
 ) (
 (DS p0 3).bind fun y3 =>
 cond (!y3.2.2.1.1) (
 c1
 ) (
 (LP).bind fun y4 =>
 (MP y4.2.1.1 p0 y3.2.1).bind fun y5 =>
 let u1:=(aq .i64 1 y5.2.1.1)
 (zo u1).bind fun y6 =>
 cond (cO 8 [(2,()),(11,())] y6.2.1.2.2.2.1) (
 let u2:=(lT [(2,()),(11,())] y6.2.1.2.2.2.1)
 (KW u2 (ae u2) 0 p0 (0,[],[],[],[],[],0,0,()) (u1,[],[],[],[],p0.1,0,0,())).bind (Sum.elim (fun y7 =>
 (Kh y7.2.2.2.2.2.1).bind fun y8 =>
 cond (!y8.2.1.1) (
 c1
 ) (
 some ((),(y7.2.2.2.2.2.1,(0,()),()))
 )
 ) (fun y7 =>
 some ((),(y7.2.1,(y7.1,()),()))
 ))
 ) none
 )
 )
 )
def YK:Su:=⟨[.c true [.str,ig]],[(true,[ki,.str,.str,.str,.str,.str,ki,ki]),(false,[ki])],true,.inl fun x=>Nh x.1⟩
theorem Xa:ar Tryz.prog 171 YK :=
 fl (ac P1 (ac TB (ac Vp (ac Qo (ac PQ (ac Ud (ac Iq (ac UR (ac V3 an))))))))) [.d 3 ki,.box 2 [(false,ki),(false,.str),(false,.str),(false,.str),(false,.str),(false,.str),(false,ki),(false,ki)]] [(0,⟨[.own 41 q3,.d 42 ki,.d 43 ki,.box 1 [(false,.str),(false,ig)],.box 2 [(false,ki),(false,.str),(false,.str),(false,.str),(false,.str),(false,.str),(false,ki),(false,ki)],.box 6 [(false,ki),(false,.str),(false,.str),(false,.str),(false,.str),(false,.str),(false,ki),(false,ki)]],ai (FB oe)⟩)] [] Tryz.f171 (lp [0] (sc cX sn))
def Uq (p0:Int):Option gX :=
 cond (bz 4294967296 p0) (
 let u1:=(ie .u64 p0 32)
 cond (bz 65536 u1) (
 let u2:=(ie .u64 u1 16)
 cond (bz 256 u2) (
 let u3:=(bw .u8 (ie .u64 u2 8))
 cond (aZ u3 np) (
 let u4:=(aq .i64 32 16)
 some ((),(((aq .i64 (aq .i64 u4 8) (bw .i64 (dq np u3))),()),()))
 ) none
 ) (
 let u3:=(bw .u8 u2)
 cond (aZ u3 np) (
 let u4:=(aq .i64 32 16)
 some ((),(((aq .i64 u4 (bw .i64 (dq np u3))),()),()))
 ) none
 )
 ) (
 cond (bz 256 u1) (
 let u2:=(bw .u8 (ie .u64 u1 8))
 cond (aZ u2 np) (
 some ((),(((aq .i64 (aq .i64 32 8) (bw .i64 (dq np u2))),()),()))
 ) none
 ) (
 let u2:=(bw .u8 u1)
 cond (aZ u2 np) (
 some ((),(((aq .i64 32 (bw .i64 (dq np u2))),()),()))
 ) none
 )
 )
 ) (
 cond (bz 65536 p0) (
 let u1:=(ie .u64 p0 16)
 cond (bz 256 u1) (
 let u2:=(bw .u8 (ie .u64 u1 8))
 cond (aZ u2 np) (
 let u3:=(aq .i64 0 16)
 some ((),(((aq .i64 (aq .i64 u3 8) (bw .i64 (dq np u2))),()),()))
 ) none
 ) (
 let u2:=(bw .u8 u1)
 cond (aZ u2 np) (
 let u3:=(aq .i64 0 16)
 some ((),(((aq .i64 u3 (bw .i64 (dq np u2))),()),()))
 ) none
 )
 ) (
 cond (bz 256 p0) (
 let u1:=(bw .u8 (ie .u64 p0 8))
 cond (aZ u1 np) (
 some ((),(((aq .i64 (aq .i64 0 8) (bw .i64 (dq np u1))),()),()))
 ) none
 ) (
 let u1:=(bw .u8 p0)
 cond (aZ u1 np) (
 some ((),(((aq .i64 0 (bw .i64 (dq np u1))),()),()))
 ) none
 )
 )
 )
def aaW:Su:=⟨[.c false [.int .u64]],[(false,[ki])],true,.inl fun x=>Uq x.1.1⟩
theorem TP:ar Tryz.prog 270 aaW :=
 fq an Tryz.f270
def Gg (p0:Int):Option gX :=
 (Uq p0).bind fun y1 =>
 some ((),(y1.2.1,()))
def abu:Su:=⟨[.c false [.int .u64]],[(false,[ki])],true,.inl fun x=>Gg x.1.1⟩
theorem Pz:ar Tryz.prog 208 abu :=
 fq (ac TP an) Tryz.f208
def M8 (p0:List UInt8):Option dS :=
 some ((),(((!(bI p0 p0)),()),()))
def aaL:Su:=⟨[.c false [.str]],[(false,[.bool])],true,.inl fun x=>M8 x.1.1⟩
theorem T5:ar Tryz.prog 313 aaL :=
 fq an Tryz.f313
def Nu (p0 p1:List UInt8):Option dS :=
 (M8 p0).bind fun y1 =>
 cond y1.2.1.1 (
 (M8 p1).bind fun y2 =>
 let u1:=(jU p0 p1)
 some ((),(((cond (!y2.2.1.1) true u1),()),()))
 ) (
 let u1:=(jU p0 p1)
 some ((),((u1,()),()))
 )
def TE:Su:=⟨[.c false [.str],.c false [.str]],[(false,[.bool])],true,.inl fun x=>Nu x.1.1 x.2.1.1⟩
theorem Pw:ar Tryz.prog 280 TE :=
 fq (ac T5 an) Tryz.f280
def vC (t0:List R9) (t1 t2 t6 t7:Int):Rd ((List R9)×Int×Int×Int×Int×Unit) Unit :=
 cond (au t1 t7) (
 cond (aZ t7 t0) (
 let u1:=(aI .i64 t7 1)
 cond (aZ u1 t0) (
 let u2:=(gt d9 t0 t7)
 let u3:=(gt d9 t0 u1)
 (Nu u2.1 u3.1).bind fun y1 =>
 cond y1.2.1.1 (
 cond (aZ u1 t0) (
 cond (aZ t7 t0) (
 cond (aZ t7 t0) (
 let u4:=(xM t0 t7 u3)
 cond (aZ u1 u4) (
 some (.inl ((xM u4 u1 u2),t1,t2,t6,u1,()))
 ) none
 ) none
 ) none
 ) none
 ) (
 some (.inr (.inl (t0,t1,t2,t6,t7,())))
 )
 ) none
 ) none
 ) (
 some (.inr (.inl (t0,t1,t2,t6,t7,())))
 )
def vu:=xI (ai (eS vC))
def uX (t0:List R9) (t1 t2 t6:Int):Rd ((List R9)×Int×Int×Int×Unit) Unit :=
 cond (au t6 t2) (
 (vu t0 t1 t2 t6 t6).bind (Sum.elim (fun y1 =>
 some (.inl (y1.1,y1.2.1,y1.2.2.1,(aq .i64 y1.2.2.2.1 1),()))
 ) (fun _ =>
 some (.inr (.inr ()))
 ))
 ) (
 some (.inr (.inl (t0,t1,t2,t6,())))
 )
def oo:=kq (ai (cf uX))
def Sq (p0:List R9) (p1 p2:Int):Option Y24 :=
 (oo p0 p1 p2 (aq .i64 p1 1)).bind (Sum.elim (fun y1 =>
 some (((y1.1,()),()),())
 ) (fun _ =>
 none
 ))
def MO:Su:=⟨[.io false [q9],.c false [ki],.c false [ki]],[],true,.inl fun x=>Sq x.1.1 x.2.1.1 x.2.2.1.1⟩
def qd:List SE:=[.own 0 q9,.d 1 ki,.d 2 ki,.d 6 ki,.d 7 ki]
def qg:List SE:=[.own 0 q9,.d 1 ki,.d 2 ki,.d 6 ki]
def Jz:List SE:=[]
def OR:Nat->Option (Lo Jz)
 | 2=>some ⟨qd,eS vu⟩
 | 0=>some ⟨qg,cf oo⟩
 | _=>none
def Fa:List Y0:=[(280,iS TE)]
def Fz:En:=yQ 49 tt Fa Jz OR [0] fun _=>none
def Wy:Nat->Option (St->Tr St)
 | 6=>some (lj Fz (opsOf (a7 6 (ah Tryz.f274))) [7] [(15,2),(15,3),(15,4)])
 | _=>none
def Cc:En:=yQ 49 tt Fa Jz OR [0] (Wy)
theorem QW (x:bE qd):(cZ Cc 2 qd (aX 2 (ah Tryz.f274)) x).run=eS vC x:=by kernel_rfl
theorem Q7 (x:bE qg):(cZ Cc 0 qg (aX 0 (ah Tryz.f274)) x).run=cf uX x:=by kernel_rfl
theorem t274 (x:PT MO.ps):(Fl Cc (ah Tryz.f274) Tryz.f274.results.toList MO.ps MO.rs true x).run=Sq x.1.1 x.2.1.1 x.2.2.1.1:=by kernel_rfl
theorem CX:de Tryz.prog Cc:=cN (l:=Fa) ⟨Pw,trivial⟩
theorem G8:de Tryz.prog Fz:=cN (l:=Fa) ⟨Pw,trivial⟩
theorem SZ:cF Tryz.prog Cc (a7 6 (ah Tryz.f274)) (lj Fz (opsOf (a7 6 (ah Tryz.f274))) [7] [(15,2),(15,3),(15,4)]) :=
 gh rfl rfl (yc (E:=Fz) (kr hT) G8 ed (c:=(a7 6 (ah Tryz.f274))) (id:=6) (by kernel_rfl))
theorem RY:bS Tryz.prog Cc 2 (.loop (aX 2 (ah Tryz.f274))) ⟨qd,eS vu⟩ :=
 dZ (kr hT) CX ed (step:=fun (x:bE qd)=>vC x.1 x.2.1 x.2.2.1 x.2.2.2.1 x.2.2.2.2.1) QW (aT [] (by kernel_rfl) trivial [(6,a7 6 (ah Tryz.f274))] (by kernel_rfl) ⟨vh rfl SZ,trivial⟩)
theorem S3:bS Tryz.prog Cc 0 (.loop (aX 0 (ah Tryz.f274))) ⟨qg,cf oo⟩ :=
 dZ (kr hT) CX ed (step:=fun (x:bE qg)=>uX x.1 x.2.1 x.2.2.1 x.2.2.2.1) Q7 (aT [(2,.loop (aX 2 (ah Tryz.f274)))] (by kernel_rfl) ⟨lL rfl RY,trivial⟩ [] (by kernel_rfl) trivial)
theorem W4:ar Tryz.prog 274 MO :=
 nC (E:=Cc) (kr hT) CX ed (fn:=Tryz.f274) (c:=(ah Tryz.f274)) (by kernel_rfl) (by kernel_rfl) (by kernel_rfl) rfl (aT [(0,.loop (aX 0 (ah Tryz.f274)))] (by kernel_rfl) ⟨lL rfl S3,trivial⟩ [] (by kernel_rfl) trivial) fun x y h=>⟨y.1,fun _=>rfl,(t274 x).trans h⟩
def Xn (p0:List R9) (p1 p2 p3:Int):Option Y24 :=
 cond (bz (aI .i64 p2 p1) 12) (
 (Sq p0 p1 p2).bind fun y1 =>
 some ((y1.1.1,()),())
 ) (
 cond (ak p3 0) (
 none
 ) (
 none
 )
 )
def aaP:Su:=⟨[.io false [q9],.c false [ki],.c false [ki],.c false [ki]],[],true,.inl fun x=>Xn x.1.1 x.2.1.1 x.2.2.1.1 x.2.2.2.1.1⟩
theorem UT:ar Tryz.prog 218 aaP :=
 fl (ac W4 an) [] [] [0] Tryz.f218 cX
def AT (p0:List R9):Option Y24 :=
 let u1:=(ae p0)
 (Gg (bw .u64 u1)).bind fun y1 =>
 (Xn p0 0 u1 y1.2.1.1).bind fun y2 =>
 some ((y2.1.1,()),())
def aar:Su:=⟨[.io false [q9]],[],true,.inl fun x=>AT x.1.1⟩
theorem WG:ar Tryz.prog 172 aar :=
 fl (ac Pz (ac UT an)) [] [] [0] Tryz.f172 cX
def Ag (t0:List R9) (t3:Int):Rd ((List R9)×Int×Unit) ((List R9)×Unit) :=
 let u1:=(ae t0)
 cond (au t3 u1) (
 cond (aZ t3 t0) (
 let u2:=(aI .i64 t3 1)
 cond (aZ u2 t0) (
 cond (bI (gt d9 t0 t3).1 (gt d9 t0 u2).1) (
 let u3:=(dj t3 u1 t0)
 cond u3 (
 let u4:=(sub t0 t3 u1)
 cond (au 1 (ae u4)) (
 cond (aZ 1 u4) (
 let u5:=(aI .i64 1 1)
 cond (aZ u5 u4) (
 cond (!(bI (gt d9 u4 1).1 (gt d9 u4 u5).1)) (
 cond (aZ 1 u4) (
 cond (aZ t3 t0) (
 none
 ) none
 ) none
 ) (
 none
 )
 ) none
 ) none
 ) (
 cond u3 (
 let u5:=(nq d9 t0 t3)
 cond (dj 0 t3 u5) (
 some (.inr (.inr ((HD u5 t3),())))
 ) none
 ) none
 )
 ) none
 ) (
 some (.inl (t0,(aq .i64 t3 1),()))
 )
 ) none
 ) none
 ) (
 some (.inr (.inl (t0,t3,())))
 )
def wN:=PO (ai (wW Ag))
def GY (p0:List R9):Option M9 :=
 cond (au (ae p0) 2) (
 some ((),((p0,()),()))
 ) (
 (wN p0 1).bind (Sum.elim (fun y1 =>
 some ((),((y1.1,()),()))
 ) (fun y1 =>
 some ((),(y1,()))
 ))
 )
def MS:Su:=⟨[.mv q9],[(false,[q9])],true,.inl fun x=>GY x.1⟩
def qm:List SE:=[.own 0 q9,.d 3 ki]
def Pf:List SE:=[.own 2 q9]
def Wp:Nat->Option (Lo Pf)
 | 0=>some ⟨qm,wW wN⟩
 | _=>none
def Qp:List Y0:=[]
def Tn:Nat->Option (St->Tr St)
 | 14=>some (l8 54 55 56 0 3 U8)
 | _=>none
def DW:En:=yQ 61 tt Qp Pf Wp [] (Tn)
theorem Sy (x:bE qm):(cZ DW 0 qm (aX 0 (ah Tryz.f173)) x).run=wW Ag x:=by kernel_rfl
theorem t173 (x:PT MS.ps):(Fl DW (ah Tryz.f173) Tryz.f173.results.toList MS.ps MS.rs true x).run=GY x.1:=by kernel_rfl
theorem Jl:de Tryz.prog DW:=cN (l:=Qp) trivial
theorem NV:cF Tryz.prog DW (a7 14 (ah Tryz.f173)) (l8 54 55 56 0 3 U8) :=
 rX (E:=DW) (kr hT) (rid:=14) (ta:=54) (tb:=55) (tc:=56) (t0:=0) (tI:=3) (ty:=112) (o1:=ep (a7 14 (ah Tryz.f173)) 0) (o2:=ep (a7 14 (ah Tryz.f173)) 1) (o3:=ep (a7 14 (ah Tryz.f173)) 2) (o4:=ep (a7 14 (ah Tryz.f173)) 3) (c:=uQ (ep (a7 14 (ah Tryz.f173)) 3)) (te:=⟨false,U8,0,16,[]⟩)
  (by kernel_rfl) (by kernel_rfl) (by kernel_rfl) (by kernel_rfl) (by kernel_rfl) (by kernel_rfl) (by kernel_rfl) (by kernel_rfl) (by kernel_rfl) (by kernel_rfl) (by kernel_rfl) (by kernel_rfl) (by kernel_rfl) (by kernel_rfl) (by kernel_rfl) (by kernel_rfl) (by kernel_rfl) (by kernel_rfl) (by kernel_rfl) (by kernel_rfl) (by kernel_rfl)
theorem R6:bS Tryz.prog DW 0 (.loop (aX 0 (ah Tryz.f173))) ⟨qm,wW wN⟩ :=
 dZ (kr hT) Jl ed (step:=fun (x:bE qm)=>Ag x.1 x.2.1) Sy (aT [] (by kernel_rfl) trivial [(14,a7 14 (ah Tryz.f173))] (by kernel_rfl) ⟨vh rfl NV,trivial⟩)
theorem Vu:ar Tryz.prog 173 MS :=
 nC (E:=DW) (kr hT) Jl ed (fn:=Tryz.f173) (c:=(ah Tryz.f173)) (by kernel_rfl) (by kernel_rfl) (by kernel_rfl) rfl (aT [(0,.loop (aX 0 (ah Tryz.f173)))] (by kernel_rfl) ⟨lL rfl R6,trivial⟩ [] (by kernel_rfl) trivial) fun x y h=>⟨y.1,fun _=>rfl,(t173 x).trans h⟩
def NZ (p0:List R5):Option M9 :=
 (Iz p0).bind fun y1 =>
 (Nh y1.2.1).bind fun y2 =>
 cond (cond (!(ak y1.2.2.1.1 0)) true (!(ak y2.2.2.1.1 0))) (
 c18
 ) (
 cond (ak y2.2.1.1 6) (
 cond (cO 16 [(y2.2.1.2.1,())] [(y2.2.1.2.2.1,())]) (
 (AT (lT [(y2.2.1.2.1,())] [(y2.2.1.2.2.1,())])).bind fun y3 =>
 let u1:=(GY y3.1.1.1)
 Option.bind u1 fun y4 =>
 some ((),(y4.2.1,()))
 ) none
 ) (
 (AT [(y2.2.1.2.1,())]).bind fun y3 =>
 let u1:=(GY y3.1.1.1)
 Option.bind u1 fun y4 =>
 some ((),(y4.2.1,()))
 )
 )
def abK:Su:=⟨[.c false [q5]],[(false,[q9])],true,.inl fun x=>NZ x.1.1⟩
theorem V4:ar Tryz.prog 110 abK :=
 fq (ac Pj (ac Xa (ac WG (ac Vu an)))) Tryz.f110
def Ni (p0:Int):Option dS :=
 some ((),(((!(ak p0 p0)),()),()))
def aaB:Su:=⟨[.c false [ki]],[(false,[.bool])],true,.inl fun x=>Ni x.1.1⟩
theorem Uj:ar Tryz.prog 303 aaB :=
 fq an Tryz.f303
def Og (p0 p1:Int):Option dS :=
 (Ni p0).bind fun y1 =>
 cond y1.2.1.1 (
 (Ni p1).bind fun y2 =>
 some ((),(((cond (!y2.2.1.1) true (au p0 p1)),()),()))
 ) (
 some ((),(((au p0 p1),()),()))
 )
def Tt:Su:=⟨[.c false [ki],.c false [ki]],[(false,[.bool])],true,.inl fun x=>Og x.1.1 x.2.1.1⟩
theorem PA:ar Tryz.prog 266 Tt :=
 fq (ac Uj an) Tryz.f266
def vT (t0:List R3) (t1 t2 t6 t7:Int):Rd ((List R3)×Int×Int×Int×Int×Unit) Unit :=
 cond (au t1 t7) (
 cond (aZ t7 t0) (
 let u1:=(aI .i64 t7 1)
 cond (aZ u1 t0) (
 let u2:=(gt d3 t0 t7)
 let u3:=(gt d3 t0 u1)
 (Og u2.1 u3.1).bind fun y1 =>
 cond y1.2.1.1 (
 cond (aZ u1 t0) (
 cond (aZ t7 t0) (
 cond (aZ t7 t0) (
 let u4:=(xM t0 t7 u3)
 cond (aZ u1 u4) (
 some (.inl ((xM u4 u1 u2),t1,t2,t6,u1,()))
 ) none
 ) none
 ) none
 ) none
 ) (
 some (.inr (.inl (t0,t1,t2,t6,t7,())))
 )
 ) none
 ) none
 ) (
 some (.inr (.inl (t0,t1,t2,t6,t7,())))
 )
def vM:=xI (ai (eS vT))
def vX (t0:List R3) (t1 t2 t6:Int):Rd ((List R3)×Int×Int×Int×Unit) Unit :=
 cond (au t6 t2) (
 (vM t0 t1 t2 t6 t6).bind (Sum.elim (fun y1 =>
 some (.inl (y1.1,y1.2.1,y1.2.2.1,(aq .i64 y1.2.2.2.1 1),()))
 ) (fun _ =>
 some (.inr (.inr ()))
 ))
 ) (
 some (.inr (.inl (t0,t1,t2,t6,())))
 )
def ld:=kq (ai (cf vX))
def Sg (p0:List R3) (p1 p2:Int):Option Y23 :=
 (ld p0 p1 p2 (aq .i64 p1 1)).bind (Sum.elim (fun y1 =>
 some (((y1.1,()),()),())
 ) (fun _ =>
 none
 ))
def Me:Su:=⟨[.io false [q3],.c false [ki],.c false [ki]],[],true,.inl fun x=>Sg x.1.1 x.2.1.1 x.2.2.1.1⟩
def qH:List SE:=[.own 0 q3,.d 1 ki,.d 2 ki,.d 6 ki,.d 7 ki]
def pX:List SE:=[.own 0 q3,.d 1 ki,.d 2 ki,.d 6 ki]
def II:List SE:=[]
def Pn:Nat->Option (Lo II)
 | 2=>some ⟨qH,eS vM⟩
 | 0=>some ⟨pX,cf ld⟩
 | _=>none
def EL:List Y0:=[(266,iS Tt)]
def E2:En:=yQ 49 tt EL II Pn [0] fun _=>none
def Vt:Nat->Option (St->Tr St)
 | 6=>some (lj E2 (opsOf (a7 6 (ah Tryz.f260))) [7] [(15,2),(15,3),(15,4)])
 | _=>none
def BI:En:=yQ 49 tt EL II Pn [0] (Vt)
theorem QY (x:bE qH):(cZ BI 2 qH (aX 2 (ah Tryz.f260)) x).run=eS vT x:=by kernel_rfl
theorem SU (x:bE pX):(cZ BI 0 pX (aX 0 (ah Tryz.f260)) x).run=cf vX x:=by kernel_rfl
theorem t260 (x:PT Me.ps):(Fl BI (ah Tryz.f260) Tryz.f260.results.toList Me.ps Me.rs true x).run=Sg x.1.1 x.2.1.1 x.2.2.1.1:=by kernel_rfl
theorem Dn:de Tryz.prog BI:=cN (l:=EL) ⟨PA,trivial⟩
theorem F8:de Tryz.prog E2:=cN (l:=EL) ⟨PA,trivial⟩
theorem RB:cF Tryz.prog BI (a7 6 (ah Tryz.f260)) (lj E2 (opsOf (a7 6 (ah Tryz.f260))) [7] [(15,2),(15,3),(15,4)]) :=
 gh rfl rfl (yc (E:=E2) (kr hT) F8 ed (c:=(a7 6 (ah Tryz.f260))) (id:=6) (by kernel_rfl))
theorem Ss:bS Tryz.prog BI 2 (.loop (aX 2 (ah Tryz.f260))) ⟨qH,eS vM⟩ :=
 dZ (kr hT) Dn ed (step:=fun (x:bE qH)=>vT x.1 x.2.1 x.2.2.1 x.2.2.2.1 x.2.2.2.2.1) QY (aT [] (by kernel_rfl) trivial [(6,a7 6 (ah Tryz.f260))] (by kernel_rfl) ⟨vh rfl RB,trivial⟩)
theorem Rx:bS Tryz.prog BI 0 (.loop (aX 0 (ah Tryz.f260))) ⟨pX,cf ld⟩ :=
 dZ (kr hT) Dn ed (step:=fun (x:bE pX)=>vX x.1 x.2.1 x.2.2.1 x.2.2.2.1) SU (aT [(2,.loop (aX 2 (ah Tryz.f260)))] (by kernel_rfl) ⟨lL rfl Ss,trivial⟩ [] (by kernel_rfl) trivial)
theorem TL:ar Tryz.prog 260 Me :=
 nC (E:=BI) (kr hT) Dn ed (fn:=Tryz.f260) (c:=(ah Tryz.f260)) (by kernel_rfl) (by kernel_rfl) (by kernel_rfl) rfl (aT [(0,.loop (aX 0 (ah Tryz.f260)))] (by kernel_rfl) ⟨lL rfl Rx,trivial⟩ [] (by kernel_rfl) trivial) fun x y h=>⟨y.1,fun _=>rfl,(t260 x).trans h⟩
def Vf (p0:List R3) (p1 p2 p3:Int):Option Y23 :=
 cond (bz (aI .i64 p2 p1) 12) (
 (Sg p0 p1 p2).bind fun y1 =>
 some ((y1.1.1,()),())
 ) (
 cond (ak p3 0) (
 none
 ) (
 none
 )
 )
def YB:Su:=⟨[.io false [q3],.c false [ki],.c false [ki],.c false [ki]],[],true,.inl fun x=>Vf x.1.1 x.2.1.1 x.2.2.1.1 x.2.2.2.1.1⟩
theorem Xh:ar Tryz.prog 207 YB :=
 fl (ac TL an) [] [] [0] Tryz.f207 cX
def vk (p0:List R3):Option Y23 :=
 let u1:=(ae p0)
 (Gg (bw .u64 u1)).bind fun y1 =>
 (Vf p0 0 u1 y1.2.1.1).bind fun y2 =>
 some ((y2.1.1,()),())
def abT:Su:=⟨[.io false [q3]],[],true,.inl fun x=>vk x.1.1⟩
theorem TG:ar Tryz.prog 169 abT :=
 fl (ac Pz (ac Xh an)) [] [] [0] Tryz.f169 cX
def yY (t0:List R3) (t3:Int):Rd ((List R3)×Int×Unit) Gx :=
 let u1:=(ae t0)
 cond (au t3 u1) (
 cond (aZ t3 t0) (
 let u2:=(aI .i64 t3 1)
 cond (aZ u2 t0) (
 cond (ak (gt d3 t0 t3).1 (gt d3 t0 u2).1) (
 let u3:=(dj t3 u1 t0)
 cond u3 (
 let u4:=(sub t0 t3 u1)
 cond (au 1 (ae u4)) (
 cond (aZ 1 u4) (
 let u5:=(aI .i64 1 1)
 cond (aZ u5 u4) (
 cond (!(ak (gt d3 u4 1).1 (gt d3 u4 u5).1)) (
 cond (aZ 1 u4) (
 cond (aZ t3 t0) (
 none
 ) none
 ) none
 ) (
 none
 )
 ) none
 ) none
 ) (
 cond u3 (
 let u5:=(nq d3 t0 t3)
 cond (dj 0 t3 u5) (
 some (.inr (.inr ((HD u5 t3),())))
 ) none
 ) none
 )
 ) none
 ) (
 some (.inl (t0,(aq .i64 t3 1),()))
 )
 ) none
 ) none
 ) (
 some (.inr (.inl (t0,t3,())))
 )
def wA:=PO (ai (wW yY))
def Kk (p0:List R3):Option OL :=
 cond (au (ae p0) 2) (
 some ((),((p0,()),()))
 ) (
 (wA p0 1).bind (Sum.elim (fun y1 =>
 some ((),((y1.1,()),()))
 ) (fun y1 =>
 some ((),(y1,()))
 ))
 )
def Md:Su:=⟨[.mv q3],[(false,[q3])],true,.inl fun x=>Kk x.1⟩
def rj:List SE:=[.own 0 q3,.d 3 ki]
def O6:List SE:=[.own 2 q3]
def UP:Nat->Option (Lo O6)
 | 0=>some ⟨rj,wW wA⟩
 | _=>none
def OF:List Y0:=[]
def U6:Nat->Option (St->Tr St)
 | 14=>some (l8 54 55 56 0 3 lh)
 | _=>none
def CZ:En:=yQ 61 tt OF O6 UP [] (U6)
theorem QH (x:bE rj):(cZ CZ 0 rj (aX 0 (ah Tryz.f170)) x).run=wW yY x:=by kernel_rfl
theorem t170 (x:PT Md.ps):(Fl CZ (ah Tryz.f170) Tryz.f170.results.toList Md.ps Md.rs true x).run=Kk x.1:=by kernel_rfl
theorem J9:de Tryz.prog CZ:=cN (l:=OF) trivial
theorem MZ:cF Tryz.prog CZ (a7 14 (ah Tryz.f170)) (l8 54 55 56 0 3 lh) :=
 rX (E:=CZ) (kr hT) (rid:=14) (ta:=54) (tb:=55) (tc:=56) (t0:=0) (tI:=3) (ty:=54) (o1:=ep (a7 14 (ah Tryz.f170)) 0) (o2:=ep (a7 14 (ah Tryz.f170)) 1) (o3:=ep (a7 14 (ah Tryz.f170)) 2) (o4:=ep (a7 14 (ah Tryz.f170)) 3) (c:=uQ (ep (a7 14 (ah Tryz.f170)) 3)) (te:=⟨false,lh,0,8,[]⟩)
  (by kernel_rfl) (by kernel_rfl) (by kernel_rfl) (by kernel_rfl) (by kernel_rfl) (by kernel_rfl) (by kernel_rfl) (by kernel_rfl) (by kernel_rfl) (by kernel_rfl) (by kernel_rfl) (by kernel_rfl) (by kernel_rfl) (by kernel_rfl) (by kernel_rfl) (by kernel_rfl) (by kernel_rfl) (by kernel_rfl) (by kernel_rfl) (by kernel_rfl) (by kernel_rfl)
theorem Q2:bS Tryz.prog CZ 0 (.loop (aX 0 (ah Tryz.f170))) ⟨rj,wW wA⟩ :=
 dZ (kr hT) J9 ed (step:=fun (x:bE rj)=>yY x.1 x.2.1) QH (aT [] (by kernel_rfl) trivial [(14,a7 14 (ah Tryz.f170))] (by kernel_rfl) ⟨vh rfl MZ,trivial⟩)
theorem UZ:ar Tryz.prog 170 Md :=
 nC (E:=CZ) (kr hT) J9 ed (fn:=Tryz.f170) (c:=(ah Tryz.f170)) (by kernel_rfl) (by kernel_rfl) (by kernel_rfl) rfl (aT [(0,.loop (aX 0 (ah Tryz.f170)))] (by kernel_rfl) ⟨lL rfl Q2,trivial⟩ [] (by kernel_rfl) trivial) fun x y h=>⟨y.1,fun _=>rfl,(t170 x).trans h⟩
def nX (t1:Int) (t5:List R3) (t9:List R9) (t10 t11:Int):Rd (Int×(List R3)×(List R9)×Int×Int×Unit) Unit :=
 cond (au t11 t10) (
 cond (aZ t11 t9) (
 (Ic (gt d9 t9 t11).1 t1).bind fun y1 =>
 cond (cO 8 t5 [y1.2.1]) (
 some (.inl (t1,(lT t5 [y1.2.1]),t9,t10,(aq .i64 t11 1),()))
 ) none
 ) none
 ) (
 some (.inr (.inl (t1,t5,t9,t10,t11,())))
 )
def Ke:=xI (ai (eS nX))
def NP (p0:List R9) (p1:Int):Option OL :=
 (Ke p1 [] p0 (ae p0) 0).bind (Sum.elim (fun y1 =>
 (vk y1.2.1).bind fun y2 =>
 (Kk y2.1.1.1).bind fun y3 =>
 some ((),(y3.2.1,()))
 ) (fun _ =>
 none
 ))
def YI:Su:=⟨[.c false [q9],.c false [ki]],[(false,[q3])],true,.inl fun x=>NP x.1.1 x.2.1.1⟩
theorem Wf:ar Tryz.prog 109 YI :=
 fl (ac OU (ac TG (ac UZ an))) [] [(0,⟨[.d 1 ki,.own 5 q3,.d 9 q9,.d 10 ki,.d 11 ki],ai (eS nX)⟩)] [] Tryz.f109 (lp [0] (sc cX sn))
def Ye (p0:(List R5)×Int×(List R3)×Int×Int×Int×Int×Int×(List R5)×Unit) (p1:Int):Option OL :=
 (NZ p0.1).bind fun y1 =>
 (NP y1.2.1.1 p1).bind fun y2 =>
 some ((),(y2.2.1,()))
def s54:Su:=⟨[.c true [q5,ki,q3,ki,ki,ki,ki,ki,q5],.c false [ki]],[(false,[q3])],true,.inl fun x=>Ye x.1 x.2.1.1⟩
theorem aax:ar Tryz.prog 54 s54 :=
 fq (ac V4 (ac Wf an)) Tryz.f54
def JX (t0 t1:List R3) (t12 t13:Int):Rd ((List R3)×(List R3)×Int×Int×Unit) Y2 :=
 cond (au t13 t12) (
 cond (aZ t13 t0) (
 cond (aZ t13 t1) (
 cond (!(ak (gt d3 t0 t13).1 (gt d3 t1 t13).1)) (
 some (.inr (.inr (false,())))
 ) (
 some (.inl (t0,t1,t12,(aq .i64 t13 1),()))
 )
 ) none
 ) none
 ) (
 some (.inr (.inl (t0,t1,t12,t13,())))
 )
def Se:=kq (ai (cf JX))
def Sx (p0 p1:List R3):Option dS :=
 let u1:=(ae p0)
 cond (!(ak u1 (ae p1))) (
 c0
 ) (
 (Se p0 p1 u1 0).bind (Sum.elim (fun _ =>
 c2
 ) (fun y1 =>
 some ((),(y1,()))
 ))
 )
def ZN:Su:=⟨[.c false [q3],.c false [q3]],[(false,[.bool])],true,.inl fun x=>Sx x.1.1 x.2.1.1⟩
theorem T3:ar Tryz.prog 133 ZN :=
 fl an [.d 4 .bool] [(0,⟨[.d 0 q3,.d 1 q3,.d 12 ki,.d 13 ki],ai (cf JX)⟩)] [] Tryz.f133 (lp [0] (sc cX sn))
def US (p0:(List R5)×Int×(List R3)×Int×Int×Int×Int×Int×(List R5)×Unit) (p1:Int):Option dS :=
 (nc p1 1 5).bind fun y1 =>
 cond (!y1.2.1.1) (
 c0
 ) (
 (PB p0.2.1).bind fun y2 =>
 let u1:=(ae p0.2.2.2.2.2.2.2.2.1)
 cond (cond (cond (bI y2.2.1.1 []) true (au 300 (ae p0.1))) true (au 200 u1)) (
 c0
 ) (
 (tg p0.2.2.2.2.1).bind fun y3 =>
 cond (!y3.2.1.1) (
 c0
 ) (
 (tg p0.2.2.2.2.2.2.2.1).bind fun y4 =>
 cond (!y4.2.1.1) (
 c0
 ) (
 cond (ak p0.2.1 0) (
 let u2:=(ae p0.2.2.1)
 cond (au 0 u2) (
 c0
 ) (
 cond (ak p0.2.1 1) (
 let u3:=(nc p0.2.2.2.1 0 (aI .i64 u2 1))
 Option.bind u3 fun y5 =>
 cond (!y5.2.1.1) (
 c0
 ) (
 cond (au p0.2.1 3) (
 some ((),(((cond (cond (cond (ak p0.2.2.2.2.2.1 (-1)) (ak p0.2.2.2.2.2.2.1 (-1)) false) (ak p0.2.2.2.2.2.2.2.1 0) false) (ak u1 0) false),()),()))
 ) (
 let u4:=(tg p0.2.2.2.2.2.1)
 Option.bind u4 fun y6 =>
 let u5:=(cond (!y6.2.1.1) true (au p0.2.2.2.2.2.1 p0.2.2.2.2.1))
 cond u5 (
 c0
 ) (
 cond (ak p0.2.1 5) (
 let u6:=(tg p0.2.2.2.2.2.2.1)
 Option.bind u6 fun y7 =>
 some ((),(((cond y7.2.1.1 (bz p0.2.2.2.2.2.1 p0.2.2.2.2.2.2.1) false),()),()))
 ) (
 some ((),(((ak p0.2.2.2.2.2.2.1 (-1)),()),()))
 )
 )
 )
 )
 ) (
 cond (ak p0.2.1 2) (
 cond (!(cond (ak p0.2.2.2.1 u2) (au 0 u2) false)) (
 c0
 ) (
 cond (au p0.2.1 3) (
 some ((),(((cond (cond (cond (ak p0.2.2.2.2.2.1 (-1)) (ak p0.2.2.2.2.2.2.1 (-1)) false) (ak p0.2.2.2.2.2.2.2.1 0) false) (ak u1 0) false),()),()))
 ) (
 let u3:=(tg p0.2.2.2.2.2.1)
 Option.bind u3 fun y5 =>
 let u4:=(cond (!y5.2.1.1) true (au p0.2.2.2.2.2.1 p0.2.2.2.2.1))
 cond u4 (
 c0
 ) (
 cond (ak p0.2.1 5) (
 let u5:=(tg p0.2.2.2.2.2.2.1)
 Option.bind u5 fun y6 =>
 some ((),(((cond y6.2.1.1 (bz p0.2.2.2.2.2.1 p0.2.2.2.2.2.2.1) false),()),()))
 ) (
 some ((),(((ak p0.2.2.2.2.2.2.1 (-1)),()),()))
 )
 )
 )
 )
 ) (
 cond (ak p0.2.1 3) (
 let u3:=(nc p0.2.2.2.1 1 u2)
 Option.bind u3 fun y5 =>
 cond (!y5.2.1.1) (
 c0
 ) (
 cond (au p0.2.1 3) (
 some ((),(((cond (cond (cond (ak p0.2.2.2.2.2.1 (-1)) (ak p0.2.2.2.2.2.2.1 (-1)) false) (ak p0.2.2.2.2.2.2.2.1 0) false) (ak u1 0) false),()),()))
 ) (
 let u4:=(tg p0.2.2.2.2.2.1)
 Option.bind u4 fun y6 =>
 let u5:=(cond (!y6.2.1.1) true (au p0.2.2.2.2.2.1 p0.2.2.2.2.1))
 cond u5 (
 c0
 ) (
 cond (ak p0.2.1 5) (
 let u6:=(tg p0.2.2.2.2.2.2.1)
 Option.bind u6 fun y7 =>
 some ((),(((cond y7.2.1.1 (bz p0.2.2.2.2.2.1 p0.2.2.2.2.2.2.1) false),()),()))
 ) (
 some ((),(((ak p0.2.2.2.2.2.2.1 (-1)),()),()))
 )
 )
 )
 )
 ) (
 cond (!(ak p0.2.2.2.1 0)) (
 c0
 ) (
 cond (au p0.2.1 3) (
 some ((),(((cond (cond (cond (ak p0.2.2.2.2.2.1 (-1)) (ak p0.2.2.2.2.2.2.1 (-1)) false) (ak p0.2.2.2.2.2.2.2.1 0) false) (ak u1 0) false),()),()))
 ) (
 let u3:=(tg p0.2.2.2.2.2.1)
 Option.bind u3 fun y5 =>
 let u4:=(cond (!y5.2.1.1) true (au p0.2.2.2.2.2.1 p0.2.2.2.2.1))
 cond u4 (
 c0
 ) (
 cond (ak p0.2.1 5) (
 let u5:=(tg p0.2.2.2.2.2.2.1)
 Option.bind u5 fun y6 =>
 some ((),(((cond y6.2.1.1 (bz p0.2.2.2.2.2.1 p0.2.2.2.2.2.2.1) false),()),()))
 ) (
 some ((),(((ak p0.2.2.2.2.2.2.1 (-1)),()),()))
 )
 )
 )
 )
 )
 )
 )
 )
 ) (
 (Ye p0 p1).bind fun y5 =>
 (Sx p0.2.2.1 y5.2.1.1).bind fun y6 =>
 cond (!y6.2.1.1) (
 c0
 ) (
 cond (ak p0.2.1 1) (
 let u2:=(ae p0.2.2.1)
 let u3:=(nc p0.2.2.2.1 0 (aI .i64 u2 1))
 Option.bind u3 fun y7 =>
 cond (!y7.2.1.1) (
 c0
 ) (
 cond (au p0.2.1 3) (
 some ((),(((cond (cond (cond (ak p0.2.2.2.2.2.1 (-1)) (ak p0.2.2.2.2.2.2.1 (-1)) false) (ak p0.2.2.2.2.2.2.2.1 0) false) (ak u1 0) false),()),()))
 ) (
 let u4:=(tg p0.2.2.2.2.2.1)
 Option.bind u4 fun y8 =>
 let u5:=(cond (!y8.2.1.1) true (au p0.2.2.2.2.2.1 p0.2.2.2.2.1))
 cond u5 (
 c0
 ) (
 cond (ak p0.2.1 5) (
 let u6:=(tg p0.2.2.2.2.2.2.1)
 Option.bind u6 fun y9 =>
 some ((),(((cond y9.2.1.1 (bz p0.2.2.2.2.2.1 p0.2.2.2.2.2.2.1) false),()),()))
 ) (
 some ((),(((ak p0.2.2.2.2.2.2.1 (-1)),()),()))
 )
 )
 )
 )
 ) (
 cond (ak p0.2.1 2) (
 let u2:=(ae p0.2.2.1)
 cond (!(cond (ak p0.2.2.2.1 u2) (au 0 u2) false)) (
 c0
 ) (
 cond (au p0.2.1 3) (
 some ((),(((cond (cond (cond (ak p0.2.2.2.2.2.1 (-1)) (ak p0.2.2.2.2.2.2.1 (-1)) false) (ak p0.2.2.2.2.2.2.2.1 0) false) (ak u1 0) false),()),()))
 ) (
 let u3:=(tg p0.2.2.2.2.2.1)
 Option.bind u3 fun y7 =>
 let u4:=(cond (!y7.2.1.1) true (au p0.2.2.2.2.2.1 p0.2.2.2.2.1))
 cond u4 (
 c0
 ) (
 cond (ak p0.2.1 5) (
 let u5:=(tg p0.2.2.2.2.2.2.1)
 Option.bind u5 fun y8 =>
 some ((),(((cond y8.2.1.1 (bz p0.2.2.2.2.2.1 p0.2.2.2.2.2.2.1) false),()),()))
 ) (
 some ((),(((ak p0.2.2.2.2.2.2.1 (-1)),()),()))
 )
 )
 )
 )
 ) (
 cond (ak p0.2.1 3) (
 let u2:=(ae p0.2.2.1)
 let u3:=(nc p0.2.2.2.1 1 u2)
 Option.bind u3 fun y7 =>
 cond (!y7.2.1.1) (
 c0
 ) (
 cond (au p0.2.1 3) (
 some ((),(((cond (cond (cond (ak p0.2.2.2.2.2.1 (-1)) (ak p0.2.2.2.2.2.2.1 (-1)) false) (ak p0.2.2.2.2.2.2.2.1 0) false) (ak u1 0) false),()),()))
 ) (
 let u4:=(tg p0.2.2.2.2.2.1)
 Option.bind u4 fun y8 =>
 let u5:=(cond (!y8.2.1.1) true (au p0.2.2.2.2.2.1 p0.2.2.2.2.1))
 cond u5 (
 c0
 ) (
 cond (ak p0.2.1 5) (
 let u6:=(tg p0.2.2.2.2.2.2.1)
 Option.bind u6 fun y9 =>
 some ((),(((cond y9.2.1.1 (bz p0.2.2.2.2.2.1 p0.2.2.2.2.2.2.1) false),()),()))
 ) (
 some ((),(((ak p0.2.2.2.2.2.2.1 (-1)),()),()))
 )
 )
 )
 )
 ) (
 cond (!(ak p0.2.2.2.1 0)) (
 c0
 ) (
 cond (au p0.2.1 3) (
 some ((),(((cond (cond (cond (ak p0.2.2.2.2.2.1 (-1)) (ak p0.2.2.2.2.2.2.1 (-1)) false) (ak p0.2.2.2.2.2.2.2.1 0) false) (ak u1 0) false),()),()))
 ) (
 let u2:=(tg p0.2.2.2.2.2.1)
 Option.bind u2 fun y7 =>
 let u3:=(cond (!y7.2.1.1) true (au p0.2.2.2.2.2.1 p0.2.2.2.2.1))
 cond u3 (
 c0
 ) (
 cond (ak p0.2.1 5) (
 let u4:=(tg p0.2.2.2.2.2.2.1)
 Option.bind u4 fun y8 =>
 some ((),(((cond y8.2.1.1 (bz p0.2.2.2.2.2.1 p0.2.2.2.2.2.2.1) false),()),()))
 ) (
 some ((),(((ak p0.2.2.2.2.2.2.1 (-1)),()),()))
 )
 )
 )
 )
 )
 )
 )
 )
 )
 )
 )
 )
 )
def s75:Su:=⟨[.c true [q5,ki,q3,ki,ki,ki,ki,ki,q5],.c false [ki]],[(false,[.bool])],true,.inl fun x=>US x.1 x.2.1.1⟩
theorem Yw:ar Tryz.prog 75 s75 :=
 fq (ac my (ac GX (ac Vk (ac aax (ac T3 an))))) Tryz.f75
def XD (p0:(List R5)×Int×(List R3)×Int×Int×Int×Int×Int×(List R5)×Unit) (p1:Int):Option dS :=
 let u1:=(B3 0 (Gm p0.2.2.2.1 (ae p0.2.2.1)))
 cond (dj 0 u1 p0.2.2.1) (
 (Rr (sub p0.2.2.1 0 u1) p1).bind fun y1 =>
 some ((),(y1.2.1,()))
 ) none
def s77:Su:=⟨[.c true [q5,ki,q3,ki,ki,ki,ki,ki,q5],.c false [ki]],[(false,[.bool])],true,.inl fun x=>XD x.1 x.2.1.1⟩
theorem YX:ar Tryz.prog 77 s77 :=
 fq (ac Qu an) Tryz.f77
def xg (t3:List R3) (t36:List jl) (t37 t38:Int) (t61:List R3) (t62 t63:Int) (b1:(List fV)×Int×Int×(List jl)×Unit):Rd ((List R3)×(List jl)×Int×Int×(List R3)×Int×Int×LF×Unit) Y2 :=
 cond (au t63 t62) (
 cond (aZ t63 t61) (
 let u1:=(gt d3 t61 t63)
 cond (ak u1.1 (-1)) (
 let u2:=(aq .i64 t63 1)
 some (.inl (t3,t36,t37,t38,t61,t62,u2,b1,()))
 ) (
 cond (bz b1.2.2.1 u1.1) (
 some (.inr (.inr (false,())))
 ) (
 (Rr t3 u1.1).bind fun y1 =>
 cond y1.2.1.1 (
 some (.inr (.inr (false,())))
 ) (
 cond (cO 8 t3 [u1]) (
 let u2:=(aq .i64 t63 1)
 some (.inl ((lT t3 [u1]),t36,t37,t38,t61,t62,u2,b1,()))
 ) none
 )
 )
 )
 ) none
 ) (
 some (.inr (.inl (t3,t36,t37,t38,t61,t62,t63,b1,())))
 )
def OG:=Tj (ai (yF xg))
def xG (t3:List R3) (t36:List jl) (t37 t38:Int) (b1:(List fV)×Int×Int×(List jl)×Unit):Rd ((List R3)×(List jl)×Int×Int×LF×Unit) Y2 :=
 cond (au t38 t37) (
 cond (aZ t38 t36) (
 let u1:=(gt d62 t36 t38)
 (US u1 (ae b1.1)).bind fun y1 =>
 cond (cond (!y1.2.1.1) true (au b1.2.1 u1.2.2.2.2.2.2.2.1)) (
 some (.inr (.inr (false,())))
 ) (
 (OG t3 t36 t37 t38 [(u1.2.2.2.2.1,()),(u1.2.2.2.2.2.1,()),(u1.2.2.2.2.2.2.1,())] (ae [(u1.2.2.2.2.1,()),(u1.2.2.2.2.2.1,()),(u1.2.2.2.2.2.2.1,())]) 0 b1).bind (Sum.elim (fun y2 =>
 some (.inl (y2.1,y2.2.1,y2.2.2.1,(aq .i64 y2.2.2.2.1 1),y2.2.2.2.2.2.2.2.1,()))
 ) (fun y2 =>
 some (.inr (.inr (y2.1,())))
 ))
 )
 ) none
 ) (
 some (.inr (.inl (t3,t36,t37,t38,b1,())))
 )
def PJ:=xI (ai (eS xG))
def wY (t8:Int) (t85:List fV) (t86 t87:Int) (t99:List jl) (t100 t101:Int) (b1:(List fV)×Int×Int×(List jl)×Unit) (b9:Int×(List dC)×Unit):Rd (Int×(List fV)×Int×Int×(List jl)×Int×Int×LF×WA×Unit) Y2 :=
 cond (au t101 t100) (
 cond (aZ t101 t99) (
 (XD (gt d62 t99 t101) t8).bind fun y1 =>
 cond (!(SQ y1.2.1.1 (ak b9.1 t101))) (
 some (.inr (.inr (false,())))
 ) (
 some (.inl (t8,t85,t86,t87,t99,t100,(aq .i64 t101 1),b1,b9,()))
 )
 ) none
 ) (
 some (.inr (.inl (t8,t85,t86,t87,t99,t100,t101,b1,b9,())))
 )
def OH:=T6 (ai (D9 wY))
def uL (t85:List fV) (t86 t87:Int) (b1:(List fV)×Int×Int×(List jl)×Unit):Rd ((List fV)×Int×Int×LF×Unit) Y2 :=
 cond (au t87 t86) (
 cond (aZ t87 t85) (
 let u1:=(ae b1.2.2.2.1)
 let u2:=(gt d89 t85 t87)
 cond (bz u1 u2.1) (
 some (.inr (.inr (false,())))
 ) (
 (OH t87 t85 t86 t87 b1.2.2.2.1 u1 0 b1 u2).bind (Sum.elim (fun y1 =>
 some (.inl (y1.2.1,y1.2.2.1,(aq .i64 y1.2.2.2.1 1),y1.2.2.2.2.2.2.2.1,()))
 ) (fun y1 =>
 some (.inr (.inr (y1.1,())))
 ))
 )
 ) none
 ) (
 some (.inr (.inl (t85,t86,t87,b1,())))
 )
def Ps:=kq (ai (cf uL))
def X7 (p0:(List fV)×Int×Int×(List jl)×Unit):Option dS :=
 (Yf p0.1).bind fun y1 =>
 cond (!y1.2.1.1) (
 c0
 ) (
 (tg p0.2.1).bind fun y2 =>
 cond (!y2.2.1.1) (
 c0
 ) (
 (tg p0.2.2.1).bind fun y3 =>
 let u1:=(ae p0.2.2.2.1)
 cond (cond (!y3.2.1.1) true (au 12 u1)) (
 c0
 ) (
 (PJ [] p0.2.2.2.1 u1 0 p0).bind (Sum.elim (fun y4 =>
 (Ps y4.2.2.2.2.1.1 (ae y4.2.2.2.2.1.1) 0 y4.2.2.2.2.1).bind (Sum.elim (fun _ =>
 c2
 ) (fun y5 =>
 some ((),(y5,()))
 ))
 ) (fun y4 =>
 some ((),(y4,()))
 ))
 )
 )
 )
def s32:Su:=⟨[.c true [j9,ki,ki,nr]],[(false,[.bool])],true,.inl fun x=>X7 x.1⟩
theorem aby:ar Tryz.prog 32 s32 :=
 fl (ac GX (ac aaE (ac Qu (ac Yw (ac YX an))))) [.d 2 .bool] [(2,⟨[.own 3 q3,.d 36 nr,.d 37 ki,.d 38 ki,.own 61 q3,.d 62 ki,.d 63 ki,.box 1 [(false,j9),(false,ki),(false,ki),(false,nr)]],ai (yF xg)⟩),(0,⟨[.own 3 q3,.d 36 nr,.d 37 ki,.d 38 ki,.box 1 [(false,j9),(false,ki),(false,ki),(false,nr)]],ai (eS xG)⟩),(6,⟨[.d 8 ki,.d 85 j9,.d 86 ki,.d 87 ki,.d 99 nr,.d 100 ki,.d 101 ki,.box 1 [(false,j9),(false,ki),(false,ki),(false,nr)],.box 9 [(false,ki),(false,gk)]],ai (D9 wY)⟩),(4,⟨[.d 85 j9,.d 86 ki,.d 87 ki,.box 1 [(false,j9),(false,ki),(false,ki),(false,nr)]],ai (cf uL)⟩)] [] Tryz.f32 (lp [0,4] (sc (lp [2] (sc cX sn)) (sc (lp [6] (sc cX sn)) sn)))
def Zi (p0:Int):Option xJ:=EW p0
def s79:Su:=⟨[.c false [ki]],[(false,[.str])],true,.inl fun x=>Zi x.1.1⟩
theorem aaM:ar Tryz.prog 79 s79:=Na vL rfl (fn:=Tryz.f79) (c:=ah Tryz.f79) (by kernel_rfl) (by kernel_rfl) (by kernel_rfl)
def BC (p0:Int):Option xJ :=
 (UY p0).bind fun y1 =>
 cond (!y1.2.1.1) (
 c5
 ) (
 (Zi p0).bind fun y2 =>
 some ((),(y2.2.1,()))
 )
def s33:Su:=⟨[.c false [ki]],[(false,[.str])],true,.inl fun x=>BC x.1.1⟩
theorem Mb:ar Tryz.prog 33 s33 :=
 fq (ac Sv (ac aaM an)) Tryz.f33
def Zm (p0:(List fV)×Int×Int×(List jl)×Unit):Option Tc :=
 (OP p0.1).bind fun y1 =>
 some ((),(y1.2.1,()))
def s34:Su:=⟨[.c true [j9,ki,ki,nr]],[(true,[gk])],true,.inl fun x=>Zm x.1⟩
theorem abq:ar Tryz.prog 34 s34 :=
 fq (ac Uc an) Tryz.f34
def NL (p0:(List UInt8)×Int×Int×Unit) (p1:Int):Option dS :=
 some ((),(((au p1 p0.2.2.1),()),()))
def abp:Su:=⟨[.c true [.str,ki,ki],.c false [ki]],[(false,[.bool])],true,.inl fun x=>NL x.1 x.2.1.1⟩
theorem VH:ar Tryz.prog 149 abp :=
 fq an Tryz.f149
def JT (p0:(List UInt8)×Int×Int×Unit) (p1:Int×Unit):Option dS :=
 (NL p0 p1.1).bind fun y1 =>
 some ((),(((!y1.2.1.1),()),()))
def U1:Su:=⟨[.c true [.str,ki,ki],.pt [ki]],[(false,[.bool])],true,.inl fun x=>JT x.1 x.2.1⟩
theorem PX:ar Tryz.prog 148 U1 :=
 fq (ac VH an) Tryz.f148
def ot (t0:List fA) (f1:Y1×Unit) (t7 t8:Int):Rd ((List fA)×(Y1×Unit)×Int×Int×Unit) Y1 :=
 cond (au t8 t7) (
 cond (aZ t8 t0) (
 (JT (gt d95 t0 t8) f1.1).bind fun y1 =>
 cond y1.2.1.1 (
 some (.inr (.inr (t8,())))
 ) (
 some (.inl (t0,f1,t7,(aq .i64 t8 1),()))
 )
 ) none
 ) (
 some (.inr (.inl (t0,f1,t7,t8,())))
 )
def Ku:=kq (ai (cf ot))
def Mu (p0:List fA) (c1_0:Int×Unit):Option gX :=
 (Ku p0 (c1_0,()) (ae p0) 0).bind (Sum.elim (fun _ =>
 c3
 ) (fun y1 =>
 some ((),(y1,()))
 ))
def TZ:Su:=⟨[.c false [iE],.fn 148 [.p [ki]]],[(false,[ki])],true,.inl fun x=>Mu x.1.1 x.2.1.1⟩
theorem Xk:ar Tryz.prog 192 TZ :=
 fl (ac PX an) [.d 4 ki] [(0,⟨[.d 0 iE,.fn 1 148 [.p [ki]],.d 7 ki,.d 8 ki],ai (cf ot)⟩)] [] Tryz.f192 (lp [0] (sc cX sn))
def mF (t0:List fA) (f1:Y1×Unit) (t5 t6:Int):Rd ((List fA)×(Y1×Unit)×Int×Int×Unit) Unit :=
 cond (au t6 (ae t0)) (
 cond (aZ t6 t0) (
 let u1:=(gt d95 t0 t6)
 (JT u1 f1.1).bind fun y1 =>
 cond (!y1.2.1.1) (
 cond (aZ t5 t0) (
 let u2:=(gt d95 t0 t5)
 let u3:=(xM t0 t5 (u1.1,u2.2.1,u2.2.2.1,()))
 let u4:=(gt d95 u3 t5)
 let u5:=(xM u3 t5 (u4.1,u1.2.1,u4.2.2.1,()))
 let u6:=(gt d95 u5 t5)
 let u7:=(aq .i64 t6 1)
 some (.inl ((xM u5 t5 (u6.1,u6.2.1,u1.2.2.1,())),f1,(aq .i64 t5 1),u7,()))
 ) none
 ) (
 let u2:=(aq .i64 t6 1)
 some (.inl (t0,f1,t5,u2,()))
 )
 ) none
 ) (
 some (.inr (.inl (t0,f1,t5,t6,())))
 )
def zN:=kq (ai (cf mF))
def Kg (p0:List fA) (c1_0:Int×Unit):Option XV :=
 (Mu p0 c1_0).bind fun y1 =>
 cond (ak y1.2.1.1 (-1)) (
 some ((),((p0,()),()))
 ) (
 (zN p0 (c1_0,()) y1.2.1.1 (aq .i64 y1.2.1.1 1)).bind (Sum.elim (fun y2 =>
 cond (dj y2.2.2.1 (ae y2.1) y2.1) (
 let u1:=(nq d95 y2.1 y2.2.2.1)
 cond (dj 0 y2.2.2.1 u1) (
 some ((),(((HD u1 y2.2.2.1),()),()))
 ) none
 ) none
 ) (fun _ =>
 none
 ))
 )
def Mz:Su:=⟨[.mv iE,.fn 148 [.p [ki]]],[(false,[iE])],true,.inl fun x=>Kg x.1 x.2.1.1⟩
def qp:List SE:=[.own 0 iE,.fn 1 148 [.p [ki]],.d 5 ki,.d 6 ki]
def P6:List SE:=[]
def V1:Nat->Option (Lo P6)
 | 0=>some ⟨qp,cf zN⟩
 | _=>none
def PF:List Y0:=[(148,iS U1),(192,iS TZ)]
def T8:Nat->Option (St->Tr St)
 | 11=>some (l8 36 37 38 0 5 wM)
 | _=>none
def Eg:En:=yQ 42 tt PF P6 V1 [] (T8)
theorem Sr (x:bE qp):(cZ Eg 0 qp (aX 0 (ah Tryz.f146)) x).run=cf mF x:=by kernel_rfl
theorem t146 (x:PT Mz.ps):(Fl Eg (ah Tryz.f146) Tryz.f146.results.toList Mz.ps Mz.rs true x).run=Kg x.1 x.2.1.1:=by kernel_rfl
theorem IG:de Tryz.prog Eg:=cN (l:=PF) ⟨PX,Xk,trivial⟩
theorem Ot:cF Tryz.prog Eg (a7 11 (ah Tryz.f146)) (l8 36 37 38 0 5 wM) :=
 rX (E:=Eg) (kr hT) (rid:=11) (ta:=36) (tb:=37) (tc:=38) (t0:=0) (tI:=5) (ty:=53) (o1:=ep (a7 11 (ah Tryz.f146)) 0) (o2:=ep (a7 11 (ah Tryz.f146)) 1) (o3:=ep (a7 11 (ah Tryz.f146)) 2) (o4:=ep (a7 11 (ah Tryz.f146)) 3) (c:=uQ (ep (a7 11 (ah Tryz.f146)) 3)) (te:=⟨true,wM,0,32,[(0,9),(1,3),(2,3)]⟩)
  (by kernel_rfl) (by kernel_rfl) (by kernel_rfl) (by kernel_rfl) (by kernel_rfl) (by kernel_rfl) (by kernel_rfl) (by kernel_rfl) (by kernel_rfl) (by kernel_rfl) (by kernel_rfl) (by kernel_rfl) (by kernel_rfl) (by kernel_rfl) (by kernel_rfl) (by kernel_rfl) (by kernel_rfl) (by kernel_rfl) (by kernel_rfl) (by kernel_rfl) (by kernel_rfl)
theorem QX:bS Tryz.prog Eg 0 (.loop (aX 0 (ah Tryz.f146))) ⟨qp,cf zN⟩ :=
 dZ (kr hT) IG ed (step:=fun (x:bE qp)=>mF x.1 x.2.1 x.2.2.1 x.2.2.2.1) Sr (aT [] (by kernel_rfl) trivial [] (by kernel_rfl) trivial)
theorem Xi:ar Tryz.prog 146 Mz :=
 nC (E:=Eg) (kr hT) IG ed (fn:=Tryz.f146) (c:=(ah Tryz.f146)) (by kernel_rfl) (by kernel_rfl) (by kernel_rfl) rfl (aT [(0,.loop (aX 0 (ah Tryz.f146)))] (by kernel_rfl) ⟨lL rfl QX,trivial⟩ [(11,a7 11 (ah Tryz.f146))] (by kernel_rfl) ⟨vh rfl Ot,trivial⟩) fun x y h=>⟨y.1,fun _=>rfl,(t146 x).trans h⟩
def WX (p0:List fA) (p1:Int):Option XV :=
 (Ee p0).bind fun y1 =>
 (Kg y1.2.1.1 (p1,())).bind fun y2 =>
 some ((),(y2.2.1,()))
def s83:Su:=⟨[.c false [iE],.c false [ki]],[(false,[iE])],true,.inl fun x=>WX x.1.1 x.2.1.1⟩
theorem U9:ar Tryz.prog 83 s83 :=
 fq (ac O3 (ac Xi an)) Tryz.f83
def Mw (p0:List fA) (p1:Int):Option gX :=
 (WX p0 p1).bind fun y1 =>
 (K8 y1.2.1.1).bind fun y2 =>
 some ((),(y2.2.1,()))
def YD:Su:=⟨[.c false [iE],.c false [ki]],[(false,[ki])],true,.inl fun x=>Mw x.1.1 x.2.1.1⟩
theorem Xo:ar Tryz.prog 145 YD :=
 fq (ac PS (ac U9 an)) Tryz.f145
def XC (p0:(List UInt8)×Int×Int×Int×Int×(List fA)×Int×Int×(List R3)×(List R3)×(List cV)×Unit) (p1:Int):Option gX :=
 (Td p0).bind fun y1 =>
 cond (!y1.2.1.1) (
 c6
 ) (
 (tg p1).bind fun y2 =>
 cond (!y2.2.1.1) (
 c6
 ) (
 (Mw p0.2.2.2.2.2.1 p1).bind fun y3 =>
 some ((),(((aI .i64 (aI .i64 p0.2.1 p0.2.2.1) y3.2.1.1),()),()))
 )
 )
def s82:Su:=⟨[.c true [.str,ki,ki,ki,ki,iE,ki,ki,q3,q3,dI],.c false [ki]],[(false,[ki])],true,.inl fun x=>XC x.1 x.2.1.1⟩
theorem ab3:ar Tryz.prog 82 s82 :=
 fq (ac GX (ac Rk (ac Xo an))) Tryz.f82
def Yh (p0:(List UInt8)×Int×Int×Unit):Option xJ :=
 cond (bh p0.1 [58]) (
 (BC p0.2.1).bind fun y1 =>
 let u1:=(dh p0.1 [58])
 cond (bh u1 y1.2.1.1) (
 let u2:=(dh u1 y1.2.1.1)
 cond (bh u2 [64]) (
 (BC p0.2.2.1).bind fun y2 =>
 let u3:=(dh u2 [64])
 cond (bh u3 y2.2.1.1) (
 some ((),(((dh u3 y2.2.1.1),()),()))
 ) none
 ) none
 ) none
 ) none
def s84:Su:=⟨[.c true [.str,ki,ki]],[(false,[.str])],true,.inl fun x=>Yh x.1⟩
theorem aaV:ar Tryz.prog 84 s84 :=
 fq (ac Mb an) Tryz.f84
def vp (t5:List UInt8) (t37:List fA) (t38 t39:Int):Rd ((List UInt8)×(List fA)×Int×Int×Unit) Unit :=
 cond (au t39 t38) (
 cond (aZ t39 t37) (
 (Yh (gt d95 t37 t39)).bind fun y1 =>
 cond (bh [32] y1.2.1.1) (
 let u1:=(dh [32] y1.2.1.1)
 cond (bh t5 u1) (
 some (.inl ((dh t5 u1),t37,t38,(aq .i64 t39 1),()))
 ) none
 ) none
 ) none
 ) (
 some (.inr (.inl (t5,t37,t38,t39,())))
 )
def Pp:=kq (ai (cf vp))
def Yd (p0:(List UInt8)×Int×Int×Int×Int×(List fA)×Int×Int×(List R3)×(List R3)×(List cV)×Unit) (p1:Int):Option xJ :=
 (Td p0).bind fun y1 =>
 cond (!y1.2.1.1) (
 c5
 ) (
 (tg p1).bind fun y2 =>
 cond (!y2.2.1.1) (
 c5
 ) (
 cond (bh p0.1 [32]) (
 (XC p0 p1).bind fun y3 =>
 (BC y3.2.1.1).bind fun y4 =>
 let u1:=(dh p0.1 [32])
 cond (bh u1 y4.2.1.1) (
 let u2:=(dh u1 y4.2.1.1)
 cond (bh u2 [47]) (
 (BC p0.2.1).bind fun y5 =>
 let u3:=(dh u2 [47])
 cond (bh u3 y5.2.1.1) (
 let u4:=(dh u3 y5.2.1.1)
 cond (bh u4 [32]) (
 (BC p0.2.2.1).bind fun y6 =>
 let u5:=(dh u4 [32])
 cond (bh u5 y6.2.1.1) (
 (WX p0.2.2.2.2.2.1 p1).bind fun y7 =>
 (Pp (dh u5 y6.2.1.1) y7.2.1.1 (ae y7.2.1.1) 0).bind (Sum.elim (fun y8 =>
 some ((),((y8.1,()),()))
 ) (fun _ =>
 none
 ))
 ) none
 ) none
 ) none
 ) none
 ) none
 ) none
 )
 )
def s35:Su:=⟨[.c true [.str,ki,ki,ki,ki,iE,ki,ki,q3,q3,dI],.c false [ki]],[(false,[.str])],true,.inl fun x=>Yd x.1 x.2.1.1⟩
theorem aat:ar Tryz.prog 35 s35 :=
 fl (ac GX (ac Rk (ac Mb (ac U9 (ac ab3 (ac aaV an)))))) [] [(0,⟨[.d 5 .str,.own 37 iE,.d 38 ki,.d 39 ki],ai (cf vp)⟩)] [] Tryz.f35 (lp [0] (sc cX sn))
def Is  : Option M9 :=
 c21
def aaC:Su:=⟨[],[(false,[q9])],true,.inl fun x=>Is ⟩
theorem Qm:ar Tryz.prog 153 aaC :=
 fq an Tryz.f153
def rr (t0:List R9) (t1:List UInt8) (t7 t8:Int):Rd ((List R9)×(List UInt8)×Int×Int×Unit) Y1 :=
 cond (au t8 t7) (
 cond (aZ t8 t0) (
 cond (bI t1 (gt d9 t0 t8).1) (
 some (.inr (.inr (t8,())))
 ) (
 some (.inl (t0,t1,t7,(aq .i64 t8 1),()))
 )
 ) none
 ) (
 some (.inr (.inl (t0,t1,t7,t8,())))
 )
def Qv:=kq (ai (cf rr))
def LX (p0:List R9) (p1:List UInt8):Option gX :=
 (Qv p0 p1 (ae p0) 0).bind (Sum.elim (fun _ =>
 c3
 ) (fun y1 =>
 some ((),(y1,()))
 ))
def YT:Su:=⟨[.c false [q9],.c false [.str]],[(false,[ki])],true,.inl fun x=>LX x.1.1 x.2.1.1⟩
theorem Ul:ar Tryz.prog 197 YT :=
 fl an [.d 4 ki] [(0,⟨[.d 0 q9,.d 1 .str,.d 7 ki,.d 8 ki],ai (cf rr)⟩)] [] Tryz.f197 (lp [0] (sc cX sn))
def LV (p0:List UInt8):Option OX :=
 (Is).bind fun y1 =>
 (LX y1.2.1.1 p0).bind fun y2 =>
 some ((),(((B3 y2.2.1.1 0),()),((bz 0 y2.2.1.1),()),()))
def abn:Su:=⟨[.c false [.str]],[(false,[ki]),(false,[.bool])],true,.inl fun x=>LV x.1.1⟩
theorem Xj:ar Tryz.prog 152 abn :=
 fq (ac Qm (ac Ul an)) Tryz.f152
def Xt (p0:List R5):Option OX :=
 (Iz p0).bind fun y1 =>
 (DS y1.2.1 39).bind fun y2 =>
 cond (cond (!(ak y1.2.2.1.1 0)) true (!y2.2.2.1.1)) (
 c9
 ) (
 (LV y2.2.1.1).bind fun y3 =>
 some ((),(y3.2.1,y3.2.2.1,()))
 )
def s86:Su:=⟨[.c false [q5]],[(false,[ki]),(false,[.bool])],true,.inl fun x=>Xt x.1.1⟩
theorem abG:ar Tryz.prog 86 s86 :=
 fq (ac Pj (ac Qo (ac Xj an))) Tryz.f86
def Wm (p0:Int):Option xJ :=
 (nc p0 0 10).bind fun y1 =>
 cond (!y1.2.1.1) (
 c5
 ) (
 (Is).bind fun y2 =>
 cond (aZ p0 y2.2.1.1) (
 some ((),((gt d9 y2.2.1.1 p0),()))
 ) none
 )
def s87:Su:=⟨[.c false [ki]],[(false,[.str])],true,.inl fun x=>Wm x.1.1⟩
theorem aaz:ar Tryz.prog 87 s87 :=
 fq (ac my (ac Qm an)) Tryz.f87
def X5 (p0:(List R5)×Int×(List R3)×Int×Int×Int×Int×Int×(List R5)×Unit):Option xJ :=
 (PB p0.2.1).bind fun y1 =>
 cond (ak p0.2.1 1) (
 let u1:=(BC p0.2.2.2.1)
 Option.bind u1 fun y2 =>
 let u2:=(bh [32] y2.2.1.1)
 cond u2 (
 let u3:=(dh [32] y2.2.1.1)
 let u4:=(bh u3 [47])
 cond u4 (
 let u5:=(BC (ae p0.2.2.1))
 Option.bind u5 fun y3 =>
 let u6:=(dh u3 [47])
 let u7:=(bh u6 y3.2.1.1)
 cond u7 (
 let u8:=(dh u6 y3.2.1.1)
 let u9:=(bh y1.2.1.1 u8)
 cond u9 (
 some ((),(((dh y1.2.1.1 u8),()),()))
 ) none
 ) none
 ) none
 ) none
 ) (
 cond (ak p0.2.1 2) (
 let u1:=(BC p0.2.2.2.1)
 Option.bind u1 fun y2 =>
 let u2:=(bh [32] y2.2.1.1)
 cond u2 (
 let u3:=(dh [32] y2.2.1.1)
 let u4:=(bh u3 [47])
 cond u4 (
 let u5:=(BC (ae p0.2.2.1))
 Option.bind u5 fun y3 =>
 let u6:=(dh u3 [47])
 let u7:=(bh u6 y3.2.1.1)
 cond u7 (
 let u8:=(dh u6 y3.2.1.1)
 let u9:=(bh y1.2.1.1 u8)
 cond u9 (
 some ((),(((dh y1.2.1.1 u8),()),()))
 ) none
 ) none
 ) none
 ) none
 ) (
 cond (ak p0.2.1 3) (
 let u1:=(BC p0.2.2.2.1)
 Option.bind u1 fun y2 =>
 let u2:=(bh [32] y2.2.1.1)
 cond u2 (
 let u3:=(dh [32] y2.2.1.1)
 let u4:=(bh u3 [47])
 cond u4 (
 let u5:=(BC (ae p0.2.2.1))
 Option.bind u5 fun y3 =>
 let u6:=(dh u3 [47])
 let u7:=(bh u6 y3.2.1.1)
 cond u7 (
 let u8:=(dh u6 y3.2.1.1)
 let u9:=(bh y1.2.1.1 u8)
 cond u9 (
 some ((),(((dh y1.2.1.1 u8),()),()))
 ) none
 ) none
 ) none
 ) none
 ) (
 cond (ak p0.2.1 4) (
 let u1:=(Xt p0.2.2.2.2.2.2.2.2.1)
 Option.bind u1 fun y2 =>
 cond y2.2.2.1.1 (
 let u2:=(Wm y2.2.1.1)
 Option.bind u2 fun y3 =>
 let u3:=(bh [32] y3.2.1.1)
 cond u3 (
 let u4:=(dh [32] y3.2.1.1)
 let u5:=(bh y1.2.1.1 u4)
 cond u5 (
 some ((),(((dh y1.2.1.1 u4),()),()))
 ) none
 ) none
 ) (
 let u2:=(bh y1.2.1.1 [32,45])
 cond u2 (
 some ((),(((dh y1.2.1.1 [32,45]),()),()))
 ) none
 )
 ) (
 cond (ak p0.2.1 5) (
 let u1:=(Xt p0.2.2.2.2.2.2.2.2.1)
 Option.bind u1 fun y2 =>
 cond y2.2.2.1.1 (
 let u2:=(Wm y2.2.1.1)
 Option.bind u2 fun y3 =>
 let u3:=(bh [32] y3.2.1.1)
 cond u3 (
 let u4:=(dh [32] y3.2.1.1)
 let u5:=(bh y1.2.1.1 u4)
 cond u5 (
 some ((),(((dh y1.2.1.1 u4),()),()))
 ) none
 ) none
 ) (
 let u2:=(bh y1.2.1.1 [32,45])
 cond u2 (
 some ((),(((dh y1.2.1.1 [32,45]),()),()))
 ) none
 )
 ) (
 some ((),(y1.2.1,()))
 )
 )
 )
 )
 )
def s36:Su:=⟨[.c true [q5,ki,q3,ki,ki,ki,ki,ki,q5]],[(false,[.str])],true,.inl fun x=>X5 x.1⟩
theorem ZQ:ar Tryz.prog 36 s36 :=
 fq (ac Vk (ac Mb (ac abG (ac aaz an)))) Tryz.f36
def xa (t3:List UInt8) (t23:List dC) (t24 t25:Int) (b1:(List fV)×Int×Int×(List jl)×Unit):Rd ((List UInt8)×(List dC)×Int×Int×LF×Unit) Unit :=
 cond (au t25 t24) (
 cond (aZ t25 t23) (
 (Yd (gt d59 t23 t25) b1.2.1).bind fun y1 =>
 cond (bh y1.2.1.1 [10]) (
 let u1:=(dh y1.2.1.1 [10])
 cond (bh t3 u1) (
 some (.inl ((dh t3 u1),t23,t24,(aq .i64 t25 1),b1,()))
 ) none
 ) none
 ) none
 ) (
 some (.inr (.inl (t3,t23,t24,t25,b1,())))
 )
def OE:=xI (ai (eS xa))
def vm (t3:List UInt8) (t38:List jl) (t39 t40:Int):Rd ((List UInt8)×(List jl)×Int×Int×Unit) Unit :=
 cond (au t40 t39) (
 cond (aZ t40 t38) (
 (BC t40).bind fun y1 =>
 cond (bh y1.2.1.1 [32]) (
 (X5 (gt d62 t38 t40)).bind fun y2 =>
 let u1:=(dh y1.2.1.1 [32])
 cond (bh u1 y2.2.1.1) (
 let u2:=(dh u1 y2.2.1.1)
 cond (bh u2 [10]) (
 let u3:=(dh u2 [10])
 cond (bh t3 u3) (
 some (.inl ((dh t3 u3),t38,t39,(aq .i64 t40 1),()))
 ) none
 ) none
 ) none
 ) none
 ) none
 ) (
 some (.inr (.inl (t3,t38,t39,t40,())))
 )
def ON:=kq (ai (cf vm))
def g10 (p0:(List fV)×Int×Int×(List jl)×Unit):Option xJ :=
 (X7 p0).bind fun y1 =>
 cond (!y1.2.1.1) (
 c5
 ) (
 (BC p0.2.1).bind fun y2 =>
 cond (bh [110,111,119,32] y2.2.1.1) (
 let u1:=(dh [110,111,119,32] y2.2.1.1)
 cond (bh u1 [32,115,116,101,112,32]) (
 (BC p0.2.2.1).bind fun y3 =>
 let u2:=(dh u1 [32,115,116,101,112,32])
 cond (bh u2 y3.2.1.1) (
 let u3:=(dh u2 y3.2.1.1)
 cond (bh u3 [10]) (
 (Zm p0).bind fun y4 =>
 (OE (dh u3 [10]) y4.2.1.1 (ae y4.2.1.1) 0 p0).bind (Sum.elim (fun y5 =>
 (ON y5.1 y5.2.2.2.2.1.2.2.2.1 (ae y5.2.2.2.2.1.2.2.2.1) 0).bind (Sum.elim (fun y6 =>
 some ((),((y6.1,()),()))
 ) (fun _ =>
 none
 ))
 ) (fun _ =>
 none
 ))
 ) none
 ) none
 ) none
 ) none
 )
def s10:Su:=⟨[.c true [j9,ki,ki,nr]],[(false,[.str])],true,.inl fun x=>g10 x.1⟩
theorem YP:ar Tryz.prog 10 s10 :=
 fl (ac aby (ac Mb (ac abq (ac aat (ac ZQ an))))) [] [(0,⟨[.d 3 .str,.own 23 gk,.d 24 ki,.d 25 ki,.box 1 [(false,j9),(false,ki),(false,ki),(false,nr)]],ai (eS xa)⟩),(2,⟨[.d 3 .str,.d 38 nr,.d 39 ki,.d 40 ki],ai (cf vm)⟩)] [] Tryz.f10 (lp [0,2] (sc cX (sc cX sn)))
def MT (p0 p1:(List UInt8)×Int×Int×Unit):Option dS :=
 cond (!(bI p0.1 p1.1)) (
 c0
 ) (
 cond (!(ak p0.2.1 p1.2.1)) (
 c0
 ) (
 cond (!(ak p0.2.2.1 p1.2.2.1)) (
 c0
 ) (
 c2
 )
 )
 )
def abM:Su:=⟨[.c true [.str,ki,ki],.c true [.str,ki,ki]],[(false,[.bool])],true,.inl fun x=>MT x.1 x.2.1⟩
theorem Us:ar Tryz.prog 294 abM :=
 fq an Tryz.f294
def py (t0 t1:List fA) (t5:Int):Rd ((List fA)×(List fA)×Int×Unit) Y2 :=
 cond (au t5 (ae t0)) (
 cond (aZ t5 t0) (
 cond (aZ t5 t1) (
 (MT (gt d95 t0 t5) (gt d95 t1 t5)).bind fun y1 =>
 cond (!y1.2.1.1) (
 some (.inr (.inr (false,())))
 ) (
 some (.inl (t0,t1,(aq .i64 t5 1),()))
 )
 ) none
 ) none
 ) (
 some (.inr (.inl (t0,t1,t5,())))
 )
def J7:=rb (ai (ff py))
def N7 (p0 p1:List fA):Option dS :=
 cond (!(ak (ae p0) (ae p1))) (
 c0
 ) (
 (J7 p0 p1 0).bind (Sum.elim (fun _ =>
 c2
 ) (fun y1 =>
 some ((),(y1,()))
 ))
 )
def abj:Su:=⟨[.c false [iE],.c false [iE]],[(false,[.bool])],true,.inl fun x=>N7 x.1.1 x.2.1.1⟩
theorem VL:ar Tryz.prog 253 abj :=
 fl (ac Us an) [.d 4 .bool] [(0,⟨[.d 0 iE,.d 1 iE,.d 5 ki],ai (ff py)⟩)] [] Tryz.f253 (lp [0] (sc cX sn))
def pF (t0 t1:List R3) (t5:Int):Rd ((List R3)×(List R3)×Int×Unit) Y2 :=
 cond (au t5 (ae t0)) (
 cond (aZ t5 t0) (
 cond (aZ t5 t1) (
 cond (!(ak (gt d3 t0 t5).1 (gt d3 t1 t5).1)) (
 some (.inr (.inr (false,())))
 ) (
 some (.inl (t0,t1,(aq .i64 t5 1),()))
 )
 ) none
 ) none
 ) (
 some (.inr (.inl (t0,t1,t5,())))
 )
def HM:=rb (ai (ff pF))
def Ha (p0 p1:List R3):Option dS :=
 cond (!(ak (ae p0) (ae p1))) (
 c0
 ) (
 (HM p0 p1 0).bind (Sum.elim (fun _ =>
 c2
 ) (fun y1 =>
 some ((),(y1,()))
 ))
 )
def aa7:Su:=⟨[.c false [q3],.c false [q3]],[(false,[.bool])],true,.inl fun x=>Ha x.1.1 x.2.1.1⟩
theorem O8:ar Tryz.prog 155 aa7 :=
 fl an [.d 4 .bool] [(0,⟨[.d 0 q3,.d 1 q3,.d 5 ki],ai (ff pF)⟩)] [] Tryz.f155 (lp [0] (sc cX sn))
def MW (p0 p1:Int×Int×(List R3)×(List R3)×Unit):Option dS :=
 cond (!(ak p0.1 p1.1)) (
 c0
 ) (
 cond (!(ak p0.2.1 p1.2.1)) (
 c0
 ) (
 (Ha p0.2.2.1 p1.2.2.1).bind fun y1 =>
 cond (!y1.2.1.1) (
 c0
 ) (
 (Ha p0.2.2.2.1 p1.2.2.2.1).bind fun y2 =>
 cond (!y2.2.1.1) (
 c0
 ) (
 c2
 )
 )
 )
 )
def YC:Su:=⟨[.c true [ki,ki,q3,q3],.c true [ki,ki,q3,q3]],[(false,[.bool])],true,.inl fun x=>MW x.1 x.2.1⟩
theorem Vn:ar Tryz.prog 254 YC :=
 fq (ac O8 an) Tryz.f254
def xD (t0 t1:List R5) (t5:Int):Rd ((List R5)×(List R5)×Int×Unit) Y2 :=
 cond (au t5 (ae t0)) (
 cond (aZ t5 t0) (
 cond (aZ t5 t1) (
 cond (!(ak (gt d5 t0 t5).1 (gt d5 t1 t5).1)) (
 some (.inr (.inr (false,())))
 ) (
 some (.inl (t0,t1,(aq .i64 t5 1),()))
 )
 ) none
 ) none
 ) (
 some (.inr (.inl (t0,t1,t5,())))
 )
def OV:=rb (ai (ff xD))
def g19 (p0 p1:List R5):Option dS :=
 cond (!(ak (ae p0) (ae p1))) (
 c0
 ) (
 (OV p0 p1 0).bind (Sum.elim (fun _ =>
 c2
 ) (fun y1 =>
 some ((),(y1,()))
 ))
 )
def s19:Su:=⟨[.c false [q5],.c false [q5]],[(false,[.bool])],true,.inl fun x=>g19 x.1.1 x.2.1.1⟩
theorem V2:ar Tryz.prog 19 s19 :=
 fl an [.d 4 .bool] [(0,⟨[.d 0 q5,.d 1 q5,.d 5 ki],ai (ff xD)⟩)] [] Tryz.f19 (lp [0] (sc cX sn))
def MG (p0 p1:(List UInt8)×(List UInt8)×(List R5)×Unit):Option dS :=
 cond (!(bI p0.1 p1.1)) (
 c0
 ) (
 cond (!(bI p0.2.1 p1.2.1)) (
 c0
 ) (
 (g19 p0.2.2.1 p1.2.2.1).bind fun y1 =>
 cond (!y1.2.1.1) (
 c0
 ) (
 c2
 )
 )
 )
def ZT:Su:=⟨[.c true [.str,.str,q5],.c true [.str,.str,q5]],[(false,[.bool])],true,.inl fun x=>MG x.1 x.2.1⟩
theorem VX:ar Tryz.prog 295 ZT :=
 fq (ac V2 an) Tryz.f295
def po (t0 t1:List cV) (t5:Int):Rd ((List cV)×(List cV)×Int×Unit) Y2 :=
 cond (au t5 (ae t0)) (
 cond (aZ t5 t0) (
 cond (aZ t5 t1) (
 (MG (gt d166 t0 t5) (gt d166 t1 t5)).bind fun y1 =>
 cond (!y1.2.1.1) (
 some (.inr (.inr (false,())))
 ) (
 some (.inl (t0,t1,(aq .i64 t5 1),()))
 )
 ) none
 ) none
 ) (
 some (.inr (.inl (t0,t1,t5,())))
 )
def Le:=rb (ai (ff po))
def Mv (p0 p1:List cV):Option dS :=
 cond (!(ak (ae p0) (ae p1))) (
 c0
 ) (
 (Le p0 p1 0).bind (Sum.elim (fun _ =>
 c2
 ) (fun y1 =>
 some ((),(y1,()))
 ))
 )
def Zz:Su:=⟨[.c false [dI],.c false [dI]],[(false,[.bool])],true,.inl fun x=>Mv x.1.1 x.2.1.1⟩
theorem UK:ar Tryz.prog 255 Zz :=
 fl (ac VX an) [.d 4 .bool] [(0,⟨[.d 0 dI,.d 1 dI,.d 5 ki],ai (ff po)⟩)] [] Tryz.f255 (lp [0] (sc cX sn))
def Mo (p0 p1:(List UInt8)×Int×Int×Int×Int×(List fA)×Int×Int×(List R3)×(List R3)×(List cV)×Unit):Option dS :=
 cond (!(bI p0.1 p1.1)) (
 c0
 ) (
 cond (!(ak p0.2.1 p1.2.1)) (
 c0
 ) (
 cond (!(ak p0.2.2.1 p1.2.2.1)) (
 c0
 ) (
 cond (!(ak p0.2.2.2.1 p1.2.2.2.1)) (
 c0
 ) (
 cond (!(ak p0.2.2.2.2.1 p1.2.2.2.2.1)) (
 c0
 ) (
 (N7 p0.2.2.2.2.2.1 p1.2.2.2.2.2.1).bind fun y1 =>
 cond (!y1.2.1.1) (
 c0
 ) (
 (MW (p0.2.2.2.2.2.2.1,p0.2.2.2.2.2.2.2.1,p0.2.2.2.2.2.2.2.2.1,p0.2.2.2.2.2.2.2.2.2.1,()) (p1.2.2.2.2.2.2.1,p1.2.2.2.2.2.2.2.1,p1.2.2.2.2.2.2.2.2.1,p1.2.2.2.2.2.2.2.2.2.1,())).bind fun y2 =>
 cond (!y2.2.1.1) (
 c0
 ) (
 (Mv p0.2.2.2.2.2.2.2.2.2.2.1 p1.2.2.2.2.2.2.2.2.2.2.1).bind fun y3 =>
 cond (!y3.2.1.1) (
 c0
 ) (
 c2
 )
 )
 )
 )
 )
 )
 )
 )
def aas:Su:=⟨[.c true [.str,ki,ki,ki,ki,iE,ki,ki,q3,q3,dI],.c true [.str,ki,ki,ki,ki,iE,ki,ki,q3,q3,dI]],[(false,[.bool])],true,.inl fun x=>Mo x.1 x.2.1⟩
theorem Xe:ar Tryz.prog 198 aas :=
 fq (ac VL (ac Vn (ac UK an))) Tryz.f198
def oY (t0 t1:List dC) (t5:Int):Rd ((List dC)×(List dC)×Int×Unit) Y2 :=
 cond (au t5 (ae t0)) (
 cond (aZ t5 t0) (
 cond (aZ t5 t1) (
 (Mo (gt d59 t0 t5) (gt d59 t1 t5)).bind fun y1 =>
 cond (!y1.2.1.1) (
 some (.inr (.inr (false,())))
 ) (
 some (.inl (t0,t1,(aq .i64 t5 1),()))
 )
 ) none
 ) none
 ) (
 some (.inr (.inl (t0,t1,t5,())))
 )
def Jf:=rb (ai (ff oY))
def Mr (p0 p1:List dC):Option dS :=
 cond (!(ak (ae p0) (ae p1))) (
 c0
 ) (
 (Jf p0 p1 0).bind (Sum.elim (fun _ =>
 c2
 ) (fun y1 =>
 some ((),(y1,()))
 ))
 )
def Z7:Su:=⟨[.c false [gk],.c false [gk]],[(false,[.bool])],true,.inl fun x=>Mr x.1.1 x.2.1.1⟩
theorem Wk:ar Tryz.prog 154 Z7 :=
 fl (ac Xe an) [.d 4 .bool] [(0,⟨[.d 0 gk,.d 1 gk,.d 5 ki],ai (ff oY)⟩)] [] Tryz.f154 (lp [0] (sc cX sn))
def Yc (p0 p1:Int×(List dC)×Unit):Option dS :=
 cond (!(ak p0.1 p1.1)) (
 c0
 ) (
 (Mr p0.2.1 p1.2.1).bind fun y1 =>
 cond (!y1.2.1.1) (
 c0
 ) (
 c2
 )
 )
def s88:Su:=⟨[.c true [ki,gk],.c true [ki,gk]],[(false,[.bool])],true,.inl fun x=>Yc x.1 x.2.1⟩
theorem abh:ar Tryz.prog 88 s88 :=
 fq (ac Wk an) Tryz.f88
def wC (t0 t1:List fV) (t5:Int):Rd ((List fV)×(List fV)×Int×Unit) Y2 :=
 cond (au t5 (ae t0)) (
 cond (aZ t5 t0) (
 cond (aZ t5 t1) (
 (Yc (gt d89 t0 t5) (gt d89 t1 t5)).bind fun y1 =>
 cond (!y1.2.1.1) (
 some (.inr (.inr (false,())))
 ) (
 some (.inl (t0,t1,(aq .i64 t5 1),()))
 )
 ) none
 ) none
 ) (
 some (.inr (.inl (t0,t1,t5,())))
 )
def P7:=rb (ai (ff wC))
def XL (p0 p1:List fV):Option dS :=
 cond (!(ak (ae p0) (ae p1))) (
 c0
 ) (
 (P7 p0 p1 0).bind (Sum.elim (fun _ =>
 c2
 ) (fun y1 =>
 some ((),(y1,()))
 ))
 )
def s37:Su:=⟨[.c false [j9],.c false [j9]],[(false,[.bool])],true,.inl fun x=>XL x.1.1 x.2.1.1⟩
theorem aaS:ar Tryz.prog 37 s37 :=
 fl (ac abh an) [.d 4 .bool] [(0,⟨[.d 0 j9,.d 1 j9,.d 5 ki],ai (ff wC)⟩)] [] Tryz.f37 (lp [0] (sc cX sn))
def XN (p0 p1:(List R5)×Int×(List R3)×Int×Int×Int×Int×Int×(List R5)×Unit):Option dS :=
 (g19 p0.1 p1.1).bind fun y1 =>
 cond (!y1.2.1.1) (
 c0
 ) (
 cond (!(ak p0.2.1 p1.2.1)) (
 c0
 ) (
 (Ha p0.2.2.1 p1.2.2.1).bind fun y2 =>
 cond (!y2.2.1.1) (
 c0
 ) (
 cond (!(ak p0.2.2.2.1 p1.2.2.2.1)) (
 c0
 ) (
 cond (!(ak p0.2.2.2.2.1 p1.2.2.2.2.1)) (
 c0
 ) (
 cond (!(ak p0.2.2.2.2.2.1 p1.2.2.2.2.2.1)) (
 c0
 ) (
 cond (!(ak p0.2.2.2.2.2.2.1 p1.2.2.2.2.2.2.1)) (
 c0
 ) (
 cond (!(ak p0.2.2.2.2.2.2.2.1 p1.2.2.2.2.2.2.2.1)) (
 c0
 ) (
 (g19 p0.2.2.2.2.2.2.2.2.1 p1.2.2.2.2.2.2.2.2.1).bind fun y3 =>
 cond (!y3.2.1.1) (
 c0
 ) (
 c2
 )
 )
 )
 )
 )
 )
 )
 )
 )
def s89:Su:=⟨[.c true [q5,ki,q3,ki,ki,ki,ki,ki,q5],.c true [q5,ki,q3,ki,ki,ki,ki,ki,q5]],[(false,[.bool])],true,.inl fun x=>XN x.1 x.2.1⟩
theorem abN:ar Tryz.prog 89 s89 :=
 fq (ac O8 (ac V2 an)) Tryz.f89
def xl (t0 t1:List jl) (t5:Int):Rd ((List jl)×(List jl)×Int×Unit) Y2 :=
 cond (au t5 (ae t0)) (
 cond (aZ t5 t0) (
 cond (aZ t5 t1) (
 (XN (gt d62 t0 t5) (gt d62 t1 t5)).bind fun y1 =>
 cond (!y1.2.1.1) (
 some (.inr (.inr (false,())))
 ) (
 some (.inl (t0,t1,(aq .i64 t5 1),()))
 )
 ) none
 ) none
 ) (
 some (.inr (.inl (t0,t1,t5,())))
 )
def Qf:=rb (ai (ff xl))
def X0 (p0 p1:List jl):Option dS :=
 cond (!(ak (ae p0) (ae p1))) (
 c0
 ) (
 (Qf p0 p1 0).bind (Sum.elim (fun _ =>
 c2
 ) (fun y1 =>
 some ((),(y1,()))
 ))
 )
def s38:Su:=⟨[.c false [nr],.c false [nr]],[(false,[.bool])],true,.inl fun x=>X0 x.1.1 x.2.1.1⟩
theorem abR:ar Tryz.prog 38 s38 :=
 fl (ac abN an) [.d 4 .bool] [(0,⟨[.d 0 nr,.d 1 nr,.d 5 ki],ai (ff xl)⟩)] [] Tryz.f38 (lp [0] (sc cX sn))
def g11 (p0 p1:(List fV)×Int×Int×(List jl)×Unit):Option dS :=
 (XL p0.1 p1.1).bind fun y1 =>
 cond (!y1.2.1.1) (
 c0
 ) (
 cond (!(ak p0.2.1 p1.2.1)) (
 c0
 ) (
 cond (!(ak p0.2.2.1 p1.2.2.1)) (
 c0
 ) (
 (X0 p0.2.2.2.1 p1.2.2.2.1).bind fun y2 =>
 cond (!y2.2.1.1) (
 c0
 ) (
 c2
 )
 )
 )
 )
def s11:Su:=⟨[.c true [j9,ki,ki,nr],.c true [j9,ki,ki,nr]],[(false,[.bool])],true,.inl fun x=>g11 x.1 x.2.1⟩
theorem Y6:ar Tryz.prog 11 s11 :=
 fq (ac aaS (ac abR an)) Tryz.f11
def g3 (p0:(List tW)×Int×Int×(List rG)×Unit):Option dS :=
 (g7 p0 1048576).bind fun y1 =>
 cond (au y1.2.1.1 0) (
 c2
 ) (
 let u1:=(g9 p0)
 Option.bind u1 fun y2 =>
 (g8 y2.2.1).bind fun y3 =>
 Option.bind u1 fun y4 =>
 (g10 y4.2.1).bind fun y5 =>
 cond (!(bI y5.2.1.1 y3.2.1.1)) (
 c0
 ) (
 Option.bind u1 fun y6 =>
 (g11 y4.2.1 y6.2.1).bind fun y7 =>
 cond (!y7.2.1.1) (
 c0
 ) (
 c2
 )
 )
 )
def s3:Su:=⟨[.c true [QU,ki,ki,QC]],[(false,[.bool])],true,.inl fun x=>g3 x.1⟩
theorem ok3:ar Tryz.prog 3 s3 :=
 fq (ac ok7 (ac ok9 (ac ok8 (ac YP (ac Y6 an))))) Tryz.f3
end
end Go.Av
