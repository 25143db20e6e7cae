/- FnExactAgree, a part. -/
import Derived.Test.YtcmhjdkpbgncfaaGreatDoorP1a
set_option maxRecDepth 100000
namespace Go.Av
open Go.Proofs
set_option maxHeartbeats 4000000
noncomputable section
def Ud(p0:S8):Option gu :=
 zR (cond (cond (bk p0 [48,49,48,48]) true (bk p0 [48,50,48,48])) true (bk p0 [48,50,50,48]))
def abT:Su:=fU [.c false [.str]] gC fun x=>Ud x.1.1
theorem aaM:au Tryz.prog 115 abT :=
 fq an Tryz.f115
def qD(t1:Int)(t9:List eS)(t10 t11:Int):Rd (Int×(List eS)×Int×Int×Unit) (S8×Bool×Unit) :=
 cond (aG t11 t10) (
 cond (aZ t11 t9) (
 let u1:=(gt d117 t9 t11)
 cond (aj u1.1 t1) (
 eC (u1.2.1,true,())
 ) (
 eA (t1,t9,t10,(aw .i64 t11 1),())
 )
 ) none
 ) (
 eB (t1,t9,t10,t11,())
 )
def J3:=nA (aq (da qD))
def FC(p0:S8×(List eS)×Unit)(p1:Int):Option (Unit×(Y9×Y2×Unit)) :=
 (J3 p1 p0.2.1 (ae p0.2.1) 0).bind (Sum.elim (fun _ =>
 some ((),(([],()),(false,()),()))
 ) (fun y1 =>
 some ((),((y1.1,()),(y1.2.1,()),()))
 ))
def aek:Su:=fU [.c true [.str,dO],.c false [ah]] [(false,[.str]),(false,[.bool])] fun x=>FC x.1 x.2.1.1
theorem Tx:au Tryz.prog 116 aek :=
 fl an [.d 4 .str,.d 5 .bool] [(0,⟨[.d 1 ah,.d 9 dO,.d 10 ah,.d 11 ah],aq (da qD)⟩)] [] Tryz.f116 (lp [0] (sc dI sn))
def QA  : Option (Unit×(((List JD)×Unit)×Unit)) :=
 zR [([48,49,48,48],[48,48],[97,117,116,104],[(4,()),(14,()),(38,())],()),([48,49,48,48],[48,50],[109,111,114,101],[(4,()),(38,())],()),([48,50,50,48],[48,49],[112,97,114,116],[(4,()),(38,())],()),([48,50,50,48],[48,48],[102,105,110,97,108],[(4,()),(38,())],()),([48,50,50,48],[50,48],[102,114,101,101],[(38,())],()),([48,50,48,48],[52,48],[109,111,118,101],[(38,()),(103,())],()),([48,49,48,48],[51,49],[97,115,107],[],()),([48,50,48,48],[57,48],[115,119,101,101,112],[],())]
def ad9:Su:=⟨[],[(false,[.sl 146 Hh])],false,.inl fun x=>QA ⟩
theorem Tm:au Tryz.prog 118 ad9 :=
 fl an [] [] [999999] Tryz.f118 dI
def VO(p0:S8×S8×S8×(List R3)×Unit)(p1:S8×(List eS)×Unit)(p2:S8×Unit):Option gu :=
 cond (bk p0.1 p1.1) (
 cond (dZ 0 2 p2.1) (
 zR (bk p0.2.1 (sub p2.1 0 2))
 ) none
 ) (
 c0
 )
def adH:Su:=fU [.c true [.str,.str,.str,q3],.pt [.str,dO],.pt [.str]] gC fun x=>VO x.1 x.2.1 x.2.2.1
theorem aa1:au Tryz.prog 119 adH :=
 fq an Tryz.f119
def qo(t0:List JD)(f1:uS×Y9×Unit)(t7 t8:Int):Rd ((List JD)×(uS×Y9×Unit)×Int×Int×Unit) Y1 :=
 cond (aG t8 t7) (
 cond (aZ t8 t0) (
 (VO (gt d146 t0 t8) f1.1 f1.2.1).bind fun y1 =>
 cond y1.2.1.1 (
 eC (t8,())
 ) (
 eA (t0,f1,t7,(aw .i64 t8 1),())
 )
 ) none
 ) (
 eB (t0,f1,t7,t8,())
 )
def VH:=nA (aq (da qo))
def QC(p0:List JD)(c1_0:S8×(List eS)×Unit)(c1_1:S8×Unit):Option iJ :=
 (VH p0 (c1_0,c1_1,()) (ae p0) 0).bind (Sum.elim (fun _ =>
 c2
 ) (fun y1 =>
 some ((),(y1,()))
 ))
def ab9:Su:=fU [.c false [.sl 146 Hh],.fn 119 [.p [.str,dO],.p [.str]]] j9 fun x=>QC x.1.1 x.2.1.1 x.2.1.2.1
theorem Xj:au Tryz.prog 117 ab9 :=
 fl (ac aa1 an) [.d 4 ah] [(0,⟨[.d 0 (.sl 146 Hh),.fn 1 119 [.p [.str,dO],.p [.str]],.d 7 ah,.d 8 ah],aq (da qo)⟩)] [] Tryz.f117 (lp [0] (sc dI sn))
def At(p0:Int):Option (Unit×(JD×Unit)) :=
 (gQ p0 1 8).bind fun y1 =>
 cond (!y1.2.1.1) (
 some ((),(([],[],[],[],()),()))
 ) (
 (QA).bind fun y2 =>
 let u1:=(aW .i64 p0 1)
 cond (aZ u1 y2.2.1.1) (
 some ((),((gt d146 y2.2.1.1 u1),()))
 ) none
 )
def acj:Su:=⟨[.c false [ah]],[(true,[.str,.str,.str,q3])],false,.inl fun x=>At x.1.1⟩
theorem KX:au Tryz.prog 120 acj :=
 fl (ac iY (ac Tm an)) [] [] [999999] Tryz.f120 dI
def pV(t0:List R3)(t1 t7 t8:Int):Rd ((List R3)×Int×Int×Int×Unit) Y1 :=
 cond (aG t8 t7) (
 cond (aZ t8 t0) (
 cond (aj t1 (gt d3 t0 t8).1) (
 eC (t8,())
 ) (
 eA (t0,t1,t7,(aw .i64 t8 1),())
 )
 ) none
 ) (
 eB (t0,t1,t7,t8,())
 )
def Nv:=nA (aq (da pV))
def U5(p0:List R3)(p1:Int):Option iJ :=
 (Nv p0 p1 (ae p0) 0).bind (Sum.elim (fun _ =>
 c2
 ) (fun y1 =>
 some ((),(y1,()))
 ))
def aem:Su:=fU [.c false [q3],.c false [ah]] j9 fun x=>U5 x.1.1 x.2.1.1
theorem aa4:au Tryz.prog 285 aem :=
 fl an [.d 4 ah] [(0,⟨[.d 0 q3,.d 1 ah,.d 7 ah,.d 8 ah],aq (da pV)⟩)] [] Tryz.f285 (lp [0] (sc dI sn))
def Q1(p0:List R3)(p1:Int):Option gu :=
 (U5 p0 p1).bind fun y1 =>
 zR (bM 0 y1.2.1.1)
def acB:Su:=fU [.c false [q3],.c false [ah]] gC fun x=>Q1 x.1.1 x.2.1.1
theorem XB:au Tryz.prog 254 acB :=
 fq (ac aa4 an) Tryz.f254
def lT(p0 p1:Int):Option gu :=
 (At p0).bind fun y1 =>
 (Q1 y1.2.1.2.2.2.1 p1).bind fun y2 =>
 some ((),(y2.2.1,()))
def ad5:Su:=fU [.c false [ah],.c false [ah]] gC fun x=>lT x.1.1 x.2.1.1
theorem ZK:au Tryz.prog 203 ad5 :=
 fq (ac KX (ac XB an)) Tryz.f203
def Jd(p0:Int×S8×S8×S8×S8×S8×Int×Int×Unit):Option gu :=
 (At p0.1).bind fun y1 =>
 cond (cond (bk y1.2.1.2.2.1 []) true (!(bk p0.2.2.2.2.2.1 y1.2.1.1))) (
 c0
 ) (
 (tU p0.2.1).bind fun y2 =>
 cond (!y2.2.1.1) (
 c0
 ) (
 (vl p0.2.2.2.2.1 6).bind fun y3 =>
 cond (!y3.2.1.1) (
 c0
 ) (
 (lT p0.1 38).bind fun y4 =>
 cond y4.2.1.1 (
 (D8 p0.2.2.2.1).bind fun y5 =>
 let u1:=(lT p0.1 4)
 Option.bind u1 fun y6 =>
 cond y6.2.1.1 (
 let u2:=(gQ p0.2.2.2.2.2.2.1 0 999999999999)
 Option.bind u2 fun y7 =>
 let u3:=(lT p0.1 14)
 Option.bind u3 fun y8 =>
 cond y8.2.1.1 (
 let u4:=(gQ p0.2.2.2.2.2.2.2.1 0 9999)
 Option.bind u4 fun y9 =>
 let u5:=(lT p0.1 103)
 Option.bind u5 fun y10 =>
 cond y10.2.1.1 (
 let u6:=(tU p0.2.2.1)
 Option.bind u6 fun y11 =>
 let u7:=(cond y5.2.1.1 y7.2.1.1 false)
 let u8:=(cond u7 y9.2.1.1 false)
 zR (cond u8 y11.2.1.1 false)
 ) (
 let u6:=(cond y5.2.1.1 y7.2.1.1 false)
 let u7:=(cond u6 y9.2.1.1 false)
 let u8:=(bk p0.2.2.1 [])
 zR (cond u7 u8 false)
 )
 ) (
 let u4:=(lT p0.1 103)
 Option.bind u4 fun y9 =>
 cond y9.2.1.1 (
 let u5:=(tU p0.2.2.1)
 Option.bind u5 fun y10 =>
 let u6:=(cond y5.2.1.1 y7.2.1.1 false)
 let u7:=(cond u6 (aj p0.2.2.2.2.2.2.2.1 0) false)
 zR (cond u7 y10.2.1.1 false)
 ) (
 let u5:=(cond y5.2.1.1 y7.2.1.1 false)
 let u6:=(cond u5 (aj p0.2.2.2.2.2.2.2.1 0) false)
 let u7:=(bk p0.2.2.1 [])
 zR (cond u6 u7 false)
 )
 )
 ) (
 let u2:=(lT p0.1 14)
 Option.bind u2 fun y7 =>
 cond y7.2.1.1 (
 let u3:=(gQ p0.2.2.2.2.2.2.2.1 0 9999)
 Option.bind u3 fun y8 =>
 let u4:=(lT p0.1 103)
 Option.bind u4 fun y9 =>
 cond y9.2.1.1 (
 let u5:=(tU p0.2.2.1)
 Option.bind u5 fun y10 =>
 let u6:=(cond y5.2.1.1 (aj p0.2.2.2.2.2.2.1 0) false)
 let u7:=(cond u6 y8.2.1.1 false)
 zR (cond u7 y10.2.1.1 false)
 ) (
 let u5:=(cond y5.2.1.1 (aj p0.2.2.2.2.2.2.1 0) false)
 let u6:=(cond u5 y8.2.1.1 false)
 let u7:=(bk p0.2.2.1 [])
 zR (cond u6 u7 false)
 )
 ) (
 let u3:=(lT p0.1 103)
 Option.bind u3 fun y8 =>
 cond y8.2.1.1 (
 let u4:=(tU p0.2.2.1)
 Option.bind u4 fun y9 =>
 let u5:=(cond y5.2.1.1 (aj p0.2.2.2.2.2.2.1 0) false)
 let u6:=(cond u5 (aj p0.2.2.2.2.2.2.2.1 0) false)
 zR (cond u6 y9.2.1.1 false)
 ) (
 let u4:=(cond y5.2.1.1 (aj p0.2.2.2.2.2.2.1 0) false)
 let u5:=(cond u4 (aj p0.2.2.2.2.2.2.2.1 0) false)
 let u6:=(bk p0.2.2.1 [])
 zR (cond u5 u6 false)
 )
 )
 )
 ) (
 let u1:=(lT p0.1 4)
 Option.bind u1 fun y5 =>
 cond y5.2.1.1 (
 let u2:=(gQ p0.2.2.2.2.2.2.1 0 999999999999)
 Option.bind u2 fun y6 =>
 let u3:=(lT p0.1 14)
 Option.bind u3 fun y7 =>
 cond y7.2.1.1 (
 let u4:=(gQ p0.2.2.2.2.2.2.2.1 0 9999)
 Option.bind u4 fun y8 =>
 let u5:=(lT p0.1 103)
 Option.bind u5 fun y9 =>
 cond y9.2.1.1 (
 let u6:=(tU p0.2.2.1)
 Option.bind u6 fun y10 =>
 let u7:=(bk p0.2.2.2.1 [])
 let u8:=(cond u7 y6.2.1.1 false)
 let u9:=(cond u8 y8.2.1.1 false)
 zR (cond u9 y10.2.1.1 false)
 ) (
 let u6:=(bk p0.2.2.2.1 [])
 let u7:=(cond u6 y6.2.1.1 false)
 let u8:=(cond u7 y8.2.1.1 false)
 let u9:=(bk p0.2.2.1 [])
 zR (cond u8 u9 false)
 )
 ) (
 let u4:=(lT p0.1 103)
 Option.bind u4 fun y8 =>
 cond y8.2.1.1 (
 let u5:=(tU p0.2.2.1)
 Option.bind u5 fun y9 =>
 let u6:=(bk p0.2.2.2.1 [])
 let u7:=(cond u6 y6.2.1.1 false)
 let u8:=(cond u7 (aj p0.2.2.2.2.2.2.2.1 0) false)
 zR (cond u8 y9.2.1.1 false)
 ) (
 let u5:=(bk p0.2.2.2.1 [])
 let u6:=(cond u5 y6.2.1.1 false)
 let u7:=(cond u6 (aj p0.2.2.2.2.2.2.2.1 0) false)
 let u8:=(bk p0.2.2.1 [])
 zR (cond u7 u8 false)
 )
 )
 ) (
 let u2:=(lT p0.1 14)
 Option.bind u2 fun y6 =>
 cond y6.2.1.1 (
 let u3:=(gQ p0.2.2.2.2.2.2.2.1 0 9999)
 Option.bind u3 fun y7 =>
 let u4:=(lT p0.1 103)
 Option.bind u4 fun y8 =>
 cond y8.2.1.1 (
 let u5:=(tU p0.2.2.1)
 Option.bind u5 fun y9 =>
 let u6:=(bk p0.2.2.2.1 [])
 let u7:=(cond u6 (aj p0.2.2.2.2.2.2.1 0) false)
 let u8:=(cond u7 y7.2.1.1 false)
 zR (cond u8 y9.2.1.1 false)
 ) (
 let u5:=(bk p0.2.2.2.1 [])
 let u6:=(cond u5 (aj p0.2.2.2.2.2.2.1 0) false)
 let u7:=(cond u6 y7.2.1.1 false)
 let u8:=(bk p0.2.2.1 [])
 zR (cond u7 u8 false)
 )
 ) (
 let u3:=(lT p0.1 103)
 Option.bind u3 fun y7 =>
 cond y7.2.1.1 (
 let u4:=(tU p0.2.2.1)
 Option.bind u4 fun y8 =>
 let u5:=(bk p0.2.2.2.1 [])
 let u6:=(cond u5 (aj p0.2.2.2.2.2.2.1 0) false)
 let u7:=(cond u6 (aj p0.2.2.2.2.2.2.2.1 0) false)
 zR (cond u7 y8.2.1.1 false)
 ) (
 let u4:=(bk p0.2.2.2.1 [])
 let u5:=(cond u4 (aj p0.2.2.2.2.2.2.1 0) false)
 let u6:=(cond u5 (aj p0.2.2.2.2.2.2.2.1 0) false)
 let u7:=(bk p0.2.2.1 [])
 zR (cond u6 u7 false)
 )
 )
 )
 )
 )
 )
 )
def Xu:Su:=fU [.c true [ah,.str,.str,.str,.str,.str,ah,ah]] gC fun x=>Jd x.1
theorem Kg:au Tryz.prog 123 Xu :=
 fq (ac SN (ac iY (ac xN (ac Gs (ac KX (ac ZK an)))))) Tryz.f123
def Be(t0:S8)(t1:Int):Rd Y14 Unit :=
 let u1:=(ae t0)
 cond (aG 0 u1) (
 let u2:=(aW .i64 u1 1)
 cond (aZ u2 t0) (
 cond (aj (ee t0 u2) t1) (
 cond (dZ 0 u2 t0) (
 eA ((sub t0 0 u2),t1,())
 ) none
 ) (
 eB (t0,t1,())
 )
 ) none
 ) (
 eB (t0,t1,())
 )
def J7:=Py (aq (yO Be))
def Kh(p0:S8)(p1:Int):Option BV :=
 (J7 p0 p1).bind (Sum.elim (fun y1 =>
 zR y1.1
 ) (fun _ =>
 none
 ))
def ab8:Su:=fU [.c false [.str],.c false vf] Dg fun x=>Kh x.1.1 x.2.1.1
theorem Yq:au Tryz.prog 250 ab8 :=
 fl an [] [(0,⟨[.d 0 .str,.d 1 (.int .u8)],aq (yO Be)⟩)] [] Tryz.f250 (lp [0] (sc dI sn))
def Vj(p0 p1:S8):Option BV :=
 cond (cond (bk p0 []) true (bk p1 [])) (
 zR p0
 ) (
 cond (aj (ae p1) 1) (
 cond (aZ 0 p1) (
 let u1:=(ee p1 0)
 cond (aG u1 128) (
 cond (aZ 0 p1) (
 (Kh p0 u1).bind fun y1 =>
 some ((),(y1.2.1,()))
 ) none
 ) (
 none
 )
 ) none
 ) (
 none
 )
 )
def acW:Su:=fU [.c false [.str],.c false [.str]] Dg fun x=>Vj x.1.1 x.2.1.1
theorem X2:au Tryz.prog 202 acW :=
 fq (ac Yq an) Tryz.f202
def PJ(p0:S8):Option BV :=
 (Vj p0 [32]).bind fun y1 =>
 some ((),(y1.2.1,()))
def ab6:Su:=fU [.c false [.str]] Dg fun x=>PJ x.1.1
theorem abf:au Tryz.prog 122 ab6 :=
 fq (ac X2 an) Tryz.f122
def x3(t41:List R3)(t42 t43:Int)(b1:S8×(List eS)×Unit)(b2 b6:Int×S8×S8×S8×S8×S8×Int×Int×Unit):Rd ((List R3)×Int×Int×uS×VN×VN×Unit) (Int×VN×Unit) :=
 cond (aG t43 t42) (
 cond (aZ t43 t41) (
 (FC b1 (gt d3 t41 t43).1).bind fun y1 =>
 cond (!y1.2.2.1.1) (
 eC (1,(0,[],[],[],[],[],0,0,()),())
 ) (
 cond (aj (gt d3 t41 t43).1 2) (
 let u1:=(aw .i64 t43 1)
 eA (t41,t42,u1,b1,b2,(b6.1,y1.2.1.1,b6.2.2.1,b6.2.2.2.1,b6.2.2.2.2.1,b6.2.2.2.2.2.1,b6.2.2.2.2.2.2.1,b6.2.2.2.2.2.2.2.1,()),())
 ) (
 cond (aj (gt d3 t41 t43).1 4) (
 let u1:=(E5 y1.2.1.1)
 Option.bind u1 fun y2 =>
 let u2:=(aw .i64 t43 1)
 eA (t41,t42,u2,b1,b2,(b6.1,b6.2.1,b6.2.2.1,b6.2.2.2.1,b6.2.2.2.2.1,b6.2.2.2.2.2.1,y2.2.1.1,b6.2.2.2.2.2.2.2.1,()),())
 ) (
 cond (aj (gt d3 t41 t43).1 11) (
 let u1:=(aw .i64 t43 1)
 eA (t41,t42,u1,b1,b2,(b6.1,b6.2.1,b6.2.2.1,b6.2.2.2.1,y1.2.1.1,b6.2.2.2.2.2.1,b6.2.2.2.2.2.2.1,b6.2.2.2.2.2.2.2.1,()),())
 ) (
 cond (aj (gt d3 t41 t43).1 14) (
 let u1:=(E5 y1.2.1.1)
 Option.bind u1 fun y2 =>
 let u2:=(aw .i64 t43 1)
 eA (t41,t42,u2,b1,b2,(b6.1,b6.2.1,b6.2.2.1,b6.2.2.2.1,b6.2.2.2.2.1,b6.2.2.2.2.2.1,b6.2.2.2.2.2.2.1,y2.2.1.1,()),())
 ) (
 cond (aj (gt d3 t41 t43).1 38) (
 (PJ y1.2.1.1).bind fun y2 =>
 let u1:=(aw .i64 t43 1)
 eA (t41,t42,u1,b1,b2,(b6.1,b6.2.1,b6.2.2.1,y2.2.1.1,b6.2.2.2.2.1,b6.2.2.2.2.2.1,b6.2.2.2.2.2.2.1,b6.2.2.2.2.2.2.2.1,()),())
 ) (
 cond (aj (gt d3 t41 t43).1 103) (
 let u1:=(aw .i64 t43 1)
 eA (t41,t42,u1,b1,b2,(b6.1,b6.2.1,y1.2.1.1,b6.2.2.2.1,b6.2.2.2.2.1,b6.2.2.2.2.2.1,b6.2.2.2.2.2.2.1,b6.2.2.2.2.2.2.2.1,()),())
 ) (
 let u1:=(aw .i64 t43 1)
 eA (t41,t42,u1,b1,b2,b6,())
 )
 )
 )
 )
 )
 )
 )
 ) none
 ) (
 eB (t41,t42,t43,b1,b2,b6,())
 )
def TN:=Xh (aq (BU x3))
def g63(p0:S8×(List eS)×Unit):Option (Unit×(VN×Y1×Unit)) :=
 (C4 p0).bind fun y1 =>
 cond (!y1.2.1.1) (
 c1
 ) (
 (Ud p0.1).bind fun y2 =>
 cond (!y2.2.1.1) (
 c30
 ) (
 (FC p0 3).bind fun y3 =>
 cond (!y3.2.2.1.1) (
 c1
 ) (
 (QA).bind fun y4 =>
 (QC y4.2.1.1 p0 y3.2.1).bind fun y5 =>
 let u1:=(aw .i64 1 y5.2.1.1)
 (At u1).bind fun y6 =>
 cond (a6 8 [(2,()),(11,())] y6.2.1.2.2.2.1) (
 let u2:=(eV [(2,()),(11,())] y6.2.1.2.2.2.1)
 (TN u2 (ae u2) 0 p0 (0,[],[],[],[],[],0,0,()) (u1,[],[],[],[],p0.1,0,0,())).bind (Sum.elim (fun y7 =>
 (Jd y7.2.2.2.2.2.1).bind fun y8 =>
 cond (!y8.2.1.1) (
 c1
 ) (
 some ((),(y7.2.2.2.2.2.1,(0,()),()))
 )
 ) (fun y7 =>
 some ((),(y7.2.1,(y7.1,()),()))
 ))
 ) none
 )
 )
 )
def s63:Su:=fU [.c true [.str,dO]] [(true,[ah,.str,.str,.str,.str,.str,ah,ah]),(false,[ah])] fun x=>g63 x.1
theorem Wh:au Tryz.prog 63 s63 :=
 fl (ac TR (ac GG (ac aaM (ac Tx (ac Tm (ac Xj (ac KX (ac Kg (ac abf an))))))))) [.d 3 ah,.box 2 [(false,.int .i64),(false,.str),(false,.str),(false,.str),(false,.str),(false,.str),(false,.int .i64),(false,.int .i64)]] [(0,⟨[.own 41 q3,.d 42 ah,.d 43 ah,.box 1 [(false,.str),(false,dO)],.box 2 [(false,.int .i64),(false,.str),(false,.str),(false,.str),(false,.str),(false,.str),(false,.int .i64),(false,.int .i64)],.box 6 [(false,.int .i64),(false,.str),(false,.str),(false,.str),(false,.str),(false,.str),(false,.int .i64),(false,.int .i64)]],aq (BU x3)⟩)] [] Tryz.f63 (lp [0] (sc dI sn))
def PO(p0:Int)(p1:S8):Option BV :=
 (NK p0).bind fun y1 =>
 (Ar p0).bind fun y2 =>
 cond (aj y2.2.1.1 1) (
 let u1:=(E1 (aW .i64 y1.2.1.1 (ae p1)) 0)
 (Fu [48] u1).bind fun y3 =>
 cond (jv y3.2.1.1 p1) (
 let u2:=(wz y3.2.1.1 p1)
 (qt p0 u2).bind fun y4 =>
 cond (!y4.2.1.1) (
 c6
 ) (
 zR u2
 )
 ) none
 ) (
 cond (aj y2.2.1.1 2) (
 let u1:=(E1 (aW .i64 y1.2.1.1 (ae p1)) 0)
 (Fu [32] u1).bind fun y3 =>
 cond (jv p1 y3.2.1.1) (
 let u2:=(wz p1 y3.2.1.1)
 (qt p0 u2).bind fun y4 =>
 cond (!y4.2.1.1) (
 c6
 ) (
 zR u2
 )
 ) none
 ) (
 (qt p0 p1).bind fun y3 =>
 cond (!y3.2.1.1) (
 c6
 ) (
 zR p1
 )
 )
 )
def acn:Su:=fU [.c false [ah],.c false [.str]] Dg fun x=>PO x.1.1 x.2.1.1
theorem Yk:au Tryz.prog 206 acn :=
 fq (ac Ee (ac RQ (ac GU (ac SW an)))) Tryz.f206
def Dz(p0:Int)(p1:S8)(p2:S8×(List eS)×Unit):Option ((uS×Unit)×Unit) :=
 cond (a6 24 p2.2.1 [(p0,p1,())]) (
 some (((p2.1,(eV p2.2.1 [(p0,p1,())]),()),()),())
 ) none
def acz:Su:=fU [.c false [ah],.c false [.str],.pw [(false,.str),(true,dO)]] [] fun x=>Dz x.1.1 x.2.1.1 x.2.2.1
theorem YC:au Tryz.prog 205 acz :=
 fl an [] [] [2] Tryz.f205 dI
def pU(t1:Int)(t2 t3:S8)(_:Unit)(t36:List R3)(t37 t38:Int)(b4 b8 b10:S8×(List eS)×Unit):Rd (Int×S8×S8×Unit×(List R3)×Int×Int×uS×uS×uS×Unit) Unit :=
 cond (aG t38 t37) (
 cond (aZ t38 t36) (
 (FC b4 (gt d3 t36 t38).1).bind fun y1 =>
 cond (aj (gt d3 t36 t38).1 38) (
 cond (cond (aj t1 0) (!(bk t2 [])) false) (
 (PO 38 t2).bind fun y2 =>
 (Dz 38 y2.2.1.1 b10).bind fun y3 =>
 let u1:=(aw .i64 t38 1)
 eA (t1,t2,t3,(),t36,t37,u1,b4,b8,y3.1.1,())
 ) (
 let u1:=(aw .i64 t38 1)
 eA (t1,t2,t3,(),t36,t37,u1,b4,b8,b10,())
 )
 ) (
 cond (aj (gt d3 t36 t38).1 39) (
 (H5 t1).bind fun y2 =>
 (Dz 39 y2.2.1.1 b10).bind fun y3 =>
 let u1:=(aw .i64 t38 1)
 eA (t1,t2,t3,(),t36,t37,u1,b4,b8,y3.1.1,())
 ) (
 cond (aj (gt d3 t36 t38).1 54) (
 cond (!(bk t3 [])) (
 (Dz 54 t3 b10).bind fun y2 =>
 let u1:=(aw .i64 t38 1)
 eA (t1,t2,t3,(),t36,t37,u1,b4,b8,y2.1.1,())
 ) (
 let u1:=(aw .i64 t38 1)
 eA (t1,t2,t3,(),t36,t37,u1,b4,b8,b10,())
 )
 ) (
 cond y1.2.2.1.1 (
 (Dz (gt d3 t36 t38).1 y1.2.1.1 b10).bind fun y2 =>
 let u1:=(aw .i64 t38 1)
 eA (t1,t2,t3,(),t36,t37,u1,b4,b8,y2.1.1,())
 ) (
 let u1:=(aw .i64 t38 1)
 eA (t1,t2,t3,(),t36,t37,u1,b4,b8,b10,())
 )
 )
 )
 )
 ) none
 ) (
 eB (t1,t2,t3,(),t36,t37,t38,b4,b8,b10,())
 )
def Nx:=Z6 (aq (HS pU))
def QP(p0:S8×(List eS)×Unit)(p1:Int)(p2 p3:S8):Option ZG :=
 (C4 p0).bind fun y1 =>
 cond (!y1.2.1.1) (
 Pe
 ) (
 let u1:=(Xb p0.1)
 Option.bind u1 fun y2 =>
 cond (bk y2.2.1.1 []) (
 Pe
 ) (
 (H5 p1).bind fun y3 =>
 cond (bk y3.2.1.1 []) (
 Pe
 ) (
 Option.bind u1 fun y4 =>
 (Nx p1 p2 p3 () [(2,()),(3,()),(4,()),(7,()),(11,()),(37,()),(38,()),(39,()),(41,()),(49,()),(54,()),(102,()),(103,())] (ae [(2,()),(3,()),(4,()),(7,()),(11,()),(37,()),(38,()),(39,()),(41,()),(49,()),(54,()),(102,()),(103,())]) 0 p0 ([],[],()) (y4.2.1.1,[],())).bind (Sum.elim (fun y5 =>
 (C4 y5.2.2.2.2.2.2.2.2.2.1).bind fun y6 =>
 cond (!y6.2.1.1) (
 Pe
 ) (
 some ((),(y5.2.2.2.2.2.2.2.2.2.1,(true,()),()))
 )
 ) (fun _ =>
 none
 ))
 )
 )
 )
def adM:Su:=fU [.c true [.str,dO],.c false [ah],.c false [.str],.c false [.str]] [(true,[.str,dO]),(false,[.bool])] fun x=>QP x.1 x.2.1.1 x.2.2.1.1 x.2.2.2.1.1
theorem X5:au Tryz.prog 124 adM :=
 fl (ac Nj (ac Tn (ac GG (ac Tx (ac Yk (ac YC an)))))) [] [(0,⟨[.d 1 ah,.d 2 .str,.d 3 .str,.fr 11 205 10,.own 36 q3,.d 37 ah,.d 38 ah,.box 4 [(false,.str),(false,dO)],.box 8 [(false,.str),(true,dO)],.box 10 [(false,.str),(true,dO)]],aq (HS pU)⟩)] [] Tryz.f124 (lp [0] (sc dI sn))
def Sd(p0:S8×(List eS)×Unit)(p1:Int)(p2 p3:S8):Option Yi :=
 (QP p0 p1 p2 p3).bind fun y1 =>
 (X4 y1.2.1).bind fun y2 =>
 some ((),(y2.2.1,()))
def s64:Su:=fU [.c true [.str,dO],.c false [ah],.c false [.str],.c false [.str]] W9 fun x=>Sd x.1 x.2.1.1 x.2.2.1.1 x.2.2.2.1.1
theorem VG:au Tryz.prog 64 s64 :=
 fq (ac OW (ac X5 an)) Tryz.f64
def Wd(p0:S8×Int×Int×Int×Int×(List bm)×Int×Int×(List R3)×(List R3)×(List bW)×Unit)(p1:S8×Unit):Option gu :=
 zR (bk p0.1 p1.1)
def ael:Su:=fU [.c true [.str,ah,ah,ah,ah,bu,ah,ah,q3,q3,bP],.pt [.str]] gC fun x=>Wd x.1 x.2.1
theorem Zw:au Tryz.prog 126 ael :=
 fq an Tryz.f126
def qW(t0:List iI)(f1:Y9×Unit)(t7 t8:Int):Rd ((List iI)×(Y9×Unit)×Int×Int×Unit) Y1 :=
 cond (aG t8 t7) (
 cond (aZ t8 t0) (
 (Wd (gt d94 t0 t8) f1.1).bind fun y1 =>
 cond y1.2.1.1 (
 eC (t8,())
 ) (
 eA (t0,f1,t7,(aw .i64 t8 1),())
 )
 ) none
 ) (
 eB (t0,f1,t7,t8,())
 )
def My:=nA (aq (da qW))
def Wk(p0:List iI)(c1_0:S8×Unit):Option iJ :=
 (My p0 (c1_0,()) (ae p0) 0).bind (Sum.elim (fun _ =>
 c2
 ) (fun y1 =>
 some ((),(y1,()))
 ))
def ab3:Su:=fU [.c false [jD],.fn 126 [.p [.str]]] j9 fun x=>Wk x.1.1 x.2.1.1
theorem YH:au Tryz.prog 125 ab3 :=
 fl (ac Zw an) [.d 4 ah] [(0,⟨[.d 0 jD,.fn 1 126 [.p [.str]],.d 7 ah,.d 8 ah],aq (da qW)⟩)] [] Tryz.f125 (lp [0] (sc dI sn))
def W4(p0:(List iI)×Unit)(p1:S8):Option iJ :=
 (Wk p0.1 (p1,())).bind fun y1 =>
 some ((),(y1.2.1,()))
def s65:Su:=fU [.c true [jD],.c false [.str]] j9 fun x=>W4 x.1 x.2.1.1
theorem KV:au Tryz.prog 65 s65 :=
 fq (ac YH an) Tryz.f65
def g66(p0:List bW)(p1 p2:S8):Option JY :=
 (L8 p0 p1 p2).bind fun y1 =>
 cond (aG y1.2.1.1 0) (
 c7
 ) (
 cond (aZ y1.2.1.1 p0) (
 (EK (gt d100 p0 y1.2.1.1).2.2.1).bind fun y2 =>
 some ((),(y2.2.1,(true,()),()))
 ) none
 )
def s66:Su:=fU [.c false [bP],.c false [.str],.c false [.str]] OC fun x=>g66 x.1.1 x.2.1.1 x.2.2.1.1
theorem UB:au Tryz.prog 66 s66 :=
 fq (ac R7 (ac RT an)) Tryz.f66
def sB(p0:S8×Int×Int×Int×Int×(List bm)×Int×Int×(List R3)×(List R3)×(List bW)×Unit)(p1:Int):Option DT :=
 (ED p0).bind fun y1 =>
 cond (!y1.2.1.1) (
 c8
 ) (
 (Jy p1).bind fun y2 =>
 cond (!y2.2.1.1) (
 c8
 ) (
 (Lt p0 p1).bind fun y3 =>
 some ((),(y3.2.1,(0,()),()))
 )
 )
def aas:Su:=fU [.c true [.str,ah,ah,ah,ah,bu,ah,ah,q3,q3,bP],.c false [ah]] Nt fun x=>sB x.1 x.2.1.1
theorem wJ:au Tryz.prog 209 aas :=
 fq (ac q9 (ac Hc (ac TT an))) Tryz.f209
def Wg(p0:S8×Int×Int×Unit)(p1:S8×Unit):Option gu :=
 zR (bk p0.1 p1.1)
def abJ:Su:=fU [.c true [.str,ah,ah],.pt [.str]] gC fun x=>Wg x.1 x.2.1
theorem Zr:au Tryz.prog 257 abJ :=
 fq an Tryz.f257
def ky(t0:List bm)(f1:Y9×Unit)(t7 t8:Int):Rd Y57 Y1 :=
 cond (aG t8 t7) (
 cond (aZ t8 t0) (
 (Wg (gt d192 t0 t8) f1.1).bind fun y1 =>
 cond y1.2.1.1 (
 eC (t8,())
 ) (
 eA (t0,f1,t7,(aw .i64 t8 1),())
 )
 ) none
 ) (
 eB (t0,f1,t7,t8,())
 )
def DO:=nA (aq (da ky))
def Fs(p0:List bm)(c1_0:S8×Unit):Option iJ :=
 (DO p0 (c1_0,()) (ae p0) 0).bind (Sum.elim (fun _ =>
 c2
 ) (fun y1 =>
 some ((),(y1,()))
 ))
def Vs:Su:=fU [.c false [bu],.fn 257 [.p [.str]]] j9 fun x=>Fs x.1.1 x.2.1.1
theorem Qw:au Tryz.prog 256 Vs :=
 fl (ac Zr an) [.d 4 ah] [(0,⟨[.d 0 bu,.fn 1 257 [.p [.str]],.d 7 ah,.d 8 ah],aq (da ky)⟩)] [] Tryz.f256 (lp [0] (sc dI sn))
def Fm(p0:List bm)(p1:S8):Option iJ :=
 (Fs p0 (p1,())).bind fun y1 =>
 some ((),(y1.2.1,()))
def aaz:Su:=fU [.c false [bu],.c false [.str]] j9 fun x=>Fm x.1.1 x.2.1.1
theorem Ce:au Tryz.prog 210 aaz :=
 fq (ac Qw an) Tryz.f210
def Po(p0:List bm)(p1:Int):Option iJ :=
 (LD p0 p1).bind fun y1 =>
 (Nb y1.2.1.1).bind fun y2 =>
 some ((),(y2.2.1,()))
def acV:Su:=fU [.c false [bu],.c false [ah]] j9 fun x=>Po x.1.1 x.2.1.1
theorem ZY:au Tryz.prog 264 acV :=
 fq (ac RL (ac T2 an)) Tryz.f264
def HR(p0:S8×Int×Int×Int×Int×(List bm)×Int×Int×(List R3)×(List R3)×(List bW)×Unit)(p1:Int):Option iJ :=
 (ED p0).bind fun y1 =>
 cond (!y1.2.1.1) (
 c5
 ) (
 (Jy p1).bind fun y2 =>
 cond (!y2.2.1.1) (
 c5
 ) (
 (Po p0.2.2.2.2.2.1 p1).bind fun y3 =>
 zR (aW .i64 (aW .i64 p0.2.1 p0.2.2.1) y3.2.1.1)
 )
 )
def ZL:Su:=fU [.c true [.str,ah,ah,ah,ah,bu,ah,ah,q3,q3,bP],.c false [ah]] j9 fun x=>HR x.1 x.2.1.1
theorem Dh:au Tryz.prog 216 ZL :=
 fq (ac q9 (ac Hc (ac ZY an))) Tryz.f216
def pO(t0:List R3)(t1:Int)(t5:List R3)(t11 t12:Int):Rd ((List R3)×Int×(List R3)×Int×Int×Unit) Unit :=
 cond (aG t12 t11) (
 cond (bM t1 t12) (
 let u1:=(aW .i64 t12 t1)
 cond (aZ u1 t0) (
 cond (aZ t12 t5) (
 let u2:=(aw .i64 t12 1)
 eA (t0,t1,(dw t5 t12 (gt d3 t0 u1)),t11,u2,())
 ) none
 ) none
 ) (
 let u1:=(aw .i64 t12 1)
 eA (t0,t1,t5,t11,u1,())
 )
 ) (
 eB (t0,t1,t5,t11,t12,())
 )
def KG:=JU (aq (nD pO))
def LF(p0:List R3)(p1:Int):Option Y25 :=
 let u1:=(ae p0)
 cond (O3 8 u1) (
 (KG p0 p1 (um d3 u1) u1 0).bind (Sum.elim (fun y1 =>
 zR y1.2.2.1
 ) (fun _ =>
 none
 ))
 ) none
def ac5:Su:=fU [.c false [q3],.c false [ah]] [(false,[q3])] fun x=>LF x.1.1 x.2.1.1
theorem Zo:au Tryz.prog 295 ac5 :=
 fl an [] [(0,⟨[.d 0 q3,.d 1 ah,.own 5 q3,.d 11 ah,.d 12 ah],aq (nD pO)⟩)] [] Tryz.f295 (lp [0] (sc dI sn))
def Ja(p0:Int×Int×(List R3)×(List R3)×Unit)(p1:Int):Option Uz :=
 (Ba p0).bind fun y1 =>
 (Bo p0).bind fun y2 =>
 cond (!y2.2.1.1) (
 some ((),(y1.2.1,()))
 ) (
 (Jy p1).bind fun y3 =>
 cond (!y3.2.1.1) (
 some ((),(y1.2.1,()))
 ) (
 cond (!(aj p0.1 0)) (
 let u1:=(jU .i64 p1 p0.1)
 cond (bM u1 p0.2.1) (
 some ((),(y1.2.1,()))
 ) (
 cond (!(aj p0.1 0)) (
 cond (!(aj p0.1 0)) (
 let u2:=(aW .i64 u1 p0.2.1)
 (LF p0.2.2.1 u2).bind fun y4 =>
 (LF p0.2.2.2.1 u2).bind fun y5 =>
 some ((),((p0.1,u1,y4.2.1.1,y5.2.1.1,()),()))
 ) none
 ) none
 )
 ) none
 )
 )
def aaG:Su:=fU [.c true [ah,ah,q3,q3],.c false [ah]] VP fun x=>Ja x.1 x.2.1.1
theorem Gy:au Tryz.prog 261 aaG :=
 fq (ac Gx (ac q9 (ac zF (ac Zo an)))) Tryz.f261
def pG(t3:Int)(t6:List R3)(t7 t8:Int):Rd (Int×(List R3)×Int×Int×Unit) Unit :=
 cond (aG t8 t7) (
 cond (aZ t8 t6) (
 (yW t3 (gt d3 t6 t8).1).bind fun y1 =>
 eA (y1.2.1.1,t6,t7,(aw .i64 t8 1),())
 ) none
 ) (
 eB (t3,t6,t7,t8,())
 )
def NG:=nA (aq (da pG))
def Me(p0:List R3):Option iJ :=
 (NG 0 p0 (ae p0) 0).bind (Sum.elim (fun y1 =>
 zR y1.1
 ) (fun _ =>
 none
 ))
def acO:Su:=fU [.c false [q3]] j9 fun x=>Me x.1.1
theorem R8:au Tryz.prog 292 acO :=
 fl (ac zk an) [] [(0,⟨[.d 3 ah,.d 6 q3,.d 7 ah,.d 8 ah],aq (da pG)⟩)] [] Tryz.f292 (lp [0] (sc dI sn))
def KY(p0:Int×Int×(List R3)×(List R3)×Unit)(p1:Int):Option iJ :=
 (Bo p0).bind fun y1 =>
 cond (!y1.2.1.1) (
 c5
 ) (
 (Jy p1).bind fun y2 =>
 cond (!y2.2.1.1) (
 c5
 ) (
 (Ja p0 p1).bind fun y3 =>
 (Me y3.2.1.2.2.1).bind fun y4 =>
 some ((),(y4.2.1,()))
 )
 )
def abp:Su:=fU [.c true [ah,ah,q3,q3],.c false [ah]] j9 fun x=>KY x.1 x.2.1.1
theorem YP:au Tryz.prog 258 abp :=
 fq (ac q9 (ac zF (ac Gy (ac R8 an)))) Tryz.f258
def Na(p0:Int×Int×(List R3)×(List R3)×Unit)(p1:Int):Option iJ :=
 (Bo p0).bind fun y1 =>
 cond (!y1.2.1.1) (
 c5
 ) (
 (Jy p1).bind fun y2 =>
 cond (!y2.2.1.1) (
 c5
 ) (
 (Ja p0 p1).bind fun y3 =>
 (Me y3.2.1.2.2.2.1).bind fun y4 =>
 some ((),(y4.2.1,()))
 )
 )
def acg:Su:=fU [.c true [ah,ah,q3,q3],.c false [ah]] j9 fun x=>Na x.1 x.2.1.1
theorem Yx:au Tryz.prog 259 acg :=
 fq (ac q9 (ac zF (ac Gy (ac R8 an)))) Tryz.f259
def Kc(p0:S8×Int×Int×Int×Int×(List bm)×Int×Int×(List R3)×(List R3)×(List bW)×Unit)(p1 p2:Int):Option iJ :=
 (HR p0 p2).bind fun y1 =>
 cond (aG y1.2.1.1 p1) (
 zR 7
 ) (
 (KY (p0.2.2.2.2.2.2.1,p0.2.2.2.2.2.2.2.1,p0.2.2.2.2.2.2.2.2.1,p0.2.2.2.2.2.2.2.2.2.1,()) p2).bind fun y2 =>
 (yW y2.2.1.1 1).bind fun y3 =>
 cond (aG p0.2.2.2.1 y3.2.1.1) (
 c22
 ) (
 (Na (p0.2.2.2.2.2.2.1,p0.2.2.2.2.2.2.2.1,p0.2.2.2.2.2.2.2.2.1,p0.2.2.2.2.2.2.2.2.2.1,()) p2).bind fun y4 =>
 (yW y4.2.1.1 p1).bind fun y5 =>
 cond (aG p0.2.2.2.2.1 y5.2.1.1) (
 zR 9
 ) (
 c5
 )
 )
 )
def acZ:Su:=fU [.c true [.str,ah,ah,ah,ah,bu,ah,ah,q3,q3,bP],.c false [ah],.c false [ah]] j9 fun x=>Kc x.1 x.2.1.1 x.2.2.1.1
theorem Tb:au Tryz.prog 211 acZ :=
 fq (ac zk (ac Dh (ac YP (ac Yx an)))) Tryz.f211
def LR(p0:S8×Int×Int×Unit)(p1:S8×Unit):Option gu :=
 zR (bk p0.1 p1.1)
def Z3:Su:=fU [.c true [.str,ah,ah],.pt [.str]] gC fun x=>LR x.1 x.2.1
theorem T3:au Tryz.prog 263 Z3 :=
 fq an Tryz.f263
def kY(t0:List bm)(f1:Y9×Unit)(t7 t8:Int):Rd Y57 Y1 :=
 cond (aG t8 t7) (
 cond (aZ t8 t0) (
 (LR (gt d192 t0 t8) f1.1).bind fun y1 =>
 cond y1.2.1.1 (
 eC (t8,())
 ) (
 eA (t0,f1,t7,(aw .i64 t8 1),())
 )
 ) none
 ) (
 eB (t0,f1,t7,t8,())
 )
def C6:=nA (aq (da kY))
def AT(p0:List bm)(c1_0:S8×Unit):Option iJ :=
 (C6 p0 (c1_0,()) (ae p0) 0).bind (Sum.elim (fun _ =>
 c2
 ) (fun y1 =>
 some ((),(y1,()))
 ))
def NT:Su:=fU [.c false [bu],.fn 263 [.p [.str]]] j9 fun x=>AT x.1.1 x.2.1.1
theorem Ps:au Tryz.prog 256 NT :=
 fl (ac T3 an) [.d 4 ah] [(0,⟨[.d 0 bu,.fn 1 263 [.p [.str]],.d 7 ah,.d 8 ah],aq (da kY)⟩)] [] Tryz.f256 (lp [0] (sc dI sn))
def jG(t0:List bm)(f1:Y9×Unit)(t5 t6:Int):Rd Y57 Unit :=
 cond (aG t6 (ae t0)) (
 cond (aZ t6 t0) (
 let u1:=(gt d192 t0 t6)
 (LR u1 f1.1).bind fun y1 =>
 cond (!y1.2.1.1) (
 cond (aZ t5 t0) (
 let u2:=(gt d192 t0 t5)
 let u3:=(dw t0 t5 (u1.1,u2.2.1,u2.2.2.1,()))
 let u4:=(gt d192 u3 t5)
 let u5:=(dw u3 t5 (u4.1,u1.2.1,u4.2.2.1,()))
 let u6:=(gt d192 u5 t5)
 let u7:=(aw .i64 t6 1)
 eA ((dw u5 t5 (u6.1,u6.2.1,u1.2.2.1,())),f1,(aw .i64 t5 1),u7,())
 ) none
 ) (
 let u2:=(aw .i64 t6 1)
 eA (t0,f1,t5,u2,())
 )
 ) none
 ) (
 eB (t0,f1,t5,t6,())
 )
def rr:=nA (aq (da jG))
def yg(p0:List bm)(c1_0:S8×Unit):Option Vw :=
 (AT p0 c1_0).bind fun y1 =>
 cond (aj y1.2.1.1 (-1)) (
 zR p0
 ) (
 (rr p0 (c1_0,()) y1.2.1.1 (aw .i64 y1.2.1.1 1)).bind (Sum.elim (fun y2 =>
 cond (dZ y2.2.2.1 (ae y2.1) y2.1) (
 let u1:=(lY d192 y2.1 y2.2.2.1)
 cond (dZ 0 y2.2.2.1 u1) (
 zR (Pv u1 y2.2.2.1)
 ) none
 ) none
 ) (fun _ =>
 none
 ))
 )
def BG:Su:=fU [.mv bu,.fn 263 [.p [.str]]] PU fun x=>yg x.1 x.2.1.1
def mE:List SE:=[.own 0 bu,.fn 1 263 [.p [.str]],.d 5 ah,.d 6 ah]
def HJ:List SE:=[]
def Qg:Nat->Option (Lo HJ)
 | 0=>some ⟨mE,da rr⟩
 | _=>none
def Gg:List Y0:=[(263,iS Z3),(256,iS NT)]
def Q4:Nat->Option (St->Tr St)
 | 11=>some (ud 36 37 38 0 5 lI)
 | _=>none
def pZ:En:=uZ 42 tt Gg HJ Qg [] (Q4)
theorem Lf(x:ej mE):(lZ pZ 0 mE (jn 0 (ak Tryz.f262)) x).run=da jG x:=by kernel_rfl
theorem U2(x:PT BG.ps):(Ei pZ (ak Tryz.f262) Tryz.f262.results.toList BG.ps BG.rs true x).run=yg x.1 x.2.1.1:=by kernel_rfl
theorem Ed:cZ Tryz.prog pZ:=bZ (l:=Gg) ⟨T3,Ps,trivial⟩
theorem IY:cM Tryz.prog pZ (a8 11 (ak Tryz.f262)) (ud 36 37 38 0 5 lI) :=
 Am (E:=pZ) (oU hT) (rid:=11) (ta:=36) (tb:=37) (tc:=38) (t0:=0) (tI:=5) (ty:=89) (o1:=nC (a8 11 (ak Tryz.f262)) 0) (o2:=nC (a8 11 (ak Tryz.f262)) 1) (o3:=nC (a8 11 (ak Tryz.f262)) 2) (o4:=nC (a8 11 (ak Tryz.f262)) 3) (c:=Mw (nC (a8 11 (ak Tryz.f262)) 3)) (te:=⟨true,lI,0,32,[(0,9),(1,3),(2,3)]⟩)
  (by kernel_rfl) (by kernel_rfl) (by kernel_rfl) (by kernel_rfl) (by kernel_rfl) (by kernel_rfl) (by kernel_rfl) (by kernel_rfl) (by kernel_rfl) (by kernel_rfl) (by kernel_rfl) (by kernel_rfl) (by kernel_rfl) (by kernel_rfl) (by kernel_rfl) (by kernel_rfl) (by kernel_rfl) (by kernel_rfl) (by kernel_rfl) (by kernel_rfl) (by kernel_rfl)
theorem Kj:iQ Tryz.prog pZ 0 (.loop (jn 0 (ak Tryz.f262))) ⟨mE,da rr⟩ :=
 An (oU hT) Ed gK (step:=fun(x:ej mE)=>jG x.1 x.2.1 x.2.2.1 x.2.2.2.1) Lf (cC [] (by kernel_rfl) trivial [] (by kernel_rfl) trivial)
theorem Qv:au Tryz.prog 262 BG :=
 nu (E:=pZ) (oU hT) Ed gK (fn:=Tryz.f262) (c:=(ak Tryz.f262)) (by kernel_rfl) (by kernel_rfl) (by kernel_rfl) rfl (cC [(0,.loop (jn 0 (ak Tryz.f262)))] (by kernel_rfl) ⟨Pn rfl Kj,trivial⟩ [(11,a8 11 (ak Tryz.f262))] (by kernel_rfl) ⟨pL rfl IY,trivial⟩) fun x y h=>⟨y.1,fun _=>rfl,(U2 x).trans h⟩
def BN(p0:List bm)(p1:S8):Option Vw :=
 (Bw p0).bind fun y1 =>
 (yg y1.2.1.1 (p1,())).bind fun y2 =>
 some ((),(y2.2.1,()))
def YJ:Su:=fU [.c false [bu],.c false [.str]] PU fun x=>BN x.1.1 x.2.1.1
theorem zx:au Tryz.prog 215 YJ :=
 fq (ac Ob (ac Qv an)) Tryz.f215
section
open Go.RowKit Go.Lib
theorem U4(a:Option Addr)(n c i:Nat)(a2:Option Addr)(m c2:Nat)(w:World)(hi:i<=n)(hc:n<=c)(hm:(m:Int)=0) :
 Calls Tryz.prog 260 #[.slice a n c,.int .i64 i,.slice a2 m c2] w fun e w'=>e= .returned (.slice a n c)/\w'=w:=by
 go_enter Tryz.func260,Tryz.ntmps260
 go_wp2
 all_goals (go_ret; exact⟨rfl,rfl⟩)
theorem UJ(a:Option Addr)(n c:Nat)(a2:Option Addr)(m c2:Nat)(w w':World)(v':Value)(hc:n<=c)(hm:¬ ((m:Int)=0))
 (hr:(Builtin.append_ #[89,89] 89 #[.slice a n c,.slice a2 m c2]).run Tryz.prog w= .ok v' w') :
 Calls Tryz.prog 260 #[.slice a n c,.int .i64 n,.slice a2 m c2] w fun e w1=>e= .returned v'/\w1=w':=by
 go_enter Tryz.func260,Tryz.ntmps260
 go_wp2_with (at_builtin; refine Lib.wpList_append_run _ rfl _ _ _ _ rfl _ _ rfl rfl _ _ hr ?_)
 all_goals (go_ret; exact⟨rfl,rfl⟩)
theorem VL(b o n c i:Nat)(a2:Option Addr)(m c2:Nat)(w:World)(hi:i<n)(hroom:n+m<=c)(hb:n+m<=140737488355328)(hm:0<m)(W1 W2:World)
 (hov:∀ lb cb,(callFunc 293 #[.slice a2 m c2,.slice (some ⟨b,o+(i+m) * 3,none⟩) lb cb]).run Tryz.prog w= .ok (.value (.bool false)) w)
 (hcp1:∀ ty dc sc,(Builtin.copy_ #[89,89] ty #[.slice (some ⟨b,o+(i+m) * 3,none⟩) (n+m-(i+m)) dc,.slice (some ⟨b,o+i * 3,none⟩) (n+m-i) sc]).run Tryz.prog w.drew= .ok (goInt (n-i:Nat)) W1)
 (hcp2:∀ ty dc,(Builtin.copy_ #[89,89] ty #[.slice (some ⟨b,o+i * 3,none⟩) (n+m-i) dc,.slice a2 m c2]).run Tryz.prog W1= .ok (goInt m) W2) :
 Calls Tryz.prog 260 #[.slice (some ⟨b,o,none⟩) n c,.int .i64 i,.slice a2 m c2] w fun e w1=>e= .returned (.slice (some ⟨b,o,none⟩) (n+m) c)/\w1=W2:=by
 have hz1:¬ ((m:Int)=0):=by omega
 have hz2:¬ ((i:Int)=(n:Int)):=by omega
 have hw1:IntKind.i64.wrap ((i:Int)+(m:Int))=(i:Int)+(m:Int):=by rw[IntKind.wrap_i64]; omega
 have hb1:(0:Int)<=(i:Int)+(m:Int):=by omega
 have hin:i<=n:=by omega
 have htn:((i:Int)+(m:Int)).toNat=i+m:=by omega
 have hb2:¬ (c=i+m):=by omega
 have hb3:(i:Int)<=(n:Int)+(m:Int):=by omega
 have hb4:¬ (c=i):=by omega
 go_enter Tryz.func260,Tryz.ntmps260
 go_wp2_with (simp only[hov])
 go_region_law (refine step_copy_runI rfl _ _ 89 89 rfl _ _ (by simp[Act.eval,Act.put]) (by simp[Act.eval,Act.put]) (hcp1 _ _ _) ?_)
 go_wp2_with (at_builtin; refine wpList_copy_runI _ rfl _ _ 89 89 rfl _ _ rfl rfl (hcp2 _ _) ?_)
 go_ret
 exact⟨rfl,rfl⟩
theorem UP(b o n c i:Nat)(a2:Option Addr)(m c2:Nat)(w:World)(hi:i<n)(hnc:n<=c)(hroom:c<n+m)(hc63:n+m<=140737488355328)(hm:0<m)(W1 W2 W3:World)(N G:Nat)(hG:n+m<=G)(hG63:G<=9223372036854775807)
 (hrz:∀ ty,(Builtin.append_ #[89,3] ty #[.slice (some ⟨b,o,none⟩) i c,.int .i64 ((n:Int)+(m:Int)-(i:Int))]).run Tryz.prog w= .ok (.slice (some ⟨N,0,none⟩) (n+m) G) W1)
 (hcp1:∀ ty dc,(Builtin.copy_ #[89,89] ty #[.slice (some ⟨N,i * 3,none⟩) (n+m-i) dc,.slice a2 m c2]).run Tryz.prog W1= .ok (goInt m) W2)
 (hcp2:∀ ty dc sc,(Builtin.copy_ #[89,89] ty #[.slice (some ⟨N,(i+m) * 3,none⟩) (n+m-(i+m)) dc,.slice (some ⟨b,o+i * 3,none⟩) (n-i) sc]).run Tryz.prog W2.drew= .ok (goInt (n-i:Nat)) W3) :
 Calls Tryz.prog 260 #[.slice (some ⟨b,o,none⟩) n c,.int .i64 i,.slice a2 m c2] w fun e w1=>e= .returned (.slice (some ⟨N,0,none⟩) (n+m) G)/\w1=W3:=by
 have hz1:¬ ((m:Int)=0):=by omega
 have hz2:¬ ((i:Int)=(n:Int)):=by omega
 have hz3:(c:Int)<(n:Int)+(m:Int):=by omega
 have hw1:IntKind.i64.wrap ((i:Int)+(m:Int))=(i:Int)+(m:Int):=by rw[IntKind.wrap_i64]; omega
 have hb1:(0:Int)<=(i:Int)+(m:Int):=by omega
 have hin:i<=n:=by omega
 have htn:((i:Int)+(m:Int)).toNat=i+m:=by omega
 have hb3:(i:Int)<=(n:Int):=by omega
 have hGi:¬ (G=i):=by omega
 have hGim:¬ (G=i+m):=by omega
 have hci:¬ (c=i):=by omega
 go_enter Tryz.func260,Tryz.ntmps260
 go_wp2_with (first
  | (at_builtin; refine Lib.wpList_append_run _ rfl _ _ _ _ rfl _ _ rfl rfl _ _ (hrz _) ?_)
  | (at_builtin; refine wpList_copy_runI _ rfl _ _ 89 89 rfl _ _ rfl rfl (hcp1 _ _) ?_))
 go_region_law (refine step_copy_runI rfl _ _ 89 89 rfl (.slice (some ⟨N,(i+m) * 3,none⟩) (n+m-(i+m)) (G-(i+m))) (.slice (some ⟨b,o+i * 3,none⟩) (n-i) (c-i)) (by simp[Act.eval,Act.put]) (by simp[Act.eval,Act.put]) (hcp2 _ _ _) ?_)
 go_wp2
 go_ret
 exact⟨rfl,rfl⟩
theorem acq:G4 Tryz.prog 260 89 293 3:=⟨U4,UJ,VL,UP⟩
end
def Rn(p0:List bm)(p1:Int)(p2:List bm):Option (Unit×Y7×Unit):=Kb 32 p0 p1 p2
def adl:Su:=fU [.mv bu,.c false [ah],.mv bu] PU fun x=>Rn x.1 x.2.1.1 x.2.2.1
theorem XV:au Tryz.prog 260 adl :=
 Ir (f:=260) (T:=89) (ov:=293) (e:=192) (te:=⟨true,[.str,ah,ah],0,32,[(0,9),(1,3),(2,3)]⟩) (fn:=Tryz.f260) (fo:=Tryz.f293) (c:=ak Tryz.f260) (tR:=4) (by kernel_rfl) (by kernel_rfl) (by kernel_rfl) (by kernel_rfl) (by kernel_rfl) (hT 192 _ (by kernel_rfl)) (by kernel_rfl) (by kernel_rfl) (by kernel_rfl)
  (by kernel_rfl) (by kernel_rfl) (by kernel_rfl) (by kernel_rfl) (by kernel_rfl) acq rfl
def qK(t6:List bm)(t7:Int)(b3:S8×Int×Int×Unit):Rd ((List bm)×Int×WH×Unit) Unit :=
 cond (aG t7 (ae t6)) (
 cond (aZ t7 t6) (
 cond (yK (gt d192 t6 t7).1 b3.1) (
 eA (t6,(aw .i64 t7 1),b3,())
 ) (
 eB (t6,t7,b3,())
 )
 ) none
 ) (
 eB (t6,t7,b3,())
 )
def Lj:=vm (aq (iT qK))
def M9(p0:List bm)(p1:S8×Int×Int×Unit):Option (Unit×(Y7×Y2×Unit)) :=
 (H2 p0).bind fun y1 =>
 cond (!y1.2.1.1) (
 c15
 ) (
 (BN p0 p1.1).bind fun y2 =>
 (Lj y2.2.1.1 0 p1).bind (Sum.elim (fun y3 =>
 (Rn y3.1 y3.2.1 [y3.2.2.1]).bind fun y4 =>
 (H2 y4.2.1.1).bind fun y5 =>
 cond (!y5.2.1.1) (
 c15
 ) (
 some ((),(y4.2.1,(true,()),()))
 )
 ) (fun _ =>
 none
 ))
 )
def aa7:Su:=fU [.c false [bu],.c true [.str,ah,ah]] [(false,[bu]),(false,[.bool])] fun x=>M9 x.1.1 x.2.1
theorem GY:au Tryz.prog 212 aa7 :=
 fl (ac Tv (ac zx (ac XV an))) [] [(0,⟨[.own 6 bu,.d 7 ah,.box 3 [(false,.str),(false,.int .i64),(false,.int .i64)]],aq (iT qK)⟩)] [] Tryz.f212 (lp [0] (sc dI sn))
def A0(p0:Int×Int×(List R3)×(List R3)×Unit)(p1 p2:Int):Option Uz :=
 (Bo p0).bind fun y1 =>
 cond (!y1.2.1.1) (
 let u1:=(Ba p0)
 Option.bind u1 fun y2 =>
 some ((),(y2.2.1,()))
 ) (
 (Jy p1).bind fun y2 =>
 cond (!y2.2.1.1) (
 let u1:=(Ba p0)
 Option.bind u1 fun y3 =>
 some ((),(y3.2.1,()))
 ) (
 (Le p2).bind fun y3 =>
 cond (!y3.2.1.1) (
 let u1:=(Ba p0)
 Option.bind u1 fun y4 =>
 some ((),(y4.2.1,()))
 ) (
 (Ja p0 p1).bind fun y4 =>
 cond (aZ 0 y4.2.1.2.2.1) (
 (yW (gt d3 y4.2.1.2.2.1 0).1 1).bind fun y5 =>
 cond (aZ 0 y4.2.1.2.2.2.1) (
 (yW (gt d3 y4.2.1.2.2.2.1 0).1 p2).bind fun y6 =>
 cond (aZ 0 y4.2.1.2.2.1) (
 cond (aZ 0 y4.2.1.2.2.2.1) (
 some ((),((y4.2.1.1,y4.2.1.2.1,(dw y4.2.1.2.2.1 0 y5.2.1),(dw y4.2.1.2.2.2.1 0 y6.2.1),()),()))
 ) none
 ) none
 ) none
 ) none
 )
 )
 )
def QW:Su:=fU [.c true [ah,ah,q3,q3],.c false [ah],.c false [ah]] VP fun x=>A0 x.1 x.2.1.1 x.2.2.1.1
def Ko:List SE:=[]
def TL:Nat->Option (Lo Ko)
 | _=>none
def GN:List Y0:=[(198,iS Ys),(192,iS Yg),(57,iS s57),(194,iS Xw),(195,iS Z4),(261,iS aaG)]
def GS:En:=uZ 44 tt GN Ko TL [] fun _=>none
def aaW:Nat->Option (St->Tr St)
 | 4=>some (l8 GS (opsOf (a8 4 (ak Tryz.f213))) 16 [2,3])
 | _=>none
def QD:En:=uZ 44 tt GN Ko TL [] (aaW)
theorem t213(x:PT QW.ps):(Ei QD (ak Tryz.f213) Tryz.f213.results.toList QW.ps QW.rs true x).run=A0 x.1 x.2.1.1 x.2.2.1.1:=by kernel_rfl
theorem V4:cZ Tryz.prog QD:=bZ (l:=GN) ⟨Gx,Ga,q9,zF,zk,Gy,trivial⟩
theorem ID:cZ Tryz.prog GS:=bZ (l:=GN) ⟨Gx,Ga,q9,zF,zk,Gy,trivial⟩
theorem Vt:cM Tryz.prog QD (a8 4 (ak Tryz.f213)) (l8 GS (opsOf (a8 4 (ak Tryz.f213))) 16 [2,3]) :=
 dP rfl rfl (vG (E:=GS) (oU hT) ID gK (c:=(a8 4 (ak Tryz.f213))) (id:=4) (by kernel_rfl))
theorem SZ:au Tryz.prog 213 QW :=
 nu (E:=QD) (oU hT) V4 gK (fn:=Tryz.f213) (c:=(ak Tryz.f213)) (by kernel_rfl) (by kernel_rfl) (by kernel_rfl) rfl (cC [] (by kernel_rfl) trivial [(4,a8 4 (ak Tryz.f213))] (by kernel_rfl) ⟨pL rfl Vt,trivial⟩) fun x y h=>⟨y.1,fun _=>rfl,(t213 x).trans h⟩
def K5(p0:S8×Int×Int×Int×Int×(List bm)×Int×Int×(List R3)×(List R3)×(List bW)×Unit)(p1:S8)(p2 p3 p4:Int):Option DT :=
 (sB p0 p4).bind fun y1 =>
 cond (!(aj y1.2.2.1.1 0)) (
 c8
 ) (
 (D8 p1).bind fun y2 =>
 cond (!y2.2.1.1) (
 c8
 ) (
 (gQ p2 1 9007199254740992).bind fun y3 =>
 cond (!y3.2.1.1) (
 c12
 ) (
 (gQ p3 1 9999).bind fun y4 =>
 let u1:=(aw .i64 p4 p3)
 cond (cond (!y4.2.1.1) true (aG 1000000000 u1)) (
 c12
 ) (
 (Fm y1.2.1.2.2.2.2.2.1 p1).bind fun y5 =>
 cond (bM 0 y5.2.1.1) (
 c31
 ) (
 cond (aj (ae y1.2.1.2.2.2.2.2.1) 4) (
 c32
 ) (
 (Kc y1.2.1 p2 p4).bind fun y6 =>
 cond (!(aj y6.2.1.1 0)) (
 some ((),(([],0,0,0,0,[],0,0,[],[],[],()),y6.2.1,()))
 ) (
 (M9 y1.2.1.2.2.2.2.2.1 (p1,p2,u1,())).bind fun y7 =>
 (A0 (y1.2.1.2.2.2.2.2.2.1,y1.2.1.2.2.2.2.2.2.2.1,y1.2.1.2.2.2.2.2.2.2.2.1,y1.2.1.2.2.2.2.2.2.2.2.2.1,()) p4 p2).bind fun y8 =>
 some ((),((y1.2.1.1,y1.2.1.2.1,y1.2.1.2.2.1,y1.2.1.2.2.2.1,y1.2.1.2.2.2.2.1,y7.2.1.1,y8.2.1.1,y8.2.1.2.1,y8.2.1.2.2.1,y8.2.1.2.2.2.1,y1.2.1.2.2.2.2.2.2.2.2.2.2.1,()),(0,()),()))
 )
 )
 )
 )
 )
 )
 )
def Xm:Su:=fU [.c true [.str,ah,ah,ah,ah,bu,ah,ah,q3,q3,bP],.c false [.str],.c false [ah],.c false [ah],.c false [ah]] Nt fun x=>K5 x.1 x.2.1.1 x.2.2.1.1 x.2.2.2.1.1 x.2.2.2.2.1.1
theorem SU:au Tryz.prog 129 Xm :=
 fq (ac iY (ac xN (ac wJ (ac Ce (ac Tb (ac GY (ac SZ an))))))) Tryz.f129
def FT(p0:S8×Int×Int×Int×Int×(List bm)×Int×Int×(List R3)×(List R3)×(List bW)×Unit)(p1:S8)(p2 p3:Int):Option (Unit×(yL×Y1×Y1×Unit)) :=
 (sB p0 p3).bind fun y1 =>
 (Fm y1.2.1.2.2.2.2.2.1 p1).bind fun y2 =>
 cond (!(aj y1.2.2.1.1 0)) (
 c39
 ) (
 (D8 p1).bind fun y3 =>
 cond (!y3.2.1.1) (
 c39
 ) (
 (gQ p2 1 9007199254740992).bind fun y4 =>
 cond (!y4.2.1.1) (
 some ((),(([],0,0,0,0,[],0,0,[],[],[],()),(0,()),(4,()),()))
 ) (
 cond (aG y2.2.1.1 0) (
 some ((),(([],0,0,0,0,[],0,0,[],[],[],()),(0,()),(5,()),()))
 ) (
 some ((),(y1.2.1,y2.2.1,(0,()),()))
 )
 )
 )
 )
def acb:Su:=fU [.c true [.str,ah,ah,ah,ah,bu,ah,ah,q3,q3,bP],.c false [.str],.c false [ah],.c false [ah]] [(true,[.str,ah,ah,ah,ah,bu,ah,ah,q3,q3,bP]),(false,[ah]),(false,[ah])] fun x=>FT x.1 x.2.1.1 x.2.2.1.1 x.2.2.2.1.1
theorem NZ:au Tryz.prog 214 acb :=
 fq (ac iY (ac xN (ac wJ (ac Ce an)))) Tryz.f214
def LB(p0:S8×Int×Int×Int×Int×(List bm)×Int×Int×(List R3)×(List R3)×(List bW)×Unit)(p1:S8)(p2 p3:Int):Option DT :=
 (FT p0 p1 p2 p3).bind fun y1 =>
 cond (aj y1.2.2.2.1.1 0) (
 (Kc y1.2.1 p2 p3).bind fun y2 =>
 cond (!(aj y2.2.1.1 0)) (
 some ((),(([],0,0,0,0,[],0,0,[],[],[],()),y2.2.1,()))
 ) (
 cond (aZ y1.2.2.1.1 y1.2.1.2.2.2.2.2.1) (
 cond (aZ y1.2.2.1.1 y1.2.1.2.2.2.2.2.1) (
 let u1:=(A0 (y1.2.1.2.2.2.2.2.2.1,y1.2.1.2.2.2.2.2.2.2.1,y1.2.1.2.2.2.2.2.2.2.2.1,y1.2.1.2.2.2.2.2.2.2.2.2.1,()) p3 p2)
 Option.bind u1 fun y3 =>
 let u2:=(gt d192 y1.2.1.2.2.2.2.2.1 y1.2.2.1.1)
 let u3:=(dw y1.2.1.2.2.2.2.2.1 y1.2.2.1.1 (u2.1,(aw .i64 u2.2.1 p2),u2.2.2.1,()))
 some ((),((y1.2.1.1,y1.2.1.2.1,y1.2.1.2.2.1,y1.2.1.2.2.2.1,y1.2.1.2.2.2.2.1,u3,y3.2.1.1,y3.2.1.2.1,y3.2.1.2.2.1,y3.2.1.2.2.2.1,y1.2.1.2.2.2.2.2.2.2.2.2.2.1,()),(0,()),()))
 ) none
 ) none
 )
 ) (
 cond (!(aj y1.2.2.2.1.1 0)) (
 some ((),(([],0,0,0,0,[],0,0,[],[],[],()),y1.2.2.2.1,()))
 ) (
 cond (aZ y1.2.2.1.1 y1.2.1.2.2.2.2.2.1) (
 cond (aZ y1.2.2.1.1 y1.2.1.2.2.2.2.2.1) (
 let u1:=(A0 (y1.2.1.2.2.2.2.2.2.1,y1.2.1.2.2.2.2.2.2.2.1,y1.2.1.2.2.2.2.2.2.2.2.1,y1.2.1.2.2.2.2.2.2.2.2.2.1,()) p3 p2)
 Option.bind u1 fun y2 =>
 let u2:=(gt d192 y1.2.1.2.2.2.2.2.1 y1.2.2.1.1)
 let u3:=(dw y1.2.1.2.2.2.2.2.1 y1.2.2.1.1 (u2.1,(aw .i64 u2.2.1 p2),u2.2.2.1,()))
 some ((),((y1.2.1.1,y1.2.1.2.1,y1.2.1.2.2.1,y1.2.1.2.2.2.1,y1.2.1.2.2.2.2.1,u3,y2.2.1.1,y2.2.1.2.1,y2.2.1.2.2.1,y2.2.1.2.2.2.1,y1.2.1.2.2.2.2.2.2.2.2.2.2.1,()),(0,()),()))
 ) none
 ) none
 )
 )
def Xq:Su:=fU [.c true [.str,ah,ah,ah,ah,bu,ah,ah,q3,q3,bP],.c false [.str],.c false [ah],.c false [ah]] Nt fun x=>LB x.1 x.2.1.1 x.2.2.1.1 x.2.2.2.1.1
theorem SY:au Tryz.prog 130 Xq :=
 fq (ac Tb (ac SZ (ac NZ an))) Tryz.f130
def Fz(p0:S8×Int×Int×Int×Int×(List bm)×Int×Int×(List R3)×(List R3)×(List bW)×Unit)(p1:S8)(p2:Int)(p3:Bool)(p4:Int):Option DT :=
 (FT p0 p1 p2 p4).bind fun y1 =>
 cond (aj y1.2.2.2.1.1 0) (
 cond (aZ y1.2.2.1.1 y1.2.1.2.2.2.2.2.1) (
 let u1:=(gt d192 y1.2.1.2.2.2.2.2.1 y1.2.2.1.1)
 cond (aG u1.2.1 p2) (
 c33
 ) (
 cond (!(aj y1.2.2.2.1.1 0)) (
 some ((),(([],0,0,0,0,[],0,0,[],[],[],()),y1.2.2.2.1,()))
 ) (
 cond (aZ y1.2.2.1.1 y1.2.1.2.2.2.2.2.1) (
 cond (aZ y1.2.2.1.1 y1.2.1.2.2.2.2.2.1) (
 let u2:=(dw y1.2.1.2.2.2.2.2.1 y1.2.2.1.1 (u1.1,(aW .i64 u1.2.1 p2),u1.2.2.1,()))
 cond (aZ y1.2.2.1.1 u2) (
 let u3:=(cond (aj (gt d192 u2 y1.2.2.1.1).2.1 0) true p3)
 cond u3 (
 let u4:=(BN u2 p1)
 Option.bind u4 fun y2 =>
 let u5:=(aw .i64 y1.2.1.2.2.1 p2)
 some ((),((y1.2.1.1,y1.2.1.2.1,u5,y1.2.1.2.2.2.1,y1.2.1.2.2.2.2.1,y2.2.1.1,y1.2.1.2.2.2.2.2.2.1,y1.2.1.2.2.2.2.2.2.2.1,y1.2.1.2.2.2.2.2.2.2.2.1,y1.2.1.2.2.2.2.2.2.2.2.2.1,y1.2.1.2.2.2.2.2.2.2.2.2.2.1,()),(0,()),()))
 ) (
 let u4:=(aw .i64 y1.2.1.2.2.1 p2)
 some ((),((y1.2.1.1,y1.2.1.2.1,u4,y1.2.1.2.2.2.1,y1.2.1.2.2.2.2.1,u2,y1.2.1.2.2.2.2.2.2.1,y1.2.1.2.2.2.2.2.2.2.1,y1.2.1.2.2.2.2.2.2.2.2.1,y1.2.1.2.2.2.2.2.2.2.2.2.1,y1.2.1.2.2.2.2.2.2.2.2.2.2.1,()),(0,()),()))
 )
 ) none
 ) none
 ) none
 )
 )
 ) none
 ) (
 cond (!(aj y1.2.2.2.1.1 0)) (
 some ((),(([],0,0,0,0,[],0,0,[],[],[],()),y1.2.2.2.1,()))
 ) (
 cond (aZ y1.2.2.1.1 y1.2.1.2.2.2.2.2.1) (
 cond (aZ y1.2.2.1.1 y1.2.1.2.2.2.2.2.1) (
 let u1:=(gt d192 y1.2.1.2.2.2.2.2.1 y1.2.2.1.1)
 let u2:=(dw y1.2.1.2.2.2.2.2.1 y1.2.2.1.1 (u1.1,(aW .i64 u1.2.1 p2),u1.2.2.1,()))
 cond (aZ y1.2.2.1.1 u2) (
 let u3:=(cond (aj (gt d192 u2 y1.2.2.1.1).2.1 0) true p3)
 cond u3 (
 let u4:=(BN u2 p1)
 Option.bind u4 fun y2 =>
 let u5:=(aw .i64 y1.2.1.2.2.1 p2)
 some ((),((y1.2.1.1,y1.2.1.2.1,u5,y1.2.1.2.2.2.1,y1.2.1.2.2.2.2.1,y2.2.1.1,y1.2.1.2.2.2.2.2.2.1,y1.2.1.2.2.2.2.2.2.2.1,y1.2.1.2.2.2.2.2.2.2.2.1,y1.2.1.2.2.2.2.2.2.2.2.2.1,y1.2.1.2.2.2.2.2.2.2.2.2.2.1,()),(0,()),()))
 ) (
 let u4:=(aw .i64 y1.2.1.2.2.1 p2)
 some ((),((y1.2.1.1,y1.2.1.2.1,u4,y1.2.1.2.2.2.1,y1.2.1.2.2.2.2.1,u2,y1.2.1.2.2.2.2.2.2.1,y1.2.1.2.2.2.2.2.2.2.1,y1.2.1.2.2.2.2.2.2.2.2.1,y1.2.1.2.2.2.2.2.2.2.2.2.1,y1.2.1.2.2.2.2.2.2.2.2.2.2.1,()),(0,()),()))
 )
 ) none
 ) none
 ) none
 )
 )
def aad:Su:=fU [.c true [.str,ah,ah,ah,ah,bu,ah,ah,q3,q3,bP],.c false [.str],.c false [ah],.c false [.bool],.c false [ah]] Nt fun x=>Fz x.1 x.2.1.1 x.2.2.1.1 x.2.2.2.1.1 x.2.2.2.2.1.1
theorem S5:au Tryz.prog 131 aad :=
 fq (ac zx (ac NZ an)) Tryz.f131
def Mz(p0:S8×Int×Int×Int×Int×(List bm)×Int×Int×(List R3)×(List R3)×(List bW)×Unit)(p1:S8)(p2:Int):Option DT :=
 (FT p0 p1 1 p2).bind fun y1 =>
 cond (!(aj y1.2.2.2.1.1 0)) (
 some ((),(([],0,0,0,0,[],0,0,[],[],[],()),y1.2.2.2.1,()))
 ) (
 (BN y1.2.1.2.2.2.2.2.1 p1).bind fun y2 =>
 some ((),((y1.2.1.1,y1.2.1.2.1,y1.2.1.2.2.1,y1.2.1.2.2.2.1,y1.2.1.2.2.2.2.1,y2.2.1.1,y1.2.1.2.2.2.2.2.2.1,y1.2.1.2.2.2.2.2.2.2.1,y1.2.1.2.2.2.2.2.2.2.2.1,y1.2.1.2.2.2.2.2.2.2.2.2.1,y1.2.1.2.2.2.2.2.2.2.2.2.2.1,()),(0,()),()))
 )
def aaN:Su:=fU [.c true [.str,ah,ah,ah,ah,bu,ah,ah,q3,q3,bP],.c false [.str],.c false [ah]] Nt fun x=>Mz x.1 x.2.1.1 x.2.2.1.1
theorem RS:au Tryz.prog 132 aaN :=
 fq (ac zx (ac NZ an)) Tryz.f132
def Ju(p0 p1:S8×Int×Int×Int×Int×(List bm)×Int×Int×(List R3)×(List R3)×(List bW)×Unit)(p2:S8)(p3:Int):Option (Unit×(yL×yL×Y1×Unit)) :=
 (sB p0 p3).bind fun y1 =>
 (sB p1 p3).bind fun y2 =>
 (Fm y1.2.1.2.2.2.2.2.1 p2).bind fun y3 =>
 cond (cond (!(aj y1.2.2.1.1 0)) true (!(aj y2.2.2.1.1 0))) (
 c18
 ) (
 (D8 p2).bind fun y4 =>
 cond (!y4.2.1.1) (
 c18
 ) (
 cond (bk p0.1 p1.1) (
 c34
 ) (
 cond (aG y3.2.1.1 0) (
 c35
 ) (
 (Fm y2.2.1.2.2.2.2.2.1 p2).bind fun y5 =>
 cond (bM 0 y5.2.1.1) (
 c36
 ) (
 cond (aj (ae y2.2.1.2.2.2.2.2.1) 4) (
 c37
 ) (
 cond (aZ y3.2.1.1 y1.2.1.2.2.2.2.2.1) (
 (HR y2.2.1 p3).bind fun y6 =>
 let u1:=(gt d192 y1.2.1.2.2.2.2.2.1 y3.2.1.1)
 cond (aG y6.2.1.1 u1.2.1) (
 c38
 ) (
 cond (aZ y3.2.1.1 y1.2.1.2.2.2.2.2.1) (
 (M9 y2.2.1.2.2.2.2.2.1 u1).bind fun y7 =>
 (BN y1.2.1.2.2.2.2.2.1 p2).bind fun y8 =>
 some ((),((y1.2.1.1,y1.2.1.2.1,y1.2.1.2.2.1,y1.2.1.2.2.2.1,y1.2.1.2.2.2.2.1,y8.2.1.1,y1.2.1.2.2.2.2.2.2.1,y1.2.1.2.2.2.2.2.2.2.1,y1.2.1.2.2.2.2.2.2.2.2.1,y1.2.1.2.2.2.2.2.2.2.2.2.1,y1.2.1.2.2.2.2.2.2.2.2.2.2.1,()),(y2.2.1.1,y2.2.1.2.1,y2.2.1.2.2.1,y2.2.1.2.2.2.1,y2.2.1.2.2.2.2.1,y7.2.1.1,y2.2.1.2.2.2.2.2.2.1,y2.2.1.2.2.2.2.2.2.2.1,y2.2.1.2.2.2.2.2.2.2.2.1,y2.2.1.2.2.2.2.2.2.2.2.2.1,y2.2.1.2.2.2.2.2.2.2.2.2.2.1,()),(0,()),()))
 ) none
 )
 ) none
 )
 )
 )
 )
 )
 )
def Ny:Su:=fU [.c true [.str,ah,ah,ah,ah,bu,ah,ah,q3,q3,bP],.c true [.str,ah,ah,ah,ah,bu,ah,ah,q3,q3,bP],.c false [.str],.c false [ah]] [(true,[.str,ah,ah,ah,ah,bu,ah,ah,q3,q3,bP]),(true,[.str,ah,ah,ah,ah,bu,ah,ah,q3,q3,bP]),(false,[ah])] fun x=>Ju x.1 x.2.1 x.2.2.1.1 x.2.2.2.1.1
def N0:List SE:=[]
def RP:Nat->Option (Lo N0)
 | _=>none
def Du:List Y0:=[(204,iS aah),(209,iS aas),(210,iS aaz),(216,iS ZL),(215,iS YJ),(212,iS aa7)]
def uF:En:=uZ 100 tt Du N0 RP [] fun _=>none
def aba:Nat->Option (St->Tr St)
 | 19=>some (gb uF (opsOf (a8 19 (ak Tryz.f133))) [(12,10)])
 | 21=>some (l8 uF (opsOf (a8 21 (ak Tryz.f133))) 2 [1])
 | _=>none
def L9:En:=uZ 100 tt Du N0 RP [] (aba)
theorem t133(x:PT Ny.ps):(Ei L9 (ak Tryz.f133) Tryz.f133.results.toList Ny.ps Ny.rs true x).run=Ju x.1 x.2.1 x.2.2.1.1 x.2.2.2.1.1:=by kernel_rfl
theorem UA:cZ Tryz.prog L9:=bZ (l:=Du) ⟨xN,wJ,Ce,Dh,zx,GY,trivial⟩
theorem Ek:cZ Tryz.prog uF:=bZ (l:=Du) ⟨xN,wJ,Ce,Dh,zx,GY,trivial⟩
theorem QS:cM Tryz.prog L9 (a8 19 (ak Tryz.f133)) (gb uF (opsOf (a8 19 (ak Tryz.f133))) [(12,10)]) :=
 dP rfl rfl (kE (E:=uF) (oU hT) Ek gK (c:=(a8 19 (ak Tryz.f133))) (id:=19) (by kernel_rfl))
theorem FR:cZ Tryz.prog uF:=bZ (l:=Du) ⟨xN,wJ,Ce,Dh,zx,GY,trivial⟩
theorem Pd:cM Tryz.prog L9 (a8 21 (ak Tryz.f133)) (l8 uF (opsOf (a8 21 (ak Tryz.f133))) 2 [1]) :=
 dP rfl rfl (vG (E:=uF) (oU hT) FR gK (c:=(a8 21 (ak Tryz.f133))) (id:=21) (by kernel_rfl))
theorem Tp:au Tryz.prog 133 Ny :=
 nu (E:=L9) (oU hT) UA gK (fn:=Tryz.f133) (c:=(ak Tryz.f133)) (by kernel_rfl) (by kernel_rfl) (by kernel_rfl) rfl (cC [] (by kernel_rfl) trivial [(19,a8 19 (ak Tryz.f133)),(21,a8 21 (ak Tryz.f133))] (by kernel_rfl) ⟨pL rfl QS,pL rfl Pd,trivial⟩) fun x y h=>⟨y.1,fun _=>rfl,(t133 x).trans h⟩
def LC(p0:S8×Int×Int×Int×Int×(List bm)×Int×Int×(List R3)×(List R3)×(List bW)×Unit)(p1:Int):Option (Unit×(Y9×Y1×Unit)) :=
 (sB p0 p1).bind fun y1 =>
 cond (!(aj y1.2.2.1.1 0)) (
 some ((),(([],()),y1.2.2.1,()))
 ) (
 (HR y1.2.1 p1).bind fun y2 =>
 (Jq y2.2.1.1 16).bind fun y3 =>
 cond (jv y3.2.1.1 [32]) (
 (Jq y1.2.1.2.2.1 16).bind fun y4 =>
 let u1:=(wz y3.2.1.1 [32])
 cond (jv u1 y4.2.1.1) (
 some ((),(((wz u1 y4.2.1.1),()),(0,()),()))
 ) none
 ) none
 )
def X9:Su:=fU [.c true [.str,ah,ah,ah,ah,bu,ah,ah,q3,q3,bP],.c false [ah]] [(false,[.str]),(false,[ah])] fun x=>LC x.1 x.2.1.1
theorem Sg:au Tryz.prog 134 X9 :=
 fq (ac SI (ac wJ (ac Dh an))) Tryz.f134
def Mp(p0:S8×Int×Int×Int×Int×(List bm)×Int×Int×(List R3)×(List R3)×(List bW)×Unit)(p1:Int):Option DT :=
 (sB p0 p1).bind fun y1 =>
 some ((),(y1.2.1,y1.2.2.1,()))
def XS:Su:=fU [.c true [.str,ah,ah,ah,ah,bu,ah,ah,q3,q3,bP],.c false [ah]] Nt fun x=>Mp x.1 x.2.1.1
theorem SP:au Tryz.prog 135 XS :=
 fq (ac wJ an) Tryz.f135
def Za(p0:(List iI)×Unit)(p1:Int×S8×S8×S8×S8×S8×Int×Int×Unit)(p2:Int):Option (Unit×(Y5×Y1×Y9×Unit)) :=
 (Zg p0).bind fun y1 =>
 cond (!y1.2.1.1) (
 Xi
 ) (
 (Jd p1).bind fun y2 =>
 cond (!y2.2.1.1) (
 Xi
 ) (
 (Jy p2).bind fun y3 =>
 cond (!y3.2.1.1) (
 Xi
 ) (
 (W4 p0 p1.2.1).bind fun y4 =>
 cond (aj p1.1 6) (
 (W4 p0 p1.2.2.1).bind fun y5 =>
 cond (aG y4.2.1.1 0) (
 WZ
 ) (
 cond (cond (aj p1.1 6) (aG y5.2.1.1 0) false) (
 WZ
 ) (
 let u1:=(Fx p0)
 Option.bind u1 fun y6 =>
 cond (aZ y4.2.1.1 y6.2.1.1) (
 cond (aj p1.1 1) (
 let u2:=(gt d94 y6.2.1.1 y4.2.1.1)
 (K5 u2 p1.2.2.2.1 p1.2.2.2.2.2.2.1 p1.2.2.2.2.2.2.2.1 p2).bind fun y7 =>
 cond (!(aj y7.2.2.1.1 0)) (
 some ((),(([],()),y7.2.2.1,([],()),()))
 ) (
 cond (aZ y4.2.1.1 y6.2.1.1) (
 some ((),(((dw y6.2.1.1 y4.2.1.1 y7.2.1),()),(0,()),([],()),()))
 ) none
 )
 ) (
 cond (aj p1.1 2) (
 let u2:=(gt d94 y6.2.1.1 y4.2.1.1)
 (LB u2 p1.2.2.2.1 p1.2.2.2.2.2.2.1 p2).bind fun y7 =>
 cond (!(aj y7.2.2.1.1 0)) (
 some ((),(([],()),y7.2.2.1,([],()),()))
 ) (
 cond (aZ y4.2.1.1 y6.2.1.1) (
 some ((),(((dw y6.2.1.1 y4.2.1.1 y7.2.1),()),(0,()),([],()),()))
 ) none
 )
 ) (
 cond (aj p1.1 3) (
 let u2:=(gt d94 y6.2.1.1 y4.2.1.1)
 let u3:=(Fz u2 p1.2.2.2.1 p1.2.2.2.2.2.2.1 (aj p1.1 4) p2)
 Option.bind u3 fun y7 =>
 cond (!(aj y7.2.2.1.1 0)) (
 some ((),(([],()),y7.2.2.1,([],()),()))
 ) (
 cond (aZ y4.2.1.1 y6.2.1.1) (
 some ((),(((dw y6.2.1.1 y4.2.1.1 y7.2.1),()),(0,()),([],()),()))
 ) none
 )
 ) (
 cond (aj p1.1 4) (
 let u2:=(gt d94 y6.2.1.1 y4.2.1.1)
 let u3:=(Fz u2 p1.2.2.2.1 p1.2.2.2.2.2.2.1 (aj p1.1 4) p2)
 Option.bind u3 fun y7 =>
 cond (!(aj y7.2.2.1.1 0)) (
 some ((),(([],()),y7.2.2.1,([],()),()))
 ) (
 cond (aZ y4.2.1.1 y6.2.1.1) (
 some ((),(((dw y6.2.1.1 y4.2.1.1 y7.2.1),()),(0,()),([],()),()))
 ) none
 )
 ) (
 cond (aj p1.1 5) (
 let u2:=(gt d94 y6.2.1.1 y4.2.1.1)
 (Mz u2 p1.2.2.2.1 p2).bind fun y7 =>
 cond (!(aj y7.2.2.1.1 0)) (
 some ((),(([],()),y7.2.2.1,([],()),()))
 ) (
 cond (aZ y4.2.1.1 y6.2.1.1) (
 some ((),(((dw y6.2.1.1 y4.2.1.1 y7.2.1),()),(0,()),([],()),()))
 ) none
 )
 ) (
 cond (aj p1.1 6) (
 cond (aZ y5.2.1.1 y6.2.1.1) (
 let u2:=(gt d94 y6.2.1.1 y4.2.1.1)
 (Ju u2 (gt d94 y6.2.1.1 y5.2.1.1) p1.2.2.2.1 p2).bind fun y7 =>
 cond (aZ y5.2.1.1 y6.2.1.1) (
 cond (!(aj y7.2.2.2.1.1 0)) (
 some ((),(([],()),y7.2.2.2.1,([],()),()))
 ) (
 let u3:=(dw y6.2.1.1 y5.2.1.1 y7.2.2.1)
 cond (aZ y4.2.1.1 u3) (
 some ((),(((dw u3 y4.2.1.1 y7.2.1),()),(0,()),([],()),()))
 ) none
 )
 ) none
 ) none
 ) (
 cond (aj p1.1 7) (
 let u2:=(gt d94 y6.2.1.1 y4.2.1.1)
 (LC u2 p2).bind fun y7 =>
 cond (!(aj y7.2.2.1.1 0)) (
 some ((),(([],()),y7.2.2.1,([],()),()))
 ) (
 cond (aZ y4.2.1.1 y6.2.1.1) (
 let u3:=(G8 4 y4.2.1.1 y4.2.1.1)
 cond u3 (
 some ((),(((dw y6.2.1.1 y4.2.1.1 u2),()),(0,()),y7.2.1,()))
 ) none
 ) none
 )
 ) (
 let u2:=(gt d94 y6.2.1.1 y4.2.1.1)
 (Mp u2 p2).bind fun y7 =>
 cond (!(aj y7.2.2.1.1 0)) (
 some ((),(([],()),y7.2.2.1,([],()),()))
 ) (
 cond (aZ y4.2.1.1 y6.2.1.1) (
 some ((),(((dw y6.2.1.1 y4.2.1.1 y7.2.1),()),(0,()),([],()),()))
 ) none
 )
 )
 )
 )
 )
 )
 )
 )
 ) none
 )
 )
 ) (
 cond (aG y4.2.1.1 0) (
 WZ
 ) (
 cond (cond (aj p1.1 6) (aG (-1) 0) false) (
 WZ
 ) (
 let u1:=(Fx p0)
 Option.bind u1 fun y5 =>
 cond (aZ y4.2.1.1 y5.2.1.1) (
 cond (aj p1.1 1) (
 let u2:=(gt d94 y5.2.1.1 y4.2.1.1)
 (K5 u2 p1.2.2.2.1 p1.2.2.2.2.2.2.1 p1.2.2.2.2.2.2.2.1 p2).bind fun y6 =>
 cond (!(aj y6.2.2.1.1 0)) (
 some ((),(([],()),y6.2.2.1,([],()),()))
 ) (
 cond (aZ y4.2.1.1 y5.2.1.1) (
 some ((),(((dw y5.2.1.1 y4.2.1.1 y6.2.1),()),(0,()),([],()),()))
 ) none
 )
 ) (
 cond (aj p1.1 2) (
 let u2:=(gt d94 y5.2.1.1 y4.2.1.1)
 (LB u2 p1.2.2.2.1 p1.2.2.2.2.2.2.1 p2).bind fun y6 =>
 cond (!(aj y6.2.2.1.1 0)) (
 some ((),(([],()),y6.2.2.1,([],()),()))
 ) (
 cond (aZ y4.2.1.1 y5.2.1.1) (
 some ((),(((dw y5.2.1.1 y4.2.1.1 y6.2.1),()),(0,()),([],()),()))
 ) none
 )
 ) (
 cond (aj p1.1 3) (
 let u2:=(gt d94 y5.2.1.1 y4.2.1.1)
 let u3:=(Fz u2 p1.2.2.2.1 p1.2.2.2.2.2.2.1 (aj p1.1 4) p2)
 Option.bind u3 fun y6 =>
 cond (!(aj y6.2.2.1.1 0)) (
 some ((),(([],()),y6.2.2.1,([],()),()))
 ) (
 cond (aZ y4.2.1.1 y5.2.1.1) (
 some ((),(((dw y5.2.1.1 y4.2.1.1 y6.2.1),()),(0,()),([],()),()))
 ) none
 )
 ) (
 cond (aj p1.1 4) (
 let u2:=(gt d94 y5.2.1.1 y4.2.1.1)
 let u3:=(Fz u2 p1.2.2.2.1 p1.2.2.2.2.2.2.1 (aj p1.1 4) p2)
 Option.bind u3 fun y6 =>
 cond (!(aj y6.2.2.1.1 0)) (
 some ((),(([],()),y6.2.2.1,([],()),()))
 ) (
 cond (aZ y4.2.1.1 y5.2.1.1) (
 some ((),(((dw y5.2.1.1 y4.2.1.1 y6.2.1),()),(0,()),([],()),()))
 ) none
 )
 ) (
 cond (aj p1.1 5) (
 let u2:=(gt d94 y5.2.1.1 y4.2.1.1)
 (Mz u2 p1.2.2.2.1 p2).bind fun y6 =>
 cond (!(aj y6.2.2.1.1 0)) (
 some ((),(([],()),y6.2.2.1,([],()),()))
 ) (
 cond (aZ y4.2.1.1 y5.2.1.1) (
 some ((),(((dw y5.2.1.1 y4.2.1.1 y6.2.1),()),(0,()),([],()),()))
 ) none
 )
 ) (
 cond (aj p1.1 6) (
 cond (aZ (-1) y5.2.1.1) (
 let u2:=(gt d94 y5.2.1.1 y4.2.1.1)
 (Ju u2 (gt d94 y5.2.1.1 (-1)) p1.2.2.2.1 p2).bind fun y6 =>
 cond (aZ (-1) y5.2.1.1) (
 cond (!(aj y6.2.2.2.1.1 0)) (
 some ((),(([],()),y6.2.2.2.1,([],()),()))
 ) (
 let u3:=(dw y5.2.1.1 (-1) y6.2.2.1)
 cond (aZ y4.2.1.1 u3) (
 some ((),(((dw u3 y4.2.1.1 y6.2.1),()),(0,()),([],()),()))
 ) none
 )
 ) none
 ) none
 ) (
 cond (aj p1.1 7) (
 let u2:=(gt d94 y5.2.1.1 y4.2.1.1)
 (LC u2 p2).bind fun y6 =>
 cond (!(aj y6.2.2.1.1 0)) (
 some ((),(([],()),y6.2.2.1,([],()),()))
 ) (
 cond (aZ y4.2.1.1 y5.2.1.1) (
 let u3:=(G8 4 y4.2.1.1 y4.2.1.1)
 cond u3 (
 some ((),(((dw y5.2.1.1 y4.2.1.1 u2),()),(0,()),y6.2.1,()))
 ) none
 ) none
 )
 ) (
 let u2:=(gt d94 y5.2.1.1 y4.2.1.1)
 (Mp u2 p2).bind fun y6 =>
 cond (!(aj y6.2.2.1.1 0)) (
 some ((),(([],()),y6.2.2.1,([],()),()))
 ) (
 cond (aZ y4.2.1.1 y5.2.1.1) (
 some ((),(((dw y5.2.1.1 y4.2.1.1 y6.2.1),()),(0,()),([],()),()))
 ) none
 )
 )
 )
 )
 )
 )
 )
 )
 ) none
 )
 )
 )
 )
 )
 )
def YW:Su:=fU [.c true [jD],.c true [ah,.str,.str,.str,.str,.str,ah,ah],.c false [ah]] [(true,[jD]),(false,[ah]),(false,[.str])] fun x=>Za x.1 x.2.1 x.2.2.1.1
def VY:List SE:=[]
def Zl:Nat->Option (Lo VY)
 | _=>none
def QI:List Y0:=[(58,iS s58),(57,iS s57),(56,iS s56),(123,iS Xu),(65,iS s65),(129,iS Xm),(130,iS Xq),(131,iS aad),(132,iS aaN),(133,iS Ny),(134,iS X9),(135,iS XS)]
def PI:En:=uZ 158 tt QI VY Zl [] fun _=>none
def aec:Nat->Option (St->Tr St)
 | 22=>some (Ub PI (opsOf (a8 22 (ak Tryz.f67))) [(17,2),(17,15),(17,16)] 17 [0,1])
 | _=>none
def E67:En:=uZ 158 tt QI VY Zl [] (aec)
theorem t67(x:PT YW.ps):(Ei E67 (ak Tryz.f67) Tryz.f67.results.toList YW.ps YW.rs true x).run=Za x.1 x.2.1 x.2.2.1.1:=by kernel_rfl
theorem aa3:cZ Tryz.prog E67:=bZ (l:=QI) ⟨F3,q9,K8,Kg,KV,SU,SY,S5,RS,Tp,Sg,SP,trivial⟩
theorem Jm:cZ Tryz.prog PI:=bZ (l:=QI) ⟨F3,q9,K8,Kg,KV,SU,SY,S5,RS,Tp,Sg,SP,trivial⟩
theorem Wu:cM Tryz.prog E67 (a8 22 (ak Tryz.f67)) (Ub PI (opsOf (a8 22 (ak Tryz.f67))) [(17,2),(17,15),(17,16)] 17 [0,1]) :=
 dP rfl rfl (Tj (E:=PI) (oU hT) Jm gK (c:=(a8 22 (ak Tryz.f67))) (id:=22) (by kernel_rfl))
theorem Vx:au Tryz.prog 67 YW :=
 nu (E:=E67) (oU hT) aa3 gK (fn:=Tryz.f67) (c:=(ak Tryz.f67)) (by kernel_rfl) (by kernel_rfl) (by kernel_rfl) rfl (cC [] (by kernel_rfl) trivial [(22,a8 22 (ak Tryz.f67))] (by kernel_rfl) ⟨pL rfl Wu,trivial⟩) fun x y h=>⟨y.1,fun _=>rfl,(t67 x).trans h⟩
def ZC:Sc:=⟨100,so,56⟩
def Zt:En:=uZ 8 tt [] [] (fun _=>none) [] fun _=>none
def Ta(x:List bW):St:=⟨[(2,.v .nil),(0,.v (.d bP x))],[]⟩
theorem t137(x:List bW)(b:Bool):((cD Zt (.seq (cB (dm (cB (ak Tryz.f137)))) (cB (cB (ak Tryz.f137)))) (((Ta x).aT 3 (.v (.d bP x),none)).aT 4 (.v (.d .bool b),none))).bind fun ou=>Tr.bQ (LG ou 2 100 so) .ret).run =
 cond b (some []) (cond (a6 56 ([]:List bW) x) (some x) none):=by kernel_rfl
theorem aaO:EF Tryz.prog 137 ZC :=
 Zp (E:=Zt) (oU hT) (bZ (l:=[]) trivial) gK (fn:=Tryz.f137) (c0:=dm (ak Tryz.f137)) (cc:=cB (dm (cB (ak Tryz.f137)))) (c3:=cB (cB (ak Tryz.f137))) (id:=GQ (dm (dm (cB (ak Tryz.f137)))))
  (o1:=nC (dm (dm (cB (ak Tryz.f137)))) 0) (o2:=nC (dm (dm (cB (ak Tryz.f137)))) 1) (by kernel_rfl) (by kernel_rfl) (by kernel_rfl) rfl (by kernel_rfl)
  (bz (fun _=>rfl) _ (by kernel_rfl)) (bz (fun _=>rfl) _ (by kernel_rfl)) (bz (fun _=>rfl) _ (by kernel_rfl)) (t0:=0) (t3:=3) (t4:=4) (ty:=92) (ty':=92) (e':=100) (by':=24) (fl:=[]) (by kernel_rfl) (by kernel_rfl) (by kernel_rfl) (by kernel_rfl) (by kernel_rfl) (by kernel_rfl) (by kernel_rfl) (by kernel_rfl) (s:=ZC) (by kernel_rfl)
  Ta (fun x=>by kernel_rfl) (fun x=>by kernel_rfl) t137
def XW(p0:List bW)(p1:S8×S8×(List R5)×Unit):Option (Unit×(((List bW)×Unit)×Y2×Unit)) :=
 cond (Yd 56 p0) (
 cond (a6 56 p0 [p1]) (
 (JJ (eV p0 [p1])).bind fun y1 =>
 (NQ y1.2.1.1).bind fun y2 =>
 cond (!y2.2.1.1) (
 some ((),(([],()),(false,()),()))
 ) (
 some ((),(y1.2.1,(true,()),()))
 )
 ) none
 ) none
def s68:Su:=fU [.c false [bP],.c true [.str,.str,q5]] [(false,[bP]),(false,[.bool])] fun x=>XW x.1.1 x.2.1
theorem T9:au Tryz.prog 68 s68 :=
 fq (ack aaO (ac Th (ac TU an))) Tryz.f68
def g17(p0:(List iI)×Unit)(p1:List R5)(p2:Int):Option (Unit×(Y5×Y4×Unit)) :=
 (g55 p1).bind fun y1 =>
 (Zg p0).bind fun y2 =>
 cond (!y2.2.1.1) (
 let u1:=(Fx p0)
 Option.bind u1 fun y3 =>
 some ((),(y3.2.1,([],()),()))
 ) (
 (Jy p2).bind fun y3 =>
 cond (cond (!y3.2.1.1) true (aj y1.2.2.1.1 1)) (
 let u1:=(Fx p0)
 Option.bind u1 fun y4 =>
 some ((),(y4.2.1,([],()),()))
 ) (
 (ME p1 0 4).bind fun y4 =>
 (Xb y4.2.1.1).bind fun y5 =>
 cond (bk y5.2.1.1 []) (
 let u1:=(Fx p0)
 Option.bind u1 fun y6 =>
 some ((),(y6.2.1,([],()),()))
 ) (
 cond (!(aj y1.2.2.1.1 0)) (
 (g61 y4.2.1.1 1).bind fun y6 =>
 (X4 y6.2.1).bind fun y7 =>
 let u1:=(Fx p0)
 Option.bind u1 fun y8 =>
 some ((),(y8.2.1,y7.2.1,()))
 ) (
 (g63 y1.2.1).bind fun y6 =>
 cond (!(aj y6.2.2.1.1 0)) (
 let u1:=(Fx p0)
 Option.bind u1 fun y7 =>
 (Sd y1.2.1 y6.2.2.1.1 [] []).bind fun y8 =>
 some ((),(y7.2.1,y8.2.1,()))
 ) (
 (W4 p0 y6.2.1.2.1).bind fun y7 =>
 cond (aG y7.2.1.1 0) (
 let u1:=(Fx p0)
 Option.bind u1 fun y8 =>
 (Sd y1.2.1 3 [] []).bind fun y9 =>
 some ((),(y8.2.1,y9.2.1,()))
 ) (
 cond (aZ y7.2.1.1 p0.1) (
 (g66 (gt d94 p0.1 y7.2.1.1).2.2.2.2.2.2.2.2.2.2.1 y6.2.1.2.2.2.2.1 y6.2.1.2.2.2.2.2.1).bind fun y8 =>
 cond y8.2.2.1.1 (
 let u1:=(Fx p0)
 Option.bind u1 fun y9 =>
 some ((),(y9.2.1,y8.2.1,()))
 ) (
 cond (aZ y7.2.1.1 p0.1) (
 cond (aj (ae (gt d94 p0.1 y7.2.1.1).2.2.2.2.2.2.2.2.2.2.1) 6) (
 let u1:=(Fx p0)
 Option.bind u1 fun y9 =>
 (Sd y1.2.1 10 [] []).bind fun y10 =>
 some ((),(y9.2.1,y10.2.1,()))
 ) (
 (Za p0 y6.2.1 p2).bind fun y9 =>
 cond (!(aj y9.2.2.1.1 0)) (
 let u1:=(Fx p0)
 Option.bind u1 fun y10 =>
 let u2:=(Sd y1.2.1 y9.2.2.1.1 y6.2.1.2.2.2.1 y9.2.2.2.1.1)
 Option.bind u2 fun y11 =>
 cond (aZ y7.2.1.1 y10.2.1.1) (
 let u3:=(gt d94 y10.2.1.1 y7.2.1.1)
 (XW u3.2.2.2.2.2.2.2.2.2.2.1 (y6.2.1.2.2.2.2.1,y6.2.1.2.2.2.2.2.1,y11.2.1.1,())).bind fun y12 =>
 cond y12.2.2.1.1 (
 cond (aZ y7.2.1.1 y10.2.1.1) (
 some ((),(((dw y10.2.1.1 y7.2.1.1 (u3.1,u3.2.1,u3.2.2.1,u3.2.2.2.1,u3.2.2.2.2.1,u3.2.2.2.2.2.1,u3.2.2.2.2.2.2.1,u3.2.2.2.2.2.2.2.1,u3.2.2.2.2.2.2.2.2.1,u3.2.2.2.2.2.2.2.2.2.1,y12.2.1.1,())),()),y11.2.1,()))
 ) none
 ) (
 some ((),(y10.2.1,y11.2.1,()))
 )
 ) none
 ) (
 let u1:=(Sd y1.2.1 y9.2.2.1.1 y6.2.1.2.2.2.1 y9.2.2.2.1.1)
 Option.bind u1 fun y10 =>
 cond (aZ y7.2.1.1 y9.2.1.1) (
 let u2:=(gt d94 y9.2.1.1 y7.2.1.1)
 (XW u2.2.2.2.2.2.2.2.2.2.2.1 (y6.2.1.2.2.2.2.1,y6.2.1.2.2.2.2.2.1,y10.2.1.1,())).bind fun y11 =>
 cond y11.2.2.1.1 (
 cond (aZ y7.2.1.1 y9.2.1.1) (
 some ((),(((dw y9.2.1.1 y7.2.1.1 (u2.1,u2.2.1,u2.2.2.1,u2.2.2.2.1,u2.2.2.2.2.1,u2.2.2.2.2.2.1,u2.2.2.2.2.2.2.1,u2.2.2.2.2.2.2.2.1,u2.2.2.2.2.2.2.2.2.1,u2.2.2.2.2.2.2.2.2.2.1,y11.2.1.1,())),()),y10.2.1,()))
 ) none
 ) (
 some ((),(y9.2.1,y10.2.1,()))
 )
 ) none
 )
 )
 ) none
 )
 ) none
 )
 )
 )
 )
 )
 )
def Yr:Su:=fU [.c true [jD],.c false [q5],.c false [ah]] [(true,[jD]),(false,[q5])] fun x=>g17 x.1 x.2.1.1 x.2.2.1.1
def VM:List SE:=[]
def aag:Nat->Option (Lo VM)
 | _=>none
def L1:List Y0:=[(58,iS s58),(57,iS s57),(59,iS s59),(55,iS s55),(56,iS s56),(60,iS s60),(61,iS s61),(62,iS s62),(63,iS s63),(64,iS s64),(65,iS s65),(66,iS s66),(67,iS YW),(68,iS s68)]
def BY:En:=uZ 167 tt L1 VM aag [] fun _=>none
def adu:Nat->Option (St->Tr St)
 | 17=>some (gb BY (opsOf (a8 17 (ak Tryz.f17))) [(14,13)])
 | 26=>some (gb BY (opsOf (a8 26 (ak Tryz.f17))) [(16,15)])
 | _=>none
def YT:En:=uZ 167 tt L1 VM aag [] (adu)
theorem t17(x:PT Yr.ps):(Ei YT (ak Tryz.f17) Tryz.f17.results.toList Yr.ps Yr.rs true x).run=g17 x.1 x.2.1.1 x.2.2.1.1:=by kernel_rfl
theorem Yo:cZ Tryz.prog YT:=bZ (l:=L1) ⟨F3,q9,JT,U7,K8,Nj,Wt,OW,Wh,VG,KV,UB,Vx,T9,trivial⟩
theorem HZ:cZ Tryz.prog BY:=bZ (l:=L1) ⟨F3,q9,JT,U7,K8,Nj,Wt,OW,Wh,VG,KV,UB,Vx,T9,trivial⟩
theorem VD:cM Tryz.prog YT (a8 17 (ak Tryz.f17)) (gb BY (opsOf (a8 17 (ak Tryz.f17))) [(14,13)]) :=
 dP rfl rfl (kE (E:=BY) (oU hT) HZ gK (c:=(a8 17 (ak Tryz.f17))) (id:=17) (by kernel_rfl))
theorem IV:cZ Tryz.prog BY:=bZ (l:=L1) ⟨F3,q9,JT,U7,K8,Nj,Wt,OW,Wh,VG,KV,UB,Vx,T9,trivial⟩
theorem Vr:cM Tryz.prog YT (a8 26 (ak Tryz.f17)) (gb BY (opsOf (a8 26 (ak Tryz.f17))) [(16,15)]) :=
 dP rfl rfl (kE (E:=BY) (oU hT) IV gK (c:=(a8 26 (ak Tryz.f17))) (id:=26) (by kernel_rfl))
theorem aal:au Tryz.prog 17 Yr :=
 nu (E:=YT) (oU hT) Yo gK (fn:=Tryz.f17) (c:=(ak Tryz.f17)) (by kernel_rfl) (by kernel_rfl) (by kernel_rfl) rfl (cC [] (by kernel_rfl) trivial [(17,a8 17 (ak Tryz.f17)),(26,a8 26 (ak Tryz.f17))] (by kernel_rfl) ⟨pL rfl VD,pL rfl Vr,trivial⟩) fun x y h=>⟨y.1,fun _=>rfl,(t17 x).trans h⟩
def uT(t2:List R3)(t9:List OE)(t17:List vn)(t18 t19:Int)(b6 b8:(List iI)×Unit):Rd ((List R3)×(List OE)×(List vn)×Int×Int×Y5×Y5×Unit) Unit :=
 cond (aG t19 t18) (
 cond (aZ t19 t17) (
 cond (aG t19 (ae t2)) (
 cond (aZ t19 t2) (
 cond (aj (gt d3 t2 t19).1 1) (
 let u1:=(gt d62 t17 t19)
 (g72 b8 u1.1).bind fun y1 =>
 (g17 y1.2.1 u1.2.1 u1.1).bind fun y2 =>
 cond (a6 24 t9 [y2.2.2.1]) (
 let u2:=(aw .i64 t19 1)
 eA (t2,(eV t9 [y2.2.2.1]),t17,t18,u2,b6,y2.2.1,())
 ) none
 ) (
 let u1:=(gt d62 t17 t19)
 let u2:=(g17 b8 u1.2.1 u1.1)
 Option.bind u2 fun y1 =>
 let u3:=(a6 24 t9 [y1.2.2.1])
 cond u3 (
 let u4:=(aw .i64 t19 1)
 eA (t2,(eV t9 [y1.2.2.1]),t17,t18,u4,b6,y1.2.1,())
 ) none
 )
 ) none
 ) (
 let u1:=(gt d62 t17 t19)
 let u2:=(g17 b8 u1.2.1 u1.1)
 Option.bind u2 fun y1 =>
 let u3:=(a6 24 t9 [y1.2.2.1])
 cond u3 (
 let u4:=(aw .i64 t19 1)
 eA (t2,(eV t9 [y1.2.2.1]),t17,t18,u4,b6,y1.2.1,())
 ) none
 )
 ) none
 ) (
 eB (t2,t9,t17,t18,t19,b6,b8,())
 )
def LX:=W8 (aq (zO uT))
def Yw(p0:(List iI)×Unit)(p1:List vn)(p2:List R3):Option Y52 :=
 (Fx p0).bind fun y1 =>
 (LX p2 [] p1 (ae p1) 0 ([],()) y1.2.1).bind (Sum.elim (fun y2 =>
 some ((),(y2.2.2.2.2.2.2.1,(y2.2.1,()),()))
 ) (fun _ =>
 none
 ))
def s31:Su:=fU [.c true [jD],.c false [Ev],.c false [q3]] [(true,[jD]),(false,[Qk])] fun x=>Yw x.1 x.2.1.1 x.2.2.1.1
def wq:List SE:=[.d 2 q3,.own 9 Qk,.d 17 Ev,.d 18 ah,.d 19 ah,.box 6 [(true,jD)],.box 8 [(true,jD)]]
def VR:List SE:=[]
def aaB:Nat->Option (Lo VR)
 | 0=>some ⟨wq,zO LX⟩
 | _=>none
def Rp:List Y0:=[(58,iS s58),(72,iS s72),(17,iS Yr)]
def Q9:En:=uZ 56 tt Rp VR aaB [] fun _=>none
def abk:Nat->Option (St->Tr St)
 | 8=>some (l8 Q9 (opsOf (a8 8 (ak Tryz.f31))) 4 [0])
 | _=>none
def Xa:En:=uZ 56 tt Rp VR aaB [] (abk)
theorem Xs(x:ej wq):(lZ Xa 0 wq (jn 0 (ak Tryz.f31)) x).run=zO uT x:=by kernel_rfl
theorem t31(x:PT s31.ps):(Ei Xa (ak Tryz.f31) Tryz.f31.results.toList s31.ps s31.rs true x).run=Yw x.1 x.2.1.1 x.2.2.1.1:=by kernel_rfl
theorem SK:cZ Tryz.prog Xa:=bZ (l:=Rp) ⟨F3,Yb,aal,trivial⟩
theorem Lu:cZ Tryz.prog Q9:=bZ (l:=Rp) ⟨F3,Yb,aal,trivial⟩
theorem aao:cM Tryz.prog Xa (a8 8 (ak Tryz.f31)) (l8 Q9 (opsOf (a8 8 (ak Tryz.f31))) 4 [0]) :=
 dP rfl rfl (vG (E:=Q9) (oU hT) Lu gK (c:=(a8 8 (ak Tryz.f31))) (id:=8) (by kernel_rfl))
theorem aaY:iQ Tryz.prog Xa 0 (.loop (jn 0 (ak Tryz.f31))) ⟨wq,zO LX⟩ :=
 An (oU hT) SK gK (step:=fun(x:ej wq)=>uT x.1 x.2.1 x.2.2.1 x.2.2.2.1 x.2.2.2.2.1 x.2.2.2.2.2.1 x.2.2.2.2.2.2.1) Xs (cC [] (by kernel_rfl) trivial [(8,a8 8 (ak Tryz.f31))] (by kernel_rfl) ⟨pL rfl aao,trivial⟩)
theorem adm:au Tryz.prog 31 s31 :=
 nu (E:=Xa) (oU hT) SK gK (fn:=Tryz.f31) (c:=(ak Tryz.f31)) (by kernel_rfl) (by kernel_rfl) (by kernel_rfl) rfl (cC [(0,.loop (jn 0 (ak Tryz.f31)))] (by kernel_rfl) ⟨Pn rfl aaY,trivial⟩ [] (by kernel_rfl) trivial) fun x y h=>⟨y.1,fun _=>rfl,(t31 x).trans h⟩
def g24(p0:(List iI)×Unit)(p1:List vn):Option Y52 :=
 (Yw p0 p1 []).bind fun y1 =>
 some ((),(y1.2.1,y1.2.2.1,()))
def s24:Su:=fU [.c true [jD],.c false [Ev]] [(true,[jD]),(false,[Qk])] fun x=>g24 x.1 x.2.1.1
theorem abU:au Tryz.prog 24 s24 :=
 fq (ac adm an) Tryz.f24
def xW(t0 t1:List R5)(t12 t13:Int):Rd ((List R5)×(List R5)×Int×Int×Unit) Y2 :=
 cond (aG t13 t12) (
 cond (aZ t13 t0) (
 cond (aZ t13 t1) (
 cond (!(aj (gt d5 t0 t13).1 (gt d5 t1 t13).1)) (
 eC (false,())
 ) (
 eA (t0,t1,t12,(aw .i64 t13 1),())
 )
 ) none
 ) none
 ) (
 eB (t0,t1,t12,t13,())
 )
def Xl:=nA (aq (da xW))
def g38(p0 p1:List R5):Option gu :=
 let u1:=(ae p0)
 cond (!(aj u1 (ae p1))) (
 c0
 ) (
 (Xl p0 p1 u1 0).bind (Sum.elim (fun _ =>
 c3
 ) (fun y1 =>
 some ((),(y1,()))
 ))
 )
def s38:Su:=fU [.c false [q5],.c false [q5]] gC fun x=>g38 x.1.1 x.2.1.1
theorem adr:au Tryz.prog 38 s38 :=
 fl an [.d 4 .bool] [(0,⟨[.d 0 q5,.d 1 q5,.d 12 ah,.d 13 ah],aq (da xW)⟩)] [] Tryz.f38 (lp [0] (sc dI sn))
def xi(t6:List OE)(t15:List vn)(t16 t17:Int):Rd ((List OE)×(List vn)×Int×Int×Unit) Y2 :=
 cond (aG t17 t16) (
 cond (aZ t17 t15) (
 cond (aZ t17 t6) (
 (g38 (gt d38 t6 t17).1 (gt d62 t15 t17).2.2.1).bind fun y1 =>
 cond (!y1.2.1.1) (
 eC (false,())
 ) (
 eA (t6,t15,t16,(aw .i64 t17 1),())
 )
 ) none
 ) none
 ) (
 eB (t6,t15,t16,t17,())
 )
def aaw:=nA (aq (da xi))
def g12(p0:(List iI)×Unit)(p1:List vn):Option gu :=
 (g24 p0 p1).bind fun y1 =>
 (aaw y1.2.2.1.1 p1 (ae p1) 0).bind (Sum.elim (fun _ =>
 c3
 ) (fun y2 =>
 some ((),(y2,()))
 ))
def s12:Su:=fU [.c true [jD],.c false [Ev]] gC fun x=>g12 x.1 x.2.1.1
theorem ab4:au Tryz.prog 12 s12 :=
 fl (ac abU (ac adr an)) [.d 4 .bool] [(0,⟨[.own 6 Qk,.d 15 Ev,.d 16 ah,.d 17 ah],aq (da xi)⟩)] [] Tryz.f12 (lp [0] (sc dI sn))
def PZ(p0 p1:S8×Int×Int×Unit):Option gu :=
 cond (!(bk p0.1 p1.1)) (
 c0
 ) (
 cond (!(aj p0.2.1 p1.2.1)) (
 c0
 ) (
 cond (!(aj p0.2.2.1 p1.2.2.1)) (
 c0
 ) (
 c3
 )
 )
 )
def ac3:Su:=fU [.c true [.str,ah,ah],.c true [.str,ah,ah]] gC fun x=>PZ x.1 x.2.1
theorem Xn:au Tryz.prog 226 ac3 :=
 fq an Tryz.f226
def pR(t0 t1:List bm)(t5:Int):Rd ((List bm)×(List bm)×Int×Unit) Y2 :=
 cond (aG t5 (ae t0)) (
 cond (aZ t5 t0) (
 cond (aZ t5 t1) (
 (PZ (gt d192 t0 t5) (gt d192 t1 t5)).bind fun y1 =>
 cond (!y1.2.1.1) (
 eC (false,())
 ) (
 eA (t0,t1,(aw .i64 t5 1),())
 )
 ) none
 ) none
 ) (
 eB (t0,t1,t5,())
 )
def Mn:=vm (aq (iT pR))
def PX(p0 p1:List bm):Option gu :=
 cond (!(aj (ae p0) (ae p1))) (
 c0
 ) (
 (Mn p0 p1 0).bind (Sum.elim (fun _ =>
 c3
 ) (fun y1 =>
 some ((),(y1,()))
 ))
 )
def abo:Su:=fU [.c false [bu],.c false [bu]] gC fun x=>PX x.1.1 x.2.1.1
theorem ZX:au Tryz.prog 154 abo :=
 fl (ac Xn an) [.d 4 .bool] [(0,⟨[.d 0 bu,.d 1 bu,.d 5 ah],aq (iT pR)⟩)] [] Tryz.f154 (lp [0] (sc dI sn))
def wD(t0 t1:List R3)(t5:Int):Rd ((List R3)×(List R3)×Int×Unit) Y2 :=
 cond (aG t5 (ae t0)) (
 cond (aZ t5 t0) (
 cond (aZ t5 t1) (
 cond (!(aj (gt d3 t0 t5).1 (gt d3 t1 t5).1)) (
 eC (false,())
 ) (
 eA (t0,t1,(aw .i64 t5 1),())
 )
 ) none
 ) none
 ) (
 eB (t0,t1,t5,())
 )
def SB:=vm (aq (iT wD))
def g32(p0 p1:List R3):Option gu :=
 cond (!(aj (ae p0) (ae p1))) (
 c0
 ) (
 (SB p0 p1 0).bind (Sum.elim (fun _ =>
 c3
 ) (fun y1 =>
 some ((),(y1,()))
 ))
 )
def s32:Su:=fU [.c false [q3],.c false [q3]] gC fun x=>g32 x.1.1 x.2.1.1
theorem acQ:au Tryz.prog 32 s32 :=
 fl an [.d 4 .bool] [(0,⟨[.d 0 q3,.d 1 q3,.d 5 ah],aq (iT wD)⟩)] [] Tryz.f32 (lp [0] (sc dI sn))
def QV(p0 p1:Int×Int×(List R3)×(List R3)×Unit):Option gu :=
 cond (!(aj p0.1 p1.1)) (
 c0
 ) (
 cond (!(aj p0.2.1 p1.2.1)) (
 c0
 ) (
 (g32 p0.2.2.1 p1.2.2.1).bind fun y1 =>
 cond (!y1.2.1.1) (
 c0
 ) (
 (g32 p0.2.2.2.1 p1.2.2.2.1).bind fun y2 =>
 cond (!y2.2.1.1) (
 c0
 ) (
 c3
 )
 )
 )
 )
def acd:Su:=fU [.c true [ah,ah,q3,q3],.c true [ah,ah,q3,q3]] gC fun x=>QV x.1 x.2.1
theorem aaC:au Tryz.prog 155 acd :=
 fq (ac acQ an) Tryz.f155
def xC(t0 t1:List R5)(t5:Int):Rd ((List R5)×(List R5)×Int×Unit) Y2 :=
 cond (aG t5 (ae t0)) (
 cond (aZ t5 t0) (
 cond (aZ t5 t1) (
 cond (!(aj (gt d5 t0 t5).1 (gt d5 t1 t5).1)) (
 eC (false,())
 ) (
 eA (t0,t1,(aw .i64 t5 1),())
 )
 ) none
 ) none
 ) (
 eB (t0,t1,t5,())
 )
def Td:=vm (aq (iT xC))
def g18(p0 p1:List R5):Option gu :=
 cond (!(aj (ae p0) (ae p1))) (
 c0
 ) (
 (Td p0 p1 0).bind (Sum.elim (fun _ =>
 c3
 ) (fun y1 =>
 some ((),(y1,()))
 ))
 )
def s18:Su:=fU [.c false [q5],.c false [q5]] gC fun x=>g18 x.1.1 x.2.1.1
theorem YX:au Tryz.prog 18 s18 :=
 fl an [.d 4 .bool] [(0,⟨[.d 0 q5,.d 1 q5,.d 5 ah],aq (iT xC)⟩)] [] Tryz.f18 (lp [0] (sc dI sn))
def Rz(p0 p1:S8×S8×(List R5)×Unit):Option gu :=
 cond (!(bk p0.1 p1.1)) (
 c0
 ) (
 cond (!(bk p0.2.1 p1.2.1)) (
 c0
 ) (
 (g18 p0.2.2.1 p1.2.2.1).bind fun y1 =>
 cond (!y1.2.1.1) (
 c0
 ) (
 c3
 )
 )
 )
def ac1:Su:=fU [.c true [.str,.str,q5],.c true [.str,.str,q5]] gC fun x=>Rz x.1 x.2.1
theorem X3:au Tryz.prog 227 ac1 :=
 fq (ac YX an) Tryz.f227
def qN(t0 t1:List bW)(t5:Int):Rd ((List bW)×(List bW)×Int×Unit) Y2 :=
 cond (aG t5 (ae t0)) (
 cond (aZ t5 t0) (
 cond (aZ t5 t1) (
 (Rz (gt d100 t0 t5) (gt d100 t1 t5)).bind fun y1 =>
 cond (!y1.2.1.1) (
 eC (false,())
 ) (
 eA (t0,t1,(aw .i64 t5 1),())
 )
 ) none
 ) none
 ) (
 eB (t0,t1,t5,())
 )
def M0:=vm (aq (iT qN))
def PB(p0 p1:List bW):Option gu :=
 cond (!(aj (ae p0) (ae p1))) (
 c0
 ) (
 (M0 p0 p1 0).bind (Sum.elim (fun _ =>
 c3
 ) (fun y1 =>
 some ((),(y1,()))
 ))
 )
def abt:Su:=fU [.c false [bP],.c false [bP]] gC fun x=>PB x.1.1 x.2.1.1
theorem aaI:au Tryz.prog 156 abt :=
 fl (ac X3 an) [.d 4 .bool] [(0,⟨[.d 0 bP,.d 1 bP,.d 5 ah],aq (iT qN)⟩)] [] Tryz.f156 (lp [0] (sc dI sn))
def g76(p0 p1:S8×Int×Int×Int×Int×(List bm)×Int×Int×(List R3)×(List R3)×(List bW)×Unit):Option gu :=
 cond (!(bk p0.1 p1.1)) (
 c0
 ) (
 cond (!(aj p0.2.1 p1.2.1)) (
 c0
 ) (
 cond (!(aj p0.2.2.1 p1.2.2.1)) (
 c0
 ) (
 cond (!(aj p0.2.2.2.1 p1.2.2.2.1)) (
 c0
 ) (
 cond (!(aj p0.2.2.2.2.1 p1.2.2.2.2.1)) (
 c0
 ) (
 (PX p0.2.2.2.2.2.1 p1.2.2.2.2.2.1).bind fun y1 =>
 cond (!y1.2.1.1) (
 c0
 ) (
 (QV (p0.2.2.2.2.2.2.1,p0.2.2.2.2.2.2.2.1,p0.2.2.2.2.2.2.2.2.1,p0.2.2.2.2.2.2.2.2.2.1,()) (p1.2.2.2.2.2.2.1,p1.2.2.2.2.2.2.2.1,p1.2.2.2.2.2.2.2.2.1,p1.2.2.2.2.2.2.2.2.2.1,())).bind fun y2 =>
 cond (!y2.2.1.1) (
 c0
 ) (
 (PB p0.2.2.2.2.2.2.2.2.2.2.1 p1.2.2.2.2.2.2.2.2.2.2.1).bind fun y3 =>
 cond (!y3.2.1.1) (
 c0
 ) (
 c3
 )
 )
 )
 )
 )
 )
 )
 )
def s76:Su:=fU [.c true [.str,ah,ah,ah,ah,bu,ah,ah,q3,q3,bP],.c true [.str,ah,ah,ah,ah,bu,ah,ah,q3,q3,bP]] gC fun x=>g76 x.1 x.2.1
theorem acD:au Tryz.prog 76 s76 :=
 fq (ac ZX (ac aaC (ac aaI an))) Tryz.f76
def v8(t0 t1:List iI)(t5:Int):Rd ((List iI)×(List iI)×Int×Unit) Y2 :=
 cond (aG t5 (ae t0)) (
 cond (aZ t5 t0) (
 cond (aZ t5 t1) (
 (g76 (gt d94 t0 t5) (gt d94 t1 t5)).bind fun y1 =>
 cond (!y1.2.1.1) (
 eC (false,())
 ) (
 eA (t0,t1,(aw .i64 t5 1),())
 )
 ) none
 ) none
 ) (
 eB (t0,t1,t5,())
 )
def Sa:=vm (aq (iT v8))
def g39(p0 p1:List iI):Option gu :=
 cond (!(aj (ae p0) (ae p1))) (
 c0
 ) (
 (Sa p0 p1 0).bind (Sum.elim (fun _ =>
 c3
 ) (fun y1 =>
 some ((),(y1,()))
 ))
 )
def s39:Su:=fU [.c false [jD],.c false [jD]] gC fun x=>g39 x.1.1 x.2.1.1
theorem acL:au Tryz.prog 39 s39 :=
 fl (ac acD an) [.d 4 .bool] [(0,⟨[.d 0 jD,.d 1 jD,.d 5 ah],aq (iT v8)⟩)] [] Tryz.f39 (lp [0] (sc dI sn))
def g13(p0 p1:(List iI)×Unit):Option gu :=
 (g39 p0.1 p1.1).bind fun y1 =>
 cond (!y1.2.1.1) (
 c0
 ) (
 c3
 )
def s13:Su:=fU [.c true [jD],.c true [jD]] gC fun x=>g13 x.1 x.2.1
theorem adD:au Tryz.prog 13 s13 :=
 fq (ac acL an) Tryz.f13
def g40(p0 p1:Int×(List R5)×(List R5)×Unit):Option gu :=
 cond (!(aj p0.1 p1.1)) (
 c0
 ) (
 (g18 p0.2.1 p1.2.1).bind fun y1 =>
 cond (!y1.2.1.1) (
 c0
 ) (
 (g18 p0.2.2.1 p1.2.2.1).bind fun y2 =>
 cond (!y2.2.1.1) (
 c0
 ) (
 c3
 )
 )
 )
def s40:Su:=fU [.c true [ah,q5,q5],.c true [ah,q5,q5]] gC fun x=>g40 x.1 x.2.1
theorem aed:au Tryz.prog 40 s40 :=
 fq (ac YX an) Tryz.f40
def xd(t0 t1:List vn)(t5:Int):Rd ((List vn)×(List vn)×Int×Unit) Y2 :=
 cond (aG t5 (ae t0)) (
 cond (aZ t5 t0) (
 cond (aZ t5 t1) (
 (g40 (gt d62 t0 t5) (gt d62 t1 t5)).bind fun y1 =>
 cond (!y1.2.1.1) (
 eC (false,())
 ) (
 eA (t0,t1,(aw .i64 t5 1),())
 )
 ) none
 ) none
 ) (
 eB (t0,t1,t5,())
 )
def Sx:=vm (aq (iT xd))
def g14(p0 p1:List vn):Option gu :=
 cond (!(aj (ae p0) (ae p1))) (
 c0
 ) (
 (Sx p0 p1 0).bind (Sum.elim (fun _ =>
 c3
 ) (fun y1 =>
 some ((),(y1,()))
 ))
 )
def s14:Su:=fU [.c false [Ev],.c false [Ev]] gC fun x=>g14 x.1.1 x.2.1.1
theorem acC:au Tryz.prog 14 s14 :=
 fl (ac aed an) [.d 4 .bool] [(0,⟨[.d 0 Ev,.d 1 Ev,.d 5 ah],aq (iT xd)⟩)] [] Tryz.f14 (lp [0] (sc dI sn))
def g3(p0:(List jW)×Unit)(p1:List vL):Option gu :=
 (g7 p0 1048576).bind fun y1 =>
 cond (aG y1.2.1.1 0) (
 c3
 ) (
 (g8 p1 y1.2.1.1).bind fun y2 =>
 cond (aG y2.2.1.1 0) (
 c3
 ) (
 let u1:=(g10 p0)
 Option.bind u1 fun y3 =>
 let u2:=(g11 p1)
 Option.bind u2 fun y4 =>
 (g9 y3.2.1 y4.2.1.1).bind fun y5 =>
 Option.bind u1 fun y6 =>
 Option.bind u2 fun y7 =>
 (g12 y6.2.1 y7.2.1.1).bind fun y8 =>
 cond (!(eqB y8.2.1.1 y5.2.1.1)) (
 c0
 ) (
 Option.bind u1 fun y9 =>
 (g13 y6.2.1 y9.2.1).bind fun y10 =>
 cond (!y10.2.1.1) (
 c0
 ) (
 Option.bind u2 fun y11 =>
 (g14 y7.2.1.1 y11.2.1.1).bind fun y12 =>
 cond (!y12.2.1.1) (
 c0
 ) (
 c3
 )
 )
 )
 )
 )
def s3:Su:=fU [.c true [Ez],.c false [Ye]] gC fun x=>g3 x.1 x.2.1.1
theorem ok3:au Tryz.prog 3 s3 :=
 fq (ac ok7 (ac ok8 (ac aej (ac acX (ac ok9 (ac ab4 (ac adD (ac acC an)))))))) Tryz.f3
end
end Go.Av
