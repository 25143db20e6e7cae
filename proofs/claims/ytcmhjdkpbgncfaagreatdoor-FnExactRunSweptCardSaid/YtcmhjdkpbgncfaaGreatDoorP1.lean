/- FnExactRunSwept, a part. -/
import Derived.Test.YtcmhjdkpbgncfaaGreatDoorP1a
set_option maxRecDepth 100000
namespace Go.Av
open Go.Proofs
open Tryz
set_option maxHeartbeats 4000000
noncomputable section
def acP(p0:S8):Option iG:=zR (cond (cond (bF p0 [48,49,48,48]) true (bF p0 [48,50,48,48])) true (bF p0 [48,50,50,48]))
def aiv:=fU [aS [.str]] iN fun x=>acP x.1.1
theorem aex:bj 115 aiv:=fq an f115
def sI(t1:Int)(t9:List fR)(t10 t11:Int):Rd (Int×(List fR)×Int×Int×Unit) (S8×Bool×Unit):=cond (aE t11 t10) (cond (aX t11 t9) (let u1:=(gt d117 t9 t11);cond (aj u1.1 t1) (eC (u1.2.1,true,())) (eA (t1,t9,t10,(ak .i64 t11 1),()))) none) (eB (t1,t9,t10,t11,()))
def T2:=rA (aq (ep sI))
def I7(p0:S8×(List fR)×Unit)(p1:Int):Option (Unit×(Y9×Y2×Unit)):=(T2 p1 p0.2.1 (ae p0.2.1) 0).bind (Sum.elim (fun _=>some ((),(([],()),(false,()),()))) (fun y1=>some ((),((y1.1,()),(y1.2.1,()),()))))
def ajS:=fU [dL [.str,eO],aS [af]] [(false,[.str]),(false,[.bool])] fun x=>I7 x.1 x.2.1.1
theorem aaY:bj 116 ajS:=fl an [.d 4 .str,.d 5 .bool] [(0,⟨[.d 1 af,.d 9 eO,.d 10 af,.d 11 af],aq (ep sI)⟩)] [] f116 (lp [0] (sc dU sn))
def VL:Option (Unit×(((List Oh)×Unit)×Unit)):=zR [([48,49,48,48],[48,48],[97,117,116,104],[(4,()),(14,()),(38,())],()),([48,49,48,48],[48,50],[109,111,114,101],[(4,()),(38,())],()),([48,50,50,48],[48,49],[112,97,114,116],[(4,()),(38,())],()),([48,50,50,48],[48,48],[102,105,110,97,108],[(4,()),(38,())],()),([48,50,50,48],[50,48],[102,114,101,101],[(38,())],()),([48,50,48,48],[52,48],[109,111,118,101],[(38,()),(103,())],()),([48,49,48,48],[51,49],[97,115,107],[],()),([48,50,48,48],[57,48],[115,119,101,101,112],[],())]
def ajy:Su:=⟨[],[(false,[.sl 146 Lv])],false,.inl fun x=>VL ⟩
theorem aav:bj 118 ajy:=fl an [] [] [999999] f118 dU
def acd(p0:S8×S8×S8×(List R3)×Unit)(p1:S8×(List fR)×Unit)(p2:S8×Unit):Option iG:=cond (bF p0.1 p1.1) (cond (eY 0 2 p2.1) (zR (bF p0.2.1 (sub p2.1 0 2))) none) (c0)
def air:=fU [dL [.str,.str,.str,q3],.pt [.str,eO],.pt [.str]] iN fun x=>acd x.1 x.2.1 x.2.2.1
theorem afV:bj 119 air:=fq an f119
def sN(t0:List Oh)(f1:xJ×Y9×Unit)(t7 t8:Int):Rd ((List Oh)×(xJ×Y9×Unit)×Int×Int×Unit) Y1:=cond (aE t8 t7) (cond (aX t8 t0) ((acd (gt d146 t0 t8) f1.1 f1.2.1).bind fun y1=>cond y1.2.1.1 (eC (t8,())) (eA (t0,f1,t7,(ak .i64 t8 1),()))) none) (eB (t0,f1,t7,t8,()))
def aca:=rA (aq (ep sN))
def Xu(p0:List Oh)(c1_0:S8×(List fR)×Unit)(c1_1:S8×Unit):Option iP:=(aca p0 (c1_0,c1_1,()) (ae p0) 0).bind (Sum.elim (fun _=>c2) (fun y1=>some ((),(y1,()))))
def akZ:=fU [aS [.sl 146 Lv],.fn 119 [.p [.str,eO],.p [.str]]] jd fun x=>Xu x.1.1 x.2.1.1 x.2.1.2.1
theorem aga:bj 117 akZ:=fl (ac afV an) [.d 4 af] [(0,⟨[.d 0 (.sl 146 Lv),.fn 1 119 [.p [.str,eO],.p [.str]],.d 7 af,.d 8 af],aq (ep sN)⟩)] [] f117 (lp [0] (sc dU sn))
def EB(p0:Int):Option (Unit×(Oh×Unit)):=(iZ p0 1 8).bind fun y1=>cond (!y1.2.1.1) (some ((),(([],[],[],[],()),()))) ((VL).bind fun y2=>let u1:=(bf .i64 p0 1);cond (aX u1 y2.2.1.1) (some ((),((gt d146 y2.2.1.1 u1),()))) none)
def ajA:Su:=⟨[.c false [af]],[(true,[.str,.str,.str,q3])],false,.inl fun x=>EB x.1.1⟩
theorem T4:bj 120 ajA:=fl (ac ke (ac aav an)) [] [] [999999] f120 dU
def sD(t0:List R3)(t1 t7 t8:Int):Rd ((List R3)×Int×Int×Int×Unit) Y1:=cond (aE t8 t7) (cond (aX t8 t0) (cond (aj t1 (gt d3 t0 t8).1) (eC (t8,())) (eA (t0,t1,t7,(ak .i64 t8 1),()))) none) (eB (t0,t1,t7,t8,()))
def T1:=rA (aq (ep sD))
def abo(p0:List R3)(p1:Int):Option iP:=(T1 p0 p1 (ae p0) 0).bind (Sum.elim (fun _=>c2) (fun y1=>some ((),(y1,()))))
def aiR:=fU [aS [q3],aS [af]] jd fun x=>abo x.1.1 x.2.1.1
theorem agq:bj 285 aiR:=fl an [.d 4 af] [(0,⟨[.d 0 q3,.d 1 af,.d 7 af,.d 8 af],aq (ep sD)⟩)] [] f285 (lp [0] (sc dU sn))
def WR(p0:List R3)(p1:Int):Option iG:=(abo p0 p1).bind fun y1=>zR (cl 0 y1.2.1.1)
def ajR:=fU [aS [q3],aS [af]] iN fun x=>WR x.1.1 x.2.1.1
theorem aey:bj 254 ajR:=fq (ac agq an) f254
def nF(p0 p1:Int):Option iG:=(EB p0).bind fun y1=>(WR y1.2.1.2.2.2.1 p1).bind fun y2=>some ((),(y2.2.1,()))
def ajd:=fU [aS [af],aS [af]] iN fun x=>nF x.1.1 x.2.1.1
theorem aet:bj 203 ajd:=fq (ac T4 (ac aey an)) f203
def NP(p0:Int×S8×S8×S8×S8×S8×Int×Int×Unit):Option iG:=(EB p0.1).bind fun y1=>cond (cond (bF y1.2.1.2.2.1 []) true (!(bF p0.2.2.2.2.2.1 y1.2.1.1))) (c0) ((xg p0.2.1).bind fun y2=>cond (!y2.2.1.1) (c0) ((yi p0.2.2.2.2.1 6).bind fun y3=>cond (!y3.2.1.1) (c0) ((nF p0.1 38).bind fun y4=>cond y4.2.1.1 ((HF p0.2.2.2.1).bind fun y5=>let u1:=(nF p0.1 4);Option.bind u1 fun y6=>cond y6.2.1.1 (let u2:=(iZ p0.2.2.2.2.2.2.1 0 999999999999);Option.bind u2 fun y7=>let u3:=(nF p0.1 14);Option.bind u3 fun y8=>cond y8.2.1.1 (let u4:=(iZ p0.2.2.2.2.2.2.2.1 0 9999);Option.bind u4 fun y9=>let u5:=(nF p0.1 103);Option.bind u5 fun iz=>cond iz.2.1.1 (let u6:=(xg p0.2.2.1);Option.bind u6 fun lq=>let u7:=(cond y5.2.1.1 y7.2.1.1 false);let u8:=(cond u7 y9.2.1.1 false);zR (cond u8 lq.2.1.1 false)) (let u6:=(cond y5.2.1.1 y7.2.1.1 false);let u7:=(cond u6 y9.2.1.1 false);let u8:=(bF p0.2.2.1 []);zR (cond u7 u8 false))) (let u4:=(nF p0.1 103);Option.bind u4 fun y9=>cond y9.2.1.1 (let u5:=(xg p0.2.2.1);Option.bind u5 fun iz=>let u6:=(cond y5.2.1.1 y7.2.1.1 false);let u7:=(cond u6 (aj p0.2.2.2.2.2.2.2.1 0) false);zR (cond u7 iz.2.1.1 false)) (let u5:=(cond y5.2.1.1 y7.2.1.1 false);let u6:=(cond u5 (aj p0.2.2.2.2.2.2.2.1 0) false);let u7:=(bF p0.2.2.1 []);zR (cond u6 u7 false)))) (let u2:=(nF p0.1 14);Option.bind u2 fun y7=>cond y7.2.1.1 (let u3:=(iZ p0.2.2.2.2.2.2.2.1 0 9999);Option.bind u3 fun y8=>let u4:=(nF p0.1 103);Option.bind u4 fun y9=>cond y9.2.1.1 (let u5:=(xg p0.2.2.1);Option.bind u5 fun iz=>let u6:=(cond y5.2.1.1 (aj p0.2.2.2.2.2.2.1 0) false);let u7:=(cond u6 y8.2.1.1 false);zR (cond u7 iz.2.1.1 false)) (let u5:=(cond y5.2.1.1 (aj p0.2.2.2.2.2.2.1 0) false);let u6:=(cond u5 y8.2.1.1 false);let u7:=(bF p0.2.2.1 []);zR (cond u6 u7 false))) (let u3:=(nF p0.1 103);Option.bind u3 fun y8=>cond y8.2.1.1 (let u4:=(xg p0.2.2.1);Option.bind u4 fun y9=>let u5:=(cond y5.2.1.1 (aj p0.2.2.2.2.2.2.1 0) false);let u6:=(cond u5 (aj p0.2.2.2.2.2.2.2.1 0) false);zR (cond u6 y9.2.1.1 false)) (let u4:=(cond y5.2.1.1 (aj p0.2.2.2.2.2.2.1 0) false);let u5:=(cond u4 (aj p0.2.2.2.2.2.2.2.1 0) false);let u6:=(bF p0.2.2.1 []);zR (cond u5 u6 false))))) (let u1:=(nF p0.1 4);Option.bind u1 fun y5=>cond y5.2.1.1 (let u2:=(iZ p0.2.2.2.2.2.2.1 0 999999999999);Option.bind u2 fun y6=>let u3:=(nF p0.1 14);Option.bind u3 fun y7=>cond y7.2.1.1 (let u4:=(iZ p0.2.2.2.2.2.2.2.1 0 9999);Option.bind u4 fun y8=>let u5:=(nF p0.1 103);Option.bind u5 fun y9=>cond y9.2.1.1 (let u6:=(xg p0.2.2.1);Option.bind u6 fun iz=>let u7:=(bF p0.2.2.2.1 []);let u8:=(cond u7 y6.2.1.1 false);let u9:=(cond u8 y8.2.1.1 false);zR (cond u9 iz.2.1.1 false)) (let u6:=(bF p0.2.2.2.1 []);let u7:=(cond u6 y6.2.1.1 false);let u8:=(cond u7 y8.2.1.1 false);let u9:=(bF p0.2.2.1 []);zR (cond u8 u9 false))) (let u4:=(nF p0.1 103);Option.bind u4 fun y8=>cond y8.2.1.1 (let u5:=(xg p0.2.2.1);Option.bind u5 fun y9=>let u6:=(bF p0.2.2.2.1 []);let u7:=(cond u6 y6.2.1.1 false);let u8:=(cond u7 (aj p0.2.2.2.2.2.2.2.1 0) false);zR (cond u8 y9.2.1.1 false)) (let u5:=(bF p0.2.2.2.1 []);let u6:=(cond u5 y6.2.1.1 false);let u7:=(cond u6 (aj p0.2.2.2.2.2.2.2.1 0) false);let u8:=(bF p0.2.2.1 []);zR (cond u7 u8 false)))) (let u2:=(nF p0.1 14);Option.bind u2 fun y6=>cond y6.2.1.1 (let u3:=(iZ p0.2.2.2.2.2.2.2.1 0 9999);Option.bind u3 fun y7=>let u4:=(nF p0.1 103);Option.bind u4 fun y8=>cond y8.2.1.1 (let u5:=(xg p0.2.2.1);Option.bind u5 fun y9=>let u6:=(bF p0.2.2.2.1 []);let u7:=(cond u6 (aj p0.2.2.2.2.2.2.1 0) false);let u8:=(cond u7 y7.2.1.1 false);zR (cond u8 y9.2.1.1 false)) (let u5:=(bF p0.2.2.2.1 []);let u6:=(cond u5 (aj p0.2.2.2.2.2.2.1 0) false);let u7:=(cond u6 y7.2.1.1 false);let u8:=(bF p0.2.2.1 []);zR (cond u7 u8 false))) (let u3:=(nF p0.1 103);Option.bind u3 fun y7=>cond y7.2.1.1 (let u4:=(xg p0.2.2.1);Option.bind u4 fun y8=>let u5:=(bF p0.2.2.2.1 []);let u6:=(cond u5 (aj p0.2.2.2.2.2.2.1 0) false);let u7:=(cond u6 (aj p0.2.2.2.2.2.2.2.1 0) false);zR (cond u7 y8.2.1.1 false)) (let u4:=(bF p0.2.2.2.1 []);let u5:=(cond u4 (aj p0.2.2.2.2.2.2.1 0) false);let u6:=(cond u5 (aj p0.2.2.2.2.2.2.2.1 0) false);let u7:=(bF p0.2.2.1 []);zR (cond u6 u7 false))))))))
def aeU:=fU [dL [af,.str,.str,.str,.str,.str,af,af]] iN fun x=>NP x.1
theorem Qa:bj 123 aeU:=fq (ac Zf (ac ke (ac Ac (ac K9 (ac T4 (ac aet an)))))) f123
def Em(t0:S8)(t1:Int):Rd Y14 Unit:=let u1:=(ae t0);cond (aE 0 u1) (let u2:=(bf .i64 u1 1);cond (aX u2 t0) (cond (aj (fh t0 u2) t1) (cond (eY 0 u2 t0) (eA ((sub t0 0 u2),t1,())) none) (eB (t0,t1,()))) none) (eB (t0,t1,()))
def P3:=U4 (aq (yZ Em))
def PN(p0:S8)(p1:Int):Option EP:=(P3 p0 p1).bind (Sum.elim (fun y1=>zR y1.1) (fun _=>none))
def ajx:=fU [aS [.str],.c false xN] Fm fun x=>PN x.1.1 x.2.1.1
theorem agS:bj 250 ajx:=fl an [] [(0,⟨[.d 0 .str,.d 1 (.int .u8)],aq (yZ Em)⟩)] [] f250 (lp [0] (sc dU sn))
def acZ(p0 p1:S8):Option EP:=cond (cond (bF p0 []) true (bF p1 [])) (zR p0) (cond (aj (ae p1) 1) (cond (aX 0 p1) (let u1:=(fh p1 0);cond (aE u1 128) (cond (aX 0 p1) ((PN p0 u1).bind fun y1=>some ((),(y1.2.1,()))) none) (none)) none) (none))
def ald:=fU [aS [.str],aS [.str]] Fm fun x=>acZ x.1.1 x.2.1.1
theorem ahH:bj 202 ald:=fq (ac agS an) f202
def VM(p0:S8):Option EP:=(acZ p0 [32]).bind fun y1=>some ((),(y1.2.1,()))
def alb:=fU [aS [.str]] Fm fun x=>VM x.1.1
theorem afh:bj 122 alb:=fq (ac ahH an) f122
def A4(t41:List R3)(t42 t43:Int)(b1:S8×(List fR)×Unit)(b2 b6:Int×S8×S8×S8×S8×S8×Int×Int×Unit):Rd ((List R3)×Int×Int×xJ×Y66×Y66×Unit) (Int×Y66×Unit):=cond (aE t43 t42) (cond (aX t43 t41) ((I7 b1 (gt d3 t41 t43).1).bind fun y1=>cond (!y1.2.2.1.1) (eC (1,(0,[],[],[],[],[],0,0,()),())) (cond (aj (gt d3 t41 t43).1 2) (let u1:=(ak .i64 t43 1);eA (t41,t42,u1,b1,b2,(b6.1,y1.2.1.1,b6.2.2.1,b6.2.2.2.1,b6.2.2.2.2.1,b6.2.2.2.2.2.1,b6.2.2.2.2.2.2.1,b6.2.2.2.2.2.2.2.1,()),())) (cond (aj (gt d3 t41 t43).1 4) (let u1:=(Jy y1.2.1.1);Option.bind u1 fun y2=>let u2:=(ak .i64 t43 1);eA (t41,t42,u2,b1,b2,(b6.1,b6.2.1,b6.2.2.1,b6.2.2.2.1,b6.2.2.2.2.1,b6.2.2.2.2.2.1,y2.2.1.1,b6.2.2.2.2.2.2.2.1,()),())) (cond (aj (gt d3 t41 t43).1 11) (let u1:=(ak .i64 t43 1);eA (t41,t42,u1,b1,b2,(b6.1,b6.2.1,b6.2.2.1,b6.2.2.2.1,y1.2.1.1,b6.2.2.2.2.2.1,b6.2.2.2.2.2.2.1,b6.2.2.2.2.2.2.2.1,()),())) (cond (aj (gt d3 t41 t43).1 14) (let u1:=(Jy y1.2.1.1);Option.bind u1 fun y2=>let u2:=(ak .i64 t43 1);eA (t41,t42,u2,b1,b2,(b6.1,b6.2.1,b6.2.2.1,b6.2.2.2.1,b6.2.2.2.2.1,b6.2.2.2.2.2.1,b6.2.2.2.2.2.2.1,y2.2.1.1,()),())) (cond (aj (gt d3 t41 t43).1 38) ((VM y1.2.1.1).bind fun y2=>let u1:=(ak .i64 t43 1);eA (t41,t42,u1,b1,b2,(b6.1,b6.2.1,b6.2.2.1,y2.2.1.1,b6.2.2.2.2.1,b6.2.2.2.2.2.1,b6.2.2.2.2.2.2.1,b6.2.2.2.2.2.2.2.1,()),())) (cond (aj (gt d3 t41 t43).1 103) (let u1:=(ak .i64 t43 1);eA (t41,t42,u1,b1,b2,(b6.1,b6.2.1,y1.2.1.1,b6.2.2.2.1,b6.2.2.2.2.1,b6.2.2.2.2.2.1,b6.2.2.2.2.2.2.1,b6.2.2.2.2.2.2.2.1,()),())) (let u1:=(ak .i64 t43 1);eA (t41,t42,u1,b1,b2,b6,()))))))))) none) (eB (t41,t42,t43,b1,b2,b6,()))
def aae:=cu6 (aq (Fo A4))
def g63(p0:S8×(List fR)×Unit):Option (Unit×(Y66×Y1×Unit)):=(Hf p0).bind fun y1=>cond (!y1.2.1.1) (c1) ((acP p0.1).bind fun y2=>cond (!y2.2.1.1) (c30) ((I7 p0 3).bind fun y3=>cond (!y3.2.2.1.1) (c1) ((VL).bind fun y4=>(Xu y4.2.1.1 p0 y3.2.1).bind fun y5=>let u1:=(ak .i64 1 y5.2.1.1);(EB u1).bind fun y6=>cond (bk 8 [(2,()),(11,())] y6.2.1.2.2.2.1) (let u2:=(fE [(2,()),(11,())] y6.2.1.2.2.2.1);(aae u2 (ae u2) 0 p0 (0,[],[],[],[],[],0,0,()) (u1,[],[],[],[],p0.1,0,0,())).bind (Sum.elim (fun y7=>(NP y7.2.2.2.2.2.1).bind fun y8=>cond (!y8.2.1.1) (c1) (some ((),(y7.2.2.2.2.2.1,(0,()),())))) (fun y7=>some ((),(y7.2.1,(y7.1,()),()))))) none)))
def s63:=fU [dL [.str,eO]] [(true,[af,.str,.str,.str,.str,.str,af,af]),(false,[af])] fun x=>g63 x.1
theorem aba:bj 63 s63:=fl (ac aan (ac LC (ac aex (ac aaY (ac aav (ac aga (ac T4 (ac Qa (ac afh an))))))))) [.d 3 af,.box 2 [(false,.int .i64),(false,.str),(false,.str),(false,.str),(false,.str),(false,.str),(false,.int .i64),(false,.int .i64)]] [(0,⟨[.own 41 q3,.d 42 af,.d 43 af,.box 1 [(false,.str),(false,eO)],.box 2 [(false,.int .i64),(false,.str),(false,.str),(false,.str),(false,.str),(false,.str),(false,.int .i64),(false,.int .i64)],.box 6 [(false,.int .i64),(false,.str),(false,.str),(false,.str),(false,.str),(false,.str),(false,.int .i64),(false,.int .i64)]],aq (Fo A4)⟩)] [] f63 (lp [0] (sc dU sn))
def VO(p0:Int)(p1:S8):Option EP:=(SW p0).bind fun y1=>(DP p0).bind fun y2=>cond (aj y2.2.1.1 1) (let u1:=(Jd (bf .i64 y1.2.1.1 (ae p1)) 0);(IP [48] u1).bind fun y3=>cond (jx y3.2.1.1 p1) (let u2:=(uz y3.2.1.1 p1);(sH p0 u2).bind fun y4=>cond (!y4.2.1.1) (c6) (zR u2)) none) (cond (aj y2.2.1.1 2) (let u1:=(Jd (bf .i64 y1.2.1.1 (ae p1)) 0);(IP [32] u1).bind fun y3=>cond (jx p1 y3.2.1.1) (let u2:=(uz p1 y3.2.1.1);(sH p0 u2).bind fun y4=>cond (!y4.2.1.1) (c6) (zR u2)) none) ((sH p0 p1).bind fun y3=>cond (!y3.2.1.1) (c6) (zR p1)))
def aim:=fU [aS [af],aS [.str]] Fm fun x=>VO x.1.1 x.2.1.1
theorem ahD:bj 206 aim:=fq (ac FY (ac aag (ac La (ac YN an)))) f206
def Gd(p0:Int)(p1:S8)(p2:S8×(List fR)×Unit):Option ((xJ×Unit)×Unit):=cond (bk 24 p2.2.1 [(p0,p1,())]) (some (((p2.1,(fE p2.2.1 [(p0,p1,())]),()),()),())) none
def akH:=fU [aS [af],aS [.str],.pw [(false,.str),(true,eO)]] [] fun x=>Gd x.1.1 x.2.1.1 x.2.2.1
theorem ahl:bj 205 akH:=fl an [] [] [2] f205 dU
def se(t1:Int)(t2 t3:S8)(_:Unit)(t36:List R3)(t37 t38:Int)(b4 b8 pX:S8×(List fR)×Unit):Rd (Int×S8×S8×Unit×(List R3)×Int×Int×xJ×xJ×xJ×Unit) Unit:=cond (aE t38 t37) (cond (aX t38 t36) ((I7 b4 (gt d3 t36 t38).1).bind fun y1=>cond (aj (gt d3 t36 t38).1 38) (cond (cond (aj t1 0) (!(bF t2 [])) false) ((VO 38 t2).bind fun y2=>(Gd 38 y2.2.1.1 pX).bind fun y3=>let u1:=(ak .i64 t38 1);eA (t1,t2,t3,(),t36,t37,u1,b4,b8,y3.1.1,())) (let u1:=(ak .i64 t38 1);eA (t1,t2,t3,(),t36,t37,u1,b4,b8,pX,()))) (cond (aj (gt d3 t36 t38).1 39) ((OE t1).bind fun y2=>(Gd 39 y2.2.1.1 pX).bind fun y3=>let u1:=(ak .i64 t38 1);eA (t1,t2,t3,(),t36,t37,u1,b4,b8,y3.1.1,())) (cond (aj (gt d3 t36 t38).1 54) (cond (!(bF t3 [])) ((Gd 54 t3 pX).bind fun y2=>let u1:=(ak .i64 t38 1);eA (t1,t2,t3,(),t36,t37,u1,b4,b8,y2.1.1,())) (let u1:=(ak .i64 t38 1);eA (t1,t2,t3,(),t36,t37,u1,b4,b8,pX,()))) (cond y1.2.2.1.1 ((Gd (gt d3 t36 t38).1 y1.2.1.1 pX).bind fun y2=>let u1:=(ak .i64 t38 1);eA (t1,t2,t3,(),t36,t37,u1,b4,b8,y2.1.1,())) (let u1:=(ak .i64 t38 1);eA (t1,t2,t3,(),t36,t37,u1,b4,b8,pX,())))))) none) (eB (t1,t2,t3,(),t36,t37,t38,b4,b8,pX,()))
def Td:=ahh (aq (OK se))
def Wu(p0:S8×(List fR)×Unit)(p1:Int)(p2 p3:S8):Option Y62:=(Hf p0).bind fun y1=>cond (!y1.2.1.1) (XF) (let u1:=(g60 p0.1);Option.bind u1 fun y2=>cond (bF y2.2.1.1 []) (XF) ((OE p1).bind fun y3=>cond (bF y3.2.1.1 []) (XF) (Option.bind u1 fun y4=>(Td p1 p2 p3 () [(2,()),(3,()),(4,()),(7,()),(11,()),(37,()),(38,()),(39,()),(41,()),(49,()),(54,()),(102,()),(103,())] (ae [(2,()),(3,()),(4,()),(7,()),(11,()),(37,()),(38,()),(39,()),(41,()),(49,()),(54,()),(102,()),(103,())]) 0 p0 ([],[],()) (y4.2.1.1,[],())).bind (Sum.elim (fun y5=>(Hf y5.2.2.2.2.2.2.2.2.2.1).bind fun y6=>cond (!y6.2.1.1) (XF) (some ((),(y5.2.2.2.2.2.2.2.2.2.1,(true,()),())))) (fun _=>none)))))
def ajl:=fU [dL [.str,eO],aS [af],aS [.str],aS [.str]] [(true,[.str,eO]),(false,[.bool])] fun x=>Wu x.1 x.2.1.1 x.2.2.1.1 x.2.2.2.1.1
theorem ae0:bj 124 ajl:=fl (ac Sx (ac aaD (ac LC (ac aaY (ac ahD (ac ahl an)))))) [] [(0,⟨[.d 1 af,.d 2 .str,.d 3 .str,.fr 11 205 10,.own 36 q3,.d 37 af,.d 38 af,.box 4 [(false,.str),(false,eO)],.box 8 [(false,.str),(true,eO)],.box 10 [(false,.str),(true,eO)]],aq (OK se)⟩)] [] f124 (lp [0] (sc dU sn))
def YY(p0:S8×(List fR)×Unit)(p1:Int)(p2 p3:S8):Option Y26:=(Wu p0 p1 p2 p3).bind fun y1=>(g62 y1.2.1).bind fun y2=>some ((),(y2.2.1,()))
def s64:=fU [dL [.str,eO],aS [af],aS [.str],aS [.str]] w8R fun x=>YY x.1 x.2.1.1 x.2.2.1.1 x.2.2.2.1.1
theorem acr:bj 64 s64:=fq (ac Vx (ac ae0 an)) f64
def ac7(p0:S8×Int×Int×Int×Int×(List bA)×Int×Int×(List R3)×(List R3)×(List ch)×Unit)(p1:S8×Unit):Option iG:=zR (bF p0.1 p1.1)
def akv:=fU [dL [.str,af,af,af,af,bH,af,af,q3,q3,ck],.pt [.str]] iN fun x=>ac7 x.1 x.2.1
theorem afy:bj 126 akv:=fq an f126
def sf(t0:List gr)(f1:Y9×Unit)(t7 t8:Int):Rd ((List gr)×(Y9×Unit)×Int×Int×Unit) Y1:=cond (aE t8 t7) (cond (aX t8 t0) ((ac7 (gt d94 t0 t8) f1.1).bind fun y1=>cond y1.2.1.1 (eC (t8,())) (eA (t0,f1,t7,(ak .i64 t8 1),()))) none) (eB (t0,f1,t7,t8,()))
def RT:=rA (aq (ep sf))
def acB(p0:List gr)(c1_0:S8×Unit):Option iP:=(RT p0 (c1_0,()) (ae p0) 0).bind (Sum.elim (fun _=>c2) (fun y1=>some ((),(y1,()))))
def aiu:=fU [aS [jZ],.fn 126 [.p [.str]]] jd fun x=>acB x.1.1 x.2.1.1
theorem aek:bj 125 aiu:=fl (ac afy an) [.d 4 af] [(0,⟨[.d 0 jZ,.fn 1 126 [.p [.str]],.d 7 af,.d 8 af],aq (ep sf)⟩)] [] f125 (lp [0] (sc dU sn))
def g65(p0:(List gr)×Unit)(p1:S8):Option iP:=(acB p0.1 (p1,())).bind fun y1=>some ((),(y1.2.1,()))
def s65:=fU [dL [jZ],aS [.str]] jd fun x=>g65 x.1 x.2.1.1
theorem RP:bj 65 s65:=fq (ac aek an) f65
def g66(p0:List ch)(p1 p2:S8):Option O4:=(PR p0 p1 p2).bind fun y1=>cond (aE y1.2.1.1 0) (c7) (cond (aX y1.2.1.1 p0) ((J9 (gt d100 p0 y1.2.1.1).2.2.1).bind fun y2=>some ((),(y2.2.1,(true,()),()))) none)
def s66:=fU [aS [ck],aS [.str],aS [.str]] US fun x=>g66 x.1.1 x.2.1.1 x.2.2.1.1
theorem acb:bj 66 s66:=fq (ac ZD (ac aaJ an)) f66
def vy(p0:S8×Int×Int×Int×Int×(List bA)×Int×Int×(List R3)×(List R3)×(List ch)×Unit)(p1:Int):Option Hr:=(IZ p0).bind fun y1=>cond (!y1.2.1.1) (c8) ((M8 p1).bind fun y2=>cond (!y2.2.1.1) (c8) ((Sr p0 p1).bind fun y3=>some ((),(y3.2.1,(0,()),()))))
def afR:=fU [dL [.str,af,af,af,af,bH,af,af,q3,q3,ck],aS [af]] TJ fun x=>vy x.1 x.2.1.1
theorem Aw:bj 209 afR:=fq (ac sP (ac K6 (ac Zt an))) f209
def adI(p0:S8×Int×Int×Unit)(p1:S8×Unit):Option iG:=zR (bF p0.1 p1.1)
def aiE:=fU [dL [.str,af,af],.pt [.str]] iN fun x=>adI x.1 x.2.1
theorem ahc:bj 257 aiE:=fq an f257
def l9(t0:List bA)(f1:Y9×Unit)(t7 t8:Int):Rd Y58 Y1:=cond (aE t8 t7) (cond (aX t8 t0) ((adI (gt d192 t0 t8) f1.1).bind fun y1=>cond y1.2.1.1 (eC (t8,())) (eA (t0,f1,t7,(ak .i64 t8 1),()))) none) (eB (t0,f1,t7,t8,()))
def Hv:=rA (aq (ep l9))
def JN(p0:List bA)(c1_0:S8×Unit):Option iP:=(Hv p0 (c1_0,()) (ae p0) 0).bind (Sum.elim (fun _=>c2) (fun y1=>some ((),(y1,()))))
def ab2:=fU [aS [bH],.fn 257 [.p [.str]]] jd fun x=>JN x.1.1 x.2.1.1
theorem X8:bj 256 ab2:=fl (ac ahc an) [.d 4 af] [(0,⟨[.d 0 bH,.fn 1 257 [.p [.str]],.d 7 af,.d 8 af],aq (ep l9)⟩)] [] f256 (lp [0] (sc dU sn))
def J2(p0:List bA)(p1:S8):Option iP:=(JN p0 (p1,())).bind fun y1=>some ((),(y1.2.1,()))
def ahg:=fU [aS [bH],aS [.str]] jd fun x=>J2 x.1.1 x.2.1.1
theorem GN:bj 210 ahg:=fq (ac X8 an) f210
def Xl(p0:List bA)(p1:Int):Option iP:=(Sd p0 p1).bind fun y1=>(TY y1.2.1.1).bind fun y2=>some ((),(y2.2.1,()))
def ajp:=fU [aS [bH],aS [af]] jd fun x=>Xl x.1.1 x.2.1.1
theorem age:bj 264 ajp:=fq (ac aaL (ac ZB an)) f264
def MM(p0:S8×Int×Int×Int×Int×(List bA)×Int×Int×(List R3)×(List R3)×(List ch)×Unit)(p1:Int):Option iP:=(IZ p0).bind fun y1=>cond (!y1.2.1.1) (c5) ((M8 p1).bind fun y2=>cond (!y2.2.1.1) (c5) ((Xl p0.2.2.2.2.2.1 p1).bind fun y3=>zR (bf .i64 (bf .i64 p0.2.1 p0.2.2.1) y3.2.1.1)))
def agj:=fU [dL [.str,af,af,af,af,bH,af,af,q3,q3,ck],aS [af]] jd fun x=>MM x.1 x.2.1.1
theorem HU:bj 216 agj:=fq (ac sP (ac K6 (ac age an))) f216
def tX(t0:List R3)(t1:Int)(t5:List R3)(t11 t12:Int):Rd ((List R3)×Int×(List R3)×Int×Int×Unit) Unit:=cond (aE t12 t11) (cond (cl t1 t12) (let u1:=(bf .i64 t12 t1);cond (aX u1 t0) (cond (aX t12 t5) (let u2:=(ak .i64 t12 1);eA (t0,t1,(cZ t5 t12 (gt d3 t0 u1)),t11,u2,())) none) none) (let u1:=(ak .i64 t12 1);eA (t0,t1,t5,t11,u1,()))) (eB (t0,t1,t5,t11,t12,()))
def Px:=O6 (aq (pY tX))
def QC(p0:List R3)(p1:Int):Option Y25:=let u1:=(ae p0);cond (WS 8 u1) ((Px p0 p1 (xh d3 u1) u1 0).bind (Sum.elim (fun y1=>zR y1.2.2.1) (fun _=>none))) none
def ak4:=fU [aS [q3],aS [af]] [(false,[q3])] fun x=>QC x.1.1 x.2.1.1
theorem agA:bj 295 ak4:=fl an [] [(0,⟨[.d 0 q3,.d 1 af,.own 5 q3,.d 11 af,.d 12 af],aq (pY tX)⟩)] [] f295 (lp [0] (sc dU sn))
def OB(p0:Int×Int×(List R3)×(List R3)×Unit)(p1:Int):Option Y55:=(E4 p0).bind fun y1=>(E3 p0).bind fun y2=>cond (!y2.2.1.1) (some ((),(y1.2.1,()))) ((M8 p1).bind fun y3=>cond (!y3.2.1.1) (some ((),(y1.2.1,()))) (cond (!(aj p0.1 0)) (let u1:=(kr .i64 p1 p0.1);cond (cl u1 p0.2.1) (some ((),(y1.2.1,()))) (cond (!(aj p0.1 0)) (cond (!(aj p0.1 0)) (let u2:=(bf .i64 u1 p0.2.1);(QC p0.2.2.1 u2).bind fun y4=>(QC p0.2.2.2.1 u2).bind fun y5=>some ((),((p0.1,u1,y4.2.1.1,y5.2.1.1,()),()))) none) none)) none))
def af8:=fU [dL [af,af,q3,q3],aS [af]] w6R fun x=>OB x.1 x.2.1.1
theorem LV:bj 261 af8:=fq (ac KV (ac sP (ac C0 (ac agA an)))) f261
def sv(t3:Int)(t6:List R3)(t7 t8:Int):Rd (Int×(List R3)×Int×Int×Unit) Unit:=cond (aE t8 t7) (cond (aX t8 t6) ((B6 t3 (gt d3 t6 t8).1).bind fun y1=>eA (y1.2.1.1,t6,t7,(ak .i64 t8 1),())) none) (eB (t3,t6,t7,t8,()))
def T0:=rA (aq (ep sv))
def Re(p0:List R3):Option iP:=(T0 0 p0 (ae p0) 0).bind (Sum.elim (fun y1=>zR y1.1) (fun _=>none))
def ai2:=fU [aS [q3]] jd fun x=>Re x.1.1
theorem ZI:bj 292 ai2:=fl (ac Dl an) [] [(0,⟨[.d 3 af,.d 6 q3,.d 7 af,.d 8 af],aq (ep sv)⟩)] [] f292 (lp [0] (sc dU sn))
def S5(p0:Int×Int×(List R3)×(List R3)×Unit)(p1:Int):Option iP:=(E3 p0).bind fun y1=>cond (!y1.2.1.1) (c5) ((M8 p1).bind fun y2=>cond (!y2.2.1.1) (c5) ((OB p0 p1).bind fun y3=>(Re y3.2.1.2.2.1).bind fun y4=>some ((),(y4.2.1,()))))
def alf:=fU [dL [af,af,q3,q3],aS [af]] jd fun x=>S5 x.1 x.2.1.1
theorem afe:bj 258 alf:=fq (ac sP (ac C0 (ac LV (ac ZI an)))) f258
def So(p0:Int×Int×(List R3)×(List R3)×Unit)(p1:Int):Option iP:=(E3 p0).bind fun y1=>cond (!y1.2.1.1) (c5) ((M8 p1).bind fun y2=>cond (!y2.2.1.1) (c5) ((OB p0 p1).bind fun y3=>(Re y3.2.1.2.2.2.1).bind fun y4=>some ((),(y4.2.1,()))))
def aik:=fU [dL [af,af,q3,q3],aS [af]] jd fun x=>So x.1 x.2.1.1
theorem agl:bj 259 aik:=fq (ac sP (ac C0 (ac LV (ac ZI an)))) f259
def Ts(p0:S8×Int×Int×Int×Int×(List bA)×Int×Int×(List R3)×(List R3)×(List ch)×Unit)(p1 p2:Int):Option iP:=(MM p0 p2).bind fun y1=>cond (aE y1.2.1.1 p1) (zR 7) ((S5 (p0.2.2.2.2.2.2.1,p0.2.2.2.2.2.2.2.1,p0.2.2.2.2.2.2.2.2.1,p0.2.2.2.2.2.2.2.2.2.1,()) p2).bind fun y2=>(B6 y2.2.1.1 1).bind fun y3=>cond (aE p0.2.2.2.1 y3.2.1.1) (c23) ((So (p0.2.2.2.2.2.2.1,p0.2.2.2.2.2.2.2.1,p0.2.2.2.2.2.2.2.2.1,p0.2.2.2.2.2.2.2.2.2.1,()) p2).bind fun y4=>(B6 y4.2.1.1 p1).bind fun y5=>cond (aE p0.2.2.2.2.1 y5.2.1.1) (zR 9) (c5)))
def aiC:=fU [dL [.str,af,af,af,af,bH,af,af,q3,q3,ck],aS [af],aS [af]] jd fun x=>Ts x.1 x.2.1.1 x.2.2.1.1
theorem aaH:bj 211 aiC:=fq (ac Dl (ac HU (ac afe (ac agl an)))) f211
def RN(p0:S8×Int×Int×Unit)(p1:S8×Unit):Option iG:=zR (bF p0.1 p1.1)
def afL:=fU [dL [.str,af,af],.pt [.str]] iN fun x=>RN x.1 x.2.1
theorem ZH:bj 263 afL:=fq an f263
def mx(t0:List bA)(f1:Y9×Unit)(t7 t8:Int):Rd Y58 Y1:=cond (aE t8 t7) (cond (aX t8 t0) ((RN (gt d192 t0 t8) f1.1).bind fun y1=>cond y1.2.1.1 (eC (t8,())) (eA (t0,f1,t7,(ak .i64 t8 1),()))) none) (eB (t0,f1,t7,t8,()))
def FU:=rA (aq (ep mx))
def Ew(p0:List bA)(c1_0:S8×Unit):Option iP:=(FU p0 (c1_0,()) (ae p0) 0).bind (Sum.elim (fun _=>c2) (fun y1=>some ((),(y1,()))))
def Tv:=fU [aS [bH],.fn 263 [.p [.str]]] jd fun x=>Ew x.1.1 x.2.1.1
theorem XB:bj 256 Tv:=fl (ac ZH an) [.d 4 af] [(0,⟨[.d 0 bH,.fn 1 263 [.p [.str]],.d 7 af,.d 8 af],aq (ep mx)⟩)] [] f256 (lp [0] (sc dU sn))
def kX(t0:List bA)(f1:Y9×Unit)(t5 t6:Int):Rd Y58 Unit:=cond (aE t6 (ae t0)) (cond (aX t6 t0) (let u1:=(gt d192 t0 t6);(RN u1 f1.1).bind fun y1=>cond (!y1.2.1.1) (cond (aX t5 t0) (let u2:=(gt d192 t0 t5);let u3:=(cZ t0 t5 (u1.1,u2.2.1,u2.2.2.1,()));let u4:=(gt d192 u3 t5);let u5:=(cZ u3 t5 (u4.1,u1.2.1,u4.2.2.1,()));let u6:=(gt d192 u5 t5);let u7:=(ak .i64 t6 1);eA ((cZ u5 t5 (u6.1,u6.2.1,u1.2.2.1,())),f1,(ak .i64 t5 1),u7,())) none) (let u2:=(ak .i64 t6 1);eA (t0,f1,t5,u2,()))) none) (eB (t0,f1,t5,t6,()))
def uH:=rA (aq (ep kX))
def Bc(p0:List bA)(c1_0:S8×Unit):Option Y31:=(Ew p0 c1_0).bind fun y1=>cond (aj y1.2.1.1 (-1)) (zR p0) ((uH p0 (c1_0,()) y1.2.1.1 (ak .i64 y1.2.1.1 1)).bind (Sum.elim (fun y2=>cond (eY y2.2.2.1 (ae y2.1) y2.1) (let u1:=(nI d192 y2.1 y2.2.2.1);cond (eY 0 y2.2.2.1 u1) (zR (Wy u1 y2.2.2.1)) none) none) (fun _=>none)))
def El:=fU [.mv bH,.fn 263 [.p [.str]]] Wj fun x=>Bc x.1 x.2.1.1
def oe:List SE:=[.own 0 bH,.fn 1 263 [.p [.str]],.d 5 af,.d 6 af]
def Kx:List SE:=[]
def XC:Nat->Option (Lo Kx)
 | 0=>some ⟨oe,ep uH⟩
 | _=>none
def Md:List Y0:=[(263,iS afL),(256,iS Tv)]
def WL:Nat->Option (St->Tr St)
 | 11=>some (wM 36 37 38 0 5 ny)
 | _=>none
def tP:En:=xL 42 tt Md Kx XC [] (WL)
theorem Rm(x:fg oe):(nE tP 0 oe (kI 0 (aw f262)) x).run=ep kX x:=by kernel_rfl
theorem abR(x:PT El.ps):(Ik tP (aw f262) f262.results.toList El.ps El.rs true x).run=Bc x.1 x.2.1.1:=by kernel_rfl
theorem F4:dQ prog tP:=cD (l:=Md) ⟨ZH,XB,trivial⟩
theorem MO:dA prog tP (bq 11 (aw f262)) (wM 36 37 38 0 5 ny):=
 CR (E:=tP) (rk hT) (rid:=11) (ta:=36) (tb:=37) (tc:=38) (t0:=0) (tI:=5) (ty:=89) (o1:=pU (bq 11 (aw f262)) 0) (o2:=pU (bq 11 (aw f262)) 1) (o3:=pU (bq 11 (aw f262)) 2) (o4:=pU (bq 11 (aw f262)) 3) (c:=QX (pU (bq 11 (aw f262)) 3)) (te:=⟨true,ny,0,32,[(0,9),(1,3),(2,3)]⟩)
  (by kernel_rfl) (by kernel_rfl) (by kernel_rfl) (by kernel_rfl) (by kernel_rfl) (by kernel_rfl) (by kernel_rfl) (by kernel_rfl) (by kernel_rfl) (by kernel_rfl) (by kernel_rfl) (by kernel_rfl) (by kernel_rfl) (by kernel_rfl) (by kernel_rfl) (by kernel_rfl) (by kernel_rfl) (by kernel_rfl) (by kernel_rfl) (by kernel_rfl) (by kernel_rfl)
theorem Pr:kl prog tP 0 (.loop (kI 0 (aw f262))) ⟨oe,ep uH⟩:=
 EL (rk hT) F4 iO (step:=fun(x:fg oe)=>kX x.1 x.2.1 x.2.2.1 x.2.2.2.1) Rm (db [] (by kernel_rfl) trivial [] (by kernel_rfl) trivial)
theorem WG:bj 262 El:=
 pP (E:=tP) (rk hT) F4 iO (fn:=f262) (c:=(aw f262)) (by kernel_rfl) (by kernel_rfl) (by kernel_rfl) rfl (db [(0,.loop (kI 0 (aw f262)))] (by kernel_rfl) ⟨WA rfl Pr,trivial⟩ [(11,bq 11 (aw f262))] (by kernel_rfl) ⟨tH rfl MO,trivial⟩) fun x y h=>⟨y.1,fun _=>rfl,(abR x).trans h⟩
def D6(p0:List bA)(p1:S8):Option Y31:=(DW p0).bind fun y1=>(Bc y1.2.1.1 (p1,())).bind fun y2=>some ((),(y2.2.1,()))
def agP:=fU [aS [bH],aS [.str]] Wj fun x=>D6 x.1.1 x.2.1.1
theorem Dh:bj 215 agP:=fq (ac PE (ac WG an)) f215
section
open Go.RowKit Go.Lib
theorem abr(a:Option Addr)(n c i:Nat)(a2:Option Addr)(m c2:Nat)(w:World)(hi:i<=n)(hc:n<=c)(hm:(m:Int)=0) :
 Calls prog 260 #[.slice a n c,.int .i64 i,.slice a2 m c2] w fun e w'=>e= .returned (.slice a n c)/\w'=w:=by
 go_enter Tryz.func260,Tryz.ntmps260
 go_wp2
 all_goals (go_ret;exact⟨rfl,rfl⟩)
theorem abL(a:Option Addr)(n c:Nat)(a2:Option Addr)(m c2:Nat)(w w':World)(v':Value)(hc:n<=c)(hm:¬ ((m:Int)=0))
 (hr:(Builtin.append_ #[89,89] 89 #[.slice a n c,.slice a2 m c2]).run prog w= .ok v' w') :
 Calls prog 260 #[.slice a n c,.int .i64 n,.slice a2 m c2] w fun e w1=>e= .returned v'/\w1=w':=by
 go_enter Tryz.func260,Tryz.ntmps260
 go_wp2_with (at_builtin;refine Lib.wpList_append_run _ rfl _ _ _ _ rfl _ _ rfl rfl _ _ hr ?_)
 all_goals (go_ret;exact⟨rfl,rfl⟩)
theorem adu(b o n c i:Nat)(a2:Option Addr)(m c2:Nat)(w:World)(hi:i<n)(vQ:n+m<=c)(hb:n+m<=140737488355328)(hm:0<m)(W1 W2:World)
 (hov:∀ lb cb,(callFunc 293 #[.slice a2 m c2,.slice (some ⟨b,o+(i+m) * 3,none⟩) lb cb]).run prog w= .ok (.value (.bool false)) w)
 (Fj:∀ ty dc sc,(Builtin.copy_ #[89,89] ty #[.slice (some ⟨b,o+(i+m) * 3,none⟩) (n+m-(i+m)) dc,.slice (some ⟨b,o+i * 3,none⟩) (n+m-i) sc]).run prog w.drew= .ok (goInt (n-i:Nat)) W1)
 (Ko:∀ ty dc,(Builtin.copy_ #[89,89] ty #[.slice (some ⟨b,o+i * 3,none⟩) (n+m-i) dc,.slice a2 m c2]).run prog W1= .ok (goInt m) W2) :
 Calls prog 260 #[.slice (some ⟨b,o,none⟩) n c,.int .i64 i,.slice a2 m c2] w fun e w1=>e= .returned (.slice (some ⟨b,o,none⟩) (n+m) c)/\w1=W2:=by
 have yO:¬ ((m:Int)=0):=by omega
 have Mi:¬ ((i:Int)=(n:Int)):=by omega
 have Cm:IntKind.i64.wrap ((i:Int)+(m:Int))=(i:Int)+(m:Int):=by rw[IntKind.wrap_i64];omega
 have yQ:(0:Int)<=(i:Int)+(m:Int):=by omega
 have kL:i<=n:=by omega
 have htn:((i:Int)+(m:Int)).toNat=i+m:=by omega
 have l6:¬ (c=i+m):=by omega
 have hb3:(i:Int)<=(n:Int)+(m:Int):=by omega
 have hb4:¬ (c=i):=by omega
 go_enter Tryz.func260,Tryz.ntmps260
 go_wp2_with (simp only[hov])
 go_region_law (refine step_copy_runI rfl _ _ 89 89 rfl _ _ (by simp[Act.eval,Act.put]) (by simp[Act.eval,Act.put]) (Fj _ _ _) ?_)
 go_wp2_with (at_builtin;refine wpList_copy_runI _ rfl _ _ 89 89 rfl _ _ rfl rfl (Ko _ _) ?_)
 go_ret
 exact⟨rfl,rfl⟩
theorem acg(b o n c i:Nat)(a2:Option Addr)(m c2:Nat)(w:World)(hi:i<n)(hnc:n<=c)(vQ:c<n+m)(amc:n+m<=140737488355328)(hm:0<m)(W1 W2 W3:World)(N G:Nat)(hG:n+m<=G)(ah5:G<=9223372036854775807)
 (hrz:∀ ty,(Builtin.append_ #[89,3] ty #[.slice (some ⟨b,o,none⟩) i c,.int .i64 ((n:Int)+(m:Int)-(i:Int))]).run prog w= .ok (.slice (some ⟨N,0,none⟩) (n+m) G) W1)
 (Fj:∀ ty dc,(Builtin.copy_ #[89,89] ty #[.slice (some ⟨N,i * 3,none⟩) (n+m-i) dc,.slice a2 m c2]).run prog W1= .ok (goInt m) W2)
 (Ko:∀ ty dc sc,(Builtin.copy_ #[89,89] ty #[.slice (some ⟨N,(i+m) * 3,none⟩) (n+m-(i+m)) dc,.slice (some ⟨b,o+i * 3,none⟩) (n-i) sc]).run prog W2.drew= .ok (goInt (n-i:Nat)) W3) :
 Calls prog 260 #[.slice (some ⟨b,o,none⟩) n c,.int .i64 i,.slice a2 m c2] w fun e w1=>e= .returned (.slice (some ⟨N,0,none⟩) (n+m) G)/\w1=W3:=by
 have yO:¬ ((m:Int)=0):=by omega
 have Mi:¬ ((i:Int)=(n:Int)):=by omega
 have hz3:(c:Int)<(n:Int)+(m:Int):=by omega
 have Cm:IntKind.i64.wrap ((i:Int)+(m:Int))=(i:Int)+(m:Int):=by rw[IntKind.wrap_i64];omega
 have yQ:(0:Int)<=(i:Int)+(m:Int):=by omega
 have kL:i<=n:=by omega
 have htn:((i:Int)+(m:Int)).toNat=i+m:=by omega
 have hb3:(i:Int)<=(n:Int):=by omega
 have hGi:¬ (G=i):=by omega
 have amd:¬ (G=i+m):=by omega
 have hci:¬ (c=i):=by omega
 go_enter Tryz.func260,Tryz.ntmps260
 go_wp2_with (first
  | (at_builtin;refine Lib.wpList_append_run _ rfl _ _ _ _ rfl _ _ rfl rfl _ _ (hrz _) ?_)
  | (at_builtin;refine wpList_copy_runI _ rfl _ _ 89 89 rfl _ _ rfl rfl (Fj _ _) ?_))
 go_region_law (refine step_copy_runI rfl _ _ 89 89 rfl (.slice (some ⟨N,(i+m) * 3,none⟩) (n+m-(i+m)) (G-(i+m))) (.slice (some ⟨b,o+i * 3,none⟩) (n-i) (c-i)) (by simp[Act.eval,Act.put]) (by simp[Act.eval,Act.put]) (Ko _ _ _) ?_)
 go_wp2
 go_ret
 exact⟨rfl,rfl⟩
theorem ajw:KU prog 260 89 293 3:=⟨abr,abL,adu,acg⟩
end
def WZ(p0:List bA)(p1:Int)(p2:List bA):Option (Unit×Y7×Unit):=TK 32 p0 p1 p2
def aiP:=fU [.mv bH,aS [af],.mv bH] Wj fun x=>WZ x.1 x.2.1.1 x.2.2.1
theorem aho:bj 260 aiP:=
 OF (f:=260) (T:=89) (ov:=293) (e:=192) (te:=⟨true,[.str,af,af],0,32,[(0,9),(1,3),(2,3)]⟩) (fn:=f260) (fo:=f293) (c:=aw f260) (tR:=4) (by kernel_rfl) (by kernel_rfl) (by kernel_rfl) (by kernel_rfl) (by kernel_rfl) (hT 192 _ (by kernel_rfl)) (by kernel_rfl) (by kernel_rfl) (by kernel_rfl)
  (by kernel_rfl) (by kernel_rfl) (by kernel_rfl) (by kernel_rfl) (by kernel_rfl) ajw rfl
def tF(t6:List bA)(t7:Int)(b3:S8×Int×Int×Unit):Rd ((List bA)×Int×Y23×Unit) Unit:=cond (aE t7 (ae t6)) (cond (aX t7 t6) (cond (BX (gt d192 t6 t7).1 b3.1) (eA (t6,(ak .i64 t7 1),b3,())) (eB (t6,t7,b3,()))) none) (eB (t6,t7,b3,()))
def Qr:=pk (aq (fJ tF))
def Q4(p0:List bA)(p1:S8×Int×Int×Unit):Option (Unit×(Y7×Y2×Unit)):=(NO p0).bind fun y1=>cond (!y1.2.1.1) (c15) ((D6 p0 p1.1).bind fun y2=>(Qr y2.2.1.1 0 p1).bind (Sum.elim (fun y3=>(WZ y3.1 y3.2.1 [y3.2.2.1]).bind fun y4=>(NO y4.2.1.1).bind fun y5=>cond (!y5.2.1.1) (c15) (some ((),(y4.2.1,(true,()),())))) (fun _=>none)))
def afA:=fU [aS [bH],dL [.str,af,af]] [(false,[bH]),(false,[.bool])] fun x=>Q4 x.1.1 x.2.1
theorem KO:bj 212 afA:=fl (ac ZR (ac Dh (ac aho an))) [] [(0,⟨[.own 6 bH,.d 7 af,.box 3 [(false,.str),(false,.int .i64),(false,.int .i64)]],aq (fJ tF)⟩)] [] f212 (lp [0] (sc dU sn))
def Es(p0:Int×Int×(List R3)×(List R3)×Unit)(p1 p2:Int):Option Y55:=(E3 p0).bind fun y1=>cond (!y1.2.1.1) (let u1:=(E4 p0);Option.bind u1 fun y2=>some ((),(y2.2.1,()))) ((M8 p1).bind fun y2=>cond (!y2.2.1.1) (let u1:=(E4 p0);Option.bind u1 fun y3=>some ((),(y3.2.1,()))) ((Pq p2).bind fun y3=>cond (!y3.2.1.1) (let u1:=(E4 p0);Option.bind u1 fun y4=>some ((),(y4.2.1,()))) ((OB p0 p1).bind fun y4=>cond (aX 0 y4.2.1.2.2.1) ((B6 (gt d3 y4.2.1.2.2.1 0).1 1).bind fun y5=>cond (aX 0 y4.2.1.2.2.2.1) ((B6 (gt d3 y4.2.1.2.2.2.1 0).1 p2).bind fun y6=>cond (aX 0 y4.2.1.2.2.1) (cond (aX 0 y4.2.1.2.2.2.1) (some ((),((y4.2.1.1,y4.2.1.2.1,(cZ y4.2.1.2.2.1 0 y5.2.1),(cZ y4.2.1.2.2.2.1 0 y6.2.1),()),()))) none) none) none) none)))
def Vp:=fU [dL [af,af,q3,q3],aS [af],aS [af]] w6R fun x=>Es x.1 x.2.1.1 x.2.2.1.1
def Sn:List SE:=[]
def Zg:Nat->Option (Lo Sn)
 | _=>none
def Lx:List Y0:=[(198,iS afC),(192,iS aeQ),(57,iS s57),(194,iS afW),(195,iS agX),(261,iS af8)]
def Kv:En:=xL 44 tt Lx Sn Zg [] fun _=>none
def ae3:Nat->Option (St->Tr St)
 | 4=>some (ot Kv (opsOf (bq 4 (aw f213))) 16 [2,3])
 | _=>none
def Xy:En:=xL 44 tt Lx Sn Zg [] (ae3)
theorem t213(x:PT Vp.ps):(Ik Xy (aw f213) f213.results.toList Vp.ps Vp.rs true x).run=Es x.1 x.2.1.1 x.2.2.1.1:=by kernel_rfl
theorem adv:dQ prog Xy:=cD (l:=Lx) ⟨KV,LB,sP,C0,Dl,LV,trivial⟩
theorem On:dQ prog Kv:=cD (l:=Lx) ⟨KV,LB,sP,C0,Dl,LV,trivial⟩
theorem abu:dA prog Xy (bq 4 (aw f213)) (ot Kv (opsOf (bq 4 (aw f213))) 16 [2,3]):=
 eK rfl rfl (yI (E:=Kv) (rk hT) On iO (c:=(bq 4 (aw f213))) (id:=4) (by kernel_rfl))
theorem YT:bj 213 Vp:=
 pP (E:=Xy) (rk hT) adv iO (fn:=f213) (c:=(aw f213)) (by kernel_rfl) (by kernel_rfl) (by kernel_rfl) rfl (db [] (by kernel_rfl) trivial [(4,bq 4 (aw f213))] (by kernel_rfl) ⟨tH rfl abu,trivial⟩) fun x y h=>⟨y.1,fun _=>rfl,(t213 x).trans h⟩
def Qj(p0:S8×Int×Int×Int×Int×(List bA)×Int×Int×(List R3)×(List R3)×(List ch)×Unit)(p1:S8)(p2 p3 p4:Int):Option Hr:=(vy p0 p4).bind fun y1=>cond (!(aj y1.2.2.1.1 0)) (c8) ((HF p1).bind fun y2=>cond (!y2.2.1.1) (c8) ((iZ p2 1 9007199254740992).bind fun y3=>cond (!y3.2.1.1) (c12) ((iZ p3 1 9999).bind fun y4=>let u1:=(ak .i64 p4 p3);cond (cond (!y4.2.1.1) true (aE 1000000000 u1)) (c12) ((J2 y1.2.1.2.2.2.2.2.1 p1).bind fun y5=>cond (cl 0 y5.2.1.1) (c31) (cond (aj (ae y1.2.1.2.2.2.2.2.1) 4) (c32) ((Ts y1.2.1 p2 p4).bind fun y6=>cond (!(aj y6.2.1.1 0)) (some ((),(([],0,0,0,0,[],0,0,[],[],[],()),y6.2.1,()))) ((Q4 y1.2.1.2.2.2.2.2.1 (p1,p2,u1,())).bind fun y7=>(Es (y1.2.1.2.2.2.2.2.2.1,y1.2.1.2.2.2.2.2.2.2.1,y1.2.1.2.2.2.2.2.2.2.2.1,y1.2.1.2.2.2.2.2.2.2.2.2.1,()) p4 p2).bind fun y8=>some ((),((y1.2.1.1,y1.2.1.2.1,y1.2.1.2.2.1,y1.2.1.2.2.2.1,y1.2.1.2.2.2.2.1,y7.2.1.1,y8.2.1.1,y8.2.1.2.1,y8.2.1.2.2.1,y8.2.1.2.2.2.1,y1.2.1.2.2.2.2.2.2.2.2.2.2.1,()),(0,()),())))))))))
def aeE:=fU [dL [.str,af,af,af,af,bH,af,af,q3,q3,ck],aS [.str],aS [af],aS [af],aS [af]] TJ fun x=>Qj x.1 x.2.1.1 x.2.2.1.1 x.2.2.2.1.1 x.2.2.2.2.1.1
theorem aaB:bj 129 aeE:=fq (ac ke (ac Ac (ac Aw (ac GN (ac aaH (ac KO (ac YT an))))))) f129
def IH(p0:S8×Int×Int×Int×Int×(List bA)×Int×Int×(List R3)×(List R3)×(List ch)×Unit)(p1:S8)(p2 p3:Int):Option (Unit×(BW×Y1×Y1×Unit)):=(vy p0 p3).bind fun y1=>(J2 y1.2.1.2.2.2.2.2.1 p1).bind fun y2=>cond (!(aj y1.2.2.1.1 0)) (c39) ((HF p1).bind fun y3=>cond (!y3.2.1.1) (c39) ((iZ p2 1 9007199254740992).bind fun y4=>cond (!y4.2.1.1) (some ((),(([],0,0,0,0,[],0,0,[],[],[],()),(0,()),(4,()),()))) (cond (aE y2.2.1.1 0) (some ((),(([],0,0,0,0,[],0,0,[],[],[],()),(0,()),(5,()),()))) (some ((),(y1.2.1,y2.2.1,(0,()),()))))))
def akP:=fU [dL [.str,af,af,af,af,bH,af,af,q3,q3,ck],aS [.str],aS [af],aS [af]] [(true,[.str,af,af,af,af,bH,af,af,q3,q3,ck]),(false,[af]),(false,[af])] fun x=>IH x.1 x.2.1.1 x.2.2.1.1 x.2.2.2.1.1
theorem Ss:bj 214 akP:=fq (ac ke (ac Ac (ac Aw (ac GN an)))) f214
def Q2(p0:S8×Int×Int×Int×Int×(List bA)×Int×Int×(List R3)×(List R3)×(List ch)×Unit)(p1:S8)(p2 p3:Int):Option Hr:=(IH p0 p1 p2 p3).bind fun y1=>cond (aj y1.2.2.2.1.1 0) ((Ts y1.2.1 p2 p3).bind fun y2=>cond (!(aj y2.2.1.1 0)) (some ((),(([],0,0,0,0,[],0,0,[],[],[],()),y2.2.1,()))) (cond (aX y1.2.2.1.1 y1.2.1.2.2.2.2.2.1) (cond (aX y1.2.2.1.1 y1.2.1.2.2.2.2.2.1) (let u1:=(Es (y1.2.1.2.2.2.2.2.2.1,y1.2.1.2.2.2.2.2.2.2.1,y1.2.1.2.2.2.2.2.2.2.2.1,y1.2.1.2.2.2.2.2.2.2.2.2.1,()) p3 p2);Option.bind u1 fun y3=>let u2:=(gt d192 y1.2.1.2.2.2.2.2.1 y1.2.2.1.1);let u3:=(cZ y1.2.1.2.2.2.2.2.1 y1.2.2.1.1 (u2.1,(ak .i64 u2.2.1 p2),u2.2.2.1,()));some ((),((y1.2.1.1,y1.2.1.2.1,y1.2.1.2.2.1,y1.2.1.2.2.2.1,y1.2.1.2.2.2.2.1,u3,y3.2.1.1,y3.2.1.2.1,y3.2.1.2.2.1,y3.2.1.2.2.2.1,y1.2.1.2.2.2.2.2.2.2.2.2.2.1,()),(0,()),()))) none) none)) (cond (!(aj y1.2.2.2.1.1 0)) (some ((),(([],0,0,0,0,[],0,0,[],[],[],()),y1.2.2.2.1,()))) (cond (aX y1.2.2.1.1 y1.2.1.2.2.2.2.2.1) (cond (aX y1.2.2.1.1 y1.2.1.2.2.2.2.2.1) (let u1:=(Es (y1.2.1.2.2.2.2.2.2.1,y1.2.1.2.2.2.2.2.2.2.1,y1.2.1.2.2.2.2.2.2.2.2.1,y1.2.1.2.2.2.2.2.2.2.2.2.1,()) p3 p2);Option.bind u1 fun y2=>let u2:=(gt d192 y1.2.1.2.2.2.2.2.1 y1.2.2.1.1);let u3:=(cZ y1.2.1.2.2.2.2.2.1 y1.2.2.1.1 (u2.1,(ak .i64 u2.2.1 p2),u2.2.2.1,()));some ((),((y1.2.1.1,y1.2.1.2.1,y1.2.1.2.2.1,y1.2.1.2.2.2.1,y1.2.1.2.2.2.2.1,u3,y2.2.1.1,y2.2.1.2.1,y2.2.1.2.2.1,y2.2.1.2.2.2.1,y1.2.1.2.2.2.2.2.2.2.2.2.2.1,()),(0,()),()))) none) none))
def afp:=fU [dL [.str,af,af,af,af,bH,af,af,q3,q3,ck],aS [.str],aS [af],aS [af]] TJ fun x=>Q2 x.1 x.2.1.1 x.2.2.1.1 x.2.2.2.1.1
theorem YM:bj 130 afp:=fq (ac aaH (ac YT (ac Ss an))) f130
def JT(p0:S8×Int×Int×Int×Int×(List bA)×Int×Int×(List R3)×(List R3)×(List ch)×Unit)(p1:S8)(p2:Int)(p3:Bool)(p4:Int):Option Hr:=(IH p0 p1 p2 p4).bind fun y1=>cond (aj y1.2.2.2.1.1 0) (cond (aX y1.2.2.1.1 y1.2.1.2.2.2.2.2.1) (let u1:=(gt d192 y1.2.1.2.2.2.2.2.1 y1.2.2.1.1);cond (aE u1.2.1 p2) (c33) (cond (!(aj y1.2.2.2.1.1 0)) (some ((),(([],0,0,0,0,[],0,0,[],[],[],()),y1.2.2.2.1,()))) (cond (aX y1.2.2.1.1 y1.2.1.2.2.2.2.2.1) (cond (aX y1.2.2.1.1 y1.2.1.2.2.2.2.2.1) (let u2:=(cZ y1.2.1.2.2.2.2.2.1 y1.2.2.1.1 (u1.1,(bf .i64 u1.2.1 p2),u1.2.2.1,()));cond (aX y1.2.2.1.1 u2) (let u3:=(cond (aj (gt d192 u2 y1.2.2.1.1).2.1 0) true p3);cond u3 (let u4:=(D6 u2 p1);Option.bind u4 fun y2=>let u5:=(ak .i64 y1.2.1.2.2.1 p2);some ((),((y1.2.1.1,y1.2.1.2.1,u5,y1.2.1.2.2.2.1,y1.2.1.2.2.2.2.1,y2.2.1.1,y1.2.1.2.2.2.2.2.2.1,y1.2.1.2.2.2.2.2.2.2.1,y1.2.1.2.2.2.2.2.2.2.2.1,y1.2.1.2.2.2.2.2.2.2.2.2.1,y1.2.1.2.2.2.2.2.2.2.2.2.2.1,()),(0,()),()))) (let u4:=(ak .i64 y1.2.1.2.2.1 p2);some ((),((y1.2.1.1,y1.2.1.2.1,u4,y1.2.1.2.2.2.1,y1.2.1.2.2.2.2.1,u2,y1.2.1.2.2.2.2.2.2.1,y1.2.1.2.2.2.2.2.2.2.1,y1.2.1.2.2.2.2.2.2.2.2.1,y1.2.1.2.2.2.2.2.2.2.2.2.1,y1.2.1.2.2.2.2.2.2.2.2.2.2.1,()),(0,()),())))) none) none) none))) none) (cond (!(aj y1.2.2.2.1.1 0)) (some ((),(([],0,0,0,0,[],0,0,[],[],[],()),y1.2.2.2.1,()))) (cond (aX y1.2.2.1.1 y1.2.1.2.2.2.2.2.1) (cond (aX y1.2.2.1.1 y1.2.1.2.2.2.2.2.1) (let u1:=(gt d192 y1.2.1.2.2.2.2.2.1 y1.2.2.1.1);let u2:=(cZ y1.2.1.2.2.2.2.2.1 y1.2.2.1.1 (u1.1,(bf .i64 u1.2.1 p2),u1.2.2.1,()));cond (aX y1.2.2.1.1 u2) (let u3:=(cond (aj (gt d192 u2 y1.2.2.1.1).2.1 0) true p3);cond u3 (let u4:=(D6 u2 p1);Option.bind u4 fun y2=>let u5:=(ak .i64 y1.2.1.2.2.1 p2);some ((),((y1.2.1.1,y1.2.1.2.1,u5,y1.2.1.2.2.2.1,y1.2.1.2.2.2.2.1,y2.2.1.1,y1.2.1.2.2.2.2.2.2.1,y1.2.1.2.2.2.2.2.2.2.1,y1.2.1.2.2.2.2.2.2.2.2.1,y1.2.1.2.2.2.2.2.2.2.2.2.1,y1.2.1.2.2.2.2.2.2.2.2.2.2.1,()),(0,()),()))) (let u4:=(ak .i64 y1.2.1.2.2.1 p2);some ((),((y1.2.1.1,y1.2.1.2.1,u4,y1.2.1.2.2.2.1,y1.2.1.2.2.2.2.1,u2,y1.2.1.2.2.2.2.2.2.1,y1.2.1.2.2.2.2.2.2.2.1,y1.2.1.2.2.2.2.2.2.2.2.1,y1.2.1.2.2.2.2.2.2.2.2.2.1,y1.2.1.2.2.2.2.2.2.2.2.2.2.1,()),(0,()),())))) none) none) none))
def ag5:=fU [dL [.str,af,af,af,af,bH,af,af,q3,q3,ck],aS [.str],aS [af],aS [.bool],aS [af]] TJ fun x=>JT x.1 x.2.1.1 x.2.2.1.1 x.2.2.2.1.1 x.2.2.2.2.1.1
theorem ZT:bj 131 ag5:=fq (ac Dh (ac Ss an)) f131
def RS(p0:S8×Int×Int×Int×Int×(List bA)×Int×Int×(List R3)×(List R3)×(List ch)×Unit)(p1:S8)(p2:Int):Option Hr:=(IH p0 p1 1 p2).bind fun y1=>cond (!(aj y1.2.2.2.1.1 0)) (some ((),(([],0,0,0,0,[],0,0,[],[],[],()),y1.2.2.2.1,()))) ((D6 y1.2.1.2.2.2.2.2.1 p1).bind fun y2=>some ((),((y1.2.1.1,y1.2.1.2.1,y1.2.1.2.2.1,y1.2.1.2.2.2.1,y1.2.1.2.2.2.2.1,y2.2.1.1,y1.2.1.2.2.2.2.2.2.1,y1.2.1.2.2.2.2.2.2.2.1,y1.2.1.2.2.2.2.2.2.2.2.1,y1.2.1.2.2.2.2.2.2.2.2.2.1,y1.2.1.2.2.2.2.2.2.2.2.2.2.1,()),(0,()),())))
def aen:=fU [dL [.str,af,af,af,af,bH,af,af,q3,q3,ck],aS [.str],aS [af]] TJ fun x=>RS x.1 x.2.1.1 x.2.2.1.1
theorem aaR:bj 132 aen:=fq (ac Dh (ac Ss an)) f132
def NQ(p0 p1:S8×Int×Int×Int×Int×(List bA)×Int×Int×(List R3)×(List R3)×(List ch)×Unit)(p2:S8)(p3:Int):Option (Unit×(BW×BW×Y1×Unit)):=(vy p0 p3).bind fun y1=>(vy p1 p3).bind fun y2=>(J2 y1.2.1.2.2.2.2.2.1 p2).bind fun y3=>cond (cond (!(aj y1.2.2.1.1 0)) true (!(aj y2.2.2.1.1 0))) (c18) ((HF p2).bind fun y4=>cond (!y4.2.1.1) (c18) (cond (bF p0.1 p1.1) (c34) (cond (aE y3.2.1.1 0) (c35) ((J2 y2.2.1.2.2.2.2.2.1 p2).bind fun y5=>cond (cl 0 y5.2.1.1) (c36) (cond (aj (ae y2.2.1.2.2.2.2.2.1) 4) (c37) (cond (aX y3.2.1.1 y1.2.1.2.2.2.2.2.1) ((MM y2.2.1 p3).bind fun y6=>let u1:=(gt d192 y1.2.1.2.2.2.2.2.1 y3.2.1.1);cond (aE y6.2.1.1 u1.2.1) (c38) (cond (aX y3.2.1.1 y1.2.1.2.2.2.2.2.1) ((Q4 y2.2.1.2.2.2.2.2.1 u1).bind fun y7=>(D6 y1.2.1.2.2.2.2.2.1 p2).bind fun y8=>some ((),((y1.2.1.1,y1.2.1.2.1,y1.2.1.2.2.1,y1.2.1.2.2.2.1,y1.2.1.2.2.2.2.1,y8.2.1.1,y1.2.1.2.2.2.2.2.2.1,y1.2.1.2.2.2.2.2.2.2.1,y1.2.1.2.2.2.2.2.2.2.2.1,y1.2.1.2.2.2.2.2.2.2.2.2.1,y1.2.1.2.2.2.2.2.2.2.2.2.2.1,()),(y2.2.1.1,y2.2.1.2.1,y2.2.1.2.2.1,y2.2.1.2.2.2.1,y2.2.1.2.2.2.2.1,y7.2.1.1,y2.2.1.2.2.2.2.2.2.1,y2.2.1.2.2.2.2.2.2.2.1,y2.2.1.2.2.2.2.2.2.2.2.1,y2.2.1.2.2.2.2.2.2.2.2.2.1,y2.2.1.2.2.2.2.2.2.2.2.2.2.1,()),(0,()),()))) none)) none))))))
def Si:=fU [dL [.str,af,af,af,af,bH,af,af,q3,q3,ck],dL [.str,af,af,af,af,bH,af,af,q3,q3,ck],aS [.str],aS [af]] [(true,[.str,af,af,af,af,bH,af,af,q3,q3,ck]),(true,[.str,af,af,af,af,bH,af,af,q3,q3,ck]),(false,[af])] fun x=>NQ x.1 x.2.1 x.2.2.1.1 x.2.2.2.1.1
def Rj:List SE:=[]
def YB:Nat->Option (Lo Rj)
 | _=>none
def FJ:List Y0:=[(204,iS ahI),(209,iS afR),(210,iS ahg),(216,iS agj),(215,iS agP),(212,iS afA)]
def ya:En:=xL 100 tt FJ Rj YB [] fun _=>none
def aez:Nat->Option (St->Tr St)
 | 19=>some (iq ya (opsOf (bq 19 (aw f133))) [(12,10)])
 | 21=>some (ot ya (opsOf (bq 21 (aw f133))) 2 [1])
 | _=>none
def Ro:En:=xL 100 tt FJ Rj YB [] (aez)
theorem t133(x:PT Si.ps):(Ik Ro (aw f133) f133.results.toList Si.ps Si.rs true x).run=NQ x.1 x.2.1 x.2.2.1.1 x.2.2.2.1.1:=by kernel_rfl
theorem adn:dQ prog Ro:=cD (l:=FJ) ⟨Ac,Aw,GN,HU,Dh,KO,trivial⟩
theorem Kb:dQ prog ya:=cD (l:=FJ) ⟨Ac,Aw,GN,HU,Dh,KO,trivial⟩
theorem We:dA prog Ro (bq 19 (aw f133)) (iq ya (opsOf (bq 19 (aw f133))) [(12,10)]):=
 eK rfl rfl (me (E:=ya) (rk hT) Kb iO (c:=(bq 19 (aw f133))) (id:=19) (by kernel_rfl))
theorem Jn:dQ prog ya:=cD (l:=FJ) ⟨Ac,Aw,GN,HU,Dh,KO,trivial⟩
theorem XG:dA prog Ro (bq 21 (aw f133)) (ot ya (opsOf (bq 21 (aw f133))) 2 [1]):=
 eK rfl rfl (yI (E:=ya) (rk hT) Jn iO (c:=(bq 21 (aw f133))) (id:=21) (by kernel_rfl))
theorem aaC:bj 133 Si:=
 pP (E:=Ro) (rk hT) adn iO (fn:=f133) (c:=(aw f133)) (by kernel_rfl) (by kernel_rfl) (by kernel_rfl) rfl (db [] (by kernel_rfl) trivial [(19,bq 19 (aw f133)),(21,bq 21 (aw f133))] (by kernel_rfl) ⟨tH rfl We,tH rfl XG,trivial⟩) fun x y h=>⟨y.1,fun _=>rfl,(t133 x).trans h⟩
def RY(p0:S8×Int×Int×Int×Int×(List bA)×Int×Int×(List R3)×(List R3)×(List ch)×Unit)(p1:Int):Option (Unit×(Y9×Y1×Unit)):=(vy p0 p1).bind fun y1=>cond (!(aj y1.2.2.1.1 0)) (some ((),(([],()),y1.2.2.1,()))) ((MM y1.2.1 p1).bind fun y2=>(Nj y2.2.1.1 16).bind fun y3=>cond (jx y3.2.1.1 [32]) ((Nj y1.2.1.2.2.1 16).bind fun y4=>let u1:=(uz y3.2.1.1 [32]);cond (jx u1 y4.2.1.1) (some ((),(((uz u1 y4.2.1.1),()),(0,()),()))) none) none)
def afB:=fU [dL [.str,af,af,af,af,bH,af,af,q3,q3,ck],aS [af]] [(false,[.str]),(false,[af])] fun x=>RY x.1 x.2.1.1
theorem aam:bj 134 afB:=fq (ac Zp (ac Aw (ac HU an))) f134
def QR(p0:S8×Int×Int×Int×Int×(List bA)×Int×Int×(List R3)×(List R3)×(List ch)×Unit)(p1:Int):Option Hr:=(vy p0 p1).bind fun y1=>some ((),(y1.2.1,y1.2.2.1,()))
def afF:=fU [dL [.str,af,af,af,af,bH,af,af,q3,q3,ck],aS [af]] TJ fun x=>QR x.1 x.2.1.1
theorem ZE:bj 135 afF:=fq (ac Aw an) f135
def g67(p0:(List gr)×Unit)(p1:Int×S8×S8×S8×S8×S8×Int×Int×Unit)(p2:Int):Option (Unit×(Y5×Y1×Y9×Unit)):=(g56 p0).bind fun y1=>cond (!y1.2.1.1) (c13) ((NP p1).bind fun y2=>cond (!y2.2.1.1) (c13) ((M8 p2).bind fun y3=>cond (!y3.2.1.1) (c13) ((g65 p0 p1.2.1).bind fun y4=>cond (aj p1.1 6) ((g65 p0 p1.2.2.1).bind fun y5=>cond (aE y4.2.1.1 0) (c14) (cond (cond (aj p1.1 6) (aE y5.2.1.1 0) false) (c14) (let u1:=(J6 p0);Option.bind u1 fun y6=>cond (aX y4.2.1.1 y6.2.1.1) (cond (aj p1.1 1) (let u2:=(gt d94 y6.2.1.1 y4.2.1.1);(Qj u2 p1.2.2.2.1 p1.2.2.2.2.2.2.1 p1.2.2.2.2.2.2.2.1 p2).bind fun y7=>cond (!(aj y7.2.2.1.1 0)) (some ((),(([],()),y7.2.2.1,([],()),()))) (cond (aX y4.2.1.1 y6.2.1.1) (some ((),(((cZ y6.2.1.1 y4.2.1.1 y7.2.1),()),(0,()),([],()),()))) none)) (cond (aj p1.1 2) (let u2:=(gt d94 y6.2.1.1 y4.2.1.1);(Q2 u2 p1.2.2.2.1 p1.2.2.2.2.2.2.1 p2).bind fun y7=>cond (!(aj y7.2.2.1.1 0)) (some ((),(([],()),y7.2.2.1,([],()),()))) (cond (aX y4.2.1.1 y6.2.1.1) (some ((),(((cZ y6.2.1.1 y4.2.1.1 y7.2.1),()),(0,()),([],()),()))) none)) (cond (aj p1.1 3) (let u2:=(gt d94 y6.2.1.1 y4.2.1.1);let u3:=(JT u2 p1.2.2.2.1 p1.2.2.2.2.2.2.1 (aj p1.1 4) p2);Option.bind u3 fun y7=>cond (!(aj y7.2.2.1.1 0)) (some ((),(([],()),y7.2.2.1,([],()),()))) (cond (aX y4.2.1.1 y6.2.1.1) (some ((),(((cZ y6.2.1.1 y4.2.1.1 y7.2.1),()),(0,()),([],()),()))) none)) (cond (aj p1.1 4) (let u2:=(gt d94 y6.2.1.1 y4.2.1.1);let u3:=(JT u2 p1.2.2.2.1 p1.2.2.2.2.2.2.1 (aj p1.1 4) p2);Option.bind u3 fun y7=>cond (!(aj y7.2.2.1.1 0)) (some ((),(([],()),y7.2.2.1,([],()),()))) (cond (aX y4.2.1.1 y6.2.1.1) (some ((),(((cZ y6.2.1.1 y4.2.1.1 y7.2.1),()),(0,()),([],()),()))) none)) (cond (aj p1.1 5) (let u2:=(gt d94 y6.2.1.1 y4.2.1.1);(RS u2 p1.2.2.2.1 p2).bind fun y7=>cond (!(aj y7.2.2.1.1 0)) (some ((),(([],()),y7.2.2.1,([],()),()))) (cond (aX y4.2.1.1 y6.2.1.1) (some ((),(((cZ y6.2.1.1 y4.2.1.1 y7.2.1),()),(0,()),([],()),()))) none)) (cond (aj p1.1 6) (cond (aX y5.2.1.1 y6.2.1.1) (let u2:=(gt d94 y6.2.1.1 y4.2.1.1);(NQ u2 (gt d94 y6.2.1.1 y5.2.1.1) p1.2.2.2.1 p2).bind fun y7=>cond (aX y5.2.1.1 y6.2.1.1) (cond (!(aj y7.2.2.2.1.1 0)) (some ((),(([],()),y7.2.2.2.1,([],()),()))) (let u3:=(cZ y6.2.1.1 y5.2.1.1 y7.2.2.1);cond (aX y4.2.1.1 u3) (some ((),(((cZ u3 y4.2.1.1 y7.2.1),()),(0,()),([],()),()))) none)) none) none) (cond (aj p1.1 7) (let u2:=(gt d94 y6.2.1.1 y4.2.1.1);(RY u2 p2).bind fun y7=>cond (!(aj y7.2.2.1.1 0)) (some ((),(([],()),y7.2.2.1,([],()),()))) (cond (aX y4.2.1.1 y6.2.1.1) (let u3:=(Kt 4 y4.2.1.1 y4.2.1.1);cond u3 (some ((),(((cZ y6.2.1.1 y4.2.1.1 u2),()),(0,()),y7.2.1,()))) none) none)) (let u2:=(gt d94 y6.2.1.1 y4.2.1.1);(QR u2 p2).bind fun y7=>cond (!(aj y7.2.2.1.1 0)) (some ((),(([],()),y7.2.2.1,([],()),()))) (cond (aX y4.2.1.1 y6.2.1.1) (some ((),(((cZ y6.2.1.1 y4.2.1.1 y7.2.1),()),(0,()),([],()),()))) none))))))))) none))) (cond (aE y4.2.1.1 0) (c14) (cond (cond (aj p1.1 6) (aE (-1) 0) false) (c14) (let u1:=(J6 p0);Option.bind u1 fun y5=>cond (aX y4.2.1.1 y5.2.1.1) (cond (aj p1.1 1) (let u2:=(gt d94 y5.2.1.1 y4.2.1.1);(Qj u2 p1.2.2.2.1 p1.2.2.2.2.2.2.1 p1.2.2.2.2.2.2.2.1 p2).bind fun y6=>cond (!(aj y6.2.2.1.1 0)) (some ((),(([],()),y6.2.2.1,([],()),()))) (cond (aX y4.2.1.1 y5.2.1.1) (some ((),(((cZ y5.2.1.1 y4.2.1.1 y6.2.1),()),(0,()),([],()),()))) none)) (cond (aj p1.1 2) (let u2:=(gt d94 y5.2.1.1 y4.2.1.1);(Q2 u2 p1.2.2.2.1 p1.2.2.2.2.2.2.1 p2).bind fun y6=>cond (!(aj y6.2.2.1.1 0)) (some ((),(([],()),y6.2.2.1,([],()),()))) (cond (aX y4.2.1.1 y5.2.1.1) (some ((),(((cZ y5.2.1.1 y4.2.1.1 y6.2.1),()),(0,()),([],()),()))) none)) (cond (aj p1.1 3) (let u2:=(gt d94 y5.2.1.1 y4.2.1.1);let u3:=(JT u2 p1.2.2.2.1 p1.2.2.2.2.2.2.1 (aj p1.1 4) p2);Option.bind u3 fun y6=>cond (!(aj y6.2.2.1.1 0)) (some ((),(([],()),y6.2.2.1,([],()),()))) (cond (aX y4.2.1.1 y5.2.1.1) (some ((),(((cZ y5.2.1.1 y4.2.1.1 y6.2.1),()),(0,()),([],()),()))) none)) (cond (aj p1.1 4) (let u2:=(gt d94 y5.2.1.1 y4.2.1.1);let u3:=(JT u2 p1.2.2.2.1 p1.2.2.2.2.2.2.1 (aj p1.1 4) p2);Option.bind u3 fun y6=>cond (!(aj y6.2.2.1.1 0)) (some ((),(([],()),y6.2.2.1,([],()),()))) (cond (aX y4.2.1.1 y5.2.1.1) (some ((),(((cZ y5.2.1.1 y4.2.1.1 y6.2.1),()),(0,()),([],()),()))) none)) (cond (aj p1.1 5) (let u2:=(gt d94 y5.2.1.1 y4.2.1.1);(RS u2 p1.2.2.2.1 p2).bind fun y6=>cond (!(aj y6.2.2.1.1 0)) (some ((),(([],()),y6.2.2.1,([],()),()))) (cond (aX y4.2.1.1 y5.2.1.1) (some ((),(((cZ y5.2.1.1 y4.2.1.1 y6.2.1),()),(0,()),([],()),()))) none)) (cond (aj p1.1 6) (cond (aX (-1) y5.2.1.1) (let u2:=(gt d94 y5.2.1.1 y4.2.1.1);(NQ u2 (gt d94 y5.2.1.1 (-1)) p1.2.2.2.1 p2).bind fun y6=>cond (aX (-1) y5.2.1.1) (cond (!(aj y6.2.2.2.1.1 0)) (some ((),(([],()),y6.2.2.2.1,([],()),()))) (let u3:=(cZ y5.2.1.1 (-1) y6.2.2.1);cond (aX y4.2.1.1 u3) (some ((),(((cZ u3 y4.2.1.1 y6.2.1),()),(0,()),([],()),()))) none)) none) none) (cond (aj p1.1 7) (let u2:=(gt d94 y5.2.1.1 y4.2.1.1);(RY u2 p2).bind fun y6=>cond (!(aj y6.2.2.1.1 0)) (some ((),(([],()),y6.2.2.1,([],()),()))) (cond (aX y4.2.1.1 y5.2.1.1) (let u3:=(Kt 4 y4.2.1.1 y4.2.1.1);cond u3 (some ((),(((cZ y5.2.1.1 y4.2.1.1 u2),()),(0,()),y6.2.1,()))) none) none)) (let u2:=(gt d94 y5.2.1.1 y4.2.1.1);(QR u2 p2).bind fun y6=>cond (!(aj y6.2.2.1.1 0)) (some ((),(([],()),y6.2.2.1,([],()),()))) (cond (aX y4.2.1.1 y5.2.1.1) (some ((),(((cZ y5.2.1.1 y4.2.1.1 y6.2.1),()),(0,()),([],()),()))) none))))))))) none))))))
def s67:=fU [dL [jZ],dL [af,.str,.str,.str,.str,.str,af,af],aS [af]] [(true,[jZ]),(false,[af]),(false,[.str])] fun x=>g67 x.1 x.2.1 x.2.2.1.1
def abp:List SE:=[]
def af1:Nat->Option (Lo abp)
 | _=>none
def X3:List Y0:=[(58,iS s58),(57,iS s57),(56,iS s56),(123,iS aeU),(65,iS s65),(129,iS aeE),(130,iS afp),(131,iS ag5),(132,iS aen),(133,iS Si),(134,iS afB),(135,iS afF)]
def VV:En:=xL 158 tt X3 abp af1 [] fun _=>none
def aiH:Nat->Option (St->Tr St)
 | 22=>some (hlT VV (opsOf (bq 22 (aw f67))) [(17,2),(17,15),(17,16)] 17 [0,1])
 | _=>none
def E67:En:=xL 158 tt X3 abp af1 [] (aiH)
theorem t67(x:PT s67.ps):(Ik E67 (aw f67) f67.results.toList s67.ps s67.rs true x).run=g67 x.1 x.2.1 x.2.2.1.1:=by kernel_rfl
theorem ahj:dQ prog E67:=cD (l:=X3) ⟨Iy,sP,Ra,Qa,RP,aaB,YM,ZT,aaR,aaC,aam,ZE,trivial⟩
theorem MX:dQ prog VV:=cD (l:=X3) ⟨Iy,sP,Ra,Qa,RP,aaB,YM,ZT,aaR,aaC,aam,ZE,trivial⟩
theorem adT:dA prog E67 (bq 22 (aw f67)) (hlT VV (opsOf (bq 22 (aw f67))) [(17,2),(17,15),(17,16)] 17 [0,1]):=
 eK rfl rfl (aaA (E:=VV) (rk hT) MX iO (c:=(bq 22 (aw f67))) (id:=22) (by kernel_rfl))
theorem acW:bj 67 s67:=
 pP (E:=E67) (rk hT) ahj iO (fn:=f67) (c:=(aw f67)) (by kernel_rfl) (by kernel_rfl) (by kernel_rfl) rfl (db [] (by kernel_rfl) trivial [(22,bq 22 (aw f67))] (by kernel_rfl) ⟨tH rfl adT,trivial⟩) fun x y h=>⟨y.1,fun _=>rfl,(t67 x).trans h⟩
def aej:Sc:=⟨100,u0,56⟩
def agO:En:=xL 8 tt [] [] (fun _=>none) [] fun _=>none
def ZA(x:List ch):St:=⟨[(2,.v .nil),(0,.v (.d ck x))],[]⟩
theorem t137(x:List ch)(b:Bool):((da agO (.seq (df (dZ (df (aw f137)))) (df (df (aw f137)))) (((ZA x).ba 3 (.v (.d ck x),none)).ba 4 (.v (.d .bool b),none))).bind fun ou=>Tr.cu (Tw ou 2 100 u0) .ret).run =
 cond b (some []) (cond (bk 56 ([]:List ch) x) (some x) none):=by kernel_rfl
theorem afa:Je prog 137 aej:=
 afw (E:=agO) (rk hT) (cD (l:=[]) trivial) iO (fn:=f137) (c0:=dZ (aw f137)) (cc:=df (dZ (df (aw f137)))) (c3:=df (df (aw f137))) (id:=K5 (dZ (dZ (df (aw f137)))))
  (o1:=pU (dZ (dZ (df (aw f137)))) 0) (o2:=pU (dZ (dZ (df (aw f137)))) 1) (by kernel_rfl) (by kernel_rfl) (by kernel_rfl) rfl (by kernel_rfl)
  (bP (fun _=>rfl) _ (by kernel_rfl)) (bP (fun _=>rfl) _ (by kernel_rfl)) (bP (fun _=>rfl) _ (by kernel_rfl)) (t0:=0) (t3:=3) (t4:=4) (ty:=92) (Yp:=92) (e':=100) (HV:=24) (fl:=[]) (by kernel_rfl) (by kernel_rfl) (by kernel_rfl) (by kernel_rfl) (by kernel_rfl) (by kernel_rfl) (by kernel_rfl) (by kernel_rfl) (s:=aej) (by kernel_rfl)
  ZA (fun x=>by kernel_rfl) (fun x=>by kernel_rfl) t137
def g68(p0:List ch)(p1:S8×S8×(List R5)×Unit):Option (Unit×(Y6×Y2×Unit)):=cond (ahu 56 p0) (cond (bk 56 p0 [p1]) ((No (fE p0 [p1])).bind fun y1=>(S2 y1.2.1.1).bind fun y2=>cond (!y2.2.1.1) (some ((),(([],()),(false,()),()))) (some ((),(y1.2.1,(true,()),())))) none) none
def s68:=fU [aS [ck],dL [.str,.str,q5]] [(false,[ck]),(false,[.bool])] fun x=>g68 x.1.1 x.2.1
theorem abH:bj 68 s68:=fq (ack afa (ac aaM (ac aaj an))) f68
def g17(p0:(List gr)×Unit)(p1:List R5)(p2:Int):Option (Unit×(Y5×Y4×Unit)):=(g55 p1).bind fun y1=>(g56 p0).bind fun y2=>cond (!y2.2.1.1) (let u1:=(J6 p0);Option.bind u1 fun y3=>some ((),(y3.2.1,([],()),()))) ((M8 p2).bind fun y3=>cond (cond (!y3.2.1.1) true (aj y1.2.2.1.1 1)) (let u1:=(J6 p0);Option.bind u1 fun y4=>some ((),(y4.2.1,([],()),()))) ((Pz p1 0 4).bind fun y4=>(g60 y4.2.1.1).bind fun y5=>cond (bF y5.2.1.1 []) (let u1:=(J6 p0);Option.bind u1 fun y6=>some ((),(y6.2.1,([],()),()))) (cond (!(aj y1.2.2.1.1 0)) ((g61 y4.2.1.1 1).bind fun y6=>(g62 y6.2.1).bind fun y7=>let u1:=(J6 p0);Option.bind u1 fun y8=>some ((),(y8.2.1,y7.2.1,()))) ((g63 y1.2.1).bind fun y6=>cond (!(aj y6.2.2.1.1 0)) (let u1:=(J6 p0);Option.bind u1 fun y7=>(YY y1.2.1 y6.2.2.1.1 [] []).bind fun y8=>some ((),(y7.2.1,y8.2.1,()))) ((g65 p0 y6.2.1.2.1).bind fun y7=>cond (aE y7.2.1.1 0) (let u1:=(J6 p0);Option.bind u1 fun y8=>(YY y1.2.1 3 [] []).bind fun y9=>some ((),(y8.2.1,y9.2.1,()))) (cond (aX y7.2.1.1 p0.1) ((g66 (gt d94 p0.1 y7.2.1.1).2.2.2.2.2.2.2.2.2.2.1 y6.2.1.2.2.2.2.1 y6.2.1.2.2.2.2.2.1).bind fun y8=>cond y8.2.2.1.1 (let u1:=(J6 p0);Option.bind u1 fun y9=>some ((),(y9.2.1,y8.2.1,()))) (cond (aX y7.2.1.1 p0.1) (cond (aj (ae (gt d94 p0.1 y7.2.1.1).2.2.2.2.2.2.2.2.2.2.1) 6) (let u1:=(J6 p0);Option.bind u1 fun y9=>(YY y1.2.1 10 [] []).bind fun iz=>some ((),(y9.2.1,iz.2.1,()))) ((g67 p0 y6.2.1 p2).bind fun y9=>cond (!(aj y9.2.2.1.1 0)) (let u1:=(J6 p0);Option.bind u1 fun iz=>let u2:=(YY y1.2.1 y9.2.2.1.1 y6.2.1.2.2.2.1 y9.2.2.2.1.1);Option.bind u2 fun lq=>cond (aX y7.2.1.1 iz.2.1.1) (let u3:=(gt d94 iz.2.1.1 y7.2.1.1);(g68 u3.2.2.2.2.2.2.2.2.2.2.1 (y6.2.1.2.2.2.2.1,y6.2.1.2.2.2.2.2.1,lq.2.1.1,())).bind fun qS=>cond qS.2.2.1.1 (cond (aX y7.2.1.1 iz.2.1.1) (some ((),(((cZ iz.2.1.1 y7.2.1.1 (u3.1,u3.2.1,u3.2.2.1,u3.2.2.2.1,u3.2.2.2.2.1,u3.2.2.2.2.2.1,u3.2.2.2.2.2.2.1,u3.2.2.2.2.2.2.2.1,u3.2.2.2.2.2.2.2.2.1,u3.2.2.2.2.2.2.2.2.2.1,qS.2.1.1,())),()),lq.2.1,()))) none) (some ((),(iz.2.1,lq.2.1,())))) none) (let u1:=(YY y1.2.1 y9.2.2.1.1 y6.2.1.2.2.2.1 y9.2.2.2.1.1);Option.bind u1 fun iz=>cond (aX y7.2.1.1 y9.2.1.1) (let u2:=(gt d94 y9.2.1.1 y7.2.1.1);(g68 u2.2.2.2.2.2.2.2.2.2.2.1 (y6.2.1.2.2.2.2.1,y6.2.1.2.2.2.2.2.1,iz.2.1.1,())).bind fun lq=>cond lq.2.2.1.1 (cond (aX y7.2.1.1 y9.2.1.1) (some ((),(((cZ y9.2.1.1 y7.2.1.1 (u2.1,u2.2.1,u2.2.2.1,u2.2.2.2.1,u2.2.2.2.2.1,u2.2.2.2.2.2.1,u2.2.2.2.2.2.2.1,u2.2.2.2.2.2.2.2.1,u2.2.2.2.2.2.2.2.2.1,u2.2.2.2.2.2.2.2.2.2.1,lq.2.1.1,())),()),iz.2.1,()))) none) (some ((),(y9.2.1,iz.2.1,())))) none))) none)) none))))))
def s17:=fU [dL [jZ],aS [q5],aS [af]] [(true,[jZ]),(false,[q5])] fun x=>g17 x.1 x.2.1.1 x.2.2.1.1
def ab5:List SE:=[]
def ahJ:Nat->Option (Lo ab5)
 | _=>none
def TX:List Y0:=[(58,iS s58),(57,iS s57),(59,iS s59),(55,iS s55),(56,iS s56),(60,iS s60),(61,iS s61),(62,iS s62),(63,iS s63),(64,iS s64),(65,iS s65),(66,iS s66),(67,iS s67),(68,iS s68)]
def F9:En:=xL 167 tt TX ab5 ahJ [] fun _=>none
def ajo:Nat->Option (St->Tr St)
 | 17=>some (iq F9 (opsOf (bq 17 (aw f17))) [(14,13)])
 | 26=>some (iq F9 (opsOf (bq 26 (aw f17))) [(16,15)])
 | _=>none
def E17:En:=xL 167 tt TX ab5 ahJ [] (ajo)
theorem t17(x:PT s17.ps):(Ik E17 (aw f17) f17.results.toList s17.ps s17.rs true x).run=g17 x.1 x.2.1.1 x.2.2.1.1:=by kernel_rfl
theorem aeG:dQ prog E17:=cD (l:=TX) ⟨Iy,sP,MH,ac3,Ra,Sx,abb,Vx,aba,acr,RP,acb,acW,abH,trivial⟩
theorem MF:dQ prog F9:=cD (l:=TX) ⟨Iy,sP,MH,ac3,Ra,Sx,abb,Vx,aba,acr,RP,acb,acW,abH,trivial⟩
theorem abS:dA prog E17 (bq 17 (aw f17)) (iq F9 (opsOf (bq 17 (aw f17))) [(14,13)]):=
 eK rfl rfl (me (E:=F9) (rk hT) MF iO (c:=(bq 17 (aw f17))) (id:=17) (by kernel_rfl))
theorem N4:dQ prog F9:=cD (l:=TX) ⟨Iy,sP,MH,ac3,Ra,Sx,abb,Vx,aba,acr,RP,acb,acW,abH,trivial⟩
theorem adH:dA prog E17 (bq 26 (aw f17)) (iq F9 (opsOf (bq 26 (aw f17))) [(16,15)]):=
 eK rfl rfl (me (E:=F9) (rk hT) N4 iO (c:=(bq 26 (aw f17))) (id:=26) (by kernel_rfl))
theorem aeC:bj 17 s17:=
 pP (E:=E17) (rk hT) aeG iO (fn:=f17) (c:=(aw f17)) (by kernel_rfl) (by kernel_rfl) (by kernel_rfl) rfl (db [] (by kernel_rfl) trivial [(17,bq 17 (aw f17)),(26,bq 26 (aw f17))] (by kernel_rfl) ⟨tH rfl abS,tH rfl adH,trivial⟩) fun x y h=>⟨y.1,fun _=>rfl,(t17 x).trans h⟩
def xZ(t2:List R3)(t9:List rV)(t17:List xK)(t18 t19:Int)(b6 b8:(List gr)×Unit):Rd ((List R3)×(List rV)×(List xK)×Int×Int×Y5×Y5×Unit) Unit:=cond (aE t19 t18) (cond (aX t19 t17) (cond (aE t19 (ae t2)) (cond (aX t19 t2) (cond (aj (gt d3 t2 t19).1 1) (let u1:=(gt d62 t17 t19);(g72 b8 u1.1).bind fun y1=>(g17 y1.2.1 u1.2.1 u1.1).bind fun y2=>cond (bk 24 t9 [y2.2.2.1]) (let u2:=(ak .i64 t19 1);eA (t2,(fE t9 [y2.2.2.1]),t17,t18,u2,b6,y2.2.1,())) none) (let u1:=(gt d62 t17 t19);let u2:=(g17 b8 u1.2.1 u1.1);Option.bind u2 fun y1=>let u3:=(bk 24 t9 [y1.2.2.1]);cond u3 (let u4:=(ak .i64 t19 1);eA (t2,(fE t9 [y1.2.2.1]),t17,t18,u4,b6,y1.2.1,())) none)) none) (let u1:=(gt d62 t17 t19);let u2:=(g17 b8 u1.2.1 u1.1);Option.bind u2 fun y1=>let u3:=(bk 24 t9 [y1.2.2.1]);cond u3 (let u4:=(ak .i64 t19 1);eA (t2,(fE t9 [y1.2.2.1]),t17,t18,u4,b6,y1.2.1,())) none)) none) (eB (t2,t9,t17,t18,t19,b6,b8,()))
def Qn:=cu7 (aq (Az xZ))
def g31(p0:(List gr)×Unit)(p1:List xK)(p2:List R3):Option (Unit×(Y5×((List rV)×Unit)×Unit)):=(J6 p0).bind fun y1=>(Qn p2 [] p1 (ae p1) 0 ([],()) y1.2.1).bind (Sum.elim (fun y2=>some ((),(y2.2.2.2.2.2.2.1,(y2.2.1,()),()))) (fun _=>none))
def s31:=fU [dL [jZ],aS [O0],aS [q3]] [(true,[jZ]),(false,[Lf])] fun x=>g31 x.1 x.2.1.1 x.2.2.1.1
def zN:List SE:=[.d 2 q3,.own 9 Lf,.d 17 O0,.d 18 af,.d 19 af,.box 6 [(true,jZ)],.box 8 [(true,jZ)]]
def acC:List SE:=[]
def afY:Nat->Option (Lo acC)
 | 0=>some ⟨zN,Az Qn⟩
 | _=>none
def Wl:List Y0:=[(58,iS s58),(72,iS s72),(17,iS s17)]
def Wt:En:=xL 56 tt Wl acC afY [] fun _=>none
def akX:Nat->Option (St->Tr St)
 | 8=>some (ot Wt (opsOf (bq 8 (aw f31))) 4 [0])
 | _=>none
def E31:En:=xL 56 tt Wl acC afY [] (akX)
theorem agD(x:fg zN):(nE E31 0 zN (kI 0 (aw f31)) x).run=Az xZ x:=by kernel_rfl
theorem t31(x:PT s31.ps):(Ik E31 (aw f31) f31.results.toList s31.ps s31.rs true x).run=g31 x.1 x.2.1.1 x.2.2.1.1:=by kernel_rfl
theorem aaU:dQ prog E31:=cD (l:=Wl) ⟨Iy,aeP,aeC,trivial⟩
theorem T3:dQ prog Wt:=cD (l:=Wl) ⟨Iy,aeP,aeC,trivial⟩
theorem aeB:dA prog E31 (bq 8 (aw f31)) (ot Wt (opsOf (bq 8 (aw f31))) 4 [0]):=
 eK rfl rfl (yI (E:=Wt) (rk hT) T3 iO (c:=(bq 8 (aw f31))) (id:=8) (by kernel_rfl))
theorem afm:kl prog E31 0 (.loop (kI 0 (aw f31))) ⟨zN,Az Qn⟩:=
 EL (rk hT) aaU iO (step:=fun(x:fg zN)=>xZ x.1 x.2.1 x.2.2.1 x.2.2.2.1 x.2.2.2.2.1 x.2.2.2.2.2.1 x.2.2.2.2.2.2.1) agD (db [] (by kernel_rfl) trivial [(8,bq 8 (aw f31))] (by kernel_rfl) ⟨tH rfl aeB,trivial⟩)
theorem aiA:bj 31 s31:=
 pP (E:=E31) (rk hT) aaU iO (fn:=f31) (c:=(aw f31)) (by kernel_rfl) (by kernel_rfl) (by kernel_rfl) rfl (db [(0,.loop (kI 0 (aw f31)))] (by kernel_rfl) ⟨WA rfl afm,trivial⟩ [] (by kernel_rfl) trivial) fun x y h=>⟨y.1,fun _=>rfl,(t31 x).trans h⟩
def Wv(p0 p1:S8×Int×Int×Unit):Option iG:=cond (!(bF p0.1 p1.1)) (c0) (cond (!(aj p0.2.1 p1.2.1)) (c0) (cond (!(aj p0.2.2.1 p1.2.2.1)) (c0) (c3)))
def aj3:=fU [dL [.str,af,af],dL [.str,af,af]] iN fun x=>Wv x.1 x.2.1
theorem agZ:bj 226 aj3:=fq an f226
def sw(t0 t1:List bA)(t5:Int):Rd ((List bA)×(List bA)×Int×Unit) Y2:=cond (aE t5 (ae t0)) (cond (aX t5 t0) (cond (aX t5 t1) ((Wv (gt d192 t0 t5) (gt d192 t1 t5)).bind fun y1=>cond (!y1.2.1.1) (eC (false,())) (eA (t0,t1,(ak .i64 t5 1),()))) none) none) (eB (t0,t1,t5,()))
def TC:=pk (aq (fJ sw))
def XW(p0 p1:List bA):Option iG:=cond (!(aj (ae p0) (ae p1))) (c0) ((TC p0 p1 0).bind (Sum.elim (fun _=>c3) (fun y1=>some ((),(y1,())))))
def alh:=fU [aS [bH],aS [bH]] iN fun x=>XW x.1.1 x.2.1.1
theorem aeF:bj 154 alh:=fl (ac agZ an) [.d 4 .bool] [(0,⟨[.d 0 bH,.d 1 bH,.d 5 af],aq (fJ sw)⟩)] [] f154 (lp [0] (sc dU sn))
def BH(t0 t1:List R3)(t5:Int):Rd ((List R3)×(List R3)×Int×Unit) Y2:=cond (aE t5 (ae t0)) (cond (aX t5 t0) (cond (aX t5 t1) (cond (!(aj (gt d3 t0 t5).1 (gt d3 t1 t5).1)) (eC (false,())) (eA (t0,t1,(ak .i64 t5 1),()))) none) none) (eB (t0,t1,t5,()))
def YJ:=pk (aq (fJ BH))
def g32(p0 p1:List R3):Option iG:=cond (!(aj (ae p0) (ae p1))) (c0) ((YJ p0 p1 0).bind (Sum.elim (fun _=>c3) (fun y1=>some ((),(y1,())))))
def s32:=fU [aS [q3],aS [q3]] iN fun x=>g32 x.1.1 x.2.1.1
theorem afE:bj 32 s32:=fl an [.d 4 .bool] [(0,⟨[.d 0 q3,.d 1 q3,.d 5 af],aq (fJ BH)⟩)] [] f32 (lp [0] (sc dU sn))
def W9(p0 p1:Int×Int×(List R3)×(List R3)×Unit):Option iG:=cond (!(aj p0.1 p1.1)) (c0) (cond (!(aj p0.2.1 p1.2.1)) (c0) ((g32 p0.2.2.1 p1.2.2.1).bind fun y1=>cond (!y1.2.1.1) (c0) ((g32 p0.2.2.2.1 p1.2.2.2.1).bind fun y2=>cond (!y2.2.1.1) (c0) (c3))))
def akY:=fU [dL [af,af,q3,q3],dL [af,af,q3,q3]] iN fun x=>W9 x.1 x.2.1
theorem aew:bj 155 akY:=fq (ac afE an) f155
def yS(t0 t1:List R5)(t5:Int):Rd ((List R5)×(List R5)×Int×Unit) Y2:=cond (aE t5 (ae t0)) (cond (aX t5 t0) (cond (aX t5 t1) (cond (!(aj (gt d5 t0 t5).1 (gt d5 t1 t5).1)) (eC (false,())) (eA (t0,t1,(ak .i64 t5 1),()))) none) none) (eB (t0,t1,t5,()))
def YR:=pk (aq (fJ yS))
def g18(p0 p1:List R5):Option iG:=cond (!(aj (ae p0) (ae p1))) (c0) ((YR p0 p1 0).bind (Sum.elim (fun _=>c3) (fun y1=>some ((),(y1,())))))
def s18:=fU [aS [q5],aS [q5]] iN fun x=>g18 x.1.1 x.2.1.1
theorem acn:bj 18 s18:=fl an [.d 4 .bool] [(0,⟨[.d 0 q5,.d 1 q5,.d 5 af],aq (fJ yS)⟩)] [] f18 (lp [0] (sc dU sn))
def WW(p0 p1:S8×S8×(List R5)×Unit):Option iG:=cond (!(bF p0.1 p1.1)) (c0) (cond (!(bF p0.2.1 p1.2.1)) (c0) ((g18 p0.2.2.1 p1.2.2.1).bind fun y1=>cond (!y1.2.1.1) (c0) (c3)))
def ajL:=fU [dL [.str,.str,q5],dL [.str,.str,q5]] iN fun x=>WW x.1 x.2.1
theorem afd:bj 227 ajL:=fq (ac acn an) f227
def sS(t0 t1:List ch)(t5:Int):Rd ((List ch)×(List ch)×Int×Unit) Y2:=cond (aE t5 (ae t0)) (cond (aX t5 t0) (cond (aX t5 t1) ((WW (gt d100 t0 t5) (gt d100 t1 t5)).bind fun y1=>cond (!y1.2.1.1) (eC (false,())) (eA (t0,t1,(ak .i64 t5 1),()))) none) none) (eB (t0,t1,t5,()))
def Pv:=pk (aq (fJ sS))
def VG(p0 p1:List ch):Option iG:=cond (!(aj (ae p0) (ae p1))) (c0) ((Pv p0 p1 0).bind (Sum.elim (fun _=>c3) (fun y1=>some ((),(y1,())))))
def ait:=fU [aS [ck],aS [ck]] iN fun x=>VG x.1.1 x.2.1.1
theorem ahe:bj 156 ait:=fl (ac afd an) [.d 4 .bool] [(0,⟨[.d 0 ck,.d 1 ck,.d 5 af],aq (fJ sS)⟩)] [] f156 (lp [0] (sc dU sn))
def g76(p0 p1:S8×Int×Int×Int×Int×(List bA)×Int×Int×(List R3)×(List R3)×(List ch)×Unit):Option iG:=cond (!(bF p0.1 p1.1)) (c0) (cond (!(aj p0.2.1 p1.2.1)) (c0) (cond (!(aj p0.2.2.1 p1.2.2.1)) (c0) (cond (!(aj p0.2.2.2.1 p1.2.2.2.1)) (c0) (cond (!(aj p0.2.2.2.2.1 p1.2.2.2.2.1)) (c0) ((XW p0.2.2.2.2.2.1 p1.2.2.2.2.2.1).bind fun y1=>cond (!y1.2.1.1) (c0) ((W9 (p0.2.2.2.2.2.2.1,p0.2.2.2.2.2.2.2.1,p0.2.2.2.2.2.2.2.2.1,p0.2.2.2.2.2.2.2.2.2.1,()) (p1.2.2.2.2.2.2.1,p1.2.2.2.2.2.2.2.1,p1.2.2.2.2.2.2.2.2.1,p1.2.2.2.2.2.2.2.2.2.1,())).bind fun y2=>cond (!y2.2.1.1) (c0) ((VG p0.2.2.2.2.2.2.2.2.2.2.1 p1.2.2.2.2.2.2.2.2.2.2.1).bind fun y3=>cond (!y3.2.1.1) (c0) (c3))))))))
def s76:=fU [dL [.str,af,af,af,af,bH,af,af,q3,q3,ck],dL [.str,af,af,af,af,bH,af,af,q3,q3,ck]] iN fun x=>g76 x.1 x.2.1
theorem akb:bj 76 s76:=fq (ac aeF (ac aew (ac ahe an))) f76
def za(t0 t1:List gr)(t5:Int):Rd ((List gr)×(List gr)×Int×Unit) Y2:=cond (aE t5 (ae t0)) (cond (aX t5 t0) (cond (aX t5 t1) ((g76 (gt d94 t0 t5) (gt d94 t1 t5)).bind fun y1=>cond (!y1.2.1.1) (eC (false,())) (eA (t0,t1,(ak .i64 t5 1),()))) none) none) (eB (t0,t1,t5,()))
def YF:=pk (aq (fJ za))
def g39(p0 p1:List gr):Option iG:=cond (!(aj (ae p0) (ae p1))) (c0) ((YF p0 p1 0).bind (Sum.elim (fun _=>c3) (fun y1=>some ((),(y1,())))))
def s39:=fU [aS [jZ],aS [jZ]] iN fun x=>g39 x.1.1 x.2.1.1
theorem akQ:bj 39 s39:=fl (ac akb an) [.d 4 .bool] [(0,⟨[.d 0 jZ,.d 1 jZ,.d 5 af],aq (fJ za)⟩)] [] f39 (lp [0] (sc dU sn))
def g13(p0 p1:(List gr)×Unit):Option iG:=(g39 p0.1 p1.1).bind fun y1=>cond (!y1.2.1.1) (c0) (c3)
def s13:=fU [dL [jZ],dL [jZ]] iN fun x=>g13 x.1 x.2.1
theorem ajM:bj 13 s13:=fq (ac akQ an) f13
def Bn(t0 t1:List rV)(t5:Int):Rd ((List rV)×(List rV)×Int×Unit) Y2:=cond (aE t5 (ae t0)) (cond (aX t5 t0) (cond (aX t5 t1) ((g18 (gt d38 t0 t5).1 (gt d38 t1 t5).1).bind fun y1=>cond (!y1.2.1.1) (eC (false,())) (eA (t0,t1,(ak .i64 t5 1),()))) none) none) (eB (t0,t1,t5,()))
def ZG:=pk (aq (fJ Bn))
def g25(p0 p1:List rV):Option iG:=cond (!(aj (ae p0) (ae p1))) (c0) ((ZG p0 p1 0).bind (Sum.elim (fun _=>c3) (fun y1=>some ((),(y1,())))))
def s25:=fU [aS [Lf],aS [Lf]] iN fun x=>g25 x.1.1 x.2.1.1
theorem alj:bj 25 s25:=fl (ac acn an) [.d 4 .bool] [(0,⟨[.d 0 Lf,.d 1 Lf,.d 5 af],aq (fJ Bn)⟩)] [] f25 (lp [0] (sc dU sn))
def g40(p0 p1:Int×(List R5)×(List R5)×Unit):Option iG:=cond (!(aj p0.1 p1.1)) (c0) ((g18 p0.2.1 p1.2.1).bind fun y1=>cond (!y1.2.1.1) (c0) ((g18 p0.2.2.1 p1.2.2.1).bind fun y2=>cond (!y2.2.1.1) (c0) (c3)))
def s40:=fU [dL [af,q5,q5],dL [af,q5,q5]] iN fun x=>g40 x.1 x.2.1
theorem ajr:bj 40 s40:=fq (ac acn an) f40
def Br(t0 t1:List xK)(t5:Int):Rd ((List xK)×(List xK)×Int×Unit) Y2:=cond (aE t5 (ae t0)) (cond (aX t5 t0) (cond (aX t5 t1) ((g40 (gt d62 t0 t5) (gt d62 t1 t5)).bind fun y1=>cond (!y1.2.1.1) (eC (false,())) (eA (t0,t1,(ak .i64 t5 1),()))) none) none) (eB (t0,t1,t5,()))
def ZJ:=pk (aq (fJ Br))
def g14(p0 p1:List xK):Option iG:=cond (!(aj (ae p0) (ae p1))) (c0) ((ZJ p0 p1 0).bind (Sum.elim (fun _=>c3) (fun y1=>some ((),(y1,())))))
def s14:=fU [aS [O0],aS [O0]] iN fun x=>g14 x.1.1 x.2.1.1
theorem ajm:bj 14 s14:=fl (ac ajr an) [.d 4 .bool] [(0,⟨[.d 0 O0,.d 1 O0,.d 5 af],aq (fJ Br)⟩)] [] f14 (lp [0] (sc dU sn))
def qg(t0:Int)(t3:S8):Rd Y15 Unit:=cond (aE 0 t0) (let u1:=(strOf [((dC .u8 (ak .i64 48 (eH t0 10))),())]);cond (jx u1 t3) (eA ((kr .i64 t0 10),(uz u1 t3),())) none) (eB (t0,t3,()))
def Rx:=U4 (aq (yZ qg))
def xb(p0:Int):Option EP:=cond (cl p0 0) (zR [109,48]) ((Rx p0 []).bind (Sum.elim (fun y1=>cond (jx [109] y1.2.1) (zR (uz [109] y1.2.1)) none) (fun _=>none)))
def aiO:=fU [aS [af]] Fm fun x=>xb x.1.1
theorem Cv:bj 139 aiO:=fl an [] [(0,⟨[.d 0 af,.d 3 .str],aq (yZ qg)⟩)] [] f139 (lp [0] (sc dU sn))
def sG(t0:List bA)(t1 t5:Int):Rd ((List bA)×Int×Int×Unit) Unit:=cond (aE t5 (ae t0)) ((xb t1).bind fun y1=>cond (aX t5 t0) (let u1:=(gt d192 t0 t5);let u2:=(cZ t0 t5 (y1.2.1.1,u1.2.1,u1.2.2.1,()));cond (aX t5 u2) (let u3:=(gt d192 u2 t5);let u4:=(ak .i64 t1 1);let u5:=(cZ u2 t5 (u3.1,u4,u3.2.2.1,()));cond (aX t5 u5) (let u6:=(gt d192 u5 t5);let u7:=(ak .i64 u4 1);eA ((cZ u5 t5 (u6.1,u6.2.1,u7,())),(ak .i64 u7 1),(ak .i64 t5 1),())) none) none) none) (eB (t0,t1,t5,()))
def Tf:=pk (aq (fJ sG))
def Xb(p0:List bA)(p1:Int):Option ((Y7×Unit)×Y8):=(Tf p0 p1 0).bind (Sum.elim (fun y1=>some (((y1.1,()),()),((y1.2.1,()),()))) (fun _=>none))
def akt:=fU [.io false [bH],aS [af]] jd fun x=>Xb x.1.1 x.2.1.1
theorem aeS:bj 140 akt:=fl (ac Cv an) [] [(0,⟨[.own 0 bH,.d 1 af,.d 5 af],aq (fJ sG)⟩)] [0] f140 (lp [0] (sc dU sn))
def AU(t0:List R3)(t1 t5:Int):Rd ((List R3)×Int×Int×Unit) Unit:=cond (aE t5 (ae t0)) (cond (aX t5 t0) (eA ((cZ t0 t5 (t1,())),(ak .i64 t1 1),(ak .i64 t5 1),())) none) (eB (t0,t1,t5,()))
def Z9:=pk (aq (fJ AU))
def g33(p0:List R3)(p1:Int):Option ((O5×Unit)×Y8):=(Z9 p0 p1 0).bind (Sum.elim (fun y1=>some (((y1.1,()),()),((y1.2.1,()),()))) (fun _=>none))
def s33:=fU [.io false [q3],aS [af]] jd fun x=>g33 x.1.1 x.2.1.1
theorem ahK:bj 33 s33:=fl an [] [(0,⟨[.own 0 q3,.d 1 af,.d 5 af],aq (fJ AU)⟩)] [0] f33 (lp [0] (sc dU sn))
def AS(t0:List R5)(t1 t5:Int):Rd ((List R5)×Int×Int×Unit) Unit:=cond (aE t5 (ae t0)) (cond (aX t5 t0) (eA ((cZ t0 t5 ((dC .u8 t1),())),(ak .i64 t1 1),(ak .i64 t5 1),())) none) (eB (t0,t1,t5,()))
def aah:=pk (aq (fJ AS))
def g20(p0:List R5)(p1:Int):Option ((Y4×Unit)×Y8):=(aah p0 p1 0).bind (Sum.elim (fun y1=>some (((y1.1,()),()),((y1.2.1,()),()))) (fun _=>none))
def s20:=fU [.io false [q5],aS [af]] jd fun x=>g20 x.1.1 x.2.1.1
theorem abK:bj 20 s20:=fl an [] [(0,⟨[.own 0 q5,.d 1 af,.d 5 af],aq (fJ AS)⟩)] [0] f20 (lp [0] (sc dU sn))
def tE(t0:List ch)(t1 t5:Int):Rd ((List ch)×Int×Int×Unit) Unit:=cond (aE t5 (ae t0)) ((xb t1).bind fun y1=>cond (aX t5 t0) (let u1:=(ak .i64 t1 1);(xb u1).bind fun y2=>let u2:=(gt d100 t0 t5);let u3:=(cZ t0 t5 (y1.2.1.1,u2.2.1,u2.2.2.1,()));cond (aX t5 u3) (let u4:=(gt d100 u3 t5);let u5:=(cZ u3 t5 (u4.1,y2.2.1.1,u4.2.2.1,()));cond (aX t5 u5) (let u6:=(gt d100 u5 t5);(g20 u6.2.2.1 (ak .i64 u1 1)).bind fun y3=>eA ((cZ u5 t5 (u6.1,u6.2.1,y3.1.1.1,())),y3.2.1.1,(ak .i64 t5 1),())) none) none) none) (eB (t0,t1,t5,()))
def TT:=pk (aq (fJ tE))
def Wk(p0:List ch)(p1:Int):Option ((Y6×Unit)×Y8):=(TT p0 p1 0).bind (Sum.elim (fun y1=>some (((y1.1,()),()),((y1.2.1,()),()))) (fun _=>none))
def ajg:=fU [.io false [ck],aS [af]] jd fun x=>Wk x.1.1 x.2.1.1
theorem aht:bj 141 ajg:=fl (ac Cv (ac abK an)) [] [(0,⟨[.own 0 ck,.d 1 af,.d 5 af],aq (fJ tE)⟩)] [0] f141 (lp [0] (sc dU sn))
def zA(t0:List gr)(t1 t5:Int):Rd ((List gr)×Int×Int×Unit) Unit:=cond (aE t5 (ae t0)) ((xb t1).bind fun y1=>cond (aX t5 t0) (let u1:=(gt d94 t0 t5);let u2:=(cZ t0 t5 (y1.2.1.1,u1.2.1,u1.2.2.1,u1.2.2.2.1,u1.2.2.2.2.1,u1.2.2.2.2.2.1,u1.2.2.2.2.2.2.1,u1.2.2.2.2.2.2.2.1,u1.2.2.2.2.2.2.2.2.1,u1.2.2.2.2.2.2.2.2.2.1,u1.2.2.2.2.2.2.2.2.2.2.1,()));cond (aX t5 u2) (let u3:=(gt d94 u2 t5);let u4:=(ak .i64 t1 1);let u5:=(cZ u2 t5 (u3.1,u4,u3.2.2.1,u3.2.2.2.1,u3.2.2.2.2.1,u3.2.2.2.2.2.1,u3.2.2.2.2.2.2.1,u3.2.2.2.2.2.2.2.1,u3.2.2.2.2.2.2.2.2.1,u3.2.2.2.2.2.2.2.2.2.1,u3.2.2.2.2.2.2.2.2.2.2.1,()));cond (aX t5 u5) (let u6:=(gt d94 u5 t5);let u7:=(ak .i64 u4 1);let u8:=(cZ u5 t5 (u6.1,u6.2.1,u7,u6.2.2.2.1,u6.2.2.2.2.1,u6.2.2.2.2.2.1,u6.2.2.2.2.2.2.1,u6.2.2.2.2.2.2.2.1,u6.2.2.2.2.2.2.2.2.1,u6.2.2.2.2.2.2.2.2.2.1,u6.2.2.2.2.2.2.2.2.2.2.1,()));cond (aX t5 u8) (let u9:=(gt d94 u8 t5);let u10:=(ak .i64 u7 1);let u11:=(cZ u8 t5 (u9.1,u9.2.1,u9.2.2.1,u10,u9.2.2.2.2.1,u9.2.2.2.2.2.1,u9.2.2.2.2.2.2.1,u9.2.2.2.2.2.2.2.1,u9.2.2.2.2.2.2.2.2.1,u9.2.2.2.2.2.2.2.2.2.1,u9.2.2.2.2.2.2.2.2.2.2.1,()));cond (aX t5 u11) (let Vh:=(gt d94 u11 t5);let u13:=(ak .i64 u10 1);let u14:=(cZ u11 t5 (Vh.1,Vh.2.1,Vh.2.2.1,Vh.2.2.2.1,u13,Vh.2.2.2.2.2.1,Vh.2.2.2.2.2.2.1,Vh.2.2.2.2.2.2.2.1,Vh.2.2.2.2.2.2.2.2.1,Vh.2.2.2.2.2.2.2.2.2.1,Vh.2.2.2.2.2.2.2.2.2.2.1,()));cond (aX t5 u14) (let UJ:=(gt d94 u14 t5);(Xb UJ.2.2.2.2.2.1 (ak .i64 u13 1)).bind fun y2=>let u16:=(cZ u14 t5 (UJ.1,UJ.2.1,UJ.2.2.1,UJ.2.2.2.1,UJ.2.2.2.2.1,y2.1.1.1,UJ.2.2.2.2.2.2.1,UJ.2.2.2.2.2.2.2.1,UJ.2.2.2.2.2.2.2.2.1,UJ.2.2.2.2.2.2.2.2.2.1,UJ.2.2.2.2.2.2.2.2.2.2.1,()));cond (aX t5 u16) (let Vi:=(gt d94 u16 t5);let u18:=(cZ u16 t5 (Vi.1,Vi.2.1,Vi.2.2.1,Vi.2.2.2.1,Vi.2.2.2.2.1,Vi.2.2.2.2.2.1,y2.2.1.1,Vi.2.2.2.2.2.2.2.1,Vi.2.2.2.2.2.2.2.2.1,Vi.2.2.2.2.2.2.2.2.2.1,Vi.2.2.2.2.2.2.2.2.2.2.1,()));cond (aX t5 u18) (let Vj:=(gt d94 u18 t5);let u20:=(ak .i64 y2.2.1.1 1);let u21:=(cZ u18 t5 (Vj.1,Vj.2.1,Vj.2.2.1,Vj.2.2.2.1,Vj.2.2.2.2.1,Vj.2.2.2.2.2.1,Vj.2.2.2.2.2.2.1,u20,Vj.2.2.2.2.2.2.2.2.1,Vj.2.2.2.2.2.2.2.2.2.1,Vj.2.2.2.2.2.2.2.2.2.2.1,()));cond (aX t5 u21) (let UK:=(gt d94 u21 t5);(g33 UK.2.2.2.2.2.2.2.2.1 (ak .i64 u20 1)).bind fun y3=>let u23:=(cZ u21 t5 (UK.1,UK.2.1,UK.2.2.1,UK.2.2.2.1,UK.2.2.2.2.1,UK.2.2.2.2.2.1,UK.2.2.2.2.2.2.1,UK.2.2.2.2.2.2.2.1,y3.1.1.1,UK.2.2.2.2.2.2.2.2.2.1,UK.2.2.2.2.2.2.2.2.2.2.1,()));cond (aX t5 u23) (let UL:=(gt d94 u23 t5);(g33 UL.2.2.2.2.2.2.2.2.2.1 y3.2.1.1).bind fun y4=>let u25:=(cZ u23 t5 (UL.1,UL.2.1,UL.2.2.1,UL.2.2.2.1,UL.2.2.2.2.1,UL.2.2.2.2.2.1,UL.2.2.2.2.2.2.1,UL.2.2.2.2.2.2.2.1,UL.2.2.2.2.2.2.2.2.1,y4.1.1.1,UL.2.2.2.2.2.2.2.2.2.2.1,()));cond (aX t5 u25) (let UM:=(gt d94 u25 t5);(Wk UM.2.2.2.2.2.2.2.2.2.2.1 y4.2.1.1).bind fun y5=>eA ((cZ u25 t5 (UM.1,UM.2.1,UM.2.2.1,UM.2.2.2.1,UM.2.2.2.2.1,UM.2.2.2.2.2.1,UM.2.2.2.2.2.2.1,UM.2.2.2.2.2.2.2.1,UM.2.2.2.2.2.2.2.2.1,UM.2.2.2.2.2.2.2.2.2.1,y5.1.1.1,())),y5.2.1.1,(ak .i64 t5 1),())) none) none) none) none) none) none) none) none) none) none) none) (eB (t0,t1,t5,()))
def aad:=pk (aq (fJ zA))
def g69(p0:List gr)(p1:Int):Option ((Y5×Unit)×Y8):=(aad p0 p1 0).bind (Sum.elim (fun y1=>some (((y1.1,()),()),((y1.2.1,()),()))) (fun _=>none))
def s69:=fU [.io false [jZ],aS [af]] jd fun x=>g69 x.1.1 x.2.1.1
theorem akF:bj 69 s69:=fl (ac Cv (ac aeS (ac ahK (ac aht an)))) [] [(0,⟨[.own 0 jZ,.d 1 af,.d 5 af],aq (fJ zA)⟩)] [0] f69 (lp [0] (sc dU sn))
def g19(p0:(List gr)×Unit)(p1:Int):Option ((Y5×Unit)×Y8):=(g69 p0.1 p1).bind fun y1=>some ((y1.1.1,()),(y1.2.1,()))
def s19:=fU [.io true [jZ],aS [af]] jd fun x=>g19 x.1 x.2.1.1
theorem aip:bj 19 s19:=fl (ac akF an) [] [] [0] f19 dU
def Ag(t0:List xK)(t1 t5:Int):Rd ((List xK)×Int×Int×Unit) Unit:=cond (aE t5 (ae t0)) (cond (aX t5 t0) (let u1:=(gt d62 t0 t5);let u2:=(cZ t0 t5 (t1,u1.2.1,u1.2.2.1,()));cond (aX t5 u2) (let u3:=(gt d62 u2 t5);(g20 u3.2.1 (ak .i64 t1 1)).bind fun y1=>let u4:=(cZ u2 t5 (u3.1,y1.1.1.1,u3.2.2.1,()));cond (aX t5 u4) (let u5:=(gt d62 u4 t5);(g20 u5.2.2.1 y1.2.1.1).bind fun y2=>eA ((cZ u4 t5 (u5.1,u5.2.1,y2.1.1.1,())),y2.2.1.1,(ak .i64 t5 1),())) none) none) none) (eB (t0,t1,t5,()))
def aaI:=pk (aq (fJ Ag))
def g26(p0:List xK)(p1:Int):Option ((((List xK)×Unit)×Unit)×Y8):=(aaI p0 p1 0).bind (Sum.elim (fun y1=>some (((y1.1,()),()),((y1.2.1,()),()))) (fun _=>none))
def s26:=fU [.io false [O0],aS [af]] jd fun x=>g26 x.1.1 x.2.1.1
theorem aiq:bj 26 s26:=fl (ac abK an) [] [(0,⟨[.own 0 O0,.d 1 af,.d 5 af],aq (fJ Ag)⟩)] [0] f26 (lp [0] (sc dU sn))
def A7(t0:List rV)(t1 t5:Int):Rd ((List rV)×Int×Int×Unit) Unit:=cond (aE t5 (ae t0)) (cond (aX t5 t0) ((g20 (gt d38 t0 t5).1 t1).bind fun y1=>eA ((cZ t0 t5 y1.1.1),y1.2.1.1,(ak .i64 t5 1),())) none) (eB (t0,t1,t5,()))
def aat:=pk (aq (fJ A7))
def g27(p0:List rV)(p1:Int):Option ((((List rV)×Unit)×Unit)×Y8):=(aat p0 p1 0).bind (Sum.elim (fun y1=>some (((y1.1,()),()),((y1.2.1,()),()))) (fun _=>none))
def s27:=fU [.io false [Lf],aS [af]] jd fun x=>g27 x.1.1 x.2.1.1
theorem ai6:bj 27 s27:=fl (ac abK an) [] [(0,⟨[.own 0 Lf,.d 1 af,.d 5 af],aq (fJ A7)⟩)] [0] f27 (lp [0] (sc dU sn))
def ud(t0:List bA)(t1 t5:Int):Rd ((List bA)×Int×Int×Unit) Y1:=cond (aE t5 (ae t0)) (cond (aX t5 t0) ((xb t1).bind fun y1=>let u1:=(gt d192 t0 t5);cond (!(bF u1.1 y1.2.1.1)) (eC ((-1),())) (cond (aX t5 t0) (let u2:=(ak .i64 t1 1);cond (!(aj u1.2.1 u2)) (eC ((-1),())) (cond (aX t5 t0) (let u3:=(ak .i64 u2 1);cond (!(aj u1.2.2.1 u3)) (eC ((-1),())) (eA (t0,(ak .i64 u3 1),(ak .i64 t5 1),()))) none)) none)) none) (eB (t0,t1,t5,()))
def Qm:=pk (aq (fJ ud))
def WO(p0:List bA)(p1:Int):Option iP:=(Qm p0 p1 0).bind (Sum.elim (fun y1=>zR y1.2.1) (fun y1=>some ((),(y1,()))))
def alc:=fU [aS [bH],aS [af]] jd fun x=>WO x.1.1 x.2.1.1
theorem afU:bj 142 alc:=fl (ac Cv an) [.d 4 af] [(0,⟨[.d 0 bH,.d 1 af,.d 5 af],aq (fJ ud)⟩)] [] f142 (lp [0] (sc dU sn))
def sZ(t0:List R3)(t1 t5:Int):Rd ((List R3)×Int×Int×Unit) Y1:=cond (aE t5 (ae t0)) (cond (aX t5 t0) (cond (!(aj (gt d3 t0 t5).1 t1)) (eC ((-1),())) (eA (t0,(ak .i64 t1 1),(ak .i64 t5 1),()))) none) (eB (t0,t1,t5,()))
def Q6:=pk (aq (fJ sZ))
def Tu(p0:List R3)(p1:Int):Option iP:=(Q6 p0 p1 0).bind (Sum.elim (fun y1=>zR y1.2.1) (fun y1=>some ((),(y1,()))))
def aiI:=fU [aS [q3],aS [af]] jd fun x=>Tu x.1.1 x.2.1.1
theorem afZ:bj 143 aiI:=fl an [.d 4 af] [(0,⟨[.d 0 q3,.d 1 af,.d 5 af],aq (fJ sZ)⟩)] [] f143 (lp [0] (sc dU sn))
def BA(t0:List R5)(t1 t5:Int):Rd ((List R5)×Int×Int×Unit) Y1:=cond (aE t5 (ae t0)) (cond (aX t5 t0) (cond (!(aj (gt d5 t0 t5).1 (dC .u8 t1))) (eC ((-1),())) (eA (t0,(ak .i64 t1 1),(ak .i64 t5 1),()))) none) (eB (t0,t1,t5,()))
def aap:=pk (aq (fJ BA))
def g22(p0:List R5)(p1:Int):Option iP:=(aap p0 p1 0).bind (Sum.elim (fun y1=>zR y1.2.1) (fun y1=>some ((),(y1,()))))
def s22:=fU [aS [q5],aS [af]] jd fun x=>g22 x.1.1 x.2.1.1
theorem agp:bj 22 s22:=fl an [.d 4 af] [(0,⟨[.d 0 q5,.d 1 af,.d 5 af],aq (fJ BA)⟩)] [] f22 (lp [0] (sc dU sn))
def sA(t0:List ch)(t1 t5:Int):Rd ((List ch)×Int×Int×Unit) Y1:=cond (aE t5 (ae t0)) (cond (aX t5 t0) ((xb t1).bind fun y1=>let u1:=(gt d100 t0 t5);cond (!(bF u1.1 y1.2.1.1)) (eC ((-1),())) (cond (aX t5 t0) (let u2:=(ak .i64 t1 1);(xb u2).bind fun y2=>cond (!(bF u1.2.1 y2.2.1.1)) (eC ((-1),())) (cond (aX t5 t0) ((g22 u1.2.2.1 (ak .i64 u2 1)).bind fun y3=>cond (aE y3.2.1.1 0) (eC ((-1),())) (eA (t0,y3.2.1.1,(ak .i64 t5 1),()))) none)) none)) none) (eB (t0,t1,t5,()))
def QA:=pk (aq (fJ sA))
def Wi(p0:List ch)(p1:Int):Option iP:=(QA p0 p1 0).bind (Sum.elim (fun y1=>zR y1.2.1) (fun y1=>some ((),(y1,()))))
def aiX:=fU [aS [ck],aS [af]] jd fun x=>Wi x.1.1 x.2.1.1
theorem aeR:bj 144 aiX:=fl (ac Cv (ac agp an)) [.d 4 af] [(0,⟨[.d 0 ck,.d 1 af,.d 5 af],aq (fJ sA)⟩)] [] f144 (lp [0] (sc dU sn))
def AA(t0:List gr)(t1 t5:Int):Rd ((List gr)×Int×Int×Unit) Y1:=cond (aE t5 (ae t0)) (cond (aX t5 t0) ((xb t1).bind fun y1=>let u1:=(gt d94 t0 t5);cond (!(bF u1.1 y1.2.1.1)) (eC ((-1),())) (cond (aX t5 t0) (let u2:=(ak .i64 t1 1);cond (!(aj u1.2.1 u2)) (eC ((-1),())) (cond (aX t5 t0) (let u3:=(ak .i64 u2 1);cond (!(aj u1.2.2.1 u3)) (eC ((-1),())) (cond (aX t5 t0) (let u4:=(ak .i64 u3 1);cond (!(aj u1.2.2.2.1 u4)) (eC ((-1),())) (cond (aX t5 t0) (let u5:=(ak .i64 u4 1);cond (!(aj u1.2.2.2.2.1 u5)) (eC ((-1),())) (cond (aX t5 t0) ((WO u1.2.2.2.2.2.1 (ak .i64 u5 1)).bind fun y2=>cond (aE y2.2.1.1 0) (eC ((-1),())) (cond (aX t5 t0) (cond (!(aj u1.2.2.2.2.2.2.1 y2.2.1.1)) (eC ((-1),())) (cond (aX t5 t0) (let u6:=(ak .i64 y2.2.1.1 1);cond (!(aj u1.2.2.2.2.2.2.2.1 u6)) (eC ((-1),())) (cond (aX t5 t0) ((Tu u1.2.2.2.2.2.2.2.2.1 (ak .i64 u6 1)).bind fun y3=>cond (aE y3.2.1.1 0) (eC ((-1),())) (cond (aX t5 t0) ((Tu u1.2.2.2.2.2.2.2.2.2.1 y3.2.1.1).bind fun y4=>cond (aE y4.2.1.1 0) (eC ((-1),())) (cond (aX t5 t0) ((Wi u1.2.2.2.2.2.2.2.2.2.2.1 y4.2.1.1).bind fun y5=>cond (aE y5.2.1.1 0) (eC ((-1),())) (eA (t0,y5.2.1.1,(ak .i64 t5 1),()))) none)) none)) none)) none)) none)) none)) none)) none)) none)) none)) none) (eB (t0,t1,t5,()))
def ZC:=pk (aq (fJ AA))
def g70(p0:List gr)(p1:Int):Option iP:=(ZC p0 p1 0).bind (Sum.elim (fun y1=>zR y1.2.1) (fun y1=>some ((),(y1,()))))
def s70:=fU [aS [jZ],aS [af]] jd fun x=>g70 x.1.1 x.2.1.1
theorem aki:bj 70 s70:=fl (ac Cv (ac afU (ac afZ (ac aeR an)))) [.d 4 af] [(0,⟨[.d 0 jZ,.d 1 af,.d 5 af],aq (fJ AA)⟩)] [] f70 (lp [0] (sc dU sn))
def g21(p0:(List gr)×Unit)(p1:Int):Option iP:=(g70 p0.1 p1).bind fun y1=>cond (aE y1.2.1.1 0) (c2) (some ((),(y1.2.1,())))
def s21:=fU [dL [jZ],aS [af]] jd fun x=>g21 x.1 x.2.1.1
theorem akI:bj 21 s21:=fq (ac aki an) f21
def Bs(t0:List rV)(t1 t5:Int):Rd ((List rV)×Int×Int×Unit) Y1:=cond (aE t5 (ae t0)) (cond (aX t5 t0) ((g22 (gt d38 t0 t5).1 t1).bind fun y1=>cond (aE y1.2.1.1 0) (eC ((-1),())) (eA (t0,y1.2.1.1,(ak .i64 t5 1),()))) none) (eB (t0,t1,t5,()))
def ZS:=pk (aq (fJ Bs))
def g28(p0:List rV)(p1:Int):Option iP:=(ZS p0 p1 0).bind (Sum.elim (fun y1=>zR y1.2.1) (fun y1=>some ((),(y1,()))))
def s28:=fU [aS [Lf],aS [af]] jd fun x=>g28 x.1.1 x.2.1.1
theorem ai5:bj 28 s28:=fl (ac agp an) [.d 4 af] [(0,⟨[.d 0 Lf,.d 1 af,.d 5 af],aq (fJ Bs)⟩)] [] f28 (lp [0] (sc dU sn))
def g6(p0:(List jG)×Unit)(p1:List vZ)(p2:List R3):Option iG:=cond (aE 1048576 (ae p2)) (c3) ((g7 p0 1048576).bind fun y1=>cond (aE y1.2.1.1 0) (c3) ((g8 p1 y1.2.1.1).bind fun y2=>cond (aE y2.2.1.1 0) (c3) (let u1:=(g10 p0);Option.bind u1 fun y3=>let u2:=(g11 p1);Option.bind u2 fun y4=>let u3:=(g30 p2);Option.bind u3 fun y5=>(g29 y3.2.1 y4.2.1.1 y5.2.1.1).bind fun y6=>Option.bind u1 fun y7=>Option.bind u2 fun y8=>Option.bind u3 fun y9=>(g31 y7.2.1 y8.2.1.1 y9.2.1.1).bind fun iz=>let u4:=(g13 iz.2.1 y6.2.1);Option.bind u4 fun lq=>cond (!lq.2.1.1) (c0) (let u5:=(g25 iz.2.2.1.1 y6.2.2.1.1);Option.bind u5 fun qS=>cond (!qS.2.1.1) (c0) (Option.bind u1 fun Dw=>(g13 y7.2.1 Dw.2.1).bind fun Pm=>cond (!Pm.2.1.1) (c0) (Option.bind u2 fun y15=>(g14 y8.2.1.1 y15.2.1.1).bind fun y16=>cond (!y16.2.1.1) (c0) (Option.bind u3 fun y17=>(g32 y9.2.1.1 y17.2.1.1).bind fun y18=>cond (!y18.2.1.1) (c0) ((g19 y7.2.1 1).bind fun y19=>(g26 y8.2.1.1 y19.2.1.1).bind fun y20=>(g33 y9.2.1.1 y20.2.1.1).bind fun y21=>cond (aE y21.2.1.1 0) (c0) (Option.bind u4 fun y22=>cond (!y22.2.1.1) (c0) (Option.bind u5 fun y23=>cond (!y23.2.1.1) (c0) ((g19 iz.2.1 1).bind fun y24=>(g27 iz.2.2.1.1 y24.2.1.1).bind fun y25=>let u6:=(g21 y24.1.1 1);Option.bind u6 fun y26=>cond (aE y26.2.1.1 0) (c0) ((g28 y25.1.1.1 y26.2.1.1).bind fun y27=>cond (aE y27.2.1.1 0) (c0) (cond (!(aj y27.2.1.1 y25.2.1.1)) (c0) (Option.bind u1 fun y28=>Option.bind u2 fun y29=>Option.bind u3 fun y30=>(g31 y28.2.1 y29.2.1.1 y30.2.1.1).bind fun y31=>(g13 y31.2.1 y6.2.1).bind fun y32=>cond (!y32.2.1.1) (c0) ((g25 y31.2.2.1.1 y6.2.2.1.1).bind fun y33=>cond (!y33.2.1.1) (c0) (Option.bind u6 fun y34=>cond (aE y34.2.1.1 0) (c0) ((g28 y25.1.1.1 y34.2.1.1).bind fun y35=>cond (aE y35.2.1.1 0) (c0) (cond (!(aj y35.2.1.1 y25.2.1.1)) (c0) (c3)))))))))))))))))))
def s6:=fU [dL [Kc],aS [q61],aS [q3]] iN fun x=>g6 x.1 x.2.1.1 x.2.2.1.1
theorem ok6:bj 6 s6:=fq (ac ok7 (ac ok8 (ac afi (ac akr (ac akd (ac ajH (ac aiA (ac afE (ac ajM (ac alj (ac ajm (ac ahK (ac aip (ac aiq (ac ai6 (ac akI (ac ai5 an))))))))))))))))) f6
end
end Go.Av
