/- FnExactRun, a part. -/
import Derived.Test.YtcmhjdkpbgncfaaGreatDoorP1a
set_option maxRecDepth 100000
namespace Go.Av
open Go.Proofs
open Tryz
set_option maxHeartbeats 4000000
noncomputable section
def ub(t1:Int)(t9:List fS)(t10 t11:Int):Rd (Int×(List fS)×Int×Int×Unit) (S8×Bool×Unit):=cond (aE t11 t10) (cond (aX t11 t9) (let u1:=(gt d117 t9 t11);cond (aj u1.1 t1) (eC (u1.2.1,true,())) (eA (t1,t9,t10,(ak .i64 t11 1),()))) none) (eB (t1,t9,t10,t11,()))
def P3:=rE (aq (eo ub))
def JD(p0:S8×(List fS)×Unit)(p1:Int):Option (Unit×(Bb×Y2×Unit)):=(P3 p1 p0.2.1 (ae p0.2.1) 0).bind (Sum.elim (fun _=>some ((),(([],()),(false,()),()))) (fun y1=>some ((),((y1.1,()),(y1.2.1,()),()))))
def aj9:=fU [dL [.str,eJ],aT [af]] [(false,[.str]),(false,[.bool])] fun x=>JD x.1 x.2.1.1
theorem YA:bj 116 aj9:=fl an [.d 4 .str,.d 5 .bool] [(0,⟨[.d 1 af,.d 9 eJ,.d 10 af,.d 11 af],aq (eo ub)⟩)] [] f116 (lp [0] (sc dV sn))
def Vm  : Option (Unit×(((List M4)×Unit)×Unit)):=zR [([48,49,48,48],[48,48],[97,117,116,104],[(4,()),(14,()),(38,())],()),([48,49,48,48],[48,50],[109,111,114,101],[(4,()),(38,())],()),([48,50,50,48],[48,49],[112,97,114,116],[(4,()),(38,())],()),([48,50,50,48],[48,48],[102,105,110,97,108],[(4,()),(38,())],()),([48,50,50,48],[50,48],[102,114,101,101],[(38,())],()),([48,50,48,48],[52,48],[109,111,118,101],[(38,()),(103,())],()),([48,49,48,48],[51,49],[97,115,107],[],()),([48,50,48,48],[57,48],[115,119,101,101,112],[],())]
def ajt:Su:=⟨[],[(false,[.sl 146 Ky])],false,.inl fun x=>Vm ⟩
theorem ZL:bj 118 ajt:=fl an [] [] [999999] f118 dV
def aco(p0:S8×S8×S8×(List R3)×Unit)(p1:S8×(List fS)×Unit)(p2:S8×Unit):Option iA:=cond (bF p0.1 p1.1) (cond (eV 0 2 p2.1) (zR (bF p0.2.1 (sub p2.1 0 2))) none) (c0)
def aif:=fU [dL [.str,.str,.str,q3],.pt [.str,eJ],.pt [.str]] iN fun x=>aco x.1 x.2.1 x.2.2.1
theorem agR:bj 119 aif:=fq an f119
def sr(t0:List M4)(f1:xQ×Bb×Unit)(t7 t8:Int):Rd ((List M4)×(xQ×Bb×Unit)×Int×Int×Unit) Y1:=cond (aE t8 t7) (cond (aX t8 t0) ((aco (gt d146 t0 t8) f1.1 f1.2.1).bind fun y1=>cond y1.2.1.1 (eC (t8,())) (eA (t0,f1,t7,(ak .i64 t8 1),()))) none) (eB (t0,f1,t7,t8,()))
def abG:=rE (aq (eo sr))
def Wd(p0:List M4)(c1_0:S8×(List fS)×Unit)(c1_1:S8×Unit):Option iL:=(abG p0 (c1_0,c1_1,()) (ae p0) 0).bind (Sum.elim (fun _=>c2) (fun y1=>some ((),(y1,()))))
def aiN:=fU [aT [.sl 146 Ky],.fn 119 [.p [.str,eJ],.p [.str]]] jl fun x=>Wd x.1.1 x.2.1.1 x.2.1.2.1
theorem agD:bj 117 aiN:=fl (ac agR an) [.d 4 af] [(0,⟨[.d 0 (.sl 146 Ky),.fn 1 119 [.p [.str,eJ],.p [.str]],.d 7 af,.d 8 af],aq (eo sr)⟩)] [] f117 (lp [0] (sc dV sn))
def Ec(p0:Int):Option (Unit×(M4×Unit)):=(jc p0 1 8).bind fun y1=>cond (!y1.2.1.1) (some ((),(([],[],[],[],()),()))) ((Vm).bind fun y2=>let u1:=(bf .i64 p0 1);cond (aX u1 y2.2.1.1) (some ((),((gt d146 y2.2.1.1 u1),()))) none)
def ajy:Su:=⟨[.c false [af]],[(true,[.str,.str,.str,q3])],false,.inl fun x=>Ec x.1.1⟩
theorem QE:bj 120 ajy:=fl (ac kf (ac ZL an)) [] [] [999999] f120 dV
def tB(t0:List R3)(t1 t7 t8:Int):Rd ((List R3)×Int×Int×Int×Unit) Y1:=cond (aE t8 t7) (cond (aX t8 t0) (cond (aj t1 (gt d3 t0 t8).1) (eC (t8,())) (eA (t0,t1,t7,(ak .i64 t8 1),()))) none) (eB (t0,t1,t7,t8,()))
def TE:=rE (aq (eo tB))
def ab9(p0:List R3)(p1:Int):Option iL:=(TE p0 p1 (ae p0) 0).bind (Sum.elim (fun _=>c2) (fun y1=>some ((),(y1,()))))
def aj2:=fU [aT [q3],aT [af]] jl fun x=>ab9 x.1.1 x.2.1.1
theorem ae4:bj 285 aj2:=fl an [.d 4 af] [(0,⟨[.d 0 q3,.d 1 af,.d 7 af,.d 8 af],aq (eo tB)⟩)] [] f285 (lp [0] (sc dV sn))
def Xv(p0:List R3)(p1:Int):Option iA:=(ab9 p0 p1).bind fun y1=>zR (ck 0 y1.2.1.1)
def ajZ:=fU [aT [q3],aT [af]] iN fun x=>Xv x.1.1 x.2.1.1
theorem afo:bj 254 ajZ:=fq (ac ae4 an) f254
def nG(p0 p1:Int):Option iA:=(Ec p0).bind fun y1=>(Xv y1.2.1.2.2.2.1 p1).bind fun y2=>some ((),(y2.2.1,()))
def aj0:=fU [aT [af],aT [af]] iN fun x=>nG x.1.1 x.2.1.1
theorem agN:bj 203 aj0:=fq (ac QE (ac afo an)) f203
def NK(p0:Int×S8×S8×S8×S8×S8×Int×Int×Unit):Option iA:=(Ec p0.1).bind fun y1=>cond (cond (bF y1.2.1.2.2.1 []) true (!(bF p0.2.2.2.2.2.1 y1.2.1.1))) (c0) ((xg p0.2.1).bind fun y2=>cond (!y2.2.1.1) (c0) ((yf p0.2.2.2.2.1 6).bind fun y3=>cond (!y3.2.1.1) (c0) ((nG p0.1 38).bind fun y4=>cond y4.2.1.1 ((Hq p0.2.2.2.1).bind fun y5=>let u1:=(nG p0.1 4);Option.bind u1 fun y6=>cond y6.2.1.1 (let u2:=(jc p0.2.2.2.2.2.2.1 0 999999999999);Option.bind u2 fun y7=>let u3:=(nG p0.1 14);Option.bind u3 fun y8=>cond y8.2.1.1 (let u4:=(jc p0.2.2.2.2.2.2.2.1 0 9999);Option.bind u4 fun y9=>let u5:=(nG p0.1 103);Option.bind u5 fun iU=>cond iU.2.1.1 (let u6:=(xg p0.2.2.1);Option.bind u6 fun ln=>let u7:=(cond y5.2.1.1 y7.2.1.1 false);let u8:=(cond u7 y9.2.1.1 false);zR (cond u8 ln.2.1.1 false)) (let u6:=(cond y5.2.1.1 y7.2.1.1 false);let u7:=(cond u6 y9.2.1.1 false);let u8:=(bF p0.2.2.1 []);zR (cond u7 u8 false))) (let u4:=(nG p0.1 103);Option.bind u4 fun y9=>cond y9.2.1.1 (let u5:=(xg p0.2.2.1);Option.bind u5 fun iU=>let u6:=(cond y5.2.1.1 y7.2.1.1 false);let u7:=(cond u6 (aj p0.2.2.2.2.2.2.2.1 0) false);zR (cond u7 iU.2.1.1 false)) (let u5:=(cond y5.2.1.1 y7.2.1.1 false);let u6:=(cond u5 (aj p0.2.2.2.2.2.2.2.1 0) false);let u7:=(bF p0.2.2.1 []);zR (cond u6 u7 false)))) (let u2:=(nG p0.1 14);Option.bind u2 fun y7=>cond y7.2.1.1 (let u3:=(jc p0.2.2.2.2.2.2.2.1 0 9999);Option.bind u3 fun y8=>let u4:=(nG p0.1 103);Option.bind u4 fun y9=>cond y9.2.1.1 (let u5:=(xg p0.2.2.1);Option.bind u5 fun iU=>let u6:=(cond y5.2.1.1 (aj p0.2.2.2.2.2.2.1 0) false);let u7:=(cond u6 y8.2.1.1 false);zR (cond u7 iU.2.1.1 false)) (let u5:=(cond y5.2.1.1 (aj p0.2.2.2.2.2.2.1 0) false);let u6:=(cond u5 y8.2.1.1 false);let u7:=(bF p0.2.2.1 []);zR (cond u6 u7 false))) (let u3:=(nG p0.1 103);Option.bind u3 fun y8=>cond y8.2.1.1 (let u4:=(xg p0.2.2.1);Option.bind u4 fun y9=>let u5:=(cond y5.2.1.1 (aj p0.2.2.2.2.2.2.1 0) false);let u6:=(cond u5 (aj p0.2.2.2.2.2.2.2.1 0) false);zR (cond u6 y9.2.1.1 false)) (let u4:=(cond y5.2.1.1 (aj p0.2.2.2.2.2.2.1 0) false);let u5:=(cond u4 (aj p0.2.2.2.2.2.2.2.1 0) false);let u6:=(bF p0.2.2.1 []);zR (cond u5 u6 false))))) (let u1:=(nG p0.1 4);Option.bind u1 fun y5=>cond y5.2.1.1 (let u2:=(jc p0.2.2.2.2.2.2.1 0 999999999999);Option.bind u2 fun y6=>let u3:=(nG p0.1 14);Option.bind u3 fun y7=>cond y7.2.1.1 (let u4:=(jc p0.2.2.2.2.2.2.2.1 0 9999);Option.bind u4 fun y8=>let u5:=(nG p0.1 103);Option.bind u5 fun y9=>cond y9.2.1.1 (let u6:=(xg p0.2.2.1);Option.bind u6 fun iU=>let u7:=(bF p0.2.2.2.1 []);let u8:=(cond u7 y6.2.1.1 false);let u9:=(cond u8 y8.2.1.1 false);zR (cond u9 iU.2.1.1 false)) (let u6:=(bF p0.2.2.2.1 []);let u7:=(cond u6 y6.2.1.1 false);let u8:=(cond u7 y8.2.1.1 false);let u9:=(bF p0.2.2.1 []);zR (cond u8 u9 false))) (let u4:=(nG p0.1 103);Option.bind u4 fun y8=>cond y8.2.1.1 (let u5:=(xg p0.2.2.1);Option.bind u5 fun y9=>let u6:=(bF p0.2.2.2.1 []);let u7:=(cond u6 y6.2.1.1 false);let u8:=(cond u7 (aj p0.2.2.2.2.2.2.2.1 0) false);zR (cond u8 y9.2.1.1 false)) (let u5:=(bF p0.2.2.2.1 []);let u6:=(cond u5 y6.2.1.1 false);let u7:=(cond u6 (aj p0.2.2.2.2.2.2.2.1 0) false);let u8:=(bF p0.2.2.1 []);zR (cond u7 u8 false)))) (let u2:=(nG p0.1 14);Option.bind u2 fun y6=>cond y6.2.1.1 (let u3:=(jc p0.2.2.2.2.2.2.2.1 0 9999);Option.bind u3 fun y7=>let u4:=(nG p0.1 103);Option.bind u4 fun y8=>cond y8.2.1.1 (let u5:=(xg p0.2.2.1);Option.bind u5 fun y9=>let u6:=(bF p0.2.2.2.1 []);let u7:=(cond u6 (aj p0.2.2.2.2.2.2.1 0) false);let u8:=(cond u7 y7.2.1.1 false);zR (cond u8 y9.2.1.1 false)) (let u5:=(bF p0.2.2.2.1 []);let u6:=(cond u5 (aj p0.2.2.2.2.2.2.1 0) false);let u7:=(cond u6 y7.2.1.1 false);let u8:=(bF p0.2.2.1 []);zR (cond u7 u8 false))) (let u3:=(nG p0.1 103);Option.bind u3 fun y7=>cond y7.2.1.1 (let u4:=(xg p0.2.2.1);Option.bind u4 fun y8=>let u5:=(bF p0.2.2.2.1 []);let u6:=(cond u5 (aj p0.2.2.2.2.2.2.1 0) false);let u7:=(cond u6 (aj p0.2.2.2.2.2.2.2.1 0) false);zR (cond u7 y8.2.1.1 false)) (let u4:=(bF p0.2.2.2.1 []);let u5:=(cond u4 (aj p0.2.2.2.2.2.2.1 0) false);let u6:=(cond u5 (aj p0.2.2.2.2.2.2.2.1 0) false);let u7:=(bF p0.2.2.1 []);zR (cond u6 u7 false))))))))
def ae5:=fU [dL [af,.str,.str,.str,.str,.str,af,af]] iN fun x=>NK x.1
theorem RX:bj 123 ae5:=fq (ac Zd (ac kf (ac zg (ac LP (ac QE (ac agN an)))))) f123
def DK(t0:S8)(t1:Int):Rd Y15 Unit:=let u1:=(ae t0);cond (aE 0 u1) (let u2:=(bf .i64 u1 1);cond (aX u2 t0) (cond (aj (fh t0 u2) t1) (cond (eV 0 u2 t0) (eA ((sub t0 0 u2),t1,())) none) (eB (t0,t1,()))) none) (eB (t0,t1,()))
def Q2:=UQ (aq (Az DK))
def QX(p0:S8)(p1:Int):Option Ea:=(Q2 p0 p1).bind (Sum.elim (fun y1=>zR y1.1) (fun _=>none))
def aiB:=fU [aT [.str],.c false xA] Fh fun x=>QX x.1.1 x.2.1.1
theorem aeH:bj 250 aiB:=fl an [] [(0,⟨[.d 0 .str,.d 1 (.int .u8)],aq (Az DK)⟩)] [] f250 (lp [0] (sc dV sn))
def abt(p0 p1:S8):Option Ea:=cond (cond (bF p0 []) true (bF p1 [])) (zR p0) (cond (aj (ae p1) 1) (cond (aX 0 p1) (let u1:=(fh p1 0);cond (aE u1 128) (cond (aX 0 p1) ((QX p0 u1).bind fun y1=>some ((),(y1.2.1,()))) none) (none)) none) (none))
def aic:=fU [aT [.str],aT [.str]] Fh fun x=>abt x.1.1 x.2.1.1
theorem agB:bj 202 aic:=fq (ac aeH an) f202
def XU(p0:S8):Option Ea:=(abt p0 [32]).bind fun y1=>some ((),(y1.2.1,()))
def akg:=fU [aT [.str]] Fh fun x=>XU x.1.1
theorem aeN:bj 122 akg:=fq (ac agB an) f122
def Aj(t41:List R3)(t42 t43:Int)(b1:S8×(List fS)×Unit)(b2 b6:Int×S8×S8×S8×S8×S8×Int×Int×Unit):Rd ((List R3)×Int×Int×xQ×Y67×Y67×Unit) (Int×Y67×Unit):=cond (aE t43 t42) (cond (aX t43 t41) ((JD b1 (gt d3 t41 t43).1).bind fun y1=>cond (!y1.2.2.1.1) (eC (1,(0,[],[],[],[],[],0,0,()),())) (cond (aj (gt d3 t41 t43).1 2) (let u1:=(ak .i64 t43 1);eA (t41,t42,u1,b1,b2,(b6.1,y1.2.1.1,b6.2.2.1,b6.2.2.2.1,b6.2.2.2.2.1,b6.2.2.2.2.2.1,b6.2.2.2.2.2.2.1,b6.2.2.2.2.2.2.2.1,()),())) (cond (aj (gt d3 t41 t43).1 4) (let u1:=(I9 y1.2.1.1);Option.bind u1 fun y2=>let u2:=(ak .i64 t43 1);eA (t41,t42,u2,b1,b2,(b6.1,b6.2.1,b6.2.2.1,b6.2.2.2.1,b6.2.2.2.2.1,b6.2.2.2.2.2.1,y2.2.1.1,b6.2.2.2.2.2.2.2.1,()),())) (cond (aj (gt d3 t41 t43).1 11) (let u1:=(ak .i64 t43 1);eA (t41,t42,u1,b1,b2,(b6.1,b6.2.1,b6.2.2.1,b6.2.2.2.1,y1.2.1.1,b6.2.2.2.2.2.1,b6.2.2.2.2.2.2.1,b6.2.2.2.2.2.2.2.1,()),())) (cond (aj (gt d3 t41 t43).1 14) (let u1:=(I9 y1.2.1.1);Option.bind u1 fun y2=>let u2:=(ak .i64 t43 1);eA (t41,t42,u2,b1,b2,(b6.1,b6.2.1,b6.2.2.1,b6.2.2.2.1,b6.2.2.2.2.1,b6.2.2.2.2.2.1,b6.2.2.2.2.2.2.1,y2.2.1.1,()),())) (cond (aj (gt d3 t41 t43).1 38) ((XU y1.2.1.1).bind fun y2=>let u1:=(ak .i64 t43 1);eA (t41,t42,u1,b1,b2,(b6.1,b6.2.1,b6.2.2.1,y2.2.1.1,b6.2.2.2.2.1,b6.2.2.2.2.2.1,b6.2.2.2.2.2.2.1,b6.2.2.2.2.2.2.2.1,()),())) (cond (aj (gt d3 t41 t43).1 103) (let u1:=(ak .i64 t43 1);eA (t41,t42,u1,b1,b2,(b6.1,b6.2.1,y1.2.1.1,b6.2.2.2.1,b6.2.2.2.2.1,b6.2.2.2.2.2.1,b6.2.2.2.2.2.2.1,b6.2.2.2.2.2.2.2.1,()),())) (let u1:=(ak .i64 t43 1);eA (t41,t42,u1,b1,b2,b6,()))))))))) none) (eB (t41,t42,t43,b1,b2,b6,()))
def YK:=cu6 (aq (Fk Aj))
def g63(p0:S8×(List fS)×Unit):Option (Unit×(Y67×Y1×Unit)):=(GX p0).bind fun y1=>cond (!y1.2.1.1) (c1) ((abg p0.1).bind fun y2=>cond (!y2.2.1.1) (c30) ((JD p0 3).bind fun y3=>cond (!y3.2.2.1.1) (c1) ((Vm).bind fun y4=>(Wd y4.2.1.1 p0 y3.2.1).bind fun y5=>let u1:=(ak .i64 1 y5.2.1.1);(Ec u1).bind fun y6=>cond (bl 8 [(2,()),(11,())] y6.2.1.2.2.2.1) (let u2:=(fQ [(2,()),(11,())] y6.2.1.2.2.2.1);(YK u2 (ae u2) 0 p0 (0,[],[],[],[],[],0,0,()) (u1,[],[],[],[],p0.1,0,0,())).bind (Sum.elim (fun y7=>(NK y7.2.2.2.2.2.1).bind fun y8=>cond (!y8.2.1.1) (c1) (some ((),(y7.2.2.2.2.2.1,(0,()),())))) (fun y7=>some ((),(y7.2.1,(y7.1,()),()))))) none)))
def s63:=fU [dL [.str,eJ]] [(true,[af,.str,.str,.str,.str,.str,af,af]),(false,[af])] fun x=>g63 x.1
theorem acJ:bj 63 s63:=fl (ac YM (ac Kq (ac ahc (ac YA (ac ZL (ac agD (ac QE (ac RX (ac aeN an))))))))) [.d 3 af,.box 2 [(false,.int .i64),(false,.str),(false,.str),(false,.str),(false,.str),(false,.str),(false,.int .i64),(false,.int .i64)]] [(0,⟨[.own 41 q3,.d 42 af,.d 43 af,.box 1 [(false,.str),(false,eJ)],.box 2 [(false,.int .i64),(false,.str),(false,.str),(false,.str),(false,.str),(false,.str),(false,.int .i64),(false,.int .i64)],.box 6 [(false,.int .i64),(false,.str),(false,.str),(false,.str),(false,.str),(false,.str),(false,.int .i64),(false,.int .i64)]],aq (Fk Aj)⟩)] [] f63 (lp [0] (sc dV sn))
def W8(p0:Int)(p1:S8):Option Ea:=(Sk p0).bind fun y1=>(Ef p0).bind fun y2=>cond (aj y2.2.1.1 1) (let u1:=(JA (bf .i64 y1.2.1.1 (ae p1)) 0);(Jk [48] u1).bind fun y3=>cond (jL y3.2.1.1 p1) (let u2:=(uy y3.2.1.1 p1);(sk p0 u2).bind fun y4=>cond (!y4.2.1.1) (c6) (zR u2)) none) (cond (aj y2.2.1.1 2) (let u1:=(JA (bf .i64 y1.2.1.1 (ae p1)) 0);(Jk [32] u1).bind fun y3=>cond (jL p1 y3.2.1.1) (let u2:=(uy p1 y3.2.1.1);(sk p0 u2).bind fun y4=>cond (!y4.2.1.1) (c6) (zR u2)) none) ((sk p0 p1).bind fun y3=>cond (!y3.2.1.1) (c6) (zR p1)))
def aju:=fU [aT [af],aT [.str]] Fh fun x=>W8 x.1.1 x.2.1.1
theorem aen:bj 206 aju:=fq (ac Gn (ac ZN (ac KO (ac ZG an)))) f206
def FO(p0:Int)(p1:S8)(p2:S8×(List fS)×Unit):Option ((xQ×Unit)×Unit):=cond (bl 24 p2.2.1 [(p0,p1,())]) (some (((p2.1,(fQ p2.2.1 [(p0,p1,())]),()),()),())) none
def akS:=fU [aT [af],aT [.str],.pw [(false,.str),(true,eJ)]] [] fun x=>FO x.1.1 x.2.1.1 x.2.2.1
theorem ahe:bj 205 akS:=fl an [] [] [2] f205 dV
def tV(t1:Int)(t2 t3:S8)(_:Unit)(t36:List R3)(t37 t38:Int)(b4 b8 pX:S8×(List fS)×Unit):Rd (Int×S8×S8×Unit×(List R3)×Int×Int×xQ×xQ×xQ×Unit) Unit:=cond (aE t38 t37) (cond (aX t38 t36) ((JD b4 (gt d3 t36 t38).1).bind fun y1=>cond (aj (gt d3 t36 t38).1 38) (cond (cond (aj t1 0) (!(bF t2 [])) false) ((W8 38 t2).bind fun y2=>(FO 38 y2.2.1.1 pX).bind fun y3=>let u1:=(ak .i64 t38 1);eA (t1,t2,t3,(),t36,t37,u1,b4,b8,y3.1.1,())) (let u1:=(ak .i64 t38 1);eA (t1,t2,t3,(),t36,t37,u1,b4,b8,pX,()))) (cond (aj (gt d3 t36 t38).1 39) ((NB t1).bind fun y2=>(FO 39 y2.2.1.1 pX).bind fun y3=>let u1:=(ak .i64 t38 1);eA (t1,t2,t3,(),t36,t37,u1,b4,b8,y3.1.1,())) (cond (aj (gt d3 t36 t38).1 54) (cond (!(bF t3 [])) ((FO 54 t3 pX).bind fun y2=>let u1:=(ak .i64 t38 1);eA (t1,t2,t3,(),t36,t37,u1,b4,b8,y2.1.1,())) (let u1:=(ak .i64 t38 1);eA (t1,t2,t3,(),t36,t37,u1,b4,b8,pX,()))) (cond y1.2.2.1.1 ((FO (gt d3 t36 t38).1 y1.2.1.1 pX).bind fun y2=>let u1:=(ak .i64 t38 1);eA (t1,t2,t3,(),t36,t37,u1,b4,b8,y2.1.1,())) (let u1:=(ak .i64 t38 1);eA (t1,t2,t3,(),t36,t37,u1,b4,b8,pX,())))))) none) (eB (t1,t2,t3,(),t36,t37,t38,b4,b8,pX,()))
def T6:=ae1 (aq (Oi tV))
def Wk(p0:S8×(List fS)×Unit)(p1:Int)(p2 p3:S8):Option Y63:=(GX p0).bind fun y1=>cond (!y1.2.1.1) (Xn) (let u1:=(g60 p0.1);Option.bind u1 fun y2=>cond (bF y2.2.1.1 []) (Xn) ((NB p1).bind fun y3=>cond (bF y3.2.1.1 []) (Xn) (Option.bind u1 fun y4=>(T6 p1 p2 p3 () [(2,()),(3,()),(4,()),(7,()),(11,()),(37,()),(38,()),(39,()),(41,()),(49,()),(54,()),(102,()),(103,())] (ae [(2,()),(3,()),(4,()),(7,()),(11,()),(37,()),(38,()),(39,()),(41,()),(49,()),(54,()),(102,()),(103,())]) 0 p0 ([],[],()) (y4.2.1.1,[],())).bind (Sum.elim (fun y5=>(GX y5.2.2.2.2.2.2.2.2.2.1).bind fun y6=>cond (!y6.2.1.1) (Xn) (some ((),(y5.2.2.2.2.2.2.2.2.2.1,(true,()),())))) (fun _=>none)))))
def akn:=fU [dL [.str,eJ],aT [af],aT [.str],aT [.str]] [(true,[.str,eJ]),(false,[.bool])] fun x=>Wk x.1 x.2.1.1 x.2.2.1.1 x.2.2.2.1.1
theorem afW:bj 124 akn:=fl (ac SV (ac ZB (ac Kq (ac YA (ac aen (ac ahe an)))))) [] [(0,⟨[.d 1 af,.d 2 .str,.d 3 .str,.fr 11 205 10,.own 36 q3,.d 37 af,.d 38 af,.box 4 [(false,.str),(false,eJ)],.box 8 [(false,.str),(true,eJ)],.box 10 [(false,.str),(true,eJ)]],aq (Oi tV)⟩)] [] f124 (lp [0] (sc dV sn))
def Yx(p0:S8×(List fS)×Unit)(p1:Int)(p2 p3:S8):Option Y27:=(Wk p0 p1 p2 p3).bind fun y1=>(g62 y1.2.1).bind fun y2=>some ((),(y2.2.1,()))
def s64:=fU [dL [.str,eJ],aT [af],aT [.str],aT [.str]] w7R fun x=>Yx x.1 x.2.1.1 x.2.2.1.1 x.2.2.2.1.1
theorem ab2:bj 64 s64:=fq (ac V7 (ac afW an)) f64
def ado(p0:S8×Int×Int×Int×Int×(List bz)×Int×Int×(List R3)×(List R3)×(List ch)×Unit)(p1:S8×Unit):Option iA:=zR (bF p0.1 p1.1)
def ajn:=fU [dL [.str,af,af,af,af,bH,af,af,q3,q3,cl],.pt [.str]] iN fun x=>ado x.1 x.2.1
theorem afI:bj 126 ajn:=fq an f126
def tY(t0:List gH)(f1:Bb×Unit)(t7 t8:Int):Rd ((List gH)×(Bb×Unit)×Int×Int×Unit) Y1:=cond (aE t8 t7) (cond (aX t8 t0) ((ado (gt d94 t0 t8) f1.1).bind fun y1=>cond y1.2.1.1 (eC (t8,())) (eA (t0,f1,t7,(ak .i64 t8 1),()))) none) (eB (t0,f1,t7,t8,()))
def SJ:=rE (aq (eo tY))
def abB(p0:List gH)(c1_0:S8×Unit):Option iL:=(SJ p0 (c1_0,()) (ae p0) 0).bind (Sum.elim (fun _=>c2) (fun y1=>some ((),(y1,()))))
def ais:=fU [aT [kn],.fn 126 [.p [.str]]] jl fun x=>abB x.1.1 x.2.1.1
theorem ael:bj 125 ais:=fl (ac afI an) [.d 4 af] [(0,⟨[.d 0 kn,.fn 1 126 [.p [.str]],.d 7 af,.d 8 af],aq (eo tY)⟩)] [] f125 (lp [0] (sc dV sn))
def g65(p0:(List gH)×Unit)(p1:S8):Option iL:=(abB p0.1 (p1,())).bind fun y1=>some ((),(y1.2.1,()))
def s65:=fU [dL [kn],aT [.str]] jl fun x=>g65 x.1 x.2.1.1
theorem Qy:bj 65 s65:=fq (ac ael an) f65
def g66(p0:List ch)(p1 p2:S8):Option O0:=(P8 p0 p1 p2).bind fun y1=>cond (aE y1.2.1.1 0) (c7) (cond (aX y1.2.1.1 p0) ((IW (gt d100 p0 y1.2.1.1).2.2.1).bind fun y2=>some ((),(y2.2.1,(true,()),()))) none)
def s66:=fU [aT [cl],aT [.str],aT [.str]] UW fun x=>g66 x.1.1 x.2.1.1 x.2.2.1.1
theorem ade:bj 66 s66:=fq (ac aaF (ac Zt an)) f66
def vH(p0:S8×Int×Int×Int×Int×(List bz)×Int×Int×(List R3)×(List R3)×(List ch)×Unit)(p1:Int):Option GH:=(IL p0).bind fun y1=>cond (!y1.2.1.1) (c8) ((Og p1).bind fun y2=>cond (!y2.2.1.1) (c8) ((Q8 p0 p1).bind fun y3=>some ((),(y3.2.1,(0,()),()))))
def afV:=fU [dL [.str,af,af,af,af,bH,af,af,q3,q3,cl],aT [af]] QW fun x=>vH x.1 x.2.1.1
theorem Ac:bj 209 afV:=fq (ac sQ (ac Mc (ac aaS an))) f209
def abu(p0:S8×Int×Int×Unit)(p1:S8×Unit):Option iA:=zR (bF p0.1 p1.1)
def aih:=fU [dL [.str,af,af],.pt [.str]] iN fun x=>abu x.1 x.2.1
theorem ag6:bj 257 aih:=fq an f257
def mG(t0:List bz)(f1:Bb×Unit)(t7 t8:Int):Rd Y59 Y1:=cond (aE t8 t7) (cond (aX t8 t0) ((abu (gt d192 t0 t8) f1.1).bind fun y1=>cond y1.2.1.1 (eC (t8,())) (eA (t0,f1,t7,(ak .i64 t8 1),()))) none) (eB (t0,f1,t7,t8,()))
def Gd:=rE (aq (eo mG))
def J4(p0:List bz)(c1_0:S8×Unit):Option iL:=(Gd p0 (c1_0,()) (ae p0) 0).bind (Sum.elim (fun _=>c2) (fun y1=>some ((),(y1,()))))
def abo:=fU [aT [bH],.fn 257 [.p [.str]]] jl fun x=>J4 x.1.1 x.2.1.1
theorem VB:bj 256 abo:=fl (ac ag6 an) [.d 4 af] [(0,⟨[.d 0 bH,.fn 1 257 [.p [.str]],.d 7 af,.d 8 af],aq (eo mG)⟩)] [] f256 (lp [0] (sc dV sn))
def JN(p0:List bz)(p1:S8):Option iL:=(J4 p0 (p1,())).bind fun y1=>some ((),(y1.2.1,()))
def aeD:=fU [aT [bH],aT [.str]] jl fun x=>JN x.1.1 x.2.1.1
theorem HQ:bj 210 aeD:=fq (ac VB an) f210
def X2(p0:List bz)(p1:Int):Option iL:=(Po p0 p1).bind fun y1=>(QI y1.2.1.1).bind fun y2=>some ((),(y2.2.1,()))
def aiR:=fU [aT [bH],aT [af]] jl fun x=>X2 x.1.1 x.2.1.1
theorem afL:bj 264 aiR:=fq (ac Zk (ac aaj an)) f264
def Nz(p0:S8×Int×Int×Int×Int×(List bz)×Int×Int×(List R3)×(List R3)×(List ch)×Unit)(p1:Int):Option iL:=(IL p0).bind fun y1=>cond (!y1.2.1.1) (c5) ((Og p1).bind fun y2=>cond (!y2.2.1.1) (c5) ((X2 p0.2.2.2.2.2.1 p1).bind fun y3=>zR (bf .i64 (bf .i64 p0.2.1 p0.2.2.1) y3.2.1.1)))
def afm:=fU [dL [.str,af,af,af,af,bH,af,af,q3,q3,cl],aT [af]] jl fun x=>Nz x.1 x.2.1.1
theorem Hm:bj 216 afm:=fq (ac sQ (ac Mc (ac afL an))) f216
def uj(t0:List R3)(t1:Int)(t5:List R3)(t11 t12:Int):Rd ((List R3)×Int×(List R3)×Int×Int×Unit) Unit:=cond (aE t12 t11) (cond (ck t1 t12) (let u1:=(bf .i64 t12 t1);cond (aX u1 t0) (cond (aX t12 t5) (let u2:=(ak .i64 t12 1);eA (t0,t1,(cZ t5 t12 (gt d3 t0 u1)),t11,u2,())) none) none) (let u1:=(ak .i64 t12 1);eA (t0,t1,t5,t11,u1,()))) (eB (t0,t1,t5,t11,t12,()))
def Qb:=O2 (aq (pZ uj))
def PS(p0:List R3)(p1:Int):Option Y26:=let u1:=(ae p0);cond (VG 8 u1) ((Qb p0 p1 (wM d3 u1) u1 0).bind (Sum.elim (fun y1=>zR y1.2.2.1) (fun _=>none))) none
def akQ:=fU [aT [q3],aT [af]] [(false,[q3])] fun x=>PS x.1.1 x.2.1.1
theorem af6:bj 295 akQ:=fl an [] [(0,⟨[.d 0 q3,.d 1 af,.own 5 q3,.d 11 af,.d 12 af],aq (pZ uj)⟩)] [] f295 (lp [0] (sc dV sn))
def MF(p0:Int×Int×(List R3)×(List R3)×Unit)(p1:Int):Option Y56:=(DO p0).bind fun y1=>(Eo p0).bind fun y2=>cond (!y2.2.1.1) (some ((),(y1.2.1,()))) ((Og p1).bind fun y3=>cond (!y3.2.1.1) (some ((),(y1.2.1,()))) (cond (!(aj p0.1 0)) (let u1:=(kq .i64 p1 p0.1);cond (ck u1 p0.2.1) (some ((),(y1.2.1,()))) (cond (!(aj p0.1 0)) (cond (!(aj p0.1 0)) (let u2:=(bf .i64 u1 p0.2.1);(PS p0.2.2.1 u2).bind fun y4=>(PS p0.2.2.2.1 u2).bind fun y5=>some ((),((p0.1,u1,y4.2.1.1,y5.2.1.1,()),()))) none) none)) none))
def afc:=fU [dL [af,af,q3,q3],aT [af]] w6R fun x=>MF x.1 x.2.1.1
theorem Lq:bj 261 afc:=fq (ac L5 (ac sQ (ac Df (ac af6 an)))) f261
def sX(t3:Int)(t6:List R3)(t7 t8:Int):Rd (Int×(List R3)×Int×Int×Unit) Unit:=cond (aE t8 t7) (cond (aX t8 t6) ((B4 t3 (gt d3 t6 t8).1).bind fun y1=>eA (y1.2.1.1,t6,t7,(ak .i64 t8 1),())) none) (eB (t3,t6,t7,t8,()))
def Pw:=rE (aq (eo sX))
def S1(p0:List R3):Option iL:=(Pw 0 p0 (ae p0) 0).bind (Sum.elim (fun y1=>zR y1.1) (fun _=>none))
def ai0:=fU [aT [q3]] jl fun x=>S1 x.1.1
theorem YB:bj 292 ai0:=fl (ac CO an) [] [(0,⟨[.d 3 af,.d 6 q3,.d 7 af,.d 8 af],aq (eo sX)⟩)] [] f292 (lp [0] (sc dV sn))
def Tv(p0:Int×Int×(List R3)×(List R3)×Unit)(p1:Int):Option iL:=(Eo p0).bind fun y1=>cond (!y1.2.1.1) (c5) ((Og p1).bind fun y2=>cond (!y2.2.1.1) (c5) ((MF p0 p1).bind fun y3=>(S1 y3.2.1.2.2.1).bind fun y4=>some ((),(y4.2.1,()))))
def ail:=fU [dL [af,af,q3,q3],aT [af]] jl fun x=>Tv x.1 x.2.1.1
theorem ahH:bj 258 ail:=fq (ac sQ (ac Df (ac Lq (ac YB an)))) f258
def S3(p0:Int×Int×(List R3)×(List R3)×Unit)(p1:Int):Option iL:=(Eo p0).bind fun y1=>cond (!y1.2.1.1) (c5) ((Og p1).bind fun y2=>cond (!y2.2.1.1) (c5) ((MF p0 p1).bind fun y3=>(S1 y3.2.1.2.2.2.1).bind fun y4=>some ((),(y4.2.1,()))))
def alh:=fU [dL [af,af,q3,q3],aT [af]] jl fun x=>S3 x.1 x.2.1.1
theorem agJ:bj 259 alh:=fq (ac sQ (ac Df (ac Lq (ac YB an)))) f259
def Ps(p0:S8×Int×Int×Int×Int×(List bz)×Int×Int×(List R3)×(List R3)×(List ch)×Unit)(p1 p2:Int):Option iL:=(Nz p0 p2).bind fun y1=>cond (aE y1.2.1.1 p1) (zR 7) ((Tv (p0.2.2.2.2.2.2.1,p0.2.2.2.2.2.2.2.1,p0.2.2.2.2.2.2.2.2.1,p0.2.2.2.2.2.2.2.2.2.1,()) p2).bind fun y2=>(B4 y2.2.1.1 1).bind fun y3=>cond (aE p0.2.2.2.1 y3.2.1.1) (c22) ((S3 (p0.2.2.2.2.2.2.1,p0.2.2.2.2.2.2.2.1,p0.2.2.2.2.2.2.2.2.1,p0.2.2.2.2.2.2.2.2.2.1,()) p2).bind fun y4=>(B4 y4.2.1.1 p1).bind fun y5=>cond (aE p0.2.2.2.2.1 y5.2.1.1) (zR 9) (c5)))
def akE:=fU [dL [.str,af,af,af,af,bH,af,af,q3,q3,cl],aT [af],aT [af]] jl fun x=>Ps x.1 x.2.1.1 x.2.2.1.1
theorem aaA:bj 211 akE:=fq (ac CO (ac Hm (ac ahH (ac agJ an)))) f211
def SL(p0:S8×Int×Int×Unit)(p1:S8×Unit):Option iA:=zR (bF p0.1 p1.1)
def aeS:=fU [dL [.str,af,af],.pt [.str]] iN fun x=>SL x.1 x.2.1
theorem Zm:bj 263 aeS:=fq an f263
def me(t0:List bz)(f1:Bb×Unit)(t7 t8:Int):Rd Y59 Y1:=cond (aE t8 t7) (cond (aX t8 t0) ((SL (gt d192 t0 t8) f1.1).bind fun y1=>cond y1.2.1.1 (eC (t8,())) (eA (t0,f1,t7,(ak .i64 t8 1),()))) none) (eB (t0,f1,t7,t8,()))
def HC:=rE (aq (eo me))
def D9(p0:List bz)(c1_0:S8×Unit):Option iL:=(HC p0 (c1_0,()) (ae p0) 0).bind (Sum.elim (fun _=>c2) (fun y1=>some ((),(y1,()))))
def TA:=fU [aT [bH],.fn 263 [.p [.str]]] jl fun x=>D9 x.1.1 x.2.1.1
theorem VH:bj 256 TA:=fl (ac Zm an) [.d 4 af] [(0,⟨[.d 0 bH,.fn 1 263 [.p [.str]],.d 7 af,.d 8 af],aq (eo me)⟩)] [] f256 (lp [0] (sc dV sn))
def lj(t0:List bz)(f1:Bb×Unit)(t5 t6:Int):Rd Y59 Unit:=cond (aE t6 (ae t0)) (cond (aX t6 t0) (let u1:=(gt d192 t0 t6);(SL u1 f1.1).bind fun y1=>cond (!y1.2.1.1) (cond (aX t5 t0) (let u2:=(gt d192 t0 t5);let u3:=(cZ t0 t5 (u1.1,u2.2.1,u2.2.2.1,()));let u4:=(gt d192 u3 t5);let u5:=(cZ u3 t5 (u4.1,u1.2.1,u4.2.2.1,()));let u6:=(gt d192 u5 t5);let u7:=(ak .i64 t6 1);eA ((cZ u5 t5 (u6.1,u6.2.1,u1.2.2.1,())),f1,(ak .i64 t5 1),u7,())) none) (let u2:=(ak .i64 t6 1);eA (t0,f1,t5,u2,()))) none) (eB (t0,f1,t5,t6,()))
def uK:=rE (aq (eo lj))
def Bo(p0:List bz)(c1_0:S8×Unit):Option Y32:=(D9 p0 c1_0).bind fun y1=>cond (aj y1.2.1.1 (-1)) (zR p0) ((uK p0 (c1_0,()) y1.2.1.1 (ak .i64 y1.2.1.1 1)).bind (Sum.elim (fun y2=>cond (eV y2.2.2.1 (ae y2.1) y2.1) (let u1:=(nJ d192 y2.1 y2.2.2.1);cond (eV 0 y2.2.2.1 u1) (zR (XE u1 y2.2.2.1)) none) none) (fun _=>none)))
def Ed:=fU [.mv bH,.fn 263 [.p [.str]]] VF fun x=>Bo x.1 x.2.1.1
def oz:List SE:=[.own 0 bH,.fn 1 263 [.p [.str]],.d 5 af,.d 6 af]
def L2:List SE:=[]
def XF:Nat->Option (Lo L2)
 | 0=>some ⟨oz,eo uK⟩
 | _=>none
def L4:List Y0:=[(263,iS aeS),(256,iS TA)]
def Wq:Nat->Option (St->Tr St)
 | 11=>some (wm 36 37 38 0 5 nj)
 | _=>none
def tH:En:=xE 42 tt L4 L2 XF [] (Wq)
theorem Qq(x:ff oz):(nE tH 0 oz (kK 0 (aw f262)) x).run=eo lj x:=by kernel_rfl
theorem ads(x:PT Ed.ps):(Ii tH (aw f262) f262.results.toList Ed.ps Ed.rs true x).run=Bo x.1 x.2.1.1:=by kernel_rfl
theorem G8:dO prog tH:=cD (l:=L4) ⟨Zm,VH,trivial⟩
theorem NG:dA prog tH (bq 11 (aw f262)) (wm 36 37 38 0 5 nj) :=
 CS (E:=tH) (rB hT) (rid:=11) (ta:=36) (tb:=37) (tc:=38) (t0:=0) (tI:=5) (ty:=89) (o1:=pU (bq 11 (aw f262)) 0) (o2:=pU (bq 11 (aw f262)) 1) (o3:=pU (bq 11 (aw f262)) 2) (o4:=pU (bq 11 (aw f262)) 3) (c:=Pv (pU (bq 11 (aw f262)) 3)) (te:=⟨true,nj,0,32,[(0,9),(1,3),(2,3)]⟩)
  (by kernel_rfl) (by kernel_rfl) (by kernel_rfl) (by kernel_rfl) (by kernel_rfl) (by kernel_rfl) (by kernel_rfl) (by kernel_rfl) (by kernel_rfl) (by kernel_rfl) (by kernel_rfl) (by kernel_rfl) (by kernel_rfl) (by kernel_rfl) (by kernel_rfl) (by kernel_rfl) (by kernel_rfl) (by kernel_rfl) (by kernel_rfl) (by kernel_rfl) (by kernel_rfl)
theorem Pu:j4 prog tH 0 (.loop (kK 0 (aw f262))) ⟨oz,eo uK⟩ :=
 D6 (rB hT) G8 iQ (step:=fun(x:ff oz)=>lj x.1 x.2.1 x.2.2.1 x.2.2.2.1) Qq (db [] (by kernel_rfl) trivial [] (by kernel_rfl) trivial)
theorem WC:bj 262 Ed :=
 pN (E:=tH) (rB hT) G8 iQ (fn:=f262) (c:=(aw f262)) (by kernel_rfl) (by kernel_rfl) (by kernel_rfl) rfl (db [(0,.loop (kK 0 (aw f262)))] (by kernel_rfl) ⟨XJ rfl Pu,trivial⟩ [(11,bq 11 (aw f262))] (by kernel_rfl) ⟨uk rfl NG,trivial⟩) fun x y h=>⟨y.1,fun _=>rfl,(ads x).trans h⟩
def DY(p0:List bz)(p1:S8):Option Y32:=(EE p0).bind fun y1=>(Bo y1.2.1.1 (p1,())).bind fun y2=>some ((),(y2.2.1,()))
def agP:=fU [aT [bH],aT [.str]] VF fun x=>DY x.1.1 x.2.1.1
theorem Db:bj 215 agP:=fq (ac QJ (ac WC an)) f215
section
open Go.RowKit Go.Lib
theorem ac8(a:Option Addr)(n c i:Nat)(a2:Option Addr)(m c2:Nat)(w:World)(hi:i<=n)(hc:n<=c)(hm:(m:Int)=0) :
 Calls prog 260 #[.slice a n c,.int .i64 i,.slice a2 m c2] w fun e w'=>e= .returned (.slice a n c)/\w'=w:=by
 go_enter Tryz.func260,Tryz.ntmps260
 go_wp2
 all_goals (go_ret; exact⟨rfl,rfl⟩)
theorem abe(a:Option Addr)(n c:Nat)(a2:Option Addr)(m c2:Nat)(w w':World)(v':Value)(hc:n<=c)(hm:¬ ((m:Int)=0))
 (hr:(Builtin.append_ #[89,89] 89 #[.slice a n c,.slice a2 m c2]).run prog w= .ok v' w') :
 Calls prog 260 #[.slice a n c,.int .i64 n,.slice a2 m c2] w fun e w1=>e= .returned v'/\w1=w':=by
 go_enter Tryz.func260,Tryz.ntmps260
 go_wp2_with (at_builtin; refine Lib.wpList_append_run _ rfl _ _ _ _ rfl _ _ rfl rfl _ _ hr ?_)
 all_goals (go_ret; exact⟨rfl,rfl⟩)
theorem abz(b o n c i:Nat)(a2:Option Addr)(m c2:Nat)(w:World)(hi:i<n)(vN:n+m<=c)(hb:n+m<=140737488355328)(hm:0<m)(W1 W2:World)
 (hov:∀ lb cb,(callFunc 293 #[.slice a2 m c2,.slice (some ⟨b,o+(i+m) * 3,none⟩) lb cb]).run prog w= .ok (.value (.bool false)) w)
 (Ff:∀ ty dc sc,(Builtin.copy_ #[89,89] ty #[.slice (some ⟨b,o+(i+m) * 3,none⟩) (n+m-(i+m)) dc,.slice (some ⟨b,o+i * 3,none⟩) (n+m-i) sc]).run prog w.drew= .ok (goInt (n-i:Nat)) W1)
 (Kl:∀ ty dc,(Builtin.copy_ #[89,89] ty #[.slice (some ⟨b,o+i * 3,none⟩) (n+m-i) dc,.slice a2 m c2]).run prog W1= .ok (goInt m) W2) :
 Calls prog 260 #[.slice (some ⟨b,o,none⟩) n c,.int .i64 i,.slice a2 m c2] w fun e w1=>e= .returned (.slice (some ⟨b,o,none⟩) (n+m) c)/\w1=W2:=by
 have yN:¬ ((m:Int)=0):=by omega
 have Mf:¬ ((i:Int)=(n:Int)):=by omega
 have Cj:IntKind.i64.wrap ((i:Int)+(m:Int))=(i:Int)+(m:Int):=by rw[IntKind.wrap_i64]; omega
 have yP:(0:Int)<=(i:Int)+(m:Int):=by omega
 have kL:i<=n:=by omega
 have htn:((i:Int)+(m:Int)).toNat=i+m:=by omega
 have l6:¬ (c=i+m):=by omega
 have hb3:(i:Int)<=(n:Int)+(m:Int):=by omega
 have hb4:¬ (c=i):=by omega
 go_enter Tryz.func260,Tryz.ntmps260
 go_wp2_with (simp only[hov])
 go_region_law (refine step_copy_runI rfl _ _ 89 89 rfl _ _ (by simp[Act.eval,Act.put]) (by simp[Act.eval,Act.put]) (Ff _ _ _) ?_)
 go_wp2_with (at_builtin; refine wpList_copy_runI _ rfl _ _ 89 89 rfl _ _ rfl rfl (Kl _ _) ?_)
 go_ret
 exact⟨rfl,rfl⟩
theorem acK(b o n c i:Nat)(a2:Option Addr)(m c2:Nat)(w:World)(hi:i<n)(hnc:n<=c)(vN:c<n+m)(al8:n+m<=140737488355328)(hm:0<m)(W1 W2 W3:World)(N G:Nat)(hG:n+m<=G)(ahY:G<=9223372036854775807)
 (hrz:∀ ty,(Builtin.append_ #[89,3] ty #[.slice (some ⟨b,o,none⟩) i c,.int .i64 ((n:Int)+(m:Int)-(i:Int))]).run prog w= .ok (.slice (some ⟨N,0,none⟩) (n+m) G) W1)
 (Ff:∀ ty dc,(Builtin.copy_ #[89,89] ty #[.slice (some ⟨N,i * 3,none⟩) (n+m-i) dc,.slice a2 m c2]).run prog W1= .ok (goInt m) W2)
 (Kl:∀ ty dc sc,(Builtin.copy_ #[89,89] ty #[.slice (some ⟨N,(i+m) * 3,none⟩) (n+m-(i+m)) dc,.slice (some ⟨b,o+i * 3,none⟩) (n-i) sc]).run prog W2.drew= .ok (goInt (n-i:Nat)) W3) :
 Calls prog 260 #[.slice (some ⟨b,o,none⟩) n c,.int .i64 i,.slice a2 m c2] w fun e w1=>e= .returned (.slice (some ⟨N,0,none⟩) (n+m) G)/\w1=W3:=by
 have yN:¬ ((m:Int)=0):=by omega
 have Mf:¬ ((i:Int)=(n:Int)):=by omega
 have hz3:(c:Int)<(n:Int)+(m:Int):=by omega
 have Cj:IntKind.i64.wrap ((i:Int)+(m:Int))=(i:Int)+(m:Int):=by rw[IntKind.wrap_i64]; omega
 have yP:(0:Int)<=(i:Int)+(m:Int):=by omega
 have kL:i<=n:=by omega
 have htn:((i:Int)+(m:Int)).toNat=i+m:=by omega
 have hb3:(i:Int)<=(n:Int):=by omega
 have hGi:¬ (G=i):=by omega
 have al9:¬ (G=i+m):=by omega
 have hci:¬ (c=i):=by omega
 go_enter Tryz.func260,Tryz.ntmps260
 go_wp2_with (first
  | (at_builtin; refine Lib.wpList_append_run _ rfl _ _ _ _ rfl _ _ rfl rfl _ _ (hrz _) ?_)
  | (at_builtin; refine wpList_copy_runI _ rfl _ _ 89 89 rfl _ _ rfl rfl (Ff _ _) ?_))
 go_region_law (refine step_copy_runI rfl _ _ 89 89 rfl (.slice (some ⟨N,(i+m) * 3,none⟩) (n+m-(i+m)) (G-(i+m))) (.slice (some ⟨b,o+i * 3,none⟩) (n-i) (c-i)) (by simp[Act.eval,Act.put]) (by simp[Act.eval,Act.put]) (Kl _ _ _) ?_)
 go_wp2
 go_ret
 exact⟨rfl,rfl⟩
theorem akc:Lv prog 260 89 293 3:=⟨ac8,abe,abz,acK⟩
end
def We(p0:List bz)(p1:Int)(p2:List bz):Option (Unit×Y8×Unit):=Rf 32 p0 p1 p2
def akd:=fU [.mv bH,aT [af],.mv bH] VF fun x=>We x.1 x.2.1.1 x.2.2.1
theorem aeC:bj 260 akd :=
 Oe (f:=260) (T:=89) (ov:=293) (e:=192) (te:=⟨true,[.str,af,af],0,32,[(0,9),(1,3),(2,3)]⟩) (fn:=f260) (fo:=f293) (c:=aw f260) (tR:=4) (by kernel_rfl) (by kernel_rfl) (by kernel_rfl) (by kernel_rfl) (by kernel_rfl) (hT 192 _ (by kernel_rfl)) (by kernel_rfl) (by kernel_rfl) (by kernel_rfl)
  (by kernel_rfl) (by kernel_rfl) (by kernel_rfl) (by kernel_rfl) (by kernel_rfl) akc rfl
def uf(t6:List bz)(t7:Int)(b3:S8×Int×Int×Unit):Rd ((List bz)×Int×Y24×Unit) Unit:=cond (aE t7 (ae t6)) (cond (aX t7 t6) (cond (BR (gt d192 t6 t7).1 b3.1) (eA (t6,(ak .i64 t7 1),b3,())) (eB (t6,t7,b3,()))) none) (eB (t6,t7,b3,()))
def QV:=pG (aq (fE uf))
def QD(p0:List bz)(p1:S8×Int×Int×Unit):Option (Unit×(Y8×Y2×Unit)):=(NH p0).bind fun y1=>cond (!y1.2.1.1) (c15) ((DY p0 p1.1).bind fun y2=>(QV y2.2.1.1 0 p1).bind (Sum.elim (fun y3=>(We y3.1 y3.2.1 [y3.2.2.1]).bind fun y4=>(NH y4.2.1.1).bind fun y5=>cond (!y5.2.1.1) (c15) (some ((),(y4.2.1,(true,()),())))) (fun _=>none)))
def aha:=fU [aT [bH],dL [.str,af,af]] [(false,[bH]),(false,[.bool])] fun x=>QD x.1.1 x.2.1
theorem LA:bj 212 aha:=fl (ac aah (ac Db (ac aeC an))) [] [(0,⟨[.own 6 bH,.d 7 af,.box 3 [(false,.str),(false,.int .i64),(false,.int .i64)]],aq (fE uf)⟩)] [] f212 (lp [0] (sc dV sn))
def Eh(p0:Int×Int×(List R3)×(List R3)×Unit)(p1 p2:Int):Option Y56:=(Eo p0).bind fun y1=>cond (!y1.2.1.1) (let u1:=(DO p0);Option.bind u1 fun y2=>some ((),(y2.2.1,()))) ((Og p1).bind fun y2=>cond (!y2.2.1.1) (let u1:=(DO p0);Option.bind u1 fun y3=>some ((),(y3.2.1,()))) ((QP p2).bind fun y3=>cond (!y3.2.1.1) (let u1:=(DO p0);Option.bind u1 fun y4=>some ((),(y4.2.1,()))) ((MF p0 p1).bind fun y4=>cond (aX 0 y4.2.1.2.2.1) ((B4 (gt d3 y4.2.1.2.2.1 0).1 1).bind fun y5=>cond (aX 0 y4.2.1.2.2.2.1) ((B4 (gt d3 y4.2.1.2.2.2.1 0).1 p2).bind fun y6=>cond (aX 0 y4.2.1.2.2.1) (cond (aX 0 y4.2.1.2.2.2.1) (some ((),((y4.2.1.1,y4.2.1.2.1,(cZ y4.2.1.2.2.1 0 y5.2.1),(cZ y4.2.1.2.2.2.1 0 y6.2.1),()),()))) none) none) none) none)))
def Vy:=fU [dL [af,af,q3,q3],aT [af],aT [af]] w6R fun x=>Eh x.1 x.2.1.1 x.2.2.1.1
def Pq:List SE:=[]
def ZX:Nat->Option (Lo Pq)
 | _=>none
def Le:List Y0:=[(198,iS aep),(192,iS afQ),(57,iS s57),(194,iS agc),(195,iS agk),(261,iS afc)]
def KH:En:=xE 44 tt Le Pq ZX [] fun _=>none
def afh:Nat->Option (St->Tr St)
 | 4=>some (oJ KH (opsOf (bq 4 (aw f213))) 16 [2,3])
 | _=>none
def W0:En:=xE 44 tt Le Pq ZX [] (afh)
theorem t213(x:PT Vy.ps):(Ii W0 (aw f213) f213.results.toList Vy.ps Vy.rs true x).run=Eh x.1 x.2.1.1 x.2.2.1.1:=by kernel_rfl
theorem abx:dO prog W0:=cD (l:=Le) ⟨L5,Lp,sQ,Df,CO,Lq,trivial⟩
theorem Nn:dO prog KH:=cD (l:=Le) ⟨L5,Lp,sQ,Df,CO,Lq,trivial⟩
theorem acO:dA prog W0 (bq 4 (aw f213)) (oJ KH (opsOf (bq 4 (aw f213))) 16 [2,3]) :=
 eN rfl rfl (yI (E:=KH) (rB hT) Nn iQ (c:=(bq 4 (aw f213))) (id:=4) (by kernel_rfl))
theorem YP:bj 213 Vy :=
 pN (E:=W0) (rB hT) abx iQ (fn:=f213) (c:=(aw f213)) (by kernel_rfl) (by kernel_rfl) (by kernel_rfl) rfl (db [] (by kernel_rfl) trivial [(4,bq 4 (aw f213))] (by kernel_rfl) ⟨uk rfl acO,trivial⟩) fun x y h=>⟨y.1,fun _=>rfl,(t213 x).trans h⟩
def QQ(p0:S8×Int×Int×Int×Int×(List bz)×Int×Int×(List R3)×(List R3)×(List ch)×Unit)(p1:S8)(p2 p3 p4:Int):Option GH:=(vH p0 p4).bind fun y1=>cond (!(aj y1.2.2.1.1 0)) (c8) ((Hq p1).bind fun y2=>cond (!y2.2.1.1) (c8) ((jc p2 1 9007199254740992).bind fun y3=>cond (!y3.2.1.1) (c12) ((jc p3 1 9999).bind fun y4=>let u1:=(ak .i64 p4 p3);cond (cond (!y4.2.1.1) true (aE 1000000000 u1)) (c12) ((JN y1.2.1.2.2.2.2.2.1 p1).bind fun y5=>cond (ck 0 y5.2.1.1) (c31) (cond (aj (ae y1.2.1.2.2.2.2.2.1) 4) (c32) ((Ps y1.2.1 p2 p4).bind fun y6=>cond (!(aj y6.2.1.1 0)) (some ((),(([],0,0,0,0,[],0,0,[],[],[],()),y6.2.1,()))) ((QD y1.2.1.2.2.2.2.2.1 (p1,p2,u1,())).bind fun y7=>(Eh (y1.2.1.2.2.2.2.2.2.1,y1.2.1.2.2.2.2.2.2.2.1,y1.2.1.2.2.2.2.2.2.2.2.1,y1.2.1.2.2.2.2.2.2.2.2.2.1,()) p4 p2).bind fun y8=>some ((),((y1.2.1.1,y1.2.1.2.1,y1.2.1.2.2.1,y1.2.1.2.2.2.1,y1.2.1.2.2.2.2.1,y7.2.1.1,y8.2.1.1,y8.2.1.2.1,y8.2.1.2.2.1,y8.2.1.2.2.2.1,y1.2.1.2.2.2.2.2.2.2.2.2.2.1,()),(0,()),())))))))))
def afB:=fU [dL [.str,af,af,af,af,bH,af,af,q3,q3,cl],aT [.str],aT [af],aT [af],aT [af]] QW fun x=>QQ x.1 x.2.1.1 x.2.2.1.1 x.2.2.2.1.1 x.2.2.2.2.1.1
theorem Z5:bj 129 afB:=fq (ac kf (ac zg (ac Ac (ac HQ (ac aaA (ac LA (ac YP an))))))) f129
def JF(p0:S8×Int×Int×Int×Int×(List bz)×Int×Int×(List R3)×(List R3)×(List ch)×Unit)(p1:S8)(p2 p3:Int):Option (Unit×(BS×Y1×Y1×Unit)):=(vH p0 p3).bind fun y1=>(JN y1.2.1.2.2.2.2.2.1 p1).bind fun y2=>cond (!(aj y1.2.2.1.1 0)) (c39) ((Hq p1).bind fun y3=>cond (!y3.2.1.1) (c39) ((jc p2 1 9007199254740992).bind fun y4=>cond (!y4.2.1.1) (some ((),(([],0,0,0,0,[],0,0,[],[],[],()),(0,()),(4,()),()))) (cond (aE y2.2.1.1 0) (some ((),(([],0,0,0,0,[],0,0,[],[],[],()),(0,()),(5,()),()))) (some ((),(y1.2.1,y2.2.1,(0,()),()))))))
def aje:=fU [dL [.str,af,af,af,af,bH,af,af,q3,q3,cl],aT [.str],aT [af],aT [af]] [(true,[.str,af,af,af,af,bH,af,af,q3,q3,cl]),(false,[af]),(false,[af])] fun x=>JF x.1 x.2.1.1 x.2.2.1.1 x.2.2.2.1.1
theorem QM:bj 214 aje:=fq (ac kf (ac zg (ac Ac (ac HQ an)))) f214
def PC(p0:S8×Int×Int×Int×Int×(List bz)×Int×Int×(List R3)×(List R3)×(List ch)×Unit)(p1:S8)(p2 p3:Int):Option GH:=(JF p0 p1 p2 p3).bind fun y1=>cond (aj y1.2.2.2.1.1 0) ((Ps y1.2.1 p2 p3).bind fun y2=>cond (!(aj y2.2.1.1 0)) (some ((),(([],0,0,0,0,[],0,0,[],[],[],()),y2.2.1,()))) (cond (aX y1.2.2.1.1 y1.2.1.2.2.2.2.2.1) (cond (aX y1.2.2.1.1 y1.2.1.2.2.2.2.2.1) (let u1:=(Eh (y1.2.1.2.2.2.2.2.2.1,y1.2.1.2.2.2.2.2.2.2.1,y1.2.1.2.2.2.2.2.2.2.2.1,y1.2.1.2.2.2.2.2.2.2.2.2.1,()) p3 p2);Option.bind u1 fun y3=>let u2:=(gt d192 y1.2.1.2.2.2.2.2.1 y1.2.2.1.1);let u3:=(cZ y1.2.1.2.2.2.2.2.1 y1.2.2.1.1 (u2.1,(ak .i64 u2.2.1 p2),u2.2.2.1,()));some ((),((y1.2.1.1,y1.2.1.2.1,y1.2.1.2.2.1,y1.2.1.2.2.2.1,y1.2.1.2.2.2.2.1,u3,y3.2.1.1,y3.2.1.2.1,y3.2.1.2.2.1,y3.2.1.2.2.2.1,y1.2.1.2.2.2.2.2.2.2.2.2.2.1,()),(0,()),()))) none) none)) (cond (!(aj y1.2.2.2.1.1 0)) (some ((),(([],0,0,0,0,[],0,0,[],[],[],()),y1.2.2.2.1,()))) (cond (aX y1.2.2.1.1 y1.2.1.2.2.2.2.2.1) (cond (aX y1.2.2.1.1 y1.2.1.2.2.2.2.2.1) (let u1:=(Eh (y1.2.1.2.2.2.2.2.2.1,y1.2.1.2.2.2.2.2.2.2.1,y1.2.1.2.2.2.2.2.2.2.2.1,y1.2.1.2.2.2.2.2.2.2.2.2.1,()) p3 p2);Option.bind u1 fun y2=>let u2:=(gt d192 y1.2.1.2.2.2.2.2.1 y1.2.2.1.1);let u3:=(cZ y1.2.1.2.2.2.2.2.1 y1.2.2.1.1 (u2.1,(ak .i64 u2.2.1 p2),u2.2.2.1,()));some ((),((y1.2.1.1,y1.2.1.2.1,y1.2.1.2.2.1,y1.2.1.2.2.2.1,y1.2.1.2.2.2.2.1,u3,y2.2.1.1,y2.2.1.2.1,y2.2.1.2.2.1,y2.2.1.2.2.2.1,y1.2.1.2.2.2.2.2.2.2.2.2.2.1,()),(0,()),()))) none) none))
def age:=fU [dL [.str,af,af,af,af,bH,af,af,q3,q3,cl],aT [.str],aT [af],aT [af]] QW fun x=>PC x.1 x.2.1.1 x.2.2.1.1 x.2.2.2.1.1
theorem ZF:bj 130 age:=fq (ac aaA (ac YP (ac QM an))) f130
def JK(p0:S8×Int×Int×Int×Int×(List bz)×Int×Int×(List R3)×(List R3)×(List ch)×Unit)(p1:S8)(p2:Int)(p3:Bool)(p4:Int):Option GH:=(JF p0 p1 p2 p4).bind fun y1=>cond (aj y1.2.2.2.1.1 0) (cond (aX y1.2.2.1.1 y1.2.1.2.2.2.2.2.1) (let u1:=(gt d192 y1.2.1.2.2.2.2.2.1 y1.2.2.1.1);cond (aE u1.2.1 p2) (c33) (cond (!(aj y1.2.2.2.1.1 0)) (some ((),(([],0,0,0,0,[],0,0,[],[],[],()),y1.2.2.2.1,()))) (cond (aX y1.2.2.1.1 y1.2.1.2.2.2.2.2.1) (cond (aX y1.2.2.1.1 y1.2.1.2.2.2.2.2.1) (let u2:=(cZ y1.2.1.2.2.2.2.2.1 y1.2.2.1.1 (u1.1,(bf .i64 u1.2.1 p2),u1.2.2.1,()));cond (aX y1.2.2.1.1 u2) (let u3:=(cond (aj (gt d192 u2 y1.2.2.1.1).2.1 0) true p3);cond u3 (let u4:=(DY u2 p1);Option.bind u4 fun y2=>let u5:=(ak .i64 y1.2.1.2.2.1 p2);some ((),((y1.2.1.1,y1.2.1.2.1,u5,y1.2.1.2.2.2.1,y1.2.1.2.2.2.2.1,y2.2.1.1,y1.2.1.2.2.2.2.2.2.1,y1.2.1.2.2.2.2.2.2.2.1,y1.2.1.2.2.2.2.2.2.2.2.1,y1.2.1.2.2.2.2.2.2.2.2.2.1,y1.2.1.2.2.2.2.2.2.2.2.2.2.1,()),(0,()),()))) (let u4:=(ak .i64 y1.2.1.2.2.1 p2);some ((),((y1.2.1.1,y1.2.1.2.1,u4,y1.2.1.2.2.2.1,y1.2.1.2.2.2.2.1,u2,y1.2.1.2.2.2.2.2.2.1,y1.2.1.2.2.2.2.2.2.2.1,y1.2.1.2.2.2.2.2.2.2.2.1,y1.2.1.2.2.2.2.2.2.2.2.2.1,y1.2.1.2.2.2.2.2.2.2.2.2.2.1,()),(0,()),())))) none) none) none))) none) (cond (!(aj y1.2.2.2.1.1 0)) (some ((),(([],0,0,0,0,[],0,0,[],[],[],()),y1.2.2.2.1,()))) (cond (aX y1.2.2.1.1 y1.2.1.2.2.2.2.2.1) (cond (aX y1.2.2.1.1 y1.2.1.2.2.2.2.2.1) (let u1:=(gt d192 y1.2.1.2.2.2.2.2.1 y1.2.2.1.1);let u2:=(cZ y1.2.1.2.2.2.2.2.1 y1.2.2.1.1 (u1.1,(bf .i64 u1.2.1 p2),u1.2.2.1,()));cond (aX y1.2.2.1.1 u2) (let u3:=(cond (aj (gt d192 u2 y1.2.2.1.1).2.1 0) true p3);cond u3 (let u4:=(DY u2 p1);Option.bind u4 fun y2=>let u5:=(ak .i64 y1.2.1.2.2.1 p2);some ((),((y1.2.1.1,y1.2.1.2.1,u5,y1.2.1.2.2.2.1,y1.2.1.2.2.2.2.1,y2.2.1.1,y1.2.1.2.2.2.2.2.2.1,y1.2.1.2.2.2.2.2.2.2.1,y1.2.1.2.2.2.2.2.2.2.2.1,y1.2.1.2.2.2.2.2.2.2.2.2.1,y1.2.1.2.2.2.2.2.2.2.2.2.2.1,()),(0,()),()))) (let u4:=(ak .i64 y1.2.1.2.2.1 p2);some ((),((y1.2.1.1,y1.2.1.2.1,u4,y1.2.1.2.2.2.1,y1.2.1.2.2.2.2.1,u2,y1.2.1.2.2.2.2.2.2.1,y1.2.1.2.2.2.2.2.2.2.1,y1.2.1.2.2.2.2.2.2.2.2.1,y1.2.1.2.2.2.2.2.2.2.2.2.1,y1.2.1.2.2.2.2.2.2.2.2.2.2.1,()),(0,()),())))) none) none) none))
def ahd:=fU [dL [.str,af,af,af,af,bH,af,af,q3,q3,cl],aT [.str],aT [af],aT [.bool],aT [af]] QW fun x=>JK x.1 x.2.1.1 x.2.2.1.1 x.2.2.2.1.1 x.2.2.2.2.1.1
theorem aaa:bj 131 ahd:=fq (ac Db (ac QM an)) f131
def S2(p0:S8×Int×Int×Int×Int×(List bz)×Int×Int×(List R3)×(List R3)×(List ch)×Unit)(p1:S8)(p2:Int):Option GH:=(JF p0 p1 1 p2).bind fun y1=>cond (!(aj y1.2.2.2.1.1 0)) (some ((),(([],0,0,0,0,[],0,0,[],[],[],()),y1.2.2.2.1,()))) ((DY y1.2.1.2.2.2.2.2.1 p1).bind fun y2=>some ((),((y1.2.1.1,y1.2.1.2.1,y1.2.1.2.2.1,y1.2.1.2.2.2.1,y1.2.1.2.2.2.2.1,y2.2.1.1,y1.2.1.2.2.2.2.2.2.1,y1.2.1.2.2.2.2.2.2.2.1,y1.2.1.2.2.2.2.2.2.2.2.1,y1.2.1.2.2.2.2.2.2.2.2.2.1,y1.2.1.2.2.2.2.2.2.2.2.2.2.1,()),(0,()),())))
def ahh:=fU [dL [.str,af,af,af,af,bH,af,af,q3,q3,cl],aT [.str],aT [af]] QW fun x=>S2 x.1 x.2.1.1 x.2.2.1.1
theorem ZU:bj 132 ahh:=fq (ac Db (ac QM an)) f132
def OE(p0 p1:S8×Int×Int×Int×Int×(List bz)×Int×Int×(List R3)×(List R3)×(List ch)×Unit)(p2:S8)(p3:Int):Option (Unit×(BS×BS×Y1×Unit)):=(vH p0 p3).bind fun y1=>(vH p1 p3).bind fun y2=>(JN y1.2.1.2.2.2.2.2.1 p2).bind fun y3=>cond (cond (!(aj y1.2.2.1.1 0)) true (!(aj y2.2.2.1.1 0))) (c18) ((Hq p2).bind fun y4=>cond (!y4.2.1.1) (c18) (cond (bF p0.1 p1.1) (c34) (cond (aE y3.2.1.1 0) (c35) ((JN y2.2.1.2.2.2.2.2.1 p2).bind fun y5=>cond (ck 0 y5.2.1.1) (c36) (cond (aj (ae y2.2.1.2.2.2.2.2.1) 4) (c37) (cond (aX y3.2.1.1 y1.2.1.2.2.2.2.2.1) ((Nz y2.2.1 p3).bind fun y6=>let u1:=(gt d192 y1.2.1.2.2.2.2.2.1 y3.2.1.1);cond (aE y6.2.1.1 u1.2.1) (c38) (cond (aX y3.2.1.1 y1.2.1.2.2.2.2.2.1) ((QD y2.2.1.2.2.2.2.2.1 u1).bind fun y7=>(DY y1.2.1.2.2.2.2.2.1 p2).bind fun y8=>some ((),((y1.2.1.1,y1.2.1.2.1,y1.2.1.2.2.1,y1.2.1.2.2.2.1,y1.2.1.2.2.2.2.1,y8.2.1.1,y1.2.1.2.2.2.2.2.2.1,y1.2.1.2.2.2.2.2.2.2.1,y1.2.1.2.2.2.2.2.2.2.2.1,y1.2.1.2.2.2.2.2.2.2.2.2.1,y1.2.1.2.2.2.2.2.2.2.2.2.2.1,()),(y2.2.1.1,y2.2.1.2.1,y2.2.1.2.2.1,y2.2.1.2.2.2.1,y2.2.1.2.2.2.2.1,y7.2.1.1,y2.2.1.2.2.2.2.2.2.1,y2.2.1.2.2.2.2.2.2.2.1,y2.2.1.2.2.2.2.2.2.2.2.1,y2.2.1.2.2.2.2.2.2.2.2.2.1,y2.2.1.2.2.2.2.2.2.2.2.2.2.1,()),(0,()),()))) none)) none))))))
def PI:=fU [dL [.str,af,af,af,af,bH,af,af,q3,q3,cl],dL [.str,af,af,af,af,bH,af,af,q3,q3,cl],aT [.str],aT [af]] [(true,[.str,af,af,af,af,bH,af,af,q3,q3,cl]),(true,[.str,af,af,af,af,bH,af,af,q3,q3,cl]),(false,[af])] fun x=>OE x.1 x.2.1 x.2.2.1.1 x.2.2.2.1.1
def Pl:List SE:=[]
def aaB:Nat->Option (Lo Pl)
 | _=>none
def HA:List Y0:=[(204,iS agF),(209,iS afV),(210,iS aeD),(216,iS afm),(215,iS agP),(212,iS aha)]
def xN:En:=xE 100 tt HA Pl aaB [] fun _=>none
def ags:Nat->Option (St->Tr St)
 | 19=>some (il xN (opsOf (bq 19 (aw f133))) [(12,10)])
 | 21=>some (oJ xN (opsOf (bq 21 (aw f133))) 2 [1])
 | _=>none
def T3:En:=xE 100 tt HA Pl aaB [] (ags)
theorem t133(x:PT PI.ps):(Ii T3 (aw f133) f133.results.toList PI.ps PI.rs true x).run=OE x.1 x.2.1 x.2.2.1.1 x.2.2.2.1.1:=by kernel_rfl
theorem abk:dO prog T3:=cD (l:=HA) ⟨zg,Ac,HQ,Hm,Db,LA,trivial⟩
theorem Jw:dO prog xN:=cD (l:=HA) ⟨zg,Ac,HQ,Hm,Db,LA,trivial⟩
theorem Vk:dA prog T3 (bq 19 (aw f133)) (il xN (opsOf (bq 19 (aw f133))) [(12,10)]) :=
 eN rfl rfl (mz (E:=xN) (rB hT) Jw iQ (c:=(bq 19 (aw f133))) (id:=19) (by kernel_rfl))
theorem Ka:dO prog xN:=cD (l:=HA) ⟨zg,Ac,HQ,Hm,Db,LA,trivial⟩
theorem Xl:dA prog T3 (bq 21 (aw f133)) (oJ xN (opsOf (bq 21 (aw f133))) 2 [1]) :=
 eN rfl rfl (yI (E:=xN) (rB hT) Ka iQ (c:=(bq 21 (aw f133))) (id:=21) (by kernel_rfl))
theorem ZQ:bj 133 PI :=
 pN (E:=T3) (rB hT) abk iQ (fn:=f133) (c:=(aw f133)) (by kernel_rfl) (by kernel_rfl) (by kernel_rfl) rfl (db [] (by kernel_rfl) trivial [(19,bq 19 (aw f133)),(21,bq 21 (aw f133))] (by kernel_rfl) ⟨uk rfl Vk,uk rfl Xl,trivial⟩) fun x y h=>⟨y.1,fun _=>rfl,(t133 x).trans h⟩
def Q0(p0:S8×Int×Int×Int×Int×(List bz)×Int×Int×(List R3)×(List R3)×(List ch)×Unit)(p1:Int):Option (Unit×(Bb×Y1×Unit)):=(vH p0 p1).bind fun y1=>cond (!(aj y1.2.2.1.1 0)) (some ((),(([],()),y1.2.2.1,()))) ((Nz y1.2.1 p1).bind fun y2=>(Ns y2.2.1.1 16).bind fun y3=>cond (jL y3.2.1.1 [32]) ((Ns y1.2.1.2.2.1 16).bind fun y4=>let u1:=(uy y3.2.1.1 [32]);cond (jL u1 y4.2.1.1) (some ((),(((uy u1 y4.2.1.1),()),(0,()),()))) none) none)
def aew:=fU [dL [.str,af,af,af,af,bH,af,af,q3,q3,cl],aT [af]] [(false,[.str]),(false,[af])] fun x=>Q0 x.1 x.2.1.1
theorem Zr:bj 134 aew:=fq (ac aai (ac Ac (ac Hm an))) f134
def QF(p0:S8×Int×Int×Int×Int×(List bz)×Int×Int×(List R3)×(List R3)×(List ch)×Unit)(p1:Int):Option GH:=(vH p0 p1).bind fun y1=>some ((),(y1.2.1,y1.2.2.1,()))
def ahy:=fU [dL [.str,af,af,af,af,bH,af,af,q3,q3,cl],aT [af]] QW fun x=>QF x.1 x.2.1.1
theorem aav:bj 135 ahy:=fq (ac Ac an) f135
def g67(p0:(List gH)×Unit)(p1:Int×S8×S8×S8×S8×S8×Int×Int×Unit)(p2:Int):Option (Unit×(Y6×Y1×Bb×Unit)):=(g56 p0).bind fun y1=>cond (!y1.2.1.1) (c13) ((NK p1).bind fun y2=>cond (!y2.2.1.1) (c13) ((Og p2).bind fun y3=>cond (!y3.2.1.1) (c13) ((g65 p0 p1.2.1).bind fun y4=>cond (aj p1.1 6) ((g65 p0 p1.2.2.1).bind fun y5=>cond (aE y4.2.1.1 0) (c14) (cond (cond (aj p1.1 6) (aE y5.2.1.1 0) false) (c14) (let u1:=(Jh p0);Option.bind u1 fun y6=>cond (aX y4.2.1.1 y6.2.1.1) (cond (aj p1.1 1) (let u2:=(gt d94 y6.2.1.1 y4.2.1.1);(QQ u2 p1.2.2.2.1 p1.2.2.2.2.2.2.1 p1.2.2.2.2.2.2.2.1 p2).bind fun y7=>cond (!(aj y7.2.2.1.1 0)) (some ((),(([],()),y7.2.2.1,([],()),()))) (cond (aX y4.2.1.1 y6.2.1.1) (some ((),(((cZ y6.2.1.1 y4.2.1.1 y7.2.1),()),(0,()),([],()),()))) none)) (cond (aj p1.1 2) (let u2:=(gt d94 y6.2.1.1 y4.2.1.1);(PC u2 p1.2.2.2.1 p1.2.2.2.2.2.2.1 p2).bind fun y7=>cond (!(aj y7.2.2.1.1 0)) (some ((),(([],()),y7.2.2.1,([],()),()))) (cond (aX y4.2.1.1 y6.2.1.1) (some ((),(((cZ y6.2.1.1 y4.2.1.1 y7.2.1),()),(0,()),([],()),()))) none)) (cond (aj p1.1 3) (let u2:=(gt d94 y6.2.1.1 y4.2.1.1);let u3:=(JK u2 p1.2.2.2.1 p1.2.2.2.2.2.2.1 (aj p1.1 4) p2);Option.bind u3 fun y7=>cond (!(aj y7.2.2.1.1 0)) (some ((),(([],()),y7.2.2.1,([],()),()))) (cond (aX y4.2.1.1 y6.2.1.1) (some ((),(((cZ y6.2.1.1 y4.2.1.1 y7.2.1),()),(0,()),([],()),()))) none)) (cond (aj p1.1 4) (let u2:=(gt d94 y6.2.1.1 y4.2.1.1);let u3:=(JK u2 p1.2.2.2.1 p1.2.2.2.2.2.2.1 (aj p1.1 4) p2);Option.bind u3 fun y7=>cond (!(aj y7.2.2.1.1 0)) (some ((),(([],()),y7.2.2.1,([],()),()))) (cond (aX y4.2.1.1 y6.2.1.1) (some ((),(((cZ y6.2.1.1 y4.2.1.1 y7.2.1),()),(0,()),([],()),()))) none)) (cond (aj p1.1 5) (let u2:=(gt d94 y6.2.1.1 y4.2.1.1);(S2 u2 p1.2.2.2.1 p2).bind fun y7=>cond (!(aj y7.2.2.1.1 0)) (some ((),(([],()),y7.2.2.1,([],()),()))) (cond (aX y4.2.1.1 y6.2.1.1) (some ((),(((cZ y6.2.1.1 y4.2.1.1 y7.2.1),()),(0,()),([],()),()))) none)) (cond (aj p1.1 6) (cond (aX y5.2.1.1 y6.2.1.1) (let u2:=(gt d94 y6.2.1.1 y4.2.1.1);(OE u2 (gt d94 y6.2.1.1 y5.2.1.1) p1.2.2.2.1 p2).bind fun y7=>cond (aX y5.2.1.1 y6.2.1.1) (cond (!(aj y7.2.2.2.1.1 0)) (some ((),(([],()),y7.2.2.2.1,([],()),()))) (let u3:=(cZ y6.2.1.1 y5.2.1.1 y7.2.2.1);cond (aX y4.2.1.1 u3) (some ((),(((cZ u3 y4.2.1.1 y7.2.1),()),(0,()),([],()),()))) none)) none) none) (cond (aj p1.1 7) (let u2:=(gt d94 y6.2.1.1 y4.2.1.1);(Q0 u2 p2).bind fun y7=>cond (!(aj y7.2.2.1.1 0)) (some ((),(([],()),y7.2.2.1,([],()),()))) (cond (aX y4.2.1.1 y6.2.1.1) (let u3:=(KM 4 y4.2.1.1 y4.2.1.1);cond u3 (some ((),(((cZ y6.2.1.1 y4.2.1.1 u2),()),(0,()),y7.2.1,()))) none) none)) (let u2:=(gt d94 y6.2.1.1 y4.2.1.1);(QF u2 p2).bind fun y7=>cond (!(aj y7.2.2.1.1 0)) (some ((),(([],()),y7.2.2.1,([],()),()))) (cond (aX y4.2.1.1 y6.2.1.1) (some ((),(((cZ y6.2.1.1 y4.2.1.1 y7.2.1),()),(0,()),([],()),()))) none))))))))) none))) (cond (aE y4.2.1.1 0) (c14) (cond (cond (aj p1.1 6) (aE (-1) 0) false) (c14) (let u1:=(Jh p0);Option.bind u1 fun y5=>cond (aX y4.2.1.1 y5.2.1.1) (cond (aj p1.1 1) (let u2:=(gt d94 y5.2.1.1 y4.2.1.1);(QQ u2 p1.2.2.2.1 p1.2.2.2.2.2.2.1 p1.2.2.2.2.2.2.2.1 p2).bind fun y6=>cond (!(aj y6.2.2.1.1 0)) (some ((),(([],()),y6.2.2.1,([],()),()))) (cond (aX y4.2.1.1 y5.2.1.1) (some ((),(((cZ y5.2.1.1 y4.2.1.1 y6.2.1),()),(0,()),([],()),()))) none)) (cond (aj p1.1 2) (let u2:=(gt d94 y5.2.1.1 y4.2.1.1);(PC u2 p1.2.2.2.1 p1.2.2.2.2.2.2.1 p2).bind fun y6=>cond (!(aj y6.2.2.1.1 0)) (some ((),(([],()),y6.2.2.1,([],()),()))) (cond (aX y4.2.1.1 y5.2.1.1) (some ((),(((cZ y5.2.1.1 y4.2.1.1 y6.2.1),()),(0,()),([],()),()))) none)) (cond (aj p1.1 3) (let u2:=(gt d94 y5.2.1.1 y4.2.1.1);let u3:=(JK u2 p1.2.2.2.1 p1.2.2.2.2.2.2.1 (aj p1.1 4) p2);Option.bind u3 fun y6=>cond (!(aj y6.2.2.1.1 0)) (some ((),(([],()),y6.2.2.1,([],()),()))) (cond (aX y4.2.1.1 y5.2.1.1) (some ((),(((cZ y5.2.1.1 y4.2.1.1 y6.2.1),()),(0,()),([],()),()))) none)) (cond (aj p1.1 4) (let u2:=(gt d94 y5.2.1.1 y4.2.1.1);let u3:=(JK u2 p1.2.2.2.1 p1.2.2.2.2.2.2.1 (aj p1.1 4) p2);Option.bind u3 fun y6=>cond (!(aj y6.2.2.1.1 0)) (some ((),(([],()),y6.2.2.1,([],()),()))) (cond (aX y4.2.1.1 y5.2.1.1) (some ((),(((cZ y5.2.1.1 y4.2.1.1 y6.2.1),()),(0,()),([],()),()))) none)) (cond (aj p1.1 5) (let u2:=(gt d94 y5.2.1.1 y4.2.1.1);(S2 u2 p1.2.2.2.1 p2).bind fun y6=>cond (!(aj y6.2.2.1.1 0)) (some ((),(([],()),y6.2.2.1,([],()),()))) (cond (aX y4.2.1.1 y5.2.1.1) (some ((),(((cZ y5.2.1.1 y4.2.1.1 y6.2.1),()),(0,()),([],()),()))) none)) (cond (aj p1.1 6) (cond (aX (-1) y5.2.1.1) (let u2:=(gt d94 y5.2.1.1 y4.2.1.1);(OE u2 (gt d94 y5.2.1.1 (-1)) p1.2.2.2.1 p2).bind fun y6=>cond (aX (-1) y5.2.1.1) (cond (!(aj y6.2.2.2.1.1 0)) (some ((),(([],()),y6.2.2.2.1,([],()),()))) (let u3:=(cZ y5.2.1.1 (-1) y6.2.2.1);cond (aX y4.2.1.1 u3) (some ((),(((cZ u3 y4.2.1.1 y6.2.1),()),(0,()),([],()),()))) none)) none) none) (cond (aj p1.1 7) (let u2:=(gt d94 y5.2.1.1 y4.2.1.1);(Q0 u2 p2).bind fun y6=>cond (!(aj y6.2.2.1.1 0)) (some ((),(([],()),y6.2.2.1,([],()),()))) (cond (aX y4.2.1.1 y5.2.1.1) (let u3:=(KM 4 y4.2.1.1 y4.2.1.1);cond u3 (some ((),(((cZ y5.2.1.1 y4.2.1.1 u2),()),(0,()),y6.2.1,()))) none) none)) (let u2:=(gt d94 y5.2.1.1 y4.2.1.1);(QF u2 p2).bind fun y6=>cond (!(aj y6.2.2.1.1 0)) (some ((),(([],()),y6.2.2.1,([],()),()))) (cond (aX y4.2.1.1 y5.2.1.1) (some ((),(((cZ y5.2.1.1 y4.2.1.1 y6.2.1),()),(0,()),([],()),()))) none))))))))) none))))))
def s67:=fU [dL [kn],dL [af,.str,.str,.str,.str,.str,af,af],aT [af]] [(true,[kn]),(false,[af]),(false,[.str])] fun x=>g67 x.1 x.2.1 x.2.2.1.1
def acB:List SE:=[]
def afg:Nat->Option (Lo acB)
 | _=>none
def WG:List Y0:=[(58,iS s58),(57,iS s57),(56,iS s56),(123,iS ae5),(65,iS s65),(129,iS afB),(130,iS age),(131,iS ahd),(132,iS ahh),(133,iS PI),(134,iS aew),(135,iS ahy)]
def WD:En:=xE 158 tt WG acB afg [] fun _=>none
def ajs:Nat->Option (St->Tr St)
 | 22=>some (hlT WD (opsOf (bq 22 (aw f67))) [(17,2),(17,15),(17,16)] 17 [0,1])
 | _=>none
def E67:En:=xE 158 tt WG acB afg [] (ajs)
theorem t67(x:PT s67.ps):(Ii E67 (aw f67) f67.results.toList s67.ps s67.rs true x).run=g67 x.1 x.2.1 x.2.2.1.1:=by kernel_rfl
theorem aev:dO prog E67:=cD (l:=WG) ⟨Jy,sQ,Sf,RX,Qy,Z5,ZF,aaa,ZU,ZQ,Zr,aav,trivial⟩
theorem Om:dO prog WD:=cD (l:=WG) ⟨Jy,sQ,Sf,RX,Qy,Z5,ZF,aaa,ZU,ZQ,Zr,aav,trivial⟩
theorem ab4:dA prog E67 (bq 22 (aw f67)) (hlT WD (opsOf (bq 22 (aw f67))) [(17,2),(17,15),(17,16)] 17 [0,1]) :=
 eN rfl rfl (ZC (E:=WD) (rB hT) Om iQ (c:=(bq 22 (aw f67))) (id:=22) (by kernel_rfl))
theorem acw:bj 67 s67 :=
 pN (E:=E67) (rB hT) aev iQ (fn:=f67) (c:=(aw f67)) (by kernel_rfl) (by kernel_rfl) (by kernel_rfl) rfl (db [] (by kernel_rfl) trivial [(22,bq 22 (aw f67))] (by kernel_rfl) ⟨uk rfl ab4,trivial⟩) fun x y h=>⟨y.1,fun _=>rfl,(t67 x).trans h⟩
def afP:Sc:=⟨100,vJ,56⟩
def ahj:En:=xE 8 tt [] [] (fun _=>none) [] fun _=>none
def Z6(x:List ch):St:=⟨[(2,.v .nil),(0,.v (.d cl x))],[]⟩
theorem t137(x:List ch)(b:Bool):((de ahj (.seq (df (dZ (df (aw f137)))) (df (df (aw f137)))) (((Z6 x).a8 3 (.v (.d cl x),none)).a8 4 (.v (.d .bool b),none))).bind fun ou=>Tr.cu (QT ou 2 100 vJ) .ret).run =
 cond b (some []) (cond (bl 56 ([]:List ch) x) (some x) none):=by kernel_rfl
theorem ahD:Jp prog 137 afP :=
 aeZ (E:=ahj) (rB hT) (cD (l:=[]) trivial) iQ (fn:=f137) (c0:=dZ (aw f137)) (cc:=df (dZ (df (aw f137)))) (c3:=df (df (aw f137))) (id:=LJ (dZ (dZ (df (aw f137)))))
  (o1:=pU (dZ (dZ (df (aw f137)))) 0) (o2:=pU (dZ (dZ (df (aw f137)))) 1) (by kernel_rfl) (by kernel_rfl) (by kernel_rfl) rfl (by kernel_rfl)
  (bP (fun _=>rfl) _ (by kernel_rfl)) (bP (fun _=>rfl) _ (by kernel_rfl)) (bP (fun _=>rfl) _ (by kernel_rfl)) (t0:=0) (t3:=3) (t4:=4) (ty:=92) (Yl:=92) (e':=100) (HT:=24) (fl:=[]) (by kernel_rfl) (by kernel_rfl) (by kernel_rfl) (by kernel_rfl) (by kernel_rfl) (by kernel_rfl) (by kernel_rfl) (by kernel_rfl) (s:=afP) (by kernel_rfl)
  Z6 (fun x=>by kernel_rfl) (fun x=>by kernel_rfl) t137
def g68(p0:List ch)(p1:S8×S8×(List R5)×Unit):Option (Unit×(Y7×Y2×Unit)):=cond (aef 56 p0) (cond (bl 56 p0 [p1]) ((M9 (fQ p0 [p1])).bind fun y1=>(Sb y1.2.1.1).bind fun y2=>cond (!y2.2.1.1) (some ((),(([],()),(false,()),()))) (some ((),(y1.2.1,(true,()),())))) none) none
def s68:=fU [aT [cl],dL [.str,.str,q5]] [(false,[cl]),(false,[.bool])] fun x=>g68 x.1.1 x.2.1
theorem ac3:bj 68 s68:=fq (ack ahD (ac aaq (ac aaI an))) f68
def g17(p0:(List gH)×Unit)(p1:List R5)(p2:Int):Option (Unit×(Y6×Y4×Unit)):=(g55 p1).bind fun y1=>(g56 p0).bind fun y2=>cond (!y2.2.1.1) (let u1:=(Jh p0);Option.bind u1 fun y3=>some ((),(y3.2.1,([],()),()))) ((Og p2).bind fun y3=>cond (cond (!y3.2.1.1) true (aj y1.2.2.1.1 1)) (let u1:=(Jh p0);Option.bind u1 fun y4=>some ((),(y4.2.1,([],()),()))) ((Sw p1 0 4).bind fun y4=>(g60 y4.2.1.1).bind fun y5=>cond (bF y5.2.1.1 []) (let u1:=(Jh p0);Option.bind u1 fun y6=>some ((),(y6.2.1,([],()),()))) (cond (!(aj y1.2.2.1.1 0)) ((g61 y4.2.1.1 1).bind fun y6=>(g62 y6.2.1).bind fun y7=>let u1:=(Jh p0);Option.bind u1 fun y8=>some ((),(y8.2.1,y7.2.1,()))) ((g63 y1.2.1).bind fun y6=>cond (!(aj y6.2.2.1.1 0)) (let u1:=(Jh p0);Option.bind u1 fun y7=>(Yx y1.2.1 y6.2.2.1.1 [] []).bind fun y8=>some ((),(y7.2.1,y8.2.1,()))) ((g65 p0 y6.2.1.2.1).bind fun y7=>cond (aE y7.2.1.1 0) (let u1:=(Jh p0);Option.bind u1 fun y8=>(Yx y1.2.1 3 [] []).bind fun y9=>some ((),(y8.2.1,y9.2.1,()))) (cond (aX y7.2.1.1 p0.1) ((g66 (gt d94 p0.1 y7.2.1.1).2.2.2.2.2.2.2.2.2.2.1 y6.2.1.2.2.2.2.1 y6.2.1.2.2.2.2.2.1).bind fun y8=>cond y8.2.2.1.1 (let u1:=(Jh p0);Option.bind u1 fun y9=>some ((),(y9.2.1,y8.2.1,()))) (cond (aX y7.2.1.1 p0.1) (cond (aj (ae (gt d94 p0.1 y7.2.1.1).2.2.2.2.2.2.2.2.2.2.1) 6) (let u1:=(Jh p0);Option.bind u1 fun y9=>(Yx y1.2.1 10 [] []).bind fun iU=>some ((),(y9.2.1,iU.2.1,()))) ((g67 p0 y6.2.1 p2).bind fun y9=>cond (!(aj y9.2.2.1.1 0)) (let u1:=(Jh p0);Option.bind u1 fun iU=>let u2:=(Yx y1.2.1 y9.2.2.1.1 y6.2.1.2.2.2.1 y9.2.2.2.1.1);Option.bind u2 fun ln=>cond (aX y7.2.1.1 iU.2.1.1) (let u3:=(gt d94 iU.2.1.1 y7.2.1.1);(g68 u3.2.2.2.2.2.2.2.2.2.2.1 (y6.2.1.2.2.2.2.1,y6.2.1.2.2.2.2.2.1,ln.2.1.1,())).bind fun qR=>cond qR.2.2.1.1 (cond (aX y7.2.1.1 iU.2.1.1) (some ((),(((cZ iU.2.1.1 y7.2.1.1 (u3.1,u3.2.1,u3.2.2.1,u3.2.2.2.1,u3.2.2.2.2.1,u3.2.2.2.2.2.1,u3.2.2.2.2.2.2.1,u3.2.2.2.2.2.2.2.1,u3.2.2.2.2.2.2.2.2.1,u3.2.2.2.2.2.2.2.2.2.1,qR.2.1.1,())),()),ln.2.1,()))) none) (some ((),(iU.2.1,ln.2.1,())))) none) (let u1:=(Yx y1.2.1 y9.2.2.1.1 y6.2.1.2.2.2.1 y9.2.2.2.1.1);Option.bind u1 fun iU=>cond (aX y7.2.1.1 y9.2.1.1) (let u2:=(gt d94 y9.2.1.1 y7.2.1.1);(g68 u2.2.2.2.2.2.2.2.2.2.2.1 (y6.2.1.2.2.2.2.1,y6.2.1.2.2.2.2.2.1,iU.2.1.1,())).bind fun ln=>cond ln.2.2.1.1 (cond (aX y7.2.1.1 y9.2.1.1) (some ((),(((cZ y9.2.1.1 y7.2.1.1 (u2.1,u2.2.1,u2.2.2.1,u2.2.2.2.1,u2.2.2.2.2.1,u2.2.2.2.2.2.1,u2.2.2.2.2.2.2.1,u2.2.2.2.2.2.2.2.1,u2.2.2.2.2.2.2.2.2.1,u2.2.2.2.2.2.2.2.2.2.1,ln.2.1.1,())),()),iU.2.1,()))) none) (some ((),(y9.2.1,iU.2.1,())))) none))) none)) none))))))
def s17:=fU [dL [kn],aT [q5],aT [af]] [(true,[kn]),(false,[q5])] fun x=>g17 x.1 x.2.1.1 x.2.2.1.1
def ab3:List SE:=[]
def agn:Nat->Option (Lo ab3)
 | _=>none
def RL:List Y0:=[(58,iS s58),(57,iS s57),(59,iS s59),(55,iS s55),(56,iS s56),(60,iS s60),(61,iS s61),(62,iS s62),(63,iS s63),(64,iS s64),(65,iS s65),(66,iS s66),(67,iS s67),(68,iS s68)]
def GW:En:=xE 167 tt RL ab3 agn [] fun _=>none
def aj4:Nat->Option (St->Tr St)
 | 17=>some (il GW (opsOf (bq 17 (aw f17))) [(14,13)])
 | 26=>some (il GW (opsOf (bq 26 (aw f17))) [(16,15)])
 | _=>none
def E17:En:=xE 167 tt RL ab3 agn [] (aj4)
theorem t17(x:PT s17.ps):(Ii E17 (aw f17) f17.results.toList s17.ps s17.rs true x).run=g17 x.1 x.2.1.1 x.2.2.1.1:=by kernel_rfl
theorem ahb:dO prog E17:=cD (l:=RL) ⟨Jy,sQ,MR,abZ,Sf,SV,adz,V7,acJ,ab2,Qy,ade,acw,ac3,trivial⟩
theorem My:dO prog GW:=cD (l:=RL) ⟨Jy,sQ,MR,abZ,Sf,SV,adz,V7,acJ,ab2,Qy,ade,acw,ac3,trivial⟩
theorem adk:dA prog E17 (bq 17 (aw f17)) (il GW (opsOf (bq 17 (aw f17))) [(14,13)]) :=
 eN rfl rfl (mz (E:=GW) (rB hT) My iQ (c:=(bq 17 (aw f17))) (id:=17) (by kernel_rfl))
theorem OJ:dO prog GW:=cD (l:=RL) ⟨Jy,sQ,MR,abZ,Sf,SV,adz,V7,acJ,ab2,Qy,ade,acw,ac3,trivial⟩
theorem abn:dA prog E17 (bq 26 (aw f17)) (il GW (opsOf (bq 26 (aw f17))) [(16,15)]) :=
 eN rfl rfl (mz (E:=GW) (rB hT) OJ iQ (c:=(bq 26 (aw f17))) (id:=26) (by kernel_rfl))
theorem af3:bj 17 s17 :=
 pN (E:=E17) (rB hT) ahb iQ (fn:=f17) (c:=(aw f17)) (by kernel_rfl) (by kernel_rfl) (by kernel_rfl) rfl (db [] (by kernel_rfl) trivial [(17,bq 17 (aw f17)),(26,bq 26 (aw f17))] (by kernel_rfl) ⟨uk rfl adk,uk rfl abn,trivial⟩) fun x y h=>⟨y.1,fun _=>rfl,(t17 x).trans h⟩
def xM(t2:List R3)(t9:List tA)(t17:List xf)(t18 t19:Int)(b6 b8:(List gH)×Unit):Rd ((List R3)×(List tA)×(List xf)×Int×Int×Y6×Y6×Unit) Unit:=cond (aE t19 t18) (cond (aX t19 t17) (cond (aE t19 (ae t2)) (cond (aX t19 t2) (cond (aj (gt d3 t2 t19).1 1) (let u1:=(gt d62 t17 t19);(g72 b8 u1.1).bind fun y1=>(g17 y1.2.1 u1.2.1 u1.1).bind fun y2=>cond (bl 24 t9 [y2.2.2.1]) (let u2:=(ak .i64 t19 1);eA (t2,(fQ t9 [y2.2.2.1]),t17,t18,u2,b6,y2.2.1,())) none) (let u1:=(gt d62 t17 t19);let u2:=(g17 b8 u1.2.1 u1.1);Option.bind u2 fun y1=>let u3:=(bl 24 t9 [y1.2.2.1]);cond u3 (let u4:=(ak .i64 t19 1);eA (t2,(fQ t9 [y1.2.2.1]),t17,t18,u4,b6,y1.2.1,())) none)) none) (let u1:=(gt d62 t17 t19);let u2:=(g17 b8 u1.2.1 u1.1);Option.bind u2 fun y1=>let u3:=(bl 24 t9 [y1.2.2.1]);cond u3 (let u4:=(ak .i64 t19 1);eA (t2,(fQ t9 [y1.2.2.1]),t17,t18,u4,b6,y1.2.1,())) none)) none) (eB (t2,t9,t17,t18,t19,b6,b8,()))
def QA:=cu7 (aq (CD xM))
def g31(p0:(List gH)×Unit)(p1:List xf)(p2:List R3):Option Y54:=(Jh p0).bind fun y1=>(QA p2 [] p1 (ae p1) 0 ([],()) y1.2.1).bind (Sum.elim (fun y2=>some ((),(y2.2.2.2.2.2.2.1,(y2.2.1,()),()))) (fun _=>none))
def s31:=fU [dL [kn],aT [Mz],aT [q3]] [(true,[kn]),(false,[IZ])] fun x=>g31 x.1 x.2.1.1 x.2.2.1.1
def zd:List SE:=[.d 2 q3,.own 9 IZ,.d 17 Mz,.d 18 af,.d 19 af,.box 6 [(true,kn)],.box 8 [(true,kn)]]
def ab8:List SE:=[]
def ahq:Nat->Option (Lo ab8)
 | 0=>some ⟨zd,CD QA⟩
 | _=>none
def Wn:List Y0:=[(58,iS s58),(72,iS s72),(17,iS s17)]
def Wl:En:=xE 56 tt Wn ab8 ahq [] fun _=>none
def ajz:Nat->Option (St->Tr St)
 | 8=>some (oJ Wl (opsOf (bq 8 (aw f31))) 4 [0])
 | _=>none
def E31:En:=xE 56 tt Wn ab8 ahq [] (ajz)
theorem agl(x:ff zd):(nE E31 0 zd (kK 0 (aw f31)) x).run=CD xM x:=by kernel_rfl
theorem t31(x:PT s31.ps):(Ii E31 (aw f31) f31.results.toList s31.ps s31.rs true x).run=g31 x.1 x.2.1.1 x.2.2.1.1:=by kernel_rfl
theorem ZY:dO prog E31:=cD (l:=Wn) ⟨Jy,afq,af3,trivial⟩
theorem Re:dO prog Wl:=cD (l:=Wn) ⟨Jy,afq,af3,trivial⟩
theorem aeo:dA prog E31 (bq 8 (aw f31)) (oJ Wl (opsOf (bq 8 (aw f31))) 4 [0]) :=
 eN rfl rfl (yI (E:=Wl) (rB hT) Re iQ (c:=(bq 8 (aw f31))) (id:=8) (by kernel_rfl))
theorem afj:j4 prog E31 0 (.loop (kK 0 (aw f31))) ⟨zd,CD QA⟩ :=
 D6 (rB hT) ZY iQ (step:=fun(x:ff zd)=>xM x.1 x.2.1 x.2.2.1 x.2.2.2.1 x.2.2.2.2.1 x.2.2.2.2.2.1 x.2.2.2.2.2.2.1) agl (db [] (by kernel_rfl) trivial [(8,bq 8 (aw f31))] (by kernel_rfl) ⟨uk rfl aeo,trivial⟩)
theorem aj6:bj 31 s31 :=
 pN (E:=E31) (rB hT) ZY iQ (fn:=f31) (c:=(aw f31)) (by kernel_rfl) (by kernel_rfl) (by kernel_rfl) rfl (db [(0,.loop (kK 0 (aw f31)))] (by kernel_rfl) ⟨XJ rfl afj,trivial⟩ [] (by kernel_rfl) trivial) fun x y h=>⟨y.1,fun _=>rfl,(t31 x).trans h⟩
def g24(p0:(List gH)×Unit)(p1:List xf):Option Y54:=(g31 p0 p1 []).bind fun y1=>some ((),(y1.2.1,y1.2.2.1,()))
def s24:=fU [dL [kn],aT [Mz]] [(true,[kn]),(false,[IZ])] fun x=>g24 x.1 x.2.1.1
theorem aiM:bj 24 s24:=fq (ac aj6 an) f24
def Wm(p0 p1:S8×Int×Int×Unit):Option iA:=cond (!(bF p0.1 p1.1)) (c0) (cond (!(aj p0.2.1 p1.2.1)) (c0) (cond (!(aj p0.2.2.1 p1.2.2.1)) (c0) (c3)))
def aky:=fU [dL [.str,af,af],dL [.str,af,af]] iN fun x=>Wm x.1 x.2.1
theorem agA:bj 226 aky:=fq an f226
def sC(t0 t1:List bz)(t5:Int):Rd ((List bz)×(List bz)×Int×Unit) Y2:=cond (aE t5 (ae t0)) (cond (aX t5 t0) (cond (aX t5 t1) ((Wm (gt d192 t0 t5) (gt d192 t1 t5)).bind fun y1=>cond (!y1.2.1.1) (eC (false,())) (eA (t0,t1,(ak .i64 t5 1),()))) none) none) (eB (t0,t1,t5,()))
def Sg:=pG (aq (fE sC))
def VA(p0 p1:List bz):Option iA:=cond (!(aj (ae p0) (ae p1))) (c0) ((Sg p0 p1 0).bind (Sum.elim (fun _=>c3) (fun y1=>some ((),(y1,())))))
def ai3:=fU [aT [bH],aT [bH]] iN fun x=>VA x.1.1 x.2.1.1
theorem ag2:bj 154 ai3:=fl (ac agA an) [.d 4 .bool] [(0,⟨[.d 0 bH,.d 1 bH,.d 5 af],aq (fE sC)⟩)] [] f154 (lp [0] (sc dV sn))
def AN(t0 t1:List R3)(t5:Int):Rd ((List R3)×(List R3)×Int×Unit) Y2:=cond (aE t5 (ae t0)) (cond (aX t5 t0) (cond (aX t5 t1) (cond (!(aj (gt d3 t0 t5).1 (gt d3 t1 t5).1)) (eC (false,())) (eA (t0,t1,(ak .i64 t5 1),()))) none) none) (eB (t0,t1,t5,()))
def Y5:=pG (aq (fE AN))
def g32(p0 p1:List R3):Option iA:=cond (!(aj (ae p0) (ae p1))) (c0) ((Y5 p0 p1 0).bind (Sum.elim (fun _=>c3) (fun y1=>some ((),(y1,())))))
def s32:=fU [aT [q3],aT [q3]] iN fun x=>g32 x.1.1 x.2.1.1
theorem ak5:bj 32 s32:=fl an [.d 4 .bool] [(0,⟨[.d 0 q3,.d 1 q3,.d 5 af],aq (fE AN)⟩)] [] f32 (lp [0] (sc dV sn))
def VZ(p0 p1:Int×Int×(List R3)×(List R3)×Unit):Option iA:=cond (!(aj p0.1 p1.1)) (c0) (cond (!(aj p0.2.1 p1.2.1)) (c0) ((g32 p0.2.2.1 p1.2.2.1).bind fun y1=>cond (!y1.2.1.1) (c0) ((g32 p0.2.2.2.1 p1.2.2.2.1).bind fun y2=>cond (!y2.2.1.1) (c0) (c3))))
def akD:=fU [dL [af,af,q3,q3],dL [af,af,q3,q3]] iN fun x=>VZ x.1 x.2.1
theorem afN:bj 155 akD:=fq (ac ak5 an) f155
def AX(t0 t1:List R5)(t5:Int):Rd ((List R5)×(List R5)×Int×Unit) Y2:=cond (aE t5 (ae t0)) (cond (aX t5 t0) (cond (aX t5 t1) (cond (!(aj (gt d5 t0 t5).1 (gt d5 t1 t5).1)) (eC (false,())) (eA (t0,t1,(ak .i64 t5 1),()))) none) none) (eB (t0,t1,t5,()))
def Z3:=pG (aq (fE AX))
def g18(p0 p1:List R5):Option iA:=cond (!(aj (ae p0) (ae p1))) (c0) ((Z3 p0 p1 0).bind (Sum.elim (fun _=>c3) (fun y1=>some ((),(y1,())))))
def s18:=fU [aT [q5],aT [q5]] iN fun x=>g18 x.1.1 x.2.1.1
theorem adu:bj 18 s18:=fl an [.d 4 .bool] [(0,⟨[.d 0 q5,.d 1 q5,.d 5 af],aq (fE AX)⟩)] [] f18 (lp [0] (sc dV sn))
def Xa(p0 p1:S8×S8×(List R5)×Unit):Option iA:=cond (!(bF p0.1 p1.1)) (c0) (cond (!(bF p0.2.1 p1.2.1)) (c0) ((g18 p0.2.2.1 p1.2.2.1).bind fun y1=>cond (!y1.2.1.1) (c0) (c3)))
def akx:=fU [dL [.str,.str,q5],dL [.str,.str,q5]] iN fun x=>Xa x.1 x.2.1
theorem agO:bj 227 akx:=fq (ac adu an) f227
def sR(t0 t1:List ch)(t5:Int):Rd ((List ch)×(List ch)×Int×Unit) Y2:=cond (aE t5 (ae t0)) (cond (aX t5 t0) (cond (aX t5 t1) ((Xa (gt d100 t0 t5) (gt d100 t1 t5)).bind fun y1=>cond (!y1.2.1.1) (eC (false,())) (eA (t0,t1,(ak .i64 t5 1),()))) none) none) (eB (t0,t1,t5,()))
def Pz:=pG (aq (fE sR))
def Vu(p0 p1:List ch):Option iA:=cond (!(aj (ae p0) (ae p1))) (c0) ((Pz p0 p1 0).bind (Sum.elim (fun _=>c3) (fun y1=>some ((),(y1,())))))
def aj3:=fU [aT [cl],aT [cl]] iN fun x=>Vu x.1.1 x.2.1.1
theorem af4:bj 156 aj3:=fl (ac agO an) [.d 4 .bool] [(0,⟨[.d 0 cl,.d 1 cl,.d 5 af],aq (fE sR)⟩)] [] f156 (lp [0] (sc dV sn))
def g76(p0 p1:S8×Int×Int×Int×Int×(List bz)×Int×Int×(List R3)×(List R3)×(List ch)×Unit):Option iA:=cond (!(bF p0.1 p1.1)) (c0) (cond (!(aj p0.2.1 p1.2.1)) (c0) (cond (!(aj p0.2.2.1 p1.2.2.1)) (c0) (cond (!(aj p0.2.2.2.1 p1.2.2.2.1)) (c0) (cond (!(aj p0.2.2.2.2.1 p1.2.2.2.2.1)) (c0) ((VA p0.2.2.2.2.2.1 p1.2.2.2.2.2.1).bind fun y1=>cond (!y1.2.1.1) (c0) ((VZ (p0.2.2.2.2.2.2.1,p0.2.2.2.2.2.2.2.1,p0.2.2.2.2.2.2.2.2.1,p0.2.2.2.2.2.2.2.2.2.1,()) (p1.2.2.2.2.2.2.1,p1.2.2.2.2.2.2.2.1,p1.2.2.2.2.2.2.2.2.1,p1.2.2.2.2.2.2.2.2.2.1,())).bind fun y2=>cond (!y2.2.1.1) (c0) ((Vu p0.2.2.2.2.2.2.2.2.2.2.1 p1.2.2.2.2.2.2.2.2.2.2.1).bind fun y3=>cond (!y3.2.1.1) (c0) (c3))))))))
def s76:=fU [dL [.str,af,af,af,af,bH,af,af,q3,q3,cl],dL [.str,af,af,af,af,bH,af,af,q3,q3,cl]] iN fun x=>g76 x.1 x.2.1
theorem aiT:bj 76 s76:=fq (ac ag2 (ac afN (ac af4 an))) f76
def AF(t0 t1:List gH)(t5:Int):Rd ((List gH)×(List gH)×Int×Unit) Y2:=cond (aE t5 (ae t0)) (cond (aX t5 t0) (cond (aX t5 t1) ((g76 (gt d94 t0 t5) (gt d94 t1 t5)).bind fun y1=>cond (!y1.2.1.1) (eC (false,())) (eA (t0,t1,(ak .i64 t5 1),()))) none) none) (eB (t0,t1,t5,()))
def aae:=pG (aq (fE AF))
def g39(p0 p1:List gH):Option iA:=cond (!(aj (ae p0) (ae p1))) (c0) ((aae p0 p1 0).bind (Sum.elim (fun _=>c3) (fun y1=>some ((),(y1,())))))
def s39:=fU [aT [kn],aT [kn]] iN fun x=>g39 x.1.1 x.2.1.1
theorem ai5:bj 39 s39:=fl (ac aiT an) [.d 4 .bool] [(0,⟨[.d 0 kn,.d 1 kn,.d 5 af],aq (fE AF)⟩)] [] f39 (lp [0] (sc dV sn))
def g13(p0 p1:(List gH)×Unit):Option iA:=(g39 p0.1 p1.1).bind fun y1=>cond (!y1.2.1.1) (c0) (c3)
def s13:=fU [dL [kn],dL [kn]] iN fun x=>g13 x.1 x.2.1
theorem akO:bj 13 s13:=fq (ac ai5 an) f13
def Bs(t0 t1:List tA)(t5:Int):Rd ((List tA)×(List tA)×Int×Unit) Y2:=cond (aE t5 (ae t0)) (cond (aX t5 t0) (cond (aX t5 t1) ((g18 (gt d38 t0 t5).1 (gt d38 t1 t5).1).bind fun y1=>cond (!y1.2.1.1) (eC (false,())) (eA (t0,t1,(ak .i64 t5 1),()))) none) none) (eB (t0,t1,t5,()))
def ZM:=pG (aq (fE Bs))
def g25(p0 p1:List tA):Option iA:=cond (!(aj (ae p0) (ae p1))) (c0) ((ZM p0 p1 0).bind (Sum.elim (fun _=>c3) (fun y1=>some ((),(y1,())))))
def s25:=fU [aT [IZ],aT [IZ]] iN fun x=>g25 x.1.1 x.2.1.1
theorem ai7:bj 25 s25:=fl (ac adu an) [.d 4 .bool] [(0,⟨[.d 0 IZ,.d 1 IZ,.d 5 af],aq (fE Bs)⟩)] [] f25 (lp [0] (sc dV sn))
def g40(p0 p1:Int×(List R5)×(List R5)×Unit):Option iA:=cond (!(aj p0.1 p1.1)) (c0) ((g18 p0.2.1 p1.2.1).bind fun y1=>cond (!y1.2.1.1) (c0) ((g18 p0.2.2.1 p1.2.2.1).bind fun y2=>cond (!y2.2.1.1) (c0) (c3)))
def s40:=fU [dL [af,q5,q5],dL [af,q5,q5]] iN fun x=>g40 x.1 x.2.1
theorem aiW:bj 40 s40:=fq (ac adu an) f40
def AD(t0 t1:List xf)(t5:Int):Rd ((List xf)×(List xf)×Int×Unit) Y2:=cond (aE t5 (ae t0)) (cond (aX t5 t0) (cond (aX t5 t1) ((g40 (gt d62 t0 t5) (gt d62 t1 t5)).bind fun y1=>cond (!y1.2.1.1) (eC (false,())) (eA (t0,t1,(ak .i64 t5 1),()))) none) none) (eB (t0,t1,t5,()))
def YU:=pG (aq (fE AD))
def g14(p0 p1:List xf):Option iA:=cond (!(aj (ae p0) (ae p1))) (c0) ((YU p0 p1 0).bind (Sum.elim (fun _=>c3) (fun y1=>some ((),(y1,())))))
def s14:=fU [aT [Mz],aT [Mz]] iN fun x=>g14 x.1.1 x.2.1.1
theorem akX:bj 14 s14:=fl (ac aiW an) [.d 4 .bool] [(0,⟨[.d 0 Mz,.d 1 Mz,.d 5 af],aq (fE AD)⟩)] [] f14 (lp [0] (sc dV sn))
def qF(t0:Int)(t3:S8):Rd Y16 Unit:=cond (aE 0 t0) (let u1:=(strOf [((dC .u8 (ak .i64 48 (eH t0 10))),())]);cond (jL u1 t3) (eA ((kq .i64 t0 10),(uy u1 t3),())) none) (eB (t0,t3,()))
def TQ:=UQ (aq (Az qF))
def wC(p0:Int):Option Ea:=cond (ck p0 0) (zR [109,48]) ((TQ p0 []).bind (Sum.elim (fun y1=>cond (jL [109] y1.2.1) (zR (uy [109] y1.2.1)) none) (fun _=>none)))
def ajQ:=fU [aT [af]] Fh fun x=>wC x.1.1
theorem C0:bj 139 ajQ:=fl an [] [(0,⟨[.d 0 af,.d 3 .str],aq (Az qF)⟩)] [] f139 (lp [0] (sc dV sn))
def su(t0:List bz)(t1 t5:Int):Rd ((List bz)×Int×Int×Unit) Unit:=cond (aE t5 (ae t0)) ((wC t1).bind fun y1=>cond (aX t5 t0) (let u1:=(gt d192 t0 t5);let u2:=(cZ t0 t5 (y1.2.1.1,u1.2.1,u1.2.2.1,()));cond (aX t5 u2) (let u3:=(gt d192 u2 t5);let u4:=(ak .i64 t1 1);let u5:=(cZ u2 t5 (u3.1,u4,u3.2.2.1,()));cond (aX t5 u5) (let u6:=(gt d192 u5 t5);let u7:=(ak .i64 u4 1);eA ((cZ u5 t5 (u6.1,u6.2.1,u7,())),(ak .i64 u7 1),(ak .i64 t5 1),())) none) none) none) (eB (t0,t1,t5,()))
def Qe:=pG (aq (fE su))
def Xg(p0:List bz)(p1:Int):Option ((Y8×Unit)×Y9):=(Qe p0 p1 0).bind (Sum.elim (fun y1=>some (((y1.1,()),()),((y1.2.1,()),()))) (fun _=>none))
def aj7:=fU [.io false [bH],aT [af]] jl fun x=>Xg x.1.1 x.2.1.1
theorem ahr:bj 140 aj7:=fl (ac C0 an) [] [(0,⟨[.own 0 bH,.d 1 af,.d 5 af],aq (fE su)⟩)] [0] f140 (lp [0] (sc dV sn))
def At(t0:List R3)(t1 t5:Int):Rd ((List R3)×Int×Int×Unit) Unit:=cond (aE t5 (ae t0)) (cond (aX t5 t0) (eA ((cZ t0 t5 (t1,())),(ak .i64 t1 1),(ak .i64 t5 1),())) none) (eB (t0,t1,t5,()))
def ZE:=pG (aq (fE At))
def g33(p0:List R3)(p1:Int):Option ((OY×Unit)×Y9):=(ZE p0 p1 0).bind (Sum.elim (fun y1=>some (((y1.1,()),()),((y1.2.1,()),()))) (fun _=>none))
def s33:=fU [.io false [q3],aT [af]] jl fun x=>g33 x.1.1 x.2.1.1
theorem ajb:bj 33 s33:=fl an [] [(0,⟨[.own 0 q3,.d 1 af,.d 5 af],aq (fE At)⟩)] [0] f33 (lp [0] (sc dV sn))
def zy(t0:List R5)(t1 t5:Int):Rd ((List R5)×Int×Int×Unit) Unit:=cond (aE t5 (ae t0)) (cond (aX t5 t0) (eA ((cZ t0 t5 ((dC .u8 t1),())),(ak .i64 t1 1),(ak .i64 t5 1),())) none) (eB (t0,t1,t5,()))
def ZD:=pG (aq (fE zy))
def g20(p0:List R5)(p1:Int):Option ((Y4×Unit)×Y9):=(ZD p0 p1 0).bind (Sum.elim (fun y1=>some (((y1.1,()),()),((y1.2.1,()),()))) (fun _=>none))
def s20:=fU [.io false [q5],aT [af]] jl fun x=>g20 x.1.1 x.2.1.1
theorem abJ:bj 20 s20:=fl an [] [(0,⟨[.own 0 q5,.d 1 af,.d 5 af],aq (fE zy)⟩)] [0] f20 (lp [0] (sc dV sn))
def sF(t0:List ch)(t1 t5:Int):Rd ((List ch)×Int×Int×Unit) Unit:=cond (aE t5 (ae t0)) ((wC t1).bind fun y1=>cond (aX t5 t0) (let u1:=(ak .i64 t1 1);(wC u1).bind fun y2=>let u2:=(gt d100 t0 t5);let u3:=(cZ t0 t5 (y1.2.1.1,u2.2.1,u2.2.2.1,()));cond (aX t5 u3) (let u4:=(gt d100 u3 t5);let u5:=(cZ u3 t5 (u4.1,y2.2.1.1,u4.2.2.1,()));cond (aX t5 u5) (let u6:=(gt d100 u5 t5);(g20 u6.2.2.1 (ak .i64 u1 1)).bind fun y3=>eA ((cZ u5 t5 (u6.1,u6.2.1,y3.1.1.1,())),y3.2.1.1,(ak .i64 t5 1),())) none) none) none) (eB (t0,t1,t5,()))
def Rh:=pG (aq (fE sF))
def WX(p0:List ch)(p1:Int):Option ((Y7×Unit)×Y9):=(Rh p0 p1 0).bind (Sum.elim (fun y1=>some (((y1.1,()),()),((y1.2.1,()),()))) (fun _=>none))
def akv:=fU [.io false [cl],aT [af]] jl fun x=>WX x.1.1 x.2.1.1
theorem aem:bj 141 akv:=fl (ac C0 (ac abJ an)) [] [(0,⟨[.own 0 cl,.d 1 af,.d 5 af],aq (fE sF)⟩)] [0] f141 (lp [0] (sc dV sn))
def zn(t0:List gH)(t1 t5:Int):Rd ((List gH)×Int×Int×Unit) Unit:=cond (aE t5 (ae t0)) ((wC t1).bind fun y1=>cond (aX t5 t0) (let u1:=(gt d94 t0 t5);let u2:=(cZ t0 t5 (y1.2.1.1,u1.2.1,u1.2.2.1,u1.2.2.2.1,u1.2.2.2.2.1,u1.2.2.2.2.2.1,u1.2.2.2.2.2.2.1,u1.2.2.2.2.2.2.2.1,u1.2.2.2.2.2.2.2.2.1,u1.2.2.2.2.2.2.2.2.2.1,u1.2.2.2.2.2.2.2.2.2.2.1,()));cond (aX t5 u2) (let u3:=(gt d94 u2 t5);let u4:=(ak .i64 t1 1);let u5:=(cZ u2 t5 (u3.1,u4,u3.2.2.1,u3.2.2.2.1,u3.2.2.2.2.1,u3.2.2.2.2.2.1,u3.2.2.2.2.2.2.1,u3.2.2.2.2.2.2.2.1,u3.2.2.2.2.2.2.2.2.1,u3.2.2.2.2.2.2.2.2.2.1,u3.2.2.2.2.2.2.2.2.2.2.1,()));cond (aX t5 u5) (let u6:=(gt d94 u5 t5);let u7:=(ak .i64 u4 1);let u8:=(cZ u5 t5 (u6.1,u6.2.1,u7,u6.2.2.2.1,u6.2.2.2.2.1,u6.2.2.2.2.2.1,u6.2.2.2.2.2.2.1,u6.2.2.2.2.2.2.2.1,u6.2.2.2.2.2.2.2.2.1,u6.2.2.2.2.2.2.2.2.2.1,u6.2.2.2.2.2.2.2.2.2.2.1,()));cond (aX t5 u8) (let u9:=(gt d94 u8 t5);let u10:=(ak .i64 u7 1);let u11:=(cZ u8 t5 (u9.1,u9.2.1,u9.2.2.1,u10,u9.2.2.2.2.1,u9.2.2.2.2.2.1,u9.2.2.2.2.2.2.1,u9.2.2.2.2.2.2.2.1,u9.2.2.2.2.2.2.2.2.1,u9.2.2.2.2.2.2.2.2.2.1,u9.2.2.2.2.2.2.2.2.2.2.1,()));cond (aX t5 u11) (let Vd:=(gt d94 u11 t5);let u13:=(ak .i64 u10 1);let u14:=(cZ u11 t5 (Vd.1,Vd.2.1,Vd.2.2.1,Vd.2.2.2.1,u13,Vd.2.2.2.2.2.1,Vd.2.2.2.2.2.2.1,Vd.2.2.2.2.2.2.2.1,Vd.2.2.2.2.2.2.2.2.1,Vd.2.2.2.2.2.2.2.2.2.1,Vd.2.2.2.2.2.2.2.2.2.2.1,()));cond (aX t5 u14) (let UF:=(gt d94 u14 t5);(Xg UF.2.2.2.2.2.1 (ak .i64 u13 1)).bind fun y2=>let u16:=(cZ u14 t5 (UF.1,UF.2.1,UF.2.2.1,UF.2.2.2.1,UF.2.2.2.2.1,y2.1.1.1,UF.2.2.2.2.2.2.1,UF.2.2.2.2.2.2.2.1,UF.2.2.2.2.2.2.2.2.1,UF.2.2.2.2.2.2.2.2.2.1,UF.2.2.2.2.2.2.2.2.2.2.1,()));cond (aX t5 u16) (let Ve:=(gt d94 u16 t5);let u18:=(cZ u16 t5 (Ve.1,Ve.2.1,Ve.2.2.1,Ve.2.2.2.1,Ve.2.2.2.2.1,Ve.2.2.2.2.2.1,y2.2.1.1,Ve.2.2.2.2.2.2.2.1,Ve.2.2.2.2.2.2.2.2.1,Ve.2.2.2.2.2.2.2.2.2.1,Ve.2.2.2.2.2.2.2.2.2.2.1,()));cond (aX t5 u18) (let Vf:=(gt d94 u18 t5);let u20:=(ak .i64 y2.2.1.1 1);let u21:=(cZ u18 t5 (Vf.1,Vf.2.1,Vf.2.2.1,Vf.2.2.2.1,Vf.2.2.2.2.1,Vf.2.2.2.2.2.1,Vf.2.2.2.2.2.2.1,u20,Vf.2.2.2.2.2.2.2.2.1,Vf.2.2.2.2.2.2.2.2.2.1,Vf.2.2.2.2.2.2.2.2.2.2.1,()));cond (aX t5 u21) (let UG:=(gt d94 u21 t5);(g33 UG.2.2.2.2.2.2.2.2.1 (ak .i64 u20 1)).bind fun y3=>let u23:=(cZ u21 t5 (UG.1,UG.2.1,UG.2.2.1,UG.2.2.2.1,UG.2.2.2.2.1,UG.2.2.2.2.2.1,UG.2.2.2.2.2.2.1,UG.2.2.2.2.2.2.2.1,y3.1.1.1,UG.2.2.2.2.2.2.2.2.2.1,UG.2.2.2.2.2.2.2.2.2.2.1,()));cond (aX t5 u23) (let UH:=(gt d94 u23 t5);(g33 UH.2.2.2.2.2.2.2.2.2.1 y3.2.1.1).bind fun y4=>let u25:=(cZ u23 t5 (UH.1,UH.2.1,UH.2.2.1,UH.2.2.2.1,UH.2.2.2.2.1,UH.2.2.2.2.2.1,UH.2.2.2.2.2.2.1,UH.2.2.2.2.2.2.2.1,UH.2.2.2.2.2.2.2.2.1,y4.1.1.1,UH.2.2.2.2.2.2.2.2.2.2.1,()));cond (aX t5 u25) (let UI:=(gt d94 u25 t5);(WX UI.2.2.2.2.2.2.2.2.2.2.1 y4.2.1.1).bind fun y5=>eA ((cZ u25 t5 (UI.1,UI.2.1,UI.2.2.1,UI.2.2.2.1,UI.2.2.2.2.1,UI.2.2.2.2.2.1,UI.2.2.2.2.2.2.1,UI.2.2.2.2.2.2.2.1,UI.2.2.2.2.2.2.2.2.1,UI.2.2.2.2.2.2.2.2.2.1,y5.1.1.1,())),y5.2.1.1,(ak .i64 t5 1),())) none) none) none) none) none) none) none) none) none) none) none) (eB (t0,t1,t5,()))
def aaM:=pG (aq (fE zn))
def g69(p0:List gH)(p1:Int):Option ((Y6×Unit)×Y9):=(aaM p0 p1 0).bind (Sum.elim (fun y1=>some (((y1.1,()),()),((y1.2.1,()),()))) (fun _=>none))
def s69:=fU [.io false [kn],aT [af]] jl fun x=>g69 x.1.1 x.2.1.1
theorem alg:bj 69 s69:=fl (ac C0 (ac ahr (ac ajb (ac aem an)))) [] [(0,⟨[.own 0 kn,.d 1 af,.d 5 af],aq (fE zn)⟩)] [0] f69 (lp [0] (sc dV sn))
def g19(p0:(List gH)×Unit)(p1:Int):Option ((Y6×Unit)×Y9):=(g69 p0.1 p1).bind fun y1=>some ((y1.1.1,()),(y1.2.1,()))
def s19:=fU [.io true [kn],aT [af]] jl fun x=>g19 x.1 x.2.1.1
theorem aiA:bj 19 s19:=fl (ac alg an) [] [] [0] f19 dV
def AE(t0:List xf)(t1 t5:Int):Rd ((List xf)×Int×Int×Unit) Unit:=cond (aE t5 (ae t0)) (cond (aX t5 t0) (let u1:=(gt d62 t0 t5);let u2:=(cZ t0 t5 (t1,u1.2.1,u1.2.2.1,()));cond (aX t5 u2) (let u3:=(gt d62 u2 t5);(g20 u3.2.1 (ak .i64 t1 1)).bind fun y1=>let u4:=(cZ u2 t5 (u3.1,y1.1.1.1,u3.2.2.1,()));cond (aX t5 u4) (let u5:=(gt d62 u4 t5);(g20 u5.2.2.1 y1.2.1.1).bind fun y2=>eA ((cZ u4 t5 (u5.1,u5.2.1,y2.1.1.1,())),y2.2.1.1,(ak .i64 t5 1),())) none) none) none) (eB (t0,t1,t5,()))
def Z9:=pG (aq (fE AE))
def g26(p0:List xf)(p1:Int):Option ((((List xf)×Unit)×Unit)×Y9):=(Z9 p0 p1 0).bind (Sum.elim (fun y1=>some (((y1.1,()),()),((y1.2.1,()),()))) (fun _=>none))
def s26:=fU [.io false [Mz],aT [af]] jl fun x=>g26 x.1.1 x.2.1.1
theorem ak1:bj 26 s26:=fl (ac abJ an) [] [(0,⟨[.own 0 Mz,.d 1 af,.d 5 af],aq (fE AE)⟩)] [0] f26 (lp [0] (sc dV sn))
def A8(t0:List tA)(t1 t5:Int):Rd ((List tA)×Int×Int×Unit) Unit:=cond (aE t5 (ae t0)) (cond (aX t5 t0) ((g20 (gt d38 t0 t5).1 t1).bind fun y1=>eA ((cZ t0 t5 y1.1.1),y1.2.1.1,(ak .i64 t5 1),())) none) (eB (t0,t1,t5,()))
def ZO:=pG (aq (fE A8))
def g27(p0:List tA)(p1:Int):Option ((((List tA)×Unit)×Unit)×Y9):=(ZO p0 p1 0).bind (Sum.elim (fun y1=>some (((y1.1,()),()),((y1.2.1,()),()))) (fun _=>none))
def s27:=fU [.io false [IZ],aT [af]] jl fun x=>g27 x.1.1 x.2.1.1
theorem aiU:bj 27 s27:=fl (ac abJ an) [] [(0,⟨[.own 0 IZ,.d 1 af,.d 5 af],aq (fE A8)⟩)] [0] f27 (lp [0] (sc dV sn))
def tW(t0:List bz)(t1 t5:Int):Rd ((List bz)×Int×Int×Unit) Y1:=cond (aE t5 (ae t0)) (cond (aX t5 t0) ((wC t1).bind fun y1=>let u1:=(gt d192 t0 t5);cond (!(bF u1.1 y1.2.1.1)) (eC ((-1),())) (cond (aX t5 t0) (let u2:=(ak .i64 t1 1);cond (!(aj u1.2.1 u2)) (eC ((-1),())) (cond (aX t5 t0) (let u3:=(ak .i64 u2 1);cond (!(aj u1.2.2.1 u3)) (eC ((-1),())) (eA (t0,(ak .i64 u3 1),(ak .i64 t5 1),()))) none)) none)) none) (eB (t0,t1,t5,()))
def SO:=pG (aq (fE tW))
def WB(p0:List bz)(p1:Int):Option iL:=(SO p0 p1 0).bind (Sum.elim (fun y1=>zR y1.2.1) (fun y1=>some ((),(y1,()))))
def ajo:=fU [aT [bH],aT [af]] jl fun x=>WB x.1.1 x.2.1.1
theorem ag8:bj 142 ajo:=fl (ac C0 an) [.d 4 af] [(0,⟨[.d 0 bH,.d 1 af,.d 5 af],aq (fE tW)⟩)] [] f142 (lp [0] (sc dV sn))
def tO(t0:List R3)(t1 t5:Int):Rd ((List R3)×Int×Int×Unit) Y1:=cond (aE t5 (ae t0)) (cond (aX t5 t0) (cond (!(aj (gt d3 t0 t5).1 t1)) (eC ((-1),())) (eA (t0,(ak .i64 t1 1),(ak .i64 t5 1),()))) none) (eB (t0,t1,t5,()))
def SQ:=pG (aq (fE tO))
def Q4(p0:List R3)(p1:Int):Option iL:=(SQ p0 p1 0).bind (Sum.elim (fun y1=>zR y1.2.1) (fun y1=>some ((),(y1,()))))
def ajN:=fU [aT [q3],aT [af]] jl fun x=>Q4 x.1.1 x.2.1.1
theorem agq:bj 143 ajN:=fl an [.d 4 af] [(0,⟨[.d 0 q3,.d 1 af,.d 5 af],aq (fE tO)⟩)] [] f143 (lp [0] (sc dV sn))
def AG(t0:List R5)(t1 t5:Int):Rd ((List R5)×Int×Int×Unit) Y1:=cond (aE t5 (ae t0)) (cond (aX t5 t0) (cond (!(aj (gt d5 t0 t5).1 (dC .u8 t1))) (eC ((-1),())) (eA (t0,(ak .i64 t1 1),(ak .i64 t5 1),()))) none) (eB (t0,t1,t5,()))
def aaD:=pG (aq (fE AG))
def g22(p0:List R5)(p1:Int):Option iL:=(aaD p0 p1 0).bind (Sum.elim (fun y1=>zR y1.2.1) (fun y1=>some ((),(y1,()))))
def s22:=fU [aT [q5],aT [af]] jl fun x=>g22 x.1.1 x.2.1.1
theorem agZ:bj 22 s22:=fl an [.d 4 af] [(0,⟨[.d 0 q5,.d 1 af,.d 5 af],aq (fE AG)⟩)] [] f22 (lp [0] (sc dV sn))
def rZ(t0:List ch)(t1 t5:Int):Rd ((List ch)×Int×Int×Unit) Y1:=cond (aE t5 (ae t0)) (cond (aX t5 t0) ((wC t1).bind fun y1=>let u1:=(gt d100 t0 t5);cond (!(bF u1.1 y1.2.1.1)) (eC ((-1),())) (cond (aX t5 t0) (let u2:=(ak .i64 t1 1);(wC u2).bind fun y2=>cond (!(bF u1.2.1 y2.2.1.1)) (eC ((-1),())) (cond (aX t5 t0) ((g22 u1.2.2.1 (ak .i64 u2 1)).bind fun y3=>cond (aE y3.2.1.1 0) (eC ((-1),())) (eA (t0,y3.2.1.1,(ak .i64 t5 1),()))) none)) none)) none) (eB (t0,t1,t5,()))
def QG:=pG (aq (fE rZ))
def VY(p0:List ch)(p1:Int):Option iL:=(QG p0 p1 0).bind (Sum.elim (fun y1=>zR y1.2.1) (fun y1=>some ((),(y1,()))))
def aie:=fU [aT [cl],aT [af]] jl fun x=>VY x.1.1 x.2.1.1
theorem afX:bj 144 aie:=fl (ac C0 (ac agZ an)) [.d 4 af] [(0,⟨[.d 0 cl,.d 1 af,.d 5 af],aq (fE rZ)⟩)] [] f144 (lp [0] (sc dV sn))
def zB(t0:List gH)(t1 t5:Int):Rd ((List gH)×Int×Int×Unit) Y1:=cond (aE t5 (ae t0)) (cond (aX t5 t0) ((wC t1).bind fun y1=>let u1:=(gt d94 t0 t5);cond (!(bF u1.1 y1.2.1.1)) (eC ((-1),())) (cond (aX t5 t0) (let u2:=(ak .i64 t1 1);cond (!(aj u1.2.1 u2)) (eC ((-1),())) (cond (aX t5 t0) (let u3:=(ak .i64 u2 1);cond (!(aj u1.2.2.1 u3)) (eC ((-1),())) (cond (aX t5 t0) (let u4:=(ak .i64 u3 1);cond (!(aj u1.2.2.2.1 u4)) (eC ((-1),())) (cond (aX t5 t0) (let u5:=(ak .i64 u4 1);cond (!(aj u1.2.2.2.2.1 u5)) (eC ((-1),())) (cond (aX t5 t0) ((WB u1.2.2.2.2.2.1 (ak .i64 u5 1)).bind fun y2=>cond (aE y2.2.1.1 0) (eC ((-1),())) (cond (aX t5 t0) (cond (!(aj u1.2.2.2.2.2.2.1 y2.2.1.1)) (eC ((-1),())) (cond (aX t5 t0) (let u6:=(ak .i64 y2.2.1.1 1);cond (!(aj u1.2.2.2.2.2.2.2.1 u6)) (eC ((-1),())) (cond (aX t5 t0) ((Q4 u1.2.2.2.2.2.2.2.2.1 (ak .i64 u6 1)).bind fun y3=>cond (aE y3.2.1.1 0) (eC ((-1),())) (cond (aX t5 t0) ((Q4 u1.2.2.2.2.2.2.2.2.2.1 y3.2.1.1).bind fun y4=>cond (aE y4.2.1.1 0) (eC ((-1),())) (cond (aX t5 t0) ((VY u1.2.2.2.2.2.2.2.2.2.2.1 y4.2.1.1).bind fun y5=>cond (aE y5.2.1.1 0) (eC ((-1),())) (eA (t0,y5.2.1.1,(ak .i64 t5 1),()))) none)) none)) none)) none)) none)) none)) none)) none)) none)) none)) none) (eB (t0,t1,t5,()))
def aaz:=pG (aq (fE zB))
def g70(p0:List gH)(p1:Int):Option iL:=(aaz p0 p1 0).bind (Sum.elim (fun y1=>zR y1.2.1) (fun y1=>some ((),(y1,()))))
def s70:=fU [aT [kn],aT [af]] jl fun x=>g70 x.1.1 x.2.1.1
theorem ak2:bj 70 s70:=fl (ac C0 (ac ag8 (ac agq (ac afX an)))) [.d 4 af] [(0,⟨[.d 0 kn,.d 1 af,.d 5 af],aq (fE zB)⟩)] [] f70 (lp [0] (sc dV sn))
def g21(p0:(List gH)×Unit)(p1:Int):Option iL:=(g70 p0.1 p1).bind fun y1=>cond (aE y1.2.1.1 0) (c2) (some ((),(y1.2.1,())))
def s21:=fU [dL [kn],aT [af]] jl fun x=>g21 x.1 x.2.1.1
theorem ajD:bj 21 s21:=fq (ac ak2 an) f21
def Bc(t0:List tA)(t1 t5:Int):Rd ((List tA)×Int×Int×Unit) Y1:=cond (aE t5 (ae t0)) (cond (aX t5 t0) ((g22 (gt d38 t0 t5).1 t1).bind fun y1=>cond (aE y1.2.1.1 0) (eC ((-1),())) (eA (t0,y1.2.1.1,(ak .i64 t5 1),()))) none) (eB (t0,t1,t5,()))
def aaR:=pG (aq (fE Bc))
def g28(p0:List tA)(p1:Int):Option iL:=(aaR p0 p1 0).bind (Sum.elim (fun y1=>zR y1.2.1) (fun y1=>some ((),(y1,()))))
def s28:=fU [aT [IZ],aT [af]] jl fun x=>g28 x.1.1 x.2.1.1
theorem ajX:bj 28 s28:=fl (ac agZ an) [.d 4 af] [(0,⟨[.d 0 IZ,.d 1 af,.d 5 af],aq (fE Bc)⟩)] [] f28 (lp [0] (sc dV sn))
def g5(p0:(List jM)×Unit)(p1:List vW):Option iA:=(g7 p0 1048576).bind fun y1=>cond (aE y1.2.1.1 0) (c3) ((g8 p1 y1.2.1.1).bind fun y2=>cond (aE y2.2.1.1 0) (c3) (let u1:=(g10 p0);Option.bind u1 fun y3=>let u2:=(g11 p1);Option.bind u2 fun y4=>(g23 y3.2.1 y4.2.1.1).bind fun y5=>Option.bind u1 fun y6=>Option.bind u2 fun y7=>(g24 y6.2.1 y7.2.1.1).bind fun y8=>let u3:=(g13 y8.2.1 y5.2.1);Option.bind u3 fun y9=>cond (!y9.2.1.1) (c0) (let u4:=(g25 y8.2.2.1.1 y5.2.2.1.1);Option.bind u4 fun iU=>cond (!iU.2.1.1) (c0) (Option.bind u1 fun ln=>(g13 y6.2.1 ln.2.1).bind fun qR=>cond (!qR.2.1.1) (c0) (Option.bind u2 fun Du=>(g14 y7.2.1.1 Du.2.1.1).bind fun Pj=>cond (!Pj.2.1.1) (c0) ((g19 y6.2.1 1).bind fun y15=>(g26 y7.2.1.1 y15.2.1.1).bind fun y16=>cond (aE y16.2.1.1 0) (c0) (Option.bind u3 fun y17=>cond (!y17.2.1.1) (c0) (Option.bind u4 fun y18=>cond (!y18.2.1.1) (c0) ((g19 y8.2.1 1).bind fun y19=>(g27 y8.2.2.1.1 y19.2.1.1).bind fun y20=>let u5:=(g21 y19.1.1 1);Option.bind u5 fun y21=>cond (aE y21.2.1.1 0) (c0) ((g28 y20.1.1.1 y21.2.1.1).bind fun y22=>cond (aE y22.2.1.1 0) (c0) (cond (!(aj y22.2.1.1 y20.2.1.1)) (c0) (Option.bind u1 fun y23=>Option.bind u2 fun y24=>(g24 y23.2.1 y24.2.1.1).bind fun y25=>(g13 y25.2.1 y5.2.1).bind fun y26=>cond (!y26.2.1.1) (c0) ((g25 y25.2.2.1.1 y5.2.2.1.1).bind fun y27=>cond (!y27.2.1.1) (c0) (Option.bind u5 fun y28=>cond (aE y28.2.1.1 0) (c0) ((g28 y20.1.1.1 y28.2.1.1).bind fun y29=>cond (aE y29.2.1.1 0) (c0) (cond (!(aj y29.2.1.1 y20.2.1.1)) (c0) (c3)))))))))))))))))
def s5:=fU [dL [JU],aT [q61]] iN fun x=>g5 x.1 x.2.1.1
theorem ok5:bj 5 s5:=fq (ac ok7 (ac ok8 (ac akp (ac ajY (ac akA (ac aiM (ac akO (ac ai7 (ac akX (ac aiA (ac ak1 (ac aiU (ac ajD (ac ajX an)))))))))))))) f5
end
end Go.Av
