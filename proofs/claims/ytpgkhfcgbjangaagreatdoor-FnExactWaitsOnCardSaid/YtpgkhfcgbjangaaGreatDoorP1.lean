/- Part of a proof that the law FnExactWaitsOn answers true for every input: the printed functions of this program and their plain laws. No conditions beyond the statement. -/
import Derived.Test.YtpgkhfcgbjangaaGreatDoorP1a
set_option maxRecDepth 100000
namespace Go.Av
open Go.Proofs
set_option maxHeartbeats 4000000
noncomputable section
def r174_0 (t1:Int) (t9:List R178) (t10 t11:Int):Rd (Int×(List R178)×Int×Int×Unit) ((List UInt8)×Bool×Unit) :=
 cond (ltI t11 t10) (
 cond (inB t11 t9) (
 let u1:=(gt d178 t9 t11)
 cond (eqI u1.1 t1) (
 some (.inr (.inr (u1.2.1,true,())))
 ) (
 some (.inl (t1,t9,t10,(addW .i64 t11 1),()))
 )
 ) none
 ) (
 some (.inr (.inl (t1,t9,t10,t11,())))
 )
def l174_0:=cu4 (loopF (un4 r174_0))
def g174 (p0:(List UInt8)×(List R178)×Unit) (p1:Int):Option (Unit×(Y6×Y1×Unit)) :=
 (l174_0 p1 p0.2.1 (lenI p0.2.1) 0).bind (Sum.elim (fun y1 =>
 some ((),(([],()),(false,()),()))
 ) (fun y1 =>
 some ((),((y1.1,()),(y1.2.1,()),()))
 ))
def s174:Su:=⟨[.c true [.str,.sl 178 kk178],.c false kk3],[(false,[.str]),(false,[.bool])],true,.inl fun x=>g174 x.1 x.2.1.1⟩
theorem ok174:SuOK Tryz.prog 174 s174 :=
 fl an [.d 4 (.str),.d 5 (.bool)] [(0,⟨[.d 1 (.int .i64),.d 9 (.sl 178 kk178),.d 10 (.int .i64),.d 11 (.int .i64)],loopF (un4 r174_0)⟩)] [] Tryz.f174 (lp [0] (sc lp0 sn))
def g176  : Option (Unit×(((List R198)×Unit)×Unit)) :=
 some ((),(([([48,49,48,48],[48,48],[97,117,116,104],[(4,()),(14,()),(38,())],()),([48,49,48,48],[48,50],[109,111,114,101],[(4,()),(38,())],()),([48,50,50,48],[48,49],[112,97,114,116],[(4,()),(38,())],()),([48,50,50,48],[48,48],[102,105,110,97,108],[(4,()),(38,())],()),([48,50,50,48],[50,48],[102,114,101,101],[(38,())],()),([48,50,48,48],[52,48],[109,111,118,101],[(38,()),(103,())],()),([48,49,48,48],[51,49],[97,115,107],[],()),([48,50,48,48],[57,48],[115,119,101,101,112],[],())],()),()))
def s176:Su:=⟨[],[(false,[.sl 198 kk198])],false,.inl fun x=>g176 ⟩
theorem ok176:SuOK Tryz.prog 176 s176 :=
 fl an [] [] [999999] Tryz.f176 lp0
def g177 (p0:(List UInt8)×(List UInt8)×(List UInt8)×(List R3)×Unit) (p1:(List UInt8)×(List R178)×Unit) (p2:(List UInt8)×Unit):Option Y17 :=
 cond (eqS p0.1 p1.1) (
 cond (cutB 0 2 p2.1) (
 some ((),(((eqS p0.2.1 (sub p2.1 0 2)),()),()))
 ) none
 ) (
 some ((),((false,()),()))
 )
def s177:Su:=⟨[.c true kk198,.pt [.str,.sl 178 kk178],.pt [.str]],[(false,[.bool])],true,.inl fun x=>g177 x.1 x.2.1 x.2.2.1⟩
theorem ok177:SuOK Tryz.prog 177 s177 :=
 fq an Tryz.f177
def r175_0 (t0:List R198) (f1:Y19×Y6×Unit) (t7 t8:Int):Rd ((List R198)×(Y19×Y6×Unit)×Int×Int×Unit) Y0 :=
 cond (ltI t8 t7) (
 cond (inB t8 t0) (
 (g177 (gt d198 t0 t8) f1.1 f1.2.1).bind fun y1 =>
 cond y1.2.1.1 (
 some (.inr (.inr (t8,())))
 ) (
 some (.inl (t0,f1,t7,(addW .i64 t8 1),()))
 )
 ) none
 ) (
 some (.inr (.inl (t0,f1,t7,t8,())))
 )
def l175_0:=cu4 (loopF (un4 r175_0))
def g175 (p0:List R198) (c1_0:(List UInt8)×(List R178)×Unit) (c1_1:(List UInt8)×Unit):Option Y15 :=
 (l175_0 p0 (c1_0,c1_1,()) (lenI p0) 0).bind (Sum.elim (fun y1 =>
 some ((),(((-1),()),()))
 ) (fun y1 =>
 some ((),(y1,()))
 ))
def s175:Su:=⟨[.c false [.sl 198 kk198],.fn 177 [.p [.str,.sl 178 kk178],.p [.str]]],[(false,kk3)],true,.inl fun x=>g175 x.1.1 x.2.1.1 x.2.1.2.1⟩
theorem ok175:SuOK Tryz.prog 175 s175 :=
 fl (ac ok177 an) [.d 4 (.int .i64)] [(0,⟨[.d 0 (.sl 198 kk198),.fn 1 177 [.p [.str,.sl 178 kk178],.p [.str]],.d 7 (.int .i64),.d 8 (.int .i64)],loopF (un4 r175_0)⟩)] [] Tryz.f175 (lp [0] (sc lp0 sn))
def g178 (p0:Int):Option (Unit×(R198×Unit)) :=
 (g46 p0 1 8).bind fun y1 =>
 cond (!y1.2.1.1) (
 some ((),(([],[],[],[],()),()))
 ) (
 (g176).bind fun y2 =>
 let u1:=(subW .i64 p0 1)
 cond (inB u1 y2.2.1.1) (
 some ((),((gt d198 y2.2.1.1 u1),()))
 ) none
 )
def s178:Su:=⟨[.c false kk3],[(true,kk198)],false,.inl fun x=>g178 x.1.1⟩
theorem ok178:SuOK Tryz.prog 178 s178 :=
 fl (ac ok46 (ac ok176 an)) [] [] [999999] Tryz.f178 lp0
def r72_0 (t0:List R3) (t1 t7 t8:Int):Rd ((List R3)×Int×Int×Int×Unit) Y0 :=
 cond (ltI t8 t7) (
 cond (inB t8 t0) (
 cond (eqI t1 (gt d3 t0 t8).1) (
 some (.inr (.inr (t8,())))
 ) (
 some (.inl (t0,t1,t7,(addW .i64 t8 1),()))
 )
 ) none
 ) (
 some (.inr (.inl (t0,t1,t7,t8,())))
 )
def l72_0:=cu4 (loopF (un4 r72_0))
def g72 (p0:List R3) (p1:Int):Option Y15 :=
 (l72_0 p0 p1 (lenI p0) 0).bind (Sum.elim (fun y1 =>
 some ((),(((-1),()),()))
 ) (fun y1 =>
 some ((),(y1,()))
 ))
def s72:Su:=⟨[.c false kk53,.c false kk3],[(false,kk3)],true,.inl fun x=>g72 x.1.1 x.2.1.1⟩
theorem ok72:SuOK Tryz.prog 72 s72 :=
 fl an [.d 4 (.int .i64)] [(0,⟨[.d 0 (.sl 3 kk3),.d 1 (.int .i64),.d 7 (.int .i64),.d 8 (.int .i64)],loopF (un4 r72_0)⟩)] [] Tryz.f72 (lp [0] (sc lp0 sn))
def g40 (p0:List R3) (p1:Int):Option Y17 :=
 (g72 p0 p1).bind fun y1 =>
 some ((),(((leI 0 y1.2.1.1),()),()))
def s40:Su:=⟨[.c false kk53,.c false kk3],[(false,[.bool])],true,.inl fun x=>g40 x.1.1 x.2.1.1⟩
theorem ok40:SuOK Tryz.prog 40 s40 :=
 fq (ac ok72 an) Tryz.f40
def g231 (p0 p1:Int):Option Y17 :=
 (g178 p0).bind fun y1 =>
 (g40 y1.2.1.2.2.2.1 p1).bind fun y2 =>
 some ((),(y2.2.1,()))
def s231:Su:=⟨[.c false kk3,.c false kk3],[(false,[.bool])],true,.inl fun x=>g231 x.1.1 x.2.1.1⟩
theorem ok231:SuOK Tryz.prog 231 s231 :=
 fq (ac ok178 (ac ok40 an)) Tryz.f231
def g181 (p0:Int×(List UInt8)×(List UInt8)×(List UInt8)×(List UInt8)×(List UInt8)×Int×Int×Unit):Option Y17 :=
 (g178 p0.1).bind fun y1 =>
 cond (cond (eqS y1.2.1.2.2.1 []) true (!(eqS p0.2.2.2.2.2.1 y1.2.1.1))) (
 some ((),((false,()),()))
 ) (
 (g106 p0.2.1).bind fun y2 =>
 cond (!y2.2.1.1) (
 some ((),((false,()),()))
 ) (
 (g194 p0.2.2.2.2.1 6).bind fun y3 =>
 cond (!y3.2.1.1) (
 some ((),((false,()),()))
 ) (
 (g231 p0.1 38).bind fun y4 =>
 cond y4.2.1.1 (
 (g192 p0.2.2.2.1).bind fun y5 =>
 let u1:=(g231 p0.1 4)
 Option.bind u1 fun y6 =>
 cond y6.2.1.1 (
 let u2:=(g46 p0.2.2.2.2.2.2.1 0 999999999999)
 Option.bind u2 fun y7 =>
 let u3:=(g231 p0.1 14)
 Option.bind u3 fun y8 =>
 cond y8.2.1.1 (
 let u4:=(g46 p0.2.2.2.2.2.2.2.1 0 9999)
 Option.bind u4 fun y9 =>
 let u5:=(g231 p0.1 103)
 Option.bind u5 fun y10 =>
 cond y10.2.1.1 (
 let u6:=(g106 p0.2.2.1)
 Option.bind u6 fun y11 =>
 let u7:=(cond y5.2.1.1 y7.2.1.1 false)
 let u8:=(cond u7 y9.2.1.1 false)
 some ((),(((cond u8 y11.2.1.1 false),()),()))
 ) (
 let u6:=(cond y5.2.1.1 y7.2.1.1 false)
 let u7:=(cond u6 y9.2.1.1 false)
 let u8:=(eqS p0.2.2.1 [])
 some ((),(((cond u7 u8 false),()),()))
 )
 ) (
 let u4:=(g231 p0.1 103)
 Option.bind u4 fun y9 =>
 cond y9.2.1.1 (
 let u5:=(g106 p0.2.2.1)
 Option.bind u5 fun y10 =>
 let u6:=(cond y5.2.1.1 y7.2.1.1 false)
 let u7:=(cond u6 (eqI p0.2.2.2.2.2.2.2.1 0) false)
 some ((),(((cond u7 y10.2.1.1 false),()),()))
 ) (
 let u5:=(cond y5.2.1.1 y7.2.1.1 false)
 let u6:=(cond u5 (eqI p0.2.2.2.2.2.2.2.1 0) false)
 let u7:=(eqS p0.2.2.1 [])
 some ((),(((cond u6 u7 false),()),()))
 )
 )
 ) (
 let u2:=(g231 p0.1 14)
 Option.bind u2 fun y7 =>
 cond y7.2.1.1 (
 let u3:=(g46 p0.2.2.2.2.2.2.2.1 0 9999)
 Option.bind u3 fun y8 =>
 let u4:=(g231 p0.1 103)
 Option.bind u4 fun y9 =>
 cond y9.2.1.1 (
 let u5:=(g106 p0.2.2.1)
 Option.bind u5 fun y10 =>
 let u6:=(cond y5.2.1.1 (eqI p0.2.2.2.2.2.2.1 0) false)
 let u7:=(cond u6 y8.2.1.1 false)
 some ((),(((cond u7 y10.2.1.1 false),()),()))
 ) (
 let u5:=(cond y5.2.1.1 (eqI p0.2.2.2.2.2.2.1 0) false)
 let u6:=(cond u5 y8.2.1.1 false)
 let u7:=(eqS p0.2.2.1 [])
 some ((),(((cond u6 u7 false),()),()))
 )
 ) (
 let u3:=(g231 p0.1 103)
 Option.bind u3 fun y8 =>
 cond y8.2.1.1 (
 let u4:=(g106 p0.2.2.1)
 Option.bind u4 fun y9 =>
 let u5:=(cond y5.2.1.1 (eqI p0.2.2.2.2.2.2.1 0) false)
 let u6:=(cond u5 (eqI p0.2.2.2.2.2.2.2.1 0) false)
 some ((),(((cond u6 y9.2.1.1 false),()),()))
 ) (
 let u4:=(cond y5.2.1.1 (eqI p0.2.2.2.2.2.2.1 0) false)
 let u5:=(cond u4 (eqI p0.2.2.2.2.2.2.2.1 0) false)
 let u6:=(eqS p0.2.2.1 [])
 some ((),(((cond u5 u6 false),()),()))
 )
 )
 )
 ) (
 let u1:=(g231 p0.1 4)
 Option.bind u1 fun y5 =>
 cond y5.2.1.1 (
 let u2:=(g46 p0.2.2.2.2.2.2.1 0 999999999999)
 Option.bind u2 fun y6 =>
 let u3:=(g231 p0.1 14)
 Option.bind u3 fun y7 =>
 cond y7.2.1.1 (
 let u4:=(g46 p0.2.2.2.2.2.2.2.1 0 9999)
 Option.bind u4 fun y8 =>
 let u5:=(g231 p0.1 103)
 Option.bind u5 fun y9 =>
 cond y9.2.1.1 (
 let u6:=(g106 p0.2.2.1)
 Option.bind u6 fun y10 =>
 let u7:=(eqS p0.2.2.2.1 [])
 let u8:=(cond u7 y6.2.1.1 false)
 let u9:=(cond u8 y8.2.1.1 false)
 some ((),(((cond u9 y10.2.1.1 false),()),()))
 ) (
 let u6:=(eqS p0.2.2.2.1 [])
 let u7:=(cond u6 y6.2.1.1 false)
 let u8:=(cond u7 y8.2.1.1 false)
 let u9:=(eqS p0.2.2.1 [])
 some ((),(((cond u8 u9 false),()),()))
 )
 ) (
 let u4:=(g231 p0.1 103)
 Option.bind u4 fun y8 =>
 cond y8.2.1.1 (
 let u5:=(g106 p0.2.2.1)
 Option.bind u5 fun y9 =>
 let u6:=(eqS p0.2.2.2.1 [])
 let u7:=(cond u6 y6.2.1.1 false)
 let u8:=(cond u7 (eqI p0.2.2.2.2.2.2.2.1 0) false)
 some ((),(((cond u8 y9.2.1.1 false),()),()))
 ) (
 let u5:=(eqS p0.2.2.2.1 [])
 let u6:=(cond u5 y6.2.1.1 false)
 let u7:=(cond u6 (eqI p0.2.2.2.2.2.2.2.1 0) false)
 let u8:=(eqS p0.2.2.1 [])
 some ((),(((cond u7 u8 false),()),()))
 )
 )
 ) (
 let u2:=(g231 p0.1 14)
 Option.bind u2 fun y6 =>
 cond y6.2.1.1 (
 let u3:=(g46 p0.2.2.2.2.2.2.2.1 0 9999)
 Option.bind u3 fun y7 =>
 let u4:=(g231 p0.1 103)
 Option.bind u4 fun y8 =>
 cond y8.2.1.1 (
 let u5:=(g106 p0.2.2.1)
 Option.bind u5 fun y9 =>
 let u6:=(eqS p0.2.2.2.1 [])
 let u7:=(cond u6 (eqI p0.2.2.2.2.2.2.1 0) false)
 let u8:=(cond u7 y7.2.1.1 false)
 some ((),(((cond u8 y9.2.1.1 false),()),()))
 ) (
 let u5:=(eqS p0.2.2.2.1 [])
 let u6:=(cond u5 (eqI p0.2.2.2.2.2.2.1 0) false)
 let u7:=(cond u6 y7.2.1.1 false)
 let u8:=(eqS p0.2.2.1 [])
 some ((),(((cond u7 u8 false),()),()))
 )
 ) (
 let u3:=(g231 p0.1 103)
 Option.bind u3 fun y7 =>
 cond y7.2.1.1 (
 let u4:=(g106 p0.2.2.1)
 Option.bind u4 fun y8 =>
 let u5:=(eqS p0.2.2.2.1 [])
 let u6:=(cond u5 (eqI p0.2.2.2.2.2.2.1 0) false)
 let u7:=(cond u6 (eqI p0.2.2.2.2.2.2.2.1 0) false)
 some ((),(((cond u7 y8.2.1.1 false),()),()))
 ) (
 let u4:=(eqS p0.2.2.2.1 [])
 let u5:=(cond u4 (eqI p0.2.2.2.2.2.2.1 0) false)
 let u6:=(cond u5 (eqI p0.2.2.2.2.2.2.2.1 0) false)
 let u7:=(eqS p0.2.2.1 [])
 some ((),(((cond u6 u7 false),()),()))
 )
 )
 )
 )
 )
 )
 )
def s181:Su:=⟨[.c true [.int .i64,.str,.str,.str,.str,.str,.int .i64,.int .i64]],[(false,[.bool])],true,.inl fun x=>g181 x.1⟩
theorem ok181:SuOK Tryz.prog 181 s181 :=
 fq (ac ok46 (ac ok106 (ac ok192 (ac ok194 (ac ok178 (ac ok231 an)))))) Tryz.f181
def r254_0 (t0:List UInt8) (t1:Int):Rd Y11 Unit :=
 let u1:=(lenI t0)
 cond (ltI 0 u1) (
 let u2:=(subW .i64 u1 1)
 cond (inB u2 t0) (
 cond (eqI (bytI t0 u2) t1) (
 cond (cutB 0 u2 t0) (
 some (.inl ((sub t0 0 u2),t1,()))
 ) none
 ) (
 some (.inr (.inl (t0,t1,())))
 )
 ) none
 ) (
 some (.inr (.inl (t0,t1,())))
 )
def l254_0:=cu2 (loopF (un2 r254_0))
def g254 (p0:List UInt8) (p1:Int):Option Y28 :=
 (l254_0 p0 p1).bind (Sum.elim (fun y1 =>
 some ((),((y1.1,()),()))
 ) (fun y1 =>
 none
 ))
def s254:Su:=⟨[.c false [.str],.c false kk5],[(false,[.str])],true,.inl fun x=>g254 x.1.1 x.2.1.1⟩
theorem ok254:SuOK Tryz.prog 254 s254 :=
 fl an [] [(0,⟨[.d 0 (.str),.d 1 (.int .u8)],loopF (un2 r254_0)⟩)] [] Tryz.f254 (lp [0] (sc lp0 sn))
def g230 (p0 p1:List UInt8):Option Y28 :=
 cond (cond (eqS p0 []) true (eqS p1 [])) (
 some ((),((p0,()),()))
 ) (
 cond (eqI (lenI p1) 1) (
 cond (inB 0 p1) (
 let u1:=(bytI p1 0)
 cond (ltI u1 128) (
 cond (inB 0 p1) (
 (g254 p0 u1).bind fun y1 =>
 some ((),(y1.2.1,()))
 ) none
 ) (
 none
 )
 ) none
 ) (
 none
 )
 )
def s230:Su:=⟨[.c false [.str],.c false [.str]],[(false,[.str])],true,.inl fun x=>g230 x.1.1 x.2.1.1⟩
theorem ok230:SuOK Tryz.prog 230 s230 :=
 fq (ac ok254 an) Tryz.f230
def g180 (p0:List UInt8):Option Y28 :=
 (g230 p0 [32]).bind fun y1 =>
 some ((),(y1.2.1,()))
def s180:Su:=⟨[.c false [.str]],[(false,[.str])],true,.inl fun x=>g180 x.1.1⟩
theorem ok180:SuOK Tryz.prog 180 s180 :=
 fq (ac ok230 an) Tryz.f180
def r127_0 (t41:List R3) (t42 t43:Int) (b1:(List UInt8)×(List R178)×Unit) (b2 b6:Int×(List UInt8)×(List UInt8)×(List UInt8)×(List UInt8)×(List UInt8)×Int×Int×Unit):Rd ((List R3)×Int×Int×Y19×Y51×Y51×Unit) (Int×Y51×Unit) :=
 cond (ltI t43 t42) (
 cond (inB t43 t41) (
 (g174 b1 (gt d3 t41 t43).1).bind fun y1 =>
 cond (!y1.2.2.1.1) (
 some (.inr (.inr (1,(0,[],[],[],[],[],0,0,()),())))
 ) (
 cond (eqI (gt d3 t41 t43).1 2) (
 let u1:=(addW .i64 t43 1)
 some (.inl (t41,t42,u1,b1,b2,(b6.1,y1.2.1.1,b6.2.2.1,b6.2.2.2.1,b6.2.2.2.2.1,b6.2.2.2.2.2.1,b6.2.2.2.2.2.2.1,b6.2.2.2.2.2.2.2.1,()),()))
 ) (
 cond (eqI (gt d3 t41 t43).1 4) (
 let u1:=(g179 y1.2.1.1)
 Option.bind u1 fun y2 =>
 let u2:=(addW .i64 t43 1)
 some (.inl (t41,t42,u2,b1,b2,(b6.1,b6.2.1,b6.2.2.1,b6.2.2.2.1,b6.2.2.2.2.1,b6.2.2.2.2.2.1,y2.2.1.1,b6.2.2.2.2.2.2.2.1,()),()))
 ) (
 cond (eqI (gt d3 t41 t43).1 11) (
 let u1:=(addW .i64 t43 1)
 some (.inl (t41,t42,u1,b1,b2,(b6.1,b6.2.1,b6.2.2.1,b6.2.2.2.1,y1.2.1.1,b6.2.2.2.2.2.1,b6.2.2.2.2.2.2.1,b6.2.2.2.2.2.2.2.1,()),()))
 ) (
 cond (eqI (gt d3 t41 t43).1 14) (
 let u1:=(g179 y1.2.1.1)
 Option.bind u1 fun y2 =>
 let u2:=(addW .i64 t43 1)
 some (.inl (t41,t42,u2,b1,b2,(b6.1,b6.2.1,b6.2.2.1,b6.2.2.2.1,b6.2.2.2.2.1,b6.2.2.2.2.2.1,b6.2.2.2.2.2.2.1,y2.2.1.1,()),()))
 ) (
 cond (eqI (gt d3 t41 t43).1 38) (
 (g180 y1.2.1.1).bind fun y2 =>
 let u1:=(addW .i64 t43 1)
 some (.inl (t41,t42,u1,b1,b2,(b6.1,b6.2.1,b6.2.2.1,y2.2.1.1,b6.2.2.2.2.1,b6.2.2.2.2.2.1,b6.2.2.2.2.2.2.1,b6.2.2.2.2.2.2.2.1,()),()))
 ) (
 cond (eqI (gt d3 t41 t43).1 103) (
 let u1:=(addW .i64 t43 1)
 some (.inl (t41,t42,u1,b1,b2,(b6.1,b6.2.1,y1.2.1.1,b6.2.2.2.1,b6.2.2.2.2.1,b6.2.2.2.2.2.1,b6.2.2.2.2.2.2.1,b6.2.2.2.2.2.2.2.1,()),()))
 ) (
 let u1:=(addW .i64 t43 1)
 some (.inl (t41,t42,u1,b1,b2,b6,()))
 )
 )
 )
 )
 )
 )
 )
 ) none
 ) (
 some (.inr (.inl (t41,t42,t43,b1,b2,b6,())))
 )
def l127_0:=cu6 (loopF (un6 r127_0))
def g127 (p0:(List UInt8)×(List R178)×Unit):Option (Unit×(Y51×Y0×Unit)) :=
 (g172 p0).bind fun y1 =>
 cond (!y1.2.1.1) (
 some ((),((0,[],[],[],[],[],0,0,()),(1,()),()))
 ) (
 (g173 p0.1).bind fun y2 =>
 cond (!y2.2.1.1) (
 some ((),((0,[],[],[],[],[],0,0,()),(2,()),()))
 ) (
 (g174 p0 3).bind fun y3 =>
 cond (!y3.2.2.1.1) (
 some ((),((0,[],[],[],[],[],0,0,()),(1,()),()))
 ) (
 (g176).bind fun y4 =>
 (g175 y4.2.1.1 p0 y3.2.1).bind fun y5 =>
 let u1:=(addW .i64 1 y5.2.1.1)
 (g178 u1).bind fun y6 =>
 cond (fitB 8 [(2,()),(11,())] y6.2.1.2.2.2.1) (
 let u2:=(apL [(2,()),(11,())] y6.2.1.2.2.2.1)
 (l127_0 u2 (lenI u2) 0 p0 (0,[],[],[],[],[],0,0,()) (u1,[],[],[],[],p0.1,0,0,())).bind (Sum.elim (fun y7 =>
 (g181 y7.2.2.2.2.2.1).bind fun y8 =>
 cond (!y8.2.1.1) (
 some ((),((0,[],[],[],[],[],0,0,()),(1,()),()))
 ) (
 some ((),(y7.2.2.2.2.2.1,(0,()),()))
 )
 ) (fun y7 =>
 some ((),(y7.2.1,(y7.1,()),()))
 ))
 ) none
 )
 )
 )
def s127:Su:=⟨[.c true [.str,.sl 178 kk178]],[(true,[.int .i64,.str,.str,.str,.str,.str,.int .i64,.int .i64]),(false,kk3)],true,.inl fun x=>g127 x.1⟩
theorem ok127:SuOK Tryz.prog 127 s127 :=
 fl (ac ok179 (ac ok172 (ac ok173 (ac ok174 (ac ok176 (ac ok175 (ac ok178 (ac ok181 (ac ok180 an))))))))) [.d 3 (.int .i64),.box 2 [(false,.int .i64),(false,.str),(false,.str),(false,.str),(false,.str),(false,.str),(false,.int .i64),(false,.int .i64)]] [(0,⟨[.own 41 (.sl 3 kk3),.d 42 (.int .i64),.d 43 (.int .i64),.box 1 [(false,.str),(false,.sl 178 kk178)],.box 2 [(false,.int .i64),(false,.str),(false,.str),(false,.str),(false,.str),(false,.str),(false,.int .i64),(false,.int .i64)],.box 6 [(false,.int .i64),(false,.str),(false,.str),(false,.str),(false,.str),(false,.str),(false,.int .i64),(false,.int .i64)]],loopF (un6 r127_0)⟩)] [] Tryz.f127 (lp [0] (sc lp0 sn))
def g222 (p0:Int):Option Y15 :=
 cond (leI 4294967296 p0) (
 let u1:=(shrW .u64 p0 32)
 cond (leI 65536 u1) (
 let u2:=(shrW .u64 u1 16)
 cond (leI 256 u2) (
 let u3:=(cvtW .u8 (shrW .u64 u2 8))
 cond (inB u3 tab0) (
 let u4:=(addW .i64 32 16)
 some ((),(((addW .i64 (addW .i64 u4 8) (cvtW .i64 (bytI tab0 u3))),()),()))
 ) none
 ) (
 let u3:=(cvtW .u8 u2)
 cond (inB u3 tab0) (
 let u4:=(addW .i64 32 16)
 some ((),(((addW .i64 u4 (cvtW .i64 (bytI tab0 u3))),()),()))
 ) none
 )
 ) (
 cond (leI 256 u1) (
 let u2:=(cvtW .u8 (shrW .u64 u1 8))
 cond (inB u2 tab0) (
 some ((),(((addW .i64 (addW .i64 32 8) (cvtW .i64 (bytI tab0 u2))),()),()))
 ) none
 ) (
 let u2:=(cvtW .u8 u1)
 cond (inB u2 tab0) (
 some ((),(((addW .i64 32 (cvtW .i64 (bytI tab0 u2))),()),()))
 ) none
 )
 )
 ) (
 cond (leI 65536 p0) (
 let u1:=(shrW .u64 p0 16)
 cond (leI 256 u1) (
 let u2:=(cvtW .u8 (shrW .u64 u1 8))
 cond (inB u2 tab0) (
 let u3:=(addW .i64 0 16)
 some ((),(((addW .i64 (addW .i64 u3 8) (cvtW .i64 (bytI tab0 u2))),()),()))
 ) none
 ) (
 let u2:=(cvtW .u8 u1)
 cond (inB u2 tab0) (
 let u3:=(addW .i64 0 16)
 some ((),(((addW .i64 u3 (cvtW .i64 (bytI tab0 u2))),()),()))
 ) none
 )
 ) (
 cond (leI 256 p0) (
 let u1:=(cvtW .u8 (shrW .u64 p0 8))
 cond (inB u1 tab0) (
 some ((),(((addW .i64 (addW .i64 0 8) (cvtW .i64 (bytI tab0 u1))),()),()))
 ) none
 ) (
 let u1:=(cvtW .u8 p0)
 cond (inB u1 tab0) (
 some ((),(((addW .i64 0 (cvtW .i64 (bytI tab0 u1))),()),()))
 ) none
 )
 )
 )
def s222:Su:=⟨[.c false [.int .u64]],[(false,kk3)],true,.inl fun x=>g222 x.1.1⟩
theorem ok222:SuOK Tryz.prog 222 s222 :=
 fq an Tryz.f222
def g167 (p0:Int):Option Y15 :=
 (g222 p0).bind fun y1 =>
 some ((),(y1.2.1,()))
def s167:Su:=⟨[.c false [.int .u64]],[(false,kk3)],true,.inl fun x=>g167 x.1.1⟩
theorem ok167:SuOK Tryz.prog 167 s167 :=
 fq (ac ok222 an) Tryz.f167
def g261 (p0:List UInt8):Option Y17 :=
 some ((),(((!(eqS p0 p0)),()),()))
def s261:Su:=⟨[.c false [.str]],[(false,[.bool])],true,.inl fun x=>g261 x.1.1⟩
theorem ok261:SuOK Tryz.prog 261 s261 :=
 fq an Tryz.f261
def g238 (p0 p1:List UInt8):Option Y17 :=
 (g261 p0).bind fun y1 =>
 cond y1.2.1.1 (
 (g261 p1).bind fun y2 =>
 let u1:=(ltS p0 p1)
 some ((),(((cond (!y2.2.1.1) true u1),()),()))
 ) (
 let u1:=(ltS p0 p1)
 some ((),((u1,()),()))
 )
def s238:Su:=⟨[.c false [.str],.c false [.str]],[(false,[.bool])],true,.inl fun x=>g238 x.1.1 x.2.1.1⟩
theorem ok238:SuOK Tryz.prog 238 s238 :=
 fq (ac ok261 an) Tryz.f238
def r232_2 (t0:List R9) (t1 t2 t6 t7:Int):Rd ((List R9)×Int×Int×Int×Int×Unit) Unit :=
 cond (ltI t1 t7) (
 cond (inB t7 t0) (
 let u1:=(subW .i64 t7 1)
 cond (inB u1 t0) (
 let u2:=(gt d9 t0 t7)
 let u3:=(gt d9 t0 u1)
 (g238 u2.1 u3.1).bind fun y1 =>
 cond y1.2.1.1 (
 cond (inB u1 t0) (
 cond (inB t7 t0) (
 cond (inB t7 t0) (
 let u4:=(stI t0 t7 u3)
 cond (inB u1 u4) (
 some (.inl ((stI u4 u1 u2),t1,t2,t6,u1,()))
 ) none
 ) none
 ) none
 ) none
 ) (
 some (.inr (.inl (t0,t1,t2,t6,t7,())))
 )
 ) none
 ) none
 ) (
 some (.inr (.inl (t0,t1,t2,t6,t7,())))
 )
def l232_2:=cu5 (loopF (un5 r232_2))
def r232_0 (t0:List R9) (t1 t2 t6:Int):Rd ((List R9)×Int×Int×Int×Unit) Unit :=
 cond (ltI t6 t2) (
 (l232_2 t0 t1 t2 t6 t6).bind (Sum.elim (fun y1 =>
 some (.inl (y1.1,y1.2.1,y1.2.2.1,(addW .i64 y1.2.2.2.1 1),()))
 ) (fun y1 =>
 some (.inr (.inr ()))
 ))
 ) (
 some (.inr (.inl (t0,t1,t2,t6,())))
 )
def l232_0:=cu4 (loopF (un4 r232_0))
def g232 (p0:List R9) (p1 p2:Int):Option Y21 :=
 (l232_0 p0 p1 p2 (addW .i64 p1 1)).bind (Sum.elim (fun y1 =>
 some (((y1.1,()),()),())
 ) (fun y1 =>
 none
 ))
def s232:Su:=⟨[.io false [.sl 9 kk9],.c false kk3,.c false kk3],[],true,.inl fun x=>g232 x.1.1 x.2.1.1 x.2.2.1.1⟩
def sg232_2:List SE:=[.own 0 (.sl 9 kk9),.d 1 (.int .i64),.d 2 (.int .i64),.d 6 (.int .i64),.d 7 (.int .i64)]
def sg232_0:List SE:=[.own 0 (.sl 9 kk9),.d 1 (.int .i64),.d 2 (.int .i64),.d 6 (.int .i64)]
def rh232:List SE:=[]
def lo232:Nat->Option (Lo rh232)
 | 2=>some ⟨sg232_2,un5 l232_2⟩
 | 0=>some ⟨sg232_0,un4 l232_0⟩
 | _=>none
def ga232:List (Nat×Su):=[(238,s238)]
def EL232:En:=⟨49,tt,gaOf ga232,rh232,lo232,[0],fun _=>none⟩
def rg232:Nat->Option (St->Tr St)
 | 6=>some (hoist3T EL232 (opsOf (regOf 6 (bodyOf Tryz.f232))) [7] [(15,2),(15,3),(15,4)])
 | _=>none
def E232:En:=⟨49,tt,gaOf ga232,rh232,lo232,[0],rg232⟩
theorem t232_2 (x:SigT sg232_2):(roundT E232 2 sg232_2 (loopOf 2 (bodyOf Tryz.f232)) x).run=un5 r232_2 x:=by kernel_rfl
theorem t232_0 (x:SigT sg232_0):(roundT E232 0 sg232_0 (loopOf 0 (bodyOf Tryz.f232)) x).run=un4 r232_0 x:=by kernel_rfl
theorem t232 (x:PT s232.ps):(fnT E232 (bodyOf Tryz.f232) Tryz.f232.results.toList s232.ps s232.rs true x).run=g232 x.1.1 x.2.1.1 x.2.2.1.1:=by kernel_rfl
theorem hga232:GAok Tryz.prog E232:=gaok_of (l:=ga232) ⟨ok238,trivial⟩
theorem hgaL232_6:GAok Tryz.prog EL232:=gaok_of (l:=ga232) ⟨ok238,trivial⟩
theorem R232_6:RegSem Tryz.prog E232 (regOf 6 (bodyOf Tryz.f232)) (hoist3T EL232 (opsOf (regOf 6 (bodyOf Tryz.f232))) [7] [(15,2),(15,3),(15,4)]) :=
 regSem_rg rfl rfl (hoist3_of (E:=EL232) (hTT hT) hgaL232_6 hmix (c:=(regOf 6 (bodyOf Tryz.f232))) (id:=6) (by kernel_rfl))
theorem L232_2:LoopSem Tryz.prog E232 2 (.loop (loopOf 2 (bodyOf Tryz.f232))) ⟨sg232_2,un5 l232_2⟩ :=
 sem_of (hTT hT) hga232 hmix (step:=fun (x:SigT sg232_2)=>r232_2 x.1 x.2.1 x.2.2.1 x.2.2.2.1 x.2.2.2.2.1) t232_2 (loopsOK_reg [] (by kernel_rfl) trivial [(6,regOf 6 (bodyOf Tryz.f232))] (by kernel_rfl) ⟨regL rfl R232_6,trivial⟩)
theorem L232_0:LoopSem Tryz.prog E232 0 (.loop (loopOf 0 (bodyOf Tryz.f232))) ⟨sg232_0,un4 l232_0⟩ :=
 sem_of (hTT hT) hga232 hmix (step:=fun (x:SigT sg232_0)=>r232_0 x.1 x.2.1 x.2.2.1 x.2.2.2.1) t232_0 (loopsOK_reg [(2,.loop (loopOf 2 (bodyOf Tryz.f232)))] (by kernel_rfl) ⟨semL rfl L232_2,trivial⟩ [] (by kernel_rfl) trivial)
theorem ok232:SuOK Tryz.prog 232 s232 :=
 fn_ok (E:=E232) (hTT hT) hga232 hmix (fn:=Tryz.f232) (c:=(bodyOf Tryz.f232)) (by kernel_rfl) (by kernel_rfl) (by kernel_rfl) rfl (loopsOK_reg [(0,.loop (loopOf 0 (bodyOf Tryz.f232)))] (by kernel_rfl) ⟨semL rfl L232_0,trivial⟩ [] (by kernel_rfl) trivial) fun x y h=>⟨y.1,fun _=>rfl,(t232 x).trans h⟩
def g182 (p0:List R9) (p1 p2 p3:Int):Option Y21 :=
 cond (leI (subW .i64 p2 p1) 12) (
 (g232 p0 p1 p2).bind fun y1 =>
 some ((y1.1.1,()),())
 ) (
 cond (eqI p3 0) (
 none
 ) (
 none
 )
 )
def s182:Su:=⟨[.io false [.sl 9 kk9],.c false kk3,.c false kk3,.c false kk3],[],true,.inl fun x=>g182 x.1.1 x.2.1.1 x.2.2.1.1 x.2.2.2.1.1⟩
theorem ok182:SuOK Tryz.prog 182 s182 :=
 fl (ac ok232 an) [] [] [0] Tryz.f182 lp0
def g128 (p0:List R9):Option Y21 :=
 let u1:=(lenI p0)
 (g167 (cvtW .u64 u1)).bind fun y1 =>
 (g182 p0 0 u1 y1.2.1.1).bind fun y2 =>
 some ((y2.1.1,()),())
def s128:Su:=⟨[.io false [.sl 9 kk9]],[],true,.inl fun x=>g128 x.1.1⟩
theorem ok128:SuOK Tryz.prog 128 s128 :=
 fl (ac ok167 (ac ok182 an)) [] [] [0] Tryz.f128 lp0
def r129_0 (t0:List R9) (t3:Int):Rd ((List R9)×Int×Unit) ((List R9)×Unit) :=
 let u1:=(lenI t0)
 cond (ltI t3 u1) (
 cond (inB t3 t0) (
 let u2:=(subW .i64 t3 1)
 cond (inB u2 t0) (
 cond (eqS (gt d9 t0 t3).1 (gt d9 t0 u2).1) (
 let u3:=(cutB t3 u1 t0)
 cond u3 (
 let u4:=(sub t0 t3 u1)
 cond (ltI 1 (lenI u4)) (
 cond (inB 1 u4) (
 let u5:=(subW .i64 1 1)
 cond (inB u5 u4) (
 cond (!(eqS (gt d9 u4 1).1 (gt d9 u4 u5).1)) (
 cond (inB 1 u4) (
 cond (inB t3 t0) (
 none
 ) none
 ) none
 ) (
 none
 )
 ) none
 ) none
 ) (
 cond u3 (
 let u5:=(clrI d9 t0 t3)
 cond (cutB 0 t3 u5) (
 some (.inr (.inr ((tkI u5 t3),())))
 ) none
 ) none
 )
 ) none
 ) (
 some (.inl (t0,(addW .i64 t3 1),()))
 )
 ) none
 ) none
 ) (
 some (.inr (.inl (t0,t3,())))
 )
def l129_0:=cu2 (loopF (un2 r129_0))
def g129 (p0:List R9):Option Y23 :=
 cond (ltI (lenI p0) 2) (
 some ((),((p0,()),()))
 ) (
 (l129_0 p0 1).bind (Sum.elim (fun y1 =>
 some ((),((y1.1,()),()))
 ) (fun y1 =>
 some ((),(y1,()))
 ))
 )
def s129:Su:=⟨[.mv (.sl 9 kk9)],[(false,[.sl 9 kk9])],true,.inl fun x=>g129 x.1⟩
def sg129_0:List SE:=[.own 0 (.sl 9 kk9),.d 3 (.int .i64)]
def rh129:List SE:=[.own 2 (.sl 9 kk9)]
def lo129:Nat->Option (Lo rh129)
 | 0=>some ⟨sg129_0,un2 l129_0⟩
 | _=>none
def ga129:List (Nat×Su):=[]
def rg129:Nat->Option (St->Tr St)
 | 14=>some (clearF 54 55 56 0 3 kk9)
 | _=>none
def E129:En:=⟨61,tt,gaOf ga129,rh129,lo129,[],rg129⟩
theorem t129_0 (x:SigT sg129_0):(roundT E129 0 sg129_0 (loopOf 0 (bodyOf Tryz.f129)) x).run=un2 r129_0 x:=by kernel_rfl
theorem t129 (x:PT s129.ps):(fnT E129 (bodyOf Tryz.f129) Tryz.f129.results.toList s129.ps s129.rs true x).run=g129 x.1:=by kernel_rfl
theorem hga129:GAok Tryz.prog E129:=gaok_of (l:=ga129) trivial
theorem R129_14:RegSem Tryz.prog E129 (regOf 14 (bodyOf Tryz.f129)) (clearF 54 55 56 0 3 kk9) :=
 clear_sem (E:=E129) (hTT hT) (rid:=14) (ta:=54) (tb:=55) (tc:=56) (t0:=0) (tI:=3) (ty:=111) (o1:=opAt (regOf 14 (bodyOf Tryz.f129)) 0) (o2:=opAt (regOf 14 (bodyOf Tryz.f129)) 1) (o3:=opAt (regOf 14 (bodyOf Tryz.f129)) 2) (o4:=opAt (regOf 14 (bodyOf Tryz.f129)) 3) (c:=callOf (opAt (regOf 14 (bodyOf Tryz.f129)) 3)) (te:=⟨false,kk9,0,16,[]⟩)
  (by kernel_rfl) (by kernel_rfl) (by kernel_rfl) (by kernel_rfl) (by kernel_rfl) (by kernel_rfl) (by kernel_rfl) (by kernel_rfl) (by kernel_rfl) (by kernel_rfl) (by kernel_rfl) (by kernel_rfl) (by kernel_rfl) (by kernel_rfl) (by kernel_rfl) (by kernel_rfl) (by kernel_rfl) (by kernel_rfl) (by kernel_rfl) (by kernel_rfl) (by kernel_rfl)
theorem L129_0:LoopSem Tryz.prog E129 0 (.loop (loopOf 0 (bodyOf Tryz.f129))) ⟨sg129_0,un2 l129_0⟩ :=
 sem_of (hTT hT) hga129 hmix (step:=fun (x:SigT sg129_0)=>r129_0 x.1 x.2.1) t129_0 (loopsOK_reg [] (by kernel_rfl) trivial [(14,regOf 14 (bodyOf Tryz.f129))] (by kernel_rfl) ⟨regL rfl R129_14,trivial⟩)
theorem ok129:SuOK Tryz.prog 129 s129 :=
 fn_ok (E:=E129) (hTT hT) hga129 hmix (fn:=Tryz.f129) (c:=(bodyOf Tryz.f129)) (by kernel_rfl) (by kernel_rfl) (by kernel_rfl) rfl (loopsOK_reg [(0,.loop (loopOf 0 (bodyOf Tryz.f129)))] (by kernel_rfl) ⟨semL rfl L129_0,trivial⟩ [] (by kernel_rfl) trivial) fun x y h=>⟨y.1,fun _=>rfl,(t129 x).trans h⟩
def g95 (p0:List R5):Option Y23 :=
 (g126 p0).bind fun y1 =>
 (g127 y1.2.1).bind fun y2 =>
 cond (cond (!(eqI y1.2.2.1.1 0)) true (!(eqI y2.2.2.1.1 0))) (
 some ((),(([],()),()))
 ) (
 cond (eqI y2.2.1.1 6) (
 cond (fitB 16 [(y2.2.1.2.1,())] [(y2.2.1.2.2.1,())]) (
 (g128 (apL [(y2.2.1.2.1,())] [(y2.2.1.2.2.1,())])).bind fun y3 =>
 let u1:=(g129 y3.1.1.1)
 Option.bind u1 fun y4 =>
 some ((),(y4.2.1,()))
 ) none
 ) (
 (g128 [(y2.2.1.2.1,())]).bind fun y3 =>
 let u1:=(g129 y3.1.1.1)
 Option.bind u1 fun y4 =>
 some ((),(y4.2.1,()))
 )
 )
def s95:Su:=⟨[.c false [.sl 5 kk5]],[(false,[.sl 9 kk9])],true,.inl fun x=>g95 x.1.1⟩
theorem ok95:SuOK Tryz.prog 95 s95 :=
 fq (ac ok126 (ac ok127 (ac ok128 (ac ok129 an)))) Tryz.f95
def g249 (p0:Int):Option Y17 :=
 some ((),(((!(eqI p0 p0)),()),()))
def s249:Su:=⟨[.c false kk3],[(false,[.bool])],true,.inl fun x=>g249 x.1.1⟩
theorem ok249:SuOK Tryz.prog 249 s249 :=
 fq an Tryz.f249
def g218 (p0 p1:Int):Option Y17 :=
 (g249 p0).bind fun y1 =>
 cond y1.2.1.1 (
 (g249 p1).bind fun y2 =>
 some ((),(((cond (!y2.2.1.1) true (ltI p0 p1)),()),()))
 ) (
 some ((),(((ltI p0 p1),()),()))
 )
def s218:Su:=⟨[.c false kk3,.c false kk3],[(false,[.bool])],true,.inl fun x=>g218 x.1.1 x.2.1.1⟩
theorem ok218:SuOK Tryz.prog 218 s218 :=
 fq (ac ok249 an) Tryz.f218
def r212_2 (t0:List R3) (t1 t2 t6 t7:Int):Rd ((List R3)×Int×Int×Int×Int×Unit) Unit :=
 cond (ltI t1 t7) (
 cond (inB t7 t0) (
 let u1:=(subW .i64 t7 1)
 cond (inB u1 t0) (
 let u2:=(gt d3 t0 t7)
 let u3:=(gt d3 t0 u1)
 (g218 u2.1 u3.1).bind fun y1 =>
 cond y1.2.1.1 (
 cond (inB u1 t0) (
 cond (inB t7 t0) (
 cond (inB t7 t0) (
 let u4:=(stI t0 t7 u3)
 cond (inB u1 u4) (
 some (.inl ((stI u4 u1 u2),t1,t2,t6,u1,()))
 ) none
 ) none
 ) none
 ) none
 ) (
 some (.inr (.inl (t0,t1,t2,t6,t7,())))
 )
 ) none
 ) none
 ) (
 some (.inr (.inl (t0,t1,t2,t6,t7,())))
 )
def l212_2:=cu5 (loopF (un5 r212_2))
def r212_0 (t0:List R3) (t1 t2 t6:Int):Rd ((List R3)×Int×Int×Int×Unit) Unit :=
 cond (ltI t6 t2) (
 (l212_2 t0 t1 t2 t6 t6).bind (Sum.elim (fun y1 =>
 some (.inl (y1.1,y1.2.1,y1.2.2.1,(addW .i64 y1.2.2.2.1 1),()))
 ) (fun y1 =>
 some (.inr (.inr ()))
 ))
 ) (
 some (.inr (.inl (t0,t1,t2,t6,())))
 )
def l212_0:=cu4 (loopF (un4 r212_0))
def g212 (p0:List R3) (p1 p2:Int):Option Y20 :=
 (l212_0 p0 p1 p2 (addW .i64 p1 1)).bind (Sum.elim (fun y1 =>
 some (((y1.1,()),()),())
 ) (fun y1 =>
 none
 ))
def s212:Su:=⟨[.io false [.sl 3 kk3],.c false kk3,.c false kk3],[],true,.inl fun x=>g212 x.1.1 x.2.1.1 x.2.2.1.1⟩
def sg212_2:List SE:=[.own 0 (.sl 3 kk3),.d 1 (.int .i64),.d 2 (.int .i64),.d 6 (.int .i64),.d 7 (.int .i64)]
def sg212_0:List SE:=[.own 0 (.sl 3 kk3),.d 1 (.int .i64),.d 2 (.int .i64),.d 6 (.int .i64)]
def rh212:List SE:=[]
def lo212:Nat->Option (Lo rh212)
 | 2=>some ⟨sg212_2,un5 l212_2⟩
 | 0=>some ⟨sg212_0,un4 l212_0⟩
 | _=>none
def ga212:List (Nat×Su):=[(218,s218)]
def EL212:En:=⟨49,tt,gaOf ga212,rh212,lo212,[0],fun _=>none⟩
def rg212:Nat->Option (St->Tr St)
 | 6=>some (hoist3T EL212 (opsOf (regOf 6 (bodyOf Tryz.f212))) [7] [(15,2),(15,3),(15,4)])
 | _=>none
def E212:En:=⟨49,tt,gaOf ga212,rh212,lo212,[0],rg212⟩
theorem t212_2 (x:SigT sg212_2):(roundT E212 2 sg212_2 (loopOf 2 (bodyOf Tryz.f212)) x).run=un5 r212_2 x:=by kernel_rfl
theorem t212_0 (x:SigT sg212_0):(roundT E212 0 sg212_0 (loopOf 0 (bodyOf Tryz.f212)) x).run=un4 r212_0 x:=by kernel_rfl
theorem t212 (x:PT s212.ps):(fnT E212 (bodyOf Tryz.f212) Tryz.f212.results.toList s212.ps s212.rs true x).run=g212 x.1.1 x.2.1.1 x.2.2.1.1:=by kernel_rfl
theorem hga212:GAok Tryz.prog E212:=gaok_of (l:=ga212) ⟨ok218,trivial⟩
theorem hgaL212_6:GAok Tryz.prog EL212:=gaok_of (l:=ga212) ⟨ok218,trivial⟩
theorem R212_6:RegSem Tryz.prog E212 (regOf 6 (bodyOf Tryz.f212)) (hoist3T EL212 (opsOf (regOf 6 (bodyOf Tryz.f212))) [7] [(15,2),(15,3),(15,4)]) :=
 regSem_rg rfl rfl (hoist3_of (E:=EL212) (hTT hT) hgaL212_6 hmix (c:=(regOf 6 (bodyOf Tryz.f212))) (id:=6) (by kernel_rfl))
theorem L212_2:LoopSem Tryz.prog E212 2 (.loop (loopOf 2 (bodyOf Tryz.f212))) ⟨sg212_2,un5 l212_2⟩ :=
 sem_of (hTT hT) hga212 hmix (step:=fun (x:SigT sg212_2)=>r212_2 x.1 x.2.1 x.2.2.1 x.2.2.2.1 x.2.2.2.2.1) t212_2 (loopsOK_reg [] (by kernel_rfl) trivial [(6,regOf 6 (bodyOf Tryz.f212))] (by kernel_rfl) ⟨regL rfl R212_6,trivial⟩)
theorem L212_0:LoopSem Tryz.prog E212 0 (.loop (loopOf 0 (bodyOf Tryz.f212))) ⟨sg212_0,un4 l212_0⟩ :=
 sem_of (hTT hT) hga212 hmix (step:=fun (x:SigT sg212_0)=>r212_0 x.1 x.2.1 x.2.2.1 x.2.2.2.1) t212_0 (loopsOK_reg [(2,.loop (loopOf 2 (bodyOf Tryz.f212)))] (by kernel_rfl) ⟨semL rfl L212_2,trivial⟩ [] (by kernel_rfl) trivial)
theorem ok212:SuOK Tryz.prog 212 s212 :=
 fn_ok (E:=E212) (hTT hT) hga212 hmix (fn:=Tryz.f212) (c:=(bodyOf Tryz.f212)) (by kernel_rfl) (by kernel_rfl) (by kernel_rfl) rfl (loopsOK_reg [(0,.loop (loopOf 0 (bodyOf Tryz.f212)))] (by kernel_rfl) ⟨semL rfl L212_0,trivial⟩ [] (by kernel_rfl) trivial) fun x y h=>⟨y.1,fun _=>rfl,(t212 x).trans h⟩
def g166 (p0:List R3) (p1 p2 p3:Int):Option Y20 :=
 cond (leI (subW .i64 p2 p1) 12) (
 (g212 p0 p1 p2).bind fun y1 =>
 some ((y1.1.1,()),())
 ) (
 cond (eqI p3 0) (
 none
 ) (
 none
 )
 )
def s166:Su:=⟨[.io false [.sl 3 kk3],.c false kk3,.c false kk3,.c false kk3],[],true,.inl fun x=>g166 x.1.1 x.2.1.1 x.2.2.1.1 x.2.2.2.1.1⟩
theorem ok166:SuOK Tryz.prog 166 s166 :=
 fl (ac ok212 an) [] [] [0] Tryz.f166 lp0
def g124 (p0:List R3):Option Y20 :=
 let u1:=(lenI p0)
 (g167 (cvtW .u64 u1)).bind fun y1 =>
 (g166 p0 0 u1 y1.2.1.1).bind fun y2 =>
 some ((y2.1.1,()),())
def s124:Su:=⟨[.io false [.sl 3 kk3]],[],true,.inl fun x=>g124 x.1.1⟩
theorem ok124:SuOK Tryz.prog 124 s124 :=
 fl (ac ok167 (ac ok166 an)) [] [] [0] Tryz.f124 lp0
def r125_0 (t0:List R3) (t3:Int):Rd ((List R3)×Int×Unit) R53 :=
 let u1:=(lenI t0)
 cond (ltI t3 u1) (
 cond (inB t3 t0) (
 let u2:=(subW .i64 t3 1)
 cond (inB u2 t0) (
 cond (eqI (gt d3 t0 t3).1 (gt d3 t0 u2).1) (
 let u3:=(cutB t3 u1 t0)
 cond u3 (
 let u4:=(sub t0 t3 u1)
 cond (ltI 1 (lenI u4)) (
 cond (inB 1 u4) (
 let u5:=(subW .i64 1 1)
 cond (inB u5 u4) (
 cond (!(eqI (gt d3 u4 1).1 (gt d3 u4 u5).1)) (
 cond (inB 1 u4) (
 cond (inB t3 t0) (
 none
 ) none
 ) none
 ) (
 none
 )
 ) none
 ) none
 ) (
 cond u3 (
 let u5:=(clrI d3 t0 t3)
 cond (cutB 0 t3 u5) (
 some (.inr (.inr ((tkI u5 t3),())))
 ) none
 ) none
 )
 ) none
 ) (
 some (.inl (t0,(addW .i64 t3 1),()))
 )
 ) none
 ) none
 ) (
 some (.inr (.inl (t0,t3,())))
 )
def l125_0:=cu2 (loopF (un2 r125_0))
def g125 (p0:List R3):Option Y22 :=
 cond (ltI (lenI p0) 2) (
 some ((),((p0,()),()))
 ) (
 (l125_0 p0 1).bind (Sum.elim (fun y1 =>
 some ((),((y1.1,()),()))
 ) (fun y1 =>
 some ((),(y1,()))
 ))
 )
def s125:Su:=⟨[.mv (.sl 3 kk3)],[(false,kk53)],true,.inl fun x=>g125 x.1⟩
def sg125_0:List SE:=[.own 0 (.sl 3 kk3),.d 3 (.int .i64)]
def rh125:List SE:=[.own 2 (.sl 3 kk3)]
def lo125:Nat->Option (Lo rh125)
 | 0=>some ⟨sg125_0,un2 l125_0⟩
 | _=>none
def ga125:List (Nat×Su):=[]
def rg125:Nat->Option (St->Tr St)
 | 14=>some (clearF 54 55 56 0 3 kk3)
 | _=>none
def E125:En:=⟨61,tt,gaOf ga125,rh125,lo125,[],rg125⟩
theorem t125_0 (x:SigT sg125_0):(roundT E125 0 sg125_0 (loopOf 0 (bodyOf Tryz.f125)) x).run=un2 r125_0 x:=by kernel_rfl
theorem t125 (x:PT s125.ps):(fnT E125 (bodyOf Tryz.f125) Tryz.f125.results.toList s125.ps s125.rs true x).run=g125 x.1:=by kernel_rfl
theorem hga125:GAok Tryz.prog E125:=gaok_of (l:=ga125) trivial
theorem R125_14:RegSem Tryz.prog E125 (regOf 14 (bodyOf Tryz.f125)) (clearF 54 55 56 0 3 kk3) :=
 clear_sem (E:=E125) (hTT hT) (rid:=14) (ta:=54) (tb:=55) (tc:=56) (t0:=0) (tI:=3) (ty:=53) (o1:=opAt (regOf 14 (bodyOf Tryz.f125)) 0) (o2:=opAt (regOf 14 (bodyOf Tryz.f125)) 1) (o3:=opAt (regOf 14 (bodyOf Tryz.f125)) 2) (o4:=opAt (regOf 14 (bodyOf Tryz.f125)) 3) (c:=callOf (opAt (regOf 14 (bodyOf Tryz.f125)) 3)) (te:=⟨false,kk3,0,8,[]⟩)
  (by kernel_rfl) (by kernel_rfl) (by kernel_rfl) (by kernel_rfl) (by kernel_rfl) (by kernel_rfl) (by kernel_rfl) (by kernel_rfl) (by kernel_rfl) (by kernel_rfl) (by kernel_rfl) (by kernel_rfl) (by kernel_rfl) (by kernel_rfl) (by kernel_rfl) (by kernel_rfl) (by kernel_rfl) (by kernel_rfl) (by kernel_rfl) (by kernel_rfl) (by kernel_rfl)
theorem L125_0:LoopSem Tryz.prog E125 0 (.loop (loopOf 0 (bodyOf Tryz.f125))) ⟨sg125_0,un2 l125_0⟩ :=
 sem_of (hTT hT) hga125 hmix (step:=fun (x:SigT sg125_0)=>r125_0 x.1 x.2.1) t125_0 (loopsOK_reg [] (by kernel_rfl) trivial [(14,regOf 14 (bodyOf Tryz.f125))] (by kernel_rfl) ⟨regL rfl R125_14,trivial⟩)
theorem ok125:SuOK Tryz.prog 125 s125 :=
 fn_ok (E:=E125) (hTT hT) hga125 hmix (fn:=Tryz.f125) (c:=(bodyOf Tryz.f125)) (by kernel_rfl) (by kernel_rfl) (by kernel_rfl) rfl (loopsOK_reg [(0,.loop (loopOf 0 (bodyOf Tryz.f125)))] (by kernel_rfl) ⟨semL rfl L125_0,trivial⟩ [] (by kernel_rfl) trivial) fun x y h=>⟨y.1,fun _=>rfl,(t125 x).trans h⟩
def r94_0 (t1:Int) (t5:List R3) (t9:List R9) (t10 t11:Int):Rd (Int×(List R3)×(List R9)×Int×Int×Unit) Unit :=
 cond (ltI t11 t10) (
 cond (inB t11 t9) (
 (g67 (gt d9 t9 t11).1 t1).bind fun y1 =>
 cond (fitB 8 t5 [y1.2.1]) (
 some (.inl (t1,(apL t5 [y1.2.1]),t9,t10,(addW .i64 t11 1),()))
 ) none
 ) none
 ) (
 some (.inr (.inl (t1,t5,t9,t10,t11,())))
 )
def l94_0:=cu5 (loopF (un5 r94_0))
def g94 (p0:List R9) (p1:Int):Option Y22 :=
 (l94_0 p1 [] p0 (lenI p0) 0).bind (Sum.elim (fun y1 =>
 (g124 y1.2.1).bind fun y2 =>
 (g125 y2.1.1.1).bind fun y3 =>
 some ((),(y3.2.1,()))
 ) (fun y1 =>
 none
 ))
def s94:Su:=⟨[.c false [.sl 9 kk9],.c false kk3],[(false,kk53)],true,.inl fun x=>g94 x.1.1 x.2.1.1⟩
theorem ok94:SuOK Tryz.prog 94 s94 :=
 fl (ac ok67 (ac ok124 (ac ok125 an))) [] [(0,⟨[.d 1 (.int .i64),.own 5 (.sl 3 kk3),.d 9 (.sl 9 kk9),.d 10 (.int .i64),.d 11 (.int .i64)],loopF (un5 r94_0)⟩)] [] Tryz.f94 (lp [0] (sc lp0 sn))
def g71 (p0:(List R5)×Int×(List R3)×Int×Int×Int×Int×Int×(List R5)×Unit) (p1:Int):Option Y22 :=
 (g95 p0.1).bind fun y1 =>
 (g94 y1.2.1.1 p1).bind fun y2 =>
 some ((),(y2.2.1,()))
def s71:Su:=⟨[.c true kk86,.c false kk3],[(false,kk53)],true,.inl fun x=>g71 x.1 x.2.1.1⟩
theorem ok71:SuOK Tryz.prog 71 s71 :=
 fq (ac ok95 (ac ok94 an)) Tryz.f71
def r70_0 (t0 t1:List R3) (t12 t13:Int):Rd ((List R3)×(List R3)×Int×Int×Unit) Y1 :=
 cond (ltI t13 t12) (
 cond (inB t13 t0) (
 cond (inB t13 t1) (
 cond (!(eqI (gt d3 t0 t13).1 (gt d3 t1 t13).1)) (
 some (.inr (.inr (false,())))
 ) (
 some (.inl (t0,t1,t12,(addW .i64 t13 1),()))
 )
 ) none
 ) none
 ) (
 some (.inr (.inl (t0,t1,t12,t13,())))
 )
def l70_0:=cu4 (loopF (un4 r70_0))
def g70 (p0 p1:List R3):Option Y17 :=
 let u1:=(lenI p0)
 cond (!(eqI u1 (lenI p1))) (
 some ((),((false,()),()))
 ) (
 (l70_0 p0 p1 u1 0).bind (Sum.elim (fun y1 =>
 some ((),((true,()),()))
 ) (fun y1 =>
 some ((),(y1,()))
 ))
 )
def s70:Su:=⟨[.c false kk53,.c false kk53],[(false,[.bool])],true,.inl fun x=>g70 x.1.1 x.2.1.1⟩
theorem ok70:SuOK Tryz.prog 70 s70 :=
 fl an [.d 4 (.bool)] [(0,⟨[.d 0 (.sl 3 kk3),.d 1 (.sl 3 kk3),.d 12 (.int .i64),.d 13 (.int .i64)],loopF (un4 r70_0)⟩)] [] Tryz.f70 (lp [0] (sc lp0 sn))
def g39 (p0:(List R5)×Int×(List R3)×Int×Int×Int×Int×Int×(List R5)×Unit) (p1:Int):Option Y17 :=
 (g46 p1 1 5).bind fun y1 =>
 cond (!y1.2.1.1) (
 some ((),((false,()),()))
 ) (
 (g69 p0.2.1).bind fun y2 =>
 let u1:=(lenI p0.2.2.2.2.2.2.2.2.1)
 cond (cond (cond (eqS y2.2.1.1 []) true (ltI 300 (lenI p0.1))) true (ltI 200 u1)) (
 some ((),((false,()),()))
 ) (
 (g38 p0.2.2.2.2.1).bind fun y3 =>
 cond (!y3.2.1.1) (
 some ((),((false,()),()))
 ) (
 (g38 p0.2.2.2.2.2.2.2.1).bind fun y4 =>
 cond (!y4.2.1.1) (
 some ((),((false,()),()))
 ) (
 cond (eqI p0.2.1 0) (
 let u2:=(lenI p0.2.2.1)
 cond (ltI 0 u2) (
 some ((),((false,()),()))
 ) (
 cond (eqI p0.2.1 1) (
 let u3:=(g46 p0.2.2.2.1 0 (subW .i64 u2 1))
 Option.bind u3 fun y5 =>
 cond (!y5.2.1.1) (
 some ((),((false,()),()))
 ) (
 cond (ltI p0.2.1 3) (
 some ((),(((cond (cond (cond (eqI p0.2.2.2.2.2.1 (-1)) (eqI p0.2.2.2.2.2.2.1 (-1)) false) (eqI p0.2.2.2.2.2.2.2.1 0) false) (eqI u1 0) false),()),()))
 ) (
 let u4:=(g38 p0.2.2.2.2.2.1)
 Option.bind u4 fun y6 =>
 let u5:=(cond (!y6.2.1.1) true (ltI p0.2.2.2.2.2.1 p0.2.2.2.2.1))
 cond u5 (
 some ((),((false,()),()))
 ) (
 cond (eqI p0.2.1 5) (
 let u6:=(g38 p0.2.2.2.2.2.2.1)
 Option.bind u6 fun y7 =>
 some ((),(((cond y7.2.1.1 (leI p0.2.2.2.2.2.1 p0.2.2.2.2.2.2.1) false),()),()))
 ) (
 some ((),(((eqI p0.2.2.2.2.2.2.1 (-1)),()),()))
 )
 )
 )
 )
 ) (
 cond (eqI p0.2.1 2) (
 cond (!(cond (eqI p0.2.2.2.1 u2) (ltI 0 u2) false)) (
 some ((),((false,()),()))
 ) (
 cond (ltI p0.2.1 3) (
 some ((),(((cond (cond (cond (eqI p0.2.2.2.2.2.1 (-1)) (eqI p0.2.2.2.2.2.2.1 (-1)) false) (eqI p0.2.2.2.2.2.2.2.1 0) false) (eqI u1 0) false),()),()))
 ) (
 let u3:=(g38 p0.2.2.2.2.2.1)
 Option.bind u3 fun y5 =>
 let u4:=(cond (!y5.2.1.1) true (ltI p0.2.2.2.2.2.1 p0.2.2.2.2.1))
 cond u4 (
 some ((),((false,()),()))
 ) (
 cond (eqI p0.2.1 5) (
 let u5:=(g38 p0.2.2.2.2.2.2.1)
 Option.bind u5 fun y6 =>
 some ((),(((cond y6.2.1.1 (leI p0.2.2.2.2.2.1 p0.2.2.2.2.2.2.1) false),()),()))
 ) (
 some ((),(((eqI p0.2.2.2.2.2.2.1 (-1)),()),()))
 )
 )
 )
 )
 ) (
 cond (eqI p0.2.1 3) (
 let u3:=(g46 p0.2.2.2.1 1 u2)
 Option.bind u3 fun y5 =>
 cond (!y5.2.1.1) (
 some ((),((false,()),()))
 ) (
 cond (ltI p0.2.1 3) (
 some ((),(((cond (cond (cond (eqI p0.2.2.2.2.2.1 (-1)) (eqI p0.2.2.2.2.2.2.1 (-1)) false) (eqI p0.2.2.2.2.2.2.2.1 0) false) (eqI u1 0) false),()),()))
 ) (
 let u4:=(g38 p0.2.2.2.2.2.1)
 Option.bind u4 fun y6 =>
 let u5:=(cond (!y6.2.1.1) true (ltI p0.2.2.2.2.2.1 p0.2.2.2.2.1))
 cond u5 (
 some ((),((false,()),()))
 ) (
 cond (eqI p0.2.1 5) (
 let u6:=(g38 p0.2.2.2.2.2.2.1)
 Option.bind u6 fun y7 =>
 some ((),(((cond y7.2.1.1 (leI p0.2.2.2.2.2.1 p0.2.2.2.2.2.2.1) false),()),()))
 ) (
 some ((),(((eqI p0.2.2.2.2.2.2.1 (-1)),()),()))
 )
 )
 )
 )
 ) (
 cond (!(eqI p0.2.2.2.1 0)) (
 some ((),((false,()),()))
 ) (
 cond (ltI p0.2.1 3) (
 some ((),(((cond (cond (cond (eqI p0.2.2.2.2.2.1 (-1)) (eqI p0.2.2.2.2.2.2.1 (-1)) false) (eqI p0.2.2.2.2.2.2.2.1 0) false) (eqI u1 0) false),()),()))
 ) (
 let u3:=(g38 p0.2.2.2.2.2.1)
 Option.bind u3 fun y5 =>
 let u4:=(cond (!y5.2.1.1) true (ltI p0.2.2.2.2.2.1 p0.2.2.2.2.1))
 cond u4 (
 some ((),((false,()),()))
 ) (
 cond (eqI p0.2.1 5) (
 let u5:=(g38 p0.2.2.2.2.2.2.1)
 Option.bind u5 fun y6 =>
 some ((),(((cond y6.2.1.1 (leI p0.2.2.2.2.2.1 p0.2.2.2.2.2.2.1) false),()),()))
 ) (
 some ((),(((eqI p0.2.2.2.2.2.2.1 (-1)),()),()))
 )
 )
 )
 )
 )
 )
 )
 )
 ) (
 (g71 p0 p1).bind fun y5 =>
 (g70 p0.2.2.1 y5.2.1.1).bind fun y6 =>
 cond (!y6.2.1.1) (
 some ((),((false,()),()))
 ) (
 cond (eqI p0.2.1 1) (
 let u2:=(lenI p0.2.2.1)
 let u3:=(g46 p0.2.2.2.1 0 (subW .i64 u2 1))
 Option.bind u3 fun y7 =>
 cond (!y7.2.1.1) (
 some ((),((false,()),()))
 ) (
 cond (ltI p0.2.1 3) (
 some ((),(((cond (cond (cond (eqI p0.2.2.2.2.2.1 (-1)) (eqI p0.2.2.2.2.2.2.1 (-1)) false) (eqI p0.2.2.2.2.2.2.2.1 0) false) (eqI u1 0) false),()),()))
 ) (
 let u4:=(g38 p0.2.2.2.2.2.1)
 Option.bind u4 fun y8 =>
 let u5:=(cond (!y8.2.1.1) true (ltI p0.2.2.2.2.2.1 p0.2.2.2.2.1))
 cond u5 (
 some ((),((false,()),()))
 ) (
 cond (eqI p0.2.1 5) (
 let u6:=(g38 p0.2.2.2.2.2.2.1)
 Option.bind u6 fun y9 =>
 some ((),(((cond y9.2.1.1 (leI p0.2.2.2.2.2.1 p0.2.2.2.2.2.2.1) false),()),()))
 ) (
 some ((),(((eqI p0.2.2.2.2.2.2.1 (-1)),()),()))
 )
 )
 )
 )
 ) (
 cond (eqI p0.2.1 2) (
 let u2:=(lenI p0.2.2.1)
 cond (!(cond (eqI p0.2.2.2.1 u2) (ltI 0 u2) false)) (
 some ((),((false,()),()))
 ) (
 cond (ltI p0.2.1 3) (
 some ((),(((cond (cond (cond (eqI p0.2.2.2.2.2.1 (-1)) (eqI p0.2.2.2.2.2.2.1 (-1)) false) (eqI p0.2.2.2.2.2.2.2.1 0) false) (eqI u1 0) false),()),()))
 ) (
 let u3:=(g38 p0.2.2.2.2.2.1)
 Option.bind u3 fun y7 =>
 let u4:=(cond (!y7.2.1.1) true (ltI p0.2.2.2.2.2.1 p0.2.2.2.2.1))
 cond u4 (
 some ((),((false,()),()))
 ) (
 cond (eqI p0.2.1 5) (
 let u5:=(g38 p0.2.2.2.2.2.2.1)
 Option.bind u5 fun y8 =>
 some ((),(((cond y8.2.1.1 (leI p0.2.2.2.2.2.1 p0.2.2.2.2.2.2.1) false),()),()))
 ) (
 some ((),(((eqI p0.2.2.2.2.2.2.1 (-1)),()),()))
 )
 )
 )
 )
 ) (
 cond (eqI p0.2.1 3) (
 let u2:=(lenI p0.2.2.1)
 let u3:=(g46 p0.2.2.2.1 1 u2)
 Option.bind u3 fun y7 =>
 cond (!y7.2.1.1) (
 some ((),((false,()),()))
 ) (
 cond (ltI p0.2.1 3) (
 some ((),(((cond (cond (cond (eqI p0.2.2.2.2.2.1 (-1)) (eqI p0.2.2.2.2.2.2.1 (-1)) false) (eqI p0.2.2.2.2.2.2.2.1 0) false) (eqI u1 0) false),()),()))
 ) (
 let u4:=(g38 p0.2.2.2.2.2.1)
 Option.bind u4 fun y8 =>
 let u5:=(cond (!y8.2.1.1) true (ltI p0.2.2.2.2.2.1 p0.2.2.2.2.1))
 cond u5 (
 some ((),((false,()),()))
 ) (
 cond (eqI p0.2.1 5) (
 let u6:=(g38 p0.2.2.2.2.2.2.1)
 Option.bind u6 fun y9 =>
 some ((),(((cond y9.2.1.1 (leI p0.2.2.2.2.2.1 p0.2.2.2.2.2.2.1) false),()),()))
 ) (
 some ((),(((eqI p0.2.2.2.2.2.2.1 (-1)),()),()))
 )
 )
 )
 )
 ) (
 cond (!(eqI p0.2.2.2.1 0)) (
 some ((),((false,()),()))
 ) (
 cond (ltI p0.2.1 3) (
 some ((),(((cond (cond (cond (eqI p0.2.2.2.2.2.1 (-1)) (eqI p0.2.2.2.2.2.2.1 (-1)) false) (eqI p0.2.2.2.2.2.2.2.1 0) false) (eqI u1 0) false),()),()))
 ) (
 let u2:=(g38 p0.2.2.2.2.2.1)
 Option.bind u2 fun y7 =>
 let u3:=(cond (!y7.2.1.1) true (ltI p0.2.2.2.2.2.1 p0.2.2.2.2.1))
 cond u3 (
 some ((),((false,()),()))
 ) (
 cond (eqI p0.2.1 5) (
 let u4:=(g38 p0.2.2.2.2.2.2.1)
 Option.bind u4 fun y8 =>
 some ((),(((cond y8.2.1.1 (leI p0.2.2.2.2.2.1 p0.2.2.2.2.2.2.1) false),()),()))
 ) (
 some ((),(((eqI p0.2.2.2.2.2.2.1 (-1)),()),()))
 )
 )
 )
 )
 )
 )
 )
 )
 )
 )
 )
 )
 )
def s39:Su:=⟨[.c true kk86,.c false kk3],[(false,[.bool])],true,.inl fun x=>g39 x.1 x.2.1.1⟩
theorem ok39:SuOK Tryz.prog 39 s39 :=
 fq (ac ok46 (ac ok38 (ac ok69 (ac ok71 (ac ok70 an))))) Tryz.f39
def g41 (p0:(List R5)×Int×(List R3)×Int×Int×Int×Int×Int×(List R5)×Unit) (p1:Int):Option Y17 :=
 let u1:=(mxI 0 (mnI p0.2.2.2.1 (lenI p0.2.2.1)))
 cond (cutB 0 u1 p0.2.2.1) (
 (g40 (sub p0.2.2.1 0 u1) p1).bind fun y1 =>
 some ((),(y1.2.1,()))
 ) none
def s41:Su:=⟨[.c true kk86,.c false kk3],[(false,[.bool])],true,.inl fun x=>g41 x.1 x.2.1.1⟩
theorem ok41:SuOK Tryz.prog 41 s41 :=
 fq (ac ok40 an) Tryz.f41
def r11_2 (t3:List R3) (t36:List R64) (t37 t38:Int) (t61:List R3) (t62 t63:Int) (b1:(List R67)×Int×Int×(List R64)×Unit):Rd ((List R3)×(List R64)×Int×Int×(List R3)×Int×Int×Y30×Unit) Y1 :=
 cond (ltI t63 t62) (
 cond (inB t63 t61) (
 let u1:=(gt d3 t61 t63)
 cond (eqI u1.1 (-1)) (
 let u2:=(addW .i64 t63 1)
 some (.inl (t3,t36,t37,t38,t61,t62,u2,b1,()))
 ) (
 cond (leI b1.2.2.1 u1.1) (
 some (.inr (.inr (false,())))
 ) (
 (g40 t3 u1.1).bind fun y1 =>
 cond y1.2.1.1 (
 some (.inr (.inr (false,())))
 ) (
 cond (fitB 8 t3 [u1]) (
 let u2:=(addW .i64 t63 1)
 some (.inl ((apL t3 [u1]),t36,t37,t38,t61,t62,u2,b1,()))
 ) none
 )
 )
 )
 ) none
 ) (
 some (.inr (.inl (t3,t36,t37,t38,t61,t62,t63,b1,())))
 )
def l11_2:=cu8 (loopF (un8 r11_2))
def r11_0 (t3:List R3) (t36:List R64) (t37 t38:Int) (b1:(List R67)×Int×Int×(List R64)×Unit):Rd ((List R3)×(List R64)×Int×Int×Y30×Unit) Y1 :=
 cond (ltI t38 t37) (
 cond (inB t38 t36) (
 let u1:=(gt d64 t36 t38)
 (g39 u1 (lenI b1.1)).bind fun y1 =>
 cond (cond (!y1.2.1.1) true (ltI b1.2.1 u1.2.2.2.2.2.2.2.1)) (
 some (.inr (.inr (false,())))
 ) (
 (l11_2 t3 t36 t37 t38 [(u1.2.2.2.2.1,()),(u1.2.2.2.2.2.1,()),(u1.2.2.2.2.2.2.1,())] (lenI [(u1.2.2.2.2.1,()),(u1.2.2.2.2.2.1,()),(u1.2.2.2.2.2.2.1,())]) 0 b1).bind (Sum.elim (fun y2 =>
 some (.inl (y2.1,y2.2.1,y2.2.2.1,(addW .i64 y2.2.2.2.1 1),y2.2.2.2.2.2.2.2.1,()))
 ) (fun y2 =>
 some (.inr (.inr (y2.1,())))
 ))
 )
 ) none
 ) (
 some (.inr (.inl (t3,t36,t37,t38,b1,())))
 )
def l11_0:=cu5 (loopF (un5 r11_0))
def r11_6 (t8:Int) (t85:List R67) (t86 t87:Int) (t99:List R64) (t100 t101:Int) (b1:(List R67)×Int×Int×(List R64)×Unit) (b9:Int×(List R92)×Unit):Rd (Int×(List R67)×Int×Int×(List R64)×Int×Int×Y30×Y8×Unit) Y1 :=
 cond (ltI t101 t100) (
 cond (inB t101 t99) (
 (g41 (gt d64 t99 t101) t8).bind fun y1 =>
 cond (!(eqB y1.2.1.1 (eqI b9.1 t101))) (
 some (.inr (.inr (false,())))
 ) (
 some (.inl (t8,t85,t86,t87,t99,t100,(addW .i64 t101 1),b1,b9,()))
 )
 ) none
 ) (
 some (.inr (.inl (t8,t85,t86,t87,t99,t100,t101,b1,b9,())))
 )
def l11_6:=cu9 (loopF (un9 r11_6))
def r11_4 (t85:List R67) (t86 t87:Int) (b1:(List R67)×Int×Int×(List R64)×Unit):Rd ((List R67)×Int×Int×Y30×Unit) Y1 :=
 cond (ltI t87 t86) (
 cond (inB t87 t85) (
 let u1:=(lenI b1.2.2.2.1)
 let u2:=(gt d67 t85 t87)
 cond (leI u1 u2.1) (
 some (.inr (.inr (false,())))
 ) (
 (l11_6 t87 t85 t86 t87 b1.2.2.2.1 u1 0 b1 u2).bind (Sum.elim (fun y1 =>
 some (.inl (y1.2.1,y1.2.2.1,(addW .i64 y1.2.2.2.1 1),y1.2.2.2.2.2.2.2.1,()))
 ) (fun y1 =>
 some (.inr (.inr (y1.1,())))
 ))
 )
 ) none
 ) (
 some (.inr (.inl (t85,t86,t87,b1,())))
 )
def l11_4:=cu4 (loopF (un4 r11_4))
def g11 (p0:(List R67)×Int×Int×(List R64)×Unit):Option Y17 :=
 (g37 p0.1).bind fun y1 =>
 cond (!y1.2.1.1) (
 some ((),((false,()),()))
 ) (
 (g38 p0.2.1).bind fun y2 =>
 cond (!y2.2.1.1) (
 some ((),((false,()),()))
 ) (
 (g38 p0.2.2.1).bind fun y3 =>
 let u1:=(lenI p0.2.2.2.1)
 cond (cond (!y3.2.1.1) true (ltI 12 u1)) (
 some ((),((false,()),()))
 ) (
 (l11_0 [] p0.2.2.2.1 u1 0 p0).bind (Sum.elim (fun y4 =>
 (l11_4 y4.2.2.2.2.1.1 (lenI y4.2.2.2.2.1.1) 0 y4.2.2.2.2.1).bind (Sum.elim (fun y5 =>
 some ((),((true,()),()))
 ) (fun y5 =>
 some ((),(y5,()))
 ))
 ) (fun y4 =>
 some ((),(y4,()))
 ))
 )
 )
 )
def s11:Su:=⟨[.c true [.sl 67 kk67,.int .i64,.int .i64,.sl 64 kk64]],[(false,[.bool])],true,.inl fun x=>g11 x.1⟩
theorem ok11:SuOK Tryz.prog 11 s11 :=
 fl (ac ok38 (ac ok37 (ac ok40 (ac ok39 (ac ok41 an))))) [.d 2 (.bool)] [(2,⟨[.own 3 (.sl 3 kk3),.d 36 (.sl 64 kk64),.d 37 (.int .i64),.d 38 (.int .i64),.own 61 (.sl 3 kk3),.d 62 (.int .i64),.d 63 (.int .i64),.box 1 [(false,.sl 67 kk67),(false,.int .i64),(false,.int .i64),(false,.sl 64 kk64)]],loopF (un8 r11_2)⟩),(0,⟨[.own 3 (.sl 3 kk3),.d 36 (.sl 64 kk64),.d 37 (.int .i64),.d 38 (.int .i64),.box 1 [(false,.sl 67 kk67),(false,.int .i64),(false,.int .i64),(false,.sl 64 kk64)]],loopF (un5 r11_0)⟩),(6,⟨[.d 8 (.int .i64),.d 85 (.sl 67 kk67),.d 86 (.int .i64),.d 87 (.int .i64),.d 99 (.sl 64 kk64),.d 100 (.int .i64),.d 101 (.int .i64),.box 1 [(false,.sl 67 kk67),(false,.int .i64),(false,.int .i64),(false,.sl 64 kk64)],.box 9 [(false,.int .i64),(false,.sl 92 kk92)]],loopF (un9 r11_6)⟩),(4,⟨[.d 85 (.sl 67 kk67),.d 86 (.int .i64),.d 87 (.int .i64),.box 1 [(false,.sl 67 kk67),(false,.int .i64),(false,.int .i64),(false,.sl 64 kk64)]],loopF (un4 r11_4)⟩)] [] Tryz.f11 (lp [0,4] (sc (lp [2] (sc lp0 sn)) (sc (lp [6] (sc lp0 sn)) sn)))
def g47 (p0:(List R5)×Int×(List R3)×Int×Int×Int×Int×Int×(List R5)×Unit):Option Y15 :=
 cond (!(eqI p0.2.1 1)) (
 some ((),(((-1),()),()))
 ) (
 (g46 p0.2.2.2.1 0 (subW .i64 (lenI p0.2.2.1) 1)).bind fun y1 =>
 cond (!y1.2.1.1) (
 some ((),(((-1),()),()))
 ) (
 cond (inB p0.2.2.2.1 p0.2.2.1) (
 some ((),((gt d3 p0.2.2.1 p0.2.2.2.1),()))
 ) none
 )
 )
def s47:Su:=⟨[.c true kk86],[(false,kk3)],true,.inl fun x=>g47 x.1⟩
theorem ok47:SuOK Tryz.prog 47 s47 :=
 fq (ac ok46 an) Tryz.f47
def g14 (p0:(List R67)×Int×Int×(List R64)×Unit) (p1:Int):Option Y15 :=
 (g46 p1 0 (subW .i64 (lenI p0.2.2.2.1) 1)).bind fun y1 =>
 cond (!y1.2.1.1) (
 some ((),(((-1),()),()))
 ) (
 (g11 p0).bind fun y2 =>
 cond (!y2.2.1.1) (
 some ((),(((-1),()),()))
 ) (
 cond (inB p1 p0.2.2.2.1) (
 (g47 (gt d64 p0.2.2.2.1 p1)).bind fun y3 =>
 cond (ltI y3.2.1.1 0) (
 some ((),(((-1),()),()))
 ) (
 cond (inB y3.2.1.1 p0.1) (
 some ((),(((gt d67 p0.1 y3.2.1.1).1,()),()))
 ) none
 )
 ) none
 )
 )
def s14:Su:=⟨[.c true [.sl 67 kk67,.int .i64,.int .i64,.sl 64 kk64],.c false kk3],[(false,kk3)],true,.inl fun x=>g14 x.1 x.2.1.1⟩
theorem ok14:SuOK Tryz.prog 14 s14 :=
 fq (ac ok46 (ac ok11 (ac ok47 an))) Tryz.f14
def g197 (p0 p1:(List UInt8)×Int×Int×Unit):Option Y17 :=
 cond (!(eqS p0.1 p1.1)) (
 some ((),((false,()),()))
 ) (
 cond (!(eqI p0.2.1 p1.2.1)) (
 some ((),((false,()),()))
 ) (
 cond (!(eqI p0.2.2.1 p1.2.2.1)) (
 some ((),((false,()),()))
 ) (
 some ((),((true,()),()))
 )
 )
 )
def s197:Su:=⟨[.c true kk204,.c true kk204],[(false,[.bool])],true,.inl fun x=>g197 x.1 x.2.1⟩
theorem ok197:SuOK Tryz.prog 197 s197 :=
 fq an Tryz.f197
def r146_0 (t0 t1:List R157) (t5:Int):Rd ((List R157)×(List R157)×Int×Unit) Y1 :=
 cond (ltI t5 (lenI t0)) (
 cond (inB t5 t0) (
 cond (inB t5 t1) (
 (g197 (gt d157 t0 t5) (gt d157 t1 t5)).bind fun y1 =>
 cond (!y1.2.1.1) (
 some (.inr (.inr (false,())))
 ) (
 some (.inl (t0,t1,(addW .i64 t5 1),()))
 )
 ) none
 ) none
 ) (
 some (.inr (.inl (t0,t1,t5,())))
 )
def l146_0:=cu3 (loopF (un3 r146_0))
def g146 (p0 p1:List R157):Option Y17 :=
 cond (!(eqI (lenI p0) (lenI p1))) (
 some ((),((false,()),()))
 ) (
 (l146_0 p0 p1 0).bind (Sum.elim (fun y1 =>
 some ((),((true,()),()))
 ) (fun y1 =>
 some ((),(y1,()))
 ))
 )
def s146:Su:=⟨[.c false [.sl 157 kk157],.c false [.sl 157 kk157]],[(false,[.bool])],true,.inl fun x=>g146 x.1.1 x.2.1.1⟩
theorem ok146:SuOK Tryz.prog 146 s146 :=
 fl (ac ok197 an) [.d 4 (.bool)] [(0,⟨[.d 0 (.sl 157 kk157),.d 1 (.sl 157 kk157),.d 5 (.int .i64)],loopF (un3 r146_0)⟩)] [] Tryz.f146 (lp [0] (sc lp0 sn))
def r24_0 (t0 t1:List R3) (t5:Int):Rd ((List R3)×(List R3)×Int×Unit) Y1 :=
 cond (ltI t5 (lenI t0)) (
 cond (inB t5 t0) (
 cond (inB t5 t1) (
 cond (!(eqI (gt d3 t0 t5).1 (gt d3 t1 t5).1)) (
 some (.inr (.inr (false,())))
 ) (
 some (.inl (t0,t1,(addW .i64 t5 1),()))
 )
 ) none
 ) none
 ) (
 some (.inr (.inl (t0,t1,t5,())))
 )
def l24_0:=cu3 (loopF (un3 r24_0))
def g24 (p0 p1:List R3):Option Y17 :=
 cond (!(eqI (lenI p0) (lenI p1))) (
 some ((),((false,()),()))
 ) (
 (l24_0 p0 p1 0).bind (Sum.elim (fun y1 =>
 some ((),((true,()),()))
 ) (fun y1 =>
 some ((),(y1,()))
 ))
 )
def s24:Su:=⟨[.c false kk53,.c false kk53],[(false,[.bool])],true,.inl fun x=>g24 x.1.1 x.2.1.1⟩
theorem ok24:SuOK Tryz.prog 24 s24 :=
 fl an [.d 4 (.bool)] [(0,⟨[.d 0 (.sl 3 kk3),.d 1 (.sl 3 kk3),.d 5 (.int .i64)],loopF (un3 r24_0)⟩)] [] Tryz.f24 (lp [0] (sc lp0 sn))
def g147 (p0 p1:Int×Int×(List R3)×(List R3)×Unit):Option Y17 :=
 cond (!(eqI p0.1 p1.1)) (
 some ((),((false,()),()))
 ) (
 cond (!(eqI p0.2.1 p1.2.1)) (
 some ((),((false,()),()))
 ) (
 (g24 p0.2.2.1 p1.2.2.1).bind fun y1 =>
 cond (!y1.2.1.1) (
 some ((),((false,()),()))
 ) (
 (g24 p0.2.2.2.1 p1.2.2.2.1).bind fun y2 =>
 cond (!y2.2.1.1) (
 some ((),((false,()),()))
 ) (
 some ((),((true,()),()))
 )
 )
 )
 )
def s147:Su:=⟨[.c true [.int .i64,.int .i64,.sl 3 kk3,.sl 3 kk3],.c true [.int .i64,.int .i64,.sl 3 kk3,.sl 3 kk3]],[(false,[.bool])],true,.inl fun x=>g147 x.1 x.2.1⟩
theorem ok147:SuOK Tryz.prog 147 s147 :=
 fq (ac ok24 an) Tryz.f147
def r96_0 (t0 t1:List R5) (t5:Int):Rd ((List R5)×(List R5)×Int×Unit) Y1 :=
 cond (ltI t5 (lenI t0)) (
 cond (inB t5 t0) (
 cond (inB t5 t1) (
 cond (!(eqI (gt d5 t0 t5).1 (gt d5 t1 t5).1)) (
 some (.inr (.inr (false,())))
 ) (
 some (.inl (t0,t1,(addW .i64 t5 1),()))
 )
 ) none
 ) none
 ) (
 some (.inr (.inl (t0,t1,t5,())))
 )
def l96_0:=cu3 (loopF (un3 r96_0))
def g96 (p0 p1:List R5):Option Y17 :=
 cond (!(eqI (lenI p0) (lenI p1))) (
 some ((),((false,()),()))
 ) (
 (l96_0 p0 p1 0).bind (Sum.elim (fun y1 =>
 some ((),((true,()),()))
 ) (fun y1 =>
 some ((),(y1,()))
 ))
 )
def s96:Su:=⟨[.c false [.sl 5 kk5],.c false [.sl 5 kk5]],[(false,[.bool])],true,.inl fun x=>g96 x.1.1 x.2.1.1⟩
theorem ok96:SuOK Tryz.prog 96 s96 :=
 fl an [.d 4 (.bool)] [(0,⟨[.d 0 (.sl 5 kk5),.d 1 (.sl 5 kk5),.d 5 (.int .i64)],loopF (un3 r96_0)⟩)] [] Tryz.f96 (lp [0] (sc lp0 sn))
def g198 (p0 p1:(List UInt8)×(List UInt8)×(List R5)×Unit):Option Y17 :=
 cond (!(eqS p0.1 p1.1)) (
 some ((),((false,()),()))
 ) (
 cond (!(eqS p0.2.1 p1.2.1)) (
 some ((),((false,()),()))
 ) (
 (g96 p0.2.2.1 p1.2.2.1).bind fun y1 =>
 cond (!y1.2.1.1) (
 some ((),((false,()),()))
 ) (
 some ((),((true,()),()))
 )
 )
 )
def s198:Su:=⟨[.c true kk206,.c true kk206],[(false,[.bool])],true,.inl fun x=>g198 x.1 x.2.1⟩
theorem ok198:SuOK Tryz.prog 198 s198 :=
 fq (ac ok96 an) Tryz.f198
def r148_0 (t0 t1:List R160) (t5:Int):Rd ((List R160)×(List R160)×Int×Unit) Y1 :=
 cond (ltI t5 (lenI t0)) (
 cond (inB t5 t0) (
 cond (inB t5 t1) (
 (g198 (gt d160 t0 t5) (gt d160 t1 t5)).bind fun y1 =>
 cond (!y1.2.1.1) (
 some (.inr (.inr (false,())))
 ) (
 some (.inl (t0,t1,(addW .i64 t5 1),()))
 )
 ) none
 ) none
 ) (
 some (.inr (.inl (t0,t1,t5,())))
 )
def l148_0:=cu3 (loopF (un3 r148_0))
def g148 (p0 p1:List R160):Option Y17 :=
 cond (!(eqI (lenI p0) (lenI p1))) (
 some ((),((false,()),()))
 ) (
 (l148_0 p0 p1 0).bind (Sum.elim (fun y1 =>
 some ((),((true,()),()))
 ) (fun y1 =>
 some ((),(y1,()))
 ))
 )
def s148:Su:=⟨[.c false [.sl 160 kk160],.c false [.sl 160 kk160]],[(false,[.bool])],true,.inl fun x=>g148 x.1.1 x.2.1.1⟩
theorem ok148:SuOK Tryz.prog 148 s148 :=
 fl (ac ok198 an) [.d 4 (.bool)] [(0,⟨[.d 0 (.sl 160 kk160),.d 1 (.sl 160 kk160),.d 5 (.int .i64)],loopF (un3 r148_0)⟩)] [] Tryz.f148 (lp [0] (sc lp0 sn))
def g113 (p0 p1:(List UInt8)×Int×Int×Int×Int×(List R157)×Int×Int×(List R3)×(List R3)×(List R160)×Unit):Option Y17 :=
 cond (!(eqS p0.1 p1.1)) (
 some ((),((false,()),()))
 ) (
 cond (!(eqI p0.2.1 p1.2.1)) (
 some ((),((false,()),()))
 ) (
 cond (!(eqI p0.2.2.1 p1.2.2.1)) (
 some ((),((false,()),()))
 ) (
 cond (!(eqI p0.2.2.2.1 p1.2.2.2.1)) (
 some ((),((false,()),()))
 ) (
 cond (!(eqI p0.2.2.2.2.1 p1.2.2.2.2.1)) (
 some ((),((false,()),()))
 ) (
 (g146 p0.2.2.2.2.2.1 p1.2.2.2.2.2.1).bind fun y1 =>
 cond (!y1.2.1.1) (
 some ((),((false,()),()))
 ) (
 (g147 (p0.2.2.2.2.2.2.1,p0.2.2.2.2.2.2.2.1,p0.2.2.2.2.2.2.2.2.1,p0.2.2.2.2.2.2.2.2.2.1,()) (p1.2.2.2.2.2.2.1,p1.2.2.2.2.2.2.2.1,p1.2.2.2.2.2.2.2.2.1,p1.2.2.2.2.2.2.2.2.2.1,())).bind fun y2 =>
 cond (!y2.2.1.1) (
 some ((),((false,()),()))
 ) (
 (g148 p0.2.2.2.2.2.2.2.2.2.2.1 p1.2.2.2.2.2.2.2.2.2.2.1).bind fun y3 =>
 cond (!y3.2.1.1) (
 some ((),((false,()),()))
 ) (
 some ((),((true,()),()))
 )
 )
 )
 )
 )
 )
 )
 )
def s113:Su:=⟨[.c true kk92,.c true kk92],[(false,[.bool])],true,.inl fun x=>g113 x.1 x.2.1⟩
theorem ok113:SuOK Tryz.prog 113 s113 :=
 fq (ac ok146 (ac ok147 (ac ok148 an))) Tryz.f113
def r79_0 (t0 t1:List R92) (t5:Int):Rd ((List R92)×(List R92)×Int×Unit) Y1 :=
 cond (ltI t5 (lenI t0)) (
 cond (inB t5 t0) (
 cond (inB t5 t1) (
 (g113 (gt d92 t0 t5) (gt d92 t1 t5)).bind fun y1 =>
 cond (!y1.2.1.1) (
 some (.inr (.inr (false,())))
 ) (
 some (.inl (t0,t1,(addW .i64 t5 1),()))
 )
 ) none
 ) none
 ) (
 some (.inr (.inl (t0,t1,t5,())))
 )
def l79_0:=cu3 (loopF (un3 r79_0))
def g79 (p0 p1:List R92):Option Y17 :=
 cond (!(eqI (lenI p0) (lenI p1))) (
 some ((),((false,()),()))
 ) (
 (l79_0 p0 p1 0).bind (Sum.elim (fun y1 =>
 some ((),((true,()),()))
 ) (fun y1 =>
 some ((),(y1,()))
 ))
 )
def s79:Su:=⟨[.c false [.sl 92 kk92],.c false [.sl 92 kk92]],[(false,[.bool])],true,.inl fun x=>g79 x.1.1 x.2.1.1⟩
theorem ok79:SuOK Tryz.prog 79 s79 :=
 fl (ac ok113 an) [.d 4 (.bool)] [(0,⟨[.d 0 (.sl 92 kk92),.d 1 (.sl 92 kk92),.d 5 (.int .i64)],loopF (un3 r79_0)⟩)] [] Tryz.f79 (lp [0] (sc lp0 sn))
def g73 (p0 p1:Int×(List R92)×Unit):Option Y17 :=
 cond (!(eqI p0.1 p1.1)) (
 some ((),((false,()),()))
 ) (
 (g79 p0.2.1 p1.2.1).bind fun y1 =>
 cond (!y1.2.1.1) (
 some ((),((false,()),()))
 ) (
 some ((),((true,()),()))
 )
 )
def s73:Su:=⟨[.c true kk67,.c true kk67],[(false,[.bool])],true,.inl fun x=>g73 x.1 x.2.1⟩
theorem ok73:SuOK Tryz.prog 73 s73 :=
 fq (ac ok79 an) Tryz.f73
def r42_0 (t0 t1:List R67) (t5:Int):Rd ((List R67)×(List R67)×Int×Unit) Y1 :=
 cond (ltI t5 (lenI t0)) (
 cond (inB t5 t0) (
 cond (inB t5 t1) (
 (g73 (gt d67 t0 t5) (gt d67 t1 t5)).bind fun y1 =>
 cond (!y1.2.1.1) (
 some (.inr (.inr (false,())))
 ) (
 some (.inl (t0,t1,(addW .i64 t5 1),()))
 )
 ) none
 ) none
 ) (
 some (.inr (.inl (t0,t1,t5,())))
 )
def l42_0:=cu3 (loopF (un3 r42_0))
def g42 (p0 p1:List R67):Option Y17 :=
 cond (!(eqI (lenI p0) (lenI p1))) (
 some ((),((false,()),()))
 ) (
 (l42_0 p0 p1 0).bind (Sum.elim (fun y1 =>
 some ((),((true,()),()))
 ) (fun y1 =>
 some ((),(y1,()))
 ))
 )
def s42:Su:=⟨[.c false [.sl 67 kk67],.c false [.sl 67 kk67]],[(false,[.bool])],true,.inl fun x=>g42 x.1.1 x.2.1.1⟩
theorem ok42:SuOK Tryz.prog 42 s42 :=
 fl (ac ok73 an) [.d 4 (.bool)] [(0,⟨[.d 0 (.sl 67 kk67),.d 1 (.sl 67 kk67),.d 5 (.int .i64)],loopF (un3 r42_0)⟩)] [] Tryz.f42 (lp [0] (sc lp0 sn))
def g74 (p0 p1:(List R5)×Int×(List R3)×Int×Int×Int×Int×Int×(List R5)×Unit):Option Y17 :=
 (g96 p0.1 p1.1).bind fun y1 =>
 cond (!y1.2.1.1) (
 some ((),((false,()),()))
 ) (
 cond (!(eqI p0.2.1 p1.2.1)) (
 some ((),((false,()),()))
 ) (
 (g24 p0.2.2.1 p1.2.2.1).bind fun y2 =>
 cond (!y2.2.1.1) (
 some ((),((false,()),()))
 ) (
 cond (!(eqI p0.2.2.2.1 p1.2.2.2.1)) (
 some ((),((false,()),()))
 ) (
 cond (!(eqI p0.2.2.2.2.1 p1.2.2.2.2.1)) (
 some ((),((false,()),()))
 ) (
 cond (!(eqI p0.2.2.2.2.2.1 p1.2.2.2.2.2.1)) (
 some ((),((false,()),()))
 ) (
 cond (!(eqI p0.2.2.2.2.2.2.1 p1.2.2.2.2.2.2.1)) (
 some ((),((false,()),()))
 ) (
 cond (!(eqI p0.2.2.2.2.2.2.2.1 p1.2.2.2.2.2.2.2.1)) (
 some ((),((false,()),()))
 ) (
 (g96 p0.2.2.2.2.2.2.2.2.1 p1.2.2.2.2.2.2.2.2.1).bind fun y3 =>
 cond (!y3.2.1.1) (
 some ((),((false,()),()))
 ) (
 some ((),((true,()),()))
 )
 )
 )
 )
 )
 )
 )
 )
 )
def s74:Su:=⟨[.c true kk86,.c true kk86],[(false,[.bool])],true,.inl fun x=>g74 x.1 x.2.1⟩
theorem ok74:SuOK Tryz.prog 74 s74 :=
 fq (ac ok24 (ac ok96 an)) Tryz.f74
def r43_0 (t0 t1:List R64) (t5:Int):Rd ((List R64)×(List R64)×Int×Unit) Y1 :=
 cond (ltI t5 (lenI t0)) (
 cond (inB t5 t0) (
 cond (inB t5 t1) (
 (g74 (gt d64 t0 t5) (gt d64 t1 t5)).bind fun y1 =>
 cond (!y1.2.1.1) (
 some (.inr (.inr (false,())))
 ) (
 some (.inl (t0,t1,(addW .i64 t5 1),()))
 )
 ) none
 ) none
 ) (
 some (.inr (.inl (t0,t1,t5,())))
 )
def l43_0:=cu3 (loopF (un3 r43_0))
def g43 (p0 p1:List R64):Option Y17 :=
 cond (!(eqI (lenI p0) (lenI p1))) (
 some ((),((false,()),()))
 ) (
 (l43_0 p0 p1 0).bind (Sum.elim (fun y1 =>
 some ((),((true,()),()))
 ) (fun y1 =>
 some ((),(y1,()))
 ))
 )
def s43:Su:=⟨[.c false [.sl 64 kk64],.c false [.sl 64 kk64]],[(false,[.bool])],true,.inl fun x=>g43 x.1.1 x.2.1.1⟩
theorem ok43:SuOK Tryz.prog 43 s43 :=
 fl (ac ok74 an) [.d 4 (.bool)] [(0,⟨[.d 0 (.sl 64 kk64),.d 1 (.sl 64 kk64),.d 5 (.int .i64)],loopF (un3 r43_0)⟩)] [] Tryz.f43 (lp [0] (sc lp0 sn))
def g12 (p0 p1:(List R67)×Int×Int×(List R64)×Unit):Option Y17 :=
 (g42 p0.1 p1.1).bind fun y1 =>
 cond (!y1.2.1.1) (
 some ((),((false,()),()))
 ) (
 cond (!(eqI p0.2.1 p1.2.1)) (
 some ((),((false,()),()))
 ) (
 cond (!(eqI p0.2.2.1 p1.2.2.1)) (
 some ((),((false,()),()))
 ) (
 (g43 p0.2.2.2.1 p1.2.2.2.1).bind fun y2 =>
 cond (!y2.2.1.1) (
 some ((),((false,()),()))
 ) (
 some ((),((true,()),()))
 )
 )
 )
 )
def s12:Su:=⟨[.c true [.sl 67 kk67,.int .i64,.int .i64,.sl 64 kk64],.c true [.sl 67 kk67,.int .i64,.int .i64,.sl 64 kk64]],[(false,[.bool])],true,.inl fun x=>g12 x.1 x.2.1⟩
theorem ok12:SuOK Tryz.prog 12 s12 :=
 fq (ac ok42 (ac ok43 an)) Tryz.f12
def g4 (p0:(List R84)×Int×Int×(List R86)×Unit) (p1:Int):Option Y17 :=
 (g8 p0 1048576).bind fun y1 =>
 cond (ltI y1.2.1.1 0) (
 some ((),((true,()),()))
 ) (
 let u1:=(g10 p0)
 Option.bind u1 fun y2 =>
 (g13 y2.2.1 p1).bind fun y3 =>
 Option.bind u1 fun y4 =>
 (g14 y4.2.1 p1).bind fun y5 =>
 cond (!(eqI y5.2.1.1 y3.2.1.1)) (
 some ((),((false,()),()))
 ) (
 Option.bind u1 fun y6 =>
 (g12 y4.2.1 y6.2.1).bind fun y7 =>
 cond (!y7.2.1.1) (
 some ((),((false,()),()))
 ) (
 some ((),((true,()),()))
 )
 )
 )
def s4:Su:=⟨[.c true [.sl 84 kk84,.int .i64,.int .i64,.sl 86 kk86],.c false kk3],[(false,[.bool])],true,.inl fun x=>g4 x.1 x.2.1.1⟩
theorem ok4:SuOK Tryz.prog 4 s4 :=
 fq (ac ok8 (ac ok10 (ac ok13 (ac ok14 (ac ok12 an))))) Tryz.f4
end
end Go.Av
