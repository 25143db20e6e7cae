/- Part of a proof that the law FnExactArrive answers true for every input: the printed functions of this program and their plain laws. No conditions beyond the statement. -/
import Derived.Test.YtbgoaopannojjaaGreatDoorP1a
set_option maxRecDepth 100000
namespace Go.Av
open Go.Proofs
set_option maxHeartbeats 4000000
noncomputable section
def An (t0:List UInt8) (t1:Int):Rd WO Unit :=
 let u1:=(ae t0)
 cond (au 0 u1) (
 let u2:=(aM .i64 u1 1)
 cond (aR u2 t0) (
 cond (aq (dx t0 u2) t1) (
 cond (dP 0 u2 t0) (
 some (.inl ((sub t0 0 u2),t1,()))
 ) none
 ) (
 some (.inr (.inl (t0,t1,())))
 )
 ) none
 ) (
 some (.inr (.inl (t0,t1,())))
 )
def Ky:=OJ (af (wI An))
def KK (p0:List UInt8) (p1:Int):Option LN :=
 (Ky p0 p1).bind (Sum.elim (fun y1 =>
 some ((),((y1.1,()),()))
 ) (fun _ =>
 none
 ))
def Yb:Su:=⟨[.c false [.str],.c false ub],[(false,[.str])],true,.inl fun x=>KK x.1.1 x.2.1.1⟩
theorem S6:ar Tryz.prog 306 Yb :=
 fl an [] [(0,⟨[.d 0 .str,.d 1 (.int .u8)],af (wI An)⟩)] [] Tryz.f306 (lp [0] (sc cM sn))
def RY (p0 p1:List UInt8):Option LN :=
 cond (cond (cr p0 []) true (cr p1 [])) (
 some ((),((p0,()),()))
 ) (
 cond (aq (ae p1) 1) (
 cond (aR 0 p1) (
 let u1:=(dx p1 0)
 cond (au u1 128) (
 cond (aR 0 p1) (
 (KK p0 u1).bind fun y1 =>
 some ((),(y1.2.1,()))
 ) none
 ) (
 none
 )
 ) none
 ) (
 none
 )
 )
def Zm:Su:=⟨[.c false [.str],.c false [.str]],[(false,[.str])],true,.inl fun x=>RY x.1.1 x.2.1.1⟩
theorem TK:ar Tryz.prog 272 Zm :=
 fq (ac S6 an) Tryz.f272
def Mq (p0:List UInt8):Option LN :=
 (RY p0 [32]).bind fun y1 =>
 some ((),(y1.2.1,()))
def aa1:Su:=⟨[.c false [.str]],[(false,[.str])],true,.inl fun x=>Mq x.1.1⟩
theorem UX:ar Tryz.prog 216 aa1 :=
 fq (ac TK an) Tryz.f216
def nY (t41:List R3) (t42 t43:Int) (b1:(List UInt8)×(List iI)×Unit) (b2 b6:Int×(List UInt8)×(List UInt8)×(List UInt8)×(List UInt8)×(List UInt8)×Int×Int×Unit):Rd ((List R3)×Int×Int×CG×RM×RM×Unit) (Int×RM×Unit) :=
 cond (au t43 t42) (
 cond (aR t43 t41) (
 (G4 b1 (gt d3 t41 t43).1).bind fun y1 =>
 cond (!y1.2.2.1.1) (
 some (.inr (.inr (1,(0,[],[],[],[],[],0,0,()),())))
 ) (
 cond (aq (gt d3 t41 t43).1 2) (
 let u1:=(aj .i64 t43 1)
 some (.inl (t41,t42,u1,b1,b2,(b6.1,y1.2.1.1,b6.2.2.1,b6.2.2.2.1,b6.2.2.2.2.1,b6.2.2.2.2.2.1,b6.2.2.2.2.2.2.1,b6.2.2.2.2.2.2.2.1,()),()))
 ) (
 cond (aq (gt d3 t41 t43).1 4) (
 let u1:=(Db y1.2.1.1)
 Option.bind u1 fun y2 =>
 let u2:=(aj .i64 t43 1)
 some (.inl (t41,t42,u2,b1,b2,(b6.1,b6.2.1,b6.2.2.1,b6.2.2.2.1,b6.2.2.2.2.1,b6.2.2.2.2.2.1,y2.2.1.1,b6.2.2.2.2.2.2.2.1,()),()))
 ) (
 cond (aq (gt d3 t41 t43).1 11) (
 let u1:=(aj .i64 t43 1)
 some (.inl (t41,t42,u1,b1,b2,(b6.1,b6.2.1,b6.2.2.1,b6.2.2.2.1,y1.2.1.1,b6.2.2.2.2.2.1,b6.2.2.2.2.2.2.1,b6.2.2.2.2.2.2.2.1,()),()))
 ) (
 cond (aq (gt d3 t41 t43).1 14) (
 let u1:=(Db y1.2.1.1)
 Option.bind u1 fun y2 =>
 let u2:=(aj .i64 t43 1)
 some (.inl (t41,t42,u2,b1,b2,(b6.1,b6.2.1,b6.2.2.1,b6.2.2.2.1,b6.2.2.2.2.1,b6.2.2.2.2.2.1,b6.2.2.2.2.2.2.1,y2.2.1.1,()),()))
 ) (
 cond (aq (gt d3 t41 t43).1 38) (
 (Mq y1.2.1.1).bind fun y2 =>
 let u1:=(aj .i64 t43 1)
 some (.inl (t41,t42,u1,b1,b2,(b6.1,b6.2.1,b6.2.2.1,y2.2.1.1,b6.2.2.2.2.1,b6.2.2.2.2.2.1,b6.2.2.2.2.2.2.1,b6.2.2.2.2.2.2.2.1,()),()))
 ) (
 cond (aq (gt d3 t41 t43).1 103) (
 let u1:=(aj .i64 t43 1)
 some (.inl (t41,t42,u1,b1,b2,(b6.1,b6.2.1,y1.2.1.1,b6.2.2.2.1,b6.2.2.2.2.1,b6.2.2.2.2.2.1,b6.2.2.2.2.2.2.1,b6.2.2.2.2.2.2.2.1,()),()))
 ) (
 let u1:=(aj .i64 t43 1)
 some (.inl (t41,t42,u1,b1,b2,b6,()))
 )
 )
 )
 )
 )
 )
 )
 ) none
 ) (
 some (.inr (.inl (t41,t42,t43,b1,b2,b6,())))
 )
def KA:=UU (af (Ex nY))
def Oe (p0:(List UInt8)×(List iI)×Unit):Option (Unit×(RM×Y0×Unit)) :=
 (L6 p0).bind fun y1 =>
 cond (!y1.2.1.1) (
 c1
 ) (
 (Rm p0.1).bind fun y2 =>
 cond (!y2.2.1.1) (
 c21
 ) (
 (G4 p0 3).bind fun y3 =>
 cond (!y3.2.2.1.1) (
 c1
 ) (
 (L3).bind fun y4 =>
 (Nv y4.2.1.1 p0 y3.2.1).bind fun y5 =>
 let u1:=(aj .i64 1 y5.2.1.1)
 (Af u1).bind fun y6 =>
 cond (bY 8 [(2,()),(11,())] y6.2.1.2.2.2.1) (
 let u2:=(jn [(2,()),(11,())] y6.2.1.2.2.2.1)
 (KA u2 (ae u2) 0 p0 (0,[],[],[],[],[],0,0,()) (u1,[],[],[],[],p0.1,0,0,())).bind (Sum.elim (fun y7 =>
 (KE y7.2.2.2.2.2.1).bind fun y8 =>
 cond (!y8.2.1.1) (
 c1
 ) (
 some ((),(y7.2.2.2.2.2.1,(0,()),()))
 )
 ) (fun y7 =>
 some ((),(y7.2.1,(y7.1,()),()))
 ))
 ) none
 )
 )
 )
def aaN:Su:=⟨[.c true [.str,iF]],[(true,[ki,.str,.str,.str,.str,.str,ki,ki]),(false,[ki])],true,.inl fun x=>Oe x.1⟩
theorem Vw:ar Tryz.prog 171 aaN :=
 fl (ac PX (ac Tz (ac Wf (ac Th (ac OE (ac Tx (ac IZ (ac VJ (ac UX an))))))))) [.d 3 ki,.box 2 [(false,ki),(false,.str),(false,.str),(false,.str),(false,.str),(false,.str),(false,ki),(false,ki)]] [(0,⟨[.own 41 q3,.d 42 ki,.d 43 ki,.box 1 [(false,.str),(false,iF)],.box 2 [(false,ki),(false,.str),(false,.str),(false,.str),(false,.str),(false,.str),(false,ki),(false,ki)],.box 6 [(false,ki),(false,.str),(false,.str),(false,.str),(false,.str),(false,.str),(false,ki),(false,ki)]],af (Ex nY)⟩)] [] Tryz.f171 (lp [0] (sc cM sn))
def VD (p0:Int):Option gX :=
 cond (bH 4294967296 p0) (
 let u1:=(iQ .u64 p0 32)
 cond (bH 65536 u1) (
 let u2:=(iQ .u64 u1 16)
 cond (bH 256 u2) (
 let u3:=(bG .u8 (iQ .u64 u2 8))
 cond (aR u3 nM) (
 let u4:=(aj .i64 32 16)
 some ((),(((aj .i64 (aj .i64 u4 8) (bG .i64 (dx nM u3))),()),()))
 ) none
 ) (
 let u3:=(bG .u8 u2)
 cond (aR u3 nM) (
 let u4:=(aj .i64 32 16)
 some ((),(((aj .i64 u4 (bG .i64 (dx nM u3))),()),()))
 ) none
 )
 ) (
 cond (bH 256 u1) (
 let u2:=(bG .u8 (iQ .u64 u1 8))
 cond (aR u2 nM) (
 some ((),(((aj .i64 (aj .i64 32 8) (bG .i64 (dx nM u2))),()),()))
 ) none
 ) (
 let u2:=(bG .u8 u1)
 cond (aR u2 nM) (
 some ((),(((aj .i64 32 (bG .i64 (dx nM u2))),()),()))
 ) none
 )
 )
 ) (
 cond (bH 65536 p0) (
 let u1:=(iQ .u64 p0 16)
 cond (bH 256 u1) (
 let u2:=(bG .u8 (iQ .u64 u1 8))
 cond (aR u2 nM) (
 let u3:=(aj .i64 0 16)
 some ((),(((aj .i64 (aj .i64 u3 8) (bG .i64 (dx nM u2))),()),()))
 ) none
 ) (
 let u2:=(bG .u8 u1)
 cond (aR u2 nM) (
 let u3:=(aj .i64 0 16)
 some ((),(((aj .i64 u3 (bG .i64 (dx nM u2))),()),()))
 ) none
 )
 ) (
 cond (bH 256 p0) (
 let u1:=(bG .u8 (iQ .u64 p0 8))
 cond (aR u1 nM) (
 some ((),(((aj .i64 (aj .i64 0 8) (bG .i64 (dx nM u1))),()),()))
 ) none
 ) (
 let u1:=(bG .u8 p0)
 cond (aR u1 nM) (
 some ((),(((aj .i64 0 (bG .i64 (dx nM u1))),()),()))
 ) none
 )
 )
 )
def Zy:Su:=⟨[.c false [.int .u64]],[(false,[ki])],true,.inl fun x=>VD x.1.1⟩
theorem Vh:ar Tryz.prog 270 Zy :=
 fq an Tryz.f270
def FD (p0:Int):Option gX :=
 (VD p0).bind fun y1 =>
 some ((),(y1.2.1,()))
def aaR:Su:=⟨[.c false [.int .u64]],[(false,[ki])],true,.inl fun x=>FD x.1.1⟩
theorem Ow:ar Tryz.prog 208 aaR :=
 fq (ac Vh an) Tryz.f208
def Ok (p0:List UInt8):Option ed :=
 some ((),(((!(cr p0 p0)),()),()))
def Yp:Su:=⟨[.c false [.str]],[(false,[.bool])],true,.inl fun x=>Ok x.1.1⟩
theorem Tm:ar Tryz.prog 313 Yp :=
 fq an Tryz.f313
def ND (p0 p1:List UInt8):Option ed :=
 (Ok p0).bind fun y1 =>
 cond y1.2.1.1 (
 (Ok p1).bind fun y2 =>
 let u1:=(kj p0 p1)
 some ((),(((cond (!y2.2.1.1) true u1),()),()))
 ) (
 let u1:=(kj p0 p1)
 some ((),((u1,()),()))
 )
def Wt:Su:=⟨[.c false [.str],.c false [.str]],[(false,[.bool])],true,.inl fun x=>ND x.1.1 x.2.1.1⟩
theorem PI:ar Tryz.prog 280 Wt :=
 fq (ac Tm an) Tryz.f280
def vW (t0:List R9) (t1 t2 t6 t7:Int):Rd ((List R9)×Int×Int×Int×Int×Unit) Unit :=
 cond (au t1 t7) (
 cond (aR t7 t0) (
 let u1:=(aM .i64 t7 1)
 cond (aR u1 t0) (
 let u2:=(gt d9 t0 t7)
 let u3:=(gt d9 t0 u1)
 (ND u2.1 u3.1).bind fun y1 =>
 cond y1.2.1.1 (
 cond (aR u1 t0) (
 cond (aR t7 t0) (
 cond (aR t7 t0) (
 let u4:=(jo t0 t7 u3)
 cond (aR u1 u4) (
 some (.inl ((jo u4 u1 u2),t1,t2,t6,u1,()))
 ) none
 ) none
 ) none
 ) none
 ) (
 some (.inr (.inl (t0,t1,t2,t6,t7,())))
 )
 ) none
 ) none
 ) (
 some (.inr (.inl (t0,t1,t2,t6,t7,())))
 )
def wF:=xS (af (ff vW))
def wK (t0:List R9) (t1 t2 t6:Int):Rd ((List R9)×Int×Int×Int×Unit) Unit :=
 cond (au t6 t2) (
 (wF t0 t1 t2 t6 t6).bind (Sum.elim (fun y1 =>
 some (.inl (y1.1,y1.2.1,y1.2.2.1,(aj .i64 y1.2.2.2.1 1),()))
 ) (fun _ =>
 some (.inr (.inr ()))
 ))
 ) (
 some (.inr (.inl (t0,t1,t2,t6,())))
 )
def pr:=mj (af (cV wK))
def Sg (p0:List R9) (p1 p2:Int):Option Y25 :=
 (pr p0 p1 p2 (aj .i64 p1 1)).bind (Sum.elim (fun y1 =>
 some (((y1.1,()),()),())
 ) (fun _ =>
 none
 ))
def Nl:Su:=⟨[.io false [q9],.c false [ki],.c false [ki]],[],true,.inl fun x=>Sg x.1.1 x.2.1.1 x.2.2.1.1⟩
def qJ:List SE:=[.own 0 q9,.d 1 ki,.d 2 ki,.d 6 ki,.d 7 ki]
def re:List SE:=[.own 0 q9,.d 1 ki,.d 2 ki,.d 6 ki]
def Ib:List SE:=[]
def O8:Nat->Option (Lo Ib)
 | 2=>some ⟨qJ,ff wF⟩
 | 0=>some ⟨re,cV pr⟩
 | _=>none
def Ej:List (Nat×SS):=[(280,iS Wt)]
def ED:En:=zI 49 tt Ej Ib O8 [0] fun _=>none
def Wo:Nat->Option (St->Tr St)
 | 6=>some (lI ED (opsOf (bh 6 (ak Tryz.f274))) [7] [(15,2),(15,3),(15,4)])
 | _=>none
def Cz:En:=zI 49 tt Ej Ib O8 [0] (Wo)
theorem Q2 (x:bL qJ):(dj Cz 2 qJ (bc 2 (ak Tryz.f274)) x).run=ff vW x:=by kernel_rfl
theorem QR (x:bL re):(dj Cz 0 re (bc 0 (ak Tryz.f274)) x).run=cV wK x:=by kernel_rfl
theorem t274 (x:PT Nl.ps):(F7 Cz (ak Tryz.f274) Tryz.f274.results.toList Nl.ps Nl.rs true x).run=Sg x.1.1 x.2.1.1 x.2.2.1.1:=by kernel_rfl
theorem CM:dq Tryz.prog Cz:=da (l:=Ej) ⟨PI,trivial⟩
theorem Hi:dq Tryz.prog ED:=da (l:=Ej) ⟨PI,trivial⟩
theorem Q5:cP Tryz.prog Cz (bh 6 (ak Tryz.f274)) (lI ED (opsOf (bh 6 (ak Tryz.f274))) [7] [(15,2),(15,3),(15,4)]) :=
 gD rfl rfl (yx (E:=ED) (lC hT) Hi eP (c:=(bh 6 (ak Tryz.f274))) (id:=6) (by kernel_rfl))
theorem SD:cw Tryz.prog Cz 2 (.loop (bc 2 (ak Tryz.f274))) ⟨qJ,ff wF⟩ :=
 eC (lC hT) CM eP (step:=fun (x:bL qJ)=>vW x.1 x.2.1 x.2.2.1 x.2.2.2.1 x.2.2.2.2.1) Q2 (ba [] (by kernel_rfl) trivial [(6,bh 6 (ak Tryz.f274))] (by kernel_rfl) ⟨xV rfl Q5,trivial⟩)
theorem Rv:cw Tryz.prog Cz 0 (.loop (bc 0 (ak Tryz.f274))) ⟨re,cV pr⟩ :=
 eC (lC hT) CM eP (step:=fun (x:bL re)=>wK x.1 x.2.1 x.2.2.1 x.2.2.2.1) QR (ba [(2,.loop (bc 2 (ak Tryz.f274)))] (by kernel_rfl) ⟨ma rfl SD,trivial⟩ [] (by kernel_rfl) trivial)
theorem To:ar Tryz.prog 274 Nl :=
 qv (E:=Cz) (lC hT) CM eP (fn:=Tryz.f274) (c:=(ak Tryz.f274)) (by kernel_rfl) (by kernel_rfl) (by kernel_rfl) rfl (ba [(0,.loop (bc 0 (ak Tryz.f274)))] (by kernel_rfl) ⟨ma rfl Rv,trivial⟩ [] (by kernel_rfl) trivial) fun x y h=>⟨y.1,fun _=>rfl,(t274 x).trans h⟩
def TR (p0:List R9) (p1 p2 p3:Int):Option Y25 :=
 cond (bH (aM .i64 p2 p1) 12) (
 (Sg p0 p1 p2).bind fun y1 =>
 some ((y1.1.1,()),())
 ) (
 cond (aq p3 0) (
 none
 ) (
 none
 )
 )
def aa6:Su:=⟨[.io false [q9],.c false [ki],.c false [ki],.c false [ki]],[],true,.inl fun x=>TR x.1.1 x.2.1.1 x.2.2.1.1 x.2.2.2.1.1⟩
theorem U3:ar Tryz.prog 218 aa6 :=
 fl (ac To an) [] [] [0] Tryz.f218 cM
def Cm (p0:List R9):Option Y25 :=
 let u1:=(ae p0)
 (FD (bG .u64 u1)).bind fun y1 =>
 (TR p0 0 u1 y1.2.1.1).bind fun y2 =>
 some ((y2.1.1,()),())
def Yz:Su:=⟨[.io false [q9]],[],true,.inl fun x=>Cm x.1.1⟩
theorem Vd:ar Tryz.prog 172 Yz :=
 fl (ac Ow (ac U3 an)) [] [] [0] Tryz.f172 cM
def Ah (t0:List R9) (t3:Int):Rd ((List R9)×Int×Unit) ((List R9)×Unit) :=
 let u1:=(ae t0)
 cond (au t3 u1) (
 cond (aR t3 t0) (
 let u2:=(aM .i64 t3 1)
 cond (aR u2 t0) (
 cond (cr (gt d9 t0 t3).1 (gt d9 t0 u2).1) (
 let u3:=(dP t3 u1 t0)
 cond u3 (
 let u4:=(sub t0 t3 u1)
 cond (au 1 (ae u4)) (
 cond (aR 1 u4) (
 let u5:=(aM .i64 1 1)
 cond (aR u5 u4) (
 cond (!(cr (gt d9 u4 1).1 (gt d9 u4 u5).1)) (
 cond (aR 1 u4) (
 cond (aR t3 t0) (
 none
 ) none
 ) none
 ) (
 none
 )
 ) none
 ) none
 ) (
 cond u3 (
 let u5:=(zl d9 t0 t3)
 cond (dP 0 t3 u5) (
 some (.inr (.inr ((P6 u5 t3),())))
 ) none
 ) none
 )
 ) none
 ) (
 some (.inl (t0,(aj .i64 t3 1),()))
 )
 ) none
 ) none
 ) (
 some (.inr (.inl (t0,t3,())))
 )
def vk:=OJ (af (wI Ah))
def Gx (p0:List R9):Option SV :=
 cond (au (ae p0) 2) (
 some ((),((p0,()),()))
 ) (
 (vk p0 1).bind (Sum.elim (fun y1 =>
 some ((),((y1.1,()),()))
 ) (fun y1 =>
 some ((),(y1,()))
 ))
 )
def Mo:Su:=⟨[.mv q9],[(false,[q9])],true,.inl fun x=>Gx x.1⟩
def rJ:List SE:=[.own 0 q9,.d 3 ki]
def P7:List SE:=[.own 2 q9]
def Uv:Nat->Option (Lo P7)
 | 0=>some ⟨rJ,wI vk⟩
 | _=>none
def OH:List (Nat×SS):=[]
def Tk:Nat->Option (St->Tr St)
 | 14=>some (su 54 55 56 0 3 UM)
 | _=>none
def Dh:En:=zI 61 tt OH P7 Uv [] (Tk)
theorem Ru (x:bL rJ):(dj Dh 0 rJ (bc 0 (ak Tryz.f173)) x).run=wI Ah x:=by kernel_rfl
theorem t173 (x:PT Mo.ps):(F7 Dh (ak Tryz.f173) Tryz.f173.results.toList Mo.ps Mo.rs true x).run=Gx x.1:=by kernel_rfl
theorem KU:dq Tryz.prog Dh:=da (l:=OH) trivial
theorem Mn:cP Tryz.prog Dh (bh 14 (ak Tryz.f173)) (su 54 55 56 0 3 UM) :=
 yU (E:=Dh) (lC hT) (rid:=14) (ta:=54) (tb:=55) (tc:=56) (t0:=0) (tI:=3) (ty:=112) (o1:=fO (bh 14 (ak Tryz.f173)) 0) (o2:=fO (bh 14 (ak Tryz.f173)) 1) (o3:=fO (bh 14 (ak Tryz.f173)) 2) (o4:=fO (bh 14 (ak Tryz.f173)) 3) (c:=AD (fO (bh 14 (ak Tryz.f173)) 3)) (te:=⟨false,UM,0,16,[]⟩)
  (by kernel_rfl) (by kernel_rfl) (by kernel_rfl) (by kernel_rfl) (by kernel_rfl) (by kernel_rfl) (by kernel_rfl) (by kernel_rfl) (by kernel_rfl) (by kernel_rfl) (by kernel_rfl) (by kernel_rfl) (by kernel_rfl) (by kernel_rfl) (by kernel_rfl) (by kernel_rfl) (by kernel_rfl) (by kernel_rfl) (by kernel_rfl) (by kernel_rfl) (by kernel_rfl)
theorem Q1:cw Tryz.prog Dh 0 (.loop (bc 0 (ak Tryz.f173))) ⟨rJ,wI vk⟩ :=
 eC (lC hT) KU eP (step:=fun (x:bL rJ)=>Ah x.1 x.2.1) Ru (ba [] (by kernel_rfl) trivial [(14,bh 14 (ak Tryz.f173))] (by kernel_rfl) ⟨xV rfl Mn,trivial⟩)
theorem V3:ar Tryz.prog 173 Mo :=
 qv (E:=Dh) (lC hT) KU eP (fn:=Tryz.f173) (c:=(ak Tryz.f173)) (by kernel_rfl) (by kernel_rfl) (by kernel_rfl) rfl (ba [(0,.loop (bc 0 (ak Tryz.f173)))] (by kernel_rfl) ⟨ma rfl Q1,trivial⟩ [] (by kernel_rfl) trivial) fun x y h=>⟨y.1,fun _=>rfl,(t173 x).trans h⟩
def LS (p0:List R5):Option SV :=
 (Om p0).bind fun y1 =>
 (Oe y1.2.1).bind fun y2 =>
 cond (cond (!(aq y1.2.2.1.1 0)) true (!(aq y2.2.2.1.1 0))) (
 c19
 ) (
 cond (aq y2.2.1.1 6) (
 cond (bY 16 [(y2.2.1.2.1,())] [(y2.2.1.2.2.1,())]) (
 (Cm (jn [(y2.2.1.2.1,())] [(y2.2.1.2.2.1,())])).bind fun y3 =>
 let u1:=(Gx y3.1.1.1)
 Option.bind u1 fun y4 =>
 some ((),(y4.2.1,()))
 ) none
 ) (
 (Cm [(y2.2.1.2.1,())]).bind fun y3 =>
 let u1:=(Gx y3.1.1.1)
 Option.bind u1 fun y4 =>
 some ((),(y4.2.1,()))
 )
 )
def ZO:Su:=⟨[.c false [q5]],[(false,[q9])],true,.inl fun x=>LS x.1.1⟩
theorem Vj:ar Tryz.prog 110 ZO :=
 fq (ac VC (ac Vw (ac Vd (ac V3 an)))) Tryz.f110
def LQ (p0:Int):Option ed :=
 some ((),(((!(aq p0 p0)),()),()))
def ZA:Su:=⟨[.c false [ki]],[(false,[.bool])],true,.inl fun x=>LQ x.1.1⟩
theorem TC:ar Tryz.prog 303 ZA :=
 fq an Tryz.f303
def NZ (p0 p1:Int):Option ed :=
 (LQ p0).bind fun y1 =>
 cond y1.2.1.1 (
 (LQ p1).bind fun y2 =>
 some ((),(((cond (!y2.2.1.1) true (au p0 p1)),()),()))
 ) (
 some ((),(((au p0 p1),()),()))
 )
def T7:Su:=⟨[.c false [ki],.c false [ki]],[(false,[.bool])],true,.inl fun x=>NZ x.1.1 x.2.1.1⟩
theorem Pt:ar Tryz.prog 266 T7 :=
 fq (ac TC an) Tryz.f266
def vq (t0:List R3) (t1 t2 t6 t7:Int):Rd ((List R3)×Int×Int×Int×Int×Unit) Unit :=
 cond (au t1 t7) (
 cond (aR t7 t0) (
 let u1:=(aM .i64 t7 1)
 cond (aR u1 t0) (
 let u2:=(gt d3 t0 t7)
 let u3:=(gt d3 t0 u1)
 (NZ u2.1 u3.1).bind fun y1 =>
 cond y1.2.1.1 (
 cond (aR u1 t0) (
 cond (aR t7 t0) (
 cond (aR t7 t0) (
 let u4:=(jo t0 t7 u3)
 cond (aR u1 u4) (
 some (.inl ((jo u4 u1 u2),t1,t2,t6,u1,()))
 ) none
 ) none
 ) none
 ) none
 ) (
 some (.inr (.inl (t0,t1,t2,t6,t7,())))
 )
 ) none
 ) none
 ) (
 some (.inr (.inl (t0,t1,t2,t6,t7,())))
 )
def vP:=xS (af (ff vq))
def xI (t0:List R3) (t1 t2 t6:Int):Rd ((List R3)×Int×Int×Int×Unit) Unit :=
 cond (au t6 t2) (
 (vP t0 t1 t2 t6 t6).bind (Sum.elim (fun y1 =>
 some (.inl (y1.1,y1.2.1,y1.2.2.1,(aj .i64 y1.2.2.2.1 1),()))
 ) (fun _ =>
 some (.inr (.inr ()))
 ))
 ) (
 some (.inr (.inl (t0,t1,t2,t6,())))
 )
def lP:=mj (af (cV xI))
def Rg (p0:List R3) (p1 p2:Int):Option YQ :=
 (lP p0 p1 p2 (aj .i64 p1 1)).bind (Sum.elim (fun y1 =>
 some (((y1.1,()),()),())
 ) (fun _ =>
 none
 ))
def NK:Su:=⟨[.io false [q3],.c false [ki],.c false [ki]],[],true,.inl fun x=>Rg x.1.1 x.2.1.1 x.2.2.1.1⟩
def rh:List SE:=[.own 0 q3,.d 1 ki,.d 2 ki,.d 6 ki,.d 7 ki]
def qu:List SE:=[.own 0 q3,.d 1 ki,.d 2 ki,.d 6 ki]
def Ls:List SE:=[]
def OU:Nat->Option (Lo Ls)
 | 2=>some ⟨rh,ff vP⟩
 | 0=>some ⟨qu,cV lP⟩
 | _=>none
def EE:List (Nat×SS):=[(266,iS T7)]
def EB:En:=zI 49 tt EE Ls OU [0] fun _=>none
def Ww:Nat->Option (St->Tr St)
 | 6=>some (lI EB (opsOf (bh 6 (ak Tryz.f260))) [7] [(15,2),(15,3),(15,4)])
 | _=>none
def B0:En:=zI 49 tt EE Ls OU [0] (Ww)
theorem Q6 (x:bL rh):(dj B0 2 rh (bc 2 (ak Tryz.f260)) x).run=ff vq x:=by kernel_rfl
theorem SF (x:bL qu):(dj B0 0 qu (bc 0 (ak Tryz.f260)) x).run=cV xI x:=by kernel_rfl
theorem t260 (x:PT NK.ps):(F7 B0 (ak Tryz.f260) Tryz.f260.results.toList NK.ps NK.rs true x).run=Rg x.1.1 x.2.1.1 x.2.2.1.1:=by kernel_rfl
theorem Dz:dq Tryz.prog B0:=da (l:=EE) ⟨Pt,trivial⟩
theorem Gw:dq Tryz.prog EB:=da (l:=EE) ⟨Pt,trivial⟩
theorem Qe:cP Tryz.prog B0 (bh 6 (ak Tryz.f260)) (lI EB (opsOf (bh 6 (ak Tryz.f260))) [7] [(15,2),(15,3),(15,4)]) :=
 gD rfl rfl (yx (E:=EB) (lC hT) Gw eP (c:=(bh 6 (ak Tryz.f260))) (id:=6) (by kernel_rfl))
theorem SK:cw Tryz.prog B0 2 (.loop (bc 2 (ak Tryz.f260))) ⟨rh,ff vP⟩ :=
 eC (lC hT) Dz eP (step:=fun (x:bL rh)=>vq x.1 x.2.1 x.2.2.1 x.2.2.2.1 x.2.2.2.2.1) Q6 (ba [] (by kernel_rfl) trivial [(6,bh 6 (ak Tryz.f260))] (by kernel_rfl) ⟨xV rfl Qe,trivial⟩)
theorem QD:cw Tryz.prog B0 0 (.loop (bc 0 (ak Tryz.f260))) ⟨qu,cV lP⟩ :=
 eC (lC hT) Dz eP (step:=fun (x:bL qu)=>xI x.1 x.2.1 x.2.2.1 x.2.2.2.1) SF (ba [(2,.loop (bc 2 (ak Tryz.f260)))] (by kernel_rfl) ⟨ma rfl SK,trivial⟩ [] (by kernel_rfl) trivial)
theorem VQ:ar Tryz.prog 260 NK :=
 qv (E:=B0) (lC hT) Dz eP (fn:=Tryz.f260) (c:=(ak Tryz.f260)) (by kernel_rfl) (by kernel_rfl) (by kernel_rfl) rfl (ba [(0,.loop (bc 0 (ak Tryz.f260)))] (by kernel_rfl) ⟨ma rfl QD,trivial⟩ [] (by kernel_rfl) trivial) fun x y h=>⟨y.1,fun _=>rfl,(t260 x).trans h⟩
def VR (p0:List R3) (p1 p2 p3:Int):Option YQ :=
 cond (bH (aM .i64 p2 p1) 12) (
 (Rg p0 p1 p2).bind fun y1 =>
 some ((y1.1.1,()),())
 ) (
 cond (aq p3 0) (
 none
 ) (
 none
 )
 )
def Zi:Su:=⟨[.io false [q3],.c false [ki],.c false [ki],.c false [ki]],[],true,.inl fun x=>VR x.1.1 x.2.1.1 x.2.2.1.1 x.2.2.2.1.1⟩
theorem Wl:ar Tryz.prog 207 Zi :=
 fl (ac VQ an) [] [] [0] Tryz.f207 cM
def vd (p0:List R3):Option YQ :=
 let u1:=(ae p0)
 (FD (bG .u64 u1)).bind fun y1 =>
 (VR p0 0 u1 y1.2.1.1).bind fun y2 =>
 some ((y2.1.1,()),())
def XY:Su:=⟨[.io false [q3]],[],true,.inl fun x=>vd x.1.1⟩
theorem Wj:ar Tryz.prog 169 XY :=
 fl (ac Ow (ac Wl an)) [] [] [0] Tryz.f169 cM
def Aa (t0:List R3) (t3:Int):Rd ((List R3)×Int×Unit) Y2 :=
 let u1:=(ae t0)
 cond (au t3 u1) (
 cond (aR t3 t0) (
 let u2:=(aM .i64 t3 1)
 cond (aR u2 t0) (
 cond (aq (gt d3 t0 t3).1 (gt d3 t0 u2).1) (
 let u3:=(dP t3 u1 t0)
 cond u3 (
 let u4:=(sub t0 t3 u1)
 cond (au 1 (ae u4)) (
 cond (aR 1 u4) (
 let u5:=(aM .i64 1 1)
 cond (aR u5 u4) (
 cond (!(aq (gt d3 u4 1).1 (gt d3 u4 u5).1)) (
 cond (aR 1 u4) (
 cond (aR t3 t0) (
 none
 ) none
 ) none
 ) (
 none
 )
 ) none
 ) none
 ) (
 cond u3 (
 let u5:=(zl d3 t0 t3)
 cond (dP 0 t3 u5) (
 some (.inr (.inr ((P6 u5 t3),())))
 ) none
 ) none
 )
 ) none
 ) (
 some (.inl (t0,(aj .i64 t3 1),()))
 )
 ) none
 ) none
 ) (
 some (.inr (.inl (t0,t3,())))
 )
def uM:=OJ (af (wI Aa))
def HF (p0:List R3):Option P3 :=
 cond (au (ae p0) 2) (
 some ((),((p0,()),()))
 ) (
 (uM p0 1).bind (Sum.elim (fun y1 =>
 some ((),((y1.1,()),()))
 ) (fun y1 =>
 some ((),(y1,()))
 ))
 )
def Mc:Su:=⟨[.mv q3],[(false,[q3])],true,.inl fun x=>HF x.1⟩
def ru:List SE:=[.own 0 q3,.d 3 ki]
def PM:List SE:=[.own 2 q3]
def Wi:Nat->Option (Lo PM)
 | 0=>some ⟨ru,wI uM⟩
 | _=>none
def Oo:List (Nat×SS):=[]
def UR:Nat->Option (St->Tr St)
 | 14=>some (su 54 55 56 0 3 l0)
 | _=>none
def DS:En:=zI 61 tt Oo PM Wi [] (UR)
theorem Qz (x:bL ru):(dj DS 0 ru (bc 0 (ak Tryz.f170)) x).run=wI Aa x:=by kernel_rfl
theorem t170 (x:PT Mc.ps):(F7 DS (ak Tryz.f170) Tryz.f170.results.toList Mc.ps Mc.rs true x).run=HF x.1:=by kernel_rfl
theorem Iq:dq Tryz.prog DS:=da (l:=Oo) trivial
theorem LP:cP Tryz.prog DS (bh 14 (ak Tryz.f170)) (su 54 55 56 0 3 l0) :=
 yU (E:=DS) (lC hT) (rid:=14) (ta:=54) (tb:=55) (tc:=56) (t0:=0) (tI:=3) (ty:=54) (o1:=fO (bh 14 (ak Tryz.f170)) 0) (o2:=fO (bh 14 (ak Tryz.f170)) 1) (o3:=fO (bh 14 (ak Tryz.f170)) 2) (o4:=fO (bh 14 (ak Tryz.f170)) 3) (c:=AD (fO (bh 14 (ak Tryz.f170)) 3)) (te:=⟨false,l0,0,8,[]⟩)
  (by kernel_rfl) (by kernel_rfl) (by kernel_rfl) (by kernel_rfl) (by kernel_rfl) (by kernel_rfl) (by kernel_rfl) (by kernel_rfl) (by kernel_rfl) (by kernel_rfl) (by kernel_rfl) (by kernel_rfl) (by kernel_rfl) (by kernel_rfl) (by kernel_rfl) (by kernel_rfl) (by kernel_rfl) (by kernel_rfl) (by kernel_rfl) (by kernel_rfl) (by kernel_rfl)
theorem RE:cw Tryz.prog DS 0 (.loop (bc 0 (ak Tryz.f170))) ⟨ru,wI uM⟩ :=
 eC (lC hT) Iq eP (step:=fun (x:bL ru)=>Aa x.1 x.2.1) Qz (ba [] (by kernel_rfl) trivial [(14,bh 14 (ak Tryz.f170))] (by kernel_rfl) ⟨xV rfl LP,trivial⟩)
theorem VF:ar Tryz.prog 170 Mc :=
 qv (E:=DS) (lC hT) Iq eP (fn:=Tryz.f170) (c:=(ak Tryz.f170)) (by kernel_rfl) (by kernel_rfl) (by kernel_rfl) rfl (ba [(0,.loop (bc 0 (ak Tryz.f170)))] (by kernel_rfl) ⟨ma rfl RE,trivial⟩ [] (by kernel_rfl) trivial) fun x y h=>⟨y.1,fun _=>rfl,(t170 x).trans h⟩
def pD (t1:Int) (t5:List R3) (t9:List R9) (t10 t11:Int):Rd (Int×(List R3)×(List R9)×Int×Int×Unit) Unit :=
 cond (au t11 t10) (
 cond (aR t11 t9) (
 (Kh (gt d9 t9 t11).1 t1).bind fun y1 =>
 cond (bY 8 t5 [y1.2.1]) (
 some (.inl (t1,(jn t5 [y1.2.1]),t9,t10,(aj .i64 t11 1),()))
 ) none
 ) none
 ) (
 some (.inr (.inl (t1,t5,t9,t10,t11,())))
 )
def Jq:=xS (af (ff pD))
def MY (p0:List R9) (p1:Int):Option P3 :=
 (Jq p1 [] p0 (ae p0) 0).bind (Sum.elim (fun y1 =>
 (vd y1.2.1).bind fun y2 =>
 (HF y2.1.1.1).bind fun y3 =>
 some ((),(y3.2.1,()))
 ) (fun _ =>
 none
 ))
def ZC:Su:=⟨[.c false [q9],.c false [ki]],[(false,[q3])],true,.inl fun x=>MY x.1.1 x.2.1.1⟩
theorem VO:ar Tryz.prog 109 ZC :=
 fl (ac PS (ac Wj (ac VF an))) [] [(0,⟨[.d 1 ki,.own 5 q3,.d 9 q9,.d 10 ki,.d 11 ki],af (ff pD)⟩)] [] Tryz.f109 (lp [0] (sc cM sn))
def WZ (p0:(List R5)×Int×(List R3)×Int×Int×Int×Int×Int×(List R5)×Unit) (p1:Int):Option P3 :=
 (LS p0.1).bind fun y1 =>
 (MY y1.2.1.1 p1).bind fun y2 =>
 some ((),(y2.2.1,()))
def s54:Su:=⟨[.c true [q5,ki,q3,ki,ki,ki,ki,ki,q5],.c false [ki]],[(false,[q3])],true,.inl fun x=>WZ x.1 x.2.1.1⟩
theorem aaJ:ar Tryz.prog 54 s54 :=
 fq (ac Vj (ac VO an)) Tryz.f54
def Kp (t0 t1:List R3) (t12 t13:Int):Rd ((List R3)×(List R3)×Int×Int×Unit) Y1 :=
 cond (au t13 t12) (
 cond (aR t13 t0) (
 cond (aR t13 t1) (
 cond (!(aq (gt d3 t0 t13).1 (gt d3 t1 t13).1)) (
 some (.inr (.inr (false,())))
 ) (
 some (.inl (t0,t1,t12,(aj .i64 t13 1),()))
 )
 ) none
 ) none
 ) (
 some (.inr (.inl (t0,t1,t12,t13,())))
 )
def Sw:=mj (af (cV Kp))
def RN (p0 p1:List R3):Option ed :=
 let u1:=(ae p0)
 cond (!(aq u1 (ae p1))) (
 c0
 ) (
 (Sw p0 p1 u1 0).bind (Sum.elim (fun _ =>
 c2
 ) (fun y1 =>
 some ((),(y1,()))
 ))
 )
def aai:Su:=⟨[.c false [q3],.c false [q3]],[(false,[.bool])],true,.inl fun x=>RN x.1.1 x.2.1.1⟩
theorem Ui:ar Tryz.prog 133 aai :=
 fl an [.d 4 .bool] [(0,⟨[.d 0 q3,.d 1 q3,.d 12 ki,.d 13 ki],af (cV Kp)⟩)] [] Tryz.f133 (lp [0] (sc cM sn))
def Uz (p0:(List R5)×Int×(List R3)×Int×Int×Int×Int×Int×(List R5)×Unit) (p1:Int):Option ed :=
 (nL p1 1 5).bind fun y1 =>
 cond (!y1.2.1.1) (
 c0
 ) (
 (UE p0.2.1).bind fun y2 =>
 let u1:=(ae p0.2.2.2.2.2.2.2.2.1)
 cond (cond (cond (cr y2.2.1.1 []) true (au 300 (ae p0.1))) true (au 200 u1)) (
 c0
 ) (
 (ua p0.2.2.2.2.1).bind fun y3 =>
 cond (!y3.2.1.1) (
 c0
 ) (
 (ua p0.2.2.2.2.2.2.2.1).bind fun y4 =>
 cond (!y4.2.1.1) (
 c0
 ) (
 cond (aq p0.2.1 0) (
 let u2:=(ae p0.2.2.1)
 cond (au 0 u2) (
 c0
 ) (
 cond (aq p0.2.1 1) (
 let u3:=(nL p0.2.2.2.1 0 (aM .i64 u2 1))
 Option.bind u3 fun y5 =>
 cond (!y5.2.1.1) (
 c0
 ) (
 cond (au p0.2.1 3) (
 some ((),(((cond (cond (cond (aq p0.2.2.2.2.2.1 (-1)) (aq p0.2.2.2.2.2.2.1 (-1)) false) (aq p0.2.2.2.2.2.2.2.1 0) false) (aq u1 0) false),()),()))
 ) (
 let u4:=(ua p0.2.2.2.2.2.1)
 Option.bind u4 fun y6 =>
 let u5:=(cond (!y6.2.1.1) true (au p0.2.2.2.2.2.1 p0.2.2.2.2.1))
 cond u5 (
 c0
 ) (
 cond (aq p0.2.1 5) (
 let u6:=(ua p0.2.2.2.2.2.2.1)
 Option.bind u6 fun y7 =>
 some ((),(((cond y7.2.1.1 (bH p0.2.2.2.2.2.1 p0.2.2.2.2.2.2.1) false),()),()))
 ) (
 some ((),(((aq p0.2.2.2.2.2.2.1 (-1)),()),()))
 )
 )
 )
 )
 ) (
 cond (aq p0.2.1 2) (
 cond (!(cond (aq p0.2.2.2.1 u2) (au 0 u2) false)) (
 c0
 ) (
 cond (au p0.2.1 3) (
 some ((),(((cond (cond (cond (aq p0.2.2.2.2.2.1 (-1)) (aq p0.2.2.2.2.2.2.1 (-1)) false) (aq p0.2.2.2.2.2.2.2.1 0) false) (aq u1 0) false),()),()))
 ) (
 let u3:=(ua p0.2.2.2.2.2.1)
 Option.bind u3 fun y5 =>
 let u4:=(cond (!y5.2.1.1) true (au p0.2.2.2.2.2.1 p0.2.2.2.2.1))
 cond u4 (
 c0
 ) (
 cond (aq p0.2.1 5) (
 let u5:=(ua p0.2.2.2.2.2.2.1)
 Option.bind u5 fun y6 =>
 some ((),(((cond y6.2.1.1 (bH p0.2.2.2.2.2.1 p0.2.2.2.2.2.2.1) false),()),()))
 ) (
 some ((),(((aq p0.2.2.2.2.2.2.1 (-1)),()),()))
 )
 )
 )
 )
 ) (
 cond (aq p0.2.1 3) (
 let u3:=(nL p0.2.2.2.1 1 u2)
 Option.bind u3 fun y5 =>
 cond (!y5.2.1.1) (
 c0
 ) (
 cond (au p0.2.1 3) (
 some ((),(((cond (cond (cond (aq p0.2.2.2.2.2.1 (-1)) (aq p0.2.2.2.2.2.2.1 (-1)) false) (aq p0.2.2.2.2.2.2.2.1 0) false) (aq u1 0) false),()),()))
 ) (
 let u4:=(ua p0.2.2.2.2.2.1)
 Option.bind u4 fun y6 =>
 let u5:=(cond (!y6.2.1.1) true (au p0.2.2.2.2.2.1 p0.2.2.2.2.1))
 cond u5 (
 c0
 ) (
 cond (aq p0.2.1 5) (
 let u6:=(ua p0.2.2.2.2.2.2.1)
 Option.bind u6 fun y7 =>
 some ((),(((cond y7.2.1.1 (bH p0.2.2.2.2.2.1 p0.2.2.2.2.2.2.1) false),()),()))
 ) (
 some ((),(((aq p0.2.2.2.2.2.2.1 (-1)),()),()))
 )
 )
 )
 )
 ) (
 cond (!(aq p0.2.2.2.1 0)) (
 c0
 ) (
 cond (au p0.2.1 3) (
 some ((),(((cond (cond (cond (aq p0.2.2.2.2.2.1 (-1)) (aq p0.2.2.2.2.2.2.1 (-1)) false) (aq p0.2.2.2.2.2.2.2.1 0) false) (aq u1 0) false),()),()))
 ) (
 let u3:=(ua p0.2.2.2.2.2.1)
 Option.bind u3 fun y5 =>
 let u4:=(cond (!y5.2.1.1) true (au p0.2.2.2.2.2.1 p0.2.2.2.2.1))
 cond u4 (
 c0
 ) (
 cond (aq p0.2.1 5) (
 let u5:=(ua p0.2.2.2.2.2.2.1)
 Option.bind u5 fun y6 =>
 some ((),(((cond y6.2.1.1 (bH p0.2.2.2.2.2.1 p0.2.2.2.2.2.2.1) false),()),()))
 ) (
 some ((),(((aq p0.2.2.2.2.2.2.1 (-1)),()),()))
 )
 )
 )
 )
 )
 )
 )
 )
 ) (
 (WZ p0 p1).bind fun y5 =>
 (RN p0.2.2.1 y5.2.1.1).bind fun y6 =>
 cond (!y6.2.1.1) (
 c0
 ) (
 cond (aq p0.2.1 1) (
 let u2:=(ae p0.2.2.1)
 let u3:=(nL p0.2.2.2.1 0 (aM .i64 u2 1))
 Option.bind u3 fun y7 =>
 cond (!y7.2.1.1) (
 c0
 ) (
 cond (au p0.2.1 3) (
 some ((),(((cond (cond (cond (aq p0.2.2.2.2.2.1 (-1)) (aq p0.2.2.2.2.2.2.1 (-1)) false) (aq p0.2.2.2.2.2.2.2.1 0) false) (aq u1 0) false),()),()))
 ) (
 let u4:=(ua p0.2.2.2.2.2.1)
 Option.bind u4 fun y8 =>
 let u5:=(cond (!y8.2.1.1) true (au p0.2.2.2.2.2.1 p0.2.2.2.2.1))
 cond u5 (
 c0
 ) (
 cond (aq p0.2.1 5) (
 let u6:=(ua p0.2.2.2.2.2.2.1)
 Option.bind u6 fun y9 =>
 some ((),(((cond y9.2.1.1 (bH p0.2.2.2.2.2.1 p0.2.2.2.2.2.2.1) false),()),()))
 ) (
 some ((),(((aq p0.2.2.2.2.2.2.1 (-1)),()),()))
 )
 )
 )
 )
 ) (
 cond (aq p0.2.1 2) (
 let u2:=(ae p0.2.2.1)
 cond (!(cond (aq p0.2.2.2.1 u2) (au 0 u2) false)) (
 c0
 ) (
 cond (au p0.2.1 3) (
 some ((),(((cond (cond (cond (aq p0.2.2.2.2.2.1 (-1)) (aq p0.2.2.2.2.2.2.1 (-1)) false) (aq p0.2.2.2.2.2.2.2.1 0) false) (aq u1 0) false),()),()))
 ) (
 let u3:=(ua p0.2.2.2.2.2.1)
 Option.bind u3 fun y7 =>
 let u4:=(cond (!y7.2.1.1) true (au p0.2.2.2.2.2.1 p0.2.2.2.2.1))
 cond u4 (
 c0
 ) (
 cond (aq p0.2.1 5) (
 let u5:=(ua p0.2.2.2.2.2.2.1)
 Option.bind u5 fun y8 =>
 some ((),(((cond y8.2.1.1 (bH p0.2.2.2.2.2.1 p0.2.2.2.2.2.2.1) false),()),()))
 ) (
 some ((),(((aq p0.2.2.2.2.2.2.1 (-1)),()),()))
 )
 )
 )
 )
 ) (
 cond (aq p0.2.1 3) (
 let u2:=(ae p0.2.2.1)
 let u3:=(nL p0.2.2.2.1 1 u2)
 Option.bind u3 fun y7 =>
 cond (!y7.2.1.1) (
 c0
 ) (
 cond (au p0.2.1 3) (
 some ((),(((cond (cond (cond (aq p0.2.2.2.2.2.1 (-1)) (aq p0.2.2.2.2.2.2.1 (-1)) false) (aq p0.2.2.2.2.2.2.2.1 0) false) (aq u1 0) false),()),()))
 ) (
 let u4:=(ua p0.2.2.2.2.2.1)
 Option.bind u4 fun y8 =>
 let u5:=(cond (!y8.2.1.1) true (au p0.2.2.2.2.2.1 p0.2.2.2.2.1))
 cond u5 (
 c0
 ) (
 cond (aq p0.2.1 5) (
 let u6:=(ua p0.2.2.2.2.2.2.1)
 Option.bind u6 fun y9 =>
 some ((),(((cond y9.2.1.1 (bH p0.2.2.2.2.2.1 p0.2.2.2.2.2.2.1) false),()),()))
 ) (
 some ((),(((aq p0.2.2.2.2.2.2.1 (-1)),()),()))
 )
 )
 )
 )
 ) (
 cond (!(aq p0.2.2.2.1 0)) (
 c0
 ) (
 cond (au p0.2.1 3) (
 some ((),(((cond (cond (cond (aq p0.2.2.2.2.2.1 (-1)) (aq p0.2.2.2.2.2.2.1 (-1)) false) (aq p0.2.2.2.2.2.2.2.1 0) false) (aq u1 0) false),()),()))
 ) (
 let u2:=(ua p0.2.2.2.2.2.1)
 Option.bind u2 fun y7 =>
 let u3:=(cond (!y7.2.1.1) true (au p0.2.2.2.2.2.1 p0.2.2.2.2.1))
 cond u3 (
 c0
 ) (
 cond (aq p0.2.1 5) (
 let u4:=(ua p0.2.2.2.2.2.2.1)
 Option.bind u4 fun y8 =>
 some ((),(((cond y8.2.1.1 (bH p0.2.2.2.2.2.1 p0.2.2.2.2.2.2.1) false),()),()))
 ) (
 some ((),(((aq p0.2.2.2.2.2.2.1 (-1)),()),()))
 )
 )
 )
 )
 )
 )
 )
 )
 )
 )
 )
 )
 )
def s75:Su:=⟨[.c true [q5,ki,q3,ki,ki,ki,ki,ki,q5],.c false [ki]],[(false,[.bool])],true,.inl fun x=>Uz x.1 x.2.1.1⟩
theorem YX:ar Tryz.prog 75 s75 :=
 fq (ac nJ (ac JS (ac YZ (ac aaJ (ac Ui an))))) Tryz.f75
def Xq (p0:(List R5)×Int×(List R3)×Int×Int×Int×Int×Int×(List R5)×Unit) (p1:Int):Option ed :=
 let u1:=(Fz 0 (Hj p0.2.2.2.1 (ae p0.2.2.1)))
 cond (dP 0 u1 p0.2.2.1) (
 (Rc (sub p0.2.2.1 0 u1) p1).bind fun y1 =>
 some ((),(y1.2.1,()))
 ) none
def s77:Su:=⟨[.c true [q5,ki,q3,ki,ki,ki,ki,ki,q5],.c false [ki]],[(false,[.bool])],true,.inl fun x=>Xq x.1 x.2.1.1⟩
theorem Zh:ar Tryz.prog 77 s77 :=
 fq (ac SA an) Tryz.f77
def vM (t3:List R3) (t36:List gq) (t37 t38:Int) (t61:List R3) (t62 t63:Int) (b1:(List ea)×Int×Int×(List gq)×Unit):Rd ((List R3)×(List gq)×Int×Int×(List R3)×Int×Int×Dx×Unit) Y1 :=
 cond (au t63 t62) (
 cond (aR t63 t61) (
 let u1:=(gt d3 t61 t63)
 cond (aq u1.1 (-1)) (
 let u2:=(aj .i64 t63 1)
 some (.inl (t3,t36,t37,t38,t61,t62,u2,b1,()))
 ) (
 cond (bH b1.2.2.1 u1.1) (
 some (.inr (.inr (false,())))
 ) (
 (Rc t3 u1.1).bind fun y1 =>
 cond y1.2.1.1 (
 some (.inr (.inr (false,())))
 ) (
 cond (bY 8 t3 [u1]) (
 let u2:=(aj .i64 t63 1)
 some (.inl ((jn t3 [u1]),t36,t37,t38,t61,t62,u2,b1,()))
 ) none
 )
 )
 )
 ) none
 ) (
 some (.inr (.inl (t3,t36,t37,t38,t61,t62,t63,b1,())))
 )
def Pu:=SW (af (yV vM))
def xz (t3:List R3) (t36:List gq) (t37 t38:Int) (b1:(List ea)×Int×Int×(List gq)×Unit):Rd ((List R3)×(List gq)×Int×Int×Dx×Unit) Y1 :=
 cond (au t38 t37) (
 cond (aR t38 t36) (
 let u1:=(gt d62 t36 t38)
 (Uz u1 (ae b1.1)).bind fun y1 =>
 cond (cond (!y1.2.1.1) true (au b1.2.1 u1.2.2.2.2.2.2.2.1)) (
 some (.inr (.inr (false,())))
 ) (
 (Pu t3 t36 t37 t38 [(u1.2.2.2.2.1,()),(u1.2.2.2.2.2.1,()),(u1.2.2.2.2.2.2.1,())] (ae [(u1.2.2.2.2.1,()),(u1.2.2.2.2.2.1,()),(u1.2.2.2.2.2.2.1,())]) 0 b1).bind (Sum.elim (fun y2 =>
 some (.inl (y2.1,y2.2.1,y2.2.2.1,(aj .i64 y2.2.2.2.1 1),y2.2.2.2.2.2.2.2.1,()))
 ) (fun y2 =>
 some (.inr (.inr (y2.1,())))
 ))
 )
 ) none
 ) (
 some (.inr (.inl (t3,t36,t37,t38,b1,())))
 )
def PV:=xS (af (ff xz))
def ve (t8:Int) (t85:List ea) (t86 t87:Int) (t99:List gq) (t100 t101:Int) (b1:(List ea)×Int×Int×(List gq)×Unit) (b9:Int×(List dt)×Unit):Rd (Int×(List ea)×Int×Int×(List gq)×Int×Int×Dx×Wm×Unit) Y1 :=
 cond (au t101 t100) (
 cond (aR t101 t99) (
 (Xq (gt d62 t99 t101) t8).bind fun y1 =>
 cond (!(Kw y1.2.1.1 (aq b9.1 t101))) (
 some (.inr (.inr (false,())))
 ) (
 some (.inl (t8,t85,t86,t87,t99,t100,(aj .i64 t101 1),b1,b9,()))
 )
 ) none
 ) (
 some (.inr (.inl (t8,t85,t86,t87,t99,t100,t101,b1,b9,())))
 )
def Pz:=TB (af (Dl ve))
def vf (t85:List ea) (t86 t87:Int) (b1:(List ea)×Int×Int×(List gq)×Unit):Rd ((List ea)×Int×Int×Dx×Unit) Y1 :=
 cond (au t87 t86) (
 cond (aR t87 t85) (
 let u1:=(ae b1.2.2.2.1)
 let u2:=(gt d89 t85 t87)
 cond (bH u1 u2.1) (
 some (.inr (.inr (false,())))
 ) (
 (Pz t87 t85 t86 t87 b1.2.2.2.1 u1 0 b1 u2).bind (Sum.elim (fun y1 =>
 some (.inl (y1.2.1,y1.2.2.1,(aj .i64 y1.2.2.2.1 1),y1.2.2.2.2.2.2.2.1,()))
 ) (fun y1 =>
 some (.inr (.inr (y1.1,())))
 ))
 )
 ) none
 ) (
 some (.inr (.inl (t85,t86,t87,b1,())))
 )
def O0:=mj (af (cV vf))
def Xi (p0:(List ea)×Int×Int×(List gq)×Unit):Option ed :=
 (Xt p0.1).bind fun y1 =>
 cond (!y1.2.1.1) (
 c0
 ) (
 (ua p0.2.1).bind fun y2 =>
 cond (!y2.2.1.1) (
 c0
 ) (
 (ua p0.2.2.1).bind fun y3 =>
 let u1:=(ae p0.2.2.2.1)
 cond (cond (!y3.2.1.1) true (au 12 u1)) (
 c0
 ) (
 (PV [] p0.2.2.2.1 u1 0 p0).bind (Sum.elim (fun y4 =>
 (O0 y4.2.2.2.2.1.1 (ae y4.2.2.2.2.1.1) 0 y4.2.2.2.2.1).bind (Sum.elim (fun _ =>
 c2
 ) (fun y5 =>
 some ((),(y5,()))
 ))
 ) (fun y4 =>
 some ((),(y4,()))
 ))
 )
 )
 )
def s32:Su:=⟨[.c true [gj,ki,ki,jZ]],[(false,[.bool])],true,.inl fun x=>Xi x.1⟩
theorem aas:ar Tryz.prog 32 s32 :=
 fl (ac JS (ac Yq (ac SA (ac YX (ac Zh an))))) [.d 2 .bool] [(2,⟨[.own 3 q3,.d 36 jZ,.d 37 ki,.d 38 ki,.own 61 q3,.d 62 ki,.d 63 ki,.box 1 [(false,gj),(false,ki),(false,ki),(false,jZ)]],af (yV vM)⟩),(0,⟨[.own 3 q3,.d 36 jZ,.d 37 ki,.d 38 ki,.box 1 [(false,gj),(false,ki),(false,ki),(false,jZ)]],af (ff xz)⟩),(6,⟨[.d 8 ki,.d 85 gj,.d 86 ki,.d 87 ki,.d 99 jZ,.d 100 ki,.d 101 ki,.box 1 [(false,gj),(false,ki),(false,ki),(false,jZ)],.box 9 [(false,ki),(false,fG)]],af (Dl ve)⟩),(4,⟨[.d 85 gj,.d 86 ki,.d 87 ki,.box 1 [(false,gj),(false,ki),(false,ki),(false,jZ)]],af (cV vf)⟩)] [] Tryz.f32 (lp [0,4] (sc (lp [2] (sc cM sn)) (sc (lp [6] (sc cM sn)) sn)))
def wa (t3 t7:List ea) (t8 t9:Int):Rd W4 Unit :=
 cond (au t9 t8) (
 cond (aR t9 t7) (
 let u1:=(gt d89 t7 t9)
 (HE (u1.2.1,())).bind fun y1 =>
 cond (bY 32 t3 [(u1.1,y1.2.1.1,())]) (
 some (.inl ((jn t3 [(u1.1,y1.2.1.1,())]),t7,t8,(aj .i64 t9 1),()))
 ) none
 ) none
 ) (
 some (.inr (.inl (t3,t7,t8,t9,())))
 )
def Pq:=mj (af (cV wa))
def WY (p0:List ea):Option ZM :=
 (Pq [] p0 (ae p0) 0).bind (Sum.elim (fun y1 =>
 some ((),((y1.1,()),()))
 ) (fun _ =>
 none
 ))
def s92:Su:=⟨[.c false [gj]],[(false,[gj])],true,.inl fun x=>WY x.1.1⟩
theorem X9:ar Tryz.prog 92 s92 :=
 fl (ac OY an) [] [(0,⟨[.own 3 gj,.d 7 gj,.d 8 ki,.d 9 ki],af (cV wa)⟩)] [] Tryz.f92 (lp [0] (sc cM sn))
def Xr (p0:(List R5)×Int×(List R3)×Int×Int×Int×Int×Int×(List R5)×Unit):Option Y62 :=
 (Lt p0.1).bind fun y1 =>
 (BQ p0.2.2.1).bind fun y2 =>
 (Lt p0.2.2.2.2.2.2.2.2.1).bind fun y3 =>
 some ((),((y1.2.1.1,p0.2.1,y2.2.1.1,p0.2.2.2.1,p0.2.2.2.2.1,p0.2.2.2.2.2.1,p0.2.2.2.2.2.2.1,p0.2.2.2.2.2.2.2.1,y3.2.1.1,()),()))
def s93:Su:=⟨[.c true [q5,ki,q3,ki,ki,ki,ki,ki,q5]],[(true,[q5,ki,q3,ki,ki,ki,ki,ki,q5])],true,.inl fun x=>Xr x.1⟩
theorem aaj:ar Tryz.prog 93 s93 :=
 fq (ac Sp (ac OX an)) Tryz.f93
def xQ (t15:List gq) (t16 t17:Int) (b2 b3:(List ea)×Int×Int×(List gq)×Unit):Rd ((List gq)×Int×Int×Dx×Dx×Unit) Unit :=
 cond (au t17 t16) (
 cond (aR t17 t15) (
 (Xr (gt d62 t15 t17)).bind fun y1 =>
 cond (bY 120 b3.2.2.2.1 [y1.2.1]) (
 some (.inl (t15,t16,(aj .i64 t17 1),b2,(b3.1,b3.2.1,b3.2.2.1,(jn b3.2.2.2.1 [y1.2.1]),()),()))
 ) none
 ) none
 ) (
 some (.inr (.inl (t15,t16,t17,b2,b3,())))
 )
def On:=xS (af (ff xQ))
def Xf (p0:(List ea)×Int×Int×(List gq)×Unit):Option Y52 :=
 (WY p0.1).bind fun y1 =>
 (On p0.2.2.2.1 (ae p0.2.2.2.1) 0 ([],0,0,[],()) (y1.2.1.1,p0.2.1,p0.2.2.1,[],())).bind (Sum.elim (fun y2 =>
 some ((),(y2.2.2.2.2.1,()))
 ) (fun _ =>
 none
 ))
def s42:Su:=⟨[.c true [gj,ki,ki,jZ]],[(true,[gj,ki,ki,jZ])],true,.inl fun x=>Xf x.1⟩
theorem Yu:ar Tryz.prog 42 s42 :=
 fl (ac X9 (ac aaj an)) [] [(0,⟨[.d 15 jZ,.d 16 ki,.d 17 ki,.box 2 [(true,gj),(false,ki),(false,ki),(true,jZ)],.box 3 [(true,gj),(false,ki),(false,ki),(true,jZ)]],af (ff xQ)⟩)] [] Tryz.f42 (lp [0] (sc cM sn))
def g18 (p0:(List ea)×Int×Int×(List gq)×Unit) (p1:List R5):Option (Unit×(Dx×Y1×Unit)) :=
 (Xe p1 p0.2.2.1).bind fun y1 =>
 (Xi p0).bind fun y2 =>
 cond (cond (cond (cond (!y2.2.1.1) true (aq p0.2.2.1 1000000000)) true (aq (ae p0.2.2.2.1) 12)) true (!y1.2.2.1.1)) (
 some ((),(([],0,0,[],()),(false,()),()))
 ) (
 (Xf p0).bind fun y3 =>
 cond (bY 120 y3.2.1.2.2.2.1 [y1.2.1]) (
 some ((),((y3.2.1.1,y3.2.1.2.1,(aj .i64 y3.2.1.2.2.1 1),(jn y3.2.1.2.2.2.1 [y1.2.1]),()),(true,()),()))
 ) none
 )
def s18:Su:=⟨[.c true [gj,ki,ki,jZ],.c false [q5]],[(true,[gj,ki,ki,jZ]),(false,[.bool])],true,.inl fun x=>g18 x.1 x.2.1.1⟩
theorem Zo:ar Tryz.prog 18 s18 :=
 fq (ac YY (ac aas (ac Yu an))) Tryz.f18
def M3 (p0 p1:(List UInt8)×Int×Int×Unit):Option ed :=
 cond (!(cr p0.1 p1.1)) (
 c0
 ) (
 cond (!(aq p0.2.1 p1.2.1)) (
 c0
 ) (
 cond (!(aq p0.2.2.1 p1.2.2.1)) (
 c0
 ) (
 c2
 )
 )
 )
def Zk:Su:=⟨[.c true [.str,ki,ki],.c true [.str,ki,ki]],[(false,[.bool])],true,.inl fun x=>M3 x.1 x.2.1⟩
theorem Un:ar Tryz.prog 294 Zk :=
 fq an Tryz.f294
def pd (t0 t1:List gw) (t5:Int):Rd ((List gw)×(List gw)×Int×Unit) Y1 :=
 cond (au t5 (ae t0)) (
 cond (aR t5 t0) (
 cond (aR t5 t1) (
 (M3 (gt d95 t0 t5) (gt d95 t1 t5)).bind fun y1 =>
 cond (!y1.2.1.1) (
 some (.inr (.inr (false,())))
 ) (
 some (.inl (t0,t1,(aj .i64 t5 1),()))
 )
 ) none
 ) none
 ) (
 some (.inr (.inl (t0,t1,t5,())))
 )
def HN:=kt (af (dn pd))
def Nq (p0 p1:List gw):Option ed :=
 cond (!(aq (ae p0) (ae p1))) (
 c0
 ) (
 (HN p0 p1 0).bind (Sum.elim (fun _ =>
 c2
 ) (fun y1 =>
 some ((),(y1,()))
 ))
 )
def YK:Su:=⟨[.c false [mi],.c false [mi]],[(false,[.bool])],true,.inl fun x=>Nq x.1.1 x.2.1.1⟩
theorem UY:ar Tryz.prog 253 YK :=
 fl (ac Un an) [.d 4 .bool] [(0,⟨[.d 0 mi,.d 1 mi,.d 5 ki],af (dn pd)⟩)] [] Tryz.f253 (lp [0] (sc cM sn))
def pK (t0 t1:List R3) (t5:Int):Rd ((List R3)×(List R3)×Int×Unit) Y1 :=
 cond (au t5 (ae t0)) (
 cond (aR t5 t0) (
 cond (aR t5 t1) (
 cond (!(aq (gt d3 t0 t5).1 (gt d3 t1 t5).1)) (
 some (.inr (.inr (false,())))
 ) (
 some (.inl (t0,t1,(aj .i64 t5 1),()))
 )
 ) none
 ) none
 ) (
 some (.inr (.inl (t0,t1,t5,())))
 )
def HL:=kt (af (dn pK))
def Fx (p0 p1:List R3):Option ed :=
 cond (!(aq (ae p0) (ae p1))) (
 c0
 ) (
 (HL p0 p1 0).bind (Sum.elim (fun _ =>
 c2
 ) (fun y1 =>
 some ((),(y1,()))
 ))
 )
def X4:Su:=⟨[.c false [q3],.c false [q3]],[(false,[.bool])],true,.inl fun x=>Fx x.1.1 x.2.1.1⟩
theorem OB:ar Tryz.prog 155 X4 :=
 fl an [.d 4 .bool] [(0,⟨[.d 0 q3,.d 1 q3,.d 5 ki],af (dn pK)⟩)] [] Tryz.f155 (lp [0] (sc cM sn))
def Nd (p0 p1:Int×Int×(List R3)×(List R3)×Unit):Option ed :=
 cond (!(aq p0.1 p1.1)) (
 c0
 ) (
 cond (!(aq p0.2.1 p1.2.1)) (
 c0
 ) (
 (Fx p0.2.2.1 p1.2.2.1).bind fun y1 =>
 cond (!y1.2.1.1) (
 c0
 ) (
 (Fx p0.2.2.2.1 p1.2.2.2.1).bind fun y2 =>
 cond (!y2.2.1.1) (
 c0
 ) (
 c2
 )
 )
 )
 )
def aaG:Su:=⟨[.c true [ki,ki,q3,q3],.c true [ki,ki,q3,q3]],[(false,[.bool])],true,.inl fun x=>Nd x.1 x.2.1⟩
theorem US:ar Tryz.prog 254 aaG :=
 fq (ac OB an) Tryz.f254
def xv (t0 t1:List R5) (t5:Int):Rd ((List R5)×(List R5)×Int×Unit) Y1 :=
 cond (au t5 (ae t0)) (
 cond (aR t5 t0) (
 cond (aR t5 t1) (
 cond (!(aq (gt d5 t0 t5).1 (gt d5 t1 t5).1)) (
 some (.inr (.inr (false,())))
 ) (
 some (.inl (t0,t1,(aj .i64 t5 1),()))
 )
 ) none
 ) none
 ) (
 some (.inr (.inl (t0,t1,t5,())))
 )
def PB:=kt (af (dn xv))
def g19 (p0 p1:List R5):Option ed :=
 cond (!(aq (ae p0) (ae p1))) (
 c0
 ) (
 (PB p0 p1 0).bind (Sum.elim (fun _ =>
 c2
 ) (fun y1 =>
 some ((),(y1,()))
 ))
 )
def s19:Su:=⟨[.c false [q5],.c false [q5]],[(false,[.bool])],true,.inl fun x=>g19 x.1.1 x.2.1.1⟩
theorem Qn:ar Tryz.prog 19 s19 :=
 fl an [.d 4 .bool] [(0,⟨[.d 0 q5,.d 1 q5,.d 5 ki],af (dn xv)⟩)] [] Tryz.f19 (lp [0] (sc cM sn))
def Nx (p0 p1:(List UInt8)×(List UInt8)×(List R5)×Unit):Option ed :=
 cond (!(cr p0.1 p1.1)) (
 c0
 ) (
 cond (!(cr p0.2.1 p1.2.1)) (
 c0
 ) (
 (g19 p0.2.2.1 p1.2.2.1).bind fun y1 =>
 cond (!y1.2.1.1) (
 c0
 ) (
 c2
 )
 )
 )
def aay:Su:=⟨[.c true [.str,.str,q5],.c true [.str,.str,q5]],[(false,[.bool])],true,.inl fun x=>Nx x.1 x.2.1⟩
theorem Vk:ar Tryz.prog 295 aay :=
 fq (ac Qn an) Tryz.f295
def nX (t0 t1:List cu) (t5:Int):Rd ((List cu)×(List cu)×Int×Unit) Y1 :=
 cond (au t5 (ae t0)) (
 cond (aR t5 t0) (
 cond (aR t5 t1) (
 (Nx (gt d166 t0 t5) (gt d166 t1 t5)).bind fun y1 =>
 cond (!y1.2.1.1) (
 some (.inr (.inr (false,())))
 ) (
 some (.inl (t0,t1,(aj .i64 t5 1),()))
 )
 ) none
 ) none
 ) (
 some (.inr (.inl (t0,t1,t5,())))
 )
def Kc:=kt (af (dn nX))
def NN (p0 p1:List cu):Option ed :=
 cond (!(aq (ae p0) (ae p1))) (
 c0
 ) (
 (Kc p0 p1 0).bind (Sum.elim (fun _ =>
 c2
 ) (fun y1 =>
 some ((),(y1,()))
 ))
 )
def aae:Su:=⟨[.c false [dQ],.c false [dQ]],[(false,[.bool])],true,.inl fun x=>NN x.1.1 x.2.1.1⟩
theorem Wb:ar Tryz.prog 255 aae :=
 fl (ac Vk an) [.d 4 .bool] [(0,⟨[.d 0 dQ,.d 1 dQ,.d 5 ki],af (dn nX)⟩)] [] Tryz.f255 (lp [0] (sc cM sn))
def Nc (p0 p1:(List UInt8)×Int×Int×Int×Int×(List gw)×Int×Int×(List R3)×(List R3)×(List cu)×Unit):Option ed :=
 cond (!(cr p0.1 p1.1)) (
 c0
 ) (
 cond (!(aq p0.2.1 p1.2.1)) (
 c0
 ) (
 cond (!(aq p0.2.2.1 p1.2.2.1)) (
 c0
 ) (
 cond (!(aq p0.2.2.2.1 p1.2.2.2.1)) (
 c0
 ) (
 cond (!(aq p0.2.2.2.2.1 p1.2.2.2.2.1)) (
 c0
 ) (
 (Nq p0.2.2.2.2.2.1 p1.2.2.2.2.2.1).bind fun y1 =>
 cond (!y1.2.1.1) (
 c0
 ) (
 (Nd (p0.2.2.2.2.2.2.1,p0.2.2.2.2.2.2.2.1,p0.2.2.2.2.2.2.2.2.1,p0.2.2.2.2.2.2.2.2.2.1,()) (p1.2.2.2.2.2.2.1,p1.2.2.2.2.2.2.2.1,p1.2.2.2.2.2.2.2.2.1,p1.2.2.2.2.2.2.2.2.2.1,())).bind fun y2 =>
 cond (!y2.2.1.1) (
 c0
 ) (
 (NN p0.2.2.2.2.2.2.2.2.2.2.1 p1.2.2.2.2.2.2.2.2.2.2.1).bind fun y3 =>
 cond (!y3.2.1.1) (
 c0
 ) (
 c2
 )
 )
 )
 )
 )
 )
 )
 )
def Zt:Su:=⟨[.c true [.str,ki,ki,ki,ki,mi,ki,ki,q3,q3,dQ],.c true [.str,ki,ki,ki,ki,mi,ki,ki,q3,q3,dQ]],[(false,[.bool])],true,.inl fun x=>Nc x.1 x.2.1⟩
theorem VI:ar Tryz.prog 198 Zt :=
 fq (ac UY (ac US (ac Wb an))) Tryz.f198
def pz (t0 t1:List dt) (t5:Int):Rd ((List dt)×(List dt)×Int×Unit) Y1 :=
 cond (au t5 (ae t0)) (
 cond (aR t5 t0) (
 cond (aR t5 t1) (
 (Nc (gt d59 t0 t5) (gt d59 t1 t5)).bind fun y1 =>
 cond (!y1.2.1.1) (
 some (.inr (.inr (false,())))
 ) (
 some (.inl (t0,t1,(aj .i64 t5 1),()))
 )
 ) none
 ) none
 ) (
 some (.inr (.inl (t0,t1,t5,())))
 )
def IV:=kt (af (dn pz))
def LU (p0 p1:List dt):Option ed :=
 cond (!(aq (ae p0) (ae p1))) (
 c0
 ) (
 (IV p0 p1 0).bind (Sum.elim (fun _ =>
 c2
 ) (fun y1 =>
 some ((),(y1,()))
 ))
 )
def aaO:Su:=⟨[.c false [fG],.c false [fG]],[(false,[.bool])],true,.inl fun x=>LU x.1.1 x.2.1.1⟩
theorem VX:ar Tryz.prog 154 aaO :=
 fl (ac VI an) [.d 4 .bool] [(0,⟨[.d 0 fG,.d 1 fG,.d 5 ki],af (dn pz)⟩)] [] Tryz.f154 (lp [0] (sc cM sn))
def Xj (p0 p1:Int×(List dt)×Unit):Option ed :=
 cond (!(aq p0.1 p1.1)) (
 c0
 ) (
 (LU p0.2.1 p1.2.1).bind fun y1 =>
 cond (!y1.2.1.1) (
 c0
 ) (
 c2
 )
 )
def s88:Su:=⟨[.c true [ki,fG],.c true [ki,fG]],[(false,[.bool])],true,.inl fun x=>Xj x.1 x.2.1⟩
theorem Yv:ar Tryz.prog 88 s88 :=
 fq (ac VX an) Tryz.f88
def we (t0 t1:List ea) (t5:Int):Rd ((List ea)×(List ea)×Int×Unit) Y1 :=
 cond (au t5 (ae t0)) (
 cond (aR t5 t0) (
 cond (aR t5 t1) (
 (Xj (gt d89 t0 t5) (gt d89 t1 t5)).bind fun y1 =>
 cond (!y1.2.1.1) (
 some (.inr (.inr (false,())))
 ) (
 some (.inl (t0,t1,(aj .i64 t5 1),()))
 )
 ) none
 ) none
 ) (
 some (.inr (.inl (t0,t1,t5,())))
 )
def Px:=kt (af (dn we))
def WW (p0 p1:List ea):Option ed :=
 cond (!(aq (ae p0) (ae p1))) (
 c0
 ) (
 (Px p0 p1 0).bind (Sum.elim (fun _ =>
 c2
 ) (fun y1 =>
 some ((),(y1,()))
 ))
 )
def s37:Su:=⟨[.c false [gj],.c false [gj]],[(false,[.bool])],true,.inl fun x=>WW x.1.1 x.2.1.1⟩
theorem XO:ar Tryz.prog 37 s37 :=
 fl (ac Yv an) [.d 4 .bool] [(0,⟨[.d 0 gj,.d 1 gj,.d 5 ki],af (dn we)⟩)] [] Tryz.f37 (lp [0] (sc cM sn))
def Xw (p0 p1:(List R5)×Int×(List R3)×Int×Int×Int×Int×Int×(List R5)×Unit):Option ed :=
 (g19 p0.1 p1.1).bind fun y1 =>
 cond (!y1.2.1.1) (
 c0
 ) (
 cond (!(aq p0.2.1 p1.2.1)) (
 c0
 ) (
 (Fx p0.2.2.1 p1.2.2.1).bind fun y2 =>
 cond (!y2.2.1.1) (
 c0
 ) (
 cond (!(aq p0.2.2.2.1 p1.2.2.2.1)) (
 c0
 ) (
 cond (!(aq p0.2.2.2.2.1 p1.2.2.2.2.1)) (
 c0
 ) (
 cond (!(aq p0.2.2.2.2.2.1 p1.2.2.2.2.2.1)) (
 c0
 ) (
 cond (!(aq p0.2.2.2.2.2.2.1 p1.2.2.2.2.2.2.1)) (
 c0
 ) (
 cond (!(aq p0.2.2.2.2.2.2.2.1 p1.2.2.2.2.2.2.2.1)) (
 c0
 ) (
 (g19 p0.2.2.2.2.2.2.2.2.1 p1.2.2.2.2.2.2.2.2.1).bind fun y3 =>
 cond (!y3.2.1.1) (
 c0
 ) (
 c2
 )
 )
 )
 )
 )
 )
 )
 )
 )
def s89:Su:=⟨[.c true [q5,ki,q3,ki,ki,ki,ki,ki,q5],.c true [q5,ki,q3,ki,ki,ki,ki,ki,q5]],[(false,[.bool])],true,.inl fun x=>Xw x.1 x.2.1⟩
theorem Yd:ar Tryz.prog 89 s89 :=
 fq (ac OB (ac Qn an)) Tryz.f89
def xf (t0 t1:List gq) (t5:Int):Rd ((List gq)×(List gq)×Int×Unit) Y1 :=
 cond (au t5 (ae t0)) (
 cond (aR t5 t0) (
 cond (aR t5 t1) (
 (Xw (gt d62 t0 t5) (gt d62 t1 t5)).bind fun y1 =>
 cond (!y1.2.1.1) (
 some (.inr (.inr (false,())))
 ) (
 some (.inl (t0,t1,(aj .i64 t5 1),()))
 )
 ) none
 ) none
 ) (
 some (.inr (.inl (t0,t1,t5,())))
 )
def OT:=kt (af (dn xf))
def Xc (p0 p1:List gq):Option ed :=
 cond (!(aq (ae p0) (ae p1))) (
 c0
 ) (
 (OT p0 p1 0).bind (Sum.elim (fun _ =>
 c2
 ) (fun y1 =>
 some ((),(y1,()))
 ))
 )
def s38:Su:=⟨[.c false [jZ],.c false [jZ]],[(false,[.bool])],true,.inl fun x=>Xc x.1.1 x.2.1.1⟩
theorem XR:ar Tryz.prog 38 s38 :=
 fl (ac Yd an) [.d 4 .bool] [(0,⟨[.d 0 jZ,.d 1 jZ,.d 5 ki],af (dn xf)⟩)] [] Tryz.f38 (lp [0] (sc cM sn))
def g11 (p0 p1:(List ea)×Int×Int×(List gq)×Unit):Option ed :=
 (WW p0.1 p1.1).bind fun y1 =>
 cond (!y1.2.1.1) (
 c0
 ) (
 cond (!(aq p0.2.1 p1.2.1)) (
 c0
 ) (
 cond (!(aq p0.2.2.1 p1.2.2.1)) (
 c0
 ) (
 (Xc p0.2.2.2.1 p1.2.2.2.1).bind fun y2 =>
 cond (!y2.2.1.1) (
 c0
 ) (
 c2
 )
 )
 )
 )
def s11:Su:=⟨[.c true [gj,ki,ki,jZ],.c true [gj,ki,ki,jZ]],[(false,[.bool])],true,.inl fun x=>g11 x.1 x.2.1⟩
theorem XS:ar Tryz.prog 11 s11 :=
 fq (ac XO (ac XR an)) Tryz.f11
def mx (t0:Int) (t3:List UInt8):Rd iI Unit :=
 cond (au 0 t0) (
 let u1:=(strOf [((bG .u8 (aj .i64 48 (fz t0 10))),())])
 cond (GG u1 t3) (
 some (.inl ((mg .i64 t0 10),(PL u1 t3),()))
 ) none
 ) (
 some (.inr (.inl (t0,t3,())))
 )
def Ll:=OJ (af (wI mx))
def sO (p0:Int):Option LN :=
 cond (bH p0 0) (
 some ((),(([109,48],()),()))
 ) (
 (Ll p0 []).bind (Sum.elim (fun y1 =>
 cond (GG [109] y1.2.1) (
 some ((),(((PL [109] y1.2.1),()),()))
 ) none
 ) (fun _ =>
 none
 ))
 )
def YR:Su:=⟨[.c false [ki]],[(false,[.str])],true,.inl fun x=>sO x.1.1⟩
theorem yI:ar Tryz.prog 158 YR :=
 fl an [] [(0,⟨[.d 0 ki,.d 3 .str],af (wI mx)⟩)] [] Tryz.f158 (lp [0] (sc cM sn))
def oY (t0:List gw) (t1 t5:Int):Rd ((List gw)×Int×Int×Unit) Unit :=
 cond (au t5 (ae t0)) (
 (sO t1).bind fun y1 =>
 cond (aR t5 t0) (
 let u1:=(gt d95 t0 t5)
 let u2:=(jo t0 t5 (y1.2.1.1,u1.2.1,u1.2.2.1,()))
 cond (aR t5 u2) (
 let u3:=(gt d95 u2 t5)
 let u4:=(aj .i64 t1 1)
 let u5:=(jo u2 t5 (u3.1,u4,u3.2.2.1,()))
 cond (aR t5 u5) (
 let u6:=(gt d95 u5 t5)
 let u7:=(aj .i64 u4 1)
 some (.inl ((jo u5 t5 (u6.1,u6.2.1,u7,())),(aj .i64 u7 1),(aj .i64 t5 1),()))
 ) none
 ) none
 ) none
 ) (
 some (.inr (.inl (t0,t1,t5,())))
 )
def Jb:=kt (af (dn oY))
def NB (p0:List gw) (p1:Int):Option ((((List gw)×Unit)×Unit)×Y7) :=
 (Jb p0 p1 0).bind (Sum.elim (fun y1 =>
 some (((y1.1,()),()),((y1.2.1,()),()))
 ) (fun _ =>
 none
 ))
def abd:Su:=⟨[.io false [mi],.c false [ki]],[(false,[ki])],true,.inl fun x=>NB x.1.1 x.2.1.1⟩
theorem UZ:ar Tryz.prog 159 abd :=
 fl (ac yI an) [] [(0,⟨[.own 0 mi,.d 1 ki,.d 5 ki],af (dn oY)⟩)] [0] Tryz.f159 (lp [0] (sc cM sn))
def vr (t0:List R3) (t1 t5:Int):Rd ((List R3)×Int×Int×Unit) Unit :=
 cond (au t5 (ae t0)) (
 cond (aR t5 t0) (
 some (.inl ((jo t0 t5 (t1,())),(aj .i64 t1 1),(aj .i64 t5 1),()))
 ) none
 ) (
 some (.inr (.inl (t0,t1,t5,())))
 )
def O6:=kt (af (dn vr))
def S2 (p0:List R3) (p1:Int):Option ((Y2×Unit)×Y7) :=
 (O6 p0 p1 0).bind (Sum.elim (fun y1 =>
 some (((y1.1,()),()),((y1.2.1,()),()))
 ) (fun _ =>
 none
 ))
def s95:Su:=⟨[.io false [q3],.c false [ki]],[(false,[ki])],true,.inl fun x=>S2 x.1.1 x.2.1.1⟩
theorem TF:ar Tryz.prog 95 s95 :=
 fl an [] [(0,⟨[.own 0 q3,.d 1 ki,.d 5 ki],af (dn vr)⟩)] [0] Tryz.f95 (lp [0] (sc cM sn))
def uZ (t0:List R5) (t1 t5:Int):Rd ((List R5)×Int×Int×Unit) Unit :=
 cond (au t5 (ae t0)) (
 cond (aR t5 t0) (
 some (.inl ((jo t0 t5 ((bG .u8 t1),())),(aj .i64 t1 1),(aj .i64 t5 1),()))
 ) none
 ) (
 some (.inr (.inl (t0,t1,t5,())))
 )
def PQ:=kt (af (dn uZ))
def g20 (p0:List R5) (p1:Int):Option ((((List R5)×Unit)×Unit)×Y7) :=
 (PQ p0 p1 0).bind (Sum.elim (fun y1 =>
 some (((y1.1,()),()),((y1.2.1,()),()))
 ) (fun _ =>
 none
 ))
def s20:Su:=⟨[.io false [q5],.c false [ki]],[(false,[ki])],true,.inl fun x=>g20 x.1.1 x.2.1.1⟩
theorem Rb:ar Tryz.prog 20 s20 :=
 fl an [] [(0,⟨[.own 0 q5,.d 1 ki,.d 5 ki],af (dn uZ)⟩)] [0] Tryz.f20 (lp [0] (sc cM sn))
def nS (t0:List cu) (t1 t5:Int):Rd ((List cu)×Int×Int×Unit) Unit :=
 cond (au t5 (ae t0)) (
 (sO t1).bind fun y1 =>
 cond (aR t5 t0) (
 let u1:=(aj .i64 t1 1)
 (sO u1).bind fun y2 =>
 let u2:=(gt d166 t0 t5)
 let u3:=(jo t0 t5 (y1.2.1.1,u2.2.1,u2.2.2.1,()))
 cond (aR t5 u3) (
 let u4:=(gt d166 u3 t5)
 let u5:=(jo u3 t5 (u4.1,y2.2.1.1,u4.2.2.1,()))
 cond (aR t5 u5) (
 let u6:=(gt d166 u5 t5)
 (g20 u6.2.2.1 (aj .i64 u1 1)).bind fun y3 =>
 some (.inl ((jo u5 t5 (u6.1,u6.2.1,y3.1.1.1,())),y3.2.1.1,(aj .i64 t5 1),()))
 ) none
 ) none
 ) none
 ) (
 some (.inr (.inl (t0,t1,t5,())))
 )
def IU:=kt (af (dn nS))
def Mt (p0:List cu) (p1:Int):Option ((((List cu)×Unit)×Unit)×Y7) :=
 (IU p0 p1 0).bind (Sum.elim (fun y1 =>
 some (((y1.1,()),()),((y1.2.1,()),()))
 ) (fun _ =>
 none
 ))
def X5:Su:=⟨[.io false [dQ],.c false [ki]],[(false,[ki])],true,.inl fun x=>Mt x.1.1 x.2.1.1⟩
theorem Uw:ar Tryz.prog 160 X5 :=
 fl (ac yI (ac Rb an)) [] [(0,⟨[.own 0 dQ,.d 1 ki,.d 5 ki],af (dn nS)⟩)] [0] Tryz.f160 (lp [0] (sc cM sn))
def vG (t0:List dt) (t1 t5:Int):Rd Xp Unit :=
 cond (au t5 (ae t0)) (
 (sO t1).bind fun y1 =>
 cond (aR t5 t0) (
 let u1:=(gt d59 t0 t5)
 let u2:=(jo t0 t5 (y1.2.1.1,u1.2.1,u1.2.2.1,u1.2.2.2.1,u1.2.2.2.2.1,u1.2.2.2.2.2.1,u1.2.2.2.2.2.2.1,u1.2.2.2.2.2.2.2.1,u1.2.2.2.2.2.2.2.2.1,u1.2.2.2.2.2.2.2.2.2.1,u1.2.2.2.2.2.2.2.2.2.2.1,()))
 cond (aR t5 u2) (
 let u3:=(gt d59 u2 t5)
 let u4:=(aj .i64 t1 1)
 let u5:=(jo u2 t5 (u3.1,u4,u3.2.2.1,u3.2.2.2.1,u3.2.2.2.2.1,u3.2.2.2.2.2.1,u3.2.2.2.2.2.2.1,u3.2.2.2.2.2.2.2.1,u3.2.2.2.2.2.2.2.2.1,u3.2.2.2.2.2.2.2.2.2.1,u3.2.2.2.2.2.2.2.2.2.2.1,()))
 cond (aR t5 u5) (
 let u6:=(gt d59 u5 t5)
 let u7:=(aj .i64 u4 1)
 let u8:=(jo u5 t5 (u6.1,u6.2.1,u7,u6.2.2.2.1,u6.2.2.2.2.1,u6.2.2.2.2.2.1,u6.2.2.2.2.2.2.1,u6.2.2.2.2.2.2.2.1,u6.2.2.2.2.2.2.2.2.1,u6.2.2.2.2.2.2.2.2.2.1,u6.2.2.2.2.2.2.2.2.2.2.1,()))
 cond (aR t5 u8) (
 let u9:=(gt d59 u8 t5)
 let u10:=(aj .i64 u7 1)
 let u11:=(jo u8 t5 (u9.1,u9.2.1,u9.2.2.1,u10,u9.2.2.2.2.1,u9.2.2.2.2.2.1,u9.2.2.2.2.2.2.1,u9.2.2.2.2.2.2.2.1,u9.2.2.2.2.2.2.2.2.1,u9.2.2.2.2.2.2.2.2.2.1,u9.2.2.2.2.2.2.2.2.2.2.1,()))
 cond (aR t5 u11) (
 let u12:=(gt d59 u11 t5)
 let u13:=(aj .i64 u10 1)
 let u14:=(jo u11 t5 (u12.1,u12.2.1,u12.2.2.1,u12.2.2.2.1,u13,u12.2.2.2.2.2.1,u12.2.2.2.2.2.2.1,u12.2.2.2.2.2.2.2.1,u12.2.2.2.2.2.2.2.2.1,u12.2.2.2.2.2.2.2.2.2.1,u12.2.2.2.2.2.2.2.2.2.2.1,()))
 cond (aR t5 u14) (
 let u15:=(gt d59 u14 t5)
 (NB u15.2.2.2.2.2.1 (aj .i64 u13 1)).bind fun y2 =>
 let u16:=(jo u14 t5 (u15.1,u15.2.1,u15.2.2.1,u15.2.2.2.1,u15.2.2.2.2.1,y2.1.1.1,u15.2.2.2.2.2.2.1,u15.2.2.2.2.2.2.2.1,u15.2.2.2.2.2.2.2.2.1,u15.2.2.2.2.2.2.2.2.2.1,u15.2.2.2.2.2.2.2.2.2.2.1,()))
 cond (aR t5 u16) (
 let u17:=(gt d59 u16 t5)
 let u18:=(jo u16 t5 (u17.1,u17.2.1,u17.2.2.1,u17.2.2.2.1,u17.2.2.2.2.1,u17.2.2.2.2.2.1,y2.2.1.1,u17.2.2.2.2.2.2.2.1,u17.2.2.2.2.2.2.2.2.1,u17.2.2.2.2.2.2.2.2.2.1,u17.2.2.2.2.2.2.2.2.2.2.1,()))
 cond (aR t5 u18) (
 let u19:=(gt d59 u18 t5)
 let u20:=(aj .i64 y2.2.1.1 1)
 let u21:=(jo u18 t5 (u19.1,u19.2.1,u19.2.2.1,u19.2.2.2.1,u19.2.2.2.2.1,u19.2.2.2.2.2.1,u19.2.2.2.2.2.2.1,u20,u19.2.2.2.2.2.2.2.2.1,u19.2.2.2.2.2.2.2.2.2.1,u19.2.2.2.2.2.2.2.2.2.2.1,()))
 cond (aR t5 u21) (
 let u22:=(gt d59 u21 t5)
 (S2 u22.2.2.2.2.2.2.2.2.1 (aj .i64 u20 1)).bind fun y3 =>
 let u23:=(jo u21 t5 (u22.1,u22.2.1,u22.2.2.1,u22.2.2.2.1,u22.2.2.2.2.1,u22.2.2.2.2.2.1,u22.2.2.2.2.2.2.1,u22.2.2.2.2.2.2.2.1,y3.1.1.1,u22.2.2.2.2.2.2.2.2.2.1,u22.2.2.2.2.2.2.2.2.2.2.1,()))
 cond (aR t5 u23) (
 let u24:=(gt d59 u23 t5)
 (S2 u24.2.2.2.2.2.2.2.2.2.1 y3.2.1.1).bind fun y4 =>
 let u25:=(jo u23 t5 (u24.1,u24.2.1,u24.2.2.1,u24.2.2.2.1,u24.2.2.2.2.1,u24.2.2.2.2.2.1,u24.2.2.2.2.2.2.1,u24.2.2.2.2.2.2.2.1,u24.2.2.2.2.2.2.2.2.1,y4.1.1.1,u24.2.2.2.2.2.2.2.2.2.2.1,()))
 cond (aR t5 u25) (
 let u26:=(gt d59 u25 t5)
 (Mt u26.2.2.2.2.2.2.2.2.2.2.1 y4.2.1.1).bind fun y5 =>
 some (.inl ((jo u25 t5 (u26.1,u26.2.1,u26.2.2.1,u26.2.2.2.1,u26.2.2.2.2.1,u26.2.2.2.2.2.1,u26.2.2.2.2.2.2.1,u26.2.2.2.2.2.2.2.1,u26.2.2.2.2.2.2.2.2.1,u26.2.2.2.2.2.2.2.2.2.1,y5.1.1.1,())),y5.2.1.1,(aj .i64 t5 1),()))
 ) none
 ) none
 ) none
 ) none
 ) none
 ) none
 ) none
 ) none
 ) none
 ) none
 ) none
 ) (
 some (.inr (.inl (t0,t1,t5,())))
 )
def O7:=kt (af (dn vG))
def Xg (p0:List dt) (p1:Int):Option ((Y4×Unit)×Y7) :=
 (O7 p0 p1 0).bind (Sum.elim (fun y1 =>
 some (((y1.1,()),()),((y1.2.1,()),()))
 ) (fun _ =>
 none
 ))
def s94:Su:=⟨[.io false [fG],.c false [ki]],[(false,[ki])],true,.inl fun x=>Xg x.1.1 x.2.1.1⟩
theorem aa0:ar Tryz.prog 94 s94 :=
 fl (ac yI (ac UZ (ac TF (ac Uw an)))) [] [(0,⟨[.own 0 fG,.d 1 ki,.d 5 ki],af (dn vG)⟩)] [0] Tryz.f94 (lp [0] (sc cM sn))
def xd (t0:List ea) (t1 t5:Int):Rd ((List ea)×Int×Int×Unit) Unit :=
 cond (au t5 (ae t0)) (
 cond (aR t5 t0) (
 let u1:=(jo t0 t5 (t1,(gt d89 t0 t5).2.1,()))
 cond (aR t5 u1) (
 let u2:=(gt d89 u1 t5)
 (Xg u2.2.1 (aj .i64 t1 1)).bind fun y1 =>
 some (.inl ((jo u1 t5 (u2.1,y1.1.1.1,())),y1.2.1.1,(aj .i64 t5 1),()))
 ) none
 ) none
 ) (
 some (.inr (.inl (t0,t1,t5,())))
 )
def Pe:=kt (af (dn xd))
def Xd (p0:List ea) (p1:Int):Option ((((List ea)×Unit)×Unit)×Y7) :=
 (Pe p0 p1 0).bind (Sum.elim (fun y1 =>
 some (((y1.1,()),()),((y1.2.1,()),()))
 ) (fun _ =>
 none
 ))
def s43:Su:=⟨[.io false [gj],.c false [ki]],[(false,[ki])],true,.inl fun x=>Xd x.1.1 x.2.1.1⟩
theorem XJ:ar Tryz.prog 43 s43 :=
 fl (ac aa0 an) [] [(0,⟨[.own 0 gj,.d 1 ki,.d 5 ki],af (dn xd)⟩)] [0] Tryz.f43 (lp [0] (sc cM sn))
def wo (t0:List gq) (t1 t5:Int):Rd ((List gq)×Int×Int×Unit) Unit :=
 cond (au t5 (ae t0)) (
 cond (aR t5 t0) (
 let u1:=(gt d62 t0 t5)
 (g20 u1.1 t1).bind fun y1 =>
 let u2:=(jo t0 t5 (y1.1.1.1,u1.2.1,u1.2.2.1,u1.2.2.2.1,u1.2.2.2.2.1,u1.2.2.2.2.2.1,u1.2.2.2.2.2.2.1,u1.2.2.2.2.2.2.2.1,u1.2.2.2.2.2.2.2.2.1,()))
 cond (aR t5 u2) (
 let u3:=(gt d62 u2 t5)
 let u4:=(jo u2 t5 (u3.1,y1.2.1.1,u3.2.2.1,u3.2.2.2.1,u3.2.2.2.2.1,u3.2.2.2.2.2.1,u3.2.2.2.2.2.2.1,u3.2.2.2.2.2.2.2.1,u3.2.2.2.2.2.2.2.2.1,()))
 cond (aR t5 u4) (
 let u5:=(gt d62 u4 t5)
 (S2 u5.2.2.1 (aj .i64 y1.2.1.1 1)).bind fun y2 =>
 let u6:=(jo u4 t5 (u5.1,u5.2.1,y2.1.1.1,u5.2.2.2.1,u5.2.2.2.2.1,u5.2.2.2.2.2.1,u5.2.2.2.2.2.2.1,u5.2.2.2.2.2.2.2.1,u5.2.2.2.2.2.2.2.2.1,()))
 cond (aR t5 u6) (
 let u7:=(gt d62 u6 t5)
 let u8:=(jo u6 t5 (u7.1,u7.2.1,u7.2.2.1,y2.2.1.1,u7.2.2.2.2.1,u7.2.2.2.2.2.1,u7.2.2.2.2.2.2.1,u7.2.2.2.2.2.2.2.1,u7.2.2.2.2.2.2.2.2.1,()))
 cond (aR t5 u8) (
 let u9:=(gt d62 u8 t5)
 let u10:=(aj .i64 y2.2.1.1 1)
 let u11:=(jo u8 t5 (u9.1,u9.2.1,u9.2.2.1,u9.2.2.2.1,u10,u9.2.2.2.2.2.1,u9.2.2.2.2.2.2.1,u9.2.2.2.2.2.2.2.1,u9.2.2.2.2.2.2.2.2.1,()))
 cond (aR t5 u11) (
 let u12:=(gt d62 u11 t5)
 let u13:=(aj .i64 u10 1)
 let u14:=(jo u11 t5 (u12.1,u12.2.1,u12.2.2.1,u12.2.2.2.1,u12.2.2.2.2.1,u13,u12.2.2.2.2.2.2.1,u12.2.2.2.2.2.2.2.1,u12.2.2.2.2.2.2.2.2.1,()))
 cond (aR t5 u14) (
 let u15:=(gt d62 u14 t5)
 let u16:=(aj .i64 u13 1)
 let u17:=(jo u14 t5 (u15.1,u15.2.1,u15.2.2.1,u15.2.2.2.1,u15.2.2.2.2.1,u15.2.2.2.2.2.1,u16,u15.2.2.2.2.2.2.2.1,u15.2.2.2.2.2.2.2.2.1,()))
 cond (aR t5 u17) (
 let u18:=(gt d62 u17 t5)
 let u19:=(aj .i64 u16 1)
 let u20:=(jo u17 t5 (u18.1,u18.2.1,u18.2.2.1,u18.2.2.2.1,u18.2.2.2.2.1,u18.2.2.2.2.2.1,u18.2.2.2.2.2.2.1,u19,u18.2.2.2.2.2.2.2.2.1,()))
 cond (aR t5 u20) (
 let u21:=(gt d62 u20 t5)
 (g20 u21.2.2.2.2.2.2.2.2.1 (aj .i64 u19 1)).bind fun y3 =>
 some (.inl ((jo u20 t5 (u21.1,u21.2.1,u21.2.2.1,u21.2.2.2.1,u21.2.2.2.2.1,u21.2.2.2.2.2.1,u21.2.2.2.2.2.2.1,u21.2.2.2.2.2.2.2.1,y3.1.1.1,())),y3.2.1.1,(aj .i64 t5 1),()))
 ) none
 ) none
 ) none
 ) none
 ) none
 ) none
 ) none
 ) none
 ) none
 ) (
 some (.inr (.inl (t0,t1,t5,())))
 )
def Py:=kt (af (dn wo))
def XC (p0:List gq) (p1:Int):Option ((((List gq)×Unit)×Unit)×Y7) :=
 (Py p0 p1 0).bind (Sum.elim (fun y1 =>
 some (((y1.1,()),()),((y1.2.1,()),()))
 ) (fun _ =>
 none
 ))
def s44:Su:=⟨[.io false [jZ],.c false [ki]],[(false,[ki])],true,.inl fun x=>XC x.1.1 x.2.1.1⟩
theorem ZW:ar Tryz.prog 44 s44 :=
 fl (ac TF (ac Rb an)) [] [(0,⟨[.own 0 jZ,.d 1 ki,.d 5 ki],af (dn wo)⟩)] [0] Tryz.f44 (lp [0] (sc cM sn))
def g14 (p0:(List ea)×Int×Int×(List gq)×Unit) (p1:Int):Option ((Dx×Unit)×Y7) :=
 (Xd p0.1 p1).bind fun y1 =>
 (XC p0.2.2.2.1 y1.2.1.1).bind fun y2 =>
 some (((y1.1.1.1,p0.2.1,p0.2.2.1,y2.1.1.1,()),()),(y2.2.1,()))
def s14:Su:=⟨[.io true [gj,ki,ki,jZ],.c false [ki]],[(false,[ki])],true,.inl fun x=>g14 x.1 x.2.1.1⟩
theorem aa5:ar Tryz.prog 14 s14 :=
 fl (ac XJ (ac ZW an)) [] [] [0] Tryz.f14 cM
def oW (t0:List gw) (t1 t5:Int):Rd ((List gw)×Int×Int×Unit) Y0 :=
 cond (au t5 (ae t0)) (
 cond (aR t5 t0) (
 (sO t1).bind fun y1 =>
 let u1:=(gt d95 t0 t5)
 cond (!(cr u1.1 y1.2.1.1)) (
 some (.inr (.inr ((-1),())))
 ) (
 cond (aR t5 t0) (
 let u2:=(aj .i64 t1 1)
 cond (!(aq u1.2.1 u2)) (
 some (.inr (.inr ((-1),())))
 ) (
 cond (aR t5 t0) (
 let u3:=(aj .i64 u2 1)
 cond (!(aq u1.2.2.1 u3)) (
 some (.inr (.inr ((-1),())))
 ) (
 some (.inl (t0,(aj .i64 u3 1),(aj .i64 t5 1),()))
 )
 ) none
 )
 ) none
 )
 ) none
 ) (
 some (.inr (.inl (t0,t1,t5,())))
 )
def Le:=kt (af (dn oW))
def MU (p0:List gw) (p1:Int):Option gX :=
 (Le p0 p1 0).bind (Sum.elim (fun y1 =>
 some ((),((y1.2.1,()),()))
 ) (fun y1 =>
 some ((),(y1,()))
 ))
def aaM:Su:=⟨[.c false [mi],.c false [ki]],[(false,[ki])],true,.inl fun x=>MU x.1.1 x.2.1.1⟩
theorem U2:ar Tryz.prog 161 aaM :=
 fl (ac yI an) [.d 4 ki] [(0,⟨[.d 0 mi,.d 1 ki,.d 5 ki],af (dn oW)⟩)] [] Tryz.f161 (lp [0] (sc cM sn))
def vo (t0:List R3) (t1 t5:Int):Rd ((List R3)×Int×Int×Unit) Y0 :=
 cond (au t5 (ae t0)) (
 cond (aR t5 t0) (
 cond (!(aq (gt d3 t0 t5).1 t1)) (
 some (.inr (.inr ((-1),())))
 ) (
 some (.inl (t0,(aj .i64 t1 1),(aj .i64 t5 1),()))
 )
 ) none
 ) (
 some (.inr (.inl (t0,t1,t5,())))
 )
def PZ:=kt (af (dn vo))
def S4 (p0:List R3) (p1:Int):Option gX :=
 (PZ p0 p1 0).bind (Sum.elim (fun y1 =>
 some ((),((y1.2.1,()),()))
 ) (fun y1 =>
 some ((),(y1,()))
 ))
def s98:Su:=⟨[.c false [q3],.c false [ki]],[(false,[ki])],true,.inl fun x=>S4 x.1.1 x.2.1.1⟩
theorem TH:ar Tryz.prog 98 s98 :=
 fl an [.d 4 ki] [(0,⟨[.d 0 q3,.d 1 ki,.d 5 ki],af (dn vo)⟩)] [] Tryz.f98 (lp [0] (sc cM sn))
def xe (t0:List R5) (t1 t5:Int):Rd ((List R5)×Int×Int×Unit) Y0 :=
 cond (au t5 (ae t0)) (
 cond (aR t5 t0) (
 cond (!(aq (gt d5 t0 t5).1 (bG .u8 t1))) (
 some (.inr (.inr ((-1),())))
 ) (
 some (.inl (t0,(aj .i64 t1 1),(aj .i64 t5 1),()))
 )
 ) none
 ) (
 some (.inr (.inl (t0,t1,t5,())))
 )
def OZ:=kt (af (dn xe))
def S3 (p0:List R5) (p1:Int):Option gX :=
 (OZ p0 p1 0).bind (Sum.elim (fun y1 =>
 some ((),((y1.2.1,()),()))
 ) (fun y1 =>
 some ((),(y1,()))
 ))
def s97:Su:=⟨[.c false [q5],.c false [ki]],[(false,[ki])],true,.inl fun x=>S3 x.1.1 x.2.1.1⟩
theorem WD:ar Tryz.prog 97 s97 :=
 fl an [.d 4 ki] [(0,⟨[.d 0 q5,.d 1 ki,.d 5 ki],af (dn xe)⟩)] [] Tryz.f97 (lp [0] (sc cM sn))
def oh (t0:List cu) (t1 t5:Int):Rd ((List cu)×Int×Int×Unit) Y0 :=
 cond (au t5 (ae t0)) (
 cond (aR t5 t0) (
 (sO t1).bind fun y1 =>
 let u1:=(gt d166 t0 t5)
 cond (!(cr u1.1 y1.2.1.1)) (
 some (.inr (.inr ((-1),())))
 ) (
 cond (aR t5 t0) (
 let u2:=(aj .i64 t1 1)
 (sO u2).bind fun y2 =>
 cond (!(cr u1.2.1 y2.2.1.1)) (
 some (.inr (.inr ((-1),())))
 ) (
 cond (aR t5 t0) (
 (S3 u1.2.2.1 (aj .i64 u2 1)).bind fun y3 =>
 cond (au y3.2.1.1 0) (
 some (.inr (.inr ((-1),())))
 ) (
 some (.inl (t0,y3.2.1.1,(aj .i64 t5 1),()))
 )
 ) none
 )
 ) none
 )
 ) none
 ) (
 some (.inr (.inl (t0,t1,t5,())))
 )
def KL:=kt (af (dn oh))
def Ml (p0:List cu) (p1:Int):Option gX :=
 (KL p0 p1 0).bind (Sum.elim (fun y1 =>
 some ((),((y1.2.1,()),()))
 ) (fun y1 =>
 some ((),(y1,()))
 ))
def abe:Su:=⟨[.c false [dQ],.c false [ki]],[(false,[ki])],true,.inl fun x=>Ml x.1.1 x.2.1.1⟩
theorem Up:ar Tryz.prog 162 abe :=
 fl (ac yI (ac WD an)) [.d 4 ki] [(0,⟨[.d 0 dQ,.d 1 ki,.d 5 ki],af (dn oh)⟩)] [] Tryz.f162 (lp [0] (sc cM sn))
def u0 (t0:List dt) (t1 t5:Int):Rd Xp Y0 :=
 cond (au t5 (ae t0)) (
 cond (aR t5 t0) (
 (sO t1).bind fun y1 =>
 let u1:=(gt d59 t0 t5)
 cond (!(cr u1.1 y1.2.1.1)) (
 some (.inr (.inr ((-1),())))
 ) (
 cond (aR t5 t0) (
 let u2:=(aj .i64 t1 1)
 cond (!(aq u1.2.1 u2)) (
 some (.inr (.inr ((-1),())))
 ) (
 cond (aR t5 t0) (
 let u3:=(aj .i64 u2 1)
 cond (!(aq u1.2.2.1 u3)) (
 some (.inr (.inr ((-1),())))
 ) (
 cond (aR t5 t0) (
 let u4:=(aj .i64 u3 1)
 cond (!(aq u1.2.2.2.1 u4)) (
 some (.inr (.inr ((-1),())))
 ) (
 cond (aR t5 t0) (
 let u5:=(aj .i64 u4 1)
 cond (!(aq u1.2.2.2.2.1 u5)) (
 some (.inr (.inr ((-1),())))
 ) (
 cond (aR t5 t0) (
 (MU u1.2.2.2.2.2.1 (aj .i64 u5 1)).bind fun y2 =>
 cond (au y2.2.1.1 0) (
 some (.inr (.inr ((-1),())))
 ) (
 cond (aR t5 t0) (
 cond (!(aq u1.2.2.2.2.2.2.1 y2.2.1.1)) (
 some (.inr (.inr ((-1),())))
 ) (
 cond (aR t5 t0) (
 let u6:=(aj .i64 y2.2.1.1 1)
 cond (!(aq u1.2.2.2.2.2.2.2.1 u6)) (
 some (.inr (.inr ((-1),())))
 ) (
 cond (aR t5 t0) (
 (S4 u1.2.2.2.2.2.2.2.2.1 (aj .i64 u6 1)).bind fun y3 =>
 cond (au y3.2.1.1 0) (
 some (.inr (.inr ((-1),())))
 ) (
 cond (aR t5 t0) (
 (S4 u1.2.2.2.2.2.2.2.2.2.1 y3.2.1.1).bind fun y4 =>
 cond (au y4.2.1.1 0) (
 some (.inr (.inr ((-1),())))
 ) (
 cond (aR t5 t0) (
 (Ml u1.2.2.2.2.2.2.2.2.2.2.1 y4.2.1.1).bind fun y5 =>
 cond (au y5.2.1.1 0) (
 some (.inr (.inr ((-1),())))
 ) (
 some (.inl (t0,y5.2.1.1,(aj .i64 t5 1),()))
 )
 ) none
 )
 ) none
 )
 ) none
 )
 ) none
 )
 ) none
 )
 ) none
 )
 ) none
 )
 ) none
 )
 ) none
 )
 ) none
 )
 ) none
 ) (
 some (.inr (.inl (t0,t1,t5,())))
 )
def Ph:=kt (af (dn u0))
def WS (p0:List dt) (p1:Int):Option gX :=
 (Ph p0 p1 0).bind (Sum.elim (fun y1 =>
 some ((),((y1.2.1,()),()))
 ) (fun y1 =>
 some ((),(y1,()))
 ))
def s96:Su:=⟨[.c false [fG],.c false [ki]],[(false,[ki])],true,.inl fun x=>WS x.1.1 x.2.1.1⟩
theorem aa9:ar Tryz.prog 96 s96 :=
 fl (ac yI (ac U2 (ac TH (ac Up an)))) [.d 4 ki] [(0,⟨[.d 0 fG,.d 1 ki,.d 5 ki],af (dn u0)⟩)] [] Tryz.f96 (lp [0] (sc cM sn))
def vh (t0:List ea) (t1 t5:Int):Rd ((List ea)×Int×Int×Unit) Y0 :=
 cond (au t5 (ae t0)) (
 cond (aR t5 t0) (
 let u1:=(gt d89 t0 t5)
 cond (!(aq u1.1 t1)) (
 some (.inr (.inr ((-1),())))
 ) (
 cond (aR t5 t0) (
 (WS u1.2.1 (aj .i64 t1 1)).bind fun y1 =>
 cond (au y1.2.1.1 0) (
 some (.inr (.inr ((-1),())))
 ) (
 some (.inl (t0,y1.2.1.1,(aj .i64 t5 1),()))
 )
 ) none
 )
 ) none
 ) (
 some (.inr (.inl (t0,t1,t5,())))
 )
def Pf:=kt (af (dn vh))
def Xs (p0:List ea) (p1:Int):Option gX :=
 (Pf p0 p1 0).bind (Sum.elim (fun y1 =>
 some ((),((y1.2.1,()),()))
 ) (fun y1 =>
 some ((),(y1,()))
 ))
def s45:Su:=⟨[.c false [gj],.c false [ki]],[(false,[ki])],true,.inl fun x=>Xs x.1.1 x.2.1.1⟩
theorem X3:ar Tryz.prog 45 s45 :=
 fl (ac aa9 an) [.d 4 ki] [(0,⟨[.d 0 gj,.d 1 ki,.d 5 ki],af (dn vh)⟩)] [] Tryz.f45 (lp [0] (sc cM sn))
def vi (t0:List gq) (t1 t5:Int):Rd ((List gq)×Int×Int×Unit) Y0 :=
 cond (au t5 (ae t0)) (
 cond (aR t5 t0) (
 let u1:=(gt d62 t0 t5)
 (S3 u1.1 t1).bind fun y1 =>
 cond (au y1.2.1.1 0) (
 some (.inr (.inr ((-1),())))
 ) (
 cond (aR t5 t0) (
 cond (!(aq u1.2.1 y1.2.1.1)) (
 some (.inr (.inr ((-1),())))
 ) (
 cond (aR t5 t0) (
 (S4 u1.2.2.1 (aj .i64 y1.2.1.1 1)).bind fun y2 =>
 cond (au y2.2.1.1 0) (
 some (.inr (.inr ((-1),())))
 ) (
 cond (aR t5 t0) (
 cond (!(aq u1.2.2.2.1 y2.2.1.1)) (
 some (.inr (.inr ((-1),())))
 ) (
 cond (aR t5 t0) (
 let u2:=(aj .i64 y2.2.1.1 1)
 cond (!(aq u1.2.2.2.2.1 u2)) (
 some (.inr (.inr ((-1),())))
 ) (
 cond (aR t5 t0) (
 let u3:=(aj .i64 u2 1)
 cond (!(aq u1.2.2.2.2.2.1 u3)) (
 some (.inr (.inr ((-1),())))
 ) (
 cond (aR t5 t0) (
 let u4:=(aj .i64 u3 1)
 cond (!(aq u1.2.2.2.2.2.2.1 u4)) (
 some (.inr (.inr ((-1),())))
 ) (
 cond (aR t5 t0) (
 let u5:=(aj .i64 u4 1)
 cond (!(aq u1.2.2.2.2.2.2.2.1 u5)) (
 some (.inr (.inr ((-1),())))
 ) (
 cond (aR t5 t0) (
 (S3 u1.2.2.2.2.2.2.2.2.1 (aj .i64 u5 1)).bind fun y3 =>
 cond (au y3.2.1.1 0) (
 some (.inr (.inr ((-1),())))
 ) (
 some (.inl (t0,y3.2.1.1,(aj .i64 t5 1),()))
 )
 ) none
 )
 ) none
 )
 ) none
 )
 ) none
 )
 ) none
 )
 ) none
 )
 ) none
 )
 ) none
 )
 ) none
 ) (
 some (.inr (.inl (t0,t1,t5,())))
 )
def PD:=kt (af (dn vi))
def W0 (p0:List gq) (p1:Int):Option gX :=
 (PD p0 p1 0).bind (Sum.elim (fun y1 =>
 some ((),((y1.2.1,()),()))
 ) (fun y1 =>
 some ((),(y1,()))
 ))
def s46:Su:=⟨[.c false [jZ],.c false [ki]],[(false,[ki])],true,.inl fun x=>W0 x.1.1 x.2.1.1⟩
theorem XT:ar Tryz.prog 46 s46 :=
 fl (ac TH (ac WD an)) [.d 4 ki] [(0,⟨[.d 0 jZ,.d 1 ki,.d 5 ki],af (dn vi)⟩)] [] Tryz.f46 (lp [0] (sc cM sn))
def g15 (p0:(List ea)×Int×Int×(List gq)×Unit) (p1:Int):Option gX :=
 (Xs p0.1 p1).bind fun y1 =>
 cond (au y1.2.1.1 0) (
 c3
 ) (
 (W0 p0.2.2.2.1 y1.2.1.1).bind fun y2 =>
 cond (au y2.2.1.1 0) (
 c3
 ) (
 some ((),(y2.2.1,()))
 )
 )
def s15:Su:=⟨[.c true [gj,ki,ki,jZ],.c false [ki]],[(false,[ki])],true,.inl fun x=>g15 x.1 x.2.1.1⟩
theorem abj:ar Tryz.prog 15 s15 :=
 fq (ac X3 (ac XT an)) Tryz.f15
def g5 (p0:(List pU)×Int×Int×(List pw)×Unit) (p1:List R5):Option ed :=
 cond (au 1048576 (ae p1)) (
 c2
 ) (
 (g7 p0 1048576).bind fun y1 =>
 cond (au y1.2.1.1 0) (
 c2
 ) (
 let u1:=(g9 p0)
 Option.bind u1 fun y2 =>
 let u2:=(g17 p1)
 Option.bind u2 fun y3 =>
 (g16 y2.2.1 y3.2.1.1).bind fun y4 =>
 Option.bind u1 fun y5 =>
 Option.bind u2 fun y6 =>
 (g18 y5.2.1 y6.2.1.1).bind fun y7 =>
 let u3:=(g11 y7.2.1 y4.2.1)
 Option.bind u3 fun y8 =>
 cond (cond (!y8.2.1.1) true (!(Kw y7.2.2.1.1 y4.2.2.1.1))) (
 c0
 ) (
 Option.bind u1 fun y9 =>
 (g11 y5.2.1 y9.2.1).bind fun y10 =>
 cond (!y10.2.1.1) (
 c0
 ) (
 Option.bind u2 fun y11 =>
 (g19 y6.2.1.1 y11.2.1.1).bind fun y12 =>
 cond (!y12.2.1.1) (
 c0
 ) (
 (g14 y5.2.1 1).bind fun y13 =>
 (g20 y6.2.1.1 y13.2.1.1).bind fun y14 =>
 cond (au y14.2.1.1 0) (
 c0
 ) (
 Option.bind u3 fun y15 =>
 cond (cond (!y15.2.1.1) true (!(Kw y7.2.2.1.1 y4.2.2.1.1))) (
 c0
 ) (
 (g14 y7.2.1 1).bind fun y16 =>
 let u4:=(g15 (y16.1.1.1,y7.2.1.2.1,y7.2.1.2.2.1,y16.1.1.2.2.2.1,()) 1)
 Option.bind u4 fun y17 =>
 cond (au y17.2.1.1 0) (
 c0
 ) (
 cond (!(aq y17.2.1.1 y16.2.1.1)) (
 c0
 ) (
 Option.bind u1 fun y18 =>
 Option.bind u2 fun y19 =>
 (g18 y18.2.1 y19.2.1.1).bind fun y20 =>
 (g11 y20.2.1 y4.2.1).bind fun y21 =>
 cond (cond (!y21.2.1.1) true (!(Kw y20.2.2.1.1 y4.2.2.1.1))) (
 c0
 ) (
 Option.bind u4 fun y22 =>
 cond (au y22.2.1.1 0) (
 c0
 ) (
 cond (!(aq y22.2.1.1 y16.2.1.1)) (
 c0
 ) (
 c2
 )
 )
 )
 )
 )
 )
 )
 )
 )
 )
 )
 )
def s5:Su:=⟨[.c true [RF,ki,ki,SH],.c false [q5]],[(false,[.bool])],true,.inl fun x=>g5 x.1 x.2.1.1⟩
theorem ok5:ar Tryz.prog 5 s5 :=
 fq (ac ok7 (ac QK (ac ok9 (ac Zl (ac Zo (ac Qn (ac XS (ac Rb (ac aa5 (ac abj an)))))))))) Tryz.f5
end
end Go.Av
