/- Part of a proof that the law FnExactPass answers true for every input: the printed functions of this program and their plain laws. No conditions beyond the statement. -/
import Derived.Test.YtbgoaopannojjaaGreatDoorP1a
set_option maxRecDepth 100000
namespace Go.Av
open Go.Proofs
set_option maxHeartbeats 4000000
noncomputable section
def zG (t0:List UInt8) (t1:Int):Rd Wb Unit :=
 let u1:=(ae t0)
 cond (au 0 u1) (
 let u2:=(aM .i64 u1 1)
 cond (aR u2 t0) (
 cond (aq (dx t0 u2) t1) (
 cond (dO 0 u2 t0) (
 some (.inl ((sub t0 0 u2),t1,()))
 ) none
 ) (
 some (.inr (.inl (t0,t1,())))
 )
 ) none
 ) (
 some (.inr (.inl (t0,t1,())))
 )
def I2:=PL (af (xo zG))
def Jc (p0:List UInt8) (p1:Int):Option Ny :=
 (I2 p0 p1).bind (Sum.elim (fun y1 =>
 some ((),((y1.1,()),()))
 ) (fun _ =>
 none
 ))
def Zy:Su:=⟨[.c false [.str],.c false ub],[(false,[.str])],true,.inl fun x=>Jc x.1.1 x.2.1.1⟩
theorem Uh:ar Tryz.prog 306 Zy :=
 fl an [] [(0,⟨[.d 0 .str,.d 1 (.int .u8)],af (xo zG)⟩)] [] Tryz.f306 (lp [0] (sc cN sn))
def Qq (p0 p1:List UInt8):Option Ny :=
 cond (cond (cq p0 []) true (cq p1 [])) (
 some ((),((p0,()),()))
 ) (
 cond (aq (ae p1) 1) (
 cond (aR 0 p1) (
 let u1:=(dx p1 0)
 cond (au u1 128) (
 cond (aR 0 p1) (
 (Jc p0 u1).bind fun y1 =>
 some ((),(y1.2.1,()))
 ) none
 ) (
 none
 )
 ) none
 ) (
 none
 )
 )
def aaC:Su:=⟨[.c false [.str],.c false [.str]],[(false,[.str])],true,.inl fun x=>Qq x.1.1 x.2.1.1⟩
theorem Wv:ar Tryz.prog 272 aaC :=
 fq (ac Uh an) Tryz.f272
def LS (p0:List UInt8):Option Ny :=
 (Qq p0 [32]).bind fun y1 =>
 some ((),(y1.2.1,()))
def ZC:Su:=⟨[.c false [.str]],[(false,[.str])],true,.inl fun x=>LS x.1.1⟩
theorem TS:ar Tryz.prog 216 ZC :=
 fq (ac Wv an) Tryz.f216
def pE (t41:List R3) (t42 t43:Int) (b1:(List UInt8)×(List iz)×Unit) (b2 b6:Int×(List UInt8)×(List UInt8)×(List UInt8)×(List UInt8)×(List UInt8)×Int×Int×Unit):Rd ((List R3)×Int×Int×CF×Sd×Sd×Unit) (Int×Sd×Unit) :=
 cond (au t43 t42) (
 cond (aR t43 t41) (
 (F2 b1 (gt d3 t41 t43).1).bind fun y1 =>
 cond (!y1.2.2.1.1) (
 some (.inr (.inr (1,(0,[],[],[],[],[],0,0,()),())))
 ) (
 cond (aq (gt d3 t41 t43).1 2) (
 let u1:=(ai .i64 t43 1)
 some (.inl (t41,t42,u1,b1,b2,(b6.1,y1.2.1.1,b6.2.2.1,b6.2.2.2.1,b6.2.2.2.2.1,b6.2.2.2.2.2.1,b6.2.2.2.2.2.2.1,b6.2.2.2.2.2.2.2.1,()),()))
 ) (
 cond (aq (gt d3 t41 t43).1 4) (
 let u1:=(DX y1.2.1.1)
 Option.bind u1 fun y2 =>
 let u2:=(ai .i64 t43 1)
 some (.inl (t41,t42,u2,b1,b2,(b6.1,b6.2.1,b6.2.2.1,b6.2.2.2.1,b6.2.2.2.2.1,b6.2.2.2.2.2.1,y2.2.1.1,b6.2.2.2.2.2.2.2.1,()),()))
 ) (
 cond (aq (gt d3 t41 t43).1 11) (
 let u1:=(ai .i64 t43 1)
 some (.inl (t41,t42,u1,b1,b2,(b6.1,b6.2.1,b6.2.2.1,b6.2.2.2.1,y1.2.1.1,b6.2.2.2.2.2.1,b6.2.2.2.2.2.2.1,b6.2.2.2.2.2.2.2.1,()),()))
 ) (
 cond (aq (gt d3 t41 t43).1 14) (
 let u1:=(DX y1.2.1.1)
 Option.bind u1 fun y2 =>
 let u2:=(ai .i64 t43 1)
 some (.inl (t41,t42,u2,b1,b2,(b6.1,b6.2.1,b6.2.2.1,b6.2.2.2.1,b6.2.2.2.2.1,b6.2.2.2.2.2.1,b6.2.2.2.2.2.2.1,y2.2.1.1,()),()))
 ) (
 cond (aq (gt d3 t41 t43).1 38) (
 (LS y1.2.1.1).bind fun y2 =>
 let u1:=(ai .i64 t43 1)
 some (.inl (t41,t42,u1,b1,b2,(b6.1,b6.2.1,b6.2.2.1,y2.2.1.1,b6.2.2.2.2.1,b6.2.2.2.2.2.1,b6.2.2.2.2.2.2.1,b6.2.2.2.2.2.2.2.1,()),()))
 ) (
 cond (aq (gt d3 t41 t43).1 103) (
 let u1:=(ai .i64 t43 1)
 some (.inl (t41,t42,u1,b1,b2,(b6.1,b6.2.1,y1.2.1.1,b6.2.2.2.1,b6.2.2.2.2.1,b6.2.2.2.2.2.1,b6.2.2.2.2.2.2.1,b6.2.2.2.2.2.2.2.1,()),()))
 ) (
 let u1:=(ai .i64 t43 1)
 some (.inl (t41,t42,u1,b1,b2,b6,()))
 )
 )
 )
 )
 )
 )
 )
 ) none
 ) (
 some (.inr (.inl (t41,t42,t43,b1,b2,b6,())))
 )
def Ie:=Uv (af (D5 pE))
def N5 (p0:(List UInt8)×(List iz)×Unit):Option (Unit×(Sd×Y0×Unit)) :=
 (Nl p0).bind fun y1 =>
 cond (!y1.2.1.1) (
 c1
 ) (
 (RS p0.1).bind fun y2 =>
 cond (!y2.2.1.1) (
 c21
 ) (
 (F2 p0 3).bind fun y3 =>
 cond (!y3.2.2.1.1) (
 c1
 ) (
 (L6).bind fun y4 =>
 (NL y4.2.1.1 p0 y3.2.1).bind fun y5 =>
 let u1:=(ai .i64 1 y5.2.1.1)
 (Aq u1).bind fun y6 =>
 cond (ct 8 [(2,()),(11,())] y6.2.1.2.2.2.1) (
 let u2:=(j3 [(2,()),(11,())] y6.2.1.2.2.2.1)
 (Ie u2 (ae u2) 0 p0 (0,[],[],[],[],[],0,0,()) (u1,[],[],[],[],p0.1,0,0,())).bind (Sum.elim (fun y7 =>
 (Ke y7.2.2.2.2.2.1).bind fun y8 =>
 cond (!y8.2.1.1) (
 c1
 ) (
 some ((),(y7.2.2.2.2.2.1,(0,()),()))
 )
 ) (fun y7 =>
 some ((),(y7.2.1,(y7.1,()),()))
 ))
 ) none
 )
 )
 )
def aaS:Su:=⟨[.c true [.str,iL]],[(true,[ki,.str,.str,.str,.str,.str,ki,ki]),(false,[ki])],true,.inl fun x=>N5 x.1⟩
theorem Vn:ar Tryz.prog 171 aaS :=
 fl (ac Pd (ac TZ (ac Vi (ac Vr (ac Py (ac Vo (ac IS (ac Ts (ac TS an))))))))) [.d 3 ki,.box 2 [(false,ki),(false,.str),(false,.str),(false,.str),(false,.str),(false,.str),(false,ki),(false,ki)]] [(0,⟨[.own 41 q3,.d 42 ki,.d 43 ki,.box 1 [(false,.str),(false,iL)],.box 2 [(false,ki),(false,.str),(false,.str),(false,.str),(false,.str),(false,.str),(false,ki),(false,ki)],.box 6 [(false,ki),(false,.str),(false,.str),(false,.str),(false,.str),(false,.str),(false,ki),(false,ki)]],af (D5 pE)⟩)] [] Tryz.f171 (lp [0] (sc cN sn))
def Wa (p0:Int):Option gY :=
 cond (bH 4294967296 p0) (
 let u1:=(iC .u64 p0 32)
 cond (bH 65536 u1) (
 let u2:=(iC .u64 u1 16)
 cond (bH 256 u2) (
 let u3:=(bG .u8 (iC .u64 u2 8))
 cond (aR u3 nH) (
 let u4:=(ai .i64 32 16)
 some ((),(((ai .i64 (ai .i64 u4 8) (bG .i64 (dx nH u3))),()),()))
 ) none
 ) (
 let u3:=(bG .u8 u2)
 cond (aR u3 nH) (
 let u4:=(ai .i64 32 16)
 some ((),(((ai .i64 u4 (bG .i64 (dx nH u3))),()),()))
 ) none
 )
 ) (
 cond (bH 256 u1) (
 let u2:=(bG .u8 (iC .u64 u1 8))
 cond (aR u2 nH) (
 some ((),(((ai .i64 (ai .i64 32 8) (bG .i64 (dx nH u2))),()),()))
 ) none
 ) (
 let u2:=(bG .u8 u1)
 cond (aR u2 nH) (
 some ((),(((ai .i64 32 (bG .i64 (dx nH u2))),()),()))
 ) none
 )
 )
 ) (
 cond (bH 65536 p0) (
 let u1:=(iC .u64 p0 16)
 cond (bH 256 u1) (
 let u2:=(bG .u8 (iC .u64 u1 8))
 cond (aR u2 nH) (
 let u3:=(ai .i64 0 16)
 some ((),(((ai .i64 (ai .i64 u3 8) (bG .i64 (dx nH u2))),()),()))
 ) none
 ) (
 let u2:=(bG .u8 u1)
 cond (aR u2 nH) (
 let u3:=(ai .i64 0 16)
 some ((),(((ai .i64 u3 (bG .i64 (dx nH u2))),()),()))
 ) none
 )
 ) (
 cond (bH 256 p0) (
 let u1:=(bG .u8 (iC .u64 p0 8))
 cond (aR u1 nH) (
 some ((),(((ai .i64 (ai .i64 0 8) (bG .i64 (dx nH u1))),()),()))
 ) none
 ) (
 let u1:=(bG .u8 p0)
 cond (aR u1 nH) (
 some ((),(((ai .i64 0 (bG .i64 (dx nH u1))),()),()))
 ) none
 )
 )
 )
def aar:Su:=⟨[.c false [.int .u64]],[(false,[ki])],true,.inl fun x=>Wa x.1.1⟩
theorem Tf:ar Tryz.prog 270 aar :=
 fq an Tryz.f270
def FT (p0:Int):Option gY :=
 (Wa p0).bind fun y1 =>
 some ((),(y1.2.1,()))
def Yo:Su:=⟨[.c false [.int .u64]],[(false,[ki])],true,.inl fun x=>FT x.1.1⟩
theorem Ow:ar Tryz.prog 208 Yo :=
 fq (ac Tf an) Tryz.f208
def MR (p0:List UInt8):Option ed :=
 some ((),(((!(cq p0 p0)),()),()))
def aa4:Su:=⟨[.c false [.str]],[(false,[.bool])],true,.inl fun x=>MR x.1.1⟩
theorem Uf:ar Tryz.prog 313 aa4 :=
 fq an Tryz.f313
def M7 (p0 p1:List UInt8):Option ed :=
 (MR p0).bind fun y1 =>
 cond y1.2.1.1 (
 (MR p1).bind fun y2 =>
 let u1:=(j8 p0 p1)
 some ((),(((cond (!y2.2.1.1) true u1),()),()))
 ) (
 let u1:=(j8 p0 p1)
 some ((),((u1,()),()))
 )
def VZ:Su:=⟨[.c false [.str],.c false [.str]],[(false,[.bool])],true,.inl fun x=>M7 x.1.1 x.2.1.1⟩
theorem Pk:ar Tryz.prog 280 VZ :=
 fq (ac Uf an) Tryz.f280
def wX (t0:List R9) (t1 t2 t6 t7:Int):Rd ((List R9)×Int×Int×Int×Int×Unit) Unit :=
 cond (au t1 t7) (
 cond (aR t7 t0) (
 let u1:=(aM .i64 t7 1)
 cond (aR u1 t0) (
 let u2:=(gt d9 t0 t7)
 let u3:=(gt d9 t0 u1)
 (M7 u2.1 u3.1).bind fun y1 =>
 cond y1.2.1.1 (
 cond (aR u1 t0) (
 cond (aR t7 t0) (
 cond (aR t7 t0) (
 let u4:=(jl t0 t7 u3)
 cond (aR u1 u4) (
 some (.inl ((jl u4 u1 u2),t1,t2,t6,u1,()))
 ) none
 ) none
 ) none
 ) none
 ) (
 some (.inr (.inl (t0,t1,t2,t6,t7,())))
 )
 ) none
 ) none
 ) (
 some (.inr (.inl (t0,t1,t2,t6,t7,())))
 )
def wU:=xP (af (fh wX))
def xt (t0:List R9) (t1 t2 t6:Int):Rd ((List R9)×Int×Int×Int×Unit) Unit :=
 cond (au t6 t2) (
 (wU t0 t1 t2 t6 t6).bind (Sum.elim (fun y1 =>
 some (.inl (y1.1,y1.2.1,y1.2.2.1,(ai .i64 y1.2.2.2.1 1),()))
 ) (fun _ =>
 some (.inr (.inr ()))
 ))
 ) (
 some (.inr (.inl (t0,t1,t2,t6,())))
 )
def oo:=mc (af (cV xt))
def Rn (p0:List R9) (p1 p2:Int):Option YT :=
 (oo p0 p1 p2 (ai .i64 p1 1)).bind (Sum.elim (fun y1 =>
 some (((y1.1,()),()),())
 ) (fun _ =>
 none
 ))
def Mg:Su:=⟨[.io false [q9],.c false [ki],.c false [ki]],[],true,.inl fun x=>Rn x.1.1 x.2.1.1 x.2.2.1.1⟩
def ql:List SE:=[.own 0 q9,.d 1 ki,.d 2 ki,.d 6 ki,.d 7 ki]
def qU:List SE:=[.own 0 q9,.d 1 ki,.d 2 ki,.d 6 ki]
def JA:List SE:=[]
def PX:Nat->Option (Lo JA)
 | 2=>some ⟨ql,fh wU⟩
 | 0=>some ⟨qU,cV oo⟩
 | _=>none
def EM:List (Nat×SS):=[(280,iS VZ)]
def D6:En:=zJ 49 tt EM JA PX [0] fun _=>none
def VT:Nat->Option (St->Tr St)
 | 6=>some (lU D6 (opsOf (bh 6 (ak Tryz.f274))) [7] [(15,2),(15,3),(15,4)])
 | _=>none
def Bz:En:=zJ 49 tt EM JA PX [0] (VT)
theorem Qm (x:bM ql):(dh Bz 2 ql (bc 2 (ak Tryz.f274)) x).run=fh wX x:=by kernel_rfl
theorem Rq (x:bM qU):(dh Bz 0 qU (bc 0 (ak Tryz.f274)) x).run=cV xt x:=by kernel_rfl
theorem t274 (x:PT Mg.ps):(GM Bz (ak Tryz.f274) Tryz.f274.results.toList Mg.ps Mg.rs true x).run=Rn x.1.1 x.2.1.1 x.2.2.1.1:=by kernel_rfl
theorem DI:dm Tryz.prog Bz:=cZ (l:=EM) ⟨Pk,trivial⟩
theorem Gr:dm Tryz.prog D6:=cZ (l:=EM) ⟨Pk,trivial⟩
theorem Qe:cP Tryz.prog Bz (bh 6 (ak Tryz.f274)) (lU D6 (opsOf (bh 6 (ak Tryz.f274))) [7] [(15,2),(15,3),(15,4)]) :=
 gB rfl rfl (yX (E:=D6) (lN hT) Gr eP (c:=(bh 6 (ak Tryz.f274))) (id:=6) (by kernel_rfl))
theorem Qx:cr Tryz.prog Bz 2 (.loop (bc 2 (ak Tryz.f274))) ⟨ql,fh wU⟩ :=
 eC (lN hT) DI eP (step:=fun (x:bM ql)=>wX x.1 x.2.1 x.2.2.1 x.2.2.2.1 x.2.2.2.2.1) Qm (ba [] (by kernel_rfl) trivial [(6,bh 6 (ak Tryz.f274))] (by kernel_rfl) ⟨xW rfl Qe,trivial⟩)
theorem SK:cr Tryz.prog Bz 0 (.loop (bc 0 (ak Tryz.f274))) ⟨qU,cV oo⟩ :=
 eC (lN hT) DI eP (step:=fun (x:bM qU)=>xt x.1 x.2.1 x.2.2.1 x.2.2.2.1) Rq (ba [(2,.loop (bc 2 (ak Tryz.f274)))] (by kernel_rfl) ⟨l8 rfl Qx,trivial⟩ [] (by kernel_rfl) trivial)
theorem WJ:ar Tryz.prog 274 Mg :=
 qX (E:=Bz) (lN hT) DI eP (fn:=Tryz.f274) (c:=(ak Tryz.f274)) (by kernel_rfl) (by kernel_rfl) (by kernel_rfl) rfl (ba [(0,.loop (bc 0 (ak Tryz.f274)))] (by kernel_rfl) ⟨l8 rfl SK,trivial⟩ [] (by kernel_rfl) trivial) fun x y h=>⟨y.1,fun _=>rfl,(t274 x).trans h⟩
def T5 (p0:List R9) (p1 p2 p3:Int):Option YT :=
 cond (bH (aM .i64 p2 p1) 12) (
 (Rn p0 p1 p2).bind fun y1 =>
 some ((y1.1.1,()),())
 ) (
 cond (aq p3 0) (
 none
 ) (
 none
 )
 )
def aap:Su:=⟨[.io false [q9],.c false [ki],.c false [ki],.c false [ki]],[],true,.inl fun x=>T5 x.1.1 x.2.1.1 x.2.2.1.1 x.2.2.2.1.1⟩
theorem Vq:ar Tryz.prog 218 aap :=
 fl (ac WJ an) [] [] [0] Tryz.f218 cN
def BI (p0:List R9):Option YT :=
 let u1:=(ae p0)
 (FT (bG .u64 u1)).bind fun y1 =>
 (T5 p0 0 u1 y1.2.1.1).bind fun y2 =>
 some ((y2.1.1,()),())
def aa7:Su:=⟨[.io false [q9]],[],true,.inl fun x=>BI x.1.1⟩
theorem Vh:ar Tryz.prog 172 aa7 :=
 fl (ac Ow (ac Vq an)) [] [] [0] Tryz.f172 cN
def zP (t0:List R9) (t3:Int):Rd ((List R9)×Int×Unit) ((List R9)×Unit) :=
 let u1:=(ae t0)
 cond (au t3 u1) (
 cond (aR t3 t0) (
 let u2:=(aM .i64 t3 1)
 cond (aR u2 t0) (
 cond (cq (gt d9 t0 t3).1 (gt d9 t0 u2).1) (
 let u3:=(dO t3 u1 t0)
 cond u3 (
 let u4:=(sub t0 t3 u1)
 cond (au 1 (ae u4)) (
 cond (aR 1 u4) (
 let u5:=(aM .i64 1 1)
 cond (aR u5 u4) (
 cond (!(cq (gt d9 u4 1).1 (gt d9 u4 u5).1)) (
 cond (aR 1 u4) (
 cond (aR t3 t0) (
 none
 ) none
 ) none
 ) (
 none
 )
 ) none
 ) none
 ) (
 cond u3 (
 let u5:=(Al d9 t0 t3)
 cond (dO 0 t3 u5) (
 some (.inr (.inr ((PU u5 t3),())))
 ) none
 ) none
 )
 ) none
 ) (
 some (.inl (t0,(ai .i64 t3 1),()))
 )
 ) none
 ) none
 ) (
 some (.inr (.inl (t0,t3,())))
 )
def xg:=PL (af (xo zP))
def G5 (p0:List R9):Option SZ :=
 cond (au (ae p0) 2) (
 some ((),((p0,()),()))
 ) (
 (xg p0 1).bind (Sum.elim (fun y1 =>
 some ((),((y1.1,()),()))
 ) (fun y1 =>
 some ((),(y1,()))
 ))
 )
def ME:Su:=⟨[.mv q9],[(false,[q9])],true,.inl fun x=>G5 x.1⟩
def qz:List SE:=[.own 0 q9,.d 3 ki]
def O1:List SE:=[.own 2 q9]
def TX:Nat->Option (Lo O1)
 | 0=>some ⟨qz,xo xg⟩
 | _=>none
def PV:List (Nat×SS):=[]
def Us:Nat->Option (St->Tr St)
 | 14=>some (rY 54 55 56 0 3 U0)
 | _=>none
def DR:En:=zJ 61 tt PV O1 TX [] (Us)
theorem Rh (x:bM qz):(dh DR 0 qz (bc 0 (ak Tryz.f173)) x).run=xo zP x:=by kernel_rfl
theorem t173 (x:PT ME.ps):(GM DR (ak Tryz.f173) Tryz.f173.results.toList ME.ps ME.rs true x).run=G5 x.1:=by kernel_rfl
theorem KF:dm Tryz.prog DR:=cZ (l:=PV) trivial
theorem NV:cP Tryz.prog DR (bh 14 (ak Tryz.f173)) (rY 54 55 56 0 3 U0) :=
 yo (E:=DR) (lN hT) (rid:=14) (ta:=54) (tb:=55) (tc:=56) (t0:=0) (tI:=3) (ty:=112) (o1:=fP (bh 14 (ak Tryz.f173)) 0) (o2:=fP (bh 14 (ak Tryz.f173)) 1) (o3:=fP (bh 14 (ak Tryz.f173)) 2) (o4:=fP (bh 14 (ak Tryz.f173)) 3) (c:=Ak (fP (bh 14 (ak Tryz.f173)) 3)) (te:=⟨false,U0,0,16,[]⟩)
  (by kernel_rfl) (by kernel_rfl) (by kernel_rfl) (by kernel_rfl) (by kernel_rfl) (by kernel_rfl) (by kernel_rfl) (by kernel_rfl) (by kernel_rfl) (by kernel_rfl) (by kernel_rfl) (by kernel_rfl) (by kernel_rfl) (by kernel_rfl) (by kernel_rfl) (by kernel_rfl) (by kernel_rfl) (by kernel_rfl) (by kernel_rfl) (by kernel_rfl) (by kernel_rfl)
theorem QF:cr Tryz.prog DR 0 (.loop (bc 0 (ak Tryz.f173))) ⟨qz,xo xg⟩ :=
 eC (lN hT) KF eP (step:=fun (x:bM qz)=>zP x.1 x.2.1) Rh (ba [] (by kernel_rfl) trivial [(14,bh 14 (ak Tryz.f173))] (by kernel_rfl) ⟨xW rfl NV,trivial⟩)
theorem Uk:ar Tryz.prog 173 ME :=
 qX (E:=DR) (lN hT) KF eP (fn:=Tryz.f173) (c:=(ak Tryz.f173)) (by kernel_rfl) (by kernel_rfl) (by kernel_rfl) rfl (ba [(0,.loop (bc 0 (ak Tryz.f173)))] (by kernel_rfl) ⟨l8 rfl QF,trivial⟩ [] (by kernel_rfl) trivial) fun x y h=>⟨y.1,fun _=>rfl,(t173 x).trans h⟩
def Na (p0:List R5):Option SZ :=
 (Mr p0).bind fun y1 =>
 (N5 y1.2.1).bind fun y2 =>
 cond (cond (!(aq y1.2.2.1.1 0)) true (!(aq y2.2.2.1.1 0))) (
 ZA
 ) (
 cond (aq y2.2.1.1 6) (
 cond (ct 16 [(y2.2.1.2.1,())] [(y2.2.1.2.2.1,())]) (
 (BI (j3 [(y2.2.1.2.1,())] [(y2.2.1.2.2.1,())])).bind fun y3 =>
 let u1:=(G5 y3.1.1.1)
 Option.bind u1 fun y4 =>
 some ((),(y4.2.1,()))
 ) none
 ) (
 (BI [(y2.2.1.2.1,())]).bind fun y3 =>
 let u1:=(G5 y3.1.1.1)
 Option.bind u1 fun y4 =>
 some ((),(y4.2.1,()))
 )
 )
def Z7:Su:=⟨[.c false [q5]],[(false,[q9])],true,.inl fun x=>Na x.1.1⟩
theorem Vm:ar Tryz.prog 110 Z7 :=
 fq (ac Wl (ac Vn (ac Vh (ac Uk an)))) Tryz.f110
def Nc (p0:Int):Option ed :=
 some ((),(((!(aq p0 p0)),()),()))
def Z9:Su:=⟨[.c false [ki]],[(false,[.bool])],true,.inl fun x=>Nc x.1.1⟩
theorem Tq:ar Tryz.prog 303 Z9 :=
 fq an Tryz.f303
def M0 (p0 p1:Int):Option ed :=
 (Nc p0).bind fun y1 =>
 cond y1.2.1.1 (
 (Nc p1).bind fun y2 =>
 some ((),(((cond (!y2.2.1.1) true (au p0 p1)),()),()))
 ) (
 some ((),(((au p0 p1),()),()))
 )
def TF:Su:=⟨[.c false [ki],.c false [ki]],[(false,[.bool])],true,.inl fun x=>M0 x.1.1 x.2.1.1⟩
theorem O5:ar Tryz.prog 266 TF :=
 fq (ac Tq an) Tryz.f266
def xa (t0:List R3) (t1 t2 t6 t7:Int):Rd ((List R3)×Int×Int×Int×Int×Unit) Unit :=
 cond (au t1 t7) (
 cond (aR t7 t0) (
 let u1:=(aM .i64 t7 1)
 cond (aR u1 t0) (
 let u2:=(gt d3 t0 t7)
 let u3:=(gt d3 t0 u1)
 (M0 u2.1 u3.1).bind fun y1 =>
 cond y1.2.1.1 (
 cond (aR u1 t0) (
 cond (aR t7 t0) (
 cond (aR t7 t0) (
 let u4:=(jl t0 t7 u3)
 cond (aR u1 u4) (
 some (.inl ((jl u4 u1 u2),t1,t2,t6,u1,()))
 ) none
 ) none
 ) none
 ) none
 ) (
 some (.inr (.inl (t0,t1,t2,t6,t7,())))
 )
 ) none
 ) none
 ) (
 some (.inr (.inl (t0,t1,t2,t6,t7,())))
 )
def v8:=xP (af (fh xa))
def uK (t0:List R3) (t1 t2 t6:Int):Rd ((List R3)×Int×Int×Int×Unit) Unit :=
 cond (au t6 t2) (
 (v8 t0 t1 t2 t6 t6).bind (Sum.elim (fun y1 =>
 some (.inl (y1.1,y1.2.1,y1.2.2.1,(ai .i64 y1.2.2.2.1 1),()))
 ) (fun _ =>
 some (.inr (.inr ()))
 ))
 ) (
 some (.inr (.inl (t0,t1,t2,t6,())))
 )
def lP:=mc (af (cV uK))
def Qu (p0:List R3) (p1 p2:Int):Option YJ :=
 (lP p0 p1 p2 (ai .i64 p1 1)).bind (Sum.elim (fun y1 =>
 some (((y1.1,()),()),())
 ) (fun _ =>
 none
 ))
def Md:Su:=⟨[.io false [q3],.c false [ki],.c false [ki]],[],true,.inl fun x=>Qu x.1.1 x.2.1.1 x.2.2.1.1⟩
def qj:List SE:=[.own 0 q3,.d 1 ki,.d 2 ki,.d 6 ki,.d 7 ki]
def re:List SE:=[.own 0 q3,.d 1 ki,.d 2 ki,.d 6 ki]
def Kx:List SE:=[]
def O9:Nat->Option (Lo Kx)
 | 2=>some ⟨qj,fh v8⟩
 | 0=>some ⟨re,cV lP⟩
 | _=>none
def ED:List (Nat×SS):=[(266,iS TF)]
def Fm:En:=zJ 49 tt ED Kx O9 [0] fun _=>none
def To:Nat->Option (St->Tr St)
 | 6=>some (lU Fm (opsOf (bh 6 (ak Tryz.f260))) [7] [(15,2),(15,3),(15,4)])
 | _=>none
def AG:En:=zJ 49 tt ED Kx O9 [0] (To)
theorem Rc (x:bM qj):(dh AG 2 qj (bc 2 (ak Tryz.f260)) x).run=fh xa x:=by kernel_rfl
theorem Sn (x:bM re):(dh AG 0 re (bc 0 (ak Tryz.f260)) x).run=cV uK x:=by kernel_rfl
theorem t260 (x:PT Md.ps):(GM AG (ak Tryz.f260) Tryz.f260.results.toList Md.ps Md.rs true x).run=Qu x.1.1 x.2.1.1 x.2.2.1.1:=by kernel_rfl
theorem CY:dm Tryz.prog AG:=cZ (l:=ED) ⟨O5,trivial⟩
theorem FG:dm Tryz.prog Fm:=cZ (l:=ED) ⟨O5,trivial⟩
theorem Rl:cP Tryz.prog AG (bh 6 (ak Tryz.f260)) (lU Fm (opsOf (bh 6 (ak Tryz.f260))) [7] [(15,2),(15,3),(15,4)]) :=
 gB rfl rfl (yX (E:=Fm) (lN hT) FG eP (c:=(bh 6 (ak Tryz.f260))) (id:=6) (by kernel_rfl))
theorem QG:cr Tryz.prog AG 2 (.loop (bc 2 (ak Tryz.f260))) ⟨qj,fh v8⟩ :=
 eC (lN hT) CY eP (step:=fun (x:bM qj)=>xa x.1 x.2.1 x.2.2.1 x.2.2.2.1 x.2.2.2.2.1) Rc (ba [] (by kernel_rfl) trivial [(6,bh 6 (ak Tryz.f260))] (by kernel_rfl) ⟨xW rfl Rl,trivial⟩)
theorem RA:cr Tryz.prog AG 0 (.loop (bc 0 (ak Tryz.f260))) ⟨re,cV lP⟩ :=
 eC (lN hT) CY eP (step:=fun (x:bM re)=>uK x.1 x.2.1 x.2.2.1 x.2.2.2.1) Sn (ba [(2,.loop (bc 2 (ak Tryz.f260)))] (by kernel_rfl) ⟨l8 rfl QG,trivial⟩ [] (by kernel_rfl) trivial)
theorem Wz:ar Tryz.prog 260 Md :=
 qX (E:=AG) (lN hT) CY eP (fn:=Tryz.f260) (c:=(ak Tryz.f260)) (by kernel_rfl) (by kernel_rfl) (by kernel_rfl) rfl (ba [(0,.loop (bc 0 (ak Tryz.f260)))] (by kernel_rfl) ⟨l8 rfl RA,trivial⟩ [] (by kernel_rfl) trivial) fun x y h=>⟨y.1,fun _=>rfl,(t260 x).trans h⟩
def TY (p0:List R3) (p1 p2 p3:Int):Option YJ :=
 cond (bH (aM .i64 p2 p1) 12) (
 (Qu p0 p1 p2).bind fun y1 =>
 some ((y1.1.1,()),())
 ) (
 cond (aq p3 0) (
 none
 ) (
 none
 )
 )
def Zh:Su:=⟨[.io false [q3],.c false [ki],.c false [ki],.c false [ki]],[],true,.inl fun x=>TY x.1.1 x.2.1.1 x.2.2.1.1 x.2.2.2.1.1⟩
theorem UR:ar Tryz.prog 207 Zh :=
 fl (ac Wz an) [] [] [0] Tryz.f207 cN
def xe (p0:List R3):Option YJ :=
 let u1:=(ae p0)
 (FT (bG .u64 u1)).bind fun y1 =>
 (TY p0 0 u1 y1.2.1.1).bind fun y2 =>
 some ((y2.1.1,()),())
def XO:Su:=⟨[.io false [q3]],[],true,.inl fun x=>xe x.1.1⟩
theorem Wo:ar Tryz.prog 169 XO :=
 fl (ac Ow (ac UR an)) [] [] [0] Tryz.f169 cN
def ze (t0:List R3) (t3:Int):Rd ((List R3)×Int×Unit) Y2 :=
 let u1:=(ae t0)
 cond (au t3 u1) (
 cond (aR t3 t0) (
 let u2:=(aM .i64 t3 1)
 cond (aR u2 t0) (
 cond (aq (gt d3 t0 t3).1 (gt d3 t0 u2).1) (
 let u3:=(dO t3 u1 t0)
 cond u3 (
 let u4:=(sub t0 t3 u1)
 cond (au 1 (ae u4)) (
 cond (aR 1 u4) (
 let u5:=(aM .i64 1 1)
 cond (aR u5 u4) (
 cond (!(aq (gt d3 u4 1).1 (gt d3 u4 u5).1)) (
 cond (aR 1 u4) (
 cond (aR t3 t0) (
 none
 ) none
 ) none
 ) (
 none
 )
 ) none
 ) none
 ) (
 cond u3 (
 let u5:=(Al d3 t0 t3)
 cond (dO 0 t3 u5) (
 some (.inr (.inr ((PU u5 t3),())))
 ) none
 ) none
 )
 ) none
 ) (
 some (.inl (t0,(ai .i64 t3 1),()))
 )
 ) none
 ) none
 ) (
 some (.inr (.inl (t0,t3,())))
 )
def u0:=PL (af (xo ze))
def II (p0:List R3):Option O7 :=
 cond (au (ae p0) 2) (
 some ((),((p0,()),()))
 ) (
 (u0 p0 1).bind (Sum.elim (fun y1 =>
 some ((),((y1.1,()),()))
 ) (fun y1 =>
 some ((),(y1,()))
 ))
 )
def N6:Su:=⟨[.mv q3],[(false,[q3])],true,.inl fun x=>II x.1⟩
def rH:List SE:=[.own 0 q3,.d 3 ki]
def Pj:List SE:=[.own 2 q3]
def Tv:Nat->Option (Lo Pj)
 | 0=>some ⟨rH,xo u0⟩
 | _=>none
def P8:List (Nat×SS):=[]
def UB:Nat->Option (St->Tr St)
 | 14=>some (rY 54 55 56 0 3 ll)
 | _=>none
def D3:En:=zJ 61 tt P8 Pj Tv [] (UB)
theorem Q6 (x:bM rH):(dh D3 0 rH (bc 0 (ak Tryz.f170)) x).run=xo ze x:=by kernel_rfl
theorem t170 (x:PT N6.ps):(GM D3 (ak Tryz.f170) Tryz.f170.results.toList N6.ps N6.rs true x).run=II x.1:=by kernel_rfl
theorem KZ:dm Tryz.prog D3:=cZ (l:=P8) trivial
theorem N8:cP Tryz.prog D3 (bh 14 (ak Tryz.f170)) (rY 54 55 56 0 3 ll) :=
 yo (E:=D3) (lN hT) (rid:=14) (ta:=54) (tb:=55) (tc:=56) (t0:=0) (tI:=3) (ty:=54) (o1:=fP (bh 14 (ak Tryz.f170)) 0) (o2:=fP (bh 14 (ak Tryz.f170)) 1) (o3:=fP (bh 14 (ak Tryz.f170)) 2) (o4:=fP (bh 14 (ak Tryz.f170)) 3) (c:=Ak (fP (bh 14 (ak Tryz.f170)) 3)) (te:=⟨false,ll,0,8,[]⟩)
  (by kernel_rfl) (by kernel_rfl) (by kernel_rfl) (by kernel_rfl) (by kernel_rfl) (by kernel_rfl) (by kernel_rfl) (by kernel_rfl) (by kernel_rfl) (by kernel_rfl) (by kernel_rfl) (by kernel_rfl) (by kernel_rfl) (by kernel_rfl) (by kernel_rfl) (by kernel_rfl) (by kernel_rfl) (by kernel_rfl) (by kernel_rfl) (by kernel_rfl) (by kernel_rfl)
theorem Qd:cr Tryz.prog D3 0 (.loop (bc 0 (ak Tryz.f170))) ⟨rH,xo u0⟩ :=
 eC (lN hT) KZ eP (step:=fun (x:bM rH)=>ze x.1 x.2.1) Q6 (ba [] (by kernel_rfl) trivial [(14,bh 14 (ak Tryz.f170))] (by kernel_rfl) ⟨xW rfl N8,trivial⟩)
theorem VH:ar Tryz.prog 170 N6 :=
 qX (E:=D3) (lN hT) KZ eP (fn:=Tryz.f170) (c:=(ak Tryz.f170)) (by kernel_rfl) (by kernel_rfl) (by kernel_rfl) rfl (ba [(0,.loop (bc 0 (ak Tryz.f170)))] (by kernel_rfl) ⟨l8 rfl Qd,trivial⟩ [] (by kernel_rfl) trivial) fun x y h=>⟨y.1,fun _=>rfl,(t170 x).trans h⟩
def oz (t1:Int) (t5:List R3) (t9:List R9) (t10 t11:Int):Rd (Int×(List R3)×(List R9)×Int×Int×Unit) Unit :=
 cond (au t11 t10) (
 cond (aR t11 t9) (
 (Kn (gt d9 t9 t11).1 t1).bind fun y1 =>
 cond (ct 8 t5 [y1.2.1]) (
 some (.inl (t1,(j3 t5 [y1.2.1]),t9,t10,(ai .i64 t11 1),()))
 ) none
 ) none
 ) (
 some (.inr (.inl (t1,t5,t9,t10,t11,())))
 )
def HY:=xP (af (fh oz))
def N3 (p0:List R9) (p1:Int):Option O7 :=
 (HY p1 [] p0 (ae p0) 0).bind (Sum.elim (fun y1 =>
 (xe y1.2.1).bind fun y2 =>
 (II y2.1.1.1).bind fun y3 =>
 some ((),(y3.2.1,()))
 ) (fun _ =>
 none
 ))
def XJ:Su:=⟨[.c false [q9],.c false [ki]],[(false,[q3])],true,.inl fun x=>N3 x.1.1 x.2.1.1⟩
theorem VG:ar Tryz.prog 109 XJ :=
 fl (ac Pr (ac Wo (ac VH an))) [] [(0,⟨[.d 1 ki,.own 5 q3,.d 9 q9,.d 10 ki,.d 11 ki],af (fh oz)⟩)] [] Tryz.f109 (lp [0] (sc cN sn))
def W5 (p0:(List R5)×Int×(List R3)×Int×Int×Int×Int×Int×(List R5)×Unit) (p1:Int):Option O7 :=
 (Na p0.1).bind fun y1 =>
 (N3 y1.2.1.1 p1).bind fun y2 =>
 some ((),(y2.2.1,()))
def s54:Su:=⟨[.c true [q5,ki,q3,ki,ki,ki,ki,ki,q5],.c false [ki]],[(false,[q3])],true,.inl fun x=>W5 x.1 x.2.1.1⟩
theorem XN:ar Tryz.prog 54 s54 :=
 fq (ac Vm (ac VG an)) Tryz.f54
def HF (t0 t1:List R3) (t12 t13:Int):Rd ((List R3)×(List R3)×Int×Int×Unit) Y1 :=
 cond (au t13 t12) (
 cond (aR t13 t0) (
 cond (aR t13 t1) (
 cond (!(aq (gt d3 t0 t13).1 (gt d3 t1 t13).1)) (
 some (.inr (.inr (false,())))
 ) (
 some (.inl (t0,t1,t12,(ai .i64 t13 1),()))
 )
 ) none
 ) none
 ) (
 some (.inr (.inl (t0,t1,t12,t13,())))
 )
def Sg:=mc (af (cV HF))
def Ru (p0 p1:List R3):Option ed :=
 let u1:=(ae p0)
 cond (!(aq u1 (ae p1))) (
 c0
 ) (
 (Sg p0 p1 u1 0).bind (Sum.elim (fun _ =>
 c2
 ) (fun y1 =>
 some ((),(y1,()))
 ))
 )
def aad:Su:=⟨[.c false [q3],.c false [q3]],[(false,[.bool])],true,.inl fun x=>Ru x.1.1 x.2.1.1⟩
theorem UT:ar Tryz.prog 133 aad :=
 fl an [.d 4 .bool] [(0,⟨[.d 0 q3,.d 1 q3,.d 12 ki,.d 13 ki],af (cV HF)⟩)] [] Tryz.f133 (lp [0] (sc cN sn))
def Wk (p0:(List R5)×Int×(List R3)×Int×Int×Int×Int×Int×(List R5)×Unit) (p1:Int):Option ed :=
 (nh p1 1 5).bind fun y1 =>
 cond (!y1.2.1.1) (
 c0
 ) (
 (V2 p0.2.1).bind fun y2 =>
 let u1:=(ae p0.2.2.2.2.2.2.2.2.1)
 cond (cond (cond (cq y2.2.1.1 []) true (au 300 (ae p0.1))) true (au 200 u1)) (
 c0
 ) (
 (uC p0.2.2.2.2.1).bind fun y3 =>
 cond (!y3.2.1.1) (
 c0
 ) (
 (uC p0.2.2.2.2.2.2.2.1).bind fun y4 =>
 cond (!y4.2.1.1) (
 c0
 ) (
 cond (aq p0.2.1 0) (
 let u2:=(ae p0.2.2.1)
 cond (au 0 u2) (
 c0
 ) (
 cond (aq p0.2.1 1) (
 let u3:=(nh p0.2.2.2.1 0 (aM .i64 u2 1))
 Option.bind u3 fun y5 =>
 cond (!y5.2.1.1) (
 c0
 ) (
 cond (au p0.2.1 3) (
 some ((),(((cond (cond (cond (aq p0.2.2.2.2.2.1 (-1)) (aq p0.2.2.2.2.2.2.1 (-1)) false) (aq p0.2.2.2.2.2.2.2.1 0) false) (aq u1 0) false),()),()))
 ) (
 let u4:=(uC p0.2.2.2.2.2.1)
 Option.bind u4 fun y6 =>
 let u5:=(cond (!y6.2.1.1) true (au p0.2.2.2.2.2.1 p0.2.2.2.2.1))
 cond u5 (
 c0
 ) (
 cond (aq p0.2.1 5) (
 let u6:=(uC p0.2.2.2.2.2.2.1)
 Option.bind u6 fun y7 =>
 some ((),(((cond y7.2.1.1 (bH p0.2.2.2.2.2.1 p0.2.2.2.2.2.2.1) false),()),()))
 ) (
 some ((),(((aq p0.2.2.2.2.2.2.1 (-1)),()),()))
 )
 )
 )
 )
 ) (
 cond (aq p0.2.1 2) (
 cond (!(cond (aq p0.2.2.2.1 u2) (au 0 u2) false)) (
 c0
 ) (
 cond (au p0.2.1 3) (
 some ((),(((cond (cond (cond (aq p0.2.2.2.2.2.1 (-1)) (aq p0.2.2.2.2.2.2.1 (-1)) false) (aq p0.2.2.2.2.2.2.2.1 0) false) (aq u1 0) false),()),()))
 ) (
 let u3:=(uC p0.2.2.2.2.2.1)
 Option.bind u3 fun y5 =>
 let u4:=(cond (!y5.2.1.1) true (au p0.2.2.2.2.2.1 p0.2.2.2.2.1))
 cond u4 (
 c0
 ) (
 cond (aq p0.2.1 5) (
 let u5:=(uC p0.2.2.2.2.2.2.1)
 Option.bind u5 fun y6 =>
 some ((),(((cond y6.2.1.1 (bH p0.2.2.2.2.2.1 p0.2.2.2.2.2.2.1) false),()),()))
 ) (
 some ((),(((aq p0.2.2.2.2.2.2.1 (-1)),()),()))
 )
 )
 )
 )
 ) (
 cond (aq p0.2.1 3) (
 let u3:=(nh p0.2.2.2.1 1 u2)
 Option.bind u3 fun y5 =>
 cond (!y5.2.1.1) (
 c0
 ) (
 cond (au p0.2.1 3) (
 some ((),(((cond (cond (cond (aq p0.2.2.2.2.2.1 (-1)) (aq p0.2.2.2.2.2.2.1 (-1)) false) (aq p0.2.2.2.2.2.2.2.1 0) false) (aq u1 0) false),()),()))
 ) (
 let u4:=(uC p0.2.2.2.2.2.1)
 Option.bind u4 fun y6 =>
 let u5:=(cond (!y6.2.1.1) true (au p0.2.2.2.2.2.1 p0.2.2.2.2.1))
 cond u5 (
 c0
 ) (
 cond (aq p0.2.1 5) (
 let u6:=(uC p0.2.2.2.2.2.2.1)
 Option.bind u6 fun y7 =>
 some ((),(((cond y7.2.1.1 (bH p0.2.2.2.2.2.1 p0.2.2.2.2.2.2.1) false),()),()))
 ) (
 some ((),(((aq p0.2.2.2.2.2.2.1 (-1)),()),()))
 )
 )
 )
 )
 ) (
 cond (!(aq p0.2.2.2.1 0)) (
 c0
 ) (
 cond (au p0.2.1 3) (
 some ((),(((cond (cond (cond (aq p0.2.2.2.2.2.1 (-1)) (aq p0.2.2.2.2.2.2.1 (-1)) false) (aq p0.2.2.2.2.2.2.2.1 0) false) (aq u1 0) false),()),()))
 ) (
 let u3:=(uC p0.2.2.2.2.2.1)
 Option.bind u3 fun y5 =>
 let u4:=(cond (!y5.2.1.1) true (au p0.2.2.2.2.2.1 p0.2.2.2.2.1))
 cond u4 (
 c0
 ) (
 cond (aq p0.2.1 5) (
 let u5:=(uC p0.2.2.2.2.2.2.1)
 Option.bind u5 fun y6 =>
 some ((),(((cond y6.2.1.1 (bH p0.2.2.2.2.2.1 p0.2.2.2.2.2.2.1) false),()),()))
 ) (
 some ((),(((aq p0.2.2.2.2.2.2.1 (-1)),()),()))
 )
 )
 )
 )
 )
 )
 )
 )
 ) (
 (W5 p0 p1).bind fun y5 =>
 (Ru p0.2.2.1 y5.2.1.1).bind fun y6 =>
 cond (!y6.2.1.1) (
 c0
 ) (
 cond (aq p0.2.1 1) (
 let u2:=(ae p0.2.2.1)
 let u3:=(nh p0.2.2.2.1 0 (aM .i64 u2 1))
 Option.bind u3 fun y7 =>
 cond (!y7.2.1.1) (
 c0
 ) (
 cond (au p0.2.1 3) (
 some ((),(((cond (cond (cond (aq p0.2.2.2.2.2.1 (-1)) (aq p0.2.2.2.2.2.2.1 (-1)) false) (aq p0.2.2.2.2.2.2.2.1 0) false) (aq u1 0) false),()),()))
 ) (
 let u4:=(uC p0.2.2.2.2.2.1)
 Option.bind u4 fun y8 =>
 let u5:=(cond (!y8.2.1.1) true (au p0.2.2.2.2.2.1 p0.2.2.2.2.1))
 cond u5 (
 c0
 ) (
 cond (aq p0.2.1 5) (
 let u6:=(uC p0.2.2.2.2.2.2.1)
 Option.bind u6 fun y9 =>
 some ((),(((cond y9.2.1.1 (bH p0.2.2.2.2.2.1 p0.2.2.2.2.2.2.1) false),()),()))
 ) (
 some ((),(((aq p0.2.2.2.2.2.2.1 (-1)),()),()))
 )
 )
 )
 )
 ) (
 cond (aq p0.2.1 2) (
 let u2:=(ae p0.2.2.1)
 cond (!(cond (aq p0.2.2.2.1 u2) (au 0 u2) false)) (
 c0
 ) (
 cond (au p0.2.1 3) (
 some ((),(((cond (cond (cond (aq p0.2.2.2.2.2.1 (-1)) (aq p0.2.2.2.2.2.2.1 (-1)) false) (aq p0.2.2.2.2.2.2.2.1 0) false) (aq u1 0) false),()),()))
 ) (
 let u3:=(uC p0.2.2.2.2.2.1)
 Option.bind u3 fun y7 =>
 let u4:=(cond (!y7.2.1.1) true (au p0.2.2.2.2.2.1 p0.2.2.2.2.1))
 cond u4 (
 c0
 ) (
 cond (aq p0.2.1 5) (
 let u5:=(uC p0.2.2.2.2.2.2.1)
 Option.bind u5 fun y8 =>
 some ((),(((cond y8.2.1.1 (bH p0.2.2.2.2.2.1 p0.2.2.2.2.2.2.1) false),()),()))
 ) (
 some ((),(((aq p0.2.2.2.2.2.2.1 (-1)),()),()))
 )
 )
 )
 )
 ) (
 cond (aq p0.2.1 3) (
 let u2:=(ae p0.2.2.1)
 let u3:=(nh p0.2.2.2.1 1 u2)
 Option.bind u3 fun y7 =>
 cond (!y7.2.1.1) (
 c0
 ) (
 cond (au p0.2.1 3) (
 some ((),(((cond (cond (cond (aq p0.2.2.2.2.2.1 (-1)) (aq p0.2.2.2.2.2.2.1 (-1)) false) (aq p0.2.2.2.2.2.2.2.1 0) false) (aq u1 0) false),()),()))
 ) (
 let u4:=(uC p0.2.2.2.2.2.1)
 Option.bind u4 fun y8 =>
 let u5:=(cond (!y8.2.1.1) true (au p0.2.2.2.2.2.1 p0.2.2.2.2.1))
 cond u5 (
 c0
 ) (
 cond (aq p0.2.1 5) (
 let u6:=(uC p0.2.2.2.2.2.2.1)
 Option.bind u6 fun y9 =>
 some ((),(((cond y9.2.1.1 (bH p0.2.2.2.2.2.1 p0.2.2.2.2.2.2.1) false),()),()))
 ) (
 some ((),(((aq p0.2.2.2.2.2.2.1 (-1)),()),()))
 )
 )
 )
 )
 ) (
 cond (!(aq p0.2.2.2.1 0)) (
 c0
 ) (
 cond (au p0.2.1 3) (
 some ((),(((cond (cond (cond (aq p0.2.2.2.2.2.1 (-1)) (aq p0.2.2.2.2.2.2.1 (-1)) false) (aq p0.2.2.2.2.2.2.2.1 0) false) (aq u1 0) false),()),()))
 ) (
 let u2:=(uC p0.2.2.2.2.2.1)
 Option.bind u2 fun y7 =>
 let u3:=(cond (!y7.2.1.1) true (au p0.2.2.2.2.2.1 p0.2.2.2.2.1))
 cond u3 (
 c0
 ) (
 cond (aq p0.2.1 5) (
 let u4:=(uC p0.2.2.2.2.2.2.1)
 Option.bind u4 fun y8 =>
 some ((),(((cond y8.2.1.1 (bH p0.2.2.2.2.2.1 p0.2.2.2.2.2.2.1) false),()),()))
 ) (
 some ((),(((aq p0.2.2.2.2.2.2.1 (-1)),()),()))
 )
 )
 )
 )
 )
 )
 )
 )
 )
 )
 )
 )
 )
def s75:Su:=⟨[.c true [q5,ki,q3,ki,ki,ki,ki,ki,q5],.c false [ki]],[(false,[.bool])],true,.inl fun x=>Wk x.1 x.2.1.1⟩
theorem aah:ar Tryz.prog 75 s75 :=
 fq (ac mW (ac NN (ac YO (ac XN (ac UT an))))) Tryz.f75
def Xk (p0:(List R5)×Int×(List R3)×Int×Int×Int×Int×Int×(List R5)×Unit) (p1:Int):Option ed :=
 let u1:=(Hj 0 (FJ p0.2.2.2.1 (ae p0.2.2.1)))
 cond (dO 0 u1 p0.2.2.1) (
 (Sh (sub p0.2.2.1 0 u1) p1).bind fun y1 =>
 some ((),(y1.2.1,()))
 ) none
def s77:Su:=⟨[.c true [q5,ki,q3,ki,ki,ki,ki,ki,q5],.c false [ki]],[(false,[.bool])],true,.inl fun x=>Xk x.1 x.2.1.1⟩
theorem aaq:ar Tryz.prog 77 s77 :=
 fq (ac Sz an) Tryz.f77
def ve (t3:List R3) (t36:List gy) (t37 t38:Int) (t61:List R3) (t62 t63:Int) (b1:(List eb)×Int×Int×(List gy)×Unit):Rd ((List R3)×(List gy)×Int×Int×(List R3)×Int×Int×CI×Unit) Y1 :=
 cond (au t63 t62) (
 cond (aR t63 t61) (
 let u1:=(gt d3 t61 t63)
 cond (aq u1.1 (-1)) (
 let u2:=(ai .i64 t63 1)
 some (.inl (t3,t36,t37,t38,t61,t62,u2,b1,()))
 ) (
 cond (bH b1.2.2.1 u1.1) (
 some (.inr (.inr (false,())))
 ) (
 (Sh t3 u1.1).bind fun y1 =>
 cond y1.2.1.1 (
 some (.inr (.inr (false,())))
 ) (
 cond (ct 8 t3 [u1]) (
 let u2:=(ai .i64 t63 1)
 some (.inl ((j3 t3 [u1]),t36,t37,t38,t61,t62,u2,b1,()))
 ) none
 )
 )
 )
 ) none
 ) (
 some (.inr (.inl (t3,t36,t37,t38,t61,t62,t63,b1,())))
 )
def Pf:=SU (af (yz ve))
def vC (t3:List R3) (t36:List gy) (t37 t38:Int) (b1:(List eb)×Int×Int×(List gy)×Unit):Rd ((List R3)×(List gy)×Int×Int×CI×Unit) Y1 :=
 cond (au t38 t37) (
 cond (aR t38 t36) (
 let u1:=(gt d62 t36 t38)
 (Wk u1 (ae b1.1)).bind fun y1 =>
 cond (cond (!y1.2.1.1) true (au b1.2.1 u1.2.2.2.2.2.2.2.1)) (
 some (.inr (.inr (false,())))
 ) (
 (Pf t3 t36 t37 t38 [(u1.2.2.2.2.1,()),(u1.2.2.2.2.2.1,()),(u1.2.2.2.2.2.2.1,())] (ae [(u1.2.2.2.2.1,()),(u1.2.2.2.2.2.1,()),(u1.2.2.2.2.2.2.1,())]) 0 b1).bind (Sum.elim (fun y2 =>
 some (.inl (y2.1,y2.2.1,y2.2.2.1,(ai .i64 y2.2.2.2.1 1),y2.2.2.2.2.2.2.2.1,()))
 ) (fun y2 =>
 some (.inr (.inr (y2.1,())))
 ))
 )
 ) none
 ) (
 some (.inr (.inl (t3,t36,t37,t38,b1,())))
 )
def Pg:=xP (af (fh vC))
def vp (t8:Int) (t85:List eb) (t86 t87:Int) (t99:List gy) (t100 t101:Int) (b1:(List eb)×Int×Int×(List gy)×Unit) (b9:Int×(List dp)×Unit):Rd (Int×(List eb)×Int×Int×(List gy)×Int×Int×CI×VV×Unit) Y1 :=
 cond (au t101 t100) (
 cond (aR t101 t99) (
 (Xk (gt d62 t99 t101) t8).bind fun y1 =>
 cond (!(Jk y1.2.1.1 (aq b9.1 t101))) (
 some (.inr (.inr (false,())))
 ) (
 some (.inl (t8,t85,t86,t87,t99,t100,(ai .i64 t101 1),b1,b9,()))
 )
 ) none
 ) (
 some (.inr (.inl (t8,t85,t86,t87,t99,t100,t101,b1,b9,())))
 )
def P6:=UM (af (Dd vp))
def xK (t85:List eb) (t86 t87:Int) (b1:(List eb)×Int×Int×(List gy)×Unit):Rd ((List eb)×Int×Int×CI×Unit) Y1 :=
 cond (au t87 t86) (
 cond (aR t87 t85) (
 let u1:=(ae b1.2.2.2.1)
 let u2:=(gt d89 t85 t87)
 cond (bH u1 u2.1) (
 some (.inr (.inr (false,())))
 ) (
 (P6 t87 t85 t86 t87 b1.2.2.2.1 u1 0 b1 u2).bind (Sum.elim (fun y1 =>
 some (.inl (y1.2.1,y1.2.2.1,(ai .i64 y1.2.2.2.1 1),y1.2.2.2.2.2.2.2.1,()))
 ) (fun y1 =>
 some (.inr (.inr (y1.1,())))
 ))
 )
 ) none
 ) (
 some (.inr (.inl (t85,t86,t87,b1,())))
 )
def Pw:=mc (af (cV xK))
def Xz (p0:(List eb)×Int×Int×(List gy)×Unit):Option ed :=
 (Xf p0.1).bind fun y1 =>
 cond (!y1.2.1.1) (
 c0
 ) (
 (uC p0.2.1).bind fun y2 =>
 cond (!y2.2.1.1) (
 c0
 ) (
 (uC p0.2.2.1).bind fun y3 =>
 let u1:=(ae p0.2.2.2.1)
 cond (cond (!y3.2.1.1) true (au 12 u1)) (
 c0
 ) (
 (Pg [] p0.2.2.2.1 u1 0 p0).bind (Sum.elim (fun y4 =>
 (Pw y4.2.2.2.2.1.1 (ae y4.2.2.2.2.1.1) 0 y4.2.2.2.2.1).bind (Sum.elim (fun _ =>
 c2
 ) (fun y5 =>
 some ((),(y5,()))
 ))
 ) (fun y4 =>
 some ((),(y4,()))
 ))
 )
 )
 )
def s32:Su:=⟨[.c true [fW,ki,ki,jW]],[(false,[.bool])],true,.inl fun x=>Xz x.1⟩
theorem Zo:ar Tryz.prog 32 s32 :=
 fl (ac NN (ac Zr (ac Sz (ac aah (ac aaq an))))) [.d 2 .bool] [(2,⟨[.own 3 q3,.d 36 jW,.d 37 ki,.d 38 ki,.own 61 q3,.d 62 ki,.d 63 ki,.box 1 [(false,fW),(false,ki),(false,ki),(false,jW)]],af (yz ve)⟩),(0,⟨[.own 3 q3,.d 36 jW,.d 37 ki,.d 38 ki,.box 1 [(false,fW),(false,ki),(false,ki),(false,jW)]],af (fh vC)⟩),(6,⟨[.d 8 ki,.d 85 fW,.d 86 ki,.d 87 ki,.d 99 jW,.d 100 ki,.d 101 ki,.box 1 [(false,fW),(false,ki),(false,ki),(false,jW)],.box 9 [(false,ki),(false,fF)]],af (Dd vp)⟩),(4,⟨[.d 85 fW,.d 86 ki,.d 87 ki,.box 1 [(false,fW),(false,ki),(false,ki),(false,jW)]],af (cV xK)⟩)] [] Tryz.f32 (lp [0,4] (sc (lp [2] (sc cN sn)) (sc (lp [6] (sc cN sn)) sn)))
def xf (t3 t7:List eb) (t8 t9:Int):Rd WZ Unit :=
 cond (au t9 t8) (
 cond (aR t9 t7) (
 let u1:=(gt d89 t7 t9)
 (Jl (u1.2.1,())).bind fun y1 =>
 cond (ct 32 t3 [(u1.1,y1.2.1.1,())]) (
 some (.inl ((j3 t3 [(u1.1,y1.2.1.1,())]),t7,t8,(ai .i64 t9 1),()))
 ) none
 ) none
 ) (
 some (.inr (.inl (t3,t7,t8,t9,())))
 )
def PZ:=mc (af (cV xf))
def Xp (p0:List eb):Option Y31 :=
 (PZ [] p0 (ae p0) 0).bind (Sum.elim (fun y1 =>
 some ((),((y1.1,()),()))
 ) (fun _ =>
 none
 ))
def s92:Su:=⟨[.c false [fW]],[(false,[fW])],true,.inl fun x=>Xp x.1.1⟩
theorem ZM:ar Tryz.prog 92 s92 :=
 fl (ac Oz an) [] [(0,⟨[.own 3 fW,.d 7 fW,.d 8 ki,.d 9 ki],af (cV xf)⟩)] [] Tryz.f92 (lp [0] (sc cN sn))
def Xt (p0:(List R5)×Int×(List R3)×Int×Int×Int×Int×Int×(List R5)×Unit):Option XY :=
 (Pl p0.1).bind fun y1 =>
 (BH p0.2.2.1).bind fun y2 =>
 (Pl p0.2.2.2.2.2.2.2.2.1).bind fun y3 =>
 some ((),((y1.2.1.1,p0.2.1,y2.2.1.1,p0.2.2.2.1,p0.2.2.2.2.1,p0.2.2.2.2.2.1,p0.2.2.2.2.2.2.1,p0.2.2.2.2.2.2.2.1,y3.2.1.1,()),()))
def s93:Su:=⟨[.c true [q5,ki,q3,ki,ki,ki,ki,ki,q5]],[(true,[q5,ki,q3,ki,ki,ki,ki,ki,q5])],true,.inl fun x=>Xt x.1⟩
theorem XP:ar Tryz.prog 93 s93 :=
 fq (ac OQ (ac TW an)) Tryz.f93
def wq (t15:List gy) (t16 t17:Int) (b2 b3:(List eb)×Int×Int×(List gy)×Unit):Rd ((List gy)×Int×Int×CI×CI×Unit) Unit :=
 cond (au t17 t16) (
 cond (aR t17 t15) (
 (Xt (gt d62 t15 t17)).bind fun y1 =>
 cond (ct 120 b3.2.2.2.1 [y1.2.1]) (
 some (.inl (t15,t16,(ai .i64 t17 1),b2,(b3.1,b3.2.1,b3.2.2.1,(j3 b3.2.2.2.1 [y1.2.1]),()),()))
 ) none
 ) none
 ) (
 some (.inr (.inl (t15,t16,t17,b2,b3,())))
 )
def PM:=xP (af (fh wq))
def Xj (p0:(List eb)×Int×Int×(List gy)×Unit):Option ZH :=
 (Xp p0.1).bind fun y1 =>
 (PM p0.2.2.2.1 (ae p0.2.2.2.1) 0 ([],0,0,[],()) (y1.2.1.1,p0.2.1,p0.2.2.1,[],())).bind (Sum.elim (fun y2 =>
 some ((),(y2.2.2.2.2.1,()))
 ) (fun _ =>
 none
 ))
def s42:Su:=⟨[.c true [fW,ki,ki,jW]],[(true,[fW,ki,ki,jW])],true,.inl fun x=>Xj x.1⟩
theorem ZN:ar Tryz.prog 42 s42 :=
 fl (ac ZM (ac XP an)) [] [(0,⟨[.d 15 jW,.d 16 ki,.d 17 ki,.box 2 [(true,fW),(false,ki),(false,ki),(true,jW)],.box 3 [(true,fW),(false,ki),(false,ki),(true,jW)]],af (fh wq)⟩)] [] Tryz.f42 (lp [0] (sc cN sn))
def g13 (p0:(List eb)×Int×Int×(List gy)×Unit) (p1:Int):Option (Unit×(CI×Y1×Unit)) :=
 (Xz p0).bind fun y1 =>
 cond (cond (!y1.2.1.1) true (aq p0.2.2.1 1000000000)) (
 WR
 ) (
 (nh p1 1 1000).bind fun y2 =>
 cond (cond (!y2.2.1.1) true (au 1000000000 (ai .i64 p0.2.1 p1))) (
 WR
 ) (
 (Xj p0).bind fun y3 =>
 some ((),((y3.2.1.1,(ai .i64 y3.2.1.2.1 p1),(ai .i64 y3.2.1.2.2.1 1),y3.2.1.2.2.2.1,()),(true,()),()))
 )
 )
def s13:Su:=⟨[.c true [fW,ki,ki,jW],.c false [ki]],[(true,[fW,ki,ki,jW]),(false,[.bool])],true,.inl fun x=>g13 x.1 x.2.1.1⟩
theorem Zl:ar Tryz.prog 13 s13 :=
 fq (ac mW (ac Zo (ac ZN an))) Tryz.f13
def Nk (p0 p1:(List UInt8)×Int×Int×Unit):Option ed :=
 cond (!(cq p0.1 p1.1)) (
 c0
 ) (
 cond (!(aq p0.2.1 p1.2.1)) (
 c0
 ) (
 cond (!(aq p0.2.2.1 p1.2.2.1)) (
 c0
 ) (
 c2
 )
 )
 )
def aak:Su:=⟨[.c true [.str,ki,ki],.c true [.str,ki,ki]],[(false,[.bool])],true,.inl fun x=>Nk x.1 x.2.1⟩
theorem Th:ar Tryz.prog 294 aak :=
 fq an Tryz.f294
def pJ (t0 t1:List gr) (t5:Int):Rd ((List gr)×(List gr)×Int×Unit) Y1 :=
 cond (au t5 (ae t0)) (
 cond (aR t5 t0) (
 cond (aR t5 t1) (
 (Nk (gt d95 t0 t5) (gt d95 t1 t5)).bind fun y1 =>
 cond (!y1.2.1.1) (
 some (.inr (.inr (false,())))
 ) (
 some (.inl (t0,t1,(ai .i64 t5 1),()))
 )
 ) none
 ) none
 ) (
 some (.inr (.inl (t0,t1,t5,())))
 )
def J0:=kD (af (dk pJ))
def LM (p0 p1:List gr):Option ed :=
 cond (!(aq (ae p0) (ae p1))) (
 c0
 ) (
 (J0 p0 p1 0).bind (Sum.elim (fun _ =>
 c2
 ) (fun y1 =>
 some ((),(y1,()))
 ))
 )
def ZL:Su:=⟨[.c false [ma],.c false [ma]],[(false,[.bool])],true,.inl fun x=>LM x.1.1 x.2.1.1⟩
theorem UA:ar Tryz.prog 253 ZL :=
 fl (ac Th an) [.d 4 .bool] [(0,⟨[.d 0 ma,.d 1 ma,.d 5 ki],af (dk pJ)⟩)] [] Tryz.f253 (lp [0] (sc cN sn))
def pL (t0 t1:List R3) (t5:Int):Rd ((List R3)×(List R3)×Int×Unit) Y1 :=
 cond (au t5 (ae t0)) (
 cond (aR t5 t0) (
 cond (aR t5 t1) (
 cond (!(aq (gt d3 t0 t5).1 (gt d3 t1 t5).1)) (
 some (.inr (.inr (false,())))
 ) (
 some (.inl (t0,t1,(ai .i64 t5 1),()))
 )
 ) none
 ) none
 ) (
 some (.inr (.inl (t0,t1,t5,())))
 )
def H2:=kD (af (dk pL))
def Gs (p0 p1:List R3):Option ed :=
 cond (!(aq (ae p0) (ae p1))) (
 c0
 ) (
 (H2 p0 p1 0).bind (Sum.elim (fun _ =>
 c2
 ) (fun y1 =>
 some ((),(y1,()))
 ))
 )
def Yg:Su:=⟨[.c false [q3],.c false [q3]],[(false,[.bool])],true,.inl fun x=>Gs x.1.1 x.2.1.1⟩
theorem OI:ar Tryz.prog 155 Yg :=
 fl an [.d 4 .bool] [(0,⟨[.d 0 q3,.d 1 q3,.d 5 ki],af (dk pL)⟩)] [] Tryz.f155 (lp [0] (sc cN sn))
def NQ (p0 p1:Int×Int×(List R3)×(List R3)×Unit):Option ed :=
 cond (!(aq p0.1 p1.1)) (
 c0
 ) (
 cond (!(aq p0.2.1 p1.2.1)) (
 c0
 ) (
 (Gs p0.2.2.1 p1.2.2.1).bind fun y1 =>
 cond (!y1.2.1.1) (
 c0
 ) (
 (Gs p0.2.2.2.1 p1.2.2.2.1).bind fun y2 =>
 cond (!y2.2.1.1) (
 c0
 ) (
 c2
 )
 )
 )
 )
def ZE:Su:=⟨[.c true [ki,ki,q3,q3],.c true [ki,ki,q3,q3]],[(false,[.bool])],true,.inl fun x=>NQ x.1 x.2.1⟩
theorem V5:ar Tryz.prog 254 ZE :=
 fq (ac OI an) Tryz.f254
def wH (t0 t1:List R5) (t5:Int):Rd ((List R5)×(List R5)×Int×Unit) Y1 :=
 cond (au t5 (ae t0)) (
 cond (aR t5 t0) (
 cond (aR t5 t1) (
 cond (!(aq (gt d5 t0 t5).1 (gt d5 t1 t5).1)) (
 some (.inr (.inr (false,())))
 ) (
 some (.inl (t0,t1,(ai .i64 t5 1),()))
 )
 ) none
 ) none
 ) (
 some (.inr (.inl (t0,t1,t5,())))
 )
def OW:=kD (af (dk wH))
def g19 (p0 p1:List R5):Option ed :=
 cond (!(aq (ae p0) (ae p1))) (
 c0
 ) (
 (OW p0 p1 0).bind (Sum.elim (fun _ =>
 c2
 ) (fun y1 =>
 some ((),(y1,()))
 ))
 )
def s19:Su:=⟨[.c false [q5],.c false [q5]],[(false,[.bool])],true,.inl fun x=>g19 x.1.1 x.2.1.1⟩
theorem VK:ar Tryz.prog 19 s19 :=
 fl an [.d 4 .bool] [(0,⟨[.d 0 q5,.d 1 q5,.d 5 ki],af (dk wH)⟩)] [] Tryz.f19 (lp [0] (sc cN sn))
def NC (p0 p1:(List UInt8)×(List UInt8)×(List R5)×Unit):Option ed :=
 cond (!(cq p0.1 p1.1)) (
 c0
 ) (
 cond (!(cq p0.2.1 p1.2.1)) (
 c0
 ) (
 (g19 p0.2.2.1 p1.2.2.1).bind fun y1 =>
 cond (!y1.2.1.1) (
 c0
 ) (
 c2
 )
 )
 )
def YE:Su:=⟨[.c true [.str,.str,q5],.c true [.str,.str,q5]],[(false,[.bool])],true,.inl fun x=>NC x.1 x.2.1⟩
theorem Vv:ar Tryz.prog 295 YE :=
 fq (ac VK an) Tryz.f295
def nS (t0 t1:List cu) (t5:Int):Rd ((List cu)×(List cu)×Int×Unit) Y1 :=
 cond (au t5 (ae t0)) (
 cond (aR t5 t0) (
 cond (aR t5 t1) (
 (NC (gt d166 t0 t5) (gt d166 t1 t5)).bind fun y1 =>
 cond (!y1.2.1.1) (
 some (.inr (.inr (false,())))
 ) (
 some (.inl (t0,t1,(ai .i64 t5 1),()))
 )
 ) none
 ) none
 ) (
 some (.inr (.inl (t0,t1,t5,())))
 )
def IG:=kD (af (dk nS))
def Mw (p0 p1:List cu):Option ed :=
 cond (!(aq (ae p0) (ae p1))) (
 c0
 ) (
 (IG p0 p1 0).bind (Sum.elim (fun _ =>
 c2
 ) (fun y1 =>
 some ((),(y1,()))
 ))
 )
def ZP:Su:=⟨[.c false [dP],.c false [dP]],[(false,[.bool])],true,.inl fun x=>Mw x.1.1 x.2.1.1⟩
theorem T2:ar Tryz.prog 255 ZP :=
 fl (ac Vv an) [.d 4 .bool] [(0,⟨[.d 0 dP,.d 1 dP,.d 5 ki],af (dk nS)⟩)] [] Tryz.f255 (lp [0] (sc cN sn))
def Oc (p0 p1:(List UInt8)×Int×Int×Int×Int×(List gr)×Int×Int×(List R3)×(List R3)×(List cu)×Unit):Option ed :=
 cond (!(cq p0.1 p1.1)) (
 c0
 ) (
 cond (!(aq p0.2.1 p1.2.1)) (
 c0
 ) (
 cond (!(aq p0.2.2.1 p1.2.2.1)) (
 c0
 ) (
 cond (!(aq p0.2.2.2.1 p1.2.2.2.1)) (
 c0
 ) (
 cond (!(aq p0.2.2.2.2.1 p1.2.2.2.2.1)) (
 c0
 ) (
 (LM p0.2.2.2.2.2.1 p1.2.2.2.2.2.1).bind fun y1 =>
 cond (!y1.2.1.1) (
 c0
 ) (
 (NQ (p0.2.2.2.2.2.2.1,p0.2.2.2.2.2.2.2.1,p0.2.2.2.2.2.2.2.2.1,p0.2.2.2.2.2.2.2.2.2.1,()) (p1.2.2.2.2.2.2.1,p1.2.2.2.2.2.2.2.1,p1.2.2.2.2.2.2.2.2.1,p1.2.2.2.2.2.2.2.2.2.1,())).bind fun y2 =>
 cond (!y2.2.1.1) (
 c0
 ) (
 (Mw p0.2.2.2.2.2.2.2.2.2.2.1 p1.2.2.2.2.2.2.2.2.2.2.1).bind fun y3 =>
 cond (!y3.2.1.1) (
 c0
 ) (
 c2
 )
 )
 )
 )
 )
 )
 )
 )
def YC:Su:=⟨[.c true [.str,ki,ki,ki,ki,ma,ki,ki,q3,q3,dP],.c true [.str,ki,ki,ki,ki,ma,ki,ki,q3,q3,dP]],[(false,[.bool])],true,.inl fun x=>Oc x.1 x.2.1⟩
theorem WE:ar Tryz.prog 198 YC :=
 fq (ac UA (ac V5 (ac T2 an))) Tryz.f198
def oD (t0 t1:List dp) (t5:Int):Rd ((List dp)×(List dp)×Int×Unit) Y1 :=
 cond (au t5 (ae t0)) (
 cond (aR t5 t0) (
 cond (aR t5 t1) (
 (Oc (gt d59 t0 t5) (gt d59 t1 t5)).bind fun y1 =>
 cond (!y1.2.1.1) (
 some (.inr (.inr (false,())))
 ) (
 some (.inl (t0,t1,(ai .i64 t5 1),()))
 )
 ) none
 ) none
 ) (
 some (.inr (.inl (t0,t1,t5,())))
 )
def JW:=kD (af (dk oD))
def NY (p0 p1:List dp):Option ed :=
 cond (!(aq (ae p0) (ae p1))) (
 c0
 ) (
 (JW p0 p1 0).bind (Sum.elim (fun _ =>
 c2
 ) (fun y1 =>
 some ((),(y1,()))
 ))
 )
def aa6:Su:=⟨[.c false [fF],.c false [fF]],[(false,[.bool])],true,.inl fun x=>NY x.1.1 x.2.1.1⟩
theorem Vs:ar Tryz.prog 154 aa6 :=
 fl (ac WE an) [.d 4 .bool] [(0,⟨[.d 0 fF,.d 1 fF,.d 5 ki],af (dk oD)⟩)] [] Tryz.f154 (lp [0] (sc cN sn))
def Xc (p0 p1:Int×(List dp)×Unit):Option ed :=
 cond (!(aq p0.1 p1.1)) (
 c0
 ) (
 (NY p0.2.1 p1.2.1).bind fun y1 =>
 cond (!y1.2.1.1) (
 c0
 ) (
 c2
 )
 )
def s88:Su:=⟨[.c true [ki,fF],.c true [ki,fF]],[(false,[.bool])],true,.inl fun x=>Xc x.1 x.2.1⟩
theorem Yr:ar Tryz.prog 88 s88 :=
 fq (ac Vs an) Tryz.f88
def wF (t0 t1:List eb) (t5:Int):Rd ((List eb)×(List eb)×Int×Unit) Y1 :=
 cond (au t5 (ae t0)) (
 cond (aR t5 t0) (
 cond (aR t5 t1) (
 (Xc (gt d89 t0 t5) (gt d89 t1 t5)).bind fun y1 =>
 cond (!y1.2.1.1) (
 some (.inr (.inr (false,())))
 ) (
 some (.inl (t0,t1,(ai .i64 t5 1),()))
 )
 ) none
 ) none
 ) (
 some (.inr (.inl (t0,t1,t5,())))
 )
def Pn:=kD (af (dk wF))
def W7 (p0 p1:List eb):Option ed :=
 cond (!(aq (ae p0) (ae p1))) (
 c0
 ) (
 (Pn p0 p1 0).bind (Sum.elim (fun _ =>
 c2
 ) (fun y1 =>
 some ((),(y1,()))
 ))
 )
def s37:Su:=⟨[.c false [fW],.c false [fW]],[(false,[.bool])],true,.inl fun x=>W7 x.1.1 x.2.1.1⟩
theorem X5:ar Tryz.prog 37 s37 :=
 fl (ac Yr an) [.d 4 .bool] [(0,⟨[.d 0 fW,.d 1 fW,.d 5 ki],af (dk wF)⟩)] [] Tryz.f37 (lp [0] (sc cN sn))
def W0 (p0 p1:(List R5)×Int×(List R3)×Int×Int×Int×Int×Int×(List R5)×Unit):Option ed :=
 (g19 p0.1 p1.1).bind fun y1 =>
 cond (!y1.2.1.1) (
 c0
 ) (
 cond (!(aq p0.2.1 p1.2.1)) (
 c0
 ) (
 (Gs p0.2.2.1 p1.2.2.1).bind fun y2 =>
 cond (!y2.2.1.1) (
 c0
 ) (
 cond (!(aq p0.2.2.2.1 p1.2.2.2.1)) (
 c0
 ) (
 cond (!(aq p0.2.2.2.2.1 p1.2.2.2.2.1)) (
 c0
 ) (
 cond (!(aq p0.2.2.2.2.2.1 p1.2.2.2.2.2.1)) (
 c0
 ) (
 cond (!(aq p0.2.2.2.2.2.2.1 p1.2.2.2.2.2.2.1)) (
 c0
 ) (
 cond (!(aq p0.2.2.2.2.2.2.2.1 p1.2.2.2.2.2.2.2.1)) (
 c0
 ) (
 (g19 p0.2.2.2.2.2.2.2.2.1 p1.2.2.2.2.2.2.2.2.1).bind fun y3 =>
 cond (!y3.2.1.1) (
 c0
 ) (
 c2
 )
 )
 )
 )
 )
 )
 )
 )
 )
def s89:Su:=⟨[.c true [q5,ki,q3,ki,ki,ki,ki,ki,q5],.c true [q5,ki,q3,ki,ki,ki,ki,ki,q5]],[(false,[.bool])],true,.inl fun x=>W0 x.1 x.2.1⟩
theorem XR:ar Tryz.prog 89 s89 :=
 fq (ac OI (ac VK an)) Tryz.f89
def wu (t0 t1:List gy) (t5:Int):Rd ((List gy)×(List gy)×Int×Unit) Y1 :=
 cond (au t5 (ae t0)) (
 cond (aR t5 t0) (
 cond (aR t5 t1) (
 (W0 (gt d62 t0 t5) (gt d62 t1 t5)).bind fun y1 =>
 cond (!y1.2.1.1) (
 some (.inr (.inr (false,())))
 ) (
 some (.inl (t0,t1,(ai .i64 t5 1),()))
 )
 ) none
 ) none
 ) (
 some (.inr (.inl (t0,t1,t5,())))
 )
def OK:=kD (af (dk wu))
def Xh (p0 p1:List gy):Option ed :=
 cond (!(aq (ae p0) (ae p1))) (
 c0
 ) (
 (OK p0 p1 0).bind (Sum.elim (fun _ =>
 c2
 ) (fun y1 =>
 some ((),(y1,()))
 ))
 )
def s38:Su:=⟨[.c false [jW],.c false [jW]],[(false,[.bool])],true,.inl fun x=>Xh x.1.1 x.2.1.1⟩
theorem aas:ar Tryz.prog 38 s38 :=
 fl (ac XR an) [.d 4 .bool] [(0,⟨[.d 0 jW,.d 1 jW,.d 5 ki],af (dk wu)⟩)] [] Tryz.f38 (lp [0] (sc cN sn))
def g11 (p0 p1:(List eb)×Int×Int×(List gy)×Unit):Option ed :=
 (W7 p0.1 p1.1).bind fun y1 =>
 cond (!y1.2.1.1) (
 c0
 ) (
 cond (!(aq p0.2.1 p1.2.1)) (
 c0
 ) (
 cond (!(aq p0.2.2.1 p1.2.2.1)) (
 c0
 ) (
 (Xh p0.2.2.2.1 p1.2.2.2.1).bind fun y2 =>
 cond (!y2.2.1.1) (
 c0
 ) (
 c2
 )
 )
 )
 )
def s11:Su:=⟨[.c true [fW,ki,ki,jW],.c true [fW,ki,ki,jW]],[(false,[.bool])],true,.inl fun x=>g11 x.1 x.2.1⟩
theorem aaW:ar Tryz.prog 11 s11 :=
 fq (ac X5 (ac aas an)) Tryz.f11
def mX (t0:Int) (t3:List UInt8):Rd iz Unit :=
 cond (au 0 t0) (
 let u1:=(strOf [((bG .u8 (ai .i64 48 (fx t0 10))),())])
 cond (FQ u1 t3) (
 some (.inl ((l9 .i64 t0 10),(P5 u1 t3),()))
 ) none
 ) (
 some (.inr (.inl (t0,t3,())))
 )
def KL:=PL (af (xo mX))
def rT (p0:Int):Option Ny :=
 cond (bH p0 0) (
 some ((),(([109,48],()),()))
 ) (
 (KL p0 []).bind (Sum.elim (fun y1 =>
 cond (FQ [109] y1.2.1) (
 some ((),(((P5 [109] y1.2.1),()),()))
 ) none
 ) (fun _ =>
 none
 ))
 )
def aba:Su:=⟨[.c false [ki]],[(false,[.str])],true,.inl fun x=>rT x.1.1⟩
theorem yc:ar Tryz.prog 158 aba :=
 fl an [] [(0,⟨[.d 0 ki,.d 3 .str],af (xo mX)⟩)] [] Tryz.f158 (lp [0] (sc cN sn))
def oU (t0:List gr) (t1 t5:Int):Rd ((List gr)×Int×Int×Unit) Unit :=
 cond (au t5 (ae t0)) (
 (rT t1).bind fun y1 =>
 cond (aR t5 t0) (
 let u1:=(gt d95 t0 t5)
 let u2:=(jl t0 t5 (y1.2.1.1,u1.2.1,u1.2.2.1,()))
 cond (aR t5 u2) (
 let u3:=(gt d95 u2 t5)
 let u4:=(ai .i64 t1 1)
 let u5:=(jl u2 t5 (u3.1,u4,u3.2.2.1,()))
 cond (aR t5 u5) (
 let u6:=(gt d95 u5 t5)
 let u7:=(ai .i64 u4 1)
 some (.inl ((jl u5 t5 (u6.1,u6.2.1,u7,())),(ai .i64 u7 1),(ai .i64 t5 1),()))
 ) none
 ) none
 ) none
 ) (
 some (.inr (.inl (t0,t1,t5,())))
 )
def J6:=kD (af (dk oU))
def Mb (p0:List gr) (p1:Int):Option ((((List gr)×Unit)×Unit)×Y7) :=
 (J6 p0 p1 0).bind (Sum.elim (fun y1 =>
 some (((y1.1,()),()),((y1.2.1,()),()))
 ) (fun _ =>
 none
 ))
def Zk:Su:=⟨[.io false [ma],.c false [ki]],[(false,[ki])],true,.inl fun x=>Mb x.1.1 x.2.1.1⟩
theorem Vu:ar Tryz.prog 159 Zk :=
 fl (ac yc an) [] [(0,⟨[.own 0 ma,.d 1 ki,.d 5 ki],af (dk oU)⟩)] [0] Tryz.f159 (lp [0] (sc cN sn))
def uO (t0:List R3) (t1 t5:Int):Rd ((List R3)×Int×Int×Unit) Unit :=
 cond (au t5 (ae t0)) (
 cond (aR t5 t0) (
 some (.inl ((jl t0 t5 (t1,())),(ai .i64 t1 1),(ai .i64 t5 1),()))
 ) none
 ) (
 some (.inr (.inl (t0,t1,t5,())))
 )
def PY:=kD (af (dk uO))
def S0 (p0:List R3) (p1:Int):Option ((Y2×Unit)×Y7) :=
 (PY p0 p1 0).bind (Sum.elim (fun y1 =>
 some (((y1.1,()),()),((y1.2.1,()),()))
 ) (fun _ =>
 none
 ))
def s95:Su:=⟨[.io false [q3],.c false [ki]],[(false,[ki])],true,.inl fun x=>S0 x.1.1 x.2.1.1⟩
theorem TD:ar Tryz.prog 95 s95 :=
 fl an [] [(0,⟨[.own 0 q3,.d 1 ki,.d 5 ki],af (dk uO)⟩)] [0] Tryz.f95 (lp [0] (sc cN sn))
def xr (t0:List R5) (t1 t5:Int):Rd ((List R5)×Int×Int×Unit) Unit :=
 cond (au t5 (ae t0)) (
 cond (aR t5 t0) (
 some (.inl ((jl t0 t5 ((bG .u8 t1),())),(ai .i64 t1 1),(ai .i64 t5 1),()))
 ) none
 ) (
 some (.inr (.inl (t0,t1,t5,())))
 )
def Pq:=kD (af (dk xr))
def g20 (p0:List R5) (p1:Int):Option ((((List R5)×Unit)×Unit)×Y7) :=
 (Pq p0 p1 0).bind (Sum.elim (fun y1 =>
 some (((y1.1,()),()),((y1.2.1,()),()))
 ) (fun _ =>
 none
 ))
def s20:Su:=⟨[.io false [q5],.c false [ki]],[(false,[ki])],true,.inl fun x=>g20 x.1.1 x.2.1.1⟩
theorem Wq:ar Tryz.prog 20 s20 :=
 fl an [] [(0,⟨[.own 0 q5,.d 1 ki,.d 5 ki],af (dk xr)⟩)] [0] Tryz.f20 (lp [0] (sc cN sn))
def pD (t0:List cu) (t1 t5:Int):Rd ((List cu)×Int×Int×Unit) Unit :=
 cond (au t5 (ae t0)) (
 (rT t1).bind fun y1 =>
 cond (aR t5 t0) (
 let u1:=(ai .i64 t1 1)
 (rT u1).bind fun y2 =>
 let u2:=(gt d166 t0 t5)
 let u3:=(jl t0 t5 (y1.2.1.1,u2.2.1,u2.2.2.1,()))
 cond (aR t5 u3) (
 let u4:=(gt d166 u3 t5)
 let u5:=(jl u3 t5 (u4.1,y2.2.1.1,u4.2.2.1,()))
 cond (aR t5 u5) (
 let u6:=(gt d166 u5 t5)
 (g20 u6.2.2.1 (ai .i64 u1 1)).bind fun y3 =>
 some (.inl ((jl u5 t5 (u6.1,u6.2.1,y3.1.1.1,())),y3.2.1.1,(ai .i64 t5 1),()))
 ) none
 ) none
 ) none
 ) (
 some (.inr (.inl (t0,t1,t5,())))
 )
def HD:=kD (af (dk pD))
def Od (p0:List cu) (p1:Int):Option ((((List cu)×Unit)×Unit)×Y7) :=
 (HD p0 p1 0).bind (Sum.elim (fun y1 =>
 some (((y1.1,()),()),((y1.2.1,()),()))
 ) (fun _ =>
 none
 ))
def aao:Su:=⟨[.io false [dP],.c false [ki]],[(false,[ki])],true,.inl fun x=>Od x.1.1 x.2.1.1⟩
theorem We:ar Tryz.prog 160 aao :=
 fl (ac yc (ac Wq an)) [] [(0,⟨[.own 0 dP,.d 1 ki,.d 5 ki],af (dk pD)⟩)] [0] Tryz.f160 (lp [0] (sc cN sn))
def wB (t0:List dp) (t1 t5:Int):Rd Xn Unit :=
 cond (au t5 (ae t0)) (
 (rT t1).bind fun y1 =>
 cond (aR t5 t0) (
 let u1:=(gt d59 t0 t5)
 let u2:=(jl t0 t5 (y1.2.1.1,u1.2.1,u1.2.2.1,u1.2.2.2.1,u1.2.2.2.2.1,u1.2.2.2.2.2.1,u1.2.2.2.2.2.2.1,u1.2.2.2.2.2.2.2.1,u1.2.2.2.2.2.2.2.2.1,u1.2.2.2.2.2.2.2.2.2.1,u1.2.2.2.2.2.2.2.2.2.2.1,()))
 cond (aR t5 u2) (
 let u3:=(gt d59 u2 t5)
 let u4:=(ai .i64 t1 1)
 let u5:=(jl u2 t5 (u3.1,u4,u3.2.2.1,u3.2.2.2.1,u3.2.2.2.2.1,u3.2.2.2.2.2.1,u3.2.2.2.2.2.2.1,u3.2.2.2.2.2.2.2.1,u3.2.2.2.2.2.2.2.2.1,u3.2.2.2.2.2.2.2.2.2.1,u3.2.2.2.2.2.2.2.2.2.2.1,()))
 cond (aR t5 u5) (
 let u6:=(gt d59 u5 t5)
 let u7:=(ai .i64 u4 1)
 let u8:=(jl u5 t5 (u6.1,u6.2.1,u7,u6.2.2.2.1,u6.2.2.2.2.1,u6.2.2.2.2.2.1,u6.2.2.2.2.2.2.1,u6.2.2.2.2.2.2.2.1,u6.2.2.2.2.2.2.2.2.1,u6.2.2.2.2.2.2.2.2.2.1,u6.2.2.2.2.2.2.2.2.2.2.1,()))
 cond (aR t5 u8) (
 let u9:=(gt d59 u8 t5)
 let u10:=(ai .i64 u7 1)
 let u11:=(jl u8 t5 (u9.1,u9.2.1,u9.2.2.1,u10,u9.2.2.2.2.1,u9.2.2.2.2.2.1,u9.2.2.2.2.2.2.1,u9.2.2.2.2.2.2.2.1,u9.2.2.2.2.2.2.2.2.1,u9.2.2.2.2.2.2.2.2.2.1,u9.2.2.2.2.2.2.2.2.2.2.1,()))
 cond (aR t5 u11) (
 let u12:=(gt d59 u11 t5)
 let u13:=(ai .i64 u10 1)
 let u14:=(jl u11 t5 (u12.1,u12.2.1,u12.2.2.1,u12.2.2.2.1,u13,u12.2.2.2.2.2.1,u12.2.2.2.2.2.2.1,u12.2.2.2.2.2.2.2.1,u12.2.2.2.2.2.2.2.2.1,u12.2.2.2.2.2.2.2.2.2.1,u12.2.2.2.2.2.2.2.2.2.2.1,()))
 cond (aR t5 u14) (
 let u15:=(gt d59 u14 t5)
 (Mb u15.2.2.2.2.2.1 (ai .i64 u13 1)).bind fun y2 =>
 let u16:=(jl u14 t5 (u15.1,u15.2.1,u15.2.2.1,u15.2.2.2.1,u15.2.2.2.2.1,y2.1.1.1,u15.2.2.2.2.2.2.1,u15.2.2.2.2.2.2.2.1,u15.2.2.2.2.2.2.2.2.1,u15.2.2.2.2.2.2.2.2.2.1,u15.2.2.2.2.2.2.2.2.2.2.1,()))
 cond (aR t5 u16) (
 let u17:=(gt d59 u16 t5)
 let u18:=(jl u16 t5 (u17.1,u17.2.1,u17.2.2.1,u17.2.2.2.1,u17.2.2.2.2.1,u17.2.2.2.2.2.1,y2.2.1.1,u17.2.2.2.2.2.2.2.1,u17.2.2.2.2.2.2.2.2.1,u17.2.2.2.2.2.2.2.2.2.1,u17.2.2.2.2.2.2.2.2.2.2.1,()))
 cond (aR t5 u18) (
 let u19:=(gt d59 u18 t5)
 let u20:=(ai .i64 y2.2.1.1 1)
 let u21:=(jl u18 t5 (u19.1,u19.2.1,u19.2.2.1,u19.2.2.2.1,u19.2.2.2.2.1,u19.2.2.2.2.2.1,u19.2.2.2.2.2.2.1,u20,u19.2.2.2.2.2.2.2.2.1,u19.2.2.2.2.2.2.2.2.2.1,u19.2.2.2.2.2.2.2.2.2.2.1,()))
 cond (aR t5 u21) (
 let u22:=(gt d59 u21 t5)
 (S0 u22.2.2.2.2.2.2.2.2.1 (ai .i64 u20 1)).bind fun y3 =>
 let u23:=(jl u21 t5 (u22.1,u22.2.1,u22.2.2.1,u22.2.2.2.1,u22.2.2.2.2.1,u22.2.2.2.2.2.1,u22.2.2.2.2.2.2.1,u22.2.2.2.2.2.2.2.1,y3.1.1.1,u22.2.2.2.2.2.2.2.2.2.1,u22.2.2.2.2.2.2.2.2.2.2.1,()))
 cond (aR t5 u23) (
 let u24:=(gt d59 u23 t5)
 (S0 u24.2.2.2.2.2.2.2.2.2.1 y3.2.1.1).bind fun y4 =>
 let u25:=(jl u23 t5 (u24.1,u24.2.1,u24.2.2.1,u24.2.2.2.1,u24.2.2.2.2.1,u24.2.2.2.2.2.1,u24.2.2.2.2.2.2.1,u24.2.2.2.2.2.2.2.1,u24.2.2.2.2.2.2.2.2.1,y4.1.1.1,u24.2.2.2.2.2.2.2.2.2.2.1,()))
 cond (aR t5 u25) (
 let u26:=(gt d59 u25 t5)
 (Od u26.2.2.2.2.2.2.2.2.2.2.1 y4.2.1.1).bind fun y5 =>
 some (.inl ((jl u25 t5 (u26.1,u26.2.1,u26.2.2.1,u26.2.2.2.1,u26.2.2.2.2.1,u26.2.2.2.2.2.1,u26.2.2.2.2.2.2.1,u26.2.2.2.2.2.2.2.1,u26.2.2.2.2.2.2.2.2.1,u26.2.2.2.2.2.2.2.2.2.1,y5.1.1.1,())),y5.2.1.1,(ai .i64 t5 1),()))
 ) none
 ) none
 ) none
 ) none
 ) none
 ) none
 ) none
 ) none
 ) none
 ) none
 ) none
 ) (
 some (.inr (.inl (t0,t1,t5,())))
 )
def OF:=kD (af (dk wB))
def WN (p0:List dp) (p1:Int):Option ((Y4×Unit)×Y7) :=
 (OF p0 p1 0).bind (Sum.elim (fun y1 =>
 some (((y1.1,()),()),((y1.2.1,()),()))
 ) (fun _ =>
 none
 ))
def s94:Su:=⟨[.io false [fF],.c false [ki]],[(false,[ki])],true,.inl fun x=>WN x.1.1 x.2.1.1⟩
theorem Zj:ar Tryz.prog 94 s94 :=
 fl (ac yc (ac Vu (ac TD (ac We an)))) [] [(0,⟨[.own 0 fF,.d 1 ki,.d 5 ki],af (dk wB)⟩)] [0] Tryz.f94 (lp [0] (sc cN sn))
def vW (t0:List eb) (t1 t5:Int):Rd ((List eb)×Int×Int×Unit) Unit :=
 cond (au t5 (ae t0)) (
 cond (aR t5 t0) (
 let u1:=(jl t0 t5 (t1,(gt d89 t0 t5).2.1,()))
 cond (aR t5 u1) (
 let u2:=(gt d89 u1 t5)
 (WN u2.2.1 (ai .i64 t1 1)).bind fun y1 =>
 some (.inl ((jl u1 t5 (u2.1,y1.1.1.1,())),y1.2.1.1,(ai .i64 t5 1),()))
 ) none
 ) none
 ) (
 some (.inr (.inl (t0,t1,t5,())))
 )
def Pc:=kD (af (dk vW))
def WX (p0:List eb) (p1:Int):Option ((((List eb)×Unit)×Unit)×Y7) :=
 (Pc p0 p1 0).bind (Sum.elim (fun y1 =>
 some (((y1.1,()),()),((y1.2.1,()),()))
 ) (fun _ =>
 none
 ))
def s43:Su:=⟨[.io false [fW],.c false [ki]],[(false,[ki])],true,.inl fun x=>WX x.1.1 x.2.1.1⟩
theorem aaH:ar Tryz.prog 43 s43 :=
 fl (ac Zj an) [] [(0,⟨[.own 0 fW,.d 1 ki,.d 5 ki],af (dk vW)⟩)] [0] Tryz.f43 (lp [0] (sc cN sn))
def wC (t0:List gy) (t1 t5:Int):Rd ((List gy)×Int×Int×Unit) Unit :=
 cond (au t5 (ae t0)) (
 cond (aR t5 t0) (
 let u1:=(gt d62 t0 t5)
 (g20 u1.1 t1).bind fun y1 =>
 let u2:=(jl t0 t5 (y1.1.1.1,u1.2.1,u1.2.2.1,u1.2.2.2.1,u1.2.2.2.2.1,u1.2.2.2.2.2.1,u1.2.2.2.2.2.2.1,u1.2.2.2.2.2.2.2.1,u1.2.2.2.2.2.2.2.2.1,()))
 cond (aR t5 u2) (
 let u3:=(gt d62 u2 t5)
 let u4:=(jl u2 t5 (u3.1,y1.2.1.1,u3.2.2.1,u3.2.2.2.1,u3.2.2.2.2.1,u3.2.2.2.2.2.1,u3.2.2.2.2.2.2.1,u3.2.2.2.2.2.2.2.1,u3.2.2.2.2.2.2.2.2.1,()))
 cond (aR t5 u4) (
 let u5:=(gt d62 u4 t5)
 (S0 u5.2.2.1 (ai .i64 y1.2.1.1 1)).bind fun y2 =>
 let u6:=(jl u4 t5 (u5.1,u5.2.1,y2.1.1.1,u5.2.2.2.1,u5.2.2.2.2.1,u5.2.2.2.2.2.1,u5.2.2.2.2.2.2.1,u5.2.2.2.2.2.2.2.1,u5.2.2.2.2.2.2.2.2.1,()))
 cond (aR t5 u6) (
 let u7:=(gt d62 u6 t5)
 let u8:=(jl u6 t5 (u7.1,u7.2.1,u7.2.2.1,y2.2.1.1,u7.2.2.2.2.1,u7.2.2.2.2.2.1,u7.2.2.2.2.2.2.1,u7.2.2.2.2.2.2.2.1,u7.2.2.2.2.2.2.2.2.1,()))
 cond (aR t5 u8) (
 let u9:=(gt d62 u8 t5)
 let u10:=(ai .i64 y2.2.1.1 1)
 let u11:=(jl u8 t5 (u9.1,u9.2.1,u9.2.2.1,u9.2.2.2.1,u10,u9.2.2.2.2.2.1,u9.2.2.2.2.2.2.1,u9.2.2.2.2.2.2.2.1,u9.2.2.2.2.2.2.2.2.1,()))
 cond (aR t5 u11) (
 let u12:=(gt d62 u11 t5)
 let u13:=(ai .i64 u10 1)
 let u14:=(jl u11 t5 (u12.1,u12.2.1,u12.2.2.1,u12.2.2.2.1,u12.2.2.2.2.1,u13,u12.2.2.2.2.2.2.1,u12.2.2.2.2.2.2.2.1,u12.2.2.2.2.2.2.2.2.1,()))
 cond (aR t5 u14) (
 let u15:=(gt d62 u14 t5)
 let u16:=(ai .i64 u13 1)
 let u17:=(jl u14 t5 (u15.1,u15.2.1,u15.2.2.1,u15.2.2.2.1,u15.2.2.2.2.1,u15.2.2.2.2.2.1,u16,u15.2.2.2.2.2.2.2.1,u15.2.2.2.2.2.2.2.2.1,()))
 cond (aR t5 u17) (
 let u18:=(gt d62 u17 t5)
 let u19:=(ai .i64 u16 1)
 let u20:=(jl u17 t5 (u18.1,u18.2.1,u18.2.2.1,u18.2.2.2.1,u18.2.2.2.2.1,u18.2.2.2.2.2.1,u18.2.2.2.2.2.2.1,u19,u18.2.2.2.2.2.2.2.2.1,()))
 cond (aR t5 u20) (
 let u21:=(gt d62 u20 t5)
 (g20 u21.2.2.2.2.2.2.2.2.1 (ai .i64 u19 1)).bind fun y3 =>
 some (.inl ((jl u20 t5 (u21.1,u21.2.1,u21.2.2.1,u21.2.2.2.1,u21.2.2.2.2.1,u21.2.2.2.2.2.1,u21.2.2.2.2.2.2.1,u21.2.2.2.2.2.2.2.1,y3.1.1.1,())),y3.2.1.1,(ai .i64 t5 1),()))
 ) none
 ) none
 ) none
 ) none
 ) none
 ) none
 ) none
 ) none
 ) none
 ) (
 some (.inr (.inl (t0,t1,t5,())))
 )
def PG:=kD (af (dk wC))
def WU (p0:List gy) (p1:Int):Option ((((List gy)×Unit)×Unit)×Y7) :=
 (PG p0 p1 0).bind (Sum.elim (fun y1 =>
 some (((y1.1,()),()),((y1.2.1,()),()))
 ) (fun _ =>
 none
 ))
def s44:Su:=⟨[.io false [jW],.c false [ki]],[(false,[ki])],true,.inl fun x=>WU x.1.1 x.2.1.1⟩
theorem YU:ar Tryz.prog 44 s44 :=
 fl (ac TD (ac Wq an)) [] [(0,⟨[.own 0 jW,.d 1 ki,.d 5 ki],af (dk wC)⟩)] [0] Tryz.f44 (lp [0] (sc cN sn))
def g14 (p0:(List eb)×Int×Int×(List gy)×Unit) (p1:Int):Option ((CI×Unit)×Y7) :=
 (WX p0.1 p1).bind fun y1 =>
 (WU p0.2.2.2.1 y1.2.1.1).bind fun y2 =>
 some (((y1.1.1.1,p0.2.1,p0.2.2.1,y2.1.1.1,()),()),(y2.2.1,()))
def s14:Su:=⟨[.io true [fW,ki,ki,jW],.c false [ki]],[(false,[ki])],true,.inl fun x=>g14 x.1 x.2.1.1⟩
theorem aaE:ar Tryz.prog 14 s14 :=
 fl (ac aaH (ac YU an)) [] [] [0] Tryz.f14 cN
def nX (t0:List gr) (t1 t5:Int):Rd ((List gr)×Int×Int×Unit) Y0 :=
 cond (au t5 (ae t0)) (
 cond (aR t5 t0) (
 (rT t1).bind fun y1 =>
 let u1:=(gt d95 t0 t5)
 cond (!(cq u1.1 y1.2.1.1)) (
 some (.inr (.inr ((-1),())))
 ) (
 cond (aR t5 t0) (
 let u2:=(ai .i64 t1 1)
 cond (!(aq u1.2.1 u2)) (
 some (.inr (.inr ((-1),())))
 ) (
 cond (aR t5 t0) (
 let u3:=(ai .i64 u2 1)
 cond (!(aq u1.2.2.1 u3)) (
 some (.inr (.inr ((-1),())))
 ) (
 some (.inl (t0,(ai .i64 u3 1),(ai .i64 t5 1),()))
 )
 ) none
 )
 ) none
 )
 ) none
 ) (
 some (.inr (.inl (t0,t1,t5,())))
 )
def KY:=kD (af (dk nX))
def Lw (p0:List gr) (p1:Int):Option gY :=
 (KY p0 p1 0).bind (Sum.elim (fun y1 =>
 some ((),((y1.2.1,()),()))
 ) (fun y1 =>
 some ((),(y1,()))
 ))
def aae:Su:=⟨[.c false [ma],.c false [ki]],[(false,[ki])],true,.inl fun x=>Lw x.1.1 x.2.1.1⟩
theorem U2:ar Tryz.prog 161 aae :=
 fl (ac yc an) [.d 4 ki] [(0,⟨[.d 0 ma,.d 1 ki,.d 5 ki],af (dk nX)⟩)] [] Tryz.f161 (lp [0] (sc cN sn))
def vu (t0:List R3) (t1 t5:Int):Rd ((List R3)×Int×Int×Unit) Y0 :=
 cond (au t5 (ae t0)) (
 cond (aR t5 t0) (
 cond (!(aq (gt d3 t0 t5).1 t1)) (
 some (.inr (.inr ((-1),())))
 ) (
 some (.inl (t0,(ai .i64 t1 1),(ai .i64 t5 1),()))
 )
 ) none
 ) (
 some (.inr (.inl (t0,t1,t5,())))
 )
def Pz:=kD (af (dk vu))
def SY (p0:List R3) (p1:Int):Option gY :=
 (Pz p0 p1 0).bind (Sum.elim (fun y1 =>
 some ((),((y1.2.1,()),()))
 ) (fun y1 =>
 some ((),(y1,()))
 ))
def s98:Su:=⟨[.c false [q3],.c false [ki]],[(false,[ki])],true,.inl fun x=>SY x.1.1 x.2.1.1⟩
theorem Tx:ar Tryz.prog 98 s98 :=
 fl an [.d 4 ki] [(0,⟨[.d 0 q3,.d 1 ki,.d 5 ki],af (dk vu)⟩)] [] Tryz.f98 (lp [0] (sc cN sn))
def wI (t0:List R5) (t1 t5:Int):Rd ((List R5)×Int×Int×Unit) Y0 :=
 cond (au t5 (ae t0)) (
 cond (aR t5 t0) (
 cond (!(aq (gt d5 t0 t5).1 (bG .u8 t1))) (
 some (.inr (.inr ((-1),())))
 ) (
 some (.inl (t0,(ai .i64 t1 1),(ai .i64 t5 1),()))
 )
 ) none
 ) (
 some (.inr (.inl (t0,t1,t5,())))
 )
def OV:=kD (af (dk wI))
def SX (p0:List R5) (p1:Int):Option gY :=
 (OV p0 p1 0).bind (Sum.elim (fun y1 =>
 some ((),((y1.2.1,()),()))
 ) (fun y1 =>
 some ((),(y1,()))
 ))
def s97:Su:=⟨[.c false [q5],.c false [ki]],[(false,[ki])],true,.inl fun x=>SX x.1.1 x.2.1.1⟩
theorem Wj:ar Tryz.prog 97 s97 :=
 fl an [.d 4 ki] [(0,⟨[.d 0 q5,.d 1 ki,.d 5 ki],af (dk wI)⟩)] [] Tryz.f97 (lp [0] (sc cN sn))
def pO (t0:List cu) (t1 t5:Int):Rd ((List cu)×Int×Int×Unit) Y0 :=
 cond (au t5 (ae t0)) (
 cond (aR t5 t0) (
 (rT t1).bind fun y1 =>
 let u1:=(gt d166 t0 t5)
 cond (!(cq u1.1 y1.2.1.1)) (
 some (.inr (.inr ((-1),())))
 ) (
 cond (aR t5 t0) (
 let u2:=(ai .i64 t1 1)
 (rT u2).bind fun y2 =>
 cond (!(cq u1.2.1 y2.2.1.1)) (
 some (.inr (.inr ((-1),())))
 ) (
 cond (aR t5 t0) (
 (SX u1.2.2.1 (ai .i64 u2 1)).bind fun y3 =>
 cond (au y3.2.1.1 0) (
 some (.inr (.inr ((-1),())))
 ) (
 some (.inl (t0,y3.2.1.1,(ai .i64 t5 1),()))
 )
 ) none
 )
 ) none
 )
 ) none
 ) (
 some (.inr (.inl (t0,t1,t5,())))
 )
def KD:=kD (af (dk pO))
def Mj (p0:List cu) (p1:Int):Option gY :=
 (KD p0 p1 0).bind (Sum.elim (fun y1 =>
 some ((),((y1.2.1,()),()))
 ) (fun y1 =>
 some ((),(y1,()))
 ))
def XT:Su:=⟨[.c false [dP],.c false [ki]],[(false,[ki])],true,.inl fun x=>Mj x.1.1 x.2.1.1⟩
theorem TN:ar Tryz.prog 162 XT :=
 fl (ac yc (ac Wj an)) [.d 4 ki] [(0,⟨[.d 0 dP,.d 1 ki,.d 5 ki],af (dk pO)⟩)] [] Tryz.f162 (lp [0] (sc cN sn))
def vj (t0:List dp) (t1 t5:Int):Rd Xn Y0 :=
 cond (au t5 (ae t0)) (
 cond (aR t5 t0) (
 (rT t1).bind fun y1 =>
 let u1:=(gt d59 t0 t5)
 cond (!(cq u1.1 y1.2.1.1)) (
 some (.inr (.inr ((-1),())))
 ) (
 cond (aR t5 t0) (
 let u2:=(ai .i64 t1 1)
 cond (!(aq u1.2.1 u2)) (
 some (.inr (.inr ((-1),())))
 ) (
 cond (aR t5 t0) (
 let u3:=(ai .i64 u2 1)
 cond (!(aq u1.2.2.1 u3)) (
 some (.inr (.inr ((-1),())))
 ) (
 cond (aR t5 t0) (
 let u4:=(ai .i64 u3 1)
 cond (!(aq u1.2.2.2.1 u4)) (
 some (.inr (.inr ((-1),())))
 ) (
 cond (aR t5 t0) (
 let u5:=(ai .i64 u4 1)
 cond (!(aq u1.2.2.2.2.1 u5)) (
 some (.inr (.inr ((-1),())))
 ) (
 cond (aR t5 t0) (
 (Lw u1.2.2.2.2.2.1 (ai .i64 u5 1)).bind fun y2 =>
 cond (au y2.2.1.1 0) (
 some (.inr (.inr ((-1),())))
 ) (
 cond (aR t5 t0) (
 cond (!(aq u1.2.2.2.2.2.2.1 y2.2.1.1)) (
 some (.inr (.inr ((-1),())))
 ) (
 cond (aR t5 t0) (
 let u6:=(ai .i64 y2.2.1.1 1)
 cond (!(aq u1.2.2.2.2.2.2.2.1 u6)) (
 some (.inr (.inr ((-1),())))
 ) (
 cond (aR t5 t0) (
 (SY u1.2.2.2.2.2.2.2.2.1 (ai .i64 u6 1)).bind fun y3 =>
 cond (au y3.2.1.1 0) (
 some (.inr (.inr ((-1),())))
 ) (
 cond (aR t5 t0) (
 (SY u1.2.2.2.2.2.2.2.2.2.1 y3.2.1.1).bind fun y4 =>
 cond (au y4.2.1.1 0) (
 some (.inr (.inr ((-1),())))
 ) (
 cond (aR t5 t0) (
 (Mj u1.2.2.2.2.2.2.2.2.2.2.1 y4.2.1.1).bind fun y5 =>
 cond (au y5.2.1.1 0) (
 some (.inr (.inr ((-1),())))
 ) (
 some (.inl (t0,y5.2.1.1,(ai .i64 t5 1),()))
 )
 ) none
 )
 ) none
 )
 ) none
 )
 ) none
 )
 ) none
 )
 ) none
 )
 ) none
 )
 ) none
 )
 ) none
 )
 ) none
 )
 ) none
 ) (
 some (.inr (.inl (t0,t1,t5,())))
 )
def OZ:=kD (af (dk vj))
def Xi (p0:List dp) (p1:Int):Option gY :=
 (OZ p0 p1 0).bind (Sum.elim (fun y1 =>
 some ((),((y1.2.1,()),()))
 ) (fun y1 =>
 some ((),(y1,()))
 ))
def s96:Su:=⟨[.c false [fF],.c false [ki]],[(false,[ki])],true,.inl fun x=>Xi x.1.1 x.2.1.1⟩
theorem aaX:ar Tryz.prog 96 s96 :=
 fl (ac yc (ac U2 (ac Tx (ac TN an)))) [.d 4 ki] [(0,⟨[.d 0 fF,.d 1 ki,.d 5 ki],af (dk vj)⟩)] [] Tryz.f96 (lp [0] (sc cN sn))
def uI (t0:List eb) (t1 t5:Int):Rd ((List eb)×Int×Int×Unit) Y0 :=
 cond (au t5 (ae t0)) (
 cond (aR t5 t0) (
 let u1:=(gt d89 t0 t5)
 cond (!(aq u1.1 t1)) (
 some (.inr (.inr ((-1),())))
 ) (
 cond (aR t5 t0) (
 (Xi u1.2.1 (ai .i64 t1 1)).bind fun y1 =>
 cond (au y1.2.1.1 0) (
 some (.inr (.inr ((-1),())))
 ) (
 some (.inl (t0,y1.2.1.1,(ai .i64 t5 1),()))
 )
 ) none
 )
 ) none
 ) (
 some (.inr (.inl (t0,t1,t5,())))
 )
def OP:=kD (af (dk uI))
def WT (p0:List eb) (p1:Int):Option gY :=
 (OP p0 p1 0).bind (Sum.elim (fun y1 =>
 some ((),((y1.2.1,()),()))
 ) (fun y1 =>
 some ((),(y1,()))
 ))
def s45:Su:=⟨[.c false [fW],.c false [ki]],[(false,[ki])],true,.inl fun x=>WT x.1.1 x.2.1.1⟩
theorem XW:ar Tryz.prog 45 s45 :=
 fl (ac aaX an) [.d 4 ki] [(0,⟨[.d 0 fW,.d 1 ki,.d 5 ki],af (dk uI)⟩)] [] Tryz.f45 (lp [0] (sc cN sn))
def vh (t0:List gy) (t1 t5:Int):Rd ((List gy)×Int×Int×Unit) Y0 :=
 cond (au t5 (ae t0)) (
 cond (aR t5 t0) (
 let u1:=(gt d62 t0 t5)
 (SX u1.1 t1).bind fun y1 =>
 cond (au y1.2.1.1 0) (
 some (.inr (.inr ((-1),())))
 ) (
 cond (aR t5 t0) (
 cond (!(aq u1.2.1 y1.2.1.1)) (
 some (.inr (.inr ((-1),())))
 ) (
 cond (aR t5 t0) (
 (SY u1.2.2.1 (ai .i64 y1.2.1.1 1)).bind fun y2 =>
 cond (au y2.2.1.1 0) (
 some (.inr (.inr ((-1),())))
 ) (
 cond (aR t5 t0) (
 cond (!(aq u1.2.2.2.1 y2.2.1.1)) (
 some (.inr (.inr ((-1),())))
 ) (
 cond (aR t5 t0) (
 let u2:=(ai .i64 y2.2.1.1 1)
 cond (!(aq u1.2.2.2.2.1 u2)) (
 some (.inr (.inr ((-1),())))
 ) (
 cond (aR t5 t0) (
 let u3:=(ai .i64 u2 1)
 cond (!(aq u1.2.2.2.2.2.1 u3)) (
 some (.inr (.inr ((-1),())))
 ) (
 cond (aR t5 t0) (
 let u4:=(ai .i64 u3 1)
 cond (!(aq u1.2.2.2.2.2.2.1 u4)) (
 some (.inr (.inr ((-1),())))
 ) (
 cond (aR t5 t0) (
 let u5:=(ai .i64 u4 1)
 cond (!(aq u1.2.2.2.2.2.2.2.1 u5)) (
 some (.inr (.inr ((-1),())))
 ) (
 cond (aR t5 t0) (
 (SX u1.2.2.2.2.2.2.2.2.1 (ai .i64 u5 1)).bind fun y3 =>
 cond (au y3.2.1.1 0) (
 some (.inr (.inr ((-1),())))
 ) (
 some (.inl (t0,y3.2.1.1,(ai .i64 t5 1),()))
 )
 ) none
 )
 ) none
 )
 ) none
 )
 ) none
 )
 ) none
 )
 ) none
 )
 ) none
 )
 ) none
 )
 ) none
 ) (
 some (.inr (.inl (t0,t1,t5,())))
 )
def P1:=kD (af (dk vh))
def W6 (p0:List gy) (p1:Int):Option gY :=
 (P1 p0 p1 0).bind (Sum.elim (fun y1 =>
 some ((),((y1.2.1,()),()))
 ) (fun y1 =>
 some ((),(y1,()))
 ))
def s46:Su:=⟨[.c false [jW],.c false [ki]],[(false,[ki])],true,.inl fun x=>W6 x.1.1 x.2.1.1⟩
theorem abl:ar Tryz.prog 46 s46 :=
 fl (ac Tx (ac Wj an)) [.d 4 ki] [(0,⟨[.d 0 jW,.d 1 ki,.d 5 ki],af (dk vh)⟩)] [] Tryz.f46 (lp [0] (sc cN sn))
def g15 (p0:(List eb)×Int×Int×(List gy)×Unit) (p1:Int):Option gY :=
 (WT p0.1 p1).bind fun y1 =>
 cond (au y1.2.1.1 0) (
 c3
 ) (
 (W6 p0.2.2.2.1 y1.2.1.1).bind fun y2 =>
 cond (au y2.2.1.1 0) (
 c3
 ) (
 some ((),(y2.2.1,()))
 )
 )
def s15:Su:=⟨[.c true [fW,ki,ki,jW],.c false [ki]],[(false,[ki])],true,.inl fun x=>g15 x.1 x.2.1.1⟩
theorem aat:ar Tryz.prog 15 s15 :=
 fq (ac XW (ac abl an)) Tryz.f15
def g4 (p0:(List p7)×Int×Int×(List nJ)×Unit) (p1:Int):Option ed :=
 (g7 p0 1048576).bind fun y1 =>
 cond (au y1.2.1.1 0) (
 c2
 ) (
 let u1:=(g9 p0)
 Option.bind u1 fun y2 =>
 (g12 y2.2.1 p1).bind fun y3 =>
 Option.bind u1 fun y4 =>
 (g13 y4.2.1 p1).bind fun y5 =>
 let u2:=(g11 y5.2.1 y3.2.1)
 Option.bind u2 fun y6 =>
 cond (cond (!y6.2.1.1) true (!(Jk y5.2.2.1.1 y3.2.2.1.1))) (
 c0
 ) (
 Option.bind u1 fun y7 =>
 (g11 y4.2.1 y7.2.1).bind fun y8 =>
 cond (!y8.2.1.1) (
 c0
 ) (
 (g14 y4.2.1 1).bind fun y9 =>
 cond (au y9.2.1.1 0) (
 c0
 ) (
 Option.bind u2 fun y10 =>
 cond (cond (!y10.2.1.1) true (!(Jk y5.2.2.1.1 y3.2.2.1.1))) (
 c0
 ) (
 (g14 y5.2.1 1).bind fun y11 =>
 let u3:=(g15 (y11.1.1.1,y5.2.1.2.1,y5.2.1.2.2.1,y11.1.1.2.2.2.1,()) 1)
 Option.bind u3 fun y12 =>
 cond (au y12.2.1.1 0) (
 c0
 ) (
 cond (!(aq y12.2.1.1 y11.2.1.1)) (
 c0
 ) (
 Option.bind u1 fun y13 =>
 (g13 y13.2.1 p1).bind fun y14 =>
 (g11 y14.2.1 y3.2.1).bind fun y15 =>
 cond (cond (!y15.2.1.1) true (!(Jk y14.2.2.1.1 y3.2.2.1.1))) (
 c0
 ) (
 Option.bind u3 fun y16 =>
 cond (au y16.2.1.1 0) (
 c0
 ) (
 cond (!(aq y16.2.1.1 y11.2.1.1)) (
 c0
 ) (
 c2
 )
 )
 )
 )
 )
 )
 )
 )
 )
 )
def s4:Su:=⟨[.c true [SH,ki,ki,SB],.c false [ki]],[(false,[.bool])],true,.inl fun x=>g4 x.1 x.2.1.1⟩
theorem ok4:ar Tryz.prog 4 s4 :=
 fq (ac ok7 (ac ok9 (ac Ya (ac Zl (ac aaW (ac aaE (ac aat an))))))) Tryz.f4
end
end Go.Av
