/- FnExactAgree, a part. -/
import Derived.Test.YtcmhjdkpbgncfaaGreatDoorQ3
set_option maxRecDepth 100000
set_option maxHeartbeats 4000000
namespace Go.Av
abbrev dz:=Int×S8×Unit
abbrev bd:=S8×List dz×Unit
def gy(m:bd):Prop:=m.1.length<=1048576/\m.2.1.length<=1048576/\∀ f∈m.2.1,f.2.1.length<=1048576
def fw(xs:List dz)(i:Nat)(x:dz):Bool:=cond (cV x.1 x.2.1) (cond (decide (0<i)) (!(bM x.1 (gt (0,[],()) xs ((i:Int)-1)).1)) true) false
def eR(m:bd):Bool:=cond (cond (aF m.1) (aj (ae m.1) 4) false) (allI (fw m.2.1) 0 m.2.1) false
theorem EZ(m:bd)(hb:gy m):M5 m.2.1 (ae m.2.1) 0 m=some (bif allI (fw m.2.1) 0 m.2.1 then .inl (m.2.1,ae m.2.1,(m.2.1.length:Int),m,())else .inr (false,())):=by
 have hbig:=bb;obtain⟨mti,xs,u⟩:=m;obtain⟨_,hl,hf⟩:=hb;dsimp only at hl hf ⊢;have h:=aL (step:=da xE) xs (fun i (_:Unit)=>(xs,ae xs,((i:Nat):Int),(mti,xs,()),())) (fun i x _=>bif fw xs i x then Sum.inl ()else .inr (.inr (false,()))) (fun _=> .inl (xs,ae xs,(xs.length:Int),(mti,xs,()),())) (a0:=()) (fun i x a hx=>by
  have hlt:=ai hx;show xE xs (ae xs) (i:Int) (mti,xs,())=_;unfold xE fw;rw[aI hx,az hx,aH _ hx];dsimp only[oT];rw[xU _ _ (bJ (hf x (aet hx))),aS (by omega)];dsimp only[oB];cases cV x.1 x.2.1 with
  | false=>rfl
  | true =>
    by_cases h0:0<i
    . rw[aO (show(0:Int)<i by omega),bp (by omega) (by omega),mw hx h0];dsimp only[oT,oF,oN];have e:gt d117 xs ((i:Int)-1)=gt (0,[],()) xs ((i:Int)-1):=rfl;rw[e,aes h0];cases bM x.1 (gt (0,[],()) xs ((i:Int)-1)).1 <;> rfl
    . rw[aJ (show ¬ (0:Int)<i by omega),aeL h0];try rfl) (fun a=>by
  show xE xs (ae xs) (xs.length:Int) (mti,xs,())=_;unfold xE;rw[aA rfl];try rfl)
 rw[fF]at h;have h':M5 xs (ae xs) 0 (mti,xs,())=_:=h;rw[h']
theorem GH(m:bd)(hb:gy m):Uf m=zR (eR m):=by
 unfold Uf eR;rw[fe _ (bJ hb.1)];dsimp only[oB];cases aF m.1 with
 | false=>rfl
 | true =>
 cases aj (ae m.1) 4 with
 | false=>rfl
 | true => refine(bn (EZ m hb)).trans ?_;show _=zR (allI (fw m.2.1) 0 m.2.1);cases allI (fw m.2.1) 0 m.2.1 <;> rfl
theorem FY(m:bd)(hb:gy m):Ej m.2.1 (ae m.2.1) 0 m=some (bif allI (fw m.2.1) 0 m.2.1 then .inl (m.2.1,ae m.2.1,(m.2.1.length:Int),m,())else .inr (false,())):=by
 have hbig:=bb;obtain⟨mti,xs,u⟩:=m;obtain⟨_,hl,hf⟩:=hb;dsimp only at hl hf ⊢;have h:=aL (step:=da rh) xs (fun i (_:Unit)=>(xs,ae xs,((i:Nat):Int),(mti,xs,()),())) (fun i x _=>bif fw xs i x then Sum.inl ()else .inr (.inr (false,()))) (fun _=> .inl (xs,ae xs,(xs.length:Int),(mti,xs,()),())) (a0:=()) (fun i x a hx=>by
  have hlt:=ai hx;show rh xs (ae xs) (i:Int) (mti,xs,())=_;unfold rh fw;rw[aI hx,az hx,aH _ hx];dsimp only[oT];rw[B4 _ _ (bJ (hf x (aet hx))),aS (by omega)];dsimp only[oB];cases cV x.1 x.2.1 with
  | false=>rfl
  | true =>
    by_cases h0:0<i
    . rw[aO (show(0:Int)<i by omega),bp (by omega) (by omega),mw hx h0];dsimp only[oT,oF,oN];have e:gt d117 xs ((i:Int)-1)=gt (0,[],()) xs ((i:Int)-1):=rfl;rw[e,aes h0];cases bM x.1 (gt (0,[],()) xs ((i:Int)-1)).1 <;> rfl
    . rw[aJ (show ¬ (0:Int)<i by omega),aeL h0];try rfl) (fun a=>by
  show rh xs (ae xs) (xs.length:Int) (mti,xs,())=_;unfold rh;rw[aA rfl];try rfl)
 rw[fF]at h;have h':Ej xs (ae xs) 0 (mti,xs,())=_:=h;rw[h']
theorem zh(s:S8)(n:Int)(hs:s.length<=bG):vl s n=zR (cond (aF s) (aj (ae s) n) false):=by unfold vl;rw[gS s hs];try rfl
theorem Cn(m:bd)(hb:gy m):C4 m=zR (eR m):=by
 unfold C4 eR;refine(bn (FY m hb)).trans ?_;cases allI (fw m.2.1) 0 m.2.1 with
 | true =>
   show Option.bind (vl m.1 4) _=_;rw[zh m.1 4 (bJ hb.1)];dsimp only[oB];cases aF m.1 with
   | false=>rfl
   | true=>cases aj (ae m.1) 4 <;> rfl
 | false =>
   cases aF m.1 with
   | false=>rfl
   | true=>cases aj (ae m.1) 4 <;> rfl
def ie(m:bd)(no:Int):Option S8:=(m.2.1.find? fun f=>aj f.1 no).map (·.2.1)
def FI(o:Option S8):Option (Unit×((S8×Unit)×(Bool×Unit)×Unit)):=some ((),match o with | some s=>((s,()),(true,()),()) | none=>(([],()),(false,()),()))
theorem uA(m:bd)(no:Int)(hb:gy m):wN m no=FI (ie m no):=by
 have hbig:=bb;have hl:=hb.2.1;unfold wN;have h:=aL (step:=da we) m.2.1 (fun i (_:Unit)=>(no,m.2.1,ae m.2.1,((i:Nat):Int),())) (fun i x _=>bif aj x.1 no then .inr (.inr (x.2.1,true,()))else .inl ()) (fun _=> .inl (no,m.2.1,ae m.2.1,(m.2.1.length:Int),())) (a0:=()) (fun i x a hx=>by
  have hlt:=ai hx;show we no m.2.1 (ae m.2.1) (i:Int)=_;unfold we;rw[aI hx,az hx,aH _ hx,aS (by omega)];dsimp only[oT];cases aj x.1 no <;> rfl) (fun a=>by
  show we no m.2.1 (ae m.2.1) (m.2.1.length:Int)=_;unfold we;rw[aA rfl];try rfl)
 rw[my]at h;have h':Sr no m.2.1 (ae m.2.1) 0=_:=h;refine(bn h').trans ?_;unfold ie FI;cases m.2.1.find? _ <;> rfl
theorem LO(m:bd)(no:Int)(hb:gy m):FC m no=FI (ie m no):=by
 have hbig:=bb;have hl:=hb.2.1;unfold FC;have h:=aL (step:=da qD) m.2.1 (fun i (_:Unit)=>(no,m.2.1,ae m.2.1,((i:Nat):Int),())) (fun i x _=>bif aj x.1 no then .inr (.inr (x.2.1,true,()))else .inl ()) (fun _=> .inl (no,m.2.1,ae m.2.1,(m.2.1.length:Int),())) (a0:=()) (fun i x a hx=>by
  have hlt:=ai hx;show qD no m.2.1 (ae m.2.1) (i:Int)=_;unfold qD;rw[aI hx,az hx,aH _ hx,aS (by omega)];dsimp only[oT];cases aj x.1 no <;> rfl) (fun a=>by
  show qD no m.2.1 (ae m.2.1) (m.2.1.length:Int)=_;unfold qD;rw[aA rfl];try rfl)
 rw[my]at h;have h':J3 no m.2.1 (ae m.2.1) 0=_:=h;refine(bn h').trans ?_;unfold ie FI;cases m.2.1.find? _ <;> rfl
def kJ(b:aD):aD->Nat->List dz->Option (List dz×Nat)
 | [],a,o=>some (o,a)
 | x::r,a,o=>match po b a x.1 with
   | some (s,e)=>kJ b r e (o++[(x.1,s,())])
   | none=>none
def jR(l:aD):aD:=l.map fun x=>(aw .i64 x.1 64,())
def vr(x:Int×Unit):Bool:= !(aj (bg x.1) 0)
def fQ(l:aD):aD:=l.filter fun x=> !(aj x.1 1)
def ij(l:aD):Bool:=l.any fun x=>aj x.1 1
def zd(b:aD):Option (aD×Nat) :=
 if 10<=b.length then
  (bif ij (fc (fM b 2 8))then
    (if 18<=b.length/\fc (fM b 10 8)≠[]then (bif (fQ (fc (fM b 2 8))++jR (fc (fM b 10 8))).all vr then some (fQ (fc (fM b 2 8))++jR (fc (fM b 10 8)),18)else none)else none)
  else (bif (fQ (fc (fM b 2 8))).all vr then some (fQ (fc (fM b 2 8)),10)else none))
 else none
def dY(b:aD):bd×Int:=match gP b 0 4 with
 | none=>(([],[],()),1)
 | some mti=>match zd b with
   | none=>(([],[],()),2)
   | some (nos,a)=>match kJ b nos a []with
     | none=>(([],[],()),3)
     | some (l,e)=>if e=b.length then ((mti,l,()),0)else (([],[],()),4)
def IQ(p:bd×Int):Option (Unit×(bd×(Int×Unit)×Unit)):=some ((),(p.1,(p.2,()),()))
theorem YG(b:aD)(hb:zz b)(h2:2<=b.length):Z7 b=some ((),match zd b with | some p=>((p.1,()),((p.2:Int),()),(true,()),()) | none=>(([],()),(0,()),(false,()),())):=by
 have hbig:=bb;have hl:=hb.1;unfold Z7 zd;have h0:Fa b 2=_:=Lh b 2 hb h2;unfold pr at h0;refine(bn h0).trans ?_;by_cases h10:10<=b.length;rotate_left
 . rw[if_neg h10,if_neg h10];try rfl
 rw[if_pos h10,if_pos h10];have k1:=mH (fM b 2 8);generalize fc (fM b 2 8)=lo at k1 ⊢;have hlow:Tu b 10 [] false lo (ae lo) 0=some (.inl (b,10,fQ lo,ij lo,lo,ae lo,(lo.length:Int),())):=by
  have h:=aY (step:=zO vU) lo (fun i (o:aD×Bool)=>(b,10,o.1,o.2,lo,ae lo,((i:Nat):Int),())) (fun _ x o=>Sum.inl (bif aj x.1 1 then (o.1,true)else (o.1++[x],o.2))) (fun o=> .inl (b,10,o.1,o.2,lo,ae lo,(lo.length:Int),())) (fun i o=>o.1.length<=i) (a0:=([],false)) (oR _) (fun i x o hx ho=>by
   have hlt:=ai hx;show vU b 10 o.1 o.2 lo (ae lo) (i:Int)=_;unfold vU;rw[aI hx,az hx,aH _ hx,aS (by omega)];have:a6 8 o.1 [x]=true:=aey (by show(o.1.length+1) * 8<=bG; omega);dsimp only[oT];rw[this];cases aj x.1 1 <;> rfl) (fun i x o o' hx ho hf=>by
   simp only[aeO]at hf;rw[<- hf];cases aj x.1 1 with
   | true=>show o.1.length<=_; omega
   | false=>show(o.1++[x]).length<=_; rw[aep]; show o.1.length+1<=_; omega) (fun o ho=>by
   show vU b 10 o.1 o.2 lo (ae lo) (lo.length:Int)=_;unfold vU;rw[aA rfl];try rfl)
  have hfold:∀(l:aD) (o:aD×Bool),l.foldl (fun o x=>bif aj x.1 1 then (o.1,true)else (o.1++[x],o.2)) o=(o.1++fQ l,o.2||ij l):=fun l=>by
   induction l with
   | nil=>intro o; simp[fQ,ij]
   | cons x r ih => intro o;rw[afb,ih];unfold fQ ij;rw[afh,List.any_cons];cases aj x.1 1 <;> simp
  rw[bH,hfold]at h;exact h
 have hchk:∀(nos:aD) (a:Int),nos.length<=1000->Mg () a nos (ae nos) 0=some (bif nos.all vr then .inl ((),a,nos,ae nos,(nos.length:Int),())else .inr ([],0,false,())):=fun nos a hn=>by
  have h:=aL (step:=nD xb) nos (fun i (_:Unit)=>((),a,nos,ae nos,((i:Nat):Int),())) (fun _ x _=>bif vr x then Sum.inl ()else .inr (.inr ([],0,false,()))) (fun _=> .inl ((),a,nos,ae nos,(nos.length:Int),())) (a0:=()) (fun i x o hx=>by
   have hlt:=ai hx;show xb () a nos (ae nos) (i:Int)=_;unfold xb;rw[aI hx,az hx,aH _ hx,aS (by omega),tr];dsimp only[oT,oB];unfold vr;cases aj (bg x.1) 0 <;> rfl) (fun o=>by
   show xb () a nos (ae nos) (nos.length:Int)=_;unfold xb;rw[aA rfl];try rfl)
  rw[iW]at h;refine ag9 h ?_;cases nos.all vr <;> rfl
 have hlen:(fQ lo).length<=64:=aeA (afc _ _) k1;refine(bn hlow).trans ?_;show cond (ij lo) _ _=_;cases ij lo with
 | false => refine(bn (hchk (fQ lo) 10 (by omega))).trans ?_;cases(fQ lo).all vr <;> rfl
 | true =>
   have h1:Fa b 10=_:=Lh b 10 hb h10;unfold pr at h1;refine(bn h1).trans ?_;by_cases h18:18<=b.length;rotate_left
   . rw[if_neg h18,if_neg (fun h=>h18 h.1)];try rfl
   rw[if_pos h18];have k2:=mH (fM b 10 8);have k3:= @Kq (fM b 10 8);generalize fc (fM b 10 8)=hi at k2 k3 ⊢;by_cases hne:hi=[]
   . rw[if_neg (fun h=>h.2 hne),hne];try rfl
   rw[if_pos ⟨h18,hne⟩];have he:aj (ae hi) 0=false:=beq_eq_false_iff_ne.2 (by
    show(hi.length:Int)≠0;cases hi with
    | nil=>exact absurd rfl hne
    | cons x r=>show((r.length+1:Nat):Int)≠0; omega)
   have hhi:Si (fQ lo) 18 hi (ae hi) 0=some (.inl (fQ lo++jR hi,18,hi,ae hi,(hi.length:Int),())):=by
    have h:=aY (step:=nD wF) hi (fun i (o:aD)=>(o,18,hi,ae hi,((i:Nat):Int),())) (fun _ x o=>Sum.inl (o++[(aw .i64 x.1 64,())])) (fun o=> .inl (o,18,hi,ae hi,(hi.length:Int),())) (fun i o=>o.length=(fQ lo).length+i) (a0:=fQ lo) rfl (fun i x o hx ho=>by
     have hlt:=ai hx;show wF o 18 hi (ae hi) (i:Int)=_;unfold wF;rw[aI hx,az hx,aH _ hx,aS (by omega)];have:a6 8 o [(aw .i64 x.1 64,())]=true:=aey (by show(o.length+1) * 8<=bG; omega);rw[this];try rfl) (fun i x o o' hx ho hf=>by
     simp only[aeO]at hf;rw[<- hf,aep,ho];try rfl) (fun o ho=>by
     show wF o 18 hi (ae hi) (hi.length:Int)=_;unfold wF;rw[aA rfl];try rfl)
    have hfold:∀(l o:aD),l.foldl (fun o x=>o++[(aw .i64 x.1 64,())]) o=o++jR l:=fun l=>by
     induction l with
     | nil=>intro o; simp[jR]
     | cons x r ih=>intro o; rw[afb,ih]; simp[jR]
    rw[bH,hfold]at h;exact h
   show cond (cond (!true) true (aj (ae hi) 0)) _ _=_;rw[he];refine(bn hhi).trans ?_;have hla:(fQ lo++jR hi).length<=1000:=by rw[aep]; unfold jR; rw[afO]; omega
   refine(bn (hchk (fQ lo++jR hi) 18 hla)).trans ?_;cases(fQ lo++jR hi).all vr <;> rfl
theorem xq{α A Y:Type}(p:α->Bool)(f:α->A->A)(y:Y)(z:A->Y):∀(xs:List α) (i:Nat) (a:A),ko (fun _ x a=>bif p x then .inl (f x a)else .inr y) z i xs a=bif xs.all p then z (xs.foldl (fun a x=>f x a) a)else y
 | [],_,_=>rfl
 | x::r,i,a=>by
   rw[ko,afe,afb];cases hp:p x with
   | true=>simp only[oT,agh]; exact xq p f y z r (i+1) _
   | false=>rfl
def Mq(x:Int×Unit)(o:aD×Bool):aD×Bool:=bif aj x.1 1 then (o.1,true)else (o.1++[x],o.2)
theorem IJ:∀(l:aD) (o:aD×Bool),l.foldl (fun o x=>Mq x o) o=(o.1++fQ l,o.2||ij l):=fun l=>by
 induction l with
 | nil=>intro o; simp[fQ,ij]
 | cons x r ih => intro o;rw[afb,ih];unfold Mq fQ ij;rw[afh,List.any_cons];cases aj x.1 1 <;> simp
def Lp(x:Int×Unit):Bool:=aj x.1 1||vr x
theorem LS(l:aD):l.all Lp=(fQ l).all vr:=by
 induction l with
 | nil=>rfl
 | cons x r ih => unfold fQ at ih ⊢;rw[afe,afh,ih];unfold Lp;cases h:aj x.1 1 <;> simp
theorem YI{o:aD}{x:Int×Unit}(h:o.length<=1048576):a6 8 o [x]=true:=aey (by show(o.length+1) * 8<=140737488355328; omega)
theorem aay(b:aD)(mti:S8)(at':Int)(lo:aD)(hl:lo.length<=64)(m0:bd):RU b mti at' [] false lo (ae lo) 0 m0=some (bif (fQ lo).all vr then .inl (b,mti,at',fQ lo,ij lo,lo,ae lo,(lo.length:Int),m0,())else .inr (2,([],[],()),())):=by
 have h:=aY (step:=un9 wH) lo (fun i (o:aD×Bool)=>(b,mti,at',o.1,o.2,lo,ae lo,((i:Nat):Int),m0,())) (fun _ x o=>bif Lp x then Sum.inl (Mq x o)else .inr (.inr (2,([],[],()),()))) (fun o=> .inl (b,mti,at',o.1,o.2,lo,ae lo,(lo.length:Int),m0,())) (fun i o=>o.1.length<=i) (a0:=([],false)) (oR _) (fun i x o hx ho=>by
  have hlt:=ai hx;show wH b mti at' o.1 o.2 lo (ae lo) (i:Int) m0=_;unfold wH;rw[aI hx,az hx,aH _ hx,aS (by unfold bG; omega)];dsimp only[oT];rw[qJ];dsimp only[oB];rw[YI (by omega)];unfold Lp Mq vr;cases aj x.1 1 <;> cases aj (bg x.1) 0 <;> rfl) (fun i x o o' hx ho hf=>by
  unfold Mq at hf;cases hk:Lp x <;> rw[hk]at hf
  . cases hf
  . cases hf;cases aj x.1 1 with
    | true=>show o.1.length<=_; omega
    | false=>show(o.1++[x]).length<=_; rw[aep]; show o.1.length+1<=_; omega) (fun o ho=>by
  show wH b mti at' o.1 o.2 lo (ae lo) (lo.length:Int) m0=_;unfold wH;rw[aA rfl];try rfl)
 rw[xq,IJ,LS]at h;refine ag9 h ?_;cases(fQ lo).all vr <;> rfl
theorem MP(l:aD):(jR l).all vr=l.all fun x=>vr (aw .i64 x.1 64,()):=by unfold jR; rw[List.all_map];try rfl
theorem Jp:∀(l o:aD),l.foldl (fun o x=>o++[(aw .i64 x.1 64,())]) o=o++jR l:=fun l=>by
 induction l with
 | nil=>intro o; simp[jR]
 | cons x r ih=>intro o; rw[afb,ih]; simp[jR]
theorem UC(b:aD)(mti:S8)(at':Int)(o0 hi:aD)(h0:o0.length<=64)(hl:hi.length<=64)(m0:bd):TO b mti at' o0 hi (ae hi) 0 m0=some (bif (jR hi).all vr then .inl (b,mti,at',o0++jR hi,hi,ae hi,(hi.length:Int),m0,())else .inr (2,([],[],()),())):=by
 have h:=aY (step:=OJ xY) hi (fun i (o:aD)=>(b,mti,at',o,hi,ae hi,((i:Nat):Int),m0,())) (fun _ x o=>bif vr (aw .i64 x.1 64,())then Sum.inl (o++[(aw .i64 x.1 64,())])else .inr (.inr (2,([],[],()),()))) (fun o=> .inl (b,mti,at',o,hi,ae hi,(hi.length:Int),m0,())) (fun i o=>o.length<=64+i) (a0:=o0) h0 (fun i x o hx ho=>by
  have hlt:=ai hx;show xY b mti at' o hi (ae hi) (i:Int) m0=_;unfold xY;rw[aI hx,az hx,aH _ hx,aS (by unfold bG; omega)];dsimp only[oT];rw[qJ];dsimp only[oB];rw[YI (by omega)];unfold vr;cases aj (bg (aw .i64 x.1 64)) 0 <;> rfl) (fun i x o o' hx ho hf=>by
  cases hk:vr (aw .i64 x.1 64,()) <;> rw[hk]at hf
  . cases hf
  . cases hf;rw[aep]; show o.length+1<=_; omega) (fun o ho=>by
  show xY b mti at' o hi (ae hi) (hi.length:Int) m0=_;unfold xY;rw[aA rfl];try rfl)
 rw[xq,Jp,<- MP]at h;refine ag9 h ?_;cases(jR hi).all vr <;> rfl
def UY(b:aD)(mti:S8)(m0:bd)(nos:aD)(n:Int):Option (List dz×Nat)->Sum (aD×Int×aD×Int×Int×bd×bd×Unit) (Int×bd×Unit)
 | some (l,e)=> .inl (b,(e:Int),nos,n,n,m0,(mti,l,()),())
 | none=> .inr (3,([],[],()),())
theorem Bn(b:aD)(mti:S8)(m0:bd)(ns:aD)(n:Int):∀(nos:aD) (i a:Nat) (o:List dz),ko (fun _ x (q:Nat×List dz)=>match po b q.1 x.1 with | some (s,e)=>Sum.inl (e,q.2++[(x.1,s,())]) | none=> .inr (.inr (3,([],[],()),()))) (fun q=> .inl (b,(q.1:Int),ns,n,n,m0,(mti,q.2,()),())) i nos (a,o)=UY b mti m0 ns n (kJ b nos a o)
 | [],_,_,_=>rfl
 | x::r,i,a,o=>by
   rw[ko,kJ];cases po b a x.1 with
   | none=>rfl
   | some p=>exact Bn b mti m0 ns n r (i+1) p.2 _
theorem RW{o:List dz}{x:dz}(h:o.length<=1048576):a6 24 o [x]=true:=aey (by show(o.length+1) * 24<=140737488355328; omega)
theorem VT(b:aD)(hb:zz b)(a:Nat)(ha:a<=b.length)(nos:aD)(hn:nos.length<=1000)(mti:S8)(m0:bd):SM b (a:Int) nos (ae nos) 0 m0 (mti,[],())=some (UY b mti m0 nos (ae nos) (kJ b nos a [])):=by
 have h:=aY (step:=zO xH) nos (fun i (q:Nat×List dz)=>(b,(q.1:Int),nos,ae nos,((i:Nat):Int),m0,(mti,q.2,()),())) (fun _ x q=>match po b q.1 x.1 with | some (s,e)=>Sum.inl (e,q.2++[(x.1,s,())]) | none=> .inr (.inr (3,([],[],()),()))) (fun q=> .inl (b,(q.1:Int),nos,ae nos,(nos.length:Int),m0,(mti,q.2,()),())) (fun i q=>q.1<=b.length/\q.2.length<=i) (a0:=(a,[])) ⟨ha,oR _⟩ (fun i x q hx hq=>by
  have hlt:=ai hx;show xH b (q.1:Int) nos (ae nos) (i:Int) m0 (mti,q.2,())=_;unfold xH;rw[aI hx,az hx,aH _ hx,aS (by unfold bG; omega),aaD b q.1 x.1 hb hq.1];unfold mP;cases po b q.1 x.1 with
  | none=>rfl
  | some p =>
    dsimp only[oT,oB,oN,oF];rw[RW (aeA hq.2 (by omega))];try rfl) (fun i x q q' hx hq hf=>by
  cases hg:po b q.1 x.1 with
  | none=>rw[hg]at hf; cases hf
  | some p =>
    rw[hg]at hf;cases hf;refine⟨(tE hq.1 hg).2.2,?_⟩;show(q.2++[_]).length<=_;rw[aep];exact Nat.succ_le_succ hq.2) (fun q hq=>by
  show xH b (q.1:Int) nos (ae nos) (nos.length:Int) m0 (mti,q.2,())=_;unfold xH;rw[aA rfl];try rfl)
 rw[show(fun(q:Nat×List dz)=>(Sum.inl (b,(q.1:Int),nos,ae nos,(nos.length:Int),m0,(mti,q.2,()),()):Sum (aD×Int×aD×Int×Int×bd×bd×Unit) (Int×bd×Unit)))=fun q=> .inl (b,(q.1:Int),nos,ae nos,ae nos,m0,(mti,q.2,()),())from rfl,Bn]at h;exact h
theorem Vb(b:aD)(hb:zz b)(a:Nat)(ha:a<=b.length)(nos:aD)(hn:nos.length<=1000)(mti:S8)(m0:bd):Gm b (a:Int) nos (ae nos) 0 m0 (mti,[],())=some (UY b mti m0 nos (ae nos) (kJ b nos a [])):=by
 have h:=aY (step:=zO yt) nos (fun i (q:Nat×List dz)=>(b,(q.1:Int),nos,ae nos,((i:Nat):Int),m0,(mti,q.2,()),())) (fun _ x q=>match po b q.1 x.1 with | some (s,e)=>Sum.inl (e,q.2++[(x.1,s,())]) | none=> .inr (.inr (3,([],[],()),()))) (fun q=> .inl (b,(q.1:Int),nos,ae nos,(nos.length:Int),m0,(mti,q.2,()),())) (fun i q=>q.1<=b.length/\q.2.length<=i) (a0:=(a,[])) ⟨ha,oR _⟩ (fun i x q hx hq=>by
  have hlt:=ai hx;show yt b (q.1:Int) nos (ae nos) (i:Int) m0 (mti,q.2,())=_;unfold yt;rw[aI hx,az hx,aH _ hx,aS (by unfold bG; omega),Xv b q.1 x.1 hb hq.1];unfold mP;cases po b q.1 x.1 with
  | none=>rfl
  | some p =>
    dsimp only[oT,oB,oN,oF];rw[RW (aeA hq.2 (by omega))];try rfl) (fun i x q q' hx hq hf=>by
  cases hg:po b q.1 x.1 with
  | none=>rw[hg]at hf; cases hf
  | some p =>
    rw[hg]at hf;cases hf;refine⟨(tE hq.1 hg).2.2,?_⟩;show(q.2++[_]).length<=_;rw[aep];exact Nat.succ_le_succ hq.2) (fun q hq=>by
  show yt b (q.1:Int) nos (ae nos) (nos.length:Int) m0 (mti,q.2,())=_;unfold yt;rw[aA rfl];try rfl)
 rw[show(fun(q:Nat×List dz)=>(Sum.inl (b,(q.1:Int),nos,ae nos,(nos.length:Int),m0,(mti,q.2,()),()):Sum (aD×Int×aD×Int×Int×bd×bd×Unit) (Int×bd×Unit)))=fun q=> .inl (b,(q.1:Int),nos,ae nos,ae nos,m0,(mti,q.2,()),())from rfl,Bn]at h;exact h
theorem Cb{b:aD}{p:aD×Nat}(h:zd b=some p):p.1.length<=1000/\p.2<=b.length:=by
 have k1:=mH (fM b 2 8);have k2:=mH (fM b 10 8);have k3:(fQ (fc (fM b 2 8))).length<=64:=aeA (afc _ _) k1;have k4:(jR (fc (fM b 10 8))).length<=64:=by unfold jR; rw[afO]; exact k2
 unfold zd at h;by_cases h10:10<=b.length;rotate_left
 . rw[if_neg h10]at h; cases h
 rw[if_pos h10]at h;cases hm:ij (fc (fM b 2 8)) <;> rw[hm]at h
 . cases hk:(fQ (fc (fM b 2 8))).all vr <;> rw[hk]at h <;> cases h;exact⟨by show(fQ (fc (fM b 2 8))).length<=_; omega,h10⟩
 . by_cases h18:18<=b.length/\fc (fM b 10 8)≠[]
   . rw[oT,if_pos h18]at h;cases hk:(fQ (fc (fM b 2 8))++jR (fc (fM b 10 8))).all vr <;> rw[hk]at h <;> cases h;refine⟨?_,h18.1⟩;show(fQ (fc (fM b 2 8))++jR (fc (fM b 10 8))).length<=_;rw[aep]; omega
   . rw[oT,if_neg h18]at h; cases h
theorem Z8(b:aD)(hb:zz b):g43 b=IQ (dY b):=by
 unfold g43 dY IQ;have h0:Jo b 0 4=rV (gP b 0 4) 2:=DL b 0 4 hb (aeC _) (by omega);rw[h0];cases hc:gP b 0 4 with
 | none=>rfl
 | some mti =>
   have h2:2<=b.length:=(dN hc).2.2.2.2;show Option.bind (Z7 b) _=_;rw[YG b hb h2];cases hn:zd b with
   | none=>rfl
   | some p =>
     obtain⟨n1,n2⟩:=Cb hn;obtain⟨nos,a⟩:=p;refine(bn (VT b hb a n2 nos n1 mti ([],[],()))).trans ?_;dsimp only;cases kJ b nos a []with
     | none=>rfl
     | some q =>
       obtain⟨l,e⟩:=q;show cond (!(aj (e:Int) (b.length:Int))) _ _=_;dsimp only;by_cases he:e=b.length
       . rw[if_pos he,he,bX];try rfl
       . rw[if_neg he,show aj (e:Int) (b.length:Int)=false from beq_eq_false_iff_ne.2 (by omega)];try rfl
theorem ZB(b:aD)(hb:zz b):g55 b=IQ (dY b):=by
 unfold g55 dY IQ;have h0:ME b 0 4=rV (gP b 0 4) 2:=Hs b 0 4 hb (aeC _) (by omega);rw[h0];cases hc:gP b 0 4 with
 | none=>rfl
 | some mti =>
   have h2:2<=b.length:=(dN hc).2.2.2.2;have h1:CP b 2=pr b 2:=KL b 2 hb h2;show Option.bind (CP b 2) _=_;rw[h1];unfold pr zd;have k1:=mH (fM b 2 8);generalize hlo:fc (fM b 2 8)=lo at k1 ⊢;have k3:(fQ lo).length<=64:=aeA (afc _ _) k1;have tail:∀(nos:aD) (a:Nat),a<=b.length->nos.length<=1000->∀ m0:bd,(Option.bind (Gm b (a:Int) nos (ae nos) 0 m0 (mti,[],())) (Sum.elim (fun y6=>cond (!(aj y6.2.1 (ae y6.1))) (some ((),(([],[],()),(4,()),()))) (some ((),(y6.2.2.2.2.2.2.1,(0,()),())))) (fun y6=>some ((),(y6.2.1,(y6.1,()),())))))=some ((),(match kJ b nos a []with | none=>(([],[],()),3) | some (l,e)=>if e=b.length then ((mti,l,()),0)else (([],[],()),4):bd×Int).1,((match kJ b nos a []with | none=>(([],[],()),3) | some (l,e)=>if e=b.length then ((mti,l,()),0)else (([],[],()),4):bd×Int).2,()),()):=fun nos a ha hn m0=>by
    rw[Vb b hb a ha nos hn mti m0];cases kJ b nos a []with
    | none=>rfl
    | some q =>
      obtain⟨l,e⟩:=q;show cond (!(aj (e:Int) (b.length:Int))) _ _=_;dsimp only;by_cases he:e=b.length
      . rw[if_pos he,he,bX];try rfl
      . rw[if_neg he,show aj (e:Int) (b.length:Int)=false from beq_eq_false_iff_ne.2 (by omega)];try rfl
   by_cases h10:10<=b.length;rotate_left
   . rw[if_neg h10,if_neg (show ¬ 2+8<=b.length from h10)];try rfl
   rw[if_pos h10,if_pos (show 2+8<=b.length from h10)];refine(bn (aay b mti 10 lo k1 ([],[],()))).trans ?_;cases hk:(fQ lo).all vr with
   | false =>
     dsimp only[oF];cases ij lo with
     | false=>rfl
     | true =>
       dsimp only[oT];rw[List.all_append,hk];by_cases h18:18<=b.length/\fc (fM b 10 8)≠[]
       . rw[if_pos h18];try rfl
       . rw[if_neg h18];try rfl
   | true =>
     dsimp only[oT];show cond (ij lo) _ _=_;cases ij lo with
     | false=>exact tail (fQ lo) 10 h10 (by omega) _
     | true =>
       dsimp only[oT];have h3:CP b 10=pr b 10:=KL b 10 hb h10;refine(bn h3).trans ?_;unfold pr;have k2:=mH (fM b 10 8);generalize fc (fM b 10 8)=hi at k2 ⊢;by_cases h18:18<=b.length;rotate_left
       . rw[if_neg (show ¬ 10+8<=b.length from h18),if_neg (fun h=>h18 h.1)];try rfl
       rw[if_pos (show 10+8<=b.length from h18)];by_cases hne:hi=[]
       . rw[if_neg (fun h=>h.2 hne),hne];try rfl
       rw[if_pos ⟨h18,hne⟩];have he:aj (ae hi) 0=false:=beq_eq_false_iff_ne.2 (by
        show(hi.length:Int)≠0;cases hi with
        | nil=>exact absurd rfl hne
        | cons x r=>show((r.length+1:Nat):Int)≠0; omega)
       show cond (cond (!true) true (aj (ae hi) 0)) _ _=_;rw[he];refine(bn (UC b mti 18 (fQ lo) hi k3 k2 ([],[],()))).trans ?_;rw[List.all_append,hk];cases(jR hi).all vr with
       | false=>rfl
       | true=>exact tail (fQ lo++jR hi) 18 h18 (by rw[aep]; unfold jR; rw[afO]; omega) _
def nr(s:S8):Nat->Nat
 | 0=>0
 | n+1=>bif aj (ee s (n:Int)) 32 then nr s n else n+1
def uv(s:S8):S8:=s.take (nr s s.length)
theorem CY(s:S8):∀ n,nr s n<=n
 | 0=>oR _
 | n+1=>by
   unfold nr;cases aj (ee s (n:Int)) 32 with
   | true=>exact Nat.le_succ_of_le (CY s n)
   | false=>exact oR _
theorem Wn(s:S8)(hs:s.length<=bG):g92 s=zR (uv s):=by
 have hbig:=bb;have h:∀ n:Nat,n<=s.length->Se s (n:Int)=some (.inl (s,((nr s n:Nat):Int),())):=fun n=>by
  induction n with
  | zero=>intro _; exact dA _ rfl
  | succ n ih =>
    intro hn;have e:Hd s ((n+1:Nat):Int)=bif aj (ee s (n:Int)) 32 then some (.inl (s,(n:Int),()))else some (.inr (.inl (s,((n+1:Nat):Int),()))):=by unfold Hd;rw[aO (show(0:Int)<((n+1:Nat):Int)by omega),bp (by omega) (by omega),show((n+1:Nat):Int)-1=(n:Int)by omega];dsimp only[oT];rw[fK (xs:=s) (by omega)];cases aj (ee s (n:Int)) 32 <;> rfl
    cases hc:aj (ee s (n:Int)) 32 with
    | true => rw[hc]at e;unfold nr;rw[hc];exact dU _ e (ih (by omega))
    | false => rw[hc]at e;unfold nr;rw[hc];exact dA _ e
 unfold g92;refine(bn (h s.length (oR _))).trans ?_;show cond (dZ 0 ((nr s s.length:Nat):Int) s) (zR (sub s 0 ((nr s s.length:Nat):Int))) none=_;rw[jj (CY s s.length),yy];try rfl
theorem Um(s:S8)(hs:s.length<=bG):Kh s 32=zR (uv s):=by
 have hbig:=bb;have h:∀ n:Nat,n<=s.length->J7 (s.take n) 32=some (.inl (s.take (nr s n),32,())):=fun n=>by
  induction n with
  | zero=>intro _; exact dA _ rfl
  | succ n ih =>
    intro hn;have hl:(s.take (n+1)).length=n+1:=by rw[afd]; omega
    have hb:ee (s.take (n+1)) (n:Int)=ee s (n:Int):=by have hx:s[n]? = some (s[n]'(by omega)):=aeq (by omega);rw[eX hx,eX (xs:=s.take (n+1)) (x:=s[n]'(by omega)) (by rw[aft,if_pos (by omega)]; exact hx)]
    have e:Be (s.take (n+1)) 32=bif aj (ee s (n:Int)) 32 then some (.inl (s.take n,32,()))else some (.inr (.inl (s.take (n+1),32,()))):=by unfold Be;rw[show ae (s.take (n+1))=((n+1:Nat):Int)from aeU Int.ofNat hl];dsimp only;rw[aO (show(0:Int)<((n+1:Nat):Int)by omega),bp (by omega) (by omega),show((n+1:Nat):Int)-1=(n:Int)by omega,fK (xs:=s.take (n+1)) (by omega),hb,jj (xs:=s.take (n+1)) (i:=n) (by omega),yy,List.take_take,ag3 (agf n)];cases aj (ee s (n:Int)) 32 <;> rfl
    cases hc:aj (ee s (n:Int)) 32 with
    | true => rw[hc]at e;unfold nr;rw[hc];exact dU _ e (ih (by omega))
    | false => rw[hc]at e;unfold nr;rw[hc];exact dA _ e
 have h0:=h s.length (oR _);rw[agK]at h0;unfold Kh;refine(bn h0).trans rfl
theorem U6(s:S8)(hs:s.length<=bG):PJ s=zR (uv s):=by
 unfold PJ Vj;cases he:bk s []with
 | true =>
   have:s=[]:=by simpa[bk]using he
   subst this;rfl
 | false => have e:Kh s (ee [32] 0)=_:=Um s hs;dsimp only;rw[e];try rfl
theorem Li(s:S8):(uv s).length<=s.length:=by unfold uv; rw[afd]; exact Nat.min_le_right _ _
abbrev fJ:=Int×Unit
def ji:fg:=(0,[],[],[],[],[],0,0,())
def xz(s:S8):Bool:=cond (cond (bk s [48,49,48,48]) true (bk s [48,50,48,48])) true (bk s [48,50,50,48])
abbrev JM:=S8×S8×S8×List (Int×Unit)×Unit
def dD:List JM:=[([48,49,48,48],[48,48],[97,117,116,104],[(4,()),(14,()),(38,())],()),([48,49,48,48],[48,50],[109,111,114,101],[(4,()),(38,())],()),([48,50,50,48],[48,49],[112,97,114,116],[(4,()),(38,())],()),([48,50,50,48],[48,48],[102,105,110,97,108],[(4,()),(38,())],()),([48,50,50,48],[50,48],[102,114,101,101],[(38,())],()),([48,50,48,48],[52,48],[109,111,118,101],[(38,()),(103,())],()),([48,49,48,48],[51,49],[97,115,107],[],()),([48,50,48,48],[57,48],[115,119,101,101,112],[],())]
def Ef(mti c:S8)(r:JM):Bool:=cond (bk r.1 mti) (bk r.2.1 (sub c 0 2)) false
def eL(mti c:S8):Int:=1+cX (Ef mti c) 0 dD
theorem uU(mti c:S8):eL mti c=0∨eL mti c=1∨eL mti c=2∨eL mti c=3∨eL mti c=4∨eL mti c=5∨eL mti c=6∨eL mti c=7∨eL mti c=8:=by unfold eL;have:=rX (Ef mti c) dD 0;simp only[show dD.length=8 from rfl]at this;omega
theorem Qe(m:bd)(c:S8)(hc:2<=c.length)(nm:S8×Unit)(hn:nm=(c,())):QC dD m nm=zR (cX (Ef m.1 c) 0 dD):=by
 subst hn;have hcut:dZ 0 2 c=true:=jj (i:=2) hc;have h:=aL (step:=da qo) dD (fun i (_:Unit)=>(dD,(m,(c,()),()),ae dD,((i:Nat):Int),())) (fun i x _=>bif Ef m.1 c x then Sum.inr (.inr ((i:Int),()))else .inl ()) (fun _=> .inl (dD,(m,(c,()),()),ae dD,(dD.length:Int),())) (a0:=()) (fun i x a hx=>by
  have hlt:=ai hx;have h8:dD.length=8:=rfl;show qo dD (m,(c,()),()) (ae dD) (i:Int)=_;unfold qo VO Ef;rw[aI hx,az hx,aH _ hx,aS (by unfold bG; omega)];dsimp only[oT];rw[hcut];cases bk x.1 m.1 <;> cases bk x.2.1 (sub c 0 2) <;> rfl) (fun a=>by
  show qo dD (m,(c,()),()) (ae dD) (dD.length:Int)=_;unfold qo;rw[aA rfl];try rfl)
 have hf:=gf (Y:=Sum ((List JM)×(bd×(S8×Unit)×Unit)×Int×Int×Unit) (Int×Unit)) (Ef m.1 c) (fun n=> .inr (n,())) (.inl (dD,(m,(c,()),()),ae dD,(dD.length:Int),())) (fun y=>match y with | .inl _ => -1 | .inr z=>z.1) (fun _=>rfl) rfl dD 0;unfold QC;refine(bn h).trans ?_;rw[<- hf];dsimp only[oB];cases ko _ _ 0 dD () <;> rfl
theorem opm{i:Nat}{x:JM}(hx:dD[i]? = some x):IL (((i+1:Nat)):Int)=zR x.1/\Ve (((i+1:Nat)):Int)=zR x.2.1:=by
 have hlt:=ai hx;have h8:dD.length=8:=rfl;have:i=0∨i=1∨i=2∨i=3∨i=4∨i=5∨i=6∨i=7:=by omega
 rcases this with h | h | h | h | h | h | h | h <;> subst h <;> cases hx <;> exact⟨rfl,rfl⟩
theorem OM(mti c:S8)(hc:2<=c.length):Zf mti c=zR (eL mti c):=by
 have hcut:dZ 0 2 c=true:=jj (i:=2) hc;have h8:dD.length=8:=rfl;have h:=aL (step:=iT DX) dD (fun i (_:Unit)=>(mti,c,((i+1:Nat):Int),())) (fun i x _=>bif Ef mti c x then Sum.inr (.inr (((i+1:Nat):Int),()))else .inl ()) (fun _=> .inl (mti,c,9,())) (a0:=()) (fun i x a hx=>by have hlt:=ai hx;show DX mti c ((i+1:Nat):Int)=_;unfold DX Ef;rw[(opm hx).1,(opm hx).2,show bM ((i+1:Nat):Int) 8=true from aes (by omega),aS (by unfold bG; omega)];dsimp only[oT,oB];rw[hcut];cases bk x.1 mti <;> cases bk x.2.1 (sub c 0 2) <;> rfl) (fun a=>rfl);have hf:=gf (Y:=Sum (S8×S8×Int×Unit) (Int×Unit)) (Ef mti c) (fun n=> .inr (1+n,())) (.inl (mti,c,9,())) (fun y=>match y with | .inl _ => -1 | .inr z=>z.1-1) (fun n=>by show 1+n-1=n; omega) rfl dD 0;rw[show(fun(i:Nat) (x:JM) (_:Unit)=>bif Ef mti c x then (Sum.inr (Sum.inr (((i+1:Nat):Int),())):Sum Unit (Sum (S8×S8×Int×Unit) (Int×Unit)))else .inl ())=fun i x _=>bif Ef mti c x then .inr (.inr (1+(i:Int),()))else .inl ()from by funext i x _;rw[show((i+1:Nat):Int)=1+(i:Int)by omega]]at h;unfold Zf;have h':SJ mti c 1=_:=h;refine(bn h').trans ?_;unfold eL;rw[<- hf];dsimp only[oB];have hneg:cX (Ef mti c) 0 dD = -1∨0<=cX (Ef mti c) 0 dD:=by
  rcases rX (Ef mti c) dD 0 with h | h
  . exact Or.inl h
  . exact Or.inr h.1
 cases hg:ko (fun(i:Nat) (x:JM) (_:Unit)=>bif Ef mti c x then (Sum.inr (Sum.inr (1+(i:Int),())):Sum Unit (Sum (S8×S8×Int×Unit) (Int×Unit)))else .inl ()) (fun _=> .inl (mti,c,9,())) 0 dD ()with
 | inl y=>rfl
 | inr y => show zR y.1=zR (1+(y.1-1));rw[show 1+(y.1-1)=y.1 by omega]
def fv(m:bd)(no:Int):S8:=(ie m no).getD []
def fs(m:bd)(no:Int):Bool:=(ie m no).isSome
theorem mX(m:bd)(no:Int):FI (ie m no)=some ((),((fv m no,()),(fs m no,()),())):=by unfold FI fv fs;cases ie m no <;> rfl
theorem vu{m:bd}{no:Int}(h:fs m no=false):fv m no=[]:=by
 unfold fs at h; unfold fv;cases hf:ie m no with
 | none=>rfl
 | some s=>rw[hf]at h; cases h
theorem vz{m:bd}{no:Int}{s:S8}(h:ie m no=some s):∃ f∈m.2.1,f.1=no/\f.2.1=s:=by
 unfold ie at h;cases hf:m.2.1.find? fun f=>aj f.1 no with
 | none=>rw[hf]at h; cases h
 | some f => rw[hf]at h;refine⟨f,agO hf,ba.1 (by have:=List.find?_some hf; exact this),?_⟩;cases h; rfl
theorem mY{m:bd}(hb:gy m)(no:Int):(fv m no).length<=1048576:=by
 unfold fv;cases h:ie m no with
 | none=>exact aeC _
 | some s => obtain⟨f,h1,_,rfl⟩:=vz h;exact hb.2.2 f h1
theorem O2{m:bd}(h:eR m=true){no:Int}{s:S8}(hf:ie m no=some s):cV no s=true:=by
 unfold eR at h;obtain⟨f,h1,h2,h3⟩:=vz hf;obtain⟨i,hi⟩:=agr.1 h1;cases hd:cond (aF m.1) (aj (ae m.1) 4) false with
 | false=>rw[hd]at h; cases h
 | true =>
   rw[hd]at h;have:=gq (fw m.2.1) h hi;unfold fw at this;rw[h2,h3]at this;cases hk:cV no s with
   | true=>rfl
   | false=>rw[hk]at this; cases this
theorem zA{m:bd}(h:eR m=true){s:S8}(hf:ie m 3=some s):2<=s.length:=by
 have:=O2 h hf;have e:cV 3 s=cond (aF s) (aj (ae s) 6) false:=rfl;rw[e]at this;cases hd:aF s with
 | false=>rw[hd]at this; cases this
 | true => rw[hd]at this;have:=ba.1 (show aj (ae s) 6=true from this);have:(s.length:Int)=6:=this;omega
def Xg(s:S8):Int:=match za s with | some n=>(n:Int) | none=>0
def nkM(s:S8):Bool:=(za s).isSome
theorem Bk(s:S8):Pj (za s)=some ((),((Xg s,()),(nkM s,()),())):=by unfold Pj Xg nkM;cases za s <;> rfl
def jF(m:bd)(op:Int):fg:=(op,fv m 2,cond (aj op 6) (fv m 103) [],cond (cond (cE op 1 8) (aG op 7) false) (uv (fv m 38)) [],fv m 11,m.1,cond (cE op 1 4) (Xg (fv m 4)) 0,cond (aj op 1) (Xg (fv m 14)) 0,())
def JG(m:bd)(op:Int):Bool:=cond (cond (cE op 1 4) (fs m 4) true) (cond (aj op 1) (fs m 14) true) false
def Fe(m:bd)(op:Int):fg×Int:=cond (JG m op) (cond (jY (jF m op)) (jF m op,0) (ji,1)) (ji,1)
def fH(m:bd):fg×Int:=cond (eR m) (cond (xz m.1) (match ie m 3 with | none=>(ji,1) | some c=>Fe m (eL m.1 c)) (ji,2)) (ji,1)
def NU(p:fg×Int):Option (Unit×(fg×(Int×Unit)×Unit)):=some ((),(p.1,(p.2,()),()))
theorem Fy{m:bd}(hb:gy m)(op:Int):CX (jF m op):=by
 refine⟨mY hb 2,?_,?_,mY hb 11,hb.1⟩
 . show(cond (aj op 6) (fv m 103) []).length<=_;cases aj op 6 with
   | true=>exact mY hb 103
   | false=>exact aeC _
 . show(cond (cond (cE op 1 8) (aG op 7) false) (uv (fv m 38)) []).length<=_;cases cond (cE op 1 8) (aG op 7) false with
   | true=>exact aeA (Li _) (mY hb 38)
   | false=>exact aeC _
theorem abv(m:bd)(hb:gy m):g49 m=NU (fH m):=by
 unfold g49 fH;rw[GH m hb];cases hm:eR m with
 | false=>rfl
 | true =>
 have hk:g88 m.1=zR (xz m.1):=rfl;dsimp only[oB,oN,oF];rw[hk];cases xz m.1 with
 | false=>rfl
 | true =>
 show Option.bind (wN m 3) _=_;rw[uA m 3 hb];cases h3:ie m 3 with
 | none=>rfl
 | some c =>
 show Option.bind (Zf m.1 c) _=_;rw[OM m.1 c (zA hm h3)];have f2:=(uA m 2 hb).trans (mX m 2);have f11:=(uA m 11 hb).trans (mX m 11);have f38:=(uA m 38 hb).trans (mX m 38);have f4:=(uA m 4 hb).trans (mX m 4);have f14:=(uA m 14 hb).trans (mX m 14);have f103:=(uA m 103 hb).trans (mX m 103);have b38:=Wn (fv m 38) (bJ (mY hb 38));have n4:=(GX (fv m 4) (bJ (mY hb 4))).trans (Bk _);have n14:=(GX (fv m 14) (bJ (mY hb 14))).trans (Bk _);dsimp only[oB];rw[f2,f11];dsimp only[oB];have hop:=uU m.1 c;generalize eL m.1 c=op at hop ⊢;have hq:=TP (jF m op) (Fy hb op);have hH:Xd op=zR (cond (cE op 1 8) (aG op 7) false):=rfl;have hA:Tz op=zR (cE op 1 4):=rfl;unfold Fe;generalize jY (jF m op)=z at hq ⊢;rw[hH,hA,f38,f4,f14,f103];dsimp only[oB];rw[b38,n4,n14];dsimp only[oB];unfold JG;unfold jF at hq ⊢;generalize cond (cE op 1 8) (aG op 7) false=c1 at hq ⊢;generalize cE op 1 4=c2 at hq ⊢;generalize aj op 1=c3 at hq ⊢;generalize aj op 6=c4 at hq ⊢;cases c1 <;> cases c2 <;> cases c3 <;> cases c4 <;> dsimp only[oT,oF]at hq ⊢ <;> rw[hq] <;> cases fs m 4 <;> cases fs m 14 <;> cases z <;> rfl
theorem WK{m:bd}{op:Int}(h:jY (jF m op)=true):fs m 2=true/\fs m 11=true/\(cond (cE op 1 8) (aG op 7) false=true->fs m 38=true)/\(aj op 6=true->fs m 103=true):=by
 unfold jY jF at h;simp only[aeo]at h;obtain⟨⟨⟨⟨⟨⟨⟨⟨h1,_⟩,h2⟩,h3⟩,_⟩,h4⟩,_⟩,_⟩,h5⟩:=h;refine⟨?_,?_,fun hc => ?_,fun hc => ?_⟩
 . cases hf:fs m 2 with
   | true=>rfl
   | false=>rw[vu hf]at h2; cases h2
 . cases hf:fs m 11 with
   | true=>rfl
   | false=>rw[vu hf]at h3; cases h3
 . cases hf:fs m 38 with
   | true=>rfl
   | false => rw[hc,vu hf]at h4;rw[h1]at hc;rw[show aG op 7=true from hc]at h4;cases h4
 . cases hf:fs m 103 with
   | true=>rfl
   | false=>rw[hc,vu hf]at h5; cases h5
def mN(op:Int):List fJ:=cond (cE op 1 8) (gt ([],[],[],[],()) dD (op-1)).2.2.2.1 []
def Jv(m:bd)(op:Int):Bool:=fs m 2&&(fs m 11&&(mN op).all fun x=>fs m x.1)
def OpC(op:Int):Prop:=op=0∨op=1∨op=2∨op=3∨op=4∨op=5∨op=6∨op=7∨op=8
theorem Lx(m:bd)(op:Int)(hop:OpC op):Fe m op=bif Jv m op then (bif jY (jF m op)then (jF m op,0)else (ji,1))else (ji,1):=by
 have hz:= @WK m op;unfold Fe;generalize jY (jF m op)=z at hz ⊢;generalize jF m op=q at hz ⊢;cases z with
 | false=>cases Jv m op <;> cases JG m op <;> rfl
 | true =>
   obtain⟨h1,h2,h3,h4⟩:=hz rfl;unfold Jv JG;rw[h1,h2];rcases hop with h | h | h | h | h | h | h | h | h <;> subst h
   . rfl
   . have:=h3 rfl;show(bif cond (fs m 4) (fs m 14) false then _ else _)=bif true&&(true&&(fs m 4&&(fs m 14&&(fs m 38&&true))))then _ else _;rw[this];cases fs m 4 <;> cases fs m 14 <;> rfl
   . have:=h3 rfl;show(bif cond (fs m 4) true false then _ else _)=bif true&&(true&&(fs m 4&&(fs m 38&&true)))then _ else _;rw[this];cases fs m 4 <;> rfl
   . have:=h3 rfl;show(bif cond (fs m 4) true false then _ else _)=bif true&&(true&&(fs m 4&&(fs m 38&&true)))then _ else _;rw[this];cases fs m 4 <;> rfl
   . have:=h3 rfl;show(bif cond (fs m 4) true false then _ else _)=bif true&&(true&&(fs m 4&&(fs m 38&&true)))then _ else _;rw[this];cases fs m 4 <;> rfl
   . have:=h3 rfl;show _=bif true&&(true&&(fs m 38&&true))then _ else _;rw[this];try rfl
   . have:=h3 rfl;have h6:=h4 rfl;show _=bif true&&(true&&(fs m 38&&(fs m 103&&true)))then _ else _;rw[this,h6];try rfl
   . rfl
   . rfl
def OI(m:bd)(no:Int)(q:fg):fg :=
 cond (aj no 2) (q.1,fv m no,q.2.2.1,q.2.2.2.1,q.2.2.2.2.1,q.2.2.2.2.2.1,q.2.2.2.2.2.2.1,q.2.2.2.2.2.2.2.1,())
  (cond (aj no 4) (q.1,q.2.1,q.2.2.1,q.2.2.2.1,q.2.2.2.2.1,q.2.2.2.2.2.1,Xg (fv m no),q.2.2.2.2.2.2.2.1,())
    (cond (aj no 11) (q.1,q.2.1,q.2.2.1,q.2.2.2.1,fv m no,q.2.2.2.2.2.1,q.2.2.2.2.2.2.1,q.2.2.2.2.2.2.2.1,())
      (cond (aj no 14) (q.1,q.2.1,q.2.2.1,q.2.2.2.1,q.2.2.2.2.1,q.2.2.2.2.2.1,q.2.2.2.2.2.2.1,Xg (fv m no),())
        (cond (aj no 38) (q.1,q.2.1,q.2.2.1,uv (fv m no),q.2.2.2.2.1,q.2.2.2.2.2.1,q.2.2.2.2.2.2.1,q.2.2.2.2.2.2.2.1,())
          (cond (aj no 103) (q.1,q.2.1,fv m no,q.2.2.2.1,q.2.2.2.2.1,q.2.2.2.2.2.1,q.2.2.2.2.2.2.1,q.2.2.2.2.2.2.2.1,()) q)))))
def NP(m:bd):List fJ->fg->Option fg
 | [],q=>some q
 | x::r,q=>bif fs m x.1 then NP m r (OI m x.1 q)else none
def ZS(xs:List fJ)(n:Int)(m:bd):Option fg->Sum (List fJ×Int×Int×bd×fg×fg×Unit) (Int×fg×Unit)
 | some q=> .inl (xs,n,n,m,ji,q,())
 | none=> .inr (1,ji,())
theorem Hv(m:bd)(ys:List fJ)(n:Int):∀(xs:List fJ) (i:Nat) (q:fg),ko (fun _ x q=>bif fs m x.1 then Sum.inl (OI m x.1 q)else .inr (.inr (1,ji,()))) (fun q=> .inl (ys,n,n,m,ji,q,())) i xs q=ZS ys n m (NP m xs q)
 | [],_,_=>rfl
 | x::r,i,q=>by
   rw[ko,NP];cases fs m x.1 with
   | false=>rfl
   | true=>exact Hv m ys n r (i+1) _
theorem Rc(m:bd)(hb:gy m)(xs:List fJ)(hx:xs.length<=10)(q0:fg):TN xs (ae xs) 0 m ji q0=some (ZS xs (ae xs) m (NP m xs q0)):=by
 have h:=aL (step:=BU x3) xs (fun i (q:fg)=>(xs,ae xs,((i:Nat):Int),m,ji,q,())) (fun _ x q=>bif fs m x.1 then Sum.inl (OI m x.1 q)else .inr (.inr (1,ji,()))) (fun q=> .inl (xs,ae xs,ae xs,m,ji,q,())) (a0:=q0) (fun i x q hx=>by
  have hlt:=ai hx;show x3 xs (ae xs) (i:Int) m ji q=_;unfold x3;rw[aI hx,az hx,aH _ hx,aS (by unfold bG; omega)];dsimp only[oT];rw[LO m x.1 hb,mX];dsimp only[oB];rw[(S2 (fv m x.1) (bJ (mY hb x.1))).trans (Bk _),U6 (fv m x.1) (bJ (mY hb x.1))];unfold OI;cases fs m x.1 with
  | false=>rfl
  | true=>cases aj x.1 2 <;> cases aj x.1 4 <;> cases aj x.1 11 <;> cases aj x.1 14 <;> cases aj x.1 38 <;> cases aj x.1 103 <;> rfl) (fun q=>by
  show x3 xs (ae xs) (xs.length:Int) m ji q=_;unfold x3;rw[aA rfl];try rfl)
 rw[Hv]at h;exact h
theorem Pc(m:bd)(op:Int)(hop:OpC op):NP m ((2,())::(11,())::mN op) (op,[],[],[],[],m.1,0,0,())=bif Jv m op then some (jF m op)else none:=by
 unfold Jv;rcases hop with h | h | h | h | h | h | h | h | h <;> subst h
 . show(bif fs m 2 then (bif fs m 11 then some (jF m 0)else none)else none)=bif fs m 2&&(fs m 11&&true)then _ else _;cases fs m 2 <;> cases fs m 11 <;> rfl
 . show(bif fs m 2 then (bif fs m 11 then (bif fs m 4 then (bif fs m 14 then (bif fs m 38 then some (jF m 1)else none)else none)else none)else none)else none)=bif fs m 2&&(fs m 11&&(fs m 4&&(fs m 14&&(fs m 38&&true))))then _ else _;cases fs m 2 <;> cases fs m 11 <;> cases fs m 4 <;> cases fs m 14 <;> cases fs m 38 <;> rfl
 . show(bif fs m 2 then (bif fs m 11 then (bif fs m 4 then (bif fs m 38 then some (jF m 2)else none)else none)else none)else none)=bif fs m 2&&(fs m 11&&(fs m 4&&(fs m 38&&true)))then _ else _;cases fs m 2 <;> cases fs m 11 <;> cases fs m 4 <;> cases fs m 38 <;> rfl
 . show(bif fs m 2 then (bif fs m 11 then (bif fs m 4 then (bif fs m 38 then some (jF m 3)else none)else none)else none)else none)=bif fs m 2&&(fs m 11&&(fs m 4&&(fs m 38&&true)))then _ else _;cases fs m 2 <;> cases fs m 11 <;> cases fs m 4 <;> cases fs m 38 <;> rfl
 . show(bif fs m 2 then (bif fs m 11 then (bif fs m 4 then (bif fs m 38 then some (jF m 4)else none)else none)else none)else none)=bif fs m 2&&(fs m 11&&(fs m 4&&(fs m 38&&true)))then _ else _;cases fs m 2 <;> cases fs m 11 <;> cases fs m 4 <;> cases fs m 38 <;> rfl
 . show(bif fs m 2 then (bif fs m 11 then (bif fs m 38 then some (jF m 5)else none)else none)else none)=bif fs m 2&&(fs m 11&&(fs m 38&&true))then _ else _;cases fs m 2 <;> cases fs m 11 <;> cases fs m 38 <;> rfl
 . show(bif fs m 2 then (bif fs m 11 then (bif fs m 38 then (bif fs m 103 then some (jF m 6)else none)else none)else none)else none)=bif fs m 2&&(fs m 11&&(fs m 38&&(fs m 103&&true)))then _ else _;cases fs m 2 <;> cases fs m 11 <;> cases fs m 38 <;> cases fs m 103 <;> rfl
 . show(bif fs m 2 then (bif fs m 11 then some (jF m 7)else none)else none)=bif fs m 2&&(fs m 11&&true)then _ else _;cases fs m 2 <;> cases fs m 11 <;> rfl
 . show(bif fs m 2 then (bif fs m 11 then some (jF m 8)else none)else none)=bif fs m 2&&(fs m 11&&true)then _ else _;cases fs m 2 <;> cases fs m 11 <;> rfl
theorem L2(op:Int)(hop:OpC op):∃ a b c,At op=some ((),((a,b,c,mN op,()),()))/\(mN op).length<=3:=by rcases hop with h | h | h | h | h | h | h | h | h <;> subst h <;> exact⟨_,_,_,rfl,by decide⟩
theorem abx(m:bd)(hb:gy m):g63 m=NU (fH m):=by
 unfold g63 fH;rw[Cn m hb];cases hm:eR m with
 | false=>rfl
 | true =>
 have hk:Ud m.1=zR (xz m.1):=rfl;dsimp only[oB,oN,oF];rw[hk];cases xz m.1 with
 | false=>rfl
 | true =>
 show Option.bind (FC m 3) _=_;rw[LO m 3 hb];cases h3:ie m 3 with
 | none=>rfl
 | some c =>
 have hr:QA=zR dD:=rfl;unfold FI;dsimp only[oB,oN,oF];rw[hr];dsimp only[oB];refine(bn (Qe m c (zA hm h3) (c,()) rfl)).trans ?_;have hop:=uU m.1 c;have hw:aw .i64 1 (cX (Ef m.1 c) 0 dD)=eL m.1 c:=by unfold eL at hop ⊢;exact cw (by omega) (by omega)
 dsimp only[oB];rw[hw];generalize eL m.1 c=op at hop ⊢;obtain⟨a1,a2,a3,hf,hfl⟩:=L2 op hop;rw[hf];dsimp only[oB];have hfit:a6 8 [((2:Int),()),(11,())] (mN op)=true:=aey (by show(2+(mN op).length) * 8<=140737488355328; omega);rw[hfit];refine(bn (Rc m hb ((2,())::(11,())::mN op) (by simp only[aeF]; omega) (op,[],[],[],[],m.1,0,0,()))).trans ?_;rw[Pc m op hop];show _=NU (Fe m op);rw[Lx m op hop];cases Jv m op with
 | false=>rfl
 | true => refine(bn (Tw (jF m op) (Fy hb op))).trans ?_;cases jY (jF m op) <;> rfl
theorem HO{b:aD}:∀ {nos:aD} {a:Nat} {o l:List dz} {e:Nat},a<=b.length->(∀ f∈o,f.2.1.length<=1048576)->kJ b nos a o=some (l,e)->l.length=o.length+nos.length/\∀ f∈l,f.2.1.length<=1048576
 | [],_,_,_,_,_,ho,h=>by cases h;exact⟨rfl,ho⟩
 | x::r,a,o,l,e,ha,ho,h=>by
   rw[kJ]at h;cases hg:po b a x.1 with
   | none=>rw[hg]at h; cases h
   | some p =>
     rw[hg]at h;obtain⟨_,h2,h3⟩:=tE ha hg;obtain⟨k1,k2⟩:=HO (nos:=r) h3 (fun f hf=>by
      rcases afw.1 hf with h | h
      . exact ho f h
      . rcases agd.1 h with rfl
        exact aeA h2 (by omega)) h
     refine⟨?_,k2⟩;rw[k1,aep];simp only[aeF,ae7];omega
theorem yA(b:aD):gy (dY b).1:=by
 have h0:gy ([],[],()):=⟨aeC _,aeC _,fun f hf=>by cases hf⟩;unfold dY;cases hc:gP b 0 4 with
 | none=>exact h0
 | some mti =>
   cases hn:zd b with
   | none=>exact h0
   | some p =>
     obtain⟨nos,a⟩:=p;obtain⟨n1,n2⟩:=Cb hn;dsimp only;cases hf:kJ b nos a []with
     | none=>exact h0
     | some q =>
       obtain⟨l,e⟩:=q;obtain⟨k1,k2⟩:=HO n2 (fun f hf=>by cases hf) hf;dsimp only;split
       . refine⟨?_,?_,k2⟩
         . show mti.length<=_;rw[(dN hc).2.1]; omega
         . show l.length<=_;rw[k1]; simp only[ae7]; exact aeA (Nat.le_of_eq (aex _)) (aeA n1 (by omega))
       . exact h0
theorem Bc{m:bd}(hb:gy m):CX (fH m).1:=by
 have h0:CX ji:=⟨aeC _,aeC _,aeC _,aeC _,aeC _⟩;unfold fH Fe;cases eR m with
 | false=>exact h0
 | true =>
 cases xz m.1 with
 | false=>exact h0
 | true =>
 cases ie m 3 with
 | none=>exact h0
 | some c =>
 dsimp only[oT];cases JG m (eL m.1 c)with
 | false=>exact h0
 | true =>
   dsimp only[oT];cases jY (jF m (eL m.1 c))with
   | false=>exact h0
   | true=>exact Fy hb _
theorem Ge{a b:S8}:bk a b=true↔a=b:=by simp[bk]
def slotsOf(a:ar):List cG:=a.2.2.2.2.2.2.2.2.2.2.1
def jZ(a:ar):S8×List cG:=(a.1,slotsOf a)
theorem Rb:(0:Int)<=0/\(0:Int)<=10:=by decide
def lx(a x:ar)(c:Int):Prop:=(0<=c/\c<=10)/\(c=0->jZ x=jZ a)
theorem di{a x:ar}{c:Int}(h:1<=c/\c<=10):lx a x c:=⟨⟨by omega,h.2⟩,fun e=>by omega⟩
theorem mI(a:ar)(now:Int):jZ (ay a now)=jZ a:=by
 unfold ay;cases bh a <;> first | rfl | skip
 cases a7 now <;> rfl
theorem VJ(s:ar)(amt now:Int):0<=gT s amt now/\gT s amt now<=10:=by
 unfold gT;cases aG (gI s now) amt <;> dsimp only[oT,oF] <;> first | decide | skip
 cases aG s.2.2.2.1 (eE (ph (fI s) now false) 1) <;> dsimp only[oT,oF] <;> first | decide | skip
 cases aG s.2.2.2.2.1 (eE (ph (fI s) now true) amt) <;> dsimp only[oT,oF] <;> decide
theorem wV{a x s:ar}{amt now:Int}(hz:aj (gT s amt now) 0=false):lx a x (gT s amt now) :=
 ⟨VJ s amt now,fun e=>by rw[ba.2 e]at hz; cases hz⟩
theorem WM(a:ar)(id:S8)(amt ttl now:Int):lx a (lz a id amt ttl now).1 (lz a id amt ttl now).2:=by
 have hs:=mI a now;unfold lz;generalize ay a now=s at hs ⊢;cases cond (bh a) (cond (a7 now) (bf id) false) false <;> dsimp only[oT,oF] <;> first | exact di (by decide) | skip
 cases cE amt 1 9007199254740992 <;> dsimp only[oT,oF] <;> first | exact di (by decide) | skip
 cases(cond (!cE ttl 1 9999) true (aG 1000000000 (aw .i64 now ttl))) <;> dsimp only[oT,oF] <;> first | exact di (by decide) | skip
 cases bM 0 (aC s.2.2.2.2.2.1 id) <;> dsimp only[oT,oF] <;> first | exact di (by decide) | skip
 cases aj (ae s.2.2.2.2.2.1) 4 <;> dsimp only[oT,oF] <;> first | exact di (by decide) | skip
 cases hz:aj (gT s amt now) 0 <;> dsimp only[oT,oF] <;> first | exact wV hz | skip
 exact⟨Rb,fun _=>hs⟩
theorem Uo(a:ar)(id:S8)(amt now:Int):lx a (lC a id amt now).1 (lC a id amt now).2:=by
 have hs:=mI a now;unfold lC;generalize ay a now=s at hs ⊢;cases cond (bh a) (cond (a7 now) (bf id) false) false <;> dsimp only[oT,oF] <;> first | exact di (by decide) | skip
 cases cE amt 1 9007199254740992 <;> dsimp only[oT,oF] <;> first | exact di (by decide) | skip
 cases aG (aC s.2.2.2.2.2.1 id) 0 <;> dsimp only[oT,oF] <;> first | exact di (by decide) | skip
 cases hz:aj (gT s amt now) 0 <;> dsimp only[oT,oF] <;> first | exact wV hz | skip
 exact⟨Rb,fun _=>hs⟩
theorem Ty(a:ar)(id:S8)(amt:Int)(last:Bool)(now:Int):lx a (oa a id amt last now).1 (oa a id amt last now).2:=by
 have hs:=mI a now;unfold oa;generalize ay a now=s at hs ⊢;cases cond (bh a) (cond (a7 now) (bf id) false) false <;> dsimp only[oT,oF] <;> first | exact di (by decide) | skip
 cases cE amt 1 9007199254740992 <;> dsimp only[oT,oF] <;> first | exact di (by decide) | skip
 cases aG (aC s.2.2.2.2.2.1 id) 0 <;> dsimp only[oT,oF] <;> first | exact di (by decide) | skip
 cases aG (gt sN s.2.2.2.2.2.1 (aC s.2.2.2.2.2.1 id)).2.1 amt <;> dsimp only[oT,oF] <;> first | exact di (by decide) | skip
 cases(cond last true (aj amt (gt sN s.2.2.2.2.2.1 (aC s.2.2.2.2.2.1 id)).2.1)) <;> exact⟨Rb,fun _=>hs⟩
theorem VU(a:ar)(id:S8)(now:Int):lx a (lE a id now).1 (lE a id now).2:=by
 have hs:=mI a now;unfold lE;generalize ay a now=s at hs ⊢;cases cond (bh a) (cond (a7 now) (bf id) false) false <;> dsimp only[oT,oF] <;> first | exact di (by decide) | skip
 cases aG (aC s.2.2.2.2.2.1 id) 0 <;> dsimp only[oT,oF] <;> first | exact di (by decide) | skip
 exact⟨Rb,fun _=>hs⟩
theorem Qs(a:ar)(now:Int):lx a (ja a now).1 (ja a now).2:=by
 unfold ja;cases bh a <;> dsimp only[oT,oF] <;> first | exact di (by decide) | skip
 cases a7 now <;> dsimp only[oT,oF] <;> first | exact di (by decide) | skip
 exact⟨Rb,fun _=>mI a now⟩
theorem Ly(a b:ar)(id:S8)(now:Int):lx a (gp a b id now).1 (gp a b id now).2.2/\lx b (gp a b id now).2.1 (gp a b id now).2.2:=by
 have hs:=mI a now;have ht:=mI b now;unfold gp;generalize ay a now=s at hs ⊢;generalize ay b now=t at ht ⊢;have no:∀ c:Int,1<=c/\c<=10->lx a aP c/\lx b aP c:=fun c h=>⟨di h,di h⟩
 cases cond (bh a) (cond (a7 now) (bf id) false) false <;> dsimp only[oT,oF] <;> first | exact no _ (by decide) | skip
 cases bh b <;> dsimp only[oT,oF] <;> first | exact no _ (by decide) | skip
 cases bk a.1 b.1 <;> dsimp only[oT,oF] <;> first | exact no _ (by decide) | skip
 cases aG (aC s.2.2.2.2.2.1 id) 0 <;> dsimp only[oT,oF] <;> first | exact no _ (by decide) | skip
 cases bM 0 (aC t.2.2.2.2.2.1 id) <;> dsimp only[oT,oF] <;> first | exact no _ (by decide) | skip
 cases aj (ae t.2.2.2.2.2.1) 4 <;> dsimp only[oT,oF] <;> first | exact no _ (by decide) | skip
 cases aG (gI t now) (gt sN s.2.2.2.2.2.1 (aC s.2.2.2.2.2.1 id)).2.1 <;> dsimp only[oT,oF] <;> first | exact no _ (by decide) | skip
 exact⟨⟨Rb,fun _=>hs⟩,⟨Rb,fun _=>ht⟩⟩
theorem XM(a:ar)(now:Int):lx a a (tH a now).2:=by
 refine⟨?_,fun _=>rfl⟩;unfold tH;cases bh a <;> dsimp only[oT,oF] <;> first | decide | skip
 cases a7 now <;> dsimp only[oT,oF] <;> first | decide | skip
theorem Yu(a b:ar)(q:fg)(now:Int):lx a (ma a b q now).1 (ma a b q now).2.2.1/\(aj q.1 6=true->lx b (ma a b q now).2.1 (ma a b q now).2.2.1):=by
 unfold ma;cases h1:aj q.1 1 <;> first | exact⟨WM a _ _ _ now,fun h=>by rw[ba.1 h]at h1; cases h1⟩ | skip
 cases h2:aj q.1 2 <;> first | exact⟨Uo a _ _ now,fun h=>by rw[ba.1 h]at h2; cases h2⟩ | skip
 cases h3:aj q.1 3 <;> first | exact⟨Ty a _ _ _ now,fun h=>by rw[ba.1 h]at h3; cases h3⟩ | skip
 cases h4:aj q.1 4 <;> first | exact⟨Ty a _ _ _ now,fun h=>by rw[ba.1 h]at h4; cases h4⟩ | skip
 cases h5:aj q.1 5 <;> first | exact⟨VU a _ now,fun h=>by rw[ba.1 h]at h5; cases h5⟩ | skip
 cases h6:aj q.1 6 <;> first | exact⟨(Ly a b _ now).1,fun _=>(Ly a b _ now).2⟩ | skip
 cases h7:aj q.1 7 <;> first | exact⟨XM a now,fun h=>by cases h⟩ | exact⟨Qs a now,fun h=>by cases h⟩
theorem vK{b:List ar}{i:Nat}{x y:ar}(h:b[i]? = some y)(hk:jZ x=jZ y):(b.set i x).map jZ=b.map jZ:=by
 apply agW;intro j;rw[ae2,ae2,agY];by_cases e:i=j
 . subst e;rw[if_pos rfl,if_pos (ai h),h];simp[hk]
 . rw[if_neg e]
theorem NB(b:List ar)(q:fg)(now:Int):(0<=(dn b q now).2.1/\(dn b q now).2.1<=10)/\((dn b q now).2.1=0->(dn b q now).1.map jZ=b.map jZ):=by
 have no:∀(c:Int) (l:List ar),1<=c/\c<=10->(0<=c/\c<=10)/\(c=0->l.map jZ=b.map jZ):=fun c l h=>⟨⟨by omega,h.2⟩,fun e=>by omega⟩
 unfold dn;cases je b <;> dsimp only[oT,oF] <;> first | exact no _ _ (by decide) | skip
 cases jY q <;> dsimp only[oT,oF] <;> first | exact no _ _ (by decide) | skip
 cases a7 now <;> dsimp only[oT,oF] <;> first | exact no _ _ (by decide) | skip
 cases h6:aj q.1 6 with
 | false =>
   dsimp only[oF];cases hk:aG (ax b q.2.1) 0 with
   | true=>exact no 3 [] (by decide)
   | false =>
     obtain⟨i,y,e,hy⟩:=dQ (of_decide_eq_false hk);have hg:gt aP b (ax b q.2.1)=y:=by rw[e]; exact aH _ hy
     have hop:=(Yu y y q now).1;rw[hg];dsimp only[oF];cases hz:aj (ma y y q now).2.2.1 0 with
     | false => refine⟨hop.1,fun e => ?_⟩;have e:(ma y y q now).2.2.1=0:=e;rw[ba.2 e]at hz; cases hz
     | true => refine⟨Rb,fun _ => ?_⟩;show(dw b (ax b q.2.1) (ma y y q now).1).map jZ=_;rw[e];exact vK (i:=i) hy (hop.2 (ba.1 hz))
 | true =>
    cases hk:aG (ax b q.2.1) 0 with
   | true=>exact no 3 [] (by decide)
   | false =>
   cases hm:aG (ax b q.2.2.1) 0 with
   | true=>exact no 3 [] (by decide)
   | false =>
     obtain⟨i,y,e,hy⟩:=dQ (of_decide_eq_false hk);obtain⟨j,z,e2,hz2⟩:=dQ (of_decide_eq_false hm);have hg:gt aP b (ax b q.2.1)=y:=by rw[e]; exact aH _ hy
     have hg2:gt aP b (ax b q.2.2.1)=z:=by rw[e2]; exact aH _ hz2
     have hop:=Yu y z q now;rw[hg,hg2];dsimp only[oF];cases hz:aj (ma y z q now).2.2.1 0 with
     | false => refine⟨hop.1.1,fun e => ?_⟩;have e:(ma y z q now).2.2.1=0:=e;rw[ba.2 e]at hz; cases hz
     | true =>
       refine⟨Rb,fun _ => ?_⟩;have k1:=hop.1.2 (ba.1 hz);have k2:=(hop.2 h6).2 (ba.1 hz);show(dw (dw b (ax b q.2.2.1) (ma y z q now).2.1) (ax b q.2.1) (ma y z q now).1).map jZ=_;rw[e,e2];show((b.set j (ma y z q now).2.1).set i (ma y z q now).1).map jZ=_;by_cases hij:j=i
       . subst hij;rw[List.set_set];exact vK hy k1
       . rw[vK (y:=y) (by rw[List.getElem?_set_ne hij]; exact hy) k1];exact vK hz2 k2
def kD:S8->aD
 | x::y::r=>((((x.toNat-48) * 16+(y.toNat-48):Nat):Int),())::kD r
 | _=>[]
theorem uq:∀(n:Nat) (s:S8),s.length=2 * n->(kD s).length=n
 | 0,[],_=>rfl
 | 0,_::_,h=>by simp at h
 | n+1,x::y::r,h=>by rw[kD,aeF,uq n r (by simp only[aeF]at h; omega)]
 | n+1,[],h=>by simp at h
 | n+1,[x],h=>by simp at h; omega
def uR(s:S8):S8:=if s.length % 2=1 then 48::s else s
def cQ(s:S8):aD:=cond (cond (aF s) (bM (ae s) 38) false) (kD (uR s)) []
theorem fC(s:S8):(cQ s).length<=(s.length+1) / 2:=by
 unfold cQ;cases cond (aF s) (bM (ae s) 38) false with
 | false=>exact aeC _
 | true =>
   show(kD (uR s)).length<=_;unfold uR;by_cases h:s.length % 2=1
   . rw[if_pos h,uq ((s.length+1) / 2) (48::s) (by simp only[aeF]; omega)];exact oR _
   . rw[if_neg h,uq (s.length / 2) s (by omega)];omega
def Js(no:Int):Int:=cond (aj (bg no) 5) 3 2
def JX(s:S8):aD:=bytesOf s
def E2(no:Int)(s:S8):aD:=cond (cond (aj (bg no) 1) true (aj (bg no) 3)) (cQ s) (JX s)
def pQ(no:Int)(s:S8):aD:=cond (cV no s) (cond (cond (aj (bg no) 1) true (aj (bg no) 2)) (E2 no s) (cQ (dC (ae s) (Js no))++E2 no s)) []
theorem o6{n w:Int}{k:Nat}(h:w=k):(dC n w).length<=k:=by
 unfold dC;cases hc:bI n&&cE w 1 18&&bM (ae (Lib.itoa n)) w with
 | false=>simp
 | true => simp only[aeo]at hc;have h2:ae (Lib.itoa n)<=w:=afD hc.2;simp only[oT,aep,afv];unfold ae at h2 ⊢; omega
def sd(no:Int):Nat:=cond (aj (bg no) 1) (((fE no).toNat+1) / 2) (cond (aj (bg no) 2) (fE no).toNat (cond (aj (bg no) 3) 11 (cond (aj (bg no) 4) 21 62)))
theorem AY(s:S8):(JX s).length=s.length:=afO ..
theorem DZ(no:Int)(s:S8):(pQ no s).length<=sd no:=by
 have hb:=fC s;have ho:=AY s;have h2:=fC (dC (ae s) 2);have h3:=fC (dC (ae s) 3);have w2:=o6 (n:=ae s) (w:=2) (k:=2) rfl;have w3:=o6 (n:=ae s) (w:=3) (k:=3) rfl;obtain⟨n,hn,hk⟩:=kinds no;unfold pQ sd E2 Js;cases hf:cV no s with
 | false=>exact aeC _
 | true =>
   unfold cV at hf;rw[hn]at hf;rw[hn];rcases hk with ⟨e,hk⟩ | ⟨e,hk⟩ | ⟨e,hk⟩ | ⟨e,hk⟩ | ⟨e,hk⟩ | ⟨e,hk⟩ <;> rw[e]at hf <;> rw[e]
   . cases hf
   . have hl:aj (ae s) n=true:=by
      cases hd:aF s <;> rw[hd]at hf <;> first | exact hf | cases hf
     have:=ba.1 hl;unfold ae at this;show(cQ s).length<=((n:Int).toNat+1) / 2;omega
   . have hl:aj (ae s) n=true:=by
      cases hd:cP s <;> rw[hd]at hf <;> first | exact hf | cases hf
     have:=ba.1 hl;unfold ae at this;show(JX s).length<=(n:Int).toNat;omega
   . have hl:cE (ae s) 1 n=true:=by
      cases hd:aF s <;> rw[hd]at hf <;> first | exact hf | cases hf
     have:=bl.1 hl;unfold ae at this;show(cQ (dC (ae s) 2)++cQ s).length<=11;rw[aep];omega
   . have hl:cE (ae s) 1 n=true:=by
      cases hd:cP s <;> rw[hd]at hf <;> first | exact hf | cases hf
     have:=bl.1 hl;unfold ae at this;show(cQ (dC (ae s) 2)++JX s).length<=21;rw[aep];omega
   . have hl:cE (ae s) 1 n=true:=by
      cases hd:cP s <;> rw[hd]at hf <;> first | exact hf | cases hf
     have:=bl.1 hl;unfold ae at this;show(cQ (dC (ae s) 3)++JX s).length<=62;rw[aep];omega
def kz(o:aD)(k:Nat):aD:=o.set (k / 8) ((((o.getD (k / 8) (0,())).1.toNat ||| 128 >>> (k % 8):Nat):Int),())
def dJ(l:List fJ):aD:=l.foldl (fun o k=>cond (cE k.1 1 64) (kz o (k.1.toNat-1)) o) (List.replicate 8 (0,()))
theorem iN(l:List fJ):(dJ l).length=8:=by
 unfold dJ;have:∀(l:List fJ) (o:aD),o.length=8->(l.foldl (fun o k=>cond (cE k.1 1 64) (kz o (k.1.toNat-1)) o) o).length=8:=fun l=>by
  induction l with
  | nil=>exact fun o h=>h
  | cons k r ih =>
    intro o h;refine ih _ ?_;show(cond (cE k.1 1 64) (kz o (k.1.toNat-1)) o).length=8;cases cE k.1 1 64 with
    | false=>exact h
    | true=>show(kz o _).length=8; unfold kz; rw[afB]; exact h
 exact this l _ afv
def rk(l:List dz):List fJ:=(l.filter fun f=>aG 64 f.1).map fun f=>(aW .i64 f.1 64,())
def jO(l:List dz):List fJ:=(l.filter fun f=> !aG 64 f.1).map fun f=>(f.1,())
def xM(l:List dz):aD:=cond (aG 0 (ae (rk l))) (dJ (jO l++[(1,())])++dJ (rk l)) (dJ (jO l))
def eO(l:List dz):aD:=(l.map fun f=>pQ f.1 f.2.1).flatten
def ll(m:bd):aD:=cond (eR m) (cQ m.1++(xM m.2.1++eO m.2.1)) []
theorem DB:∀(l:List dz),(eO l).length<=(l.map fun f=>sd f.1).sum
 | []=>oR _
 | f::l=>by have ih:=DB l;have:=DZ f.1 f.2.1;unfold eO at ih ⊢;rw[aff,List.flatten_cons,aep,aff,ahc];omega
theorem G9{m:bd}(h:eR m=true):8<=(ll m).length/\(ll m).length<=18+(m.2.1.map fun f=>sd f.1).sum:=by
 have hb:=DB m.2.1;have h1:=fC m.1;have h4:m.1.length=4:=by
  unfold eR at h;cases hd:aF m.1 with
  | false=>rw[hd]at h; cases h
  | true =>
    rw[hd]at h;cases he:aj (ae m.1) 4 with
    | false=>rw[he]at h; cases h
    | true=>have:=ba.1 he; unfold ae at this; omega
 have hm:8<=(xM m.2.1).length/\(xM m.2.1).length<=16:=by
  unfold xM;cases aG 0 (ae (rk m.2.1))with
  | false=>have:=iN (jO m.2.1); exact⟨by show 8<=(dJ (jO m.2.1)).length; omega,by show(dJ (jO m.2.1)).length<=16; omega⟩
  | true =>
    have e:(dJ (jO m.2.1++[(1,())])++dJ (rk m.2.1)).length=16:=by rw[aep,iN,iN]
    exact⟨by show 8<=(dJ (jO m.2.1++[(1,())])++dJ (rk m.2.1)).length; omega,by show(dJ (jO m.2.1++[(1,())])++dJ (rk m.2.1)).length<=16; omega⟩
 unfold ll;rw[h];have e:(cQ m.1++(xM m.2.1++eO m.2.1)).length=(cQ m.1).length+((xM m.2.1).length+(eO m.2.1).length):=by rw[aep,aep]
 exact⟨by show 8<=(cQ m.1++(xM m.2.1++eO m.2.1)).length; omega,by show(cQ m.1++(xM m.2.1++eO m.2.1)).length<=_; omega⟩
def vh(c:Int):S8:=cond (cE c 0 10) (gt ([],()) [([48,48],()),([51,48],()),([49,50],()),([49,52],()),([49,51],()),([50,53],()),([57,52],()),([53,49],()),([54,53],()),([54,49],()),([57,54],())] c).1 []
def cN(s:S8):S8:=match s with
 | [a,b,c,d]=>cond (aF s) (cond (aj ((c.toNat % 2:Nat):Int) 1) [] [a,b,UInt8.ofNat (c.toNat+1),d]) []
 | _=>[]
def BM(no:Int)(s:S8):S8:=cond (cV no (cond (aj (bg no) 1) (List.replicate (fE no-ae s).toNat 48++s) (cond (aj (bg no) 2) (s++List.replicate (fE no-ae s).toNat 32) s))) (cond (aj (bg no) 1) (List.replicate (fE no-ae s).toNat 48++s) (cond (aj (bg no) 2) (s++List.replicate (fE no-ae s).toNat 32) s)) []
def vk:List Int:=[2,3,4,7,11,37,38,39,41,49,54,102,103]
def yM(m:bd)(code:Int)(hold told:S8)(no:Int):Option S8 :=
 cond (aj no 38) (cond (cond (aj code 0) (!bk hold []) false) (some (BM 38 hold)) none)
  (cond (aj no 39) (some (vh code)) (cond (aj no 54) (cond (!bk told []) (some told) none) (ie m no)))
def ln(m:bd)(code:Int)(hold told:S8)(no:Int):Option dz:=(yM m code hold told no).map fun s=>(no,s,())
def gX(m:bd)(code:Int)(hold told:S8):List dz:=vk.filterMap (ln m code hold told)
def im(m:bd)(code:Int)(hold told:S8):bd×Bool :=
 cond (cond (eR m) (cond (bk (cN m.1) []) false (!bk (vh code) [])) false)
  (cond ((gX m code hold told).all fun f=>cV f.1 f.2.1) ((cN m.1,gX m code hold told,()),true) (([],[],()),false)) (([],[],()),false)
def jV(mti:S8)(code:Int):bd×Bool:=cond (eR (cN mti,[(39,vh code,())],())) ((cN mti,[(39,vh code,())],()),true) (([],[],()),false)
theorem rn(m:bd)(code:Int)(hold told:S8):(gX m code hold told).Pairwise fun a b=>a.1<b.1:=by
 have h:vk.Pairwise fun a b=>a<b:=by decide
 refine List.Pairwise.filterMap _ (fun a b hab x hx y hy => ?_) h;unfold ln at hx hy;cases ha:yM m code hold told a with
 | none=>rw[ha]at hx; simp at hx
 | some s =>
   cases hb:yM m code hold told b with
   | none=>rw[hb]at hy; simp at hy
   | some t => rw[ha]at hx;rw[hb]at hy;simp only[aeM,Option.mem_def,aen]at hx hy;rw[<- hx,<- hy];exact hab
theorem BX{α:Type}(p:Nat->α->Bool)(q:α->Bool):∀(xs:List α) (k:Nat),(∀ i x,xs[i]? = some x->p (k+i) x=q x)->allI p k xs=xs.all q
 | [],_,_=>rfl
 | x::r,k,h=>by have h0:p k x=q x:=h 0 x rfl;rw[allI,afe,h0,BX p q r (k+1) fun i y hy=>by rw[show k+1+i=k+(i+1)by omega]; exact h (i+1) y (by simpa using hy)]
theorem Cs{mti:S8}{l:List dz}(h:l.Pairwise fun a b=>a.1<b.1)(hm:cond (aF mti) (aj (ae mti) 4) false=true):eR (mti,l,())=l.all fun f=>cV f.1 f.2.1:=by
 unfold eR;rw[hm,oT];refine BX _ _ l 0 fun i x hx => ?_
 unfold fw;cases cV x.1 x.2.1 with
 | false=>rfl
 | true =>
   by_cases h0:0<0+i
   . rw[aes h0];obtain⟨y,hy⟩:∃ y,l[i-1]? = some y:=⟨_,aeq (by have:=ai hx; omega)⟩;have hg:gt (0,[],()) l (((0+i:Nat):Int)-1)=y:=by
      rw[show(((0+i:Nat):Int)-1)=((i-1:Nat):Int)by omega];exact aH _ hy
     have hlt:y.1<x.1:=by obtain⟨h1,e1⟩:=aeW.1 hy;obtain⟨h2,e2⟩:=aeW.1 hx;rw[<- e1,<- e2];exact agN.1 h (i-1) i h1 h2 (by omega)
     show(!bM x.1 (gt (0,[],()) l (((0+i:Nat):Int)-1)).1)=true;rw[hg,show bM x.1 y.1=false from aeL (by omega)];try rfl
   . rw[aeL h0];try rfl
theorem P5(u:Nat):∀ x∈Lib.decDigits u,er x=true:=by
 induction u using Nat.strongRecOn with
 | _ u ih =>
   intro x hx;rw[Lib.decDigits]at hx;by_cases h:u<10
   . rw[dif_pos h]at hx;simp only[agd]at hx;subst hx;rw[cl,agB];omega
   . rw[dif_neg h]at hx;rcases afw.1 hx with hx | hx
     . exact ih _ (by omega) x hx
     . simp only[agd]at hx;subst hx;rw[cl,agB];omega
theorem DR(n w:Int):∀ x∈dC n w,er x=true:=by
 unfold dC;cases hc:bI n&&cE w 1 18&&bM (ae (Lib.itoa n)) w with
 | false=>intro x hx; simp at hx
 | true =>
   simp only[aeo]at hc;have h0:=(bl.1 hc.1.1).1;obtain⟨u,rfl⟩:∃ u:Nat,n=u:=⟨n.toNat,by omega⟩;intro x hx;rcases afw.1 hx with hx | hx
   . rw[agQ hx]; decide
   . rw[Lib.itoa_nonneg]at hx; exact P5 u x hx
def YD(x:UInt8):Bool:=cond (aG (x.toNat:Int) 32) false (!(aG 126 (x.toNat:Int)))
theorem Pw{x:UInt8}:YD x=true↔32<=x.toNat/\x.toNat<=126:=by
 unfold YD aG;by_cases h:(x.toNat:Int)<32
 . simp[h]; omega
 . by_cases h2:(126:Int)<x.toNat
   . simp[h,h2]; omega
   . simp[h,h2]; omega
theorem Mo{s:S8}(h:∀ x∈s,32<=x.toNat/\x.toNat<=126):cP s=true:=aeG.2 fun x hx=>Pw.2 (h x hx)
def wj(t:S8):Prop:=t=[]∨(cP t=true/\1<=t.length/\t.length<=60)
theorem LY(a:ar)(now:Int):wj (tH a now).1:=by
 have e:∀ r p:Int,wj ((dC r 16++[32])++dC p 16):=fun r p=>by
  refine .inr ⟨Mo fun x hx => ?_,?_⟩
  . rcases afw.1 hx with hx | hx
    . rcases afw.1 hx with hx | hx
      . have:=cl.1 (DR _ _ x hx); omega
      . simp only[agd]at hx; subst hx; decide
    . have:=cl.1 (DR _ _ x hx); omega
  . have h1:=iD r 16;have h2:=iD p 16;simp only[aep,age];omega
 unfold tH;cases bh a <;> first | exact .inl rfl | skip
 cases a7 now <;> first | exact .inl rfl | skip
 exact e _ _
theorem Gf(a b:ar)(q:fg)(now:Int):wj (ma a b q now).2.2.2:=by
 unfold ma;cases aj q.1 1 <;> first | exact .inl rfl | skip
 cases aj q.1 2 <;> first | exact .inl rfl | skip
 cases aj q.1 3 <;> first | exact .inl rfl | skip
 cases aj q.1 4 <;> first | exact .inl rfl | skip
 cases aj q.1 5 <;> first | exact .inl rfl | skip
 cases aj q.1 6 <;> first | exact .inl rfl | skip
 cases aj q.1 7 <;> first | exact .inl rfl | skip
 exact LY a now
theorem uc(b:List ar)(q:fg)(now:Int):wj (dn b q now).2.2:=by
 unfold dn;cases je b <;> first | exact .inl rfl | skip
 cases jY q <;> first | exact .inl rfl | skip
 cases a7 now <;> first | exact .inl rfl | skip
 dsimp only[oT];cases aj q.1 6 with
 | false =>
   dsimp only[oF];cases aG (ax b q.2.1) 0 <;> first | exact .inl rfl | skip
   dsimp only[oF];cases aj (ma (gt aP b (ax b q.2.1)) (gt aP b (ax b q.2.1)) q now).2.2.1 0 <;> first | exact .inl rfl | exact Gf _ _ q now
 | true =>
   dsimp only[oT];cases cond (aG (ax b q.2.1) 0) true (aG (ax b q.2.2.1) 0) <;> first | exact .inl rfl | skip
   dsimp only[oF];cases aj (ma (gt aP b (ax b q.2.1)) (gt aP b (ax b q.2.2.1)) q now).2.2.1 0 <;> first | exact .inl rfl | exact Gf _ _ q now
theorem T6{m:bd}(h:eR m=true){no:Int}{s:S8}(hs:ie m no=some s):cV no s=true:=by
 unfold ie at hs;cases hf:m.2.1.find? (fun f=>aj f.1 no)with
 | none=>rw[hf]at hs; cases hs
 | some f =>
   rw[hf]at hs;cases hs;have e:f.1=no:=by have h2:=List.find?_some hf; exact ba.1 h2
   obtain⟨i,hi⟩:=agr.1 (agO hf);unfold eR at h;cases hd:cond (aF m.1) (aj (ae m.1) 4) false with
   | false=>rw[hd]at h; cases h
   | true =>
     rw[hd]at h;have:=gq (fw m.2.1) h hi;unfold fw at this;rw[<- e];cases hk:cV f.1 f.2.1 with
     | true=>rfl
     | false=>rw[hk]at this; cases this
theorem YA{s:S8}(h:bf s=true):cV 38 (BM 38 s)=true:=by
 unfold bf at h;cases ha:s.all jA with
 | false=>rw[ha]at h; cases h
 | true =>
   rw[ha]at h;have hl:=bl.1 h;have hp:cV 38 (s++List.replicate ((6:Int)-ae s).toNat 32)=true:=by
    show cond (cP (s++List.replicate ((6:Int)-ae s).toNat 32)) (aj (ae (s++List.replicate ((6:Int)-ae s).toNat 32)) 6) false=true;rw[Mo fun x hx => ?_]
    . show aj _ 6=true;rw[ba];unfold ae at hl ⊢;rw[aep,afv];omega
    . rcases afw.1 hx with hx | hx
      . have:=aeG.1 ha x hx;unfold jA aG at this;by_cases h1:(x.toNat:Int)<48 <;> by_cases h2:(57:Int)<x.toNat <;> by_cases h3:(x.toNat:Int)<97 <;> by_cases h4:(122:Int)<x.toNat <;> simp[h1,h2,h3,h4]at this <;> omega
      . rw[agQ hx]; decide
   have e:BM 38 s=s++List.replicate ((6:Int)-ae s).toNat 32:=by show cond (cV 38 (s++List.replicate ((6:Int)-ae s).toNat 32)) (s++List.replicate ((6:Int)-ae s).toNat 32) []=_;rw[hp];try rfl
   rw[e]; exact hp
theorem DI{c:Int}(h:0<=c/\c<=10):c=0∨c=1∨c=2∨c=3∨c=4∨c=5∨c=6∨c=7∨c=8∨c=9∨c=10:=by omega
theorem S3{c:Int}(h:0<=c/\c<=10):cV 39 (vh c)=true/\bk (vh c) []=false:=by rcases DI h with rfl | rfl | rfl | rfl | rfl | rfl | rfl | rfl | rfl | rfl | rfl <;> decide
theorem Oq{m:bd}{code:Int}{hold told:S8}(hm:eR m=true)(hc:0<=code/\code<=10)(hh:code=0->bk hold []=false->bf hold=true)(ht:wj told):((gX m code hold told).all fun f=>cV f.1 f.2.1)=true:=by
 refine aeG.2 fun f hf => ?_
 obtain⟨no,hno,hf⟩:=List.mem_filterMap.1 hf;unfold ln at hf;cases hr:yM m code hold told no with
 | none=>rw[hr]at hf; cases hf
 | some s =>
   rw[hr]at hf;cases hf;show cV no s=true;unfold yM at hr;cases h38:aj no 38 with
   | true =>
     rw[h38]at hr;have e:=ba.1 h38;subst e;cases hz:aj code 0 with
     | false=>rw[hz]at hr; cases hr
     | true =>
       cases hy:bk hold []with
       | true=>rw[hz,hy]at hr; cases hr
       | false => rw[hz,hy]at hr;cases hr;exact YA (hh (ba.1 hz) hy)
   | false =>
   cases h39:aj no 39 with
   | true => rw[h38,h39]at hr;cases hr;rw[ba.1 h39];exact(S3 hc).1
   | false =>
   cases h54:aj no 54 with
   | true =>
     rw[h38,h39,h54]at hr;cases hy:bk told []with
     | true=>rw[hy]at hr; cases hr
     | false =>
       rw[hy]at hr;cases hr;rw[ba.1 h54];rcases ht with rfl | ⟨t1,t2,t3⟩
       . cases hy
       . show cond (cP told) (cE (ae told) 1 60) false=true;rw[t1];exact bl.2 (by unfold ae; omega)
   | false => rw[h38,h39,h54]at hr;exact T6 hm hr
theorem pH(g:Int->Option dz)(hg:∀ no f,g no=some f->f.1=no):∀ l:List Int,((l.filterMap g).map fun f=>sd f.1).sum<=(l.map sd).sum
 | []=>oR _
 | no::l=>by
   have ih:=pH g hg l;rw[aff,ahc];cases h:g no with
   | none=>rw[agR h]; omega
   | some f=>rw[agS h,aff,ahc,hg no f h]; omega
theorem DJ:(vk.map sd).sum=162:=by decide
theorem zv{s:S8}(h:bk (cN s) []=false):cond (aF (cN s)) (aj (ae (cN s)) 4) false=true:=by
 unfold cN at h ⊢
 match s with
 | [a,b,c,d] =>
   dsimp only at h ⊢;cases hd:aF [a,b,c,d]with
   | false=>rw[hd]at h; cases h
   | true =>
     rw[hd]at h;cases hp:aj ((c.toNat % 2:Nat):Int) 1 with
     | true=>rw[hp]at h; cases h
     | false =>
       have hx:=fm hd;have hc:=cl.1 (hx c (by simp));have hpar:c.toNat % 2≠1:=fun e=>by rw[e]at hp; cases hp
       have hn:er (UInt8.ofNat (c.toNat+1))=true:=cl.2 (by rw[agB]; omega);show cond (aF [a,b,UInt8.ofNat (c.toNat+1),d]) (aj (ae [a,b,UInt8.ofNat (c.toNat+1),d]) 4) false=true;have:aF [a,b,UInt8.ofNat (c.toNat+1),d]=true:=by
        unfold aF;rw[show [a,b,UInt8.ofNat (c.toNat+1),d].all er=true from aeG.2 fun x h=>by
         simp only[aew,List.not_mem_nil,or_false]at h;rcases h with rfl | rfl | rfl | rfl
         . exact hx _ (by simp)
         . exact hx _ (by simp)
         . exact hn
         . exact hx _ (by simp)]
        rfl
       rw[this];try rfl
 | []=>cases h
 | [_]=>cases h
 | [_,_]=>cases h
 | [_,_,_]=>cases h
 | _::_::_::_::_::_=>cases h
theorem JK{m:bd}{code:Int}{hold told:S8}(hm:eR m=true)(hr:bk (cN m.1) []=false)(hc:0<=code/\code<=10)(hh:code=0->bk hold []=false->bf hold=true)(ht:wj told) :
 (im m code hold told).1=(cN m.1,gX m code hold told,())/\1<=(ll (im m code hold told).1).length/\(ll (im m code hold told).1).length<=200:=by
 have hok:=Oq (told:=told) hm hc hh ht;have e:(im m code hold told).1=(cN m.1,gX m code hold told,()):=by unfold im;rw[hm,hr,(S3 hc).2,hok];try rfl
 have hmsg:eR (cN m.1,gX m code hold told,())=true:=by rw[Cs (rn m code hold told) (zv hr)]; exact hok
 have h1:=G9 hmsg;have h2:((gX m code hold told).map fun f=>sd f.1).sum<=162:=by
  have:=pH (ln m code hold told) (fun no f h=>by
   unfold ln at h;cases hr:yM m code hold told no with
   | none=>rw[hr]at h; cases h
   | some s=>rw[hr]at h; cases h; rfl) vk
  rw[DJ]at this;exact this
 have h3:(ll (cN m.1,gX m code hold told,())).length<=18+((gX m code hold told).map fun f=>sd f.1).sum:=h1.2;rw[e];exact⟨rfl,by omega,by omega⟩
def sF(t m:S8)(y:cG):Bool:=cond (bk y.1 t) (bk y.2.1 m) false
def ia(l:List cG)(t m:S8):Option aD:=(l.find? (sF t m)).map fun y=>y.2.2.1
theorem IK{l:List cG}{s:cG}(h:dS l=true)(hs:j6 s=true)(hn:ia l s.1 s.2.1=none)(hl:aj (ae l) 6=false):dS (l++[s])=true:=by
 unfold dS at h ⊢;cases ha:allI (cR l) 0 l with
 | false=>rw[ha]at h; cases h
 | true =>
   rw[ha]at h;have h6:ae l<=6:=afD h;have hne:ae l≠6:=fun e=>by rw[ba.2 e]at hl; cases hl
   have hno:∀ y∈l,sF s.1 s.2.1 y=false:=by unfold ia at hn;rw[Option.map_eq_none_iff]at hn;intro y hy;have:=List.find?_eq_none.1 hn y hy;simpa using this
   have hall:allI (cR (l++[s])) 0 (l++[s])=true:=by
    refine BP _ _ 0 fun i x hx => ?_
    rw[aex];unfold cR;by_cases hi:i<l.length
    . rw[ae4 hi]at hx;have:=gq (cR l) ha hx;rw[aex]at this;unfold cR at this;rw[agi (by omega)];exact this
    . have hi2:i=l.length:=by
       have:=ai hx;rw[aep,age]at this;omega
      subst hi2;rw[ae3 (oR _),af7]at hx;cases hx;rw[hs,agi (oR _),agK];show(l.all fun y=> !hE y s)=true;refine aeG.2 fun y hy => ?_
      have:=hno y hy;unfold sF at this;unfold hE;rw[this];try rfl
   rw[hall];show bM (ae (l++[s])) 6=true;refine aes ?_;unfold ae at h6 hne ⊢;rw[aep,age];omega
def aae(a:ar)(l:List cG):ar:=(a.1,a.2.1,a.2.2.1,a.2.2.2.1,a.2.2.2.2.1,a.2.2.2.2.2.1,a.2.2.2.2.2.2.1,a.2.2.2.2.2.2.2.1,a.2.2.2.2.2.2.2.2.1,a.2.2.2.2.2.2.2.2.2.1,l,())
def ru(m:bd)(c:Int)(h t:S8):aD:=ll (im m c h t).1
def ck(b:List ar)(q:fg)(now:Int):List ar:=cond (aj (dn b q now).2.1 0) (dn b q now).1 b
def ib(b:List ar)(m:bd)(q:fg)(now:Int):cG:=(q.2.2.2.2.1,q.2.2.2.2.2.1,ru m (dn b q now).2.1 q.2.2.2.1 (dn b q now).2.2,())
def tX(b:List ar)(m:bd)(q:fg)(now:Int):List ar×aD :=
 (dw (ck b q now) (ax b q.2.1) (aae (gt aP (ck b q now) (ax b q.2.1)) (slotsOf (gt aP (ck b q now) (ax b q.2.1))++[ib b m q now])),ru m (dn b q now).2.1 q.2.2.2.1 (dn b q now).2.2)
def rZ(b:List ar)(m:bd)(q:fg)(now:Int):List ar×aD :=
 cond (aG (ax b q.2.1) 0) (b,ru m 3 [] [])
  (match ia (slotsOf (gt aP b (ax b q.2.1))) q.2.2.2.2.1 q.2.2.2.2.2.1 with
  | some o=>(b,o)
  | none=>cond (aj (ae (slotsOf (gt aP b (ax b q.2.1)))) 6) (b,ru m 10 [] []) (tX b m q now))
def vC(b:List ar)(m:bd)(now:Int):List ar×aD:=cond (aj (fH m).2 0) (rZ b m (fH m).1 now) (b,ru m (fH m).2 [] [])
def gA(b:List ar)(x:aD)(now:Int):List ar×aD :=
 cond (cond (je b) (a7 now) false)
  (match gP x 0 4 with
  | none=>(b,[])
  | some t=>cond (bk (cN t) []) (b,[]) (cond (aj (dY x).2 0) (vC b (dY x).1 now) (b,ll (jV t 1).1)))
  (b,[])
theorem MX{q:fg}(h:jY q=true):cond (aF q.2.2.2.2.2.1) (aj (ae q.2.2.2.2.2.1) 4) false=true/\cond (aF q.2.2.2.2.1) (aj (ae q.2.2.2.2.1) 6) false=true/\(bk q.2.2.2.1 []=false->bf q.2.2.2.1=true):=by
 unfold jY at h;simp only[aeo]at h;obtain⟨⟨⟨⟨⟨⟨⟨⟨h1,h2⟩,h3⟩,h4⟩,h5⟩,h6⟩,h7⟩,h8⟩,h9⟩:=h;refine⟨?_,by rw[h4]; exact h5,fun hh => ?_⟩
 . rw[Ge.1 h2];rcases nE h1 with e | e | e | e | e | e | e | e <;> rw[e] <;> decide
 . cases hc:aG q.1 7 with
   | true=>rw[hc]at h6; exact h6
   | false => rw[hc]at h6;have h6:bk q.2.2.2.1 []=true:=h6;rw[h6]at hh; cases hh
theorem uJ{a:ar}(h:bh a=true):dS (slotsOf a)=true:=by unfold bh at h;simp only[agF,aeo]at h;obtain⟨_,_,_,_,_,_,_,h,_⟩:=h;exact h
theorem vR{b:List ar}(h:je b=true){i:Nat}{a:ar}(ha:b[i]? = some a):bh a=true:=by
 unfold je at h;cases hs:allI (gR b) 0 b with
 | false=>rw[hs]at h; cases h
 | true =>
   have:=gq (gR b) hs ha;unfold gR at this;cases hm:bh a with
   | true=>rfl
   | false=>rw[hm]at this; cases this
theorem yw(b:List ar)(q:fg)(now:Int):(ck b q now).map jZ=b.map jZ:=by
 unfold ck;cases hz:aj (dn b q now).2.1 0 with
 | false=>rfl
 | true=>exact(NB b q now).2 (ba.1 hz)
theorem Rm{b c:List ar}(h:c.map jZ=b.map jZ){i:Nat}{a:ar}(ha:b[i]? = some a):∃ y,c[i]? = some y/\jZ y=jZ a:=by have:=aeU (·[i]?) h;simp only[ae2,ha,aeM,afS]at this;exact this
theorem xw{b:List ar}{m:bd}{q:fg}{now:Int}(hb:je b=true)(hk:aG (ax b q.2.1) 0=false)(hn:ia (slotsOf (gt aP b (ax b q.2.1))) q.2.2.2.2.1 q.2.2.2.2.2.1=none)
 (h6:aj (ae (slotsOf (gt aP b (ax b q.2.1)))) 6=false)(hm:eR m=true)(hr:bk (cN m.1) []=false)(hq:jY q=true) :
 dS (slotsOf (gt aP (ck b q now) (ax b q.2.1))++[ib b m q now])=true/\∃(i:Nat) (y:ar),ax b q.2.1=(i:Int)/\(ck b q now)[i]? = some y:=by
 obtain⟨i,a,e,ha⟩:=dQ (of_decide_eq_false hk);have hg:gt aP b (ax b q.2.1)=a:=by rw[e]; exact aH _ ha
 obtain⟨y,hy,hkey⟩:=Rm (yw b q now) ha;have hg2:gt aP (ck b q now) (ax b q.2.1)=y:=by rw[e]; exact aH _ hy
 have hs:slotsOf y=slotsOf a:=aeU Prod.snd hkey;obtain⟨q1,q2,q3⟩:=MX hq;have hl:=JK (told:=(dn b q now).2.2) hm hr (NB b q now).1 (fun _ hh=>q3 hh) (uc b q now);rw[hg]at hn h6;refine⟨?_,i,y,e,hy⟩;rw[hg2,hs];refine IK (uJ (vR hb ha)) ?_ hn h6;unfold j6;show cond (cond (aF q.2.2.2.2.1) (aj (ae q.2.2.2.2.1) 6) false) (cond (cond (aF q.2.2.2.2.2.1) (aj (ae q.2.2.2.2.2.1) 4) false) (cE (ae (ru m (dn b q now).2.1 q.2.2.2.1 (dn b q now).2.2)) 1 200) false) false=true;rw[q1,q2];exact bl.2 (by unfold ru ae; omega)
theorem ya{m:bd}(h:aj (fH m).2 0=true):eR m=true/\jY (fH m).1=true:=by
 have h:=ba.1 h;unfold fH at h ⊢;cases hm:eR m with
 | false=>rw[hm]at h; cases h
 | true =>
 rw[hm]at h;cases hk:xz m.1 with
 | false=>rw[hk]at h; cases h
 | true =>
 rw[hk]at h;dsimp only[oT]at h ⊢;cases hf:ie m 3 with
 | none=>rw[hf]at h; cases h
 | some c =>
 rw[hf]at h;dsimp only at h ⊢;unfold Fe at h ⊢;cases hq:JG m (eL m.1 c)with
 | false=>rw[hq]at h; cases h
 | true =>
 rw[hq]at h;cases hr:jY (jF m (eL m.1 c))with
 | false=>rw[hr]at h; cases h
 | true=>exact⟨rfl,hr⟩
theorem sP{x:aD}{t:S8}(h:gP x 0 4=some t)(h0:aj (dY x).2 0=true):(dY x).1.1=t:=by
 have h0:=ba.1 h0;unfold dY at h0 ⊢;rw[h]at h0 ⊢;dsimp only at h0 ⊢;cases hn:zd x with
 | none=>rw[hn]at h0; cases h0
 | some p =>
 obtain⟨nos,a⟩:=p;rw[hn]at h0;dsimp only at h0 ⊢;cases hf:kJ x nos a []with
 | none=>rw[hf]at h0; cases h0
 | some p =>
 obtain⟨l,e⟩:=p;rw[hf]at h0;dsimp only at h0 ⊢;by_cases he:e=x.length
 . rw[if_pos he]
 . rw[if_neg he]at h0; cases h0
theorem L6(m:bd):(ll m).length<=18+(m.2.1.map fun f=>sd f.1).sum:=by
 cases h:eR m with
 | true=>exact(G9 h).2
 | false=>unfold ll; rw[h]; exact aeC _
theorem Qo{m:bd}{c:Int}{h t:S8}{no:Int}{f:dz}(hf:ln m c h t no=some f):f.1=no:=by
 unfold ln at hf;cases hr:yM m c h t no with
 | none=>rw[hr]at hf; cases hf
 | some s=>rw[hr]at hf; cases hf; rfl
theorem Qm(m:bd)(c:Int)(h t:S8):(ru m c h t).length<=180:=by
 have hs:=pH (ln m c h t) (fun no f hf=>Qo hf) vk;rw[DJ]at hs;have h0:(ll (([],[],()):bd)).length<=180:=by rw[show ll (([],[],()):bd)=[]from rfl]; exact aeC _
 unfold ru im;cases cond (eR m) (cond (bk (cN m.1) []) false (!bk (vh c) [])) false with
 | false=>exact h0
 | true =>
   cases(gX m c h t).all fun f=>cV f.1 f.2.1 with
   | false=>exact h0
   | true => refine aeA (L6 _) ?_;show 18+((gX m c h t).map fun f=>sd f.1).sum<=180;exact Nat.add_le_add_left hs 18
theorem Qp(t:S8)(c:Int):(ll (jV t c).1).length<=20:=by
 unfold jV;cases eR (cN t,[(39,vh c,())],())with
 | false=>show(ll (([],[],()):bd)).length<=20; rw[show ll (([],[],()):bd)=[]from rfl]; exact aeC _
 | true=>exact aeA (L6 _) (by show 18+(sd 39+0)<=20; decide)
theorem DS{xs:List ar}(hb:dF xs)(k:Int):bA (gt aP xs k):=by
 unfold gt;rw[afn];cases h:xs[k.toNat]? with
 | none=>exact eJ
 | some y=>exact hb.2 y (aet h)
theorem G3{xs:List ar}(hb:dF xs)(k:Int){y:ar}(hy:bA y):dF (dw xs k y):=by
 unfold dw;refine⟨by rw[afB]; exact hb.1,fun a ha => ?_⟩;rcases agw ha with ha | ha
 . exact hb.2 a ha
 . rw[ha]; exact hy
theorem qR:dF []:=⟨aeC _,fun a ha=>by simp at ha⟩
theorem U0{b:List ar}(q:fg)(now:Int)(hb:dF b):dF (dn b q now).1:=by
 unfold dn;cases je b <;> first | exact qR | skip
 cases jY q <;> first | exact qR | skip
 cases a7 now <;> first | exact qR | skip
 dsimp only[oT];cases aj q.1 6 with
 | false =>
   dsimp only[oF];cases aG (ax b q.2.1) 0 <;> first | exact qR | skip
   dsimp only[oF];cases aj (ma (gt aP b (ax b q.2.1)) (gt aP b (ax b q.2.1)) q now).2.2.1 0 <;> first | exact qR | skip
   exact G3 hb _ (Ra q now (DS hb _) (DS hb _)).1
 | true =>
   dsimp only[oT];cases cond (aG (ax b q.2.1) 0) true (aG (ax b q.2.2.1) 0) <;> first | exact qR | skip
   dsimp only[oF];cases aj (ma (gt aP b (ax b q.2.1)) (gt aP b (ax b q.2.2.1)) q now).2.2.1 0 <;> first | exact qR | skip
   have:=Ra q now (DS hb (ax b q.2.1)) (DS hb (ax b q.2.2.1));exact G3 (G3 hb _ this.2) _ this.1
theorem NV{b:List ar}(q:fg)(now:Int)(hb:dF b):dF (ck b q now):=by
 unfold ck;cases aj (dn b q now).2.1 0 with
 | false=>exact hb
 | true=>exact U0 q now hb
theorem Oa{b:List ar}{m:bd}{q:fg}{now:Int}(hb:dF b)(hs:dS (slotsOf (gt aP (ck b q now) (ax b q.2.1))++[ib b m q now])=true):dF (tX b m q now).1:=by
 have hd:=NV q now hb;have hy:=DS hd (ax b q.2.1);refine G3 hd _ ⟨hy.1,hy.2.1,hy.2.2.1,?_,fun z hz => ?_⟩
 . show(slotsOf (gt aP (ck b q now) (ax b q.2.1))++[ib b m q now]).length<=1048576;unfold dS at hs;cases ha:allI (cR (slotsOf (gt aP (ck b q now) (ax b q.2.1))++[ib b m q now])) 0 (slotsOf (gt aP (ck b q now) (ax b q.2.1))++[ib b m q now])with
   | false=>rw[ha]at hs; cases hs
   | true => rw[ha]at hs;have:ae (slotsOf (gt aP (ck b q now) (ax b q.2.1))++[ib b m q now])<=6:=afD hs;unfold ae at this;omega
 . have hz:z∈slotsOf (gt aP (ck b q now) (ax b q.2.1))++[ib b m q now]:=hz;have hm:j6 z=true:=by
    unfold dS at hs;cases ha:allI (cR (slotsOf (gt aP (ck b q now) (ax b q.2.1))++[ib b m q now])) 0 (slotsOf (gt aP (ck b q now) (ax b q.2.1))++[ib b m q now])with
    | false=>rw[ha]at hs; cases hs
    | true =>
      obtain⟨i,hi⟩:=agr.1 hz;have:=gq _ ha hi;unfold cR at this;cases hk:j6 z with
      | true=>rfl
      | false=>rw[hk]at this; cases this
   unfold j6 at hm;simp only[agF,aeo]at hm;obtain⟨⟨_,h1⟩,⟨_,h2⟩,h3⟩:=hm;have h1:=ba.1 h1;have h2:=ba.1 h2;have h3:=bl.1 h3;unfold ae at h1 h2 h3;omega
theorem abX:∀ a b:Fin 10,dE .u8 (aW .i64 (aw .i64 (vi .i64 (aW .i64 (dE .i64 ((a.val+48:Nat):Int)) 48) 16) (dE .i64 ((b.val+48:Nat):Int))) 48)=((a.val * 16+b.val:Nat):Int):=by decide +kernel
theorem adf:∀ a b:Fin 10,Oy .u8 (Pb .u8 (aW .u8 ((a.val+48:Nat):Int) 48) 4) (aW .u8 ((b.val+48:Nat):Int) 48)=((a.val * 16+b.val:Nat):Int):=by decide +kernel
theorem abD{x y:UInt8}(hx:er x=true)(hy:er y=true):dE .u8 (aW .i64 (aw .i64 (vi .i64 (aW .i64 (dE .i64 (x.toNat:Int)) 48) 16) (dE .i64 (y.toNat:Int))) 48)=(((x.toNat-48) * 16+(y.toNat-48):Nat):Int):=by have h1:=cl.1 hx;have h2:=cl.1 hy;have:=abX ⟨x.toNat-48,by omega⟩ ⟨y.toNat-48,by omega⟩;dsimp only at this;rw[show x.toNat-48+48=x.toNat by omega,show y.toNat-48+48=y.toNat by omega]at this;exact this
theorem abK{x y:UInt8}(hx:er x=true)(hy:er y=true):Oy .u8 (Pb .u8 (aW .u8 (x.toNat:Int) 48) 4) (aW .u8 (y.toNat:Int) 48)=(((x.toNat-48) * 16+(y.toNat-48):Nat):Int):=by have h1:=cl.1 hx;have h2:=cl.1 hy;have:=adf ⟨x.toNat-48,by omega⟩ ⟨y.toNat-48,by omega⟩;dsimp only at this;rw[show x.toNat-48+48=x.toNat by omega,show y.toNat-48+48=y.toNat by omega]at this;exact this
def pD(s:S8)(k:Nat):Int×Unit:=((((s.getD (2 * k) 0).toNat-48) * 16+((s.getD (2 * k+1) 0).toNat-48):Nat),())
theorem tg:∀(n:Nat) (s:S8),s.length=2 * n->kD s=(List.range n).map (pD s)
 | 0,[],_=>rfl
 | 0,_::_,h=>by simp at h
 | n+1,x::y::r,h=>by rw[kD,tg n r (by simp only[aeF]at h; omega),List.range_succ_eq_map,aff,List.map_map];refine congr (aeU List.cons rfl) (List.map_congr_left fun k _ => ?_);show pD r k=pD (x::y::r) (k+1);unfold pD;rw[show 2 * (k+1)=2 * k+1+1 by omega];try rfl
 | n+1,[],h=>by simp at h
 | n+1,[x],h=>by simp at h; omega
def zg(s:S8):Bool:=cond (aF s) (bM (ae s) 38) false
theorem lq{a b:aD}(h:a.length+b.length<=bG):a6 1 a b=true:=aey (by show(a.length+b.length) * 1<=bG; omega)
theorem GA{n i x:Nat}(h:(List.range n)[i]? = some x):x=i/\i<n:=by have:=ai h;rw[ahf]at this;rw[List.getElem?_range this]at h;exact⟨(ae9 h).symm,this⟩
theorem BQ{α β Y:Type}(F:α->β)(z:List β->Y):∀(xs:List α) (i:Nat) (d:List β),ko (fun _ x (a:List β)=>Sum.inl (a++[F x])) z i xs d=z (d++xs.map F)
 | [],i,d=>by simp[ko]
 | x::r,i,d=>by simp only[ko]; rw[BQ F z r]; simp
theorem Sw(s:S8)(n:Nat)(hn:s.length=2 * n)(hb:n<=1048576)(hd:s.all er=true):KQ s [] 0=some (.inl (s,kD s,((2 * n:Nat):Int),())):=by
 have hbig:=bb;have h:=aY (step:=iT yl) (List.range n) (fun i (o:aD)=>(s,o,((2 * i:Nat):Int),())) (fun _ k o=>Sum.inl (o++[pD s k])) (fun o=> .inl (s,o,((2 * n:Nat):Int),())) (fun i o=>o.length<=i) (a0:=[]) (oR _) (fun i k o hk ho=>by
  obtain⟨rfl,hi⟩:=GA hk;obtain⟨x,hx⟩:∃ x,s[2 * k]? = some x:=⟨_,aeq (by omega)⟩;obtain⟨y,hy⟩:∃ y,s[2 * k+1]? = some y:=⟨_,aeq (by omega)⟩;have dx:=aeG.1 hd x (aet hx);have dy:=aeG.1 hd y (aet hy);have pv:pD s k=((((x.toNat-48) * 16+(y.toNat-48):Nat):Int),()):=by unfold pD;rw[afn,afn,hx,hy];try rfl
  have hf:∀ v:Int×Unit,a6 1 o [v]=true:=fun v=>lq (by show o.length+1<=bG; omega)
  show yl s o ((2 * k:Nat):Int)=_;unfold yl;dsimp only;rw[aI hx,az hx,aS (by omega),az hy,eX hx,eX hy,abD dx dy,hf,pv];rw[show aw .i64 ((2 * k:Nat):Int) 2=((2 * (k+1):Nat):Int)by rw[cw (by omega) (by omega)]; omega];try rfl) (fun i k o o' hk ho hf=>by
  simp only[aeO]at hf;rw[<- hf,aep];show o.length+1<=_;omega) (fun o ho=>by
  show yl s o ((2 * (List.range n).length:Nat):Int)=_;unfold yl;rw[ahf,aA hn];try rfl)
 rw[BQ,<- tg n s hn]at h;exact h
theorem AO(s:S8)(hs:s.length<=1048576):OG s=some ((),((cQ s,()),(zg s,()),())):=by
 have hbig:=bb;unfold OG cQ zg;rw[fe s (by omega)];dsimp only[oB];cases hd:aF s with
 | false=>rfl
 | true =>
   have hp:aj (eF (ae s) 2) 1=decide (s.length % 2=1):=HA s.length;have ha:=(cW.1 hd).1;rw[hp];by_cases h38:s.length<=38
   . rw[show aG 38 (ae s)=false from aJ (by show ¬ (38:Int)<(s.length:Int); omega),show bM (ae s) 38=true from aes (by show(s.length:Int)<=38; omega)];by_cases hpar:s.length % 2=1
     . have he:uR s=48::s:=if_pos hpar;have hl:=Sw (48::s) ((s.length+1) / 2) (by simp only[aeF]; omega) (by omega) (by rw[afe,ha];try rfl);rw[aes hpar,he,show jv [48] s=true from nG (by show 1+s.length<=bG; omega)];exact bn hl
     . have he:uR s=s:=if_neg hpar;have hl:=Sw s (s.length / 2) (by omega) (by omega) ha;rw[aeL hpar,he];exact bn hl
   . rw[show aG 38 (ae s)=true from aO (by show(38:Int)<(s.length:Int); omega),show bM (ae s) 38=false from aeL (by show ¬ (s.length:Int)<=38; omega)];try rfl
theorem TM(s:S8)(n:Nat)(hn:s.length=2 * n)(hb:n<=1048576)(hd:s.all er=true):EV s [] 0=some (.inl (s,kD s,((2 * n:Nat):Int),())):=by
 have hbig:=bb;have h:=aY (step:=iT rb) (List.range n) (fun i (o:aD)=>(s,o,((2 * i:Nat):Int),())) (fun _ k o=>Sum.inl (o++[pD s k])) (fun o=> .inl (s,o,((2 * n:Nat):Int),())) (fun i o=>o.length<=i) (a0:=[]) (oR _) (fun i k o hk ho=>by
  obtain⟨rfl,hi⟩:=GA hk;obtain⟨x,hx⟩:∃ x,s[2 * k]? = some x:=⟨_,aeq (by omega)⟩;obtain⟨y,hy⟩:∃ y,s[2 * k+1]? = some y:=⟨_,aeq (by omega)⟩;have dx:=aeG.1 hd x (aet hx);have dy:=aeG.1 hd y (aet hy);have pv:pD s k=((((x.toNat-48) * 16+(y.toNat-48):Nat):Int),()):=by unfold pD;rw[afn,afn,hx,hy];try rfl
  have hf:∀ v:Int×Unit,a6 1 o [v]=true:=fun v=>lq (by show o.length+1<=bG; omega)
  show rb s o ((2 * k:Nat):Int)=_;unfold rb;dsimp only;rw[aI hx,az hx,aS (by omega),az hy,eX hx,eX hy,abK dx dy,hf,pv];rw[show aw .i64 ((2 * k:Nat):Int) 2=((2 * (k+1):Nat):Int)by rw[cw (by omega) (by omega)]; omega];try rfl) (fun i k o o' hk ho hf=>by
  simp only[aeO]at hf;rw[<- hf,aep];show o.length+1<=_;omega) (fun o ho=>by
  show rb s o ((2 * (List.range n).length:Nat):Int)=_;unfold rb;rw[ahf,aA hn];try rfl)
 rw[BQ,<- tg n s hn]at h;exact h
theorem Br(s:S8)(hs:s.length<=1048576):Ay s=some ((),((cQ s,()),(zg s,()),())):=by
 have hbig:=bb;unfold Ay cQ zg;rw[gS s (by omega)];dsimp only[oB];cases hd:aF s with
 | false=>rfl
 | true =>
   have hp:aj (eF (ae s) 2) 1=decide (s.length % 2=1):=HA s.length;have ha:=(cW.1 hd).1;rw[hp];by_cases h38:s.length<=38
   . rw[show aG 38 (ae s)=false from aJ (by show ¬ (38:Int)<(s.length:Int); omega),show bM (ae s) 38=true from aes (by show(s.length:Int)<=38; omega)];by_cases hpar:s.length % 2=1
     . have he:uR s=48::s:=if_pos hpar;have hl:=TM (48::s) ((s.length+1) / 2) (by simp only[aeF]; omega) (by omega) (by rw[afe,ha];try rfl);rw[aes hpar,he,show jv [48] s=true from nG (by show 1+s.length<=bG; omega)];exact bn hl
     . have he:uR s=s:=if_neg hpar;have hl:=TM s (s.length / 2) (by omega) (by omega) ha;rw[aeL hpar,he];exact bn hl
   . rw[show aG 38 (ae s)=true from aO (by show(38:Int)<(s.length:Int); omega),show bM (ae s) 38=false from aeL (by show ¬ (s.length:Int)<=38; omega)];try rfl
theorem VW:∀(c:Fin 256) (r:Fin 8),Oy .u8 (c.val:Int) (pg .u8 128 (r.val:Int))=((c.val ||| 128 >>> r.val:Nat):Int)/\c.val ||| 128 >>> r.val<256:=by decide +kernel
def O8(o:aD):Prop:=o.length=8/\∀ x∈o,0<=x.1/\x.1<=255
theorem A2:O8 (List.replicate 8 (0,())):=⟨afv,fun x hx=>by rw[agQ hx]; decide⟩
theorem kL{o:aD}(h:O8 o){k:Nat}(hk:k<64):O8 (kz o k)/\kz o k=dw o ((k / 8:Nat):Int) (Oy .u8 (gt d5 o ((k / 8:Nat):Int)).1 (pg .u8 128 ((k % 8:Nat):Int)),()):=by
 obtain⟨x,hx⟩:∃ x,o[k / 8]? = some x:=⟨_,aeq (by rw[h.1]; omega)⟩;have hb:=h.2 x (aet hx);have e:=VW ⟨x.1.toNat,by omega⟩ ⟨k % 8,by omega⟩;dsimp only at e;have hd:o.getD (k / 8) (0,())=x:=by rw[afn,hx];try rfl
 have hg:gt d5 o ((k / 8:Nat):Int)=x:=aH _ hx;have hi:((x.1.toNat:Nat):Int)=x.1:=by omega
 rw[hi]at e;refine⟨⟨by unfold kz; rw[afB]; exact h.1,fun y hy => ?_⟩,?_⟩
 . unfold kz at hy;rcases agw hy with hy | hy
   . exact h.2 y hy
   . rw[hy,hd];show(0:Int)<=((x.1.toNat ||| 128 >>> (k % 8):Nat):Int)/\((x.1.toNat ||| 128 >>> (k % 8):Nat):Int)<=255;have:=e.2;omega
 . rw[hg,e.1];unfold kz;rw[hd];try rfl
theorem AK(l:List fJ)(hl:l.length<=2097152):P8 l=zR (dJ l):=by
 have hbig:=bb;unfold P8;have h:=aY (step:=da wv) l (fun i (o:aD)=>(o,l,ae l,((i:Nat):Int),())) (fun _ k o=>Sum.inl (cond (cE k.1 1 64) (kz o (k.1.toNat-1)) o)) (fun o=> .inl (o,l,ae l,ae l,())) (fun _ o=>O8 o) (a0:=List.replicate 8 (0,())) A2 (fun i k o hk ho=>by
  have hlt:=ai hk;show wv o l (ae l) (i:Int)=_;unfold wv;rw[aI hk,az hk,aH _ hk,mo];dsimp only[oB,oT];rw[aS (by omega)];cases hm:cE k.1 1 64 with
  | false=>rfl
  | true =>
    have hr:=bl.1 hm;obtain⟨j,hj,hj64⟩:∃ j:Nat,k.1=((j+1:Nat):Int)/\j<64:=⟨k.1.toNat-1,by omega,by omega⟩;obtain⟨e1,e2,e3,_⟩:=Qu hj64;have hb:=(kL ho hj64).2;dsimp only[oT];rw[hj,e1,e2,e3,fK (by rw[ho.1]; omega),show bM 0 ((j % 8:Nat):Int)=true from aes (by omega)];show(some (.inl (dw o ((j / 8:Nat):Int) (Oy .u8 (gt d5 o ((j / 8:Nat):Int)).1 (pg .u8 128 ((j % 8:Nat):Int)),()),l,ae l,((i+1:Nat):Int),())):Option (Sum (aD×List fJ×Int×Int×Unit) (Sum (aD×List fJ×Int×Int×Unit) Unit)))=some (.inl (kz o j,l,ae l,((i+1:Nat):Int),()));rw[<- hb]) (fun i k o o' hk ho hf=>by
  simp only[aeO]at hf;rw[<- hf];cases hm:cE k.1 1 64 with
  | false=>exact ho
  | true =>
    have hr:=bl.1 hm;exact(kL ho (k:=k.1.toNat-1) (by omega)).1) (fun o ho=>by
  show wv o l (ae l) (l.length:Int)=_;unfold wv;rw[aA rfl];try rfl)
 rw[bH]at h;exact bn h
theorem A3(l:List fJ)(hl:l.length<=2097152):CQ l=zR (dJ l):=by
 have hbig:=bb;unfold CQ;have h:=aY (step:=da qX) l (fun i (o:aD)=>(o,l,ae l,((i:Nat):Int),())) (fun _ k o=>Sum.inl (cond (cE k.1 1 64) (kz o (k.1.toNat-1)) o)) (fun o=> .inl (o,l,ae l,ae l,())) (fun _ o=>O8 o) (a0:=List.replicate 8 (0,())) A2 (fun i k o hk ho=>by
  have hlt:=ai hk;show qX o l (ae l) (i:Int)=_;unfold qX;rw[aI hk,az hk,aH _ hk,jS];dsimp only[oB,oT];rw[aS (by omega)];cases hm:cE k.1 1 64 with
  | false=>rfl
  | true =>
    have hr:=bl.1 hm;obtain⟨j,hj,hj64⟩:∃ j:Nat,k.1=((j+1:Nat):Int)/\j<64:=⟨k.1.toNat-1,by omega,by omega⟩;obtain⟨e1,e2,e3,_⟩:=Qu hj64;have hb:=(kL ho hj64).2;dsimp only[oT];rw[hj,e1,e2,e3,fK (by rw[ho.1]; omega),show bM 0 ((j % 8:Nat):Int)=true from aes (by omega)];show(some (.inl (dw o ((j / 8:Nat):Int) (Oy .u8 (gt d5 o ((j / 8:Nat):Int)).1 (pg .u8 128 ((j % 8:Nat):Int)),()),l,ae l,((i+1:Nat):Int),())):Option (Sum (aD×List fJ×Int×Int×Unit) (Sum (aD×List fJ×Int×Int×Unit) Unit)))=some (.inl (kz o j,l,ae l,((i+1:Nat):Int),()));rw[<- hb]) (fun i k o o' hk ho hf=>by
  simp only[aeO]at hf;rw[<- hf];cases hm:cE k.1 1 64 with
  | false=>exact ho
  | true =>
    have hr:=bl.1 hm;exact(kL ho (k:=k.1.toNat-1) (by omega)).1) (fun o ho=>by
  show qX o l (ae l) (l.length:Int)=_;unfold qX;rw[aA rfl];try rfl)
 rw[bH]at h;exact bn h
theorem FD(n d:Int)(hd:d=2∨d=3):E3 n d=some ((),((cQ (dC n d),()),(zg (dC n d),()),())):=by have hw:=iD n d;unfold E3;rw[EO];dsimp only[oB];rw[AO _ (by omega)];rcases hd with rfl | rfl <;> rfl
theorem Fv(n d:Int)(hd:d=2∨d=3)(hn : -9223372036854775808<=n/\n<=9223372036854775807):CZ n d=some ((),((cQ (dC n d),()),(zg (dC n d),()),())):=by have hw:=iD n d;unfold CZ;rw[jS,Ex n d hn];dsimp only[oB];rw[Br _ (by omega)];rcases hd with rfl | rfl <;> rfl
theorem BF{s:S8}(h:s.length<=1048576) : -9223372036854775808<=ae s/\ae s<=9223372036854775807:=by unfold ae; omega
theorem Ur(no:Int)(s:S8)(hs:s.length<=1048576):g87 no s=some ((),((pQ no s,()),(cV no s,()),())):=by
 have hbig:=bb;have hb:=fC s;have ho:=AY s;have h2:=fC (dC (ae s) 2);have h3:=fC (dC (ae s) 3);have w2:=o6 (n:=ae s) (w:=2) (k:=2) rfl;have w3:=o6 (n:=ae s) (w:=3) (k:=3) rfl;unfold g87 pQ;rw[xU no s (by omega)];dsimp only[oB];cases hf:cV no s with
 | false=>rfl
 | true =>
   rw[tr];dsimp only[oB];obtain⟨n,hn,hk⟩:=kinds no;have f0:a6 1 [] (cQ s)=true:=lq (by show 0+_<=bG; omega);have f1:a6 1 [] (bytesOf s)=true:=lq (a:=[]) (b:=JX s) (by show 0+_<=bG; omega);have f2:a6 1 (cQ (dC (ae s) 2)) (cQ s)=true:=lq (by omega);have f3:a6 1 (cQ (dC (ae s) 2)) (bytesOf s)=true:=lq (b:=JX s) (by omega);have f4:a6 1 (cQ (dC (ae s) 3)) (bytesOf s)=true:=lq (b:=JX s) (by omega);unfold E2 Js;rcases hk with ⟨e,_⟩ | ⟨e,_⟩ | ⟨e,_⟩ | ⟨e,_⟩ | ⟨e,_⟩ | ⟨e,_⟩ <;> rw[e]
   . unfold cV at hf; rw[e]at hf; cases hf
   . show Option.bind (OG s) (fun y=>cond (a6 1 [] y.2.1.1) (some ((),(((eV [] y.2.1.1),()),(true,()),()))) none)=_;rw[AO s hs];dsimp only[oB];rw[f0];try rfl
   . show cond (a6 1 [] (bytesOf s)) (some ((),(((eV [] (bytesOf s)),()),(true,()),()))) none=_;rw[f1];try rfl
   . show Option.bind (E3 (ae s) 2) (fun y5=>Option.bind (OG s) (fun y=>cond (a6 1 y5.2.1.1 y.2.1.1) (some ((),(((eV y5.2.1.1 y.2.1.1),()),(true,()),()))) none))=_;rw[FD _ _ (.inl rfl),AO s hs];dsimp only[oB];rw[f2];try rfl
   . show Option.bind (E3 (ae s) 2) (fun y5=>cond (a6 1 y5.2.1.1 (bytesOf s)) (some ((),(((eV y5.2.1.1 (bytesOf s)),()),(true,()),()))) none)=_;rw[FD _ _ (.inl rfl)];dsimp only[oB];rw[f3];try rfl
   . show Option.bind (E3 (ae s) 3) (fun y5=>cond (a6 1 y5.2.1.1 (bytesOf s)) (some ((),(((eV y5.2.1.1 (bytesOf s)),()),(true,()),()))) none)=_;rw[FD _ _ (.inr rfl)];dsimp only[oB];rw[f4];try rfl
theorem U9(no:Int):CF no=zR (Js no):=by unfold CF Js;rw[qJ];dsimp only[oB];cases aj (bg no) 5 <;> rfl
theorem Vk(no:Int)(s:S8)(hs:s.length<=1048576):LZ no s=some ((),((pQ no s,()),(cV no s,()),())):=by
 have hbig:=bb;have hb:=fC s;have ho:=AY s;have h2:=fC (dC (ae s) 2);have h3:=fC (dC (ae s) 3);have w2:=o6 (n:=ae s) (w:=2) (k:=2) rfl;have w3:=o6 (n:=ae s) (w:=3) (k:=3) rfl;unfold LZ pQ;rw[B4 no s (by omega)];dsimp only[oB];cases hf:cV no s with
 | false=>rfl
 | true =>
   rw[qJ,U9];dsimp only[oB];obtain⟨n,hn,hk⟩:=kinds no;have f2:a6 1 (cQ (dC (ae s) 2)) (cQ s)=true:=lq (by omega);have f3:a6 1 (cQ (dC (ae s) 2)) (bytesOf s)=true:=lq (b:=JX s) (by omega);have f4:a6 1 (cQ (dC (ae s) 3)) (bytesOf s)=true:=lq (b:=JX s) (by omega);unfold E2 Js;rcases hk with ⟨e,_⟩ | ⟨e,_⟩ | ⟨e,_⟩ | ⟨e,_⟩ | ⟨e,_⟩ | ⟨e,_⟩ <;> rw[e]
   . unfold cV at hf; rw[e]at hf; cases hf
   . show Option.bind (Ay s) (fun y=>some ((),(y.2.1,(true,()),())))=_;rw[Br s hs];try rfl
   . rfl
   . show Option.bind (Ay s) (fun y=>Option.bind (CZ (ae s) 2) (fun y5=>cond (a6 1 y5.2.1.1 y.2.1.1) (some ((),(((eV y5.2.1.1 y.2.1.1),()),(true,()),()))) none))=_;rw[Fv _ _ (.inl rfl) (BF hs),Br s hs];dsimp only[oB];rw[f2];try rfl
   . show Option.bind (CZ (ae s) 2) (fun y5=>cond (a6 1 y5.2.1.1 (bytesOf s)) (some ((),(((eV y5.2.1.1 (bytesOf s)),()),(true,()),()))) none)=_;rw[Fv _ _ (.inl rfl) (BF hs)];dsimp only[oB];rw[f3];try rfl
   . show Option.bind (CZ (ae s) 3) (fun y5=>cond (a6 1 y5.2.1.1 (bytesOf s)) (some ((),(((eV y5.2.1.1 (bytesOf s)),()),(true,()),()))) none)=_;rw[Fv _ _ (.inr rfl) (BF hs)];dsimp only[oB];rw[f4];try rfl
theorem Vf(no:Int):sd no<=62:=by
 unfold sd;obtain⟨n,hn,hk⟩:=kinds no;rw[hn];rcases hk with ⟨e,h⟩ | ⟨e,h⟩ | ⟨e,h⟩ | ⟨e,h⟩ | ⟨e,h⟩ | ⟨e,h⟩ <;> rw[e]
 . exact oR 62
 . show((n:Int).toNat+1) / 2<=62; omega
 . show(n:Int).toNat<=62; omega
 . show 11<=62; omega
 . show 21<=62; omega
 . exact oR 62
def vV(f:dz)(a:aD×aD):aD×aD:=cond (aG 64 f.1) (a.1,a.2++[(aW .i64 f.1 64,())]) (a.1++[(f.1,())],a.2)
theorem xA:∀(l:List dz) (a:aD×aD),l.foldl (fun a f=>vV f a) a=(a.1++jO l,a.2++rk l)
 | [],a=>by simp[jO,rk]
 | f::l,a=>by rw[afb,xA l];unfold vV jO rk;cases h:aG 64 f.1 <;> simp[h]
theorem Nz(l:List dz):(jO l).length<=l.length:=by unfold jO; rw[afO]; exact afc _ _
theorem MI(l:List dz):(rk l).length<=l.length:=by unfold rk; rw[afO]; exact afc _ _
theorem Hb(f:dz)(a:aD×aD):(vV f a).1.length<=a.1.length+1/\(vV f a).2.length<=a.2.length+1:=by
 unfold vV;cases aG 64 f.1
 . exact⟨by show(a.1++[(f.1,())]).length<=_; rw[aep]; exact oR _,agf _⟩
 . exact⟨agf _,by show(a.2++[(aW .i64 f.1 64,())]).length<=_; rw[aep]; exact oR _⟩
theorem DP(f:dz)(l:List dz):eO (f::l)=pQ f.1 f.2.1++eO l:=rfl
theorem tK:∀(l:List dz) (o:aD),l.foldl (fun o f=>o++pQ f.1 f.2.1) o=o++eO l
 | [],o=>by simp[eO]
 | f::l,o=>by rw[afb,tK l,DP,aeV]
theorem sq(f:dz):(pQ f.1 f.2.1).length<=62:=aeA (DZ _ _) (Vf _)
theorem O4(l:List dz):(eO l).length<=62 * l.length:=by
 induction l with
 | nil=>exact oR _
 | cons f l ih => have:=sq f;rw[DP,aep,aeF];omega
theorem zl{o:aD}{x:Int×Unit}(h:o.length<=1048576):a6 8 o [x]=true:=aey (by show(o.length+1) * 8<=140737488355328; omega)
theorem Yp(m:bd)(hb:gy m):RX [] [] m.2.1 (ae m.2.1) 0 m=some (.inl (jO m.2.1,rk m.2.1,m.2.1,ae m.2.1,ae m.2.1,m,())):=by
 have hbig:=bb;have h:=aY (step:=BU xO) m.2.1 (fun i (a:aD×aD)=>(a.1,a.2,m.2.1,ae m.2.1,((i:Nat):Int),m,())) (fun _ f a=>Sum.inl (vV f a)) (fun a=> .inl (a.1,a.2,m.2.1,ae m.2.1,ae m.2.1,m,())) (fun i a=>a.1.length<=i/\a.2.length<=i) (a0:=([],[])) ⟨oR _,oR _⟩ (fun i f a hf ha=>by
  have hlt:=ai hf;have hl:=hb.2.1;show xO a.1 a.2 m.2.1 (ae m.2.1) (i:Int) m=_;unfold xO vV;rw[aI hf,az hf,aH _ hf];dsimp only[oT];rw[aS (by omega),zl (o:=a.1) (by omega),zl (o:=a.2) (by omega)];cases aG 64 f.1 <;> rfl) (fun i f a a' hf ha he=>by
  simp only[aeO]at he;have:=Hb f a;rw[<- he];omega) (fun a ha=>by
  show xO a.1 a.2 m.2.1 (ae m.2.1) (m.2.1.length:Int) m=_;unfold xO;rw[aA rfl];try rfl)
 rw[bH,xA]at h;exact h
theorem RE(l:List dz)(o:aD)(hl:l.length<=1048576)(hs:∀ f∈l,f.2.1.length<=1048576)(ho:o.length<=1000):xT o l (ae l) 0=some (.inl (o++eO l,l,ae l,ae l,())):=by
 have hbig:=bb;have h:=aY (step:=da yn) l (fun i (a:aD)=>(a,l,ae l,((i:Nat):Int),())) (fun _ f a=>Sum.inl (a++pQ f.1 f.2.1)) (fun a=> .inl (a,l,ae l,ae l,())) (fun i a=>a.length<=1000+62 * i) (a0:=o) ho (fun i f a hf ha=>by
  have hlt:=ai hf;have hp:=sq f;show yn a l (ae l) (i:Int)=_;unfold yn;rw[aI hf,az hf,aH _ hf];dsimp only[oT];rw[Ur _ _ (hs f (aet hf)),aS (by omega)];dsimp only[oB];rw[lq (by omega)];try rfl) (fun i f a a' hf ha he=>by
  simp only[aeO]at he;have hp:=sq f;rw[<- he,aep];omega) (fun a ha=>by
  show yn a l (ae l) (l.length:Int)=_;unfold yn;rw[aA rfl];try rfl)
 rw[bH,tK]at h;exact h
theorem Ha{m:bd}(h:eR m=true):m.1.length=4:=by
 unfold eR at h;cases hd:aF m.1 with
 | false=>rw[hd]at h; cases h
 | true =>
   rw[hd]at h;cases he:aj (ae m.1) 4 with
   | false=>rw[he]at h; cases h
   | true=>have:=ba.1 he; unfold ae at this; omega
theorem TD(m:bd)(hb:gy m):XE m=some ((),((ll m,()),(eR m,()),())):=by
 have hbig:=bb;unfold XE ll;rw[GH m hb];dsimp only[oB];cases hm:eR m with
 | false=>rfl
 | true =>
   have h4:=Ha hm;have hlo:=Nz m.2.1;have hhi:=MI m.2.1;have hb1:=fC m.1;have hl:=hb.2.1;refine(bn (Yp m hb)).trans ?_;show Option.bind (OG m.1) _=_;rw[AO m.1 hb.1];dsimp only[oB];unfold xM;cases hh:aG 0 (ae (rk m.2.1))with
   | true =>
     show cond (a6 8 (jO m.2.1) [(1,())]) (Option.bind (P8 (jO m.2.1++[(1,())])) _) none=_;have e1:(jO m.2.1++[((1:Int),())]).length=(jO m.2.1).length+1:=by rw[aep];try rfl
     rw[zl (by omega)];dsimp only[oT];rw[AK _ (by omega)];dsimp only[oB];have b1:=iN (jO m.2.1++[((1:Int),())]);have b2:=iN (rk m.2.1);rw[lq (by omega),AK _ (by omega)];dsimp only[oB,oT];show cond (a6 1 (cQ m.1++dJ (jO m.2.1++[(1,())])) (dJ (rk m.2.1))) (Option.bind (xT ((cQ m.1++dJ (jO m.2.1++[(1,())]))++dJ (rk m.2.1)) m.2.1 (ae m.2.1) 0) _) none=_;have e2:(cQ m.1++dJ (jO m.2.1++[((1:Int),())])).length=(cQ m.1).length+8:=by rw[aep,b1]
     have e3:((cQ m.1++dJ (jO m.2.1++[((1:Int),())]))++dJ (rk m.2.1)).length=(cQ m.1).length+16:=by rw[aep,e2,b2]
     rw[lq (by omega),RE _ _ hl hb.2.2 (by omega)];show some ((),((((cQ m.1++dJ (jO m.2.1++[(1,())]))++dJ (rk m.2.1))++eO m.2.1,()),(true,()),()))=some ((),((cQ m.1++((dJ (jO m.2.1++[(1,())])++dJ (rk m.2.1))++eO m.2.1),()),(true,()),()));simp only[aeV]
   | false =>
     show Option.bind (P8 (jO m.2.1)) _=_;rw[AK _ (by omega)];dsimp only[oB];have b1:=iN (jO m.2.1);rw[lq (by omega)];dsimp only[oT,oF];have e2:(cQ m.1++dJ (jO m.2.1)).length=(cQ m.1).length+8:=by rw[aep,b1]
     show Option.bind (xT (cQ m.1++dJ (jO m.2.1)) m.2.1 (ae m.2.1) 0) _=_;rw[RE _ _ hl hb.2.2 (by omega)];show some ((),(((cQ m.1++dJ (jO m.2.1))++eO m.2.1,()),(true,()),()))=some ((),((cQ m.1++(dJ (jO m.2.1)++eO m.2.1),()),(true,()),()));simp only[aeV]
def P4(f:dz)(a:(aD×aD)×aD):(aD×aD)×aD:=(vV f a.1,a.2++pQ f.1 f.2.1)
theorem Ie:∀(l:List dz) (a:(aD×aD)×aD),l.foldl (fun a f=>P4 f a) a=((a.1.1++jO l,a.1.2++rk l),a.2++eO l):=fun l a=>by
 rw[<- xA l a.1,<- tK l a.2];induction l generalizing a with
 | nil=>rfl
 | cons f l ih=>rw[afb,ih (P4 f a)];try rfl
theorem XQ(m:bd)(hb:gy m):TC [] [] [] m.2.1 (ae m.2.1) 0 m=some (.inl (jO m.2.1,rk m.2.1,eO m.2.1,m.2.1,ae m.2.1,ae m.2.1,m,())):=by
 have hbig:=bb;have h:=aY (step:=zO xp) m.2.1 (fun i (a:(aD×aD)×aD)=>(a.1.1,a.1.2,a.2,m.2.1,ae m.2.1,((i:Nat):Int),m,())) (fun _ f a=>Sum.inl (P4 f a)) (fun a=> .inl (a.1.1,a.1.2,a.2,m.2.1,ae m.2.1,ae m.2.1,m,())) (fun i a=>(a.1.1.length<=i/\a.1.2.length<=i)/\a.2.length<=62 * i) (a0:=(([],[]),[])) ⟨⟨oR _,oR _⟩,oR _⟩ (fun i f a hf ha=>by
  have hlt:=ai hf;have hl:=hb.2.1;have hp:=sq f;show xp a.1.1 a.1.2 a.2 m.2.1 (ae m.2.1) (i:Int) m=_;unfold xp P4 vV;rw[aI hf,az hf,aH _ hf];dsimp only[oT];rw[aS (by omega),zl (o:=a.1.1) (by omega),zl (o:=a.1.2) (by omega),Vk _ _ (hb.2.2 f (aet hf))];dsimp only[oB];rw[lq (by omega)];cases aG 64 f.1 <;> rfl) (fun i f a a' hf ha he=>by
  simp only[aeO]at he;have:=Hb f a.1;have hp:=sq f;rw[<- he];refine⟨⟨?_,?_⟩,?_⟩
  . show(vV f a.1).1.length<=_; omega
  . show(vV f a.1).2.length<=_; omega
  . show(a.2++pQ f.1 f.2.1).length<=_; rw[aep]; omega) (fun a ha=>by
  show xp a.1.1 a.1.2 a.2 m.2.1 (ae m.2.1) (m.2.1.length:Int) m=_;unfold xp;rw[aA rfl];try rfl)
 rw[bH,Ie]at h;exact h
theorem S0(m:bd)(hb:gy m):X4 m=some ((),((ll m,()),(eR m,()),())):=by
 have hbig:=bb;unfold X4 ll;rw[Cn m hb];dsimp only[oB];cases hm:eR m with
 | false=>rfl
 | true =>
   have h4:=Ha hm;have hlo:=Nz m.2.1;have hhi:=MI m.2.1;have hb1:=fC m.1;have hl:=hb.2.1;have hbd:=O4 m.2.1;refine(bn (XQ m hb)).trans ?_;show Option.bind (Ay m.1) _=_;rw[Br m.1 hb.1];dsimp only[oB];unfold xM;cases hh:aG 0 (ae (rk m.2.1))with
   | true =>
     show cond (a6 8 (jO m.2.1) [(1,())]) (Option.bind (CQ (jO m.2.1++[(1,())])) _) none=_;have e1:(jO m.2.1++[((1:Int),())]).length=(jO m.2.1).length+1:=by rw[aep];try rfl
     rw[zl (by omega)];dsimp only[oT];rw[A3 _ (by omega)];dsimp only[oB];have b1:=iN (jO m.2.1++[((1:Int),())]);have b2:=iN (rk m.2.1);rw[lq (by omega),A3 _ (by omega)];dsimp only[oB,oT];show cond (a6 1 (cQ m.1++dJ (jO m.2.1++[(1,())])) (dJ (rk m.2.1))) (cond (a6 1 ((cQ m.1++dJ (jO m.2.1++[(1,())]))++dJ (rk m.2.1)) (eO m.2.1)) (some ((),((((cQ m.1++dJ (jO m.2.1++[(1,())]))++dJ (rk m.2.1))++eO m.2.1,()),(true,()),()))) none) none=_;have e2:(cQ m.1++dJ (jO m.2.1++[((1:Int),())])).length=(cQ m.1).length+8:=by rw[aep,b1]
     have e3:((cQ m.1++dJ (jO m.2.1++[((1:Int),())]))++dJ (rk m.2.1)).length=(cQ m.1).length+16:=by rw[aep,e2,b2]
     rw[lq (by omega),lq (by omega)];show some ((),((((cQ m.1++dJ (jO m.2.1++[(1,())]))++dJ (rk m.2.1))++eO m.2.1,()),(true,()),()))=some ((),((cQ m.1++((dJ (jO m.2.1++[(1,())])++dJ (rk m.2.1))++eO m.2.1),()),(true,()),()));simp only[aeV]
   | false =>
     show Option.bind (CQ (jO m.2.1)) _=_;rw[A3 _ (by omega)];dsimp only[oB];have b1:=iN (jO m.2.1);rw[lq (by omega)];dsimp only[oT,oF];have e2:(cQ m.1++dJ (jO m.2.1)).length=(cQ m.1).length+8:=by rw[aep,b1]
     show cond (a6 1 (cQ m.1++dJ (jO m.2.1)) (eO m.2.1)) (some ((),(((cQ m.1++dJ (jO m.2.1))++eO m.2.1,()),(true,()),()))) none=_;rw[lq (by omega)];show some ((),(((cQ m.1++dJ (jO m.2.1))++eO m.2.1,()),(true,()),()))=some ((),((cQ m.1++(dJ (jO m.2.1)++eO m.2.1),()),(true,()),()));simp only[aeV]
theorem acy:∀ k:Fin 10,eF ((k.val+48:Nat):Int) 2=(((k.val+48) % 2:Nat):Int)/\eF (aW .u8 ((k.val+48:Nat):Int) 48) 2=(((k.val+48) % 2:Nat):Int)/\aw .u8 ((k.val+48:Nat):Int) 1=((k.val+48+1:Nat):Int)/\dE .i32 (aw .u8 ((k.val+48:Nat):Int) 1)=((k.val+48+1:Nat):Int)/\HI ((k.val+48+1:Nat):Int)=true:=by decide +kernel
theorem XK{c:UInt8}(h:er c=true):eF (c.toNat:Int) 2=((c.toNat % 2:Nat):Int)/\eF (aW .u8 (c.toNat:Int) 48) 2=((c.toNat % 2:Nat):Int)/\aw .u8 (c.toNat:Int) 1=((c.toNat+1:Nat):Int)/\dE .i32 (aw .u8 (c.toNat:Int) 1)=((c.toNat+1:Nat):Int)/\HI ((c.toNat+1:Nat):Int)=true:=by have h1:=cl.1 h;have:=acy ⟨c.toNat-48,by omega⟩;dsimp only at this;rw[show c.toNat-48+48=c.toNat by omega]at this;exact this
theorem aam{s:S8}(h:aj (ae s) 4=true):∃ a b c d,s=[a,b,c,d]:=by
 have h:=ba.1 h;unfold ae at h
 match s,h with
 | [a,b,c,d],_=>exact⟨a,b,c,d,rfl⟩
 | [],h=>simp at h
 | [_],h=>simp at h
 | [_,_],h=>simp at h
 | [_,_,_],h=>simp at h
 | _::_::_::_::_::r,h=>simp only[aeF]at h; omega
theorem Oc{a b c d:UInt8}(hd:aF [a,b,c,d]=true):cN [a,b,c,d]=cond (aj ((c.toNat % 2:Nat):Int) 1) [] [a,b,UInt8.ofNat (c.toNat+1),d]:=by show cond (aF [a,b,c,d]) (cond (aj ((c.toNat % 2:Nat):Int) 1) [] [a,b,UInt8.ofNat (c.toNat+1),d]) []=_;rw[hd];try rfl
theorem Hu{s:S8}(h:cond (aF s) (aj (ae s) 4) false=false):cN s=[]:=by
 unfold cN;split
 . rename_i a b c d;cases hd:aF [a,b,c,d]with
   | false=>rfl
   | true=>rw[hd]at h; cases h
 . rfl
theorem EY(s:S8)(hs:s.length<=1048576):V2 s=zR (cN s):=by
 have hbig:=bb;cases hc:cond (aF s) (aj (ae s) 4) false with
 | false =>
   rw[Hu hc];unfold V2;rw[fe s (by omega)];dsimp only[oB];cases hd:aF s with
   | false=>rfl
   | true=>rw[hd]at hc; rw[show aj (ae s) 4=false from hc];try rfl
 | true =>
   cases hd:aF s with
   | false=>rw[hd]at hc; cases hc
   | true => rw[hd]at hc;obtain⟨a,b,c,d,rfl⟩:=aam hc;obtain⟨e1,_,e3,_,_⟩:=XK (fm hd c (by simp));rw[Oc hd];unfold V2;rw[fe _ (by omega),hd];show cond (aj (eF (c.toNat:Int) 2) 1) _ (zR (([a,b]++strOf [(aw .u8 (c.toNat:Int) 1,())])++[d]))=_;rw[e1,e3];cases aj ((c.toNat % 2:Nat):Int) 1 <;> rfl
theorem Er(s:S8)(hs:s.length<=1048576):Xb s=zR (cN s):=by
 have hbig:=bb;unfold Xb;rw[zh s 4 (by omega)];dsimp only[oB];cases hc:cond (aF s) (aj (ae s) 4) false with
 | false=>rw[Hu hc];try rfl
 | true =>
   cases hd:aF s with
   | false=>rw[hd]at hc; cases hc
   | true => rw[hd]at hc;obtain⟨a,b,c,d,rfl⟩:=aam hc;obtain⟨_,e2,_,e4,e5⟩:=XK (fm hd c (by simp));rw[Oc hd];show cond (aj (eF (aW .u8 (c.toNat:Int) 48) 2) 1) _ (cond (HI (dE .i32 (aw .u8 (c.toNat:Int) 1))) (zR (([a,b]++WV (dE .i32 (aw .u8 (c.toNat:Int) 1)))++[d])) none)=_;rw[e2,e4,e5];cases aj ((c.toNat % 2:Nat):Int) 1 <;> rfl
theorem Cm(s:S8):(cN s).length<=4:=by
 unfold cN;split
 . rename_i a b c d;cases aF [a,b,c,d]with
   | false=>exact aeC _
   | true =>
     cases aj ((c.toNat % 2:Nat):Int) 1 with
     | false=>exact oR 4
     | true=>exact aeC _
 . exact aeC _
theorem rsI{n:Int}(h:cE n 0 10=true):n=0∨n=1∨n=2∨n=3∨n=4∨n=5∨n=6∨n=7∨n=8∨n=9∨n=10:=DI (bl.1 h)
theorem NN(n:Int):W6 n=zR (vh n):=by
 unfold W6 T7 vh;dsimp only[oB];rw[mo];dsimp only[oB];show cond (!cE n 0 10) _ _=_;cases h:cE n 0 10 with
 | false=>rfl
 | true=>rcases rsI h with rfl | rfl | rfl | rfl | rfl | rfl | rfl | rfl | rfl | rfl | rfl <;> rfl
theorem Kz(n:Int):H5 n=zR (vh n):=by
 unfold H5 Ux vh;rw[jS];dsimp only[oB];cases h:cE n 0 10 with
 | false=>rfl
 | true=>rcases rsI h with rfl | rfl | rfl | rfl | rfl | rfl | rfl | rfl | rfl | rfl | rfl <;> rfl
theorem EU(n:Int):(vh n).length<=2:=by
 unfold vh;cases h:cE n 0 10 with
 | false=>exact aeC _
 | true=>rcases rsI h with rfl | rfl | rfl | rfl | rfl | rfl | rfl | rfl | rfl | rfl | rfl <;> decide
theorem EL(t:S8)(c:Int):gy (cN t,[(39,vh c,())],()):=by have h1:=Cm t;have h2:=EU c;refine⟨by show(cN t).length<=_; omega,by show 1<=1048576; decide,fun f hf => ?_⟩;have hf:f∈[((39:Int),vh c,())]:=hf;rw[agd]at hf;rw[hf];show(vh c).length<=_;omega
theorem QJ(t:S8)(c:Int)(ht:t.length<=1048576):g47 t c=some ((),((jV t c).1,((jV t c).2,()),())):=by unfold g47 jV;rw[EY t ht,NN];dsimp only[oB];rw[GH _ (EL t c)];dsimp only[oB];cases eR (cN t,[(39,vh c,())],()) <;> rfl
theorem Qt(t:S8)(c:Int)(ht:t.length<=1048576):g61 t c=some ((),((jV t c).1,((jV t c).2,()),())):=by unfold g61 jV;rw[Er t ht,Kz];dsimp only[oB];rw[Cn _ (EL t c)];dsimp only[oB];cases eR (cN t,[(39,vh c,())],()) <;> rfl
abbrev RB:=Option (Sum (Int×S8×Unit) (Sum (Int×S8×Unit) Unit))
theorem Ks(s:S8)(h:aG (ae s) 6=true):tB 38 s=some (.inl (38,s++[32],())):=by have hbig:=bb;have hl:(s.length:Int)<6:=afD h;unfold tB;rw[yz,tr];show cond (aG (ae s) 6) (cond (jv s [32]) (some (.inl (38,s++[32],()))) none) (some (.inr (.inl (38,s,()))):RB)=_;rw[h,nG (by show s.length+1<=bG; omega)];try rfl
theorem yv:∀(d:Nat) (s:S8),(s.length+d=6∨(d=0/\6<=s.length))->Oh 38 s=some (.inl (38,s++List.replicate d 32,()))
 | 0,s,h=>by refine dA _ ?_;show tB 38 s=_;unfold tB;rw[yz];show cond (aG (ae s) 6) _ (some (.inr (.inl (38,s,()))):RB)=_;rw[aJ (by unfold ae; omega)];show(some (.inr (.inl (38,s,()))):RB)=some (.inr (.inl (38,s++[],())));rw[afp]
 | d+1,s,h=>by have ih:=yv d (s++[32]) (by rw[aep,age]; omega);rw[aeV]at ih;exact dU _ (x':=(38,s++[32],())) (Ks s (aO (by unfold ae; omega))) ih
theorem wE(s:S8):BM 38 s=cond (cV 38 (s++List.replicate ((6:Int)-ae s).toNat 32)) (s++List.replicate ((6:Int)-ae s).toNat 32) []:=rfl
theorem QH(s:S8)(hs:s.length<=1048576):PH 38 s=zR (BM 38 s):=by
 have hbig:=bb;have h1:KH 38 s=some (.inl (38,s,())):=by refine dA _ ?_;show Bs 38 s=_;unfold Bs;rw[yz,tr];show(cond (aG (ae s) 6) (some (.inr (.inl (38,s,())))) (some (.inr (.inl (38,s,())))):RB)=_;cases aG (ae s) 6 <;> rfl
 have h2:=yv ((6:Int)-ae s).toNat s (by unfold ae; omega);rw[wE];have hl:(s++List.replicate ((6:Int)-ae s).toNat (32:UInt8)).length<=1048582:=by rw[aep,afv]; unfold ae; omega
 unfold PH;refine(bn h1).trans ((bn h2).trans ?_);show Option.bind (vo 38 (s++List.replicate ((6:Int)-ae s).toNat 32)) _=_;rw[xU _ _ (by omega)];dsimp only[oB];cases cV 38 (s++List.replicate ((6:Int)-ae s).toNat 32) <;> rfl
theorem PQ(s:S8)(hs:s.length<=1048576):PO 38 s=zR (BM 38 s):=by
 have hbig:=bb;rw[wE];have hl:(s++List.replicate ((6:Int)-ae s).toNat (32:UInt8)).length<=1048582:=by rw[aep,afv]; unfold ae; omega
 unfold PO;rw[MC,qJ];show Option.bind (Fu [32] (E1 (aW .i64 6 (ae s)) 0)) _=_;have e:E1 (aW .i64 6 (ae s)) 0=(((6:Int)-ae s).toNat:Int):=by rw[bp (by unfold ae; omega) (by unfold ae; omega)];unfold E1;split <;> omega
 rw[e];unfold Fu o8;rw[show bM 0 (((6:Int)-ae s).toNat:Int)=true from aes (by omega),show Nat.ble (([32]:S8).length * ((((6:Int)-ae s).toNat:Int)).toNat) bG=true from aey (by simp only[aeF,ae7]; unfold ae; omega)];show cond (jv s (Lib.repeatL [32] ((6:Int)-ae s).toNat)) (Option.bind (qt 38 (s++Lib.repeatL [32] ((6:Int)-ae s).toNat)) _) none=_;rw[Bh,nG (by rw[afv]; unfold ae; omega)];dsimp only[oT];rw[B4 _ _ (by omega)];dsimp only[oB];show cond (!cV 38 (s++List.replicate ((6:Int)-ae s).toNat 32)) (zR []) (zR (s++Lib.repeatL [32] ((6:Int)-ae s).toNat))=_;rw[Bh];cases cV 38 (s++List.replicate ((6:Int)-ae s).toNat 32) <;> rfl
theorem Ai(s:S8):(BM 38 s).length<=6:=by
 rw[wE];cases h:cV 38 (s++List.replicate ((6:Int)-ae s).toNat 32)with
 | false=>exact aeC _
 | true =>
   have h:cond (cP (s++List.replicate ((6:Int)-ae s).toNat 32)) (aj (ae (s++List.replicate ((6:Int)-ae s).toNat 32)) 6) false=true:=h;cases hp:cP (s++List.replicate ((6:Int)-ae s).toNat 32)with
   | false=>rw[hp]at h; cases h
   | true => rw[hp]at h;have:=ba.1 h;show(s++List.replicate ((6:Int)-ae s).toNat (32:UInt8)).length<=6;unfold ae at this;unfold ae;omega
def eD:List fJ:=vk.map fun n=>(n,())
theorem K1{m:bd}{c:Int}{h t:S8}(hb:gy m)(ht:t.length<=1048576){no:Int}{f:dz}(hf:ln m c h t no=some f):f.2.1.length<=1048576:=by
 have h1:=Ai h;have h2:=EU c;unfold ln yM at hf;cases h38:aj no 38 with
 | true =>
   rw[h38]at hf;cases hc:cond (aj c 0) (!bk h []) false with
   | false=>rw[hc]at hf; cases hf
   | true=>rw[hc]at hf; cases hf; show(BM 38 h).length<=_; omega
 | false =>
   cases h39:aj no 39 with
   | true=>rw[h38,h39]at hf; cases hf; show(vh c).length<=_; omega
   | false =>
     cases h54:aj no 54 with
     | true =>
       rw[h38,h39,h54]at hf;cases hc: !bk t []with
       | false=>rw[hc]at hf; cases hf
       | true=>rw[hc]at hf; cases hf; exact ht
     | false =>
       rw[h38,h39,h54]at hf;cases hm:ie m no with
       | none=>rw[hm]at hf; cases hf
       | some s => rw[hm]at hf;cases hf;obtain⟨g,hg,_,e⟩:=vz hm;show s.length<=_;rw[<- e];exact hb.2.2 g hg
def OB(m:bd)(c:Int)(h t:S8)(k:fJ)(a:Bool×List dz):Bool×List dz:=match ln m c h t k.1 with | some f=>(a.1&&cV f.1 f.2.1,a.2++[f]) | none=>a
theorem Co(m:bd)(c:Int)(h t:S8):∀(l:List Int) (a:Bool×List dz),(l.map fun n=>((n,()):fJ)).foldl (fun a k=>OB m c h t k a) a=(a.1&&(l.filterMap (ln m c h t)).all fun f=>cV f.1 f.2.1,a.2++l.filterMap (ln m c h t))
 | [],a=>by simp
 | n::l,a=>by
   rw[aff,afb,Co m c h t l];unfold OB;cases hr:ln m c h t n with
   | none=>rw[agR hr]
   | some f=>rw[agS hr]; simp[Bool.and_assoc]
theorem HU(m:bd)(c:Int)(h t mt:S8)(hb:gy m)(hh:h.length<=1048576)(ht:t.length<=1048576)(i:Nat)(k:fJ)(a:Bool×List dz)(hk:eD[i]? = some k)(ha:a.2.length<=i) :
 yi c h t a.1 eD (ae eD) (i:Int) m ([],[],()) (mt,a.2,())=some (.inl (c,h,t,(OB m c h t k a).1,eD,ae eD,((i+1:Nat):Int),m,([],[],()),(mt,(OB m c h t k a).2,()),())):=by
 have hbig:=bb;have hi:i<13:=ai hk;have hfit:∀ x:dz,a6 24 a.2 [x]=true:=fun x=>aey (by show(a.2.length+1) * 24<=bG; omega)
 have h1:=Ai h;have h2:=EU c;have Qk:=xU k.1 (BM 38 h) (by omega);have q39:=xU k.1 (vh c) (by omega);have q54:=xU k.1 t (by omega);unfold yi OB ln yM;rw[aI hk,az hk,aH _ hk,uA m k.1 hb,QH h hh,NN,aS (by omega)];obtain⟨ok,l⟩:=a;dsimp only at hfit ha ⊢;simp only[Qk,q39,q54,hfit,oB,oT];cases h38:aj k.1 38 with
 | true=>cases ie m k.1 <;> cases cond (aj c 0) (!bk h []) false <;> cases ok <;> rfl
 | false =>
   cases h39:aj k.1 39 with
   | true=>cases ie m k.1 <;> cases ok <;> rfl
   | false =>
     cases h54:aj k.1 54 with
     | true=>cases ie m k.1 <;> cases !bk t [] <;> cases ok <;> rfl
     | false =>
       cases hm:ie m k.1 with
       | none=>rfl
       | some s =>
         obtain⟨g,hg,_,e⟩:=vz hm;have hs:=hb.2.2 g hg;rw[e]at hs;cases ok with
         | false=>rfl
         | true => show Option.bind (vo k.1 s) _=_;rw[xU k.1 s (by omega)];try rfl
theorem Ug(m:bd)(c:Int)(h t:S8)(k:fJ)(a:Bool×List dz):(OB m c h t k a).2.length<=a.2.length+1:=by
 unfold OB;cases ln m c h t k.1 with
 | none=>exact agf _
 | some f=>show(a.2++[f]).length<=_; rw[aep]; exact oR _
theorem JA(m:bd)(c:Int)(h t mt:S8)(hb:gy m)(hh:h.length<=1048576)(ht:t.length<=1048576) :
 Te c h t true eD (ae eD) 0 m ([],[],()) (mt,[],())=some (.inl (c,h,t,(gX m c h t).all (fun f=>cV f.1 f.2.1),eD,ae eD,ae eD,m,([],[],()),(mt,gX m c h t,()),())):=by
 have hl:=aY (step:=HS yi) eD (fun i (a:Bool×List dz)=>(c,h,t,a.1,eD,ae eD,((i:Nat):Int),m,(([],[],()):bd),((mt,a.2,()):bd),())) (fun _ k a=>Sum.inl (OB m c h t k a)) (fun a=> .inl (c,h,t,a.1,eD,ae eD,ae eD,m,([],[],()),(mt,a.2,()),())) (fun i a=>a.2.length<=i) (a0:=(true,[])) (oR _) (fun i k a hk ha=>HU m c h t mt hb hh ht i k a hk ha) (fun i k a a' hk ha he=>by
  simp only[aeO]at he;have:=Ug m c h t k a;rw[<- he];omega) (fun a ha=>by
  show yi c h t a.1 eD (ae eD) (eD.length:Int) m ([],[],()) (mt,a.2,())=_;unfold yi;rw[aA rfl];try rfl)
 rw[bH]at hl;have e:=Co m c h t vk (true,[]);rw[agh,af4]at e;refine hl.trans ?_;show some (Sum.inl (c,h,t,((vk.map fun n=>((n,()):fJ)).foldl (fun a k=>OB m c h t k a) (true,[])).1,eD,ae eD,ae eD,m,([],[],()),(mt,((vk.map fun n=>((n,()):fJ)).foldl (fun a k=>OB m c h t k a) (true,[])).2,()),()))=_;rw[e];try rfl
theorem Pz(m:bd)(c:Int)(h t:S8)(hb:gy m)(hh:h.length<=1048576)(ht:t.length<=1048576):g96 m c h t=some ((),((im m c h t).1,((im m c h t).2,()),())):=by
 unfold g96 im;rw[EY _ hb.1,GH m hb];dsimp only[oB];cases eR m with
 | false=>rfl
 | true =>
   cases bk (cN m.1) []with
   | true=>rfl
   | false =>
     dsimp only[oT,oF,oN];rw[NN];dsimp only[oB];cases bk (vh c) []with
     | true=>rfl
     | false => refine(bn (JA m c h t (cN m.1) hb hh ht)).trans ?_;dsimp only[oB,oL];cases(gX m c h t).all fun f=>cV f.1 f.2.1 <;> rfl
theorem Il(m:bd)(c:Int)(h t mt:S8)(hb:gy m)(hh:h.length<=1048576)(ht:t.length<=1048576)(i:Nat)(k:fJ)(a:List dz)(hk:eD[i]? = some k)(ha:a.length<=i) :
 pU c h t () eD (ae eD) (i:Int) m ([],[],()) (mt,a,())=some (.inl (c,h,t,(),eD,ae eD,((i+1:Nat):Int),m,([],[],()),(mt,(match ln m c h t k.1 with | some f=>a++[f] | none=>a),()),())):=by
 have hbig:=bb;have hi:i<13:=ai hk;have hfit:∀ x:dz,a6 24 a [x]=true:=fun x=>aey (by show(a.length+1) * 24<=bG; omega)
 have hput:∀(no:Int) (s:S8),Dz no s (mt,a,())=some (((mt,a++[(no,s,())],()),()),()):=fun no s=>by unfold Dz;dsimp only;rw[hfit];try rfl
 unfold pU ln yM;rw[aI hk,az hk,aH _ hk];dsimp only[oT];rw[LO m k.1 hb,PQ h hh,Kz,aS (by omega)];dsimp only[oB];rw[hput,hput,hput];cases h38:aj k.1 38 with
 | true => rw[ba.1 h38];cases ie m 38 <;> cases cond (aj c 0) (!bk h []) false <;> rfl
 | false =>
   cases h39:aj k.1 39 with
   | true => rw[ba.1 h39];cases ie m 39 <;> rfl
   | false =>
     cases h54:aj k.1 54 with
     | true => rw[ba.1 h54];cases ie m 54 <;> cases !bk t [] <;> rfl
     | false =>
       cases hm:ie m k.1 with
       | none=>rfl
       | some s => show Option.bind (Dz k.1 s (mt,a,())) _=_;rw[hput];try rfl
def ZM(m:bd)(c:Int)(h t:S8)(k:fJ)(a:List dz):List dz:=match ln m c h t k.1 with | some f=>a++[f] | none=>a
theorem Da(m:bd)(c:Int)(h t:S8):∀(l:List Int) (a:List dz),(l.map fun n=>((n,()):fJ)).foldl (fun a k=>ZM m c h t k a) a=a++l.filterMap (ln m c h t)
 | [],a=>by simp
 | n::l,a=>by
   rw[aff,afb,Da m c h t l];unfold ZM;cases hr:ln m c h t n with
   | none=>rw[agR hr]
   | some f=>rw[agS hr]; simp
theorem IE(m:bd)(c:Int)(h t mt:S8)(hb:gy m)(hh:h.length<=1048576)(ht:t.length<=1048576) :
 Nx c h t () eD (ae eD) 0 m ([],[],()) (mt,[],())=some (.inl (c,h,t,(),eD,ae eD,ae eD,m,([],[],()),(mt,gX m c h t,()),())):=by
 have hl:=aY (step:=HS pU) eD (fun i (a:List dz)=>(c,h,t,(),eD,ae eD,((i:Nat):Int),m,(([],[],()):bd),((mt,a,()):bd),())) (fun _ k a=>Sum.inl (ZM m c h t k a)) (fun a=> .inl (c,h,t,(),eD,ae eD,ae eD,m,([],[],()),(mt,a,()),())) (fun i a=>a.length<=i) (a0:=[]) (oR _) (fun i k a hk ha=>Il m c h t mt hb hh ht i k a hk ha) (fun i k a a' hk ha he=>by
  simp only[aeO]at he;rw[<- he];unfold ZM;cases ln m c h t k.1 with
  | none=>show a.length<=_; omega
  | some f=>show(a++[f]).length<=_; rw[aep]; show a.length+1<=_; omega) (fun a ha=>by
  show pU c h t () eD (ae eD) (eD.length:Int) m ([],[],()) (mt,a,())=_;unfold pU;rw[aA rfl];try rfl)
 rw[bH]at hl;have e:=Da m c h t vk [];rw[af4]at e;refine hl.trans ?_;show some (Sum.inl (c,h,t,(),eD,ae eD,ae eD,m,([],[],()),(mt,(vk.map fun n=>((n,()):fJ)).foldl (fun a k=>ZM m c h t k a) [],()),()))=_;rw[e];try rfl
theorem JQ(m:bd)(c:Int)(h t:S8):(gX m c h t).length<=13:=List.length_filterMap_le _ vk
theorem TZ{m:bd}{c:Int}{h t:S8}(hb:gy m)(ht:t.length<=1048576):gy (cN m.1,gX m c h t,()):=by have h1:=Cm m.1;have h2:=JQ m c h t;refine⟨by show(cN m.1).length<=_; omega,by show(gX m c h t).length<=_; omega,fun f hf => ?_⟩;obtain⟨no,_,hf⟩:=List.mem_filterMap.1 hf;exact K1 hb ht hf
theorem Pt(m:bd)(c:Int)(h t:S8)(hb:gy m)(hh:h.length<=1048576)(ht:t.length<=1048576):QP m c h t=some ((),((im m c h t).1,((im m c h t).2,()),())):=by
 unfold QP im;rw[Er _ hb.1,Cn m hb];dsimp only[oB];cases eR m with
 | false=>rfl
 | true =>
   cases he:bk (cN m.1) []with
   | true=>rfl
   | false =>
     dsimp only[oT,oF,oN];rw[Kz];dsimp only[oB];cases bk (vh c) []with
     | true=>rfl
     | false => refine(bn (IE m c h t (cN m.1) hb hh ht)).trans ?_;dsimp only[oB,oL];rw[Cn _ (TZ hb ht),Cs (rn m c h t) (zv he)];dsimp only[oB];cases(gX m c h t).all fun f=>cV f.1 f.2.1 <;> rfl
theorem C5{m:bd}{c:Int}{h t:S8}(hb:gy m)(ht:t.length<=1048576):gy (im m c h t).1:=by
 have h0:gy (([],[],()):bd):=⟨aeC _,aeC _,fun f hf=>by simp at hf⟩;unfold im;cases cond (eR m) (cond (bk (cN m.1) []) false (!bk (vh c) [])) false with
 | false=>exact h0
 | true =>
   cases(gX m c h t).all fun f=>cV f.1 f.2.1 with
   | false=>exact h0
   | true=>exact TZ hb ht
theorem AA(m:bd)(c:Int)(h t:S8)(hb:gy m)(hh:h.length<=1048576)(ht:t.length<=1048576):S7 m c h t=zR (ru m c h t):=by unfold S7 ru;rw[Pz m c h t hb hh ht];dsimp only[oB];rw[TD _ (C5 hb ht)];try rfl
theorem As(m:bd)(c:Int)(h t:S8)(hb:gy m)(hh:h.length<=1048576)(ht:t.length<=1048576):Sd m c h t=zR (ru m c h t):=by unfold Sd ru;rw[Pt m c h t hb hh ht];dsimp only[oB];rw[S0 _ (C5 hb ht)];try rfl
theorem v7{α:Type}(p:α->Bool):∀(xs:List α) (k:Nat),(cX p k xs = -1/\xs.find? p=none)∨∃(i:Nat) (x:α),cX p k xs=((k+i:Nat):Int)/\xs[i]? = some x/\xs.find? p=some x
 | [],k=> .inl ⟨rfl,rfl⟩
 | x::r,k=>by
   rw[cX,List.find?_cons];cases hp:p x with
   | true=>exact .inr ⟨0,x,rfl,rfl,rfl⟩
   | false =>
     rcases v7 p r (k+1)with h | ⟨i,y,h1,h2,h3⟩
     . exact .inl h
     . exact .inr ⟨i+1,y,by show cX p (k+1) r=_; rw[h1]; congr 1; omega,h2,h3⟩
def Ae(o:Option aD):Option (Unit×((aD×Unit)×(Bool×Unit)×Unit)):=some ((),match o with | some b=>((b,()),(true,()),()) | none=>(([],()),(false,()),()))
theorem Lb(l:List cG)(t m:S8)(hl:l.length<=1048576)(hb:∀ y∈l,y.2.2.1.length<=1048576):g52 l t m=Ae (ia l t m):=by
 have hbig:=bb;unfold g52 ia Ae;have h:=aL (step:=nD vW) l (fun i (_:Unit)=>(t,m,l,ae l,((i:Nat):Int),())) (fun _ x _=>bif sF t m x then .inr (.inr (x.2.2.1,true,()))else Sum.inl ()) (fun _=> .inl (t,m,l,ae l,(l.length:Int),())) (a0:=()) (fun i x a hx=>by
  have hlt:=ai hx;have hr:=hb x (aet hx);show vW t m l (ae l) (i:Int)=_;unfold vW;rw[aI hx,az hx,aH _ hx];dsimp only[oT];rw[aS (by omega),lq (a:=[]) (b:=x.2.2.1) (by show 0+x.2.2.1.length<=bG; omega)];show cond (sF t m x) _ _=_;cases sF t m x <;> rfl) (fun a=>by
  show vW t m l (ae l) (l.length:Int)=_;unfold vW;rw[aA rfl];try rfl)
 rw[my (sF t m) (fun(x:cG)=>(Sum.inr (x.2.2.1,true,()):Sum (S8×S8×List cG×Int×Int×Unit) (aD×Bool×Unit)))]at h;have h':T0 t m l (ae l) 0=_:=h;rw[h'];cases l.find? (sF t m) <;> rfl
theorem NY(l:List cG)(t m:S8)(hl:l.length<=1048576)(hb:∀ y∈l,y.2.2.1.length<=1048576):g66 l t m=Ae (ia l t m):=by
 have hbig:=bb;unfold g66 ia Ae;rw[Cu l t m hl];dsimp only[oB];rcases v7 (sF t m) l 0 with ⟨h1,h2⟩ | ⟨i,y,h1,h2,h3⟩
 . rw[h2];have h1:cX (fun y=>cond (bk y.1 t) (bk y.2.1 m) false) 0 l = -1:=h1;rw[h1];try rfl
 . rw[h3];rw[aex]at h1;have h1:cX (fun y=>cond (bk y.1 t) (bk y.2.1 m) false) 0 l=(i:Int):=h1;have hr:=hb y (aet h2);rw[h1,aJ (by omega),az h2,aH _ h2];unfold EK;rw[lq (a:=[]) (b:=y.2.2.1) (by show 0+y.2.2.1.length<=bG; omega)];try rfl
theorem C2{l:List cG}(h:dS l=true):l.length<=6/\∀ z∈l,z.1.length<=1048576/\z.2.1.length<=1048576/\z.2.2.1.length<=1048576:=by
 unfold dS at h;cases ha:allI (cR l) 0 l with
 | false=>rw[ha]at h; cases h
 | true =>
   rw[ha]at h;have h6:ae l<=6:=afD h;refine⟨by unfold ae at h6; omega,fun z hz => ?_⟩;obtain⟨i,hi⟩:=agr.1 hz;have:=gq _ ha hi;unfold cR at this;cases hm:j6 z with
   | false=>rw[hm]at this; cases this
   | true => unfold j6 at hm;simp only[agF,aeo]at hm;obtain⟨⟨_,h1⟩,⟨_,h2⟩,h3⟩:=hm;have h1:=ba.1 h1;have h2:=ba.1 h2;have h3:=bl.1 h3;unfold ae at h1 h2 h3;omega
theorem IM{l:List cG}{s:cG}(h:dS (l++[s])=true):g54 l s=some ((),((l++[s],()),(true,()),())):=by
 have hbig:=bb;obtain⟨h1,h2⟩:=C2 h;have h3:l.length<=6:=by rw[aep]at h1; omega
 have hc:=uh (l++[s]) (by omega) fun y hy=>(h2 y hy).2.2
 unfold g54;rw[uh l (by omega) fun y hy=>(h2 y (af3 _ hy)).2.2];dsimp only[oB];rw[show a6 56 l [s]=true from aey (by show(l.length+1) * 56<=bG; omega)];show Option.bind (Vy (l++[s])) _=_;rw[hc];dsimp only[oB];rw[F7 _ ⟨by omega,fun y hy=>⟨bJ (h2 y hy).1,bJ (h2 y hy).2.1⟩⟩,h];try rfl
theorem HP{l:List cG}{s:cG}(h:dS (l++[s])=true):XW l s=some ((),((l++[s],()),(true,()),())):=by
 have hbig:=bb;obtain⟨h1,h2⟩:=C2 h;have h3:l.length<=6:=by rw[aep]at h1; omega
 have hc:=zM (l++[s]) (by omega) fun y hy=>(h2 y hy).2.2
 unfold XW;rw[show Yd 56 l=true from aey (by omega),show a6 56 l [s]=true from aey (by show(l.length+1) * 56<=bG; omega)];show Option.bind (JJ (l++[s])) _=_;rw[hc];dsimp only[oB];rw[Hm _ ⟨by omega,fun y hy=>⟨bJ (h2 y hy).1,bJ (h2 y hy).2.1⟩⟩,h];try rfl
theorem Gt{x:aD}{t:S8}(h:gP x 0 4=some t):aj (dY x).2 1=false:=by
 unfold dY;rw[h];dsimp only;cases zd x with
 | none=>rfl
 | some p =>
   obtain⟨nos,a⟩:=p;dsimp only;cases kJ x nos a []with
   | none=>rfl
   | some p =>
     obtain⟨l,e⟩:=p;dsimp only;by_cases he:e=x.length
     . rw[if_pos he];try rfl
     . rw[if_neg he];try rfl
theorem Hq(t:S8)(c:Int):gy (jV t c).1:=by
 unfold jV;cases eR (cN t,[(39,vh c,())],())with
 | false=>exact⟨aeC _,aeC _,fun f hf=>by simp at hf⟩
 | true=>exact EL t c
theorem Cp{t:S8}(h:wj t):t.length<=1048576:=by
 rcases h with rfl | h
 . exact aeC _
 . omega
theorem wa{a:ar}(h:bA a):(slotsOf a).length<=1048576/\∀ y∈slotsOf a,y.2.2.1.length<=1048576:=⟨h.2.2.2.1,fun y hy=>(h.2.2.2.2 y hy).2.2⟩
theorem Uv(b:List ar)(x:aD)(now:Int)(hb:dF b)(hx:zz x):g15 (b,()) x now=some ((),(((gA b x now).1,()),((gA b x now).2,()),())):=by
 have hbig:=bb;have hcp:=w7 b hb;have hbcd:Jo x 0 4=rV (gP x 0 4) 2:=DL x 0 4 hx (aeC _) (by decide);have hmB:=yA x;unfold g15 gA;rw[hcp,hbcd,Z8 x hx,Kp b hb];unfold IQ rV;dsimp only[oB];cases hbk:je b with
 | false=>rfl
 | true =>
   rw[gN];cases htm:a7 now with
   | false=>rfl
   | true =>
     cases ho:gP x 0 4 with
     | none =>
       have hp:dY x=(([],[],()),1):=by unfold dY; rw[ho]
       rw[hp];try rfl
     | some t =>
       have h4:t.length=4:=(dN ho).2.1;dsimp only[oB,oT,oF,oN];rw[Gt ho,EY t (by omega)];dsimp only[oB,oT,oF];cases hr:bk (cN t) []with
       | true=>rfl
       | false =>
         cases h0:aj (dY x).2 0 with
         | false => dsimp only[oT,oF,oM];rw[QJ t 1 (by omega)];dsimp only[oB];rw[TD _ (Hq t 1)];try rfl
         | true =>
           dsimp only[oT,oF,oN];have hm1:=sP ho h0;generalize (dY x).1=m at hmB hm1 ⊢;subst hm1;rw[abv m hmB];unfold NU vC;dsimp only[oB];cases hq0:aj (fH m).2 0 with
           | false => dsimp only[oT,oF,oM];rw[AA m _ [] [] hmB (aeC _) (aeC _)];try rfl
           | true =>
             obtain⟨hmM,hqM⟩:=ya hq0;have hqB:=Bc hmB;dsimp only[oT,oF,oN];generalize (fH m).1=q at hqM hqB ⊢;rw[wI b q.2.1 hb.1];unfold rZ;dsimp only[oB];cases hk:aG (ax b q.2.1) 0 with
             | true => dsimp only[oT];rw[AA m 3 [] [] hmB (aeC _) (aeC _)];try rfl
             | false =>
               obtain⟨i,y,e,hy⟩:=dQ (of_decide_eq_false hk);have hgy:gt aP b (ax b q.2.1)=y:=by rw[e]; exact aH _ hy
               have hgp:gt d94 b (ax b q.2.1)=y:=by rw[e]; exact aH _ hy
               have hin:aZ (ax b q.2.1) b=true:=by rw[e]; exact az hy
               have hyB:=wa (hb.2 y (aet hy));have hso:=Lb (slotsOf y) q.2.2.2.2.1 q.2.2.2.2.2.1 hyB.1 hyB.2;rw[hin,hgp,hgy];dsimp only[oT,oF];refine(bn hso).trans ?_;unfold Ae;dsimp only[oB];cases ho2:ia (slotsOf y) q.2.2.2.2.1 q.2.2.2.2.2.1 with
               | some o=>rfl
               | none =>
                 dsimp only[oT,oF];show cond (aj (ae (slotsOf y)) 6) _ _=_;cases h6:aj (ae (slotsOf y)) 6 with
                 | true => dsimp only[oT];rw[AA m 10 [] [] hmB (aeC _) (aeC _)];try rfl
                 | false =>
                   dsimp only[oF];obtain⟨hs,j,z,e2,hz⟩:=xw hbk hk (by rw[hgy]; exact ho2) (by rw[hgy]; exact h6) hmM hr hqM (now:=now);have hrep:=AA m (dn b q now).2.1 q.2.2.2.1 (dn b q now).2.2 hmB hqB.2.2.1 (Cp (uc b q now));rw[VQ b q now hb hqB];dsimp only[oB];rw[hrep];dsimp only[oB];have hgn:gt aP (ck b q now) (ax b q.2.1)=z:=by rw[e2]; exact aH _ hz
                   have hgd:gt d94 (ck b q now) (ax b q.2.1)=z:=by rw[e2]; exact aH _ hz
                   have hib:aZ (ax b q.2.1) (ck b q now)=true:=by rw[e2]; exact az hz
                   rw[hgn]at hs;have hput:=IM hs;unfold tX;rw[hgn];cases hz0:aj (dn b q now).2.1 0 with
                   | true =>
                     have hnx:ck b q now=(dn b q now).1:=by unfold ck; rw[hz0];try rfl
                     rw[hnx]at hgd hib ⊢;dsimp only[oT,oF,oN];rw[hib,hgd];dsimp only[oT];exact bn hput
                   | false =>
                     have hnx:ck b q now=b:=by unfold ck; rw[hz0];try rfl
                     rw[hnx]at hgd ⊢;have hzy:z=y:=hgd.symm.trans hgp;subst hzy;exact bn hput
theorem NF(b:List ar)(x:aD)(now:Int)(hb:dF b)(hx:zz x):g17 (b,()) x now=some ((),(((gA b x now).1,()),((gA b x now).2,()),())):=by
 have hbig:=bb;have hcp:=x6 b hb;have hbcd:ME x 0 4=rV (gP x 0 4) 2:=Hs x 0 4 hx (aeC _) (by decide);have hmB:=yA x;unfold g17 gA;rw[hcp,hbcd,ZB x hx,M6 b hb];unfold IQ rV;dsimp only[oB];cases hbk:je b with
 | false=>rfl
 | true =>
   rw[gL];cases htm:a7 now with
   | false=>rfl
   | true =>
     cases ho:gP x 0 4 with
     | none =>
       have hp:dY x=(([],[],()),1):=by unfold dY; rw[ho]
       rw[hp];try rfl
     | some t =>
       have h4:t.length=4:=(dN ho).2.1;dsimp only[oB,oT,oF,oN];rw[Gt ho,Er t (by omega)];dsimp only[oB,oT,oF];cases hr:bk (cN t) []with
       | true=>rfl
       | false =>
         cases h0:aj (dY x).2 0 with
         | false => dsimp only[oT,oF,oM];rw[Qt t 1 (by omega)];dsimp only[oB];rw[S0 _ (Hq t 1)];try rfl
         | true =>
           dsimp only[oT,oF,oN];have hm1:=sP ho h0;generalize (dY x).1=m at hmB hm1 ⊢;subst hm1;rw[abx m hmB];unfold NU vC;dsimp only[oB];cases hq0:aj (fH m).2 0 with
           | false => dsimp only[oT,oF,oM];rw[As m _ [] [] hmB (aeC _) (aeC _)];try rfl
           | true =>
             obtain⟨hmM,hqM⟩:=ya hq0;have hqB:=Bc hmB;dsimp only[oT,oF,oN];generalize (fH m).1=q at hqM hqB ⊢;rw[w6 b q.2.1 hb.1];unfold rZ;dsimp only[oB];cases hk:aG (ax b q.2.1) 0 with
             | true => dsimp only[oT];rw[As m 3 [] [] hmB (aeC _) (aeC _)];try rfl
             | false =>
               obtain⟨i,y,e,hy⟩:=dQ (of_decide_eq_false hk);have hgy:gt aP b (ax b q.2.1)=y:=by rw[e]; exact aH _ hy
               have hgp:gt d94 b (ax b q.2.1)=y:=by rw[e]; exact aH _ hy
               have hin:aZ (ax b q.2.1) b=true:=by rw[e]; exact az hy
               have hyB:=wa (hb.2 y (aet hy));have hso:=NY (slotsOf y) q.2.2.2.2.1 q.2.2.2.2.2.1 hyB.1 hyB.2;rw[hin,hgp,hgy];dsimp only[oT,oF];refine(bn hso).trans ?_;unfold Ae;dsimp only[oB];cases ho2:ia (slotsOf y) q.2.2.2.2.1 q.2.2.2.2.2.1 with
               | some o=>rfl
               | none =>
                 dsimp only[oT,oF];show cond (aj (ae (slotsOf y)) 6) _ _=_;cases h6:aj (ae (slotsOf y)) 6 with
                 | true => dsimp only[oT];rw[As m 10 [] [] hmB (aeC _) (aeC _)];try rfl
                 | false =>
                   dsimp only[oF];obtain⟨hs,j,z,e2,hz⟩:=xw hbk hk (by rw[hgy]; exact ho2) (by rw[hgy]; exact h6) hmM hr hqM (now:=now);have hrep:=As m (dn b q now).2.1 q.2.2.2.1 (dn b q now).2.2 hmB hqB.2.2.1 (Cp (uc b q now));rw[T8 b q now hb hqB];dsimp only[oB];rw[hrep];dsimp only[oB];have hgn:gt aP (ck b q now) (ax b q.2.1)=z:=by rw[e2]; exact aH _ hz
                   have hgd:gt d94 (ck b q now) (ax b q.2.1)=z:=by rw[e2]; exact aH _ hz
                   have hib:aZ (ax b q.2.1) (ck b q now)=true:=by rw[e2]; exact az hz
                   rw[hgn]at hs;have hput:=HP hs;unfold tX;rw[hgn];cases hz0:aj (dn b q now).2.1 0 with
                   | true =>
                     have hnx:ck b q now=(dn b q now).1:=by unfold ck; rw[hz0];try rfl
                     rw[hnx]at hgd hib ⊢;dsimp only[oT,oF,oN];rw[hib,hgd];dsimp only[oT];exact bn hput
                   | false =>
                     have hnx:ck b q now=b:=by unfold ck; rw[hz0];try rfl
                     rw[hnx]at hgd ⊢;have hzy:z=y:=hgd.symm.trans hgp;subst hzy;exact bn hput
abbrev kX:=Int×aD×aD×Unit
def sW(b:List ar)(now:Int):List ar:=b.map fun a=>ay a now
theorem B5{b:List ar}(now:Int)(hb:dF b):dF (sW b now):=⟨by unfold sW; rw[afO]; exact hb.1,fun a ha=>by obtain⟨y,hy,rfl⟩:=afM.1 ha;exact dq now (hb.2 y hy)⟩
theorem FB(xs:List ar)(now:Int)(hb:dF xs):g72 (xs,()) now=zR (sW xs now):=by
 have hbig:=bb;have hs:=hb.1;unfold g72 EW sW;have h:=aY (step:=BU kM) xs (fun i (a:List ar)=>(((now,()),()),xs,ae xs,((i:Nat):Int),([],()),(a,()),())) (fun _ x a=>Sum.inl (a++[ay x now])) (fun a=> .inl (((now,()),()),xs,ae xs,(xs.length:Int),([],()),(a,()),())) (fun i a=>a.length=i) (a0:=[]) rfl (fun i x a hx ha=>by
  have hlt:=ai hx;have hm:=hb.2 x (aet hx);show kM ((now,()),()) xs (ae xs) (i:Int) ([],()) (a,())=_;unfold kM We;have e:∀ y:ar,a6 160 a [y]=true:=fun y=>aey (by simp; omega)
  have e0:gt d94 xs (i:Int)=x:=aH _ hx;rw[aI hx,az hx,e0];dsimp only[oT];rw[ly x now hm];dsimp only[oB];rw[e,aS (by omega)];try rfl) (fun i x a a' hx ha hf=>by
  simp only[aeO]at hf;rw[<- hf,aep,ha];try rfl) (fun a ha=>by
  show kM ((now,()),()) xs (ae xs) (xs.length:Int) ([],()) (a,())=_;unfold kM;rw[aA rfl];try rfl)
 rw[BQ]at h;have h':B7 ((now,()),()) xs (ae xs) 0 ([],()) ([],())=_:=h;rw[h'];try rfl
def WY(s:List fJ)(i:Nat):Bool:=match s[i]? with | some k=>aj k.1 1 | none=>false
def nW(s:List fJ)(i:Nat)(e:kX)(b:List ar):List ar×aD:=gA (cond (WY s i) (sW b e.1) b) e.2.1 e.1
def Is(s:List fJ)(i:Nat)(e:kX)(a:List ar×List (aD×Unit)):List ar×List (aD×Unit):=((nW s i e a.1).1,a.2++[((nW s i e a.1).2,())])
def foldI{α A:Type}(F:Nat->α->A->A):Nat->List α->A->A
 | _,[],a=>a
 | i,x::r,a=>foldI F (i+1) r (F i x a)
theorem uj{α A Y:Type}(F:Nat->α->A->A)(z:A->Y):∀(xs:List α) (i:Nat) (a:A),ko (fun i x a=>Sum.inl (F i x a)) z i xs a=z (foldI F i xs a)
 | [],_,_=>rfl
 | x::r,i,a=>uj F z r (i+1) (F i x a)
theorem zD{α A:Type}(F:Nat->α->A->A)(I:Nat->A->Prop):∀(xs:List α) (i:Nat) (a:A),I i a->(∀ j x a,xs[j]? = some x->I (i+j) a->I (i+j+1) (F (i+j) x a))->I (i+xs.length) (foldI F i xs a)
 | [],i,a,h,_=>h
 | x::r,i,a,h,hs=>by
   have:=zD F I r (i+1) (F i x a) (hs 0 x a rfl h) fun j y b hy hb=>by have:=hs (j+1) y b hy (by rw[show i+(j+1)=i+1+j by omega]; exact hb);rw[show i+(j+1)=i+1+j by omega]at this;exact this
   rw[show i+(x::r).length=i+1+r.length by simp only[aeF]; omega];exact this
def runM(s:List fJ)(l:List kX)(b:List ar):List ar×List (aD×Unit):=foldI (Is s) 0 l (b,[])
def Ac(l:List kX):Prop:=l.length<=1048576/\∀ e∈l,zz e.2.1
theorem Iw{l:List cG}(h:dS l=true):∀ z∈l,z.2.2.1.length<=200:=by
 unfold dS at h;cases ha:allI (cR l) 0 l with
 | false=>rw[ha]at h; cases h
 | true =>
   intro z hz;obtain⟨i,hi⟩:=agr.1 hz;have:=gq _ ha hi;unfold cR at this;cases hm:j6 z with
   | false=>rw[hm]at this; cases this
   | true => unfold j6 at hm;simp only[agF,aeo]at hm;have h3:=bl.1 hm.2.2;unfold ae at h3;omega
def HOr(P:aD->Prop)(b:List ar)(now:Int)(v:List ar×aD):Prop:=(v.1=b/\P v.2)∨∃ m q,je b=true/\CX q/\dS (slotsOf (gt aP (ck b q now) (ax b q.2.1))++[ib b m q now])=true/\v=tX b m q now
theorem yo(P:aD->Prop)(p0:P [])(hrp:∀ m c h t,P (ru m c h t))(hbr:∀ t,P (ll (jV t 1).1))(b:List ar)(x:aD)(now:Int)(hsl:∀ a∈b,bh a=true->∀ z∈slotsOf a,P z.2.2.1):HOr P b now (gA b x now):=by
 have h0:∀ o:aD,P o->HOr P b now (b,o):=fun o ho=> .inl ⟨rfl,ho⟩
 unfold gA;cases hbk:je b <;> first | exact h0 [] p0 | skip
 cases a7 now <;> first | exact h0 [] p0 | skip
 cases ho:gP x 0 4 with
 | none=>exact h0 [] p0
 | some t =>
   dsimp only[oT];cases hr:bk (cN t) [] <;> first | exact h0 [] p0 | skip
   cases hp0:aj (dY x).2 0 <;> first | exact h0 _ (hbr t) | skip
   have hm1:=sP ho hp0;have hmB:=yA x;dsimp only[oT,oF];unfold vC;generalize (dY x).1=m at hm1 hmB ⊢;subst hm1;cases hq0:aj (fH m).2 0 <;> first | exact h0 _ (hrp _ _ _ _) | skip
   obtain⟨hmM,hqM⟩:=ya hq0;have hqB:=Bc hmB;generalize (fH m).1=q at hqM hqB ⊢;unfold rZ;dsimp only[oT];cases hk:aG (ax b q.2.1) 0 <;> first | exact h0 _ (hrp _ _ _ _) | skip
   dsimp only[oF];cases hs:ia (slotsOf (gt aP b (ax b q.2.1))) q.2.2.2.2.1 q.2.2.2.2.2.1 with
   | some o =>
     refine h0 o ?_;obtain⟨i,y,e,hy⟩:=dQ (of_decide_eq_false hk);have hgy:gt aP b (ax b q.2.1)=y:=by rw[e]; exact aH _ hy
     rw[hgy]at hs;unfold ia at hs;obtain⟨z,hz,rfl⟩:=afS.1 hs;exact hsl y (aet hy) (vR hbk hy) z (agO hz)
   | none =>
     dsimp only;cases h6:aj (ae (slotsOf (gt aP b (ax b q.2.1)))) 6 <;> first | exact h0 _ (hrp _ _ _ _) | skip
     exact .inr ⟨m,q,hbk,hqB,(xw hbk hk hs h6 hmM hr hqM).1,rfl⟩
theorem KA(b:List ar)(x:aD)(now:Int):HOr (fun o=>o.length<=200) b now (gA b x now) :=
 yo (fun o=>o.length<=200) (aeC _) (fun m c h t=>aeA (Qm m c h t) (by decide)) (fun t=>aeA (Qp t 1) (by decide)) b x now fun _ _ hm z hz=>Iw (uJ hm) z hz
theorem zT{b:List ar}(x:aD)(now:Int)(hb:dF b):dF (gA b x now).1:=by
 rcases KA b x now with ⟨h,_⟩ | ⟨m,q,_,_,hs,h⟩
 . rw[h]; exact hb
 . rw[h]; exact Oa hb hs
theorem HF(s:List fJ)(i:Nat)(e:kX){b:List ar}(hb:dF b):dF (nW s i e b).1:=by
 unfold nW;cases WY s i with
 | false=>exact zT _ _ hb
 | true=>exact zT _ _ (B5 _ hb)
theorem Rj(b:List ar)(l:List kX)(s:List fJ)(hb:dF b)(hl:Ac l)(hs:s.length<=1048576):Yw (b,()) l s=some ((),(((runM s l b).1,()),((runM s l b).2,()),())):=by
 have hbig:=bb;have h1:=hl.1;unfold Yw runM;rw[x6 b hb];dsimp only[oB];have h:=aY (step:=zO uT) l (fun i (a:List ar×List (aD×Unit))=>(s,a.2,l,ae l,((i:Nat):Int),(([],()):List ar×Unit),(a.1,()),())) (fun i e a=>Sum.inl (Is s i e a)) (fun a=> .inl (s,a.2,l,ae l,(l.length:Int),([],()),(a.1,()),())) (fun i a=>dF a.1/\a.2.length<=i) (a0:=(b,[])) ⟨hb,oR _⟩ (fun i e a hx ha=>by
  have hlt:=ai hx;have hB:=hl.2 e (aet hx);have hfit:∀ v:aD×Unit,a6 24 a.2 [v]=true:=fun v=>aey (by show(a.2.length+1) * 24<=bG; omega)
  show uT s a.2 l (ae l) (i:Int) ([],()) (a.1,())=_;unfold uT Is nW;dsimp only;rw[aI hx,az hx,aH _ hx];dsimp only[oT];rw[NF a.1 e.2.1 e.1 ha.1 hB,FB a.1 e.1 ha.1,aS (by omega)];dsimp only[oB];rw[NF (sW a.1 e.1) e.2.1 e.1 (B5 _ ha.1) hB];dsimp only[oB];rw[hfit,hfit];by_cases hi:i<s.length
  . have hk:s[i]? = some (s[i]'hi):=aeq hi;generalize s[i]'hi=k at hk;have hsw:WY s i=aj k.1 1:=by unfold WY; rw[hk]
    rw[aI hk,az hk,aH _ hk,hsw];cases aj k.1 1 <;> rfl
  . rw[aJ (by unfold ae; omega),show WY s i=false by unfold WY; rw[aeE (by omega)]];try rfl) (fun i e a a' hx ha hf=>by
  simp only[aeO]at hf;rw[<- hf];refine⟨HF s i e ha.1,?_⟩;show(a.2++[((nW s i e a.1).2,())]).length<=_;rw[aep,age];omega) (fun a ha=>by
  show uT s a.2 l (ae l) (l.length:Int) ([],()) (a.1,())=_;unfold uT;rw[aA rfl];try rfl)
 rw[uj]at h;exact bn h
theorem ZA(b:List ar)(l:List kX)(hb:dF b)(hl:Ac l):g23 (b,()) l=some ((),(((runM [] l b).1,()),((runM [] l b).2,()),())):=by
 have hbig:=bb;have h1:=hl.1;unfold g23 runM;rw[w7 b hb];dsimp only[oB];have h:=aY (step:=BU yj) l (fun i (a:List ar×List (aD×Unit))=>(a.2,l,ae l,((i:Nat):Int),(([],()):List ar×Unit),(a.1,()),())) (fun i e a=>Sum.inl (Is [] i e a)) (fun a=> .inl (a.2,l,ae l,(l.length:Int),([],()),(a.1,()),())) (fun i a=>dF a.1/\a.2.length<=i) (a0:=(b,[])) ⟨hb,oR _⟩ (fun i e a hx ha=>by
  have hlt:=ai hx;have hB:=hl.2 e (aet hx);have hfit:∀ v:aD×Unit,a6 24 a.2 [v]=true:=fun v=>aey (by show(a.2.length+1) * 24<=bG; omega)
  show yj a.2 l (ae l) (i:Int) ([],()) (a.1,())=_;unfold yj Is nW;dsimp only;rw[aI hx,az hx,aH _ hx];dsimp only[oT];rw[Uv a.1 e.2.1 e.1 ha.1 hB,aS (by omega)];dsimp only[oB];rw[hfit];try rfl) (fun i e a a' hx ha hf=>by
  simp only[aeO]at hf;rw[<- hf];refine⟨HF [] i e ha.1,?_⟩;show(a.2++[((nW [] i e a.1).2,())]).length<=_;rw[aep,age];omega) (fun a ha=>by
  show yj a.2 l (ae l) (l.length:Int) ([],()) (a.1,())=_;unfold yj;rw[aA rfl];try rfl)
 rw[uj]at h;exact bn h
theorem XL(b:List ar)(l:List kX)(hb:dF b)(hl:Ac l):g24 (b,()) l=some ((),(((runM [] l b).1,()),((runM [] l b).2,()),())):=by unfold g24;rw[Rj b l [] hb hl (aeC _)];try rfl
def jP(b:aD):Prop:=∀ x∈b,0<=x.1/\x.1<=255
theorem vH{a b:aD}(ha:jP a)(hb:jP b):jP (a++b):=fun x hx=>(afw.1 hx).elim (ha x) (hb x)
theorem mV:jP []:=fun x hx=>by simp at hx
theorem zG:∀(s:S8),(∀ x∈s,er x=true)->jP (kD s)
 | [],_=>mV
 | [_],_=>mV
 | x::y::r,h=>fun z hz=>by
   rw[kD]at hz;rcases aew.1 hz with rfl | hz
   . have h1:=cl.1 (h x (by simp));have h2:=cl.1 (h y (by simp));show 0<=(((x.toNat-48) * 16+(y.toNat-48):Nat):Int)/\(((x.toNat-48) * 16+(y.toNat-48):Nat):Int)<=255;omega
   . exact zG r (fun w hw=>h w (aeB _ (aeB _ hw))) z hz
theorem vP(s:S8):jP (cQ s):=by
 unfold cQ;cases hd:aF s with
 | false=>exact mV
 | true =>
   cases bM (ae s) 38 with
   | false=>exact mV
   | true =>
     refine zG _ fun x hx => ?_
     unfold uR at hx;split at hx
     . rcases aew.1 hx with rfl | hx
       . decide
       . exact fm hd x hx
     . exact fm hd x hx
theorem O6(s:S8):jP (JX s):=fun x hx=>by unfold JX bytesOf at hx;obtain⟨c,_,rfl⟩:=afM.1 hx;have:=c.toNat_lt;show 0<=(c.toNat:Int)/\(c.toNat:Int)<=255;omega
theorem C0(no:Int)(s:S8):jP (E2 no s):=by
 unfold E2;cases cond (aj (bg no) 1) true (aj (bg no) 3)with
 | true=>exact vP s
 | false=>exact O6 s
theorem MF(no:Int)(s:S8):jP (pQ no s):=by
 unfold pQ;cases cV no s with
 | false=>exact mV
 | true =>
   cases cond (aj (bg no) 1) true (aj (bg no) 2)with
   | true=>exact C0 no s
   | false=>exact vH (vP _) (C0 no s)
theorem wA(l:List fJ):jP (dJ l):=by
 have:∀(l:List fJ) (o:aD),O8 o->O8 (l.foldl (fun o k=>cond (cE k.1 1 64) (kz o (k.1.toNat-1)) o) o):=fun l=>by
  induction l with
  | nil=>exact fun o h=>h
  | cons k r ih =>
    intro o h;rw[afb];refine ih _ ?_;cases hk:cE k.1 1 64 with
    | false=>exact h
    | true => have:=bl.1 hk;exact(kL h (by omega)).1
 exact(this l _ A2).2
theorem rq(m:bd):jP (ll m):=by
 unfold ll;cases eR m with
 | false=>exact mV
 | true =>
   refine vH (vP _) (vH ?_ fun x hx => ?_)
   . unfold xM;cases aG 0 (ae (rk m.2.1))with
     | false=>exact wA _
     | true=>exact vH (wA _) (wA _)
   . unfold eO at hx;obtain⟨p,hp,hx⟩:=List.mem_flatten.1 hx;obtain⟨f,_,rfl⟩:=afM.1 hp;exact MF f.1 f.2.1 x hx
def ny(b:List ar):Prop:=∀ a∈b,∀ z∈slotsOf a,jP z.2.2.1
theorem Ih{b c:List ar}(h:c.map jZ=b.map jZ)(hb:ny b):ny c:=fun a ha=>by have h1:jZ a∈b.map jZ:=h ▸ List.mem_map_of_mem ha;obtain⟨y,hy,e⟩:=afM.1 h1;have e2:slotsOf y=slotsOf a:=aeU Prod.snd e;rw[<- e2];exact hb y hy
theorem Nf{b:List ar}(hb:ny b)(k:Int):∀ z∈slotsOf (gt aP b k),jP z.2.2.1:=by
 unfold gt;rw[afn];cases h:b[k.toNat]? with
 | none=>exact fun z hz=>absurd hz List.not_mem_nil
 | some y=>exact hb y (aet h)
theorem Rx{b:List ar}(x:aD)(now:Int)(hr:ny b):ny (gA b x now).1/\jP (gA b x now).2:=by
 rcases yo jP mV (fun m c h t=>rq _) (fun t=>rq _) b x now (fun a ha _ z hz=>hr a ha z hz)with ⟨h,h2⟩ | ⟨m,q,_,_,_,h⟩
 . rw[h]; exact⟨hr,h2⟩
 . rw[h];have hn:ny (ck b q now):=Ih (yw b q now) hr;refine⟨fun a ha => ?_,rq _⟩;unfold tX dw at ha;rcases agw ha with ha | rfl
   . exact hn a ha
   . intro z hz;rcases afw.1 (show z∈slotsOf (gt aP (ck b q now) (ax b q.2.1))++[ib b m q now]from hz)with hz | hz
     . exact Nf hn _ z hz
     . rw[agd.1 hz]; exact rq _
theorem MM(l:List kX)(b:List ar)(hr:ny b):(runM [] l b).2.length=l.length/\∀ r∈(runM [] l b).2,jP r.1:=by
 have:=zD (Is []) (fun i a=>ny a.1/\a.2.length=i/\∀ r∈a.2,jP r.1) l 0 (b,[]) ⟨hr,rfl,fun r hr=>by simp at hr⟩ fun j e a _ h=>by
  have h2:ny (nW [] (0+j) e a.1).1/\jP (nW [] (0+j) e a.1).2:=Rx e.2.1 e.1 h.1;refine⟨h2.1,?_,fun r hr => ?_⟩
  . show(a.2++[((nW [] (0+j) e a.1).2,())]).length=_;rw[aep,h.2.1];try rfl
  . rcases afw.1 hr with hr | hr
    . exact h.2.2 r hr
    . rw[agd.1 hr]; exact h2.2
 rw[aex]at this;exact this.2
def Lq(a b:aD):Bool:=cond (aj (ae a) (ae b)) (allI (fun i x=>aj x.1 (gt (0,()) b (i:Int)).1) 0 a) false
theorem YF(a b:aD)(hs:b.length<=1048576):g38 a b=zR (Lq a b):=by
 unfold g38 Lq;dsimp only;cases he:aj (ae a) (ae b)with
 | false=>rfl
 | true =>
   have hl:a.length=b.length:=by have:=ba.1 he; unfold ae at this; omega
   have h:=aL (step:=da xW) a (fun i (_:Unit)=>(a,b,ae a,((i:Nat):Int),())) (fun i x _=>bif aj x.1 (gt (0,()) b (i:Int)).1 then Sum.inl ()else .inr (.inr (false,()))) (fun _=> .inl (a,b,ae a,(a.length:Int),())) (a0:=()) (fun i x u hx=>by
    have hlt:=ai hx;show xW a b (ae a) (i:Int)=_;unfold xW;rw[aI hx,az hx,aH _ hx,aS (by unfold bG; omega),fK (xs:=b) (by omega)];dsimp only[oT];show cond (!(aj x.1 (gt (0,()) b (i:Int)).1)) _ _=_;cases aj x.1 (gt (0,()) b (i:Int)).1 <;> rfl) (fun u=>by
    show xW a b (ae a) (a.length:Int)=_;unfold xW;rw[aA rfl];try rfl)
   rw[fF]at h;refine(bn h).trans ?_;dsimp only[oT];cases allI _ 0 a <;> rfl
theorem zQ:∀ {a b:aD},jP a->jP b->strOf a=strOf b->a=b
 | [],[],_,_,_=>rfl
 | [],_::_,_,_,h=>by cases h
 | _::_,[],_,_,h=>by cases h
 | x::a,y::b,ha,hb,h=>by have h1:UInt8.ofNat x.1.toNat=UInt8.ofNat y.1.toNat:=List.head_eq_of_cons_eq h;have h2:strOf a=strOf b:=List.tail_eq_of_cons_eq h;have hx:=ha x (by simp);have hy:=hb y (by simp);have h3:=aeU UInt8.toNat h1;rw[agB,agB]at h3;have e:x=y:=Prod.ext (by omega) rfl;rw[e,zQ (fun z hz=>ha z (aeB _ hz)) (fun z hz=>hb z (aeB _ hz)) h2]
theorem xZ{α:Type}{p:Nat->α->Bool}:∀ {xs:List α} {k:Nat},(∀ i x,xs[i]? = some x->p (k+i) x=true)->allI p k xs=true
 | [],_,_=>rfl
 | x::r,k,h=>by
   have h0:=h 0 x rfl;have h1:allI p (k+1) r=true:=xZ fun i y hy=>by have:=h (i+1) y hy;rwa [show k+(i+1)=k+1+i by omega]at this
   rw[aeQ]at h0;rw[allI,h0,h1];try rfl
theorem P6{a b:aD}(ha:jP a)(hb:jP b):Lq a b=bk (strOf a) (strOf b):=by
 rw[Bool.eq_iff_iff,Ge];constructor
 . intro h;congr 1;unfold Lq at h;cases he:aj (ae a) (ae b)with
   | false=>rw[he]at h; cases h
   | true =>
     rw[he]at h;have hl:a.length=b.length:=by have:=ba.1 he; unfold ae at this; omega
     refine List.ext_getElem hl fun i h1 h2 => ?_
     have:=ba.1 (gq _ h (aeq h1));rw[aex,aH _ (aeq h2)]at this;exact Prod.ext this rfl
 . intro h;have h:=zQ ha hb h;subst h;unfold Lq;rw[bX];exact xZ fun i x hx=>by rw[aex,aH _ hx]; exact bX _
def BA(r:List (aD×Unit))(l:List kX):Bool:=allI (fun i (e:kX)=>bk (strOf (gt ([],()) r (i:Int)).1) (strOf e.2.2.1)) 0 l
theorem QB(b:List ar)(l:List kX)(hb:dF b)(hl:Ac l)(hr:ny b)(hw:∀ e∈l,jP e.2.2.1/\e.2.2.1.length<=1048576):g9 (b,()) l=zR (BA (runM [] l b).2 l):=by
 have hbig:=bb;have h1:=hl.1;have hR:=MM l b hr;unfold g9;rw[ZA b l hb hl];dsimp only[oB];generalize (runM [] l b).2=r at hR ⊢;have h:=aL (step:=da FV) l (fun i (_:Unit)=>(r,l,ae l,((i:Nat):Int),())) (fun i e _=>bif bk (strOf (gt ([],()) r (i:Int)).1) (strOf e.2.2.1)then Sum.inl ()else .inr (.inr (false,()))) (fun _=> .inl (r,l,ae l,(l.length:Int),())) (a0:=()) (fun i e u hx=>by
  have hlt:=ai hx;have hm:=hw e (aet hx);obtain⟨y,hy⟩:∃ y,r[i]? = some y:=⟨_,aeq (by rw[hR.1]; exact hlt)⟩;have hyr:=hR.2 y (aet hy);have e1:∀ d,gt d r (i:Int)=y:=fun d=>aH d hy
  show FV r l (ae l) (i:Int)=_;unfold FV;rw[aI hx,az hx,az hy,aH _ hx,aS (by omega),e1,e1];dsimp only[oT];show cond (!(bk (strOf y.1) (strOf e.2.2.1))) _ _=_;cases bk (strOf y.1) (strOf e.2.2.1) <;> rfl) (fun u=>by
  show FV r l (ae l) (l.length:Int)=_;unfold FV;rw[aA rfl];try rfl)
 rw[fF]at h;refine(bn h).trans ?_;unfold BA;cases allI _ 0 l <;> rfl
theorem PV(b:List ar)(l:List kX)(hb:dF b)(hl:Ac l)(hr:ny b)(hw:∀ e∈l,jP e.2.2.1/\e.2.2.1.length<=1048576):g12 (b,()) l=zR (BA (runM [] l b).2 l):=by
 have hbig:=bb;have h1:=hl.1;have hR:=MM l b hr;unfold g12;rw[XL b l hb hl];dsimp only[oB];generalize (runM [] l b).2=r at hR ⊢;have h:=aL (step:=da xi) l (fun i (_:Unit)=>(r,l,ae l,((i:Nat):Int),())) (fun i e _=>bif bk (strOf (gt ([],()) r (i:Int)).1) (strOf e.2.2.1)then Sum.inl ()else .inr (.inr (false,()))) (fun _=> .inl (r,l,ae l,(l.length:Int),())) (a0:=()) (fun i e u hx=>by
  have hlt:=ai hx;have hm:=hw e (aet hx);obtain⟨y,hy⟩:∃ y,r[i]? = some y:=⟨_,aeq (by rw[hR.1]; exact hlt)⟩;have hyr:=hR.2 y (aet hy);have e1:∀ d,gt d r (i:Int)=y:=fun d=>aH d hy
  show xi r l (ae l) (i:Int)=_;unfold xi;rw[aI hx,az hx,az hy,aH _ hx,aS (by omega),e1,e1];dsimp only[oT];refine(bn (YF y.1 e.2.2.1 hm.2)).trans ?_;rw[P6 hyr hm.1];dsimp only[oB];cases bk (strOf y.1) (strOf e.2.2.1) <;> rfl) (fun u=>by
  show xi r l (ae l) (l.length:Int)=_;unfold xi;rw[aA rfl];try rfl)
 rw[fF]at h;refine(bn h).trans ?_;unfold BA;cases allI _ 0 l <;> rfl
end Go.Av
