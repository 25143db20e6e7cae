/- FnExactHandle, a part. -/
import Derived.Test.YtcmhjdkpbgncfaaGreatDoorQ3
set_option maxRecDepth 100000
set_option maxHeartbeats 4000000
namespace Go.Av
abbrev dI:=Int×S8×Unit
abbrev bl:=S8×List dI×Unit
def gB(m:bl):Prop:=m.1.length<=1048576/\m.2.1.length<=1048576/\∀ f∈m.2.1,f.2.1.length<=1048576
def fD(xs:List dI)(i:Nat)(x:dI):Bool:=cond (dm x.1 x.2.1) (cond (decide (0<i)) (!(bT x.1 (gt (0,[],()) xs ((i:Int)-1)).1)) true) false
def fk(m:bl):Bool:=cond (cond (aF m.1) (aj (ae m.1) 4) false) (allI (fD m.2.1) 0 m.2.1) false
theorem Fj(m:bl)(hb:gB m):Od m.2.1 (ae m.2.1) 0 m=some (bif allI (fD m.2.1) 0 m.2.1 then .inl (m.2.1,ae m.2.1,(m.2.1.length:Int),m,())else .inr (false,())):=by
 have hbig:=bh;obtain⟨mti,xs,u⟩:=m;obtain⟨_,hl,hf⟩:=hb;dsimp only at hl hf ⊢;have h:=aQ (step:=dJ yv) xs (fun i (_:Unit)=>(xs,ae xs,((i:Nat):Int),(mti,xs,()),())) (fun i x _=>bif fD xs i x then Sum.inl ()else .inr (.inr (false,()))) (fun _=> .inl (xs,ae xs,(xs.length:Int),(mti,xs,()),())) (a0:=()) (fun i x a hx=>by
  have hlt:=ai hx;show yv xs (ae xs) (i:Int) (mti,xs,())=_;unfold yv fD;rw[aM hx,aC hx,aO _ hx];dsimp only[oT];rw[yh _ _ (bO (hf x (aet hx))),aU (by omega)];dsimp only[oB];cases dm x.1 x.2.1 with
  | false=>rfl
  | true =>
    by_cases h0:0<i
    . rw[aP (show(0:Int)<i by omega),bA (by omega) (by omega),mA hx h0];dsimp only[oT,oF,oN];have e:gt d117 xs ((i:Int)-1)=gt (0,[],()) xs ((i:Int)-1):=rfl;rw[e,aeq h0];cases bT x.1 (gt (0,[],()) xs ((i:Int)-1)).1 <;> rfl
    . rw[aG (show ¬ (0:Int)<i by omega),aeL h0];try rfl) (fun a=>by
  show yv xs (ae xs) (xs.length:Int) (mti,xs,())=_;unfold yv;rw[aA rfl];try rfl)
 rw[jd]at h;have h':Od xs (ae xs) 0 (mti,xs,())=_:=h;rw[h']
theorem Hh(m:bl)(hb:gB m):VG m=zR (fk m):=by
 unfold VG fk;rw[fg _ (bO hb.1)];dsimp only[oB];cases aF m.1 with
 | false=>rfl
 | true =>
 cases aj (ae m.1) 4 with
 | false=>rfl
 | true => refine(bn (Fj m hb)).trans ?_;show _=zR (allI (fD m.2.1) 0 m.2.1);cases allI (fD m.2.1) 0 m.2.1 <;> rfl
theorem EK(m:bl)(hb:gB m):FK m.2.1 (ae m.2.1) 0 m=some (bif allI (fD m.2.1) 0 m.2.1 then .inl (m.2.1,ae m.2.1,(m.2.1.length:Int),m,())else .inr (false,())):=by
 have hbig:=bh;obtain⟨mti,xs,u⟩:=m;obtain⟨_,hl,hf⟩:=hb;dsimp only at hl hf ⊢;have h:=aQ (step:=dJ qt) xs (fun i (_:Unit)=>(xs,ae xs,((i:Nat):Int),(mti,xs,()),())) (fun i x _=>bif fD xs i x then Sum.inl ()else .inr (.inr (false,()))) (fun _=> .inl (xs,ae xs,(xs.length:Int),(mti,xs,()),())) (a0:=()) (fun i x a hx=>by
  have hlt:=ai hx;show qt xs (ae xs) (i:Int) (mti,xs,())=_;unfold qt fD;rw[aM hx,aC hx,aO _ hx];dsimp only[oT];rw[DR _ _ (bO (hf x (aet hx))),aU (by omega)];dsimp only[oB];cases dm x.1 x.2.1 with
  | false=>rfl
  | true =>
    by_cases h0:0<i
    . rw[aP (show(0:Int)<i by omega),bA (by omega) (by omega),mA hx h0];dsimp only[oT,oF,oN];have e:gt d117 xs ((i:Int)-1)=gt (0,[],()) xs ((i:Int)-1):=rfl;rw[e,aeq h0];cases bT x.1 (gt (0,[],()) xs ((i:Int)-1)).1 <;> rfl
    . rw[aG (show ¬ (0:Int)<i by omega),aeL h0];try rfl) (fun a=>by
  show qt xs (ae xs) (xs.length:Int) (mti,xs,())=_;unfold qt;rw[aA rfl];try rfl)
 rw[jd]at h;have h':FK xs (ae xs) 0 (mti,xs,())=_:=h;rw[h']
theorem zH(s:S8)(n:Int)(hs:s.length<=bN):vD s n=zR (cond (aF s) (aj (ae s) n) false):=by unfold vD;rw[gW s hs];try rfl
theorem DF(m:bl)(hb:gB m):D0 m=zR (fk m):=by
 unfold D0 fk;refine(bn (EK m hb)).trans ?_;cases allI (fD m.2.1) 0 m.2.1 with
 | true =>
   show Option.bind (vD m.1 4) _=_;rw[zH m.1 4 (bO hb.1)];dsimp only[oB];cases aF m.1 with
   | false=>rfl
   | true=>cases aj (ae m.1) 4 <;> rfl
 | false =>
   cases aF m.1 with
   | false=>rfl
   | true=>cases aj (ae m.1) 4 <;> rfl
def iq(m:bl)(no:Int):Option S8:=(m.2.1.find? fun f=>aj f.1 no).map (·.2.1)
def Fv(o:Option S8):Option (Unit×((S8×Unit)×(Bool×Unit)×Unit)):=some ((),match o with | some s=>((s,()),(true,()),()) | none=>(([],()),(false,()),()))
theorem vk(m:bl)(no:Int)(hb:gB m):wk m no=Fv (iq m no):=by
 have hbig:=bh;have hl:=hb.2.1;unfold wk;have h:=aQ (step:=dJ wP) m.2.1 (fun i (_:Unit)=>(no,m.2.1,ae m.2.1,((i:Nat):Int),())) (fun i x _=>bif aj x.1 no then .inr (.inr (x.2.1,true,()))else .inl ()) (fun _=> .inl (no,m.2.1,ae m.2.1,(m.2.1.length:Int),())) (a0:=()) (fun i x a hx=>by
  have hlt:=ai hx;show wP no m.2.1 (ae m.2.1) (i:Int)=_;unfold wP;rw[aM hx,aC hx,aO _ hx,aU (by omega)];dsimp only[oT];cases aj x.1 no <;> rfl) (fun a=>by
  show wP no m.2.1 (ae m.2.1) (m.2.1.length:Int)=_;unfold wP;rw[aA rfl];try rfl)
 rw[mH]at h;have h':TA no m.2.1 (ae m.2.1) 0=_:=h;refine(bn h').trans ?_;unfold iq Fv;cases m.2.1.find? _ <;> rfl
theorem Mj(m:bl)(no:Int)(hb:gB m):Em m no=Fv (iq m no):=by
 have hbig:=bh;have hl:=hb.2.1;unfold Em;have h:=aQ (step:=dJ qY) m.2.1 (fun i (_:Unit)=>(no,m.2.1,ae m.2.1,((i:Nat):Int),())) (fun i x _=>bif aj x.1 no then .inr (.inr (x.2.1,true,()))else .inl ()) (fun _=> .inl (no,m.2.1,ae m.2.1,(m.2.1.length:Int),())) (a0:=()) (fun i x a hx=>by
  have hlt:=ai hx;show qY no m.2.1 (ae m.2.1) (i:Int)=_;unfold qY;rw[aM hx,aC hx,aO _ hx,aU (by omega)];dsimp only[oT];cases aj x.1 no <;> rfl) (fun a=>by
  show qY no m.2.1 (ae m.2.1) (m.2.1.length:Int)=_;unfold qY;rw[aA rfl];try rfl)
 rw[mH]at h;have h':L9 no m.2.1 (ae m.2.1) 0=_:=h;refine(bn h').trans ?_;unfold iq Fv;cases m.2.1.find? _ <;> rfl
def kV(b:aI):aI->Nat->List dI->Option (List dI×Nat)
 | [],a,o=>some (o,a)
 | x::r,a,o=>match pJ b a x.1 with
   | some (s,e)=>kV b r e (o++[(x.1,s,())])
   | none=>none
def j7(l:aI):aI:=l.map fun x=>(ak .i64 x.1 64,())
def vS(x:Int×Unit):Bool:= !(aj (bt x.1) 0)
def fX(l:aI):aI:=l.filter fun x=> !(aj x.1 1)
def iv(l:aI):Bool:=l.any fun x=>aj x.1 1
def yO(b:aI):Option (aI×Nat) :=
 if 10<=b.length then
  (bif iv (ff (fR b 2 8))then
    (if 18<=b.length/\ff (fR b 10 8)≠[]then (bif (fX (ff (fR b 2 8))++j7 (ff (fR b 10 8))).all vS then some (fX (ff (fR b 2 8))++j7 (ff (fR b 10 8)),18)else none)else none)
  else (bif (fX (ff (fR b 2 8))).all vS then some (fX (ff (fR b 2 8)),10)else none))
 else none
def cU(b:aI):bl×Int:=match hE b 0 4 with
 | none=>(([],[],()),1)
 | some mti=>match yO b with
   | none=>(([],[],()),2)
   | some (nos,a)=>match kV b nos a []with
     | none=>(([],[],()),3)
     | some (l,e)=>if e=b.length then ((mti,l,()),0)else (([],[],()),4)
def Jx(p:bl×Int):Option (Unit×(bl×(Int×Unit)×Unit)):=some ((),(p.1,(p.2,()),()))
theorem YB(b:aI)(hb:Ai b)(h2:2<=b.length):g79 b=some ((),match yO b with | some p=>((p.1,()),((p.2:Int),()),(true,()),()) | none=>(([],()),(0,()),(false,()),())):=by
 have hbig:=bh;have hl:=hb.1;unfold g79 yO;have h0:Ex b 2=_:=KH b 2 hb h2;unfold pS at h0;refine(bn h0).trans ?_;by_cases h10:10<=b.length;rotate_left
 . rw[if_neg h10,if_neg h10];try rfl
 rw[if_pos h10,if_pos h10];have k1:=mD (fR b 2 8);generalize ff (fR b 2 8)=lo at k1 ⊢;have hlow:S5 b 10 [] false lo (ae lo) 0=some (.inl (b,10,fX lo,iv lo,lo,ae lo,(lo.length:Int),())):=by
  have h:=aT (step:=Ft xC) lo (fun i (o:aI×Bool)=>(b,10,o.1,o.2,lo,ae lo,((i:Nat):Int),())) (fun _ x o=>Sum.inl (bif aj x.1 1 then (o.1,true)else (o.1++[x],o.2))) (fun o=> .inl (b,10,o.1,o.2,lo,ae lo,(lo.length:Int),())) (fun i o=>o.1.length<=i) (a0:=([],false)) (oR _) (fun i x o hx ho=>by
   have hlt:=ai hx;show xC b 10 o.1 o.2 lo (ae lo) (i:Int)=_;unfold xC;rw[aM hx,aC hx,aO _ hx,aU (by omega)];have:bj 8 o.1 [x]=true:=aex (by show(o.1.length+1) * 8<=bN; omega);dsimp only[oT];rw[this];cases aj x.1 1 <;> rfl) (fun i x o o' hx ho hf=>by
   simp only[aeK]at hf;rw[<- hf];cases aj x.1 1 with
   | true=>show o.1.length<=_; omega
   | false=>show(o.1++[x]).length<=_; rw[aeo]; show o.1.length+1<=_; omega) (fun o ho=>by
   show xC b 10 o.1 o.2 lo (ae lo) (lo.length:Int)=_;unfold xC;rw[aA rfl];try rfl)
  have hfold:∀(l:aI) (o:aI×Bool),l.foldl (fun o x=>bif aj x.1 1 then (o.1,true)else (o.1++[x],o.2)) o=(o.1++fX l,o.2||iv l):=fun l=>by
   induction l with
   | nil=>intro o; simp[fX,iv]
   | cons x r ih => intro o;rw[afg,ih];unfold fX iv;rw[aff,List.any_cons];cases aj x.1 1 <;> simp
  rw[bQ,hfold]at h;exact h
 have hchk:∀(nos:aI) (a:Int),nos.length<=1000->Ox () a nos (ae nos) 0=some (bif nos.all vS then .inl ((),a,nos,ae nos,(nos.length:Int),())else .inr ([],0,false,())):=fun nos a hn=>by
  have h:=aQ (step:=nM yc) nos (fun i (_:Unit)=>((),a,nos,ae nos,((i:Nat):Int),())) (fun _ x _=>bif vS x then Sum.inl ()else .inr (.inr ([],0,false,()))) (fun _=> .inl ((),a,nos,ae nos,(nos.length:Int),())) (a0:=()) (fun i x o hx=>by
   have hlt:=ai hx;show yc () a nos (ae nos) (i:Int)=_;unfold yc;rw[aM hx,aC hx,aO _ hx,aU (by omega),tH];dsimp only[oT,oB];unfold vS;cases aj (bt x.1) 0 <;> rfl) (fun o=>by
   show yc () a nos (ae nos) (nos.length:Int)=_;unfold yc;rw[aA rfl];try rfl)
  rw[je]at h;refine Eq.trans h ?_;cases nos.all vS <;> rfl
 have hlen:(fX lo).length<=64:=aeu (afc _ _) k1;refine(bn hlow).trans ?_;show cond (iv lo) _ _=_;cases iv lo with
 | false => refine(bn (hchk (fX lo) 10 (by omega))).trans ?_;cases(fX lo).all vS <;> rfl
 | true =>
   have h1:Ex b 10=_:=KH b 10 hb h10;unfold pS at h1;refine(bn h1).trans ?_;by_cases h18:18<=b.length;rotate_left
   . rw[if_neg h18,if_neg (fun h=>h18 h.1)];try rfl
   rw[if_pos h18];have k2:=mD (fR b 10 8);have k3:= @M6 (fR b 10 8);generalize ff (fR b 10 8)=hi at k2 k3 ⊢;by_cases hne:hi=[]
   . rw[if_neg (fun h=>h.2 hne),hne];try rfl
   rw[if_pos ⟨h18,hne⟩];have he:aj (ae hi) 0=false:=beq_eq_false_iff_ne.2 (by
    show(hi.length:Int)≠0;cases hi with
    | nil=>exact absurd rfl hne
    | cons x r=>show((r.length+1:Nat):Int)≠0; omega)
   have hhi:Tk (fX lo) 18 hi (ae hi) 0=some (.inl (fX lo++j7 hi,18,hi,ae hi,(hi.length:Int),())):=by
    have h:=aT (step:=nM yo) hi (fun i (o:aI)=>(o,18,hi,ae hi,((i:Nat):Int),())) (fun _ x o=>Sum.inl (o++[(ak .i64 x.1 64,())])) (fun o=> .inl (o,18,hi,ae hi,(hi.length:Int),())) (fun i o=>o.length=(fX lo).length+i) (a0:=fX lo) rfl (fun i x o hx ho=>by
     have hlt:=ai hx;show yo o 18 hi (ae hi) (i:Int)=_;unfold yo;rw[aM hx,aC hx,aO _ hx,aU (by omega)];have:bj 8 o [(ak .i64 x.1 64,())]=true:=aex (by show(o.length+1) * 8<=bN; omega);rw[this];try rfl) (fun i x o o' hx ho hf=>by
     simp only[aeK]at hf;rw[<- hf,aeo,ho];try rfl) (fun o ho=>by
     show yo o 18 hi (ae hi) (hi.length:Int)=_;unfold yo;rw[aA rfl];try rfl)
    have hfold:∀(l o:aI),l.foldl (fun o x=>o++[(ak .i64 x.1 64,())]) o=o++j7 l:=fun l=>by
     induction l with
     | nil=>intro o; simp[j7]
     | cons x r ih=>intro o; rw[afg,ih]; simp[j7]
    rw[bQ,hfold]at h;exact h
   show cond (cond (!true) true (aj (ae hi) 0)) _ _=_;rw[he];refine(bn hhi).trans ?_;have hla:(fX lo++j7 hi).length<=1000:=by rw[aeo]; unfold j7; rw[afX]; omega
   refine(bn (hchk (fX lo++j7 hi) 18 hla)).trans ?_;cases(fX lo++j7 hi).all vS <;> rfl
theorem wx{α A Y:Type}(p:α->Bool)(f:α->A->A)(y:Y)(z:A->Y):∀(xs:List α) (i:Nat) (a:A),jO (fun _ x a=>bif p x then .inl (f x a)else .inr y) z i xs a=bif xs.all p then z (xs.foldl (fun a x=>f x a) a)else y
 | [],_,_=>rfl
 | x::r,i,a=>by
   rw[jO,afh,afg];cases hp:p x with
   | true=>simp only[oT,agd]; exact wx p f y z r (i+1) _
   | false=>rfl
def Lb(x:Int×Unit)(o:aI×Bool):aI×Bool:=bif aj x.1 1 then (o.1,true)else (o.1++[x],o.2)
theorem H6:∀(l:aI) (o:aI×Bool),l.foldl (fun o x=>Lb x o) o=(o.1++fX l,o.2||iv l):=fun l=>by
 induction l with
 | nil=>intro o; simp[fX,iv]
 | cons x r ih => intro o;rw[afg,ih];unfold Lb fX iv;rw[aff,List.any_cons];cases aj x.1 1 <;> simp
def Mu(x:Int×Unit):Bool:=aj x.1 1||vS x
theorem Nc(l:aI):l.all Mu=(fX l).all vS:=by
 induction l with
 | nil=>rfl
 | cons x r ih => unfold fX at ih ⊢;rw[afh,aff,ih];unfold Mu;cases h:aj x.1 1 <;> simp
theorem X5{o:aI}{x:Int×Unit}(h:o.length<=1048576):bj 8 o [x]=true:=aex (by show(o.length+1) * 8<=140737488355328; omega)
theorem abc(b:aI)(mti:S8)(at':Int)(lo:aI)(hl:lo.length<=64)(m0:bl):Tm b mti at' [] false lo (ae lo) 0 m0=some (bif (fX lo).all vS then .inl (b,mti,at',fX lo,iv lo,lo,ae lo,(lo.length:Int),m0,())else .inr (2,([],[],()),())):=by
 have h:=aT (step:=un9 yr) lo (fun i (o:aI×Bool)=>(b,mti,at',o.1,o.2,lo,ae lo,((i:Nat):Int),m0,())) (fun _ x o=>bif Mu x then Sum.inl (Lb x o)else .inr (.inr (2,([],[],()),()))) (fun o=> .inl (b,mti,at',o.1,o.2,lo,ae lo,(lo.length:Int),m0,())) (fun i o=>o.1.length<=i) (a0:=([],false)) (oR _) (fun i x o hx ho=>by
  have hlt:=ai hx;show yr b mti at' o.1 o.2 lo (ae lo) (i:Int) m0=_;unfold yr;rw[aM hx,aC hx,aO _ hx,aU (by unfold bN; omega)];dsimp only[oT];rw[qH];dsimp only[oB];rw[X5 (by omega)];unfold Mu Lb vS;cases aj x.1 1 <;> cases aj (bt x.1) 0 <;> rfl) (fun i x o o' hx ho hf=>by
  unfold Lb at hf;cases hk:Mu x <;> rw[hk]at hf
  . cases hf
  . cases hf;cases aj x.1 1 with
    | true=>show o.1.length<=_; omega
    | false=>show(o.1++[x]).length<=_; rw[aeo]; show o.1.length+1<=_; omega) (fun o ho=>by
  show yr b mti at' o.1 o.2 lo (ae lo) (lo.length:Int) m0=_;unfold yr;rw[aA rfl];try rfl)
 rw[wx,H6,Nc]at h;refine Eq.trans h ?_;cases(fX lo).all vS <;> rfl
theorem Mq(l:aI):(j7 l).all vS=l.all fun x=>vS (ak .i64 x.1 64,()):=by unfold j7; rw[List.all_map];try rfl
theorem JL:∀(l o:aI),l.foldl (fun o x=>o++[(ak .i64 x.1 64,())]) o=o++j7 l:=fun l=>by
 induction l with
 | nil=>intro o; simp[j7]
 | cons x r ih=>intro o; rw[afg,ih]; simp[j7]
theorem WM(b:aI)(mti:S8)(at':Int)(o0 hi:aI)(h0:o0.length<=64)(hl:hi.length<=64)(m0:bl):SR b mti at' o0 hi (ae hi) 0 m0=some (bif (j7 hi).all vS then .inl (b,mti,at',o0++j7 hi,hi,ae hi,(hi.length:Int),m0,())else .inr (2,([],[],()),())):=by
 have h:=aT (step:=Rj ye) hi (fun i (o:aI)=>(b,mti,at',o,hi,ae hi,((i:Nat):Int),m0,())) (fun _ x o=>bif vS (ak .i64 x.1 64,())then Sum.inl (o++[(ak .i64 x.1 64,())])else .inr (.inr (2,([],[],()),()))) (fun o=> .inl (b,mti,at',o,hi,ae hi,(hi.length:Int),m0,())) (fun i o=>o.length<=64+i) (a0:=o0) h0 (fun i x o hx ho=>by
  have hlt:=ai hx;show ye b mti at' o hi (ae hi) (i:Int) m0=_;unfold ye;rw[aM hx,aC hx,aO _ hx,aU (by unfold bN; omega)];dsimp only[oT];rw[qH];dsimp only[oB];rw[X5 (by omega)];unfold vS;cases aj (bt (ak .i64 x.1 64)) 0 <;> rfl) (fun i x o o' hx ho hf=>by
  cases hk:vS (ak .i64 x.1 64,()) <;> rw[hk]at hf
  . cases hf
  . cases hf;rw[aeo]; show o.length+1<=_; omega) (fun o ho=>by
  show ye b mti at' o hi (ae hi) (hi.length:Int) m0=_;unfold ye;rw[aA rfl];try rfl)
 rw[wx,JL,<- Mq]at h;refine Eq.trans h ?_;cases(j7 hi).all vS <;> rfl
def Vn(b:aI)(mti:S8)(m0:bl)(nos:aI)(n:Int):Option (List dI×Nat)->Sum (aI×Int×aI×Int×Int×bl×bl×Unit) (Int×bl×Unit)
 | some (l,e)=> .inl (b,(e:Int),nos,n,n,m0,(mti,l,()),())
 | none=> .inr (3,([],[],()),())
theorem AM(b:aI)(mti:S8)(m0:bl)(ns:aI)(n:Int):∀(nos:aI) (i a:Nat) (o:List dI),jO (fun _ x (q:Nat×List dI)=>match pJ b q.1 x.1 with | some (s,e)=>Sum.inl (e,q.2++[(x.1,s,())]) | none=> .inr (.inr (3,([],[],()),()))) (fun q=> .inl (b,(q.1:Int),ns,n,n,m0,(mti,q.2,()),())) i nos (a,o)=Vn b mti m0 ns n (kV b nos a o)
 | [],_,_,_=>rfl
 | x::r,i,a,o=>by
   rw[jO,kV];cases pJ b a x.1 with
   | none=>rfl
   | some p=>exact AM b mti m0 ns n r (i+1) p.2 _
theorem RR{o:List dI}{x:dI}(h:o.length<=1048576):bj 24 o [x]=true:=aex (by show(o.length+1) * 24<=140737488355328; omega)
theorem Vw(b:aI)(hb:Ai b)(a:Nat)(ha:a<=b.length)(nos:aI)(hn:nos.length<=1000)(mti:S8)(m0:bl):RU b (a:Int) nos (ae nos) 0 m0 (mti,[],())=some (Vn b mti m0 nos (ae nos) (kV b nos a [])):=by
 have h:=aT (step:=Ft ya) nos (fun i (q:Nat×List dI)=>(b,(q.1:Int),nos,ae nos,((i:Nat):Int),m0,(mti,q.2,()),())) (fun _ x q=>match pJ b q.1 x.1 with | some (s,e)=>Sum.inl (e,q.2++[(x.1,s,())]) | none=> .inr (.inr (3,([],[],()),()))) (fun q=> .inl (b,(q.1:Int),nos,ae nos,(nos.length:Int),m0,(mti,q.2,()),())) (fun i q=>q.1<=b.length/\q.2.length<=i) (a0:=(a,[])) ⟨ha,oR _⟩ (fun i x q hx hq=>by
  have hlt:=ai hx;show ya b (q.1:Int) nos (ae nos) (i:Int) m0 (mti,q.2,())=_;unfold ya;rw[aM hx,aC hx,aO _ hx,aU (by unfold bN; omega),aav b q.1 x.1 hb hq.1];unfold nr;cases pJ b q.1 x.1 with
  | none=>rfl
  | some p =>
    dsimp only[oT,oB,oN,oF];rw[RR (aeu hq.2 (by omega))];try rfl) (fun i x q q' hx hq hf=>by
  cases hg:pJ b q.1 x.1 with
  | none=>rw[hg]at hf; cases hf
  | some p =>
    rw[hg]at hf;cases hf;refine⟨(tX hq.1 hg).2.2,?_⟩;show(q.2++[_]).length<=_;rw[aeo];exact Nat.succ_le_succ hq.2) (fun q hq=>by
  show ya b (q.1:Int) nos (ae nos) (nos.length:Int) m0 (mti,q.2,())=_;unfold ya;rw[aA rfl];try rfl)
 rw[show(fun(q:Nat×List dI)=>(Sum.inl (b,(q.1:Int),nos,ae nos,(nos.length:Int),m0,(mti,q.2,()),()):Sum (aI×Int×aI×Int×Int×bl×bl×Unit) (Int×bl×Unit)))=fun q=> .inl (b,(q.1:Int),nos,ae nos,ae nos,m0,(mti,q.2,()),())from rfl,AM]at h;exact h
theorem U3(b:aI)(hb:Ai b)(a:Nat)(ha:a<=b.length)(nos:aI)(hn:nos.length<=1000)(mti:S8)(m0:bl):HS b (a:Int) nos (ae nos) 0 m0 (mti,[],())=some (Vn b mti m0 nos (ae nos) (kV b nos a [])):=by
 have h:=aT (step:=Ft xK) nos (fun i (q:Nat×List dI)=>(b,(q.1:Int),nos,ae nos,((i:Nat):Int),m0,(mti,q.2,()),())) (fun _ x q=>match pJ b q.1 x.1 with | some (s,e)=>Sum.inl (e,q.2++[(x.1,s,())]) | none=> .inr (.inr (3,([],[],()),()))) (fun q=> .inl (b,(q.1:Int),nos,ae nos,(nos.length:Int),m0,(mti,q.2,()),())) (fun i q=>q.1<=b.length/\q.2.length<=i) (a0:=(a,[])) ⟨ha,oR _⟩ (fun i x q hx hq=>by
  have hlt:=ai hx;show xK b (q.1:Int) nos (ae nos) (i:Int) m0 (mti,q.2,())=_;unfold xK;rw[aM hx,aC hx,aO _ hx,aU (by unfold bN; omega),ZJ b q.1 x.1 hb hq.1];unfold nr;cases pJ b q.1 x.1 with
  | none=>rfl
  | some p =>
    dsimp only[oT,oB,oN,oF];rw[RR (aeu hq.2 (by omega))];try rfl) (fun i x q q' hx hq hf=>by
  cases hg:pJ b q.1 x.1 with
  | none=>rw[hg]at hf; cases hf
  | some p =>
    rw[hg]at hf;cases hf;refine⟨(tX hq.1 hg).2.2,?_⟩;show(q.2++[_]).length<=_;rw[aeo];exact Nat.succ_le_succ hq.2) (fun q hq=>by
  show xK b (q.1:Int) nos (ae nos) (nos.length:Int) m0 (mti,q.2,())=_;unfold xK;rw[aA rfl];try rfl)
 rw[show(fun(q:Nat×List dI)=>(Sum.inl (b,(q.1:Int),nos,ae nos,(nos.length:Int),m0,(mti,q.2,()),()):Sum (aI×Int×aI×Int×Int×bl×bl×Unit) (Int×bl×Unit)))=fun q=> .inl (b,(q.1:Int),nos,ae nos,ae nos,m0,(mti,q.2,()),())from rfl,AM]at h;exact h
theorem Cn{b:aI}{p:aI×Nat}(h:yO b=some p):p.1.length<=1000/\p.2<=b.length:=by
 have k1:=mD (fR b 2 8);have k2:=mD (fR b 10 8);have k3:(fX (ff (fR b 2 8))).length<=64:=aeu (afc _ _) k1;have k4:(j7 (ff (fR b 10 8))).length<=64:=by unfold j7; rw[afX]; exact k2
 unfold yO at h;by_cases h10:10<=b.length;rotate_left
 . rw[if_neg h10]at h; cases h
 rw[if_pos h10]at h;cases hm:iv (ff (fR b 2 8)) <;> rw[hm]at h
 . cases hk:(fX (ff (fR b 2 8))).all vS <;> rw[hk]at h <;> cases h;exact⟨by show(fX (ff (fR b 2 8))).length<=_; omega,h10⟩
 . by_cases h18:18<=b.length/\ff (fR b 10 8)≠[]
   . rw[oT,if_pos h18]at h;cases hk:(fX (ff (fR b 2 8))++j7 (ff (fR b 10 8))).all vS <;> rw[hk]at h <;> cases h;refine⟨?_,h18.1⟩;show(fX (ff (fR b 2 8))++j7 (ff (fR b 10 8))).length<=_;rw[aeo]; omega
   . rw[oT,if_neg h18]at h; cases h
theorem Yc(b:aI)(hb:Ai b):g43 b=Jx (cU b):=by
 unfold g43 cU Jx;have h0:IB b 0 4=sx (hE b 0 4) 2:=D8 b 0 4 hb (aeA _) (by omega);rw[h0];cases hc:hE b 0 4 with
 | none=>rfl
 | some mti =>
   have h2:2<=b.length:=(dR hc).2.2.2.2;show Option.bind (g79 b) _=_;rw[YB b hb h2];cases hn:yO b with
   | none=>rfl
   | some p =>
     obtain⟨n1,n2⟩:=Cn hn;obtain⟨nos,a⟩:=p;refine(bn (Vw b hb a n2 nos n1 mti ([],[],()))).trans ?_;dsimp only;cases kV b nos a []with
     | none=>rfl
     | some q =>
       obtain⟨l,e⟩:=q;show cond (!(aj (e:Int) (b.length:Int))) _ _=_;dsimp only;by_cases he:e=b.length
       . rw[if_pos he,he,bZ];try rfl
       . rw[if_neg he,show aj (e:Int) (b.length:Int)=false from beq_eq_false_iff_ne.2 (by omega)];try rfl
theorem Yd(b:aI)(hb:Ai b):g55 b=Jx (cU b):=by
 unfold g55 cU Jx;have h0:Na b 0 4=sx (hE b 0 4) 2:=HK b 0 4 hb (aeA _) (by omega);rw[h0];cases hc:hE b 0 4 with
 | none=>rfl
 | some mti =>
   have h2:2<=b.length:=(dR hc).2.2.2.2;have h1:CE b 2=pS b 2:=MN b 2 hb h2;show Option.bind (CE b 2) _=_;rw[h1];unfold pS yO;have k1:=mD (fR b 2 8);generalize hlo:ff (fR b 2 8)=lo at k1 ⊢;have k3:(fX lo).length<=64:=aeu (afc _ _) k1;have tail:∀(nos:aI) (a:Nat),a<=b.length->nos.length<=1000->∀ m0:bl,(Option.bind (HS b (a:Int) nos (ae nos) 0 m0 (mti,[],())) (Sum.elim (fun y6=>cond (!(aj y6.2.1 (ae y6.1))) (some ((),(([],[],()),(4,()),()))) (some ((),(y6.2.2.2.2.2.2.1,(0,()),())))) (fun y6=>some ((),(y6.2.1,(y6.1,()),())))))=some ((),(match kV b nos a []with | none=>(([],[],()),3) | some (l,e)=>if e=b.length then ((mti,l,()),0)else (([],[],()),4):bl×Int).1,((match kV b nos a []with | none=>(([],[],()),3) | some (l,e)=>if e=b.length then ((mti,l,()),0)else (([],[],()),4):bl×Int).2,()),()):=fun nos a ha hn m0=>by
    rw[U3 b hb a ha nos hn mti m0];cases kV b nos a []with
    | none=>rfl
    | some q =>
      obtain⟨l,e⟩:=q;show cond (!(aj (e:Int) (b.length:Int))) _ _=_;dsimp only;by_cases he:e=b.length
      . rw[if_pos he,he,bZ];try rfl
      . rw[if_neg he,show aj (e:Int) (b.length:Int)=false from beq_eq_false_iff_ne.2 (by omega)];try rfl
   by_cases h10:10<=b.length;rotate_left
   . rw[if_neg h10,if_neg (show ¬ 2+8<=b.length from h10)];try rfl
   rw[if_pos h10,if_pos (show 2+8<=b.length from h10)];refine(bn (abc b mti 10 lo k1 ([],[],()))).trans ?_;cases hk:(fX lo).all vS with
   | false =>
     dsimp only[oF];cases iv lo with
     | false=>rfl
     | true =>
       dsimp only[oT];rw[List.all_append,hk];by_cases h18:18<=b.length/\ff (fR b 10 8)≠[]
       . rw[if_pos h18];try rfl
       . rw[if_neg h18];try rfl
   | true =>
     dsimp only[oT];show cond (iv lo) _ _=_;cases iv lo with
     | false=>exact tail (fX lo) 10 h10 (by omega) _
     | true =>
       dsimp only[oT];have h3:CE b 10=pS b 10:=MN b 10 hb h10;refine(bn h3).trans ?_;unfold pS;have k2:=mD (fR b 10 8);generalize ff (fR b 10 8)=hi at k2 ⊢;by_cases h18:18<=b.length;rotate_left
       . rw[if_neg (show ¬ 10+8<=b.length from h18),if_neg (fun h=>h18 h.1)];try rfl
       rw[if_pos (show 10+8<=b.length from h18)];by_cases hne:hi=[]
       . rw[if_neg (fun h=>h.2 hne),hne];try rfl
       rw[if_pos ⟨h18,hne⟩];have he:aj (ae hi) 0=false:=beq_eq_false_iff_ne.2 (by
        show(hi.length:Int)≠0;cases hi with
        | nil=>exact absurd rfl hne
        | cons x r=>show((r.length+1:Nat):Int)≠0; omega)
       show cond (cond (!true) true (aj (ae hi) 0)) _ _=_;rw[he];refine(bn (WM b mti 18 (fX lo) hi k3 k2 ([],[],()))).trans ?_;rw[List.all_append,hk];cases(j7 hi).all vS with
       | false=>rfl
       | true=>exact tail (fX lo++j7 hi) 18 h18 (by rw[aeo]; unfold j7; rw[afX]; omega) _
def nF(s:S8):Nat->Nat
 | 0=>0
 | n+1=>bif aj (et s (n:Int)) 32 then nF s n else n+1
def uT(s:S8):S8:=s.take (nF s s.length)
theorem Dk(s:S8):∀ n,nF s n<=n
 | 0=>oR _
 | n+1=>by
   unfold nF;cases aj (et s (n:Int)) 32 with
   | true=>exact Nat.le_succ_of_le (Dk s n)
   | false=>exact oR _
theorem Uz(s:S8)(hs:s.length<=bN):g92 s=zR (uT s):=by
 have hbig:=bh;have h:∀ n:Nat,n<=s.length->SX s (n:Int)=some (.inl (s,((nF s n:Nat):Int),())):=fun n=>by
  induction n with
  | zero=>intro _; exact dh _ rfl
  | succ n ih =>
    intro hn;have e:GC s ((n+1:Nat):Int)=bif aj (et s (n:Int)) 32 then some (.inl (s,(n:Int),()))else some (.inr (.inl (s,((n+1:Nat):Int),()))):=by unfold GC;rw[aP (show(0:Int)<((n+1:Nat):Int)by omega),bA (by omega) (by omega),show((n+1:Nat):Int)-1=(n:Int)by omega];dsimp only[oT];rw[gv (xs:=s) (by omega)];cases aj (et s (n:Int)) 32 <;> rfl
    cases hc:aj (et s (n:Int)) 32 with
    | true => rw[hc]at e;unfold nF;rw[hc];exact dN _ e (ih (by omega))
    | false => rw[hc]at e;unfold nF;rw[hc];exact dh _ e
 unfold g92;refine(bn (h s.length (oR _))).trans ?_;show cond (ea 0 ((nF s s.length:Nat):Int) s) (zR (sub s 0 ((nF s s.length:Nat):Int))) none=_;rw[jB (Dk s s.length),xL];try rfl
theorem UW(s:S8)(hs:s.length<=bN):My s 32=zR (uT s):=by
 have hbig:=bh;have h:∀ n:Nat,n<=s.length->KG (s.take n) 32=some (.inl (s.take (nF s n),32,())):=fun n=>by
  induction n with
  | zero=>intro _; exact dh _ rfl
  | succ n ih =>
    intro hn;have hl:(s.take (n+1)).length=n+1:=by rw[afe]; omega
    have hb:et (s.take (n+1)) (n:Int)=et s (n:Int):=by have hx:s[n]? = some (s[n]'(by omega)):=aer (by omega);rw[e8 hx,e8 (xs:=s.take (n+1)) (x:=s[n]'(by omega)) (by rw[afs,if_pos (by omega)]; exact hx)]
    have e:By (s.take (n+1)) 32=bif aj (et s (n:Int)) 32 then some (.inl (s.take n,32,()))else some (.inr (.inl (s.take (n+1),32,()))):=by unfold By;rw[show ae (s.take (n+1))=((n+1:Nat):Int)from aeU Int.ofNat hl];dsimp only;rw[aP (show(0:Int)<((n+1:Nat):Int)by omega),bA (by omega) (by omega),show((n+1:Nat):Int)-1=(n:Int)by omega,gv (xs:=s.take (n+1)) (by omega),hb,jB (xs:=s.take (n+1)) (i:=n) (by omega),xL,List.take_take,ag3 (aga n)];cases aj (et s (n:Int)) 32 <;> rfl
    cases hc:aj (et s (n:Int)) 32 with
    | true => rw[hc]at e;unfold nF;rw[hc];exact dN _ e (ih (by omega))
    | false => rw[hc]at e;unfold nF;rw[hc];exact dh _ e
 have h0:=h s.length (oR _);rw[agJ]at h0;unfold My;refine(bn h0).trans rfl
theorem V9(s:S8)(hs:s.length<=bN):Qz s=zR (uT s):=by
 unfold Qz WA;cases he:bw s []with
 | true =>
   have:s=[]:=by simpa[bw]using he
   subst this;rfl
 | false => have e:My s (et [32] 0)=_:=UW s hs;dsimp only;rw[e];try rfl
theorem Ol(s:S8):(uT s).length<=s.length:=by unfold uT; rw[afe]; exact Nat.min_le_right _ _
abbrev jq:=Int×Unit
def js:ft:=(0,[],[],[],[],[],0,0,())
def xJ(s:S8):Bool:=cond (cond (bw s [48,49,48,48]) true (bw s [48,50,48,48])) true (bw s [48,50,50,48])
abbrev HW:=S8×S8×S8×List (Int×Unit)×Unit
def dK:List HW:=[([48,49,48,48],[48,48],[97,117,116,104],[(4,()),(14,()),(38,())],()),([48,49,48,48],[48,50],[109,111,114,101],[(4,()),(38,())],()),([48,50,50,48],[48,49],[112,97,114,116],[(4,()),(38,())],()),([48,50,50,48],[48,48],[102,105,110,97,108],[(4,()),(38,())],()),([48,50,50,48],[50,48],[102,114,101,101],[(38,())],()),([48,50,48,48],[52,48],[109,111,118,101],[(38,()),(103,())],()),([48,49,48,48],[51,49],[97,115,107],[],()),([48,50,48,48],[57,48],[115,119,101,101,112],[],())]
def Ef(mti c:S8)(r:HW):Bool:=cond (bw r.1 mti) (bw r.2.1 (sub c 0 2)) false
def eQ(mti c:S8):Int:=1+dk (Ef mti c) 0 dK
theorem vb(mti c:S8):eQ mti c=0∨eQ mti c=1∨eQ mti c=2∨eQ mti c=3∨eQ mti c=4∨eQ mti c=5∨eQ mti c=6∨eQ mti c=7∨eQ mti c=8:=by unfold eQ;have:=tw (Ef mti c) dK 0;simp only[show dK.length=8 from rfl]at this;omega
theorem Rg(m:bl)(c:S8)(hc:2<=c.length)(nm:S8×Unit)(hn:nm=(c,())):QQ dK m nm=zR (dk (Ef m.1 c) 0 dK):=by
 subst hn;have hcut:ea 0 2 c=true:=jB (i:=2) hc;have h:=aQ (step:=dJ pX) dK (fun i (_:Unit)=>(dK,(m,(c,()),()),ae dK,((i:Nat):Int),())) (fun i x _=>bif Ef m.1 c x then Sum.inr (.inr ((i:Int),()))else .inl ()) (fun _=> .inl (dK,(m,(c,()),()),ae dK,(dK.length:Int),())) (a0:=()) (fun i x a hx=>by
  have hlt:=ai hx;have h8:dK.length=8:=rfl;show pX dK (m,(c,()),()) (ae dK) (i:Int)=_;unfold pX WD Ef;rw[aM hx,aC hx,aO _ hx,aU (by unfold bN; omega)];dsimp only[oT];rw[hcut];cases bw x.1 m.1 <;> cases bw x.2.1 (sub c 0 2) <;> rfl) (fun a=>by
  show pX dK (m,(c,()),()) (ae dK) (dK.length:Int)=_;unfold pX;rw[aA rfl];try rfl)
 have hf:=gf (Y:=Sum ((List HW)×(bl×(S8×Unit)×Unit)×Int×Int×Unit) (Int×Unit)) (Ef m.1 c) (fun n=> .inr (n,())) (.inl (dK,(m,(c,()),()),ae dK,(dK.length:Int),())) (fun y=>match y with | .inl _ => -1 | .inr z=>z.1) (fun _=>rfl) rfl dK 0;unfold QQ;refine(bn h).trans ?_;rw[<- hf];dsimp only[oB];cases jO _ _ 0 dK () <;> rfl
theorem opm{i:Nat}{x:HW}(hx:dK[i]? = some x):JJ (((i+1:Nat)):Int)=zR x.1/\Uh (((i+1:Nat)):Int)=zR x.2.1:=by
 have hlt:=ai hx;have h8:dK.length=8:=rfl;have:i=0∨i=1∨i=2∨i=3∨i=4∨i=5∨i=6∨i=7:=by omega
 rcases this with h | h | h | h | h | h | h | h <;> subst h <;> cases hx <;> exact⟨rfl,rfl⟩
theorem Ph(mti c:S8)(hc:2<=c.length):ZB mti c=zR (eQ mti c):=by
 have hcut:ea 0 2 c=true:=jB (i:=2) hc;have h8:dK.length=8:=rfl;have h:=aQ (step:=fY Cc) dK (fun i (_:Unit)=>(mti,c,((i+1:Nat):Int),())) (fun i x _=>bif Ef mti c x then Sum.inr (.inr (((i+1:Nat):Int),()))else .inl ()) (fun _=> .inl (mti,c,9,())) (a0:=()) (fun i x a hx=>by have hlt:=ai hx;show Cc mti c ((i+1:Nat):Int)=_;unfold Cc Ef;rw[(opm hx).1,(opm hx).2,show bT ((i+1:Nat):Int) 8=true from aeq (by omega),aU (by unfold bN; omega)];dsimp only[oT,oB];rw[hcut];cases bw x.1 mti <;> cases bw x.2.1 (sub c 0 2) <;> rfl) (fun a=>rfl);have hf:=gf (Y:=Sum (S8×S8×Int×Unit) (Int×Unit)) (Ef mti c) (fun n=> .inr (1+n,())) (.inl (mti,c,9,())) (fun y=>match y with | .inl _ => -1 | .inr z=>z.1-1) (fun n=>by show 1+n-1=n; omega) rfl dK 0;rw[show(fun(i:Nat) (x:HW) (_:Unit)=>bif Ef mti c x then (Sum.inr (Sum.inr (((i+1:Nat):Int),())):Sum Unit (Sum (S8×S8×Int×Unit) (Int×Unit)))else .inl ())=fun i x _=>bif Ef mti c x then .inr (.inr (1+(i:Int),()))else .inl ()from by funext i x _;rw[show((i+1:Nat):Int)=1+(i:Int)by omega]]at h;unfold ZB;have h':TN mti c 1=_:=h;refine(bn h').trans ?_;unfold eQ;rw[<- hf];dsimp only[oB];have hneg:dk (Ef mti c) 0 dK = -1∨0<=dk (Ef mti c) 0 dK:=by
  rcases tw (Ef mti c) dK 0 with h | h
  . exact Or.inl h
  . exact Or.inr h.1
 cases hg:jO (fun(i:Nat) (x:HW) (_:Unit)=>bif Ef mti c x then (Sum.inr (Sum.inr (1+(i:Int),())):Sum Unit (Sum (S8×S8×Int×Unit) (Int×Unit)))else .inl ()) (fun _=> .inl (mti,c,9,())) 0 dK ()with
 | inl y=>rfl
 | inr y => show zR y.1=zR (1+(y.1-1));rw[show 1+(y.1-1)=y.1 by omega]
def fv(m:bl)(no:Int):S8:=(iq m no).getD []
def fs(m:bl)(no:Int):Bool:=(iq m no).isSome
theorem nk(m:bl)(no:Int):Fv (iq m no)=some ((),((fv m no,()),(fs m no,()),())):=by unfold Fv fv fs;cases iq m no <;> rfl
theorem vZ{m:bl}{no:Int}(h:fs m no=false):fv m no=[]:=by
 unfold fs at h; unfold fv;cases hf:iq m no with
 | none=>rfl
 | some s=>rw[hf]at h; cases h
theorem vL{m:bl}{no:Int}{s:S8}(h:iq m no=some s):∃ f∈m.2.1,f.1=no/\f.2.1=s:=by
 unfold iq at h;cases hf:m.2.1.find? fun f=>aj f.1 no with
 | none=>rw[hf]at h; cases h
 | some f => rw[hf]at h;refine⟨f,agM hf,bu.1 (by have:=List.find?_some hf; exact this),?_⟩;cases h; rfl
theorem mY{m:bl}(hb:gB m)(no:Int):(fv m no).length<=1048576:=by
 unfold fv;cases h:iq m no with
 | none=>exact aeA _
 | some s => obtain⟨f,h1,_,rfl⟩:=vL h;exact hb.2.2 f h1
theorem Qd{m:bl}(h:fk m=true){no:Int}{s:S8}(hf:iq m no=some s):dm no s=true:=by
 unfold fk at h;obtain⟨f,h1,h2,h3⟩:=vL hf;obtain⟨i,hi⟩:=ag1.1 h1;cases hd:cond (aF m.1) (aj (ae m.1) 4) false with
 | false=>rw[hd]at h; cases h
 | true =>
   rw[hd]at h;have:=j4 (fD m.2.1) h hi;unfold fD at this;rw[h2,h3]at this;cases hk:dm no s with
   | true=>rfl
   | false=>rw[hk]at this; cases this
theorem zh{m:bl}(h:fk m=true){s:S8}(hf:iq m 3=some s):2<=s.length:=by
 have:=Qd h hf;have e:dm 3 s=cond (aF s) (aj (ae s) 6) false:=rfl;rw[e]at this;cases hd:aF s with
 | false=>rw[hd]at this; cases this
 | true => rw[hd]at this;have:=bu.1 (show aj (ae s) 6=true from this);have:(s.length:Int)=6:=this;omega
def WX(s:S8):Int:=match yN s with | some n=>(n:Int) | none=>0
def nkM(s:S8):Bool:=(yN s).isSome
theorem BN(s:S8):Pp (yN s)=some ((),((WX s,()),(nkM s,()),())):=by unfold Pp WX nkM;cases yN s <;> rfl
def jP(m:bl)(op:Int):ft:=(op,fv m 2,cond (aj op 6) (fv m 103) [],cond (cond (cI op 1 8) (aD op 7) false) (uT (fv m 38)) [],fv m 11,m.1,cond (cI op 1 4) (WX (fv m 4)) 0,cond (aj op 1) (WX (fv m 14)) 0,())
def Ja(m:bl)(op:Int):Bool:=cond (cond (cI op 1 4) (fs m 4) true) (cond (aj op 1) (fs m 14) true) false
def EF(m:bl)(op:Int):ft×Int:=cond (Ja m op) (cond (kf (jP m op)) (jP m op,0) (js,1)) (js,1)
def ee(m:bl):ft×Int:=cond (fk m) (cond (xJ m.1) (match iq m 3 with | none=>(js,1) | some c=>EF m (eQ m.1 c)) (js,2)) (js,1)
def NL(p:ft×Int):Option (Unit×(ft×(Int×Unit)×Unit)):=some ((),(p.1,(p.2,()),()))
theorem Ei{m:bl}(hb:gB m)(op:Int):DC (jP m op):=by
 refine⟨mY hb 2,?_,?_,mY hb 11,hb.1⟩
 . show(cond (aj op 6) (fv m 103) []).length<=_;cases aj op 6 with
   | true=>exact mY hb 103
   | false=>exact aeA _
 . show(cond (cond (cI op 1 8) (aD op 7) false) (uT (fv m 38)) []).length<=_;cases cond (cI op 1 8) (aD op 7) false with
   | true=>exact aeu (Ol _) (mY hb 38)
   | false=>exact aeA _
theorem adG(m:bl)(hb:gB m):g49 m=NL (ee m):=by
 unfold g49 ee;rw[Hh m hb];cases hm:fk m with
 | false=>rfl
 | true =>
 have hk:g88 m.1=zR (xJ m.1):=rfl;dsimp only[oB,oN,oF];rw[hk];cases xJ m.1 with
 | false=>rfl
 | true =>
 show Option.bind (wk m 3) _=_;rw[vk m 3 hb];cases h3:iq m 3 with
 | none=>rfl
 | some c =>
 show Option.bind (ZB m.1 c) _=_;rw[Ph m.1 c (zh hm h3)];have f2:=(vk m 2 hb).trans (nk m 2);have f11:=(vk m 11 hb).trans (nk m 11);have f38:=(vk m 38 hb).trans (nk m 38);have f4:=(vk m 4 hb).trans (nk m 4);have f14:=(vk m 14 hb).trans (nk m 14);have f103:=(vk m 103 hb).trans (nk m 103);have b38:=Uz (fv m 38) (bO (mY hb 38));have n4:=(GI (fv m 4) (bO (mY hb 4))).trans (BN _);have n14:=(GI (fv m 14) (bO (mY hb 14))).trans (BN _);dsimp only[oB];rw[f2,f11];dsimp only[oB];have hop:=vb m.1 c;generalize eQ m.1 c=op at hop ⊢;have hq:=S4 (jP m op) (Ei hb op);have hH:WY op=zR (cond (cI op 1 8) (aD op 7) false):=rfl;have hA:TG op=zR (cI op 1 4):=rfl;unfold EF;generalize kf (jP m op)=z at hq ⊢;rw[hH,hA,f38,f4,f14,f103];dsimp only[oB];rw[b38,n4,n14];dsimp only[oB];unfold Ja;unfold jP at hq ⊢;generalize cond (cI op 1 8) (aD op 7) false=c1 at hq ⊢;generalize cI op 1 4=c2 at hq ⊢;generalize aj op 1=c3 at hq ⊢;generalize aj op 6=c4 at hq ⊢;cases c1 <;> cases c2 <;> cases c3 <;> cases c4 <;> dsimp only[oT,oF]at hq ⊢ <;> rw[hq] <;> cases fs m 4 <;> cases fs m 14 <;> cases z <;> rfl
theorem Vj{m:bl}{op:Int}(h:kf (jP m op)=true):fs m 2=true/\fs m 11=true/\(cond (cI op 1 8) (aD op 7) false=true->fs m 38=true)/\(aj op 6=true->fs m 103=true):=by
 unfold kf jP at h;simp only[aen]at h;obtain⟨⟨⟨⟨⟨⟨⟨⟨h1,_⟩,h2⟩,h3⟩,_⟩,h4⟩,_⟩,_⟩,h5⟩:=h;refine⟨?_,?_,fun hc => ?_,fun hc => ?_⟩
 . cases hf:fs m 2 with
   | true=>rfl
   | false=>rw[vZ hf]at h2; cases h2
 . cases hf:fs m 11 with
   | true=>rfl
   | false=>rw[vZ hf]at h3; cases h3
 . cases hf:fs m 38 with
   | true=>rfl
   | false => rw[hc,vZ hf]at h4;rw[h1]at hc;rw[show aD op 7=true from hc]at h4;cases h4
 . cases hf:fs m 103 with
   | true=>rfl
   | false=>rw[hc,vZ hf]at h5; cases h5
def ni(op:Int):List jq:=cond (cI op 1 8) (gt ([],[],[],[],()) dK (op-1)).2.2.2.1 []
def JB(m:bl)(op:Int):Bool:=fs m 2&&(fs m 11&&(ni op).all fun x=>fs m x.1)
def OpC(op:Int):Prop:=op=0∨op=1∨op=2∨op=3∨op=4∨op=5∨op=6∨op=7∨op=8
theorem K6(m:bl)(op:Int)(hop:OpC op):EF m op=bif JB m op then (bif kf (jP m op)then (jP m op,0)else (js,1))else (js,1):=by
 have hz:= @Vj m op;unfold EF;generalize kf (jP m op)=z at hz ⊢;generalize jP m op=q at hz ⊢;cases z with
 | false=>cases JB m op <;> cases Ja m op <;> rfl
 | true =>
   obtain⟨h1,h2,h3,h4⟩:=hz rfl;unfold JB Ja;rw[h1,h2];rcases hop with h | h | h | h | h | h | h | h | h <;> subst h
   . rfl
   . have:=h3 rfl;show(bif cond (fs m 4) (fs m 14) false then _ else _)=bif true&&(true&&(fs m 4&&(fs m 14&&(fs m 38&&true))))then _ else _;rw[this];cases fs m 4 <;> cases fs m 14 <;> rfl
   . have:=h3 rfl;show(bif cond (fs m 4) true false then _ else _)=bif true&&(true&&(fs m 4&&(fs m 38&&true)))then _ else _;rw[this];cases fs m 4 <;> rfl
   . have:=h3 rfl;show(bif cond (fs m 4) true false then _ else _)=bif true&&(true&&(fs m 4&&(fs m 38&&true)))then _ else _;rw[this];cases fs m 4 <;> rfl
   . have:=h3 rfl;show(bif cond (fs m 4) true false then _ else _)=bif true&&(true&&(fs m 4&&(fs m 38&&true)))then _ else _;rw[this];cases fs m 4 <;> rfl
   . have:=h3 rfl;show _=bif true&&(true&&(fs m 38&&true))then _ else _;rw[this];try rfl
   . have:=h3 rfl;have h6:=h4 rfl;show _=bif true&&(true&&(fs m 38&&(fs m 103&&true)))then _ else _;rw[this,h6];try rfl
   . rfl
   . rfl
def PM(m:bl)(no:Int)(q:ft):ft :=
 cond (aj no 2) (q.1,fv m no,q.2.2.1,q.2.2.2.1,q.2.2.2.2.1,q.2.2.2.2.2.1,q.2.2.2.2.2.2.1,q.2.2.2.2.2.2.2.1,())
  (cond (aj no 4) (q.1,q.2.1,q.2.2.1,q.2.2.2.1,q.2.2.2.2.1,q.2.2.2.2.2.1,WX (fv m no),q.2.2.2.2.2.2.2.1,())
    (cond (aj no 11) (q.1,q.2.1,q.2.2.1,q.2.2.2.1,fv m no,q.2.2.2.2.2.1,q.2.2.2.2.2.2.1,q.2.2.2.2.2.2.2.1,())
      (cond (aj no 14) (q.1,q.2.1,q.2.2.1,q.2.2.2.1,q.2.2.2.2.1,q.2.2.2.2.2.1,q.2.2.2.2.2.2.1,WX (fv m no),())
        (cond (aj no 38) (q.1,q.2.1,q.2.2.1,uT (fv m no),q.2.2.2.2.1,q.2.2.2.2.2.1,q.2.2.2.2.2.2.1,q.2.2.2.2.2.2.2.1,())
          (cond (aj no 103) (q.1,q.2.1,fv m no,q.2.2.2.1,q.2.2.2.2.1,q.2.2.2.2.2.1,q.2.2.2.2.2.2.1,q.2.2.2.2.2.2.2.1,()) q)))))
def M0(m:bl):List jq->ft->Option ft
 | [],q=>some q
 | x::r,q=>bif fs m x.1 then M0 m r (PM m x.1 q)else none
def Zk(xs:List jq)(n:Int)(m:bl):Option ft->Sum (List jq×Int×Int×bl×ft×ft×Unit) (Int×ft×Unit)
 | some q=> .inl (xs,n,n,m,js,q,())
 | none=> .inr (1,js,())
theorem GX(m:bl)(ys:List jq)(n:Int):∀(xs:List jq) (i:Nat) (q:ft),jO (fun _ x q=>bif fs m x.1 then Sum.inl (PM m x.1 q)else .inr (.inr (1,js,()))) (fun q=> .inl (ys,n,n,m,js,q,())) i xs q=Zk ys n m (M0 m xs q)
 | [],_,_=>rfl
 | x::r,i,q=>by
   rw[jO,M0];cases fs m x.1 with
   | false=>rfl
   | true=>exact GX m ys n r (i+1) _
theorem QV(m:bl)(hb:gB m)(xs:List jq)(hx:xs.length<=10)(q0:ft):TM xs (ae xs) 0 m js q0=some (Zk xs (ae xs) m (M0 m xs q0)):=by
 have h:=aQ (step:=J7 xQ) xs (fun i (q:ft)=>(xs,ae xs,((i:Nat):Int),m,js,q,())) (fun _ x q=>bif fs m x.1 then Sum.inl (PM m x.1 q)else .inr (.inr (1,js,()))) (fun q=> .inl (xs,ae xs,ae xs,m,js,q,())) (a0:=q0) (fun i x q hx=>by
  have hlt:=ai hx;show xQ xs (ae xs) (i:Int) m js q=_;unfold xQ;rw[aM hx,aC hx,aO _ hx,aU (by unfold bN; omega)];dsimp only[oT];rw[Mj m x.1 hb,nk];dsimp only[oB];rw[(TJ (fv m x.1) (bO (mY hb x.1))).trans (BN _),V9 (fv m x.1) (bO (mY hb x.1))];unfold PM;cases fs m x.1 with
  | false=>rfl
  | true=>cases aj x.1 2 <;> cases aj x.1 4 <;> cases aj x.1 11 <;> cases aj x.1 14 <;> cases aj x.1 38 <;> cases aj x.1 103 <;> rfl) (fun q=>by
  show xQ xs (ae xs) (xs.length:Int) m js q=_;unfold xQ;rw[aA rfl];try rfl)
 rw[GX]at h;exact h
theorem QC(m:bl)(op:Int)(hop:OpC op):M0 m ((2,())::(11,())::ni op) (op,[],[],[],[],m.1,0,0,())=bif JB m op then some (jP m op)else none:=by
 unfold JB;rcases hop with h | h | h | h | h | h | h | h | h <;> subst h
 . show(bif fs m 2 then (bif fs m 11 then some (jP m 0)else none)else none)=bif fs m 2&&(fs m 11&&true)then _ else _;cases fs m 2 <;> cases fs m 11 <;> rfl
 . show(bif fs m 2 then (bif fs m 11 then (bif fs m 4 then (bif fs m 14 then (bif fs m 38 then some (jP m 1)else none)else none)else none)else none)else none)=bif fs m 2&&(fs m 11&&(fs m 4&&(fs m 14&&(fs m 38&&true))))then _ else _;cases fs m 2 <;> cases fs m 11 <;> cases fs m 4 <;> cases fs m 14 <;> cases fs m 38 <;> rfl
 . show(bif fs m 2 then (bif fs m 11 then (bif fs m 4 then (bif fs m 38 then some (jP m 2)else none)else none)else none)else none)=bif fs m 2&&(fs m 11&&(fs m 4&&(fs m 38&&true)))then _ else _;cases fs m 2 <;> cases fs m 11 <;> cases fs m 4 <;> cases fs m 38 <;> rfl
 . show(bif fs m 2 then (bif fs m 11 then (bif fs m 4 then (bif fs m 38 then some (jP m 3)else none)else none)else none)else none)=bif fs m 2&&(fs m 11&&(fs m 4&&(fs m 38&&true)))then _ else _;cases fs m 2 <;> cases fs m 11 <;> cases fs m 4 <;> cases fs m 38 <;> rfl
 . show(bif fs m 2 then (bif fs m 11 then (bif fs m 4 then (bif fs m 38 then some (jP m 4)else none)else none)else none)else none)=bif fs m 2&&(fs m 11&&(fs m 4&&(fs m 38&&true)))then _ else _;cases fs m 2 <;> cases fs m 11 <;> cases fs m 4 <;> cases fs m 38 <;> rfl
 . show(bif fs m 2 then (bif fs m 11 then (bif fs m 38 then some (jP m 5)else none)else none)else none)=bif fs m 2&&(fs m 11&&(fs m 38&&true))then _ else _;cases fs m 2 <;> cases fs m 11 <;> cases fs m 38 <;> rfl
 . show(bif fs m 2 then (bif fs m 11 then (bif fs m 38 then (bif fs m 103 then some (jP m 6)else none)else none)else none)else none)=bif fs m 2&&(fs m 11&&(fs m 38&&(fs m 103&&true)))then _ else _;cases fs m 2 <;> cases fs m 11 <;> cases fs m 38 <;> cases fs m 103 <;> rfl
 . show(bif fs m 2 then (bif fs m 11 then some (jP m 7)else none)else none)=bif fs m 2&&(fs m 11&&true)then _ else _;cases fs m 2 <;> cases fs m 11 <;> rfl
 . show(bif fs m 2 then (bif fs m 11 then some (jP m 8)else none)else none)=bif fs m 2&&(fs m 11&&true)then _ else _;cases fs m 2 <;> cases fs m 11 <;> rfl
theorem Ly(op:Int)(hop:OpC op):∃ a b c,AU op=some ((),((a,b,c,ni op,()),()))/\(ni op).length<=3:=by rcases hop with h | h | h | h | h | h | h | h | h <;> subst h <;> exact⟨_,_,_,rfl,by decide⟩
theorem abo(m:bl)(hb:gB m):g63 m=NL (ee m):=by
 unfold g63 ee;rw[DF m hb];cases hm:fk m with
 | false=>rfl
 | true =>
 have hk:UD m.1=zR (xJ m.1):=rfl;dsimp only[oB,oN,oF];rw[hk];cases xJ m.1 with
 | false=>rfl
 | true =>
 show Option.bind (Em m 3) _=_;rw[Mj m 3 hb];cases h3:iq m 3 with
 | none=>rfl
 | some c =>
 have hr:QT=zR dK:=rfl;unfold Fv;dsimp only[oB,oN,oF];rw[hr];dsimp only[oB];refine(bn (Rg m c (zh hm h3) (c,()) rfl)).trans ?_;have hop:=vb m.1 c;have hw:ak .i64 1 (dk (Ef m.1 c) 0 dK)=eQ m.1 c:=by unfold eQ at hop ⊢;exact a8 (by omega) (by omega)
 dsimp only[oB];rw[hw];generalize eQ m.1 c=op at hop ⊢;obtain⟨a1,a2,a3,hf,hfl⟩:=Ly op hop;rw[hf];dsimp only[oB];have hfit:bj 8 [((2:Int),()),(11,())] (ni op)=true:=aex (by show(2+(ni op).length) * 8<=140737488355328; omega);rw[hfit];refine(bn (QV m hb ((2,())::(11,())::ni op) (by simp only[aeC]; omega) (op,[],[],[],[],m.1,0,0,()))).trans ?_;rw[QC m op hop];show _=NL (EF m op);rw[K6 m op hop];cases JB m op with
 | false=>rfl
 | true => refine(bn (T4 (jP m op) (Ei hb op))).trans ?_;cases kf (jP m op) <;> rfl
theorem Gt{b:aI}:∀ {nos:aI} {a:Nat} {o l:List dI} {e:Nat},a<=b.length->(∀ f∈o,f.2.1.length<=1048576)->kV b nos a o=some (l,e)->l.length=o.length+nos.length/\∀ f∈l,f.2.1.length<=1048576
 | [],_,_,_,_,_,ho,h=>by cases h;exact⟨rfl,ho⟩
 | x::r,a,o,l,e,ha,ho,h=>by
   rw[kV]at h;cases hg:pJ b a x.1 with
   | none=>rw[hg]at h; cases h
   | some p =>
     rw[hg]at h;obtain⟨_,h2,h3⟩:=tX ha hg;obtain⟨k1,k2⟩:=Gt (nos:=r) h3 (fun f hf=>by
      rcases afN.1 hf with h | h
      . exact ho f h
      . rcases agB.1 h with rfl
        exact aeu h2 (by omega)) h
     refine⟨?_,k2⟩;rw[k1,aeo];simp only[aeC,ae7];omega
theorem we(b:aI):gB (cU b).1:=by
 have h0:gB ([],[],()):=⟨aeA _,aeA _,fun f hf=>by cases hf⟩;unfold cU;cases hc:hE b 0 4 with
 | none=>exact h0
 | some mti =>
   cases hn:yO b with
   | none=>exact h0
   | some p =>
     obtain⟨nos,a⟩:=p;obtain⟨n1,n2⟩:=Cn hn;dsimp only;cases hf:kV b nos a []with
     | none=>exact h0
     | some q =>
       obtain⟨l,e⟩:=q;obtain⟨k1,k2⟩:=Gt n2 (fun f hf=>by cases hf) hf;dsimp only;split
       . refine⟨?_,?_,k2⟩
         . show mti.length<=_;rw[(dR hc).2.1]; omega
         . show l.length<=_;rw[k1]; simp only[ae7]; exact aeu (agl (aey _)) (aeu n1 (by omega))
       . exact h0
theorem A4{m:bl}(hb:gB m):DC (ee m).1:=by
 have h0:DC js:=⟨aeA _,aeA _,aeA _,aeA _,aeA _⟩;unfold ee EF;cases fk m with
 | false=>exact h0
 | true =>
 cases xJ m.1 with
 | false=>exact h0
 | true =>
 cases iq m 3 with
 | none=>exact h0
 | some c =>
 dsimp only[oT];cases Ja m (eQ m.1 c)with
 | false=>exact h0
 | true =>
   dsimp only[oT];cases kf (jP m (eQ m.1 c))with
   | false=>exact h0
   | true=>exact Ei hb _
theorem PI{a b:S8}:bw a b=true↔a=b:=by simp[bw]
def slotsOf(a:ay):List cM:=a.2.2.2.2.2.2.2.2.2.2.1
def lV(a:ay):S8×List cM:=(a.1,slotsOf a)
theorem QK:(0:Int)<=0/\(0:Int)<=10:=by decide
def lS(a x:ay)(c:Int):Prop:=(0<=c/\c<=10)/\(c=0->lV x=lV a)
theorem dt{a x:ay}{c:Int}(h:1<=c/\c<=10):lS a x c:=⟨⟨by omega,h.2⟩,fun e=>by omega⟩
theorem nC(a:ay)(now:Int):lV (az a now)=lV a:=by
 unfold az;cases bg a <;> first | rfl | skip
 cases bd now <;> rfl
theorem Wy(s:ay)(amt now:Int):0<=gn s amt now/\gn s amt now<=10:=by
 unfold gn;cases aD (gx s now) amt <;> dsimp only[oT,oF] <;> first | decide | skip
 cases aD s.2.2.2.1 (eD (pF (cX s) now false) 1) <;> dsimp only[oT,oF] <;> first | decide | skip
 cases aD s.2.2.2.2.1 (eD (pF (cX s) now true) amt) <;> dsimp only[oT,oF] <;> decide
theorem wo{a x s:ay}{amt now:Int}(hz:aj (gn s amt now) 0=false):lS a x (gn s amt now) :=
 ⟨Wy s amt now,fun e=>by rw[bu.2 e]at hz; cases hz⟩
theorem WR(a:ay)(id:S8)(amt ttl now:Int):lS a (kq a id amt ttl now).1 (kq a id amt ttl now).2:=by
 have hs:=nC a now;unfold kq;generalize az a now=s at hs ⊢;cases cond (bg a) (cond (bd now) (bf id) false) false <;> dsimp only[oT,oF] <;> first | exact dt (by decide) | skip
 cases cI amt 1 9007199254740992 <;> dsimp only[oT,oF] <;> first | exact dt (by decide) | skip
 cases(cond (!cI ttl 1 9999) true (aD 1000000000 (ak .i64 now ttl))) <;> dsimp only[oT,oF] <;> first | exact dt (by decide) | skip
 cases bT 0 (ax s.2.2.2.2.2.1 id) <;> dsimp only[oT,oF] <;> first | exact dt (by decide) | skip
 cases aj (ae s.2.2.2.2.2.1) 4 <;> dsimp only[oT,oF] <;> first | exact dt (by decide) | skip
 cases hz:aj (gn s amt now) 0 <;> dsimp only[oT,oF] <;> first | exact wo hz | skip
 exact⟨QK,fun _=>hs⟩
theorem U8(a:ay)(id:S8)(amt now:Int):lS a (kt a id amt now).1 (kt a id amt now).2:=by
 have hs:=nC a now;unfold kt;generalize az a now=s at hs ⊢;cases cond (bg a) (cond (bd now) (bf id) false) false <;> dsimp only[oT,oF] <;> first | exact dt (by decide) | skip
 cases cI amt 1 9007199254740992 <;> dsimp only[oT,oF] <;> first | exact dt (by decide) | skip
 cases aD (ax s.2.2.2.2.2.1 id) 0 <;> dsimp only[oT,oF] <;> first | exact dt (by decide) | skip
 cases hz:aj (gn s amt now) 0 <;> dsimp only[oT,oF] <;> first | exact wo hz | skip
 exact⟨QK,fun _=>hs⟩
theorem Tz(a:ay)(id:S8)(amt:Int)(last:Bool)(now:Int):lS a (nb a id amt last now).1 (nb a id amt last now).2:=by
 have hs:=nC a now;unfold nb;generalize az a now=s at hs ⊢;cases cond (bg a) (cond (bd now) (bf id) false) false <;> dsimp only[oT,oF] <;> first | exact dt (by decide) | skip
 cases cI amt 1 9007199254740992 <;> dsimp only[oT,oF] <;> first | exact dt (by decide) | skip
 cases aD (ax s.2.2.2.2.2.1 id) 0 <;> dsimp only[oT,oF] <;> first | exact dt (by decide) | skip
 cases aD (gt nL s.2.2.2.2.2.1 (ax s.2.2.2.2.2.1 id)).2.1 amt <;> dsimp only[oT,oF] <;> first | exact dt (by decide) | skip
 cases(cond last true (aj amt (gt nL s.2.2.2.2.2.1 (ax s.2.2.2.2.2.1 id)).2.1)) <;> exact⟨QK,fun _=>hs⟩
theorem VT(a:ay)(id:S8)(now:Int):lS a (kr a id now).1 (kr a id now).2:=by
 have hs:=nC a now;unfold kr;generalize az a now=s at hs ⊢;cases cond (bg a) (cond (bd now) (bf id) false) false <;> dsimp only[oT,oF] <;> first | exact dt (by decide) | skip
 cases aD (ax s.2.2.2.2.2.1 id) 0 <;> dsimp only[oT,oF] <;> first | exact dt (by decide) | skip
 exact⟨QK,fun _=>hs⟩
theorem Pd(a:ay)(now:Int):lS a (gP a now).1 (gP a now).2:=by
 unfold gP;cases bg a <;> dsimp only[oT,oF] <;> first | exact dt (by decide) | skip
 cases bd now <;> dsimp only[oT,oF] <;> first | exact dt (by decide) | skip
 exact⟨QK,fun _=>nC a now⟩
theorem LM(a b:ay)(id:S8)(now:Int):lS a (fA a b id now).1 (fA a b id now).2.2/\lS b (fA a b id now).2.1 (fA a b id now).2.2:=by
 have hs:=nC a now;have ht:=nC b now;unfold fA;generalize az a now=s at hs ⊢;generalize az b now=t at ht ⊢;have no:∀ c:Int,1<=c/\c<=10->lS a aL c/\lS b aL c:=fun c h=>⟨dt h,dt h⟩
 cases cond (bg a) (cond (bd now) (bf id) false) false <;> dsimp only[oT,oF] <;> first | exact no _ (by decide) | skip
 cases bg b <;> dsimp only[oT,oF] <;> first | exact no _ (by decide) | skip
 cases bw a.1 b.1 <;> dsimp only[oT,oF] <;> first | exact no _ (by decide) | skip
 cases aD (ax s.2.2.2.2.2.1 id) 0 <;> dsimp only[oT,oF] <;> first | exact no _ (by decide) | skip
 cases bT 0 (ax t.2.2.2.2.2.1 id) <;> dsimp only[oT,oF] <;> first | exact no _ (by decide) | skip
 cases aj (ae t.2.2.2.2.2.1) 4 <;> dsimp only[oT,oF] <;> first | exact no _ (by decide) | skip
 cases aD (gx t now) (gt nL s.2.2.2.2.2.1 (ax s.2.2.2.2.2.1 id)).2.1 <;> dsimp only[oT,oF] <;> first | exact no _ (by decide) | skip
 exact⟨⟨QK,fun _=>hs⟩,⟨QK,fun _=>ht⟩⟩
theorem Z4(a:ay)(now:Int):lS a a (uL a now).2:=by
 refine⟨?_,fun _=>rfl⟩;unfold uL;cases bg a <;> dsimp only[oT,oF] <;> first | decide | skip
 cases bd now <;> dsimp only[oT,oF] <;> first | decide | skip
theorem Yz(a b:ay)(q:ft)(now:Int):lS a (lN a b q now).1 (lN a b q now).2.2.1/\(aj q.1 6=true->lS b (lN a b q now).2.1 (lN a b q now).2.2.1):=by
 unfold lN;cases h1:aj q.1 1 <;> first | exact⟨WR a _ _ _ now,fun h=>by rw[bu.1 h]at h1; cases h1⟩ | skip
 cases h2:aj q.1 2 <;> first | exact⟨U8 a _ _ now,fun h=>by rw[bu.1 h]at h2; cases h2⟩ | skip
 cases h3:aj q.1 3 <;> first | exact⟨Tz a _ _ _ now,fun h=>by rw[bu.1 h]at h3; cases h3⟩ | skip
 cases h4:aj q.1 4 <;> first | exact⟨Tz a _ _ _ now,fun h=>by rw[bu.1 h]at h4; cases h4⟩ | skip
 cases h5:aj q.1 5 <;> first | exact⟨VT a _ now,fun h=>by rw[bu.1 h]at h5; cases h5⟩ | skip
 cases h6:aj q.1 6 <;> first | exact⟨(LM a b _ now).1,fun _=>(LM a b _ now).2⟩ | skip
 cases h7:aj q.1 7 <;> first | exact⟨Z4 a now,fun h=>by cases h⟩ | exact⟨Pd a now,fun h=>by cases h⟩
theorem vQ{b:List ay}{i:Nat}{x y:ay}(h:b[i]? = some y)(hk:lV x=lV y):(b.set i x).map lV=b.map lV:=by
 apply agU;intro j;rw[ae2,ae2,agW];by_cases e:i=j
 . subst e;rw[if_pos rfl,if_pos (ai h),h];simp[hk]
 . rw[if_neg e]
theorem L7(b:List ay)(q:ft)(now:Int):(0<=(cV b q now).2.1/\(cV b q now).2.1<=10)/\((cV b q now).2.1=0->(cV b q now).1.map lV=b.map lV):=by
 have no:∀(c:Int) (l:List ay),1<=c/\c<=10->(0<=c/\c<=10)/\(c=0->l.map lV=b.map lV):=fun c l h=>⟨⟨by omega,h.2⟩,fun e=>by omega⟩
 unfold cV;cases jV b <;> dsimp only[oT,oF] <;> first | exact no _ _ (by decide) | skip
 cases kf q <;> dsimp only[oT,oF] <;> first | exact no _ _ (by decide) | skip
 cases bd now <;> dsimp only[oT,oF] <;> first | exact no _ _ (by decide) | skip
 cases h6:aj q.1 6 with
 | false =>
   dsimp only[oF];cases hk:aD (au b q.2.1) 0 with
   | true=>exact no 3 [] (by decide)
   | false =>
     obtain⟨i,y,e,hy⟩:=ew (of_decide_eq_false hk);have hg:gt aL b (au b q.2.1)=y:=by rw[e]; exact aO _ hy
     have hop:=(Yz y y q now).1;rw[hg];dsimp only[oF];cases hz:aj (lN y y q now).2.2.1 0 with
     | false => refine⟨hop.1,fun e => ?_⟩;have e:(lN y y q now).2.2.1=0:=e;rw[bu.2 e]at hz; cases hz
     | true => refine⟨QK,fun _ => ?_⟩;show(cO b (au b q.2.1) (lN y y q now).1).map lV=_;rw[e];exact vQ (i:=i) hy (hop.2 (bu.1 hz))
 | true =>
    cases hk:aD (au b q.2.1) 0 with
   | true=>exact no 3 [] (by decide)
   | false =>
   cases hm:aD (au b q.2.2.1) 0 with
   | true=>exact no 3 [] (by decide)
   | false =>
     obtain⟨i,y,e,hy⟩:=ew (of_decide_eq_false hk);obtain⟨j,z,e2,hz2⟩:=ew (of_decide_eq_false hm);have hg:gt aL b (au b q.2.1)=y:=by rw[e]; exact aO _ hy
     have hg2:gt aL b (au b q.2.2.1)=z:=by rw[e2]; exact aO _ hz2
     have hop:=Yz y z q now;rw[hg,hg2];dsimp only[oF];cases hz:aj (lN y z q now).2.2.1 0 with
     | false => refine⟨hop.1.1,fun e => ?_⟩;have e:(lN y z q now).2.2.1=0:=e;rw[bu.2 e]at hz; cases hz
     | true =>
       refine⟨QK,fun _ => ?_⟩;have k1:=hop.1.2 (bu.1 hz);have k2:=(hop.2 h6).2 (bu.1 hz);show(cO (cO b (au b q.2.2.1) (lN y z q now).2.1) (au b q.2.1) (lN y z q now).1).map lV=_;rw[e,e2];show((b.set j (lN y z q now).2.1).set i (lN y z q now).1).map lV=_;by_cases hij:j=i
       . subst hij;rw[List.set_set];exact vQ hy k1
       . rw[vQ (y:=y) (by rw[List.getElem?_set_ne hij]; exact hy) k1];exact vQ hz2 k2
def nq:S8->aI
 | x::y::r=>((((x.toNat-48) * 16+(y.toNat-48):Nat):Int),())::nq r
 | _=>[]
theorem ua:∀(n:Nat) (s:S8),s.length=2 * n->(nq s).length=n
 | 0,[],_=>rfl
 | 0,_::_,h=>by simp at h
 | n+1,x::y::r,h=>by rw[nq,aeC,ua n r (by simp only[aeC]at h; omega)]
 | n+1,[],h=>by simp at h
 | n+1,[x],h=>by simp at h; omega
def xY(s:S8):S8:=if s.length % 2=1 then 48::s else s
def dn(s:S8):aI:=cond (cond (aF s) (bT (ae s) 38) false) (nq (xY s)) []
theorem fO(s:S8):(dn s).length<=(s.length+1) / 2:=by
 unfold dn;cases cond (aF s) (bT (ae s) 38) false with
 | false=>exact aeA _
 | true =>
   show(nq (xY s)).length<=_;unfold xY;by_cases h:s.length % 2=1
   . rw[if_pos h,ua ((s.length+1) / 2) (48::s) (by simp only[aeC]; omega)];exact oR _
   . rw[if_neg h,ua (s.length / 2) s (by omega)];omega
def I9(no:Int):Int:=cond (aj (bt no) 5) 3 2
def OL(s:S8):aI:=bytesOf s
def N4(no:Int)(s:S8):aI:=cond (cond (aj (bt no) 1) true (aj (bt no) 3)) (dn s) (OL s)
def tP(no:Int)(s:S8):aI:=cond (dm no s) (cond (cond (aj (bt no) 1) true (aj (bt no) 2)) (N4 no s) (dn (dL (ae s) (I9 no))++N4 no s)) []
theorem pj{n w:Int}{k:Nat}(h:w=k):(dL n w).length<=k:=by
 unfold dL;cases hc:bM n&&cI w 1 18&&bT (ae (Lib.itoa n)) w with
 | false=>simp
 | true => simp only[aen]at hc;have h2:ae (Lib.itoa n)<=w:=afI hc.2;simp only[oT,aeo,afu];unfold ae at h2 ⊢; omega
def sI(no:Int):Nat:=cond (aj (bt no) 1) (((fN no).toNat+1) / 2) (cond (aj (bt no) 2) (fN no).toNat (cond (aj (bt no) 3) 11 (cond (aj (bt no) 4) 21 62)))
theorem AS(s:S8):(OL s).length=s.length:=afX ..
theorem B8(no:Int)(s:S8):(tP no s).length<=sI no:=by
 have hb:=fO s;have ho:=AS s;have h2:=fO (dL (ae s) 2);have h3:=fO (dL (ae s) 3);have w2:=pj (n:=ae s) (w:=2) (k:=2) rfl;have w3:=pj (n:=ae s) (w:=3) (k:=3) rfl;obtain⟨n,hn,hk⟩:=kinds no;unfold tP sI N4 I9;cases hf:dm no s with
 | false=>exact aeA _
 | true =>
   unfold dm at hf;rw[hn]at hf;rw[hn];rcases hk with ⟨e,hk⟩ | ⟨e,hk⟩ | ⟨e,hk⟩ | ⟨e,hk⟩ | ⟨e,hk⟩ | ⟨e,hk⟩ <;> rw[e]at hf <;> rw[e]
   . cases hf
   . have hl:aj (ae s) n=true:=by
      cases hd:aF s <;> rw[hd]at hf <;> first | exact hf | cases hf
     have:=bu.1 hl;unfold ae at this;show(dn s).length<=((n:Int).toNat+1) / 2;omega
   . have hl:aj (ae s) n=true:=by
      cases hd:de s <;> rw[hd]at hf <;> first | exact hf | cases hf
     have:=bu.1 hl;unfold ae at this;show(OL s).length<=(n:Int).toNat;omega
   . have hl:cI (ae s) 1 n=true:=by
      cases hd:aF s <;> rw[hd]at hf <;> first | exact hf | cases hf
     have:=bD.1 hl;unfold ae at this;show(dn (dL (ae s) 2)++dn s).length<=11;rw[aeo];omega
   . have hl:cI (ae s) 1 n=true:=by
      cases hd:de s <;> rw[hd]at hf <;> first | exact hf | cases hf
     have:=bD.1 hl;unfold ae at this;show(dn (dL (ae s) 2)++OL s).length<=21;rw[aeo];omega
   . have hl:cI (ae s) 1 n=true:=by
      cases hd:de s <;> rw[hd]at hf <;> first | exact hf | cases hf
     have:=bD.1 hl;unfold ae at this;show(dn (dL (ae s) 3)++OL s).length<=62;rw[aeo];omega
def lE(o:aI)(k:Nat):aI:=o.set (k / 8) ((((o.getD (k / 8) (0,())).1.toNat ||| 128 >>> (k % 8):Nat):Int),())
def dU(l:List jq):aI:=l.foldl (fun o k=>cond (cI k.1 1 64) (lE o (k.1.toNat-1)) o) (List.replicate 8 (0,()))
theorem jf(l:List jq):(dU l).length=8:=by
 unfold dU;have:∀(l:List jq) (o:aI),o.length=8->(l.foldl (fun o k=>cond (cI k.1 1 64) (lE o (k.1.toNat-1)) o) o).length=8:=fun l=>by
  induction l with
  | nil=>exact fun o h=>h
  | cons k r ih =>
    intro o h;refine ih _ ?_;show(cond (cI k.1 1 64) (lE o (k.1.toNat-1)) o).length=8;cases cI k.1 1 64 with
    | false=>exact h
    | true=>show(lE o _).length=8; unfold lE; rw[afz]; exact h
 exact this l _ afu
def sB(l:List dI):List jq:=(l.filter fun f=>aD 64 f.1).map fun f=>(ba .i64 f.1 64,())
def j6(l:List dI):List jq:=(l.filter fun f=> !aD 64 f.1).map fun f=>(f.1,())
def zc(l:List dI):aI:=cond (aD 0 (ae (sB l))) (dU (j6 l++[(1,())])++dU (sB l)) (dU (j6 l))
def fc(l:List dI):aI:=(l.map fun f=>tP f.1 f.2.1).flatten
def nw(m:bl):aI:=cond (fk m) (dn m.1++(zc m.2.1++fc m.2.1)) []
theorem De:∀(l:List dI),(fc l).length<=(l.map fun f=>sI f.1).sum
 | []=>oR _
 | f::l=>by have ih:=De l;have:=B8 f.1 f.2.1;unfold fc at ih ⊢;rw[aeZ,List.flatten_cons,aeo,aeZ,afR];omega
theorem Gy{m:bl}(h:fk m=true):8<=(nw m).length/\(nw m).length<=18+(m.2.1.map fun f=>sI f.1).sum:=by
 have hb:=De m.2.1;have h1:=fO m.1;have h4:m.1.length=4:=by
  unfold fk at h;cases hd:aF m.1 with
  | false=>rw[hd]at h; cases h
  | true =>
    rw[hd]at h;cases he:aj (ae m.1) 4 with
    | false=>rw[he]at h; cases h
    | true=>have:=bu.1 he; unfold ae at this; omega
 have hm:8<=(zc m.2.1).length/\(zc m.2.1).length<=16:=by
  unfold zc;cases aD 0 (ae (sB m.2.1))with
  | false=>have:=jf (j6 m.2.1); exact⟨by show 8<=(dU (j6 m.2.1)).length; omega,by show(dU (j6 m.2.1)).length<=16; omega⟩
  | true =>
    have e:(dU (j6 m.2.1++[(1,())])++dU (sB m.2.1)).length=16:=by rw[aeo,jf,jf]
    exact⟨by show 8<=(dU (j6 m.2.1++[(1,())])++dU (sB m.2.1)).length; omega,by show(dU (j6 m.2.1++[(1,())])++dU (sB m.2.1)).length<=16; omega⟩
 unfold nw;rw[h];have e:(dn m.1++(zc m.2.1++fc m.2.1)).length=(dn m.1).length+((zc m.2.1).length+(fc m.2.1).length):=by rw[aeo,aeo]
 exact⟨by show 8<=(dn m.1++(zc m.2.1++fc m.2.1)).length; omega,by show(dn m.1++(zc m.2.1++fc m.2.1)).length<=_; omega⟩
def vz(c:Int):S8:=cond (cI c 0 10) (gt ([],()) [([48,48],()),([51,48],()),([49,50],()),([49,52],()),([49,51],()),([50,53],()),([57,52],()),([53,49],()),([54,53],()),([54,49],()),([57,54],())] c).1 []
def db(s:S8):S8:=match s with
 | [a,b,c,d]=>cond (aF s) (cond (aj ((c.toNat % 2:Nat):Int) 1) [] [a,b,UInt8.ofNat (c.toNat+1),d]) []
 | _=>[]
def A1(no:Int)(s:S8):S8:=cond (dm no (cond (aj (bt no) 1) (List.replicate (fN no-ae s).toNat 48++s) (cond (aj (bt no) 2) (s++List.replicate (fN no-ae s).toNat 32) s))) (cond (aj (bt no) 1) (List.replicate (fN no-ae s).toNat 48++s) (cond (aj (bt no) 2) (s++List.replicate (fN no-ae s).toNat 32) s)) []
def vC:List Int:=[2,3,4,7,11,37,38,39,41,49,54,102,103]
def yU(m:bl)(code:Int)(hold told:S8)(no:Int):Option S8 :=
 cond (aj no 38) (cond (cond (aj code 0) (!bw hold []) false) (some (A1 38 hold)) none)
  (cond (aj no 39) (some (vz code)) (cond (aj no 54) (cond (!bw told []) (some told) none) (iq m no)))
def lv(m:bl)(code:Int)(hold told:S8)(no:Int):Option dI:=(yU m code hold told no).map fun s=>(no,s,())
def hY(m:bl)(code:Int)(hold told:S8):List dI:=vC.filterMap (lv m code hold told)
def iH(m:bl)(code:Int)(hold told:S8):bl×Bool :=
 cond (cond (fk m) (cond (bw (db m.1) []) false (!bw (vz code) [])) false)
  (cond ((hY m code hold told).all fun f=>dm f.1 f.2.1) ((db m.1,hY m code hold told,()),true) (([],[],()),false)) (([],[],()),false)
def kR(mti:S8)(code:Int):bl×Bool:=cond (fk (db mti,[(39,vz code,())],())) ((db mti,[(39,vz code,())],()),true) (([],[],()),false)
theorem sQ(m:bl)(code:Int)(hold told:S8):(hY m code hold told).Pairwise fun a b=>a.1<b.1:=by
 have h:vC.Pairwise fun a b=>a<b:=by decide
 refine List.Pairwise.filterMap _ (fun a b hab x hx y hy => ?_) h;unfold lv at hx hy;cases ha:yU m code hold told a with
 | none=>rw[ha]at hx; simp at hx
 | some s =>
   cases hb:yU m code hold told b with
   | none=>rw[hb]at hy; simp at hy
   | some t => rw[ha]at hx;rw[hb]at hy;simp only[aeM,Option.mem_def,aem]at hx hy;rw[<- hx,<- hy];exact hab
theorem C8{α:Type}(p:Nat->α->Bool)(q:α->Bool):∀(xs:List α) (k:Nat),(∀ i x,xs[i]? = some x->p (k+i) x=q x)->allI p k xs=xs.all q
 | [],_,_=>rfl
 | x::r,k,h=>by have h0:p k x=q x:=h 0 x rfl;rw[allI,afh,h0,C8 p q r (k+1) fun i y hy=>by rw[show k+1+i=k+(i+1)by omega]; exact h (i+1) y (by simpa using hy)]
theorem Dh{mti:S8}{l:List dI}(h:l.Pairwise fun a b=>a.1<b.1)(hm:cond (aF mti) (aj (ae mti) 4) false=true):fk (mti,l,())=l.all fun f=>dm f.1 f.2.1:=by
 unfold fk;rw[hm,oT];refine C8 _ _ l 0 fun i x hx => ?_
 unfold fD;cases dm x.1 x.2.1 with
 | false=>rfl
 | true =>
   by_cases h0:0<0+i
   . rw[aeq h0];obtain⟨y,hy⟩:∃ y,l[i-1]? = some y:=⟨_,aer (by have:=ai hx; omega)⟩;have hg:gt (0,[],()) l (((0+i:Nat):Int)-1)=y:=by
      rw[show(((0+i:Nat):Int)-1)=((i-1:Nat):Int)by omega];exact aO _ hy
     have hlt:y.1<x.1:=by obtain⟨h1,e1⟩:=aeV.1 hy;obtain⟨h2,e2⟩:=aeV.1 hx;rw[<- e1,<- e2];exact agL.1 h (i-1) i h1 h2 (by omega)
     show(!bT x.1 (gt (0,[],()) l (((0+i:Nat):Int)-1)).1)=true;rw[hg,show bT x.1 y.1=false from aeL (by omega)];try rfl
   . rw[aeL h0];try rfl
theorem PR(u:Nat):∀ x∈Lib.decDigits u,eM x=true:=by
 induction u using Nat.strongRecOn with
 | _ u ih =>
   intro x hx;rw[Lib.decDigits]at hx;by_cases h:u<10
   . rw[dif_pos h]at hx;simp only[agB]at hx;subst hx;rw[cK,ahd];omega
   . rw[dif_neg h]at hx;rcases afN.1 hx with hx | hx
     . exact ih _ (by omega) x hx
     . simp only[agB]at hx;subst hx;rw[cK,ahd];omega
theorem DN(n w:Int):∀ x∈dL n w,eM x=true:=by
 unfold dL;cases hc:bM n&&cI w 1 18&&bT (ae (Lib.itoa n)) w with
 | false=>intro x hx; simp at hx
 | true =>
   simp only[aen]at hc;have h0:=(bD.1 hc.1.1).1;obtain⟨u,rfl⟩:∃ u:Nat,n=u:=⟨n.toNat,by omega⟩;intro x hx;rcases afN.1 hx with hx | hx
   . rw[agO hx]; decide
   . rw[Lib.itoa_nonneg]at hx; exact PR u x hx
def Yy(x:UInt8):Bool:=cond (aD (x.toNat:Int) 32) false (!(aD 126 (x.toNat:Int)))
theorem RA{x:UInt8}:Yy x=true↔32<=x.toNat/\x.toNat<=126:=by
 unfold Yy aD;by_cases h:(x.toNat:Int)<32
 . simp[h]; omega
 . by_cases h2:(126:Int)<x.toNat
   . simp[h,h2]; omega
   . simp[h,h2]; omega
theorem LC{s:S8}(h:∀ x∈s,32<=x.toNat/\x.toNat<=126):de s=true:=aeE.2 fun x hx=>RA.2 (h x hx)
def xO(t:S8):Prop:=t=[]∨(de t=true/\1<=t.length/\t.length<=60)
theorem LH(a:ay)(now:Int):xO (uL a now).1:=by
 have e:∀ r p:Int,xO ((dL r 16++[32])++dL p 16):=fun r p=>by
  refine .inr ⟨LC fun x hx => ?_,?_⟩
  . rcases afN.1 hx with hx | hx
    . rcases afN.1 hx with hx | hx
      . have:=cK.1 (DN _ _ x hx); omega
      . simp only[agB]at hx; subst hx; decide
    . have:=cK.1 (DN _ _ x hx); omega
  . have h1:=iT r 16;have h2:=iT p 16;simp only[aeo,agr];omega
 unfold uL;cases bg a <;> first | exact .inl rfl | skip
 cases bd now <;> first | exact .inl rfl | skip
 exact e _ _
theorem HN(a b:ay)(q:ft)(now:Int):xO (lN a b q now).2.2.2:=by
 unfold lN;cases aj q.1 1 <;> first | exact .inl rfl | skip
 cases aj q.1 2 <;> first | exact .inl rfl | skip
 cases aj q.1 3 <;> first | exact .inl rfl | skip
 cases aj q.1 4 <;> first | exact .inl rfl | skip
 cases aj q.1 5 <;> first | exact .inl rfl | skip
 cases aj q.1 6 <;> first | exact .inl rfl | skip
 cases aj q.1 7 <;> first | exact .inl rfl | skip
 exact LH a now
theorem um(b:List ay)(q:ft)(now:Int):xO (cV b q now).2.2:=by
 unfold cV;cases jV b <;> first | exact .inl rfl | skip
 cases kf q <;> first | exact .inl rfl | skip
 cases bd now <;> first | exact .inl rfl | skip
 dsimp only[oT];cases aj q.1 6 with
 | false =>
   dsimp only[oF];cases aD (au b q.2.1) 0 <;> first | exact .inl rfl | skip
   dsimp only[oF];cases aj (lN (gt aL b (au b q.2.1)) (gt aL b (au b q.2.1)) q now).2.2.1 0 <;> first | exact .inl rfl | exact HN _ _ q now
 | true =>
   dsimp only[oT];cases cond (aD (au b q.2.1) 0) true (aD (au b q.2.2.1) 0) <;> first | exact .inl rfl | skip
   dsimp only[oF];cases aj (lN (gt aL b (au b q.2.1)) (gt aL b (au b q.2.2.1)) q now).2.2.1 0 <;> first | exact .inl rfl | exact HN _ _ q now
theorem Vg{m:bl}(h:fk m=true){no:Int}{s:S8}(hs:iq m no=some s):dm no s=true:=by
 unfold iq at hs;cases hf:m.2.1.find? (fun f=>aj f.1 no)with
 | none=>rw[hf]at hs; cases hs
 | some f =>
   rw[hf]at hs;cases hs;have e:f.1=no:=by have h2:=List.find?_some hf; exact bu.1 h2
   obtain⟨i,hi⟩:=ag1.1 (agM hf);unfold fk at h;cases hd:cond (aF m.1) (aj (ae m.1) 4) false with
   | false=>rw[hd]at h; cases h
   | true =>
     rw[hd]at h;have:=j4 (fD m.2.1) h hi;unfold fD at this;rw[<- e];cases hk:dm f.1 f.2.1 with
     | true=>rfl
     | false=>rw[hk]at this; cases this
theorem Xw{s:S8}(h:bf s=true):dm 38 (A1 38 s)=true:=by
 unfold bf at h;cases ha:s.all jK with
 | false=>rw[ha]at h; cases h
 | true =>
   rw[ha]at h;have hl:=bD.1 h;have hp:dm 38 (s++List.replicate ((6:Int)-ae s).toNat 32)=true:=by
    show cond (de (s++List.replicate ((6:Int)-ae s).toNat 32)) (aj (ae (s++List.replicate ((6:Int)-ae s).toNat 32)) 6) false=true;rw[LC fun x hx => ?_]
    . show aj _ 6=true;rw[bu];unfold ae at hl ⊢;rw[aeo,afu];omega
    . rcases afN.1 hx with hx | hx
      . have:=aeE.1 ha x hx;unfold jK aD at this;by_cases h1:(x.toNat:Int)<48 <;> by_cases h2:(57:Int)<x.toNat <;> by_cases h3:(x.toNat:Int)<97 <;> by_cases h4:(122:Int)<x.toNat <;> simp[h1,h2,h3,h4]at this <;> omega
      . rw[agO hx]; decide
   have e:A1 38 s=s++List.replicate ((6:Int)-ae s).toNat 32:=by show cond (dm 38 (s++List.replicate ((6:Int)-ae s).toNat 32)) (s++List.replicate ((6:Int)-ae s).toNat 32) []=_;rw[hp];try rfl
   rw[e]; exact hp
theorem C0{c:Int}(h:0<=c/\c<=10):c=0∨c=1∨c=2∨c=3∨c=4∨c=5∨c=6∨c=7∨c=8∨c=9∨c=10:=by omega
theorem SP{c:Int}(h:0<=c/\c<=10):dm 39 (vz c)=true/\bw (vz c) []=false:=by rcases C0 h with rfl | rfl | rfl | rfl | rfl | rfl | rfl | rfl | rfl | rfl | rfl <;> decide
theorem Mp{m:bl}{code:Int}{hold told:S8}(hm:fk m=true)(hc:0<=code/\code<=10)(hh:code=0->bw hold []=false->bf hold=true)(ht:xO told):((hY m code hold told).all fun f=>dm f.1 f.2.1)=true:=by
 refine aeE.2 fun f hf => ?_
 obtain⟨no,hno,hf⟩:=List.mem_filterMap.1 hf;unfold lv at hf;cases hr:yU m code hold told no with
 | none=>rw[hr]at hf; cases hf
 | some s =>
   rw[hr]at hf;cases hf;show dm no s=true;unfold yU at hr;cases h38:aj no 38 with
   | true =>
     rw[h38]at hr;have e:=bu.1 h38;subst e;cases hz:aj code 0 with
     | false=>rw[hz]at hr; cases hr
     | true =>
       cases hy:bw hold []with
       | true=>rw[hz,hy]at hr; cases hr
       | false => rw[hz,hy]at hr;cases hr;exact Xw (hh (bu.1 hz) hy)
   | false =>
   cases h39:aj no 39 with
   | true => rw[h38,h39]at hr;cases hr;rw[bu.1 h39];exact(SP hc).1
   | false =>
   cases h54:aj no 54 with
   | true =>
     rw[h38,h39,h54]at hr;cases hy:bw told []with
     | true=>rw[hy]at hr; cases hr
     | false =>
       rw[hy]at hr;cases hr;rw[bu.1 h54];rcases ht with rfl | ⟨t1,t2,t3⟩
       . cases hy
       . show cond (de told) (cI (ae told) 1 60) false=true;rw[t1];exact bD.2 (by unfold ae; omega)
   | false => rw[h38,h39,h54]at hr;exact Vg hm hr
theorem qz(g:Int->Option dI)(hg:∀ no f,g no=some f->f.1=no):∀ l:List Int,((l.filterMap g).map fun f=>sI f.1).sum<=(l.map sI).sum
 | []=>oR _
 | no::l=>by
   have ih:=qz g hg l;rw[aeZ,afR];cases h:g no with
   | none=>rw[agP h]; omega
   | some f=>rw[agQ h,aeZ,afR,hg no f h]; omega
theorem CQ:(vC.map sI).sum=162:=by decide
theorem Ac{s:S8}(h:bw (db s) []=false):cond (aF (db s)) (aj (ae (db s)) 4) false=true:=by
 unfold db at h ⊢
 match s with
 | [a,b,c,d] =>
   dsimp only at h ⊢;cases hd:aF [a,b,c,d]with
   | false=>rw[hd]at h; cases h
   | true =>
     rw[hd]at h;cases hp:aj ((c.toNat % 2:Nat):Int) 1 with
     | true=>rw[hp]at h; cases h
     | false =>
       have hx:=iR hd;have hc:=cK.1 (hx c (by simp));have hpar:c.toNat % 2≠1:=fun e=>by rw[e]at hp; cases hp
       have hn:eM (UInt8.ofNat (c.toNat+1))=true:=cK.2 (by rw[ahd]; omega);show cond (aF [a,b,UInt8.ofNat (c.toNat+1),d]) (aj (ae [a,b,UInt8.ofNat (c.toNat+1),d]) 4) false=true;have:aF [a,b,UInt8.ofNat (c.toNat+1),d]=true:=by
        unfold aF;rw[show [a,b,UInt8.ofNat (c.toNat+1),d].all eM=true from aeE.2 fun x h=>by
         simp only[aew,List.not_mem_nil,or_false]at h;rcases h with rfl | rfl | rfl | rfl
         . exact hx _ (by simp)
         . exact hx _ (by simp)
         . exact hn
         . exact hx _ (by simp)]
        rfl
       rw[this];try rfl
 | []=>cases h
 | [_]=>cases h
 | [_,_]=>cases h
 | [_,_,_]=>cases h
 | _::_::_::_::_::_=>cases h
theorem IL{m:bl}{code:Int}{hold told:S8}(hm:fk m=true)(hr:bw (db m.1) []=false)(hc:0<=code/\code<=10)(hh:code=0->bw hold []=false->bf hold=true)(ht:xO told) :
 (iH m code hold told).1=(db m.1,hY m code hold told,())/\1<=(nw (iH m code hold told).1).length/\(nw (iH m code hold told).1).length<=200:=by
 have hok:=Mp (told:=told) hm hc hh ht;have e:(iH m code hold told).1=(db m.1,hY m code hold told,()):=by unfold iH;rw[hm,hr,(SP hc).2,hok];try rfl
 have hmsg:fk (db m.1,hY m code hold told,())=true:=by rw[Dh (sQ m code hold told) (Ac hr)]; exact hok
 have h1:=Gy hmsg;have h2:((hY m code hold told).map fun f=>sI f.1).sum<=162:=by
  have:=qz (lv m code hold told) (fun no f h=>by
   unfold lv at h;cases hr:yU m code hold told no with
   | none=>rw[hr]at h; cases h
   | some s=>rw[hr]at h; cases h; rfl) vC
  rw[CQ]at this;exact this
 have h3:(nw (db m.1,hY m code hold told,())).length<=18+((hY m code hold told).map fun f=>sI f.1).sum:=h1.2;rw[e];exact⟨rfl,by omega,by omega⟩
def tj(t m:S8)(y:cM):Bool:=cond (bw y.1 t) (bw y.2.1 m) false
def ik(l:List cM)(t m:S8):Option aI:=(l.find? (tj t m)).map fun y=>y.2.2.1
theorem JK{l:List cM}{s:cM}(h:fZ l=true)(hs:nP s=true)(hn:ik l s.1 s.2.1=none)(hl:aj (ae l) 6=false):fZ (l++[s])=true:=by
 unfold fZ at h ⊢;cases ha:allI (eF l) 0 l with
 | false=>rw[ha]at h; cases h
 | true =>
   rw[ha]at h;have h6:ae l<=6:=afI h;have hne:ae l≠6:=fun e=>by rw[bu.2 e]at hl; cases hl
   have hno:∀ y∈l,tj s.1 s.2.1 y=false:=by unfold ik at hn;rw[Option.map_eq_none_iff]at hn;intro y hy;have:=List.find?_eq_none.1 hn y hy;simpa using this
   have hall:allI (eF (l++[s])) 0 (l++[s])=true:=by
    refine AY _ _ 0 fun i x hx => ?_
    rw[aey];unfold eF;by_cases hi:i<l.length
    . rw[ae4 hi]at hx;have:=j4 (eF l) ha hx;rw[aey]at this;unfold eF at this;rw[age (by omega)];exact this
    . have hi2:i=l.length:=by
       have:=ai hx;rw[aeo,agr]at this;omega
      subst hi2;rw[ae3 (oR _),agb]at hx;cases hx;rw[hs,age (oR _),agJ];show(l.all fun y=> !gS y s)=true;refine aeE.2 fun y hy => ?_
      have:=hno y hy;unfold tj at this;unfold gS;rw[this];try rfl
   rw[hall];show bT (ae (l++[s])) 6=true;refine aeq ?_;unfold ae at h6 hne ⊢;rw[aeo,agr];omega
def Ga(a:ay)(l:List cM):ay:=(a.1,a.2.1,a.2.2.1,a.2.2.2.1,a.2.2.2.2.1,a.2.2.2.2.2.1,a.2.2.2.2.2.2.1,a.2.2.2.2.2.2.2.1,a.2.2.2.2.2.2.2.2.1,a.2.2.2.2.2.2.2.2.2.1,l,())
def qL(m:bl)(c:Int)(h t:S8):aI:=nw (iH m c h t).1
def cq(b:List ay)(q:ft)(now:Int):List ay:=cond (aj (cV b q now).2.1 0) (cV b q now).1 b
def kB(b:List ay)(m:bl)(q:ft)(now:Int):cM:=(q.2.2.2.2.1,q.2.2.2.2.2.1,qL m (cV b q now).2.1 q.2.2.2.1 (cV b q now).2.2,())
def x4(b:List ay)(m:bl)(q:ft)(now:Int):List ay×aI :=
 (cO (cq b q now) (au b q.2.1) (Ga (gt aL (cq b q now) (au b q.2.1)) (slotsOf (gt aL (cq b q now) (au b q.2.1))++[kB b m q now])),qL m (cV b q now).2.1 q.2.2.2.1 (cV b q now).2.2)
def sK(b:List ay)(m:bl)(q:ft)(now:Int):List ay×aI :=
 cond (aD (au b q.2.1) 0) (b,qL m 3 [] [])
  (match ik (slotsOf (gt aL b (au b q.2.1))) q.2.2.2.2.1 q.2.2.2.2.2.1 with
  | some o=>(b,o)
  | none=>cond (aj (ae (slotsOf (gt aL b (au b q.2.1)))) 6) (b,qL m 10 [] []) (x4 b m q now))
def vT(b:List ay)(m:bl)(now:Int):List ay×aI:=cond (aj (ee m).2 0) (sK b m (ee m).1 now) (b,qL m (ee m).2 [] [])
def jo(b:List ay)(x:aI)(now:Int):List ay×aI :=
 cond (cond (jV b) (bd now) false)
  (match hE x 0 4 with
  | none=>(b,[])
  | some t=>cond (bw (db t) []) (b,[]) (cond (aj (cU x).2 0) (vT b (cU x).1 now) (b,nw (kR t 1).1)))
  (b,[])
theorem N5{q:ft}(h:kf q=true):cond (aF q.2.2.2.2.2.1) (aj (ae q.2.2.2.2.2.1) 4) false=true/\cond (aF q.2.2.2.2.1) (aj (ae q.2.2.2.2.1) 6) false=true/\(bw q.2.2.2.1 []=false->bf q.2.2.2.1=true):=by
 unfold kf at h;simp only[aen]at h;obtain⟨⟨⟨⟨⟨⟨⟨⟨h1,h2⟩,h3⟩,h4⟩,h5⟩,h6⟩,h7⟩,h8⟩,h9⟩:=h;refine⟨?_,by rw[h4]; exact h5,fun hh => ?_⟩
 . rw[PI.1 h2];rcases nW h1 with e | e | e | e | e | e | e | e <;> rw[e] <;> decide
 . cases hc:aD q.1 7 with
   | true=>rw[hc]at h6; exact h6
   | false => rw[hc]at h6;have h6:bw q.2.2.2.1 []=true:=h6;rw[h6]at hh; cases hh
theorem CV{a:ay}(h:bg a=true):fZ (slotsOf a)=true:=by unfold bg at h;simp only[Bool.cond_false_right,aen]at h;obtain⟨_,_,_,_,_,_,_,h,_⟩:=h;exact h
theorem Es{b:List ay}(h:jV b=true){i:Nat}{a:ay}(ha:b[i]? = some a):bg a=true:=by
 unfold jV at h;cases hs:allI (gR b) 0 b with
 | false=>rw[hs]at h; cases h
 | true =>
   have:=j4 (gR b) hs ha;unfold gR at this;cases hm:bg a with
   | true=>rfl
   | false=>rw[hm]at this; cases this
theorem FM(b:List ay)(q:ft)(now:Int):(cq b q now).map lV=b.map lV:=by
 unfold cq;cases hz:aj (cV b q now).2.1 0 with
 | false=>rfl
 | true=>exact(L7 b q now).2 (bu.1 hz)
theorem Qk{b c:List ay}(h:c.map lV=b.map lV){i:Nat}{a:ay}(ha:b[i]? = some a):∃ y,c[i]? = some y/\lV y=lV a:=by have:=aeU (·[i]?) h;simp only[ae2,ha,aeM,afT]at this;exact this
theorem Dd{b:List ay}{m:bl}{q:ft}{now:Int}(hb:jV b=true)(hk:aD (au b q.2.1) 0=false)(hn:ik (slotsOf (gt aL b (au b q.2.1))) q.2.2.2.2.1 q.2.2.2.2.2.1=none)
 (h6:aj (ae (slotsOf (gt aL b (au b q.2.1)))) 6=false)(hm:fk m=true)(hr:bw (db m.1) []=false)(hq:kf q=true) :
 fZ (slotsOf (gt aL (cq b q now) (au b q.2.1))++[kB b m q now])=true/\∃(i:Nat) (y:ay),au b q.2.1=(i:Int)/\(cq b q now)[i]? = some y:=by
 obtain⟨i,a,e,ha⟩:=ew (of_decide_eq_false hk);have hg:gt aL b (au b q.2.1)=a:=by rw[e]; exact aO _ ha
 obtain⟨y,hy,hkey⟩:=Qk (FM b q now) ha;have hg2:gt aL (cq b q now) (au b q.2.1)=y:=by rw[e]; exact aO _ hy
 have hs:slotsOf y=slotsOf a:=aeU Prod.snd hkey;obtain⟨q1,q2,q3⟩:=N5 hq;have hl:=IL (told:=(cV b q now).2.2) hm hr (L7 b q now).1 (fun _ hh=>q3 hh) (um b q now);rw[hg]at hn h6;refine⟨?_,i,y,e,hy⟩;rw[hg2,hs];refine JK (CV (Es hb ha)) ?_ hn h6;unfold nP;show cond (cond (aF q.2.2.2.2.1) (aj (ae q.2.2.2.2.1) 6) false) (cond (cond (aF q.2.2.2.2.2.1) (aj (ae q.2.2.2.2.2.1) 4) false) (cI (ae (qL m (cV b q now).2.1 q.2.2.2.1 (cV b q now).2.2)) 1 200) false) false=true;rw[q1,q2];exact bD.2 (by unfold qL ae; omega)
theorem B0{m:bl}(h:aj (ee m).2 0=true):fk m=true/\kf (ee m).1=true:=by
 have h:=bu.1 h;unfold ee at h ⊢;cases hm:fk m with
 | false=>rw[hm]at h; cases h
 | true =>
 rw[hm]at h;cases hk:xJ m.1 with
 | false=>rw[hk]at h; cases h
 | true =>
 rw[hk]at h;dsimp only[oT]at h ⊢;cases hf:iq m 3 with
 | none=>rw[hf]at h; cases h
 | some c =>
 rw[hf]at h;dsimp only at h ⊢;unfold EF at h ⊢;cases hq:Ja m (eQ m.1 c)with
 | false=>rw[hq]at h; cases h
 | true =>
 rw[hq]at h;cases hr:kf (jP m (eQ m.1 c))with
 | false=>rw[hr]at h; cases h
 | true=>exact⟨rfl,hr⟩
theorem zJ{x:aI}{t:S8}(h:hE x 0 4=some t)(h0:aj (cU x).2 0=true):(cU x).1.1=t:=by
 have h0:=bu.1 h0;unfold cU at h0 ⊢;rw[h]at h0 ⊢;dsimp only at h0 ⊢;cases hn:yO x with
 | none=>rw[hn]at h0; cases h0
 | some p =>
 obtain⟨nos,a⟩:=p;rw[hn]at h0;dsimp only at h0 ⊢;cases hf:kV x nos a []with
 | none=>rw[hf]at h0; cases h0
 | some p =>
 obtain⟨l,e⟩:=p;rw[hf]at h0;dsimp only at h0 ⊢;by_cases he:e=x.length
 . rw[if_pos he]
 . rw[if_neg he]at h0; cases h0
theorem Kj(m:bl):(nw m).length<=18+(m.2.1.map fun f=>sI f.1).sum:=by
 cases h:fk m with
 | true=>exact(Gy h).2
 | false=>unfold nw; rw[h]; exact aeA _
theorem Pm{m:bl}{c:Int}{h t:S8}{no:Int}{f:dI}(hf:lv m c h t no=some f):f.1=no:=by
 unfold lv at hf;cases hr:yU m c h t no with
 | none=>rw[hr]at hf; cases hf
 | some s=>rw[hr]at hf; cases hf; rfl
theorem Gw(m:bl)(c:Int)(h t:S8):(qL m c h t).length<=180:=by
 have hs:=qz (lv m c h t) (fun no f hf=>Pm hf) vC;rw[CQ]at hs;have h0:(nw (([],[],()):bl)).length<=180:=by rw[show nw (([],[],()):bl)=[]from rfl]; exact aeA _
 unfold qL iH;cases cond (fk m) (cond (bw (db m.1) []) false (!bw (vz c) [])) false with
 | false=>exact h0
 | true =>
   cases(hY m c h t).all fun f=>dm f.1 f.2.1 with
   | false=>exact h0
   | true => refine aeu (Kj _) ?_;show 18+((hY m c h t).map fun f=>sI f.1).sum<=180;exact Nat.add_le_add_left hs 18
theorem PX(t:S8)(c:Int):(nw (kR t c).1).length<=20:=by
 unfold kR;cases fk (db t,[(39,vz c,())],())with
 | false=>show(nw (([],[],()):bl)).length<=20; rw[show nw (([],[],()):bl)=[]from rfl]; exact aeA _
 | true=>exact aeu (Kj _) (by show 18+(sI 39+0)<=20; decide)
theorem aa4{xs:List ay}(hb:lJ xs)(k:Int):bE (gt aL xs k):=by
 unfold gt;rw[afn];cases h:xs[k.toNat]? with
 | none=>exact er
 | some y=>exact hb.2 y (aet h)
theorem adA:∀ a b:Fin 10,cW .u8 (ba .i64 (ak .i64 (vB .i64 (ba .i64 (cW .i64 ((a.val+48:Nat):Int)) 48) 16) (cW .i64 ((b.val+48:Nat):Int))) 48)=((a.val * 16+b.val:Nat):Int):=by decide +kernel
theorem abh:∀ a b:Fin 10,OP .u8 (Rx .u8 (ba .u8 ((a.val+48:Nat):Int) 48) 4) (ba .u8 ((b.val+48:Nat):Int) 48)=((a.val * 16+b.val:Nat):Int):=by decide +kernel
theorem abk{x y:UInt8}(hx:eM x=true)(hy:eM y=true):cW .u8 (ba .i64 (ak .i64 (vB .i64 (ba .i64 (cW .i64 (x.toNat:Int)) 48) 16) (cW .i64 (y.toNat:Int))) 48)=(((x.toNat-48) * 16+(y.toNat-48):Nat):Int):=by have h1:=cK.1 hx;have h2:=cK.1 hy;have:=adA ⟨x.toNat-48,by omega⟩ ⟨y.toNat-48,by omega⟩;dsimp only at this;rw[show x.toNat-48+48=x.toNat by omega,show y.toNat-48+48=y.toNat by omega]at this;exact this
theorem aek{x y:UInt8}(hx:eM x=true)(hy:eM y=true):OP .u8 (Rx .u8 (ba .u8 (x.toNat:Int) 48) 4) (ba .u8 (y.toNat:Int) 48)=(((x.toNat-48) * 16+(y.toNat-48):Nat):Int):=by have h1:=cK.1 hx;have h2:=cK.1 hy;have:=abh ⟨x.toNat-48,by omega⟩ ⟨y.toNat-48,by omega⟩;dsimp only at this;rw[show x.toNat-48+48=x.toNat by omega,show y.toNat-48+48=y.toNat by omega]at this;exact this
def pR(s:S8)(k:Nat):Int×Unit:=((((s.getD (2 * k) 0).toNat-48) * 16+((s.getD (2 * k+1) 0).toNat-48):Nat),())
theorem ux:∀(n:Nat) (s:S8),s.length=2 * n->nq s=(List.range n).map (pR s)
 | 0,[],_=>rfl
 | 0,_::_,h=>by simp at h
 | n+1,x::y::r,h=>by rw[nq,ux n r (by simp only[aeC]at h; omega),List.range_succ_eq_map,aeZ,List.map_map];refine congr (aeU List.cons rfl) (List.map_congr_left fun k _ => ?_);show pR r k=pR (x::y::r) (k+1);unfold pR;rw[show 2 * (k+1)=2 * k+1+1 by omega];try rfl
 | n+1,[],h=>by simp at h
 | n+1,[x],h=>by simp at h; omega
def zy(s:S8):Bool:=cond (aF s) (bT (ae s) 38) false
theorem lx{a b:aI}(h:a.length+b.length<=bN):bj 1 a b=true:=aex (by show(a.length+b.length) * 1<=bN; omega)
theorem F7{n i x:Nat}(h:(List.range n)[i]? = some x):x=i/\i<n:=by have:=ai h;rw[ahh]at this;rw[List.getElem?_range this]at h;exact⟨(ae9 h).symm,this⟩
theorem FY{α β Y:Type}(F:α->β)(z:List β->Y):∀(xs:List α) (i:Nat) (d:List β),jO (fun _ x (a:List β)=>Sum.inl (a++[F x])) z i xs d=z (d++xs.map F)
 | [],i,d=>by simp[jO]
 | x::r,i,d=>by simp only[jO]; rw[FY F z r]; simp
theorem RY(s:S8)(n:Nat)(hn:s.length=2 * n)(hb:n<=1048576)(hd:s.all eM=true):LF s [] 0=some (.inl (s,nq s,((2 * n:Nat):Int),())):=by
 have hbig:=bh;have h:=aT (step:=fY xP) (List.range n) (fun i (o:aI)=>(s,o,((2 * i:Nat):Int),())) (fun _ k o=>Sum.inl (o++[pR s k])) (fun o=> .inl (s,o,((2 * n:Nat):Int),())) (fun i o=>o.length<=i) (a0:=[]) (oR _) (fun i k o hk ho=>by
  obtain⟨rfl,hi⟩:=F7 hk;obtain⟨x,hx⟩:∃ x,s[2 * k]? = some x:=⟨_,aer (by omega)⟩;obtain⟨y,hy⟩:∃ y,s[2 * k+1]? = some y:=⟨_,aer (by omega)⟩;have dx:=aeE.1 hd x (aet hx);have dy:=aeE.1 hd y (aet hy);have pv:pR s k=((((x.toNat-48) * 16+(y.toNat-48):Nat):Int),()):=by unfold pR;rw[afn,afn,hx,hy];try rfl
  have hf:∀ v:Int×Unit,bj 1 o [v]=true:=fun v=>lx (by show o.length+1<=bN; omega)
  show xP s o ((2 * k:Nat):Int)=_;unfold xP;dsimp only;rw[aM hx,aC hx,aU (by omega),aC hy,e8 hx,e8 hy,abk dx dy,hf,pv];rw[show ak .i64 ((2 * k:Nat):Int) 2=((2 * (k+1):Nat):Int)by rw[a8 (by omega) (by omega)]; omega];try rfl) (fun i k o o' hk ho hf=>by
  simp only[aeK]at hf;rw[<- hf,aeo];show o.length+1<=_;omega) (fun o ho=>by
  show xP s o ((2 * (List.range n).length:Nat):Int)=_;unfold xP;rw[ahh,aA hn];try rfl)
 rw[FY,<- ux n s hn]at h;exact h
theorem Bh(s:S8)(hs:s.length<=1048576):OQ s=some ((),((dn s,()),(zy s,()),())):=by
 have hbig:=bh;unfold OQ dn zy;rw[fg s (by omega)];dsimp only[oB];cases hd:aF s with
 | false=>rfl
 | true =>
   have hp:aj (dP (ae s) 2) 1=decide (s.length % 2=1):=F8 s.length;have ha:=(dj.1 hd).1;rw[hp];by_cases h38:s.length<=38
   . rw[show aD 38 (ae s)=false from aG (by show ¬ (38:Int)<(s.length:Int); omega),show bT (ae s) 38=true from aeq (by show(s.length:Int)<=38; omega)];by_cases hpar:s.length % 2=1
     . have he:xY s=48::s:=if_pos hpar;have hl:=RY (48::s) ((s.length+1) / 2) (by simp only[aeC]; omega) (by omega) (by rw[afh,ha];try rfl);rw[aeq hpar,he,show iJ [48] s=true from nO (by show 1+s.length<=bN; omega)];exact bn hl
     . have he:xY s=s:=if_neg hpar;have hl:=RY s (s.length / 2) (by omega) (by omega) ha;rw[aeL hpar,he];exact bn hl
   . rw[show aD 38 (ae s)=true from aP (by show(38:Int)<(s.length:Int); omega),show bT (ae s) 38=false from aeL (by show ¬ (s.length:Int)<=38; omega)];try rfl
theorem So(s:S8)(n:Nat)(hn:s.length=2 * n)(hb:n<=1048576)(hd:s.all eM=true):Fh s [] 0=some (.inl (s,nq s,((2 * n:Nat):Int),())):=by
 have hbig:=bh;have h:=aT (step:=fY rr) (List.range n) (fun i (o:aI)=>(s,o,((2 * i:Nat):Int),())) (fun _ k o=>Sum.inl (o++[pR s k])) (fun o=> .inl (s,o,((2 * n:Nat):Int),())) (fun i o=>o.length<=i) (a0:=[]) (oR _) (fun i k o hk ho=>by
  obtain⟨rfl,hi⟩:=F7 hk;obtain⟨x,hx⟩:∃ x,s[2 * k]? = some x:=⟨_,aer (by omega)⟩;obtain⟨y,hy⟩:∃ y,s[2 * k+1]? = some y:=⟨_,aer (by omega)⟩;have dx:=aeE.1 hd x (aet hx);have dy:=aeE.1 hd y (aet hy);have pv:pR s k=((((x.toNat-48) * 16+(y.toNat-48):Nat):Int),()):=by unfold pR;rw[afn,afn,hx,hy];try rfl
  have hf:∀ v:Int×Unit,bj 1 o [v]=true:=fun v=>lx (by show o.length+1<=bN; omega)
  show rr s o ((2 * k:Nat):Int)=_;unfold rr;dsimp only;rw[aM hx,aC hx,aU (by omega),aC hy,e8 hx,e8 hy,aek dx dy,hf,pv];rw[show ak .i64 ((2 * k:Nat):Int) 2=((2 * (k+1):Nat):Int)by rw[a8 (by omega) (by omega)]; omega];try rfl) (fun i k o o' hk ho hf=>by
  simp only[aeK]at hf;rw[<- hf,aeo];show o.length+1<=_;omega) (fun o ho=>by
  show rr s o ((2 * (List.range n).length:Nat):Int)=_;unfold rr;rw[ahh,aA hn];try rfl)
 rw[FY,<- ux n s hn]at h;exact h
theorem BE(s:S8)(hs:s.length<=1048576):Bm s=some ((),((dn s,()),(zy s,()),())):=by
 have hbig:=bh;unfold Bm dn zy;rw[gW s (by omega)];dsimp only[oB];cases hd:aF s with
 | false=>rfl
 | true =>
   have hp:aj (dP (ae s) 2) 1=decide (s.length % 2=1):=F8 s.length;have ha:=(dj.1 hd).1;rw[hp];by_cases h38:s.length<=38
   . rw[show aD 38 (ae s)=false from aG (by show ¬ (38:Int)<(s.length:Int); omega),show bT (ae s) 38=true from aeq (by show(s.length:Int)<=38; omega)];by_cases hpar:s.length % 2=1
     . have he:xY s=48::s:=if_pos hpar;have hl:=So (48::s) ((s.length+1) / 2) (by simp only[aeC]; omega) (by omega) (by rw[afh,ha];try rfl);rw[aeq hpar,he,show iJ [48] s=true from nO (by show 1+s.length<=bN; omega)];exact bn hl
     . have he:xY s=s:=if_neg hpar;have hl:=So s (s.length / 2) (by omega) (by omega) ha;rw[aeL hpar,he];exact bn hl
   . rw[show aD 38 (ae s)=true from aP (by show(38:Int)<(s.length:Int); omega),show bT (ae s) 38=false from aeL (by show ¬ (s.length:Int)<=38; omega)];try rfl
theorem Ui:∀(c:Fin 256) (r:Fin 8),OP .u8 (c.val:Int) (pI .u8 128 (r.val:Int))=((c.val ||| 128 >>> r.val:Nat):Int)/\c.val ||| 128 >>> r.val<256:=by decide +kernel
def O8(o:aI):Prop:=o.length=8/\∀ x∈o,0<=x.1/\x.1<=255
theorem Hd:O8 (List.replicate 8 (0,())):=⟨afu,fun x hx=>by rw[agO hx]; decide⟩
theorem nc{o:aI}(h:O8 o){k:Nat}(hk:k<64):O8 (lE o k)/\lE o k=cO o ((k / 8:Nat):Int) (OP .u8 (gt d5 o ((k / 8:Nat):Int)).1 (pI .u8 128 ((k % 8:Nat):Int)),()):=by
 obtain⟨x,hx⟩:∃ x,o[k / 8]? = some x:=⟨_,aer (by rw[h.1]; omega)⟩;have hb:=h.2 x (aet hx);have e:=Ui ⟨x.1.toNat,by omega⟩ ⟨k % 8,by omega⟩;dsimp only at e;have hd:o.getD (k / 8) (0,())=x:=by rw[afn,hx];try rfl
 have hg:gt d5 o ((k / 8:Nat):Int)=x:=aO _ hx;have hi:((x.1.toNat:Nat):Int)=x.1:=by omega
 rw[hi]at e;refine⟨⟨by unfold lE; rw[afz]; exact h.1,fun y hy => ?_⟩,?_⟩
 . unfold lE at hy;rcases List.mem_or_eq_of_mem_set hy with hy | hy
   . exact h.2 y hy
   . rw[hy,hd];show(0:Int)<=((x.1.toNat ||| 128 >>> (k % 8):Nat):Int)/\((x.1.toNat ||| 128 >>> (k % 8):Nat):Int)<=255;have:=e.2;omega
 . rw[hg,e.1];unfold lE;rw[hd];try rfl
theorem AL(l:List jq)(hl:l.length<=2097152):O6 l=zR (dU l):=by
 have hbig:=bh;unfold O6;have h:=aT (step:=dJ wH) l (fun i (o:aI)=>(o,l,ae l,((i:Nat):Int),())) (fun _ k o=>Sum.inl (cond (cI k.1 1 64) (lE o (k.1.toNat-1)) o)) (fun o=> .inl (o,l,ae l,ae l,())) (fun _ o=>O8 o) (a0:=List.replicate 8 (0,())) Hd (fun i k o hk ho=>by
  have hlt:=ai hk;show wH o l (ae l) (i:Int)=_;unfold wH;rw[aM hk,aC hk,aO _ hk,mK];dsimp only[oB,oT];rw[aU (by omega)];cases hm:cI k.1 1 64 with
  | false=>rfl
  | true =>
    have hr:=bD.1 hm;obtain⟨j,hj,hj64⟩:∃ j:Nat,k.1=((j+1:Nat):Int)/\j<64:=⟨k.1.toNat-1,by omega,by omega⟩;obtain⟨e1,e2,e3,_⟩:=Q9 hj64;have hb:=(nc ho hj64).2;dsimp only[oT];rw[hj,e1,e2,e3,gv (by rw[ho.1]; omega),show bT 0 ((j % 8:Nat):Int)=true from aeq (by omega)];show(some (.inl (cO o ((j / 8:Nat):Int) (OP .u8 (gt d5 o ((j / 8:Nat):Int)).1 (pI .u8 128 ((j % 8:Nat):Int)),()),l,ae l,((i+1:Nat):Int),())):Option (Sum (aI×List jq×Int×Int×Unit) (Sum (aI×List jq×Int×Int×Unit) Unit)))=some (.inl (lE o j,l,ae l,((i+1:Nat):Int),()));rw[<- hb]) (fun i k o o' hk ho hf=>by
  simp only[aeK]at hf;rw[<- hf];cases hm:cI k.1 1 64 with
  | false=>exact ho
  | true =>
    have hr:=bD.1 hm;exact(nc ho (k:=k.1.toNat-1) (by omega)).1) (fun o ho=>by
  show wH o l (ae l) (l.length:Int)=_;unfold wH;rw[aA rfl];try rfl)
 rw[bQ]at h;exact bn h
theorem Bt(l:List jq)(hl:l.length<=2097152):BS l=zR (dU l):=by
 have hbig:=bh;unfold BS;have h:=aT (step:=dJ qN) l (fun i (o:aI)=>(o,l,ae l,((i:Nat):Int),())) (fun _ k o=>Sum.inl (cond (cI k.1 1 64) (lE o (k.1.toNat-1)) o)) (fun o=> .inl (o,l,ae l,ae l,())) (fun _ o=>O8 o) (a0:=List.replicate 8 (0,())) Hd (fun i k o hk ho=>by
  have hlt:=ai hk;show qN o l (ae l) (i:Int)=_;unfold qN;rw[aM hk,aC hk,aO _ hk,j9];dsimp only[oB,oT];rw[aU (by omega)];cases hm:cI k.1 1 64 with
  | false=>rfl
  | true =>
    have hr:=bD.1 hm;obtain⟨j,hj,hj64⟩:∃ j:Nat,k.1=((j+1:Nat):Int)/\j<64:=⟨k.1.toNat-1,by omega,by omega⟩;obtain⟨e1,e2,e3,_⟩:=Q9 hj64;have hb:=(nc ho hj64).2;dsimp only[oT];rw[hj,e1,e2,e3,gv (by rw[ho.1]; omega),show bT 0 ((j % 8:Nat):Int)=true from aeq (by omega)];show(some (.inl (cO o ((j / 8:Nat):Int) (OP .u8 (gt d5 o ((j / 8:Nat):Int)).1 (pI .u8 128 ((j % 8:Nat):Int)),()),l,ae l,((i+1:Nat):Int),())):Option (Sum (aI×List jq×Int×Int×Unit) (Sum (aI×List jq×Int×Int×Unit) Unit)))=some (.inl (lE o j,l,ae l,((i+1:Nat):Int),()));rw[<- hb]) (fun i k o o' hk ho hf=>by
  simp only[aeK]at hf;rw[<- hf];cases hm:cI k.1 1 64 with
  | false=>exact ho
  | true =>
    have hr:=bD.1 hm;exact(nc ho (k:=k.1.toNat-1) (by omega)).1) (fun o ho=>by
  show qN o l (ae l) (l.length:Int)=_;unfold qN;rw[aA rfl];try rfl)
 rw[bQ]at h;exact bn h
theorem EB(n d:Int)(hd:d=2∨d=3):EO n d=some ((),((dn (dL n d),()),(zy (dL n d),()),())):=by have hw:=iT n d;unfold EO;rw[Fl];dsimp only[oB];rw[Bh _ (by omega)];rcases hd with rfl | rfl <;> rfl
theorem Eo(n d:Int)(hd:d=2∨d=3)(hn : -9223372036854775808<=n/\n<=9223372036854775807):Cv n d=some ((),((dn (dL n d),()),(zy (dL n d),()),())):=by have hw:=iT n d;unfold Cv;rw[j9,EI n d hn];dsimp only[oB];rw[BE _ (by omega)];rcases hd with rfl | rfl <;> rfl
theorem AH{s:S8}(h:s.length<=1048576) : -9223372036854775808<=ae s/\ae s<=9223372036854775807:=by unfold ae; omega
theorem WN(no:Int)(s:S8)(hs:s.length<=1048576):g87 no s=some ((),((tP no s,()),(dm no s,()),())):=by
 have hbig:=bh;have hb:=fO s;have ho:=AS s;have h2:=fO (dL (ae s) 2);have h3:=fO (dL (ae s) 3);have w2:=pj (n:=ae s) (w:=2) (k:=2) rfl;have w3:=pj (n:=ae s) (w:=3) (k:=3) rfl;unfold g87 tP;rw[yh no s (by omega)];dsimp only[oB];cases hf:dm no s with
 | false=>rfl
 | true =>
   rw[tH];dsimp only[oB];obtain⟨n,hn,hk⟩:=kinds no;have f0:bj 1 [] (dn s)=true:=lx (by show 0+_<=bN; omega);have f1:bj 1 [] (bytesOf s)=true:=lx (a:=[]) (b:=OL s) (by show 0+_<=bN; omega);have f2:bj 1 (dn (dL (ae s) 2)) (dn s)=true:=lx (by omega);have f3:bj 1 (dn (dL (ae s) 2)) (bytesOf s)=true:=lx (b:=OL s) (by omega);have f4:bj 1 (dn (dL (ae s) 3)) (bytesOf s)=true:=lx (b:=OL s) (by omega);unfold N4 I9;rcases hk with ⟨e,_⟩ | ⟨e,_⟩ | ⟨e,_⟩ | ⟨e,_⟩ | ⟨e,_⟩ | ⟨e,_⟩ <;> rw[e]
   . unfold dm at hf; rw[e]at hf; cases hf
   . show Option.bind (OQ s) (fun y=>cond (bj 1 [] y.2.1.1) (some ((),(((fy [] y.2.1.1),()),(true,()),()))) none)=_;rw[Bh s hs];dsimp only[oB];rw[f0];try rfl
   . show cond (bj 1 [] (bytesOf s)) (some ((),(((fy [] (bytesOf s)),()),(true,()),()))) none=_;rw[f1];try rfl
   . show Option.bind (EO (ae s) 2) (fun y5=>Option.bind (OQ s) (fun y=>cond (bj 1 y5.2.1.1 y.2.1.1) (some ((),(((fy y5.2.1.1 y.2.1.1),()),(true,()),()))) none))=_;rw[EB _ _ (.inl rfl),Bh s hs];dsimp only[oB];rw[f2];try rfl
   . show Option.bind (EO (ae s) 2) (fun y5=>cond (bj 1 y5.2.1.1 (bytesOf s)) (some ((),(((fy y5.2.1.1 (bytesOf s)),()),(true,()),()))) none)=_;rw[EB _ _ (.inl rfl)];dsimp only[oB];rw[f3];try rfl
   . show Option.bind (EO (ae s) 3) (fun y5=>cond (bj 1 y5.2.1.1 (bytesOf s)) (some ((),(((fy y5.2.1.1 (bytesOf s)),()),(true,()),()))) none)=_;rw[EB _ _ (.inr rfl)];dsimp only[oB];rw[f4];try rfl
theorem VL(no:Int):B9 no=zR (I9 no):=by unfold B9 I9;rw[qH];dsimp only[oB];cases aj (bt no) 5 <;> rfl
theorem VI(no:Int)(s:S8)(hs:s.length<=1048576):Ko no s=some ((),((tP no s,()),(dm no s,()),())):=by
 have hbig:=bh;have hb:=fO s;have ho:=AS s;have h2:=fO (dL (ae s) 2);have h3:=fO (dL (ae s) 3);have w2:=pj (n:=ae s) (w:=2) (k:=2) rfl;have w3:=pj (n:=ae s) (w:=3) (k:=3) rfl;unfold Ko tP;rw[DR no s (by omega)];dsimp only[oB];cases hf:dm no s with
 | false=>rfl
 | true =>
   rw[qH,VL];dsimp only[oB];obtain⟨n,hn,hk⟩:=kinds no;have f2:bj 1 (dn (dL (ae s) 2)) (dn s)=true:=lx (by omega);have f3:bj 1 (dn (dL (ae s) 2)) (bytesOf s)=true:=lx (b:=OL s) (by omega);have f4:bj 1 (dn (dL (ae s) 3)) (bytesOf s)=true:=lx (b:=OL s) (by omega);unfold N4 I9;rcases hk with ⟨e,_⟩ | ⟨e,_⟩ | ⟨e,_⟩ | ⟨e,_⟩ | ⟨e,_⟩ | ⟨e,_⟩ <;> rw[e]
   . unfold dm at hf; rw[e]at hf; cases hf
   . show Option.bind (Bm s) (fun y=>some ((),(y.2.1,(true,()),())))=_;rw[BE s hs];try rfl
   . rfl
   . show Option.bind (Bm s) (fun y=>Option.bind (Cv (ae s) 2) (fun y5=>cond (bj 1 y5.2.1.1 y.2.1.1) (some ((),(((fy y5.2.1.1 y.2.1.1),()),(true,()),()))) none))=_;rw[Eo _ _ (.inl rfl) (AH hs),BE s hs];dsimp only[oB];rw[f2];try rfl
   . show Option.bind (Cv (ae s) 2) (fun y5=>cond (bj 1 y5.2.1.1 (bytesOf s)) (some ((),(((fy y5.2.1.1 (bytesOf s)),()),(true,()),()))) none)=_;rw[Eo _ _ (.inl rfl) (AH hs)];dsimp only[oB];rw[f3];try rfl
   . show Option.bind (Cv (ae s) 3) (fun y5=>cond (bj 1 y5.2.1.1 (bytesOf s)) (some ((),(((fy y5.2.1.1 (bytesOf s)),()),(true,()),()))) none)=_;rw[Eo _ _ (.inr rfl) (AH hs)];dsimp only[oB];rw[f4];try rfl
theorem Vk(no:Int):sI no<=62:=by
 unfold sI;obtain⟨n,hn,hk⟩:=kinds no;rw[hn];rcases hk with ⟨e,h⟩ | ⟨e,h⟩ | ⟨e,h⟩ | ⟨e,h⟩ | ⟨e,h⟩ | ⟨e,h⟩ <;> rw[e]
 . exact oR 62
 . show((n:Int).toNat+1) / 2<=62; omega
 . show(n:Int).toNat<=62; omega
 . show 11<=62; omega
 . show 21<=62; omega
 . exact oR 62
def yk(f:dI)(a:aI×aI):aI×aI:=cond (aD 64 f.1) (a.1,a.2++[(ba .i64 f.1 64,())]) (a.1++[(f.1,())],a.2)
theorem xN:∀(l:List dI) (a:aI×aI),l.foldl (fun a f=>yk f a) a=(a.1++j6 l,a.2++sB l)
 | [],a=>by simp[j6,sB]
 | f::l,a=>by rw[afg,xN l];unfold yk j6 sB;cases h:aD 64 f.1 <;> simp[h]
theorem KT(l:List dI):(j6 l).length<=l.length:=by unfold j6; rw[afX]; exact afc _ _
theorem M5(l:List dI):(sB l).length<=l.length:=by unfold sB; rw[afX]; exact afc _ _
theorem GP(f:dI)(a:aI×aI):(yk f a).1.length<=a.1.length+1/\(yk f a).2.length<=a.2.length+1:=by
 unfold yk;cases aD 64 f.1
 . exact⟨by show(a.1++[(f.1,())]).length<=_; rw[aeo]; exact oR _,aga _⟩
 . exact⟨aga _,by show(a.2++[(ba .i64 f.1 64,())]).length<=_; rw[aeo]; exact oR _⟩
theorem DT(f:dI)(l:List dI):fc (f::l)=tP f.1 f.2.1++fc l:=rfl
theorem tT:∀(l:List dI) (o:aI),l.foldl (fun o f=>o++tP f.1 f.2.1) o=o++fc l
 | [],o=>by simp[fc]
 | f::l,o=>by rw[afg,tT l,DT,aeO]
theorem rT(f:dI):(tP f.1 f.2.1).length<=62:=aeu (B8 _ _) (Vk _)
theorem Pb(l:List dI):(fc l).length<=62 * l.length:=by
 induction l with
 | nil=>exact oR _
 | cons f l ih => have:=rT f;rw[DT,aeo,aeC];omega
theorem zN{o:aI}{x:Int×Unit}(h:o.length<=1048576):bj 8 o [x]=true:=aex (by show(o.length+1) * 8<=140737488355328; omega)
theorem Xi(m:bl)(hb:gB m):SK [] [] m.2.1 (ae m.2.1) 0 m=some (.inl (j6 m.2.1,sB m.2.1,m.2.1,ae m.2.1,ae m.2.1,m,())):=by
 have hbig:=bh;have h:=aT (step:=J7 xv) m.2.1 (fun i (a:aI×aI)=>(a.1,a.2,m.2.1,ae m.2.1,((i:Nat):Int),m,())) (fun _ f a=>Sum.inl (yk f a)) (fun a=> .inl (a.1,a.2,m.2.1,ae m.2.1,ae m.2.1,m,())) (fun i a=>a.1.length<=i/\a.2.length<=i) (a0:=([],[])) ⟨oR _,oR _⟩ (fun i f a hf ha=>by
  have hlt:=ai hf;have hl:=hb.2.1;show xv a.1 a.2 m.2.1 (ae m.2.1) (i:Int) m=_;unfold xv yk;rw[aM hf,aC hf,aO _ hf];dsimp only[oT];rw[aU (by omega),zN (o:=a.1) (by omega),zN (o:=a.2) (by omega)];cases aD 64 f.1 <;> rfl) (fun i f a a' hf ha he=>by
  simp only[aeK]at he;have:=GP f a;rw[<- he];omega) (fun a ha=>by
  show xv a.1 a.2 m.2.1 (ae m.2.1) (m.2.1.length:Int) m=_;unfold xv;rw[aA rfl];try rfl)
 rw[bQ,xN]at h;exact h
theorem RK(l:List dI)(o:aI)(hl:l.length<=1048576)(hs:∀ f∈l,f.2.1.length<=1048576)(ho:o.length<=1000):wV o l (ae l) 0=some (.inl (o++fc l,l,ae l,ae l,())):=by
 have hbig:=bh;have h:=aT (step:=dJ xZ) l (fun i (a:aI)=>(a,l,ae l,((i:Nat):Int),())) (fun _ f a=>Sum.inl (a++tP f.1 f.2.1)) (fun a=> .inl (a,l,ae l,ae l,())) (fun i a=>a.length<=1000+62 * i) (a0:=o) ho (fun i f a hf ha=>by
  have hlt:=ai hf;have hp:=rT f;show xZ a l (ae l) (i:Int)=_;unfold xZ;rw[aM hf,aC hf,aO _ hf];dsimp only[oT];rw[WN _ _ (hs f (aet hf)),aU (by omega)];dsimp only[oB];rw[lx (by omega)];try rfl) (fun i f a a' hf ha he=>by
  simp only[aeK]at he;have hp:=rT f;rw[<- he,aeo];omega) (fun a ha=>by
  show xZ a l (ae l) (l.length:Int)=_;unfold xZ;rw[aA rfl];try rfl)
 rw[bQ,tT]at h;exact h
theorem GM{m:bl}(h:fk m=true):m.1.length=4:=by
 unfold fk at h;cases hd:aF m.1 with
 | false=>rw[hd]at h; cases h
 | true =>
   rw[hd]at h;cases he:aj (ae m.1) 4 with
   | false=>rw[he]at h; cases h
   | true=>have:=bu.1 he; unfold ae at this; omega
theorem Tt(m:bl)(hb:gB m):XS m=some ((),((nw m,()),(fk m,()),())):=by
 have hbig:=bh;unfold XS nw;rw[Hh m hb];dsimp only[oB];cases hm:fk m with
 | false=>rfl
 | true =>
   have h4:=GM hm;have hlo:=KT m.2.1;have hhi:=M5 m.2.1;have hb1:=fO m.1;have hl:=hb.2.1;refine(bn (Xi m hb)).trans ?_;show Option.bind (OQ m.1) _=_;rw[Bh m.1 hb.1];dsimp only[oB];unfold zc;cases hh:aD 0 (ae (sB m.2.1))with
   | true =>
     show cond (bj 8 (j6 m.2.1) [(1,())]) (Option.bind (O6 (j6 m.2.1++[(1,())])) _) none=_;have e1:(j6 m.2.1++[((1:Int),())]).length=(j6 m.2.1).length+1:=by rw[aeo];try rfl
     rw[zN (by omega)];dsimp only[oT];rw[AL _ (by omega)];dsimp only[oB];have b1:=jf (j6 m.2.1++[((1:Int),())]);have b2:=jf (sB m.2.1);rw[lx (by omega),AL _ (by omega)];dsimp only[oB,oT];show cond (bj 1 (dn m.1++dU (j6 m.2.1++[(1,())])) (dU (sB m.2.1))) (Option.bind (wV ((dn m.1++dU (j6 m.2.1++[(1,())]))++dU (sB m.2.1)) m.2.1 (ae m.2.1) 0) _) none=_;have e2:(dn m.1++dU (j6 m.2.1++[((1:Int),())])).length=(dn m.1).length+8:=by rw[aeo,b1]
     have e3:((dn m.1++dU (j6 m.2.1++[((1:Int),())]))++dU (sB m.2.1)).length=(dn m.1).length+16:=by rw[aeo,e2,b2]
     rw[lx (by omega),RK _ _ hl hb.2.2 (by omega)];show some ((),((((dn m.1++dU (j6 m.2.1++[(1,())]))++dU (sB m.2.1))++fc m.2.1,()),(true,()),()))=some ((),((dn m.1++((dU (j6 m.2.1++[(1,())])++dU (sB m.2.1))++fc m.2.1),()),(true,()),()));simp only[aeO]
   | false =>
     show Option.bind (O6 (j6 m.2.1)) _=_;rw[AL _ (by omega)];dsimp only[oB];have b1:=jf (j6 m.2.1);rw[lx (by omega)];dsimp only[oT,oF];have e2:(dn m.1++dU (j6 m.2.1)).length=(dn m.1).length+8:=by rw[aeo,b1]
     show Option.bind (wV (dn m.1++dU (j6 m.2.1)) m.2.1 (ae m.2.1) 0) _=_;rw[RK _ _ hl hb.2.2 (by omega)];show some ((),(((dn m.1++dU (j6 m.2.1))++fc m.2.1,()),(true,()),()))=some ((),((dn m.1++(dU (j6 m.2.1)++fc m.2.1),()),(true,()),()));simp only[aeO]
def O5(f:dI)(a:(aI×aI)×aI):(aI×aI)×aI:=(yk f a.1,a.2++tP f.1 f.2.1)
theorem Ic:∀(l:List dI) (a:(aI×aI)×aI),l.foldl (fun a f=>O5 f a) a=((a.1.1++j6 l,a.1.2++sB l),a.2++fc l):=fun l a=>by
 rw[<- xN l a.1,<- tT l a.2];induction l generalizing a with
 | nil=>rfl
 | cons f l ih=>rw[afg,ih (O5 f a)];try rfl
theorem Zl(m:bl)(hb:gB m):RP [] [] [] m.2.1 (ae m.2.1) 0 m=some (.inl (j6 m.2.1,sB m.2.1,fc m.2.1,m.2.1,ae m.2.1,ae m.2.1,m,())):=by
 have hbig:=bh;have h:=aT (step:=Ft yi) m.2.1 (fun i (a:(aI×aI)×aI)=>(a.1.1,a.1.2,a.2,m.2.1,ae m.2.1,((i:Nat):Int),m,())) (fun _ f a=>Sum.inl (O5 f a)) (fun a=> .inl (a.1.1,a.1.2,a.2,m.2.1,ae m.2.1,ae m.2.1,m,())) (fun i a=>(a.1.1.length<=i/\a.1.2.length<=i)/\a.2.length<=62 * i) (a0:=(([],[]),[])) ⟨⟨oR _,oR _⟩,oR _⟩ (fun i f a hf ha=>by
  have hlt:=ai hf;have hl:=hb.2.1;have hp:=rT f;show yi a.1.1 a.1.2 a.2 m.2.1 (ae m.2.1) (i:Int) m=_;unfold yi O5 yk;rw[aM hf,aC hf,aO _ hf];dsimp only[oT];rw[aU (by omega),zN (o:=a.1.1) (by omega),zN (o:=a.1.2) (by omega),VI _ _ (hb.2.2 f (aet hf))];dsimp only[oB];rw[lx (by omega)];cases aD 64 f.1 <;> rfl) (fun i f a a' hf ha he=>by
  simp only[aeK]at he;have:=GP f a.1;have hp:=rT f;rw[<- he];refine⟨⟨?_,?_⟩,?_⟩
  . show(yk f a.1).1.length<=_; omega
  . show(yk f a.1).2.length<=_; omega
  . show(a.2++tP f.1 f.2.1).length<=_; rw[aeo]; omega) (fun a ha=>by
  show yi a.1.1 a.1.2 a.2 m.2.1 (ae m.2.1) (m.2.1.length:Int) m=_;unfold yi;rw[aA rfl];try rfl)
 rw[bQ,Ic]at h;exact h
theorem TO(m:bl)(hb:gB m):g62 m=some ((),((nw m,()),(fk m,()),())):=by
 have hbig:=bh;unfold g62 nw;rw[DF m hb];dsimp only[oB];cases hm:fk m with
 | false=>rfl
 | true =>
   have h4:=GM hm;have hlo:=KT m.2.1;have hhi:=M5 m.2.1;have hb1:=fO m.1;have hl:=hb.2.1;have hbd:=Pb m.2.1;refine(bn (Zl m hb)).trans ?_;show Option.bind (Bm m.1) _=_;rw[BE m.1 hb.1];dsimp only[oB];unfold zc;cases hh:aD 0 (ae (sB m.2.1))with
   | true =>
     show cond (bj 8 (j6 m.2.1) [(1,())]) (Option.bind (BS (j6 m.2.1++[(1,())])) _) none=_;have e1:(j6 m.2.1++[((1:Int),())]).length=(j6 m.2.1).length+1:=by rw[aeo];try rfl
     rw[zN (by omega)];dsimp only[oT];rw[Bt _ (by omega)];dsimp only[oB];have b1:=jf (j6 m.2.1++[((1:Int),())]);have b2:=jf (sB m.2.1);rw[lx (by omega),Bt _ (by omega)];dsimp only[oB,oT];show cond (bj 1 (dn m.1++dU (j6 m.2.1++[(1,())])) (dU (sB m.2.1))) (cond (bj 1 ((dn m.1++dU (j6 m.2.1++[(1,())]))++dU (sB m.2.1)) (fc m.2.1)) (some ((),((((dn m.1++dU (j6 m.2.1++[(1,())]))++dU (sB m.2.1))++fc m.2.1,()),(true,()),()))) none) none=_;have e2:(dn m.1++dU (j6 m.2.1++[((1:Int),())])).length=(dn m.1).length+8:=by rw[aeo,b1]
     have e3:((dn m.1++dU (j6 m.2.1++[((1:Int),())]))++dU (sB m.2.1)).length=(dn m.1).length+16:=by rw[aeo,e2,b2]
     rw[lx (by omega),lx (by omega)];show some ((),((((dn m.1++dU (j6 m.2.1++[(1,())]))++dU (sB m.2.1))++fc m.2.1,()),(true,()),()))=some ((),((dn m.1++((dU (j6 m.2.1++[(1,())])++dU (sB m.2.1))++fc m.2.1),()),(true,()),()));simp only[aeO]
   | false =>
     show Option.bind (BS (j6 m.2.1)) _=_;rw[Bt _ (by omega)];dsimp only[oB];have b1:=jf (j6 m.2.1);rw[lx (by omega)];dsimp only[oT,oF];have e2:(dn m.1++dU (j6 m.2.1)).length=(dn m.1).length+8:=by rw[aeo,b1]
     show cond (bj 1 (dn m.1++dU (j6 m.2.1)) (fc m.2.1)) (some ((),(((dn m.1++dU (j6 m.2.1))++fc m.2.1,()),(true,()),()))) none=_;rw[lx (by omega)];show some ((),(((dn m.1++dU (j6 m.2.1))++fc m.2.1,()),(true,()),()))=some ((),((dn m.1++(dU (j6 m.2.1)++fc m.2.1),()),(true,()),()));simp only[aeO]
theorem ad9:∀ k:Fin 10,dP ((k.val+48:Nat):Int) 2=(((k.val+48) % 2:Nat):Int)/\dP (ba .u8 ((k.val+48:Nat):Int) 48) 2=(((k.val+48) % 2:Nat):Int)/\ak .u8 ((k.val+48:Nat):Int) 1=((k.val+48+1:Nat):Int)/\cW .i32 (ak .u8 ((k.val+48:Nat):Int) 1)=((k.val+48+1:Nat):Int)/\Hn ((k.val+48+1:Nat):Int)=true:=by decide +kernel
theorem YN{c:UInt8}(h:eM c=true):dP (c.toNat:Int) 2=((c.toNat % 2:Nat):Int)/\dP (ba .u8 (c.toNat:Int) 48) 2=((c.toNat % 2:Nat):Int)/\ak .u8 (c.toNat:Int) 1=((c.toNat+1:Nat):Int)/\cW .i32 (ak .u8 (c.toNat:Int) 1)=((c.toNat+1:Nat):Int)/\Hn ((c.toNat+1:Nat):Int)=true:=by have h1:=cK.1 h;have:=ad9 ⟨c.toNat-48,by omega⟩;dsimp only at this;rw[show c.toNat-48+48=c.toNat by omega]at this;exact this
theorem ZN{s:S8}(h:aj (ae s) 4=true):∃ a b c d,s=[a,b,c,d]:=by
 have h:=bu.1 h;unfold ae at h
 match s,h with
 | [a,b,c,d],_=>exact⟨a,b,c,d,rfl⟩
 | [],h=>simp at h
 | [_],h=>simp at h
 | [_,_],h=>simp at h
 | [_,_,_],h=>simp at h
 | _::_::_::_::_::r,h=>simp only[aeC]at h; omega
theorem MY{a b c d:UInt8}(hd:aF [a,b,c,d]=true):db [a,b,c,d]=cond (aj ((c.toNat % 2:Nat):Int) 1) [] [a,b,UInt8.ofNat (c.toNat+1),d]:=by show cond (aF [a,b,c,d]) (cond (aj ((c.toNat % 2:Nat):Int) 1) [] [a,b,UInt8.ofNat (c.toNat+1),d]) []=_;rw[hd];try rfl
theorem Gj{s:S8}(h:cond (aF s) (aj (ae s) 4) false=false):db s=[]:=by
 unfold db;split
 . rename_i a b c d;cases hd:aF [a,b,c,d]with
   | false=>rfl
   | true=>rw[hd]at h; cases h
 . rfl
theorem Fo(s:S8)(hs:s.length<=1048576):Vt s=zR (db s):=by
 have hbig:=bh;cases hc:cond (aF s) (aj (ae s) 4) false with
 | false =>
   rw[Gj hc];unfold Vt;rw[fg s (by omega)];dsimp only[oB];cases hd:aF s with
   | false=>rfl
   | true=>rw[hd]at hc; rw[show aj (ae s) 4=false from hc];try rfl
 | true =>
   cases hd:aF s with
   | false=>rw[hd]at hc; cases hc
   | true => rw[hd]at hc;obtain⟨a,b,c,d,rfl⟩:=ZN hc;obtain⟨e1,_,e3,_,_⟩:=YN (iR hd c (by simp));rw[MY hd];unfold Vt;rw[fg _ (by omega),hd];show cond (aj (dP (c.toNat:Int) 2) 1) _ (zR (([a,b]++strOf [(ak .u8 (c.toNat:Int) 1,())])++[d]))=_;rw[e1,e3];cases aj ((c.toNat % 2:Nat):Int) 1 <;> rfl
theorem Fu(s:S8)(hs:s.length<=1048576):W8 s=zR (db s):=by
 have hbig:=bh;unfold W8;rw[zH s 4 (by omega)];dsimp only[oB];cases hc:cond (aF s) (aj (ae s) 4) false with
 | false=>rw[Gj hc];try rfl
 | true =>
   cases hd:aF s with
   | false=>rw[hd]at hc; cases hc
   | true => rw[hd]at hc;obtain⟨a,b,c,d,rfl⟩:=ZN hc;obtain⟨_,e2,_,e4,e5⟩:=YN (iR hd c (by simp));rw[MY hd];show cond (aj (dP (ba .u8 (c.toNat:Int) 48) 2) 1) _ (cond (Hn (cW .i32 (ak .u8 (c.toNat:Int) 1))) (zR (([a,b]++W7 (cW .i32 (ak .u8 (c.toNat:Int) 1)))++[d])) none)=_;rw[e2,e4,e5];cases aj ((c.toNat % 2:Nat):Int) 1 <;> rfl
theorem B5(s:S8):(db s).length<=4:=by
 unfold db;split
 . rename_i a b c d;cases aF [a,b,c,d]with
   | false=>exact aeA _
   | true =>
     cases aj ((c.toNat % 2:Nat):Int) 1 with
     | false=>exact oR 4
     | true=>exact aeA _
 . exact aeA _
theorem rsI{n:Int}(h:cI n 0 10=true):n=0∨n=1∨n=2∨n=3∨n=4∨n=5∨n=6∨n=7∨n=8∨n=9∨n=10:=C0 (bD.1 h)
theorem NW(n:Int):W0 n=zR (vz n):=by
 unfold W0 WW vz;dsimp only[oB];rw[mK];dsimp only[oB];show cond (!cI n 0 10) _ _=_;cases h:cI n 0 10 with
 | false=>rfl
 | true=>rcases rsI h with rfl | rfl | rfl | rfl | rfl | rfl | rfl | rfl | rfl | rfl | rfl <;> rfl
theorem NR(n:Int):H7 n=zR (vz n):=by
 unfold H7 U2 vz;rw[j9];dsimp only[oB];cases h:cI n 0 10 with
 | false=>rfl
 | true=>rcases rsI h with rfl | rfl | rfl | rfl | rfl | rfl | rfl | rfl | rfl | rfl | rfl <;> rfl
theorem Ej(n:Int):(vz n).length<=2:=by
 unfold vz;cases h:cI n 0 10 with
 | false=>exact aeA _
 | true=>rcases rsI h with rfl | rfl | rfl | rfl | rfl | rfl | rfl | rfl | rfl | rfl | rfl <;> decide
theorem Fa(t:S8)(c:Int):gB (db t,[(39,vz c,())],()):=by have h1:=B5 t;have h2:=Ej c;refine⟨by show(db t).length<=_; omega,by show 1<=1048576; decide,fun f hf => ?_⟩;have hf:f∈[((39:Int),vz c,())]:=hf;rw[agB]at hf;rw[hf];show(vz c).length<=_;omega
theorem QN(t:S8)(c:Int)(ht:t.length<=1048576):g47 t c=some ((),((kR t c).1,((kR t c).2,()),())):=by unfold g47 kR;rw[Fo t ht,NW];dsimp only[oB];rw[Hh _ (Fa t c)];dsimp only[oB];cases fk (db t,[(39,vz c,())],()) <;> rfl
theorem Rr(t:S8)(c:Int)(ht:t.length<=1048576):g61 t c=some ((),((kR t c).1,((kR t c).2,()),())):=by unfold g61 kR;rw[Fu t ht,NR];dsimp only[oB];rw[DF _ (Fa t c)];dsimp only[oB];cases fk (db t,[(39,vz c,())],()) <;> rfl
abbrev PB:=Option (Sum (Int×S8×Unit) (Sum (Int×S8×Unit) Unit))
theorem NK(s:S8)(h:aD (ae s) 6=true):uu 38 s=some (.inl (38,s++[32],())):=by have hbig:=bh;have hl:(s.length:Int)<6:=afI h;unfold uu;rw[wY,tH];show cond (aD (ae s) 6) (cond (iJ s [32]) (some (.inl (38,s++[32],()))) none) (some (.inr (.inl (38,s,()))):PB)=_;rw[h,nO (by show s.length+1<=bN; omega)];try rfl
theorem wM:∀(d:Nat) (s:S8),(s.length+d=6∨(d=0/\6<=s.length))->Lv 38 s=some (.inl (38,s++List.replicate d 32,()))
 | 0,s,h=>by refine dh _ ?_;show uu 38 s=_;unfold uu;rw[wY];show cond (aD (ae s) 6) _ (some (.inr (.inl (38,s,()))):PB)=_;rw[aG (by unfold ae; omega)];show(some (.inr (.inl (38,s,()))):PB)=some (.inr (.inl (38,s++[],())));rw[afd]
 | d+1,s,h=>by have ih:=wM d (s++[32]) (by rw[aeo,agr]; omega);rw[aeO]at ih;exact dN _ (x':=(38,s++[32],())) (NK s (aP (by unfold ae; omega))) ih
theorem w8(s:S8):A1 38 s=cond (dm 38 (s++List.replicate ((6:Int)-ae s).toNat 32)) (s++List.replicate ((6:Int)-ae s).toNat 32) []:=rfl
theorem P3(s:S8)(hs:s.length<=1048576):Qf 38 s=zR (A1 38 s):=by
 have hbig:=bh;have h1:M3 38 s=some (.inl (38,s,())):=by refine dh _ ?_;show AB 38 s=_;unfold AB;rw[wY,tH];show(cond (aD (ae s) 6) (some (.inr (.inl (38,s,())))) (some (.inr (.inl (38,s,())))):PB)=_;cases aD (ae s) 6 <;> rfl
 have h2:=wM ((6:Int)-ae s).toNat s (by unfold ae; omega);rw[w8];have hl:(s++List.replicate ((6:Int)-ae s).toNat (32:UInt8)).length<=1048582:=by rw[aeo,afu]; unfold ae; omega
 unfold Qf;refine(bn h1).trans ((bn h2).trans ?_);show Option.bind (vF 38 (s++List.replicate ((6:Int)-ae s).toNat 32)) _=_;rw[yh _ _ (by omega)];dsimp only[oB];cases dm 38 (s++List.replicate ((6:Int)-ae s).toNat 32) <;> rfl
theorem PH(s:S8)(hs:s.length<=1048576):PN 38 s=zR (A1 38 s):=by
 have hbig:=bh;rw[w8];have hl:(s++List.replicate ((6:Int)-ae s).toNat (32:UInt8)).length<=1048582:=by rw[aeo,afu]; unfold ae; omega
 unfold PN;rw[Ls,qH];show Option.bind (E5 [32] (El (ba .i64 6 (ae s)) 0)) _=_;have e:El (ba .i64 6 (ae s)) 0=(((6:Int)-ae s).toNat:Int):=by rw[bA (by unfold ae; omega) (by unfold ae; omega)];unfold El;split <;> omega
 rw[e];unfold E5 po;rw[show bT 0 (((6:Int)-ae s).toNat:Int)=true from aeq (by omega),show Nat.ble (([32]:S8).length * ((((6:Int)-ae s).toNat:Int)).toNat) bN=true from aex (by simp only[aeC,ae7]; unfold ae; omega)];show cond (iJ s (Lib.repeatL [32] ((6:Int)-ae s).toNat)) (Option.bind (rL 38 (s++Lib.repeatL [32] ((6:Int)-ae s).toNat)) _) none=_;rw[As,nO (by rw[afu]; unfold ae; omega)];dsimp only[oT];rw[DR _ _ (by omega)];dsimp only[oB];show cond (!dm 38 (s++List.replicate ((6:Int)-ae s).toNat 32)) (zR []) (zR (s++Lib.repeatL [32] ((6:Int)-ae s).toNat))=_;rw[As];cases dm 38 (s++List.replicate ((6:Int)-ae s).toNat 32) <;> rfl
theorem zY(s:S8):(A1 38 s).length<=6:=by
 rw[w8];cases h:dm 38 (s++List.replicate ((6:Int)-ae s).toNat 32)with
 | false=>exact aeA _
 | true =>
   have h:cond (de (s++List.replicate ((6:Int)-ae s).toNat 32)) (aj (ae (s++List.replicate ((6:Int)-ae s).toNat 32)) 6) false=true:=h;cases hp:de (s++List.replicate ((6:Int)-ae s).toNat 32)with
   | false=>rw[hp]at h; cases h
   | true => rw[hp]at h;have:=bu.1 h;show(s++List.replicate ((6:Int)-ae s).toNat (32:UInt8)).length<=6;unfold ae at this;unfold ae;omega
def eG:List jq:=vC.map fun n=>(n,())
theorem N2{m:bl}{c:Int}{h t:S8}(hb:gB m)(ht:t.length<=1048576){no:Int}{f:dI}(hf:lv m c h t no=some f):f.2.1.length<=1048576:=by
 have h1:=zY h;have h2:=Ej c;unfold lv yU at hf;cases h38:aj no 38 with
 | true =>
   rw[h38]at hf;cases hc:cond (aj c 0) (!bw h []) false with
   | false=>rw[hc]at hf; cases hf
   | true=>rw[hc]at hf; cases hf; show(A1 38 h).length<=_; omega
 | false =>
   cases h39:aj no 39 with
   | true=>rw[h38,h39]at hf; cases hf; show(vz c).length<=_; omega
   | false =>
     cases h54:aj no 54 with
     | true =>
       rw[h38,h39,h54]at hf;cases hc: !bw t []with
       | false=>rw[hc]at hf; cases hf
       | true=>rw[hc]at hf; cases hf; exact ht
     | false =>
       rw[h38,h39,h54]at hf;cases hm:iq m no with
       | none=>rw[hm]at hf; cases hf
       | some s => rw[hm]at hf;cases hf;obtain⟨g,hg,_,e⟩:=vL hm;show s.length<=_;rw[<- e];exact hb.2.2 g hg
def OG(m:bl)(c:Int)(h t:S8)(k:jq)(a:Bool×List dI):Bool×List dI:=match lv m c h t k.1 with | some f=>(a.1&&dm f.1 f.2.1,a.2++[f]) | none=>a
theorem Ea(m:bl)(c:Int)(h t:S8):∀(l:List Int) (a:Bool×List dI),(l.map fun n=>((n,()):jq)).foldl (fun a k=>OG m c h t k a) a=(a.1&&(l.filterMap (lv m c h t)).all fun f=>dm f.1 f.2.1,a.2++l.filterMap (lv m c h t))
 | [],a=>by simp
 | n::l,a=>by
   rw[aeZ,afg,Ea m c h t l];unfold OG;cases hr:lv m c h t n with
   | none=>rw[agP hr]
   | some f=>rw[agQ hr]; simp[Bool.and_assoc]
theorem H5(m:bl)(c:Int)(h t mt:S8)(hb:gB m)(hh:h.length<=1048576)(ht:t.length<=1048576)(i:Nat)(k:jq)(a:Bool×List dI)(hk:eG[i]? = some k)(ha:a.2.length<=i) :
 wy c h t a.1 eG (ae eG) (i:Int) m ([],[],()) (mt,a.2,())=some (.inl (c,h,t,(OG m c h t k a).1,eG,ae eG,((i+1:Nat):Int),m,([],[],()),(mt,(OG m c h t k a).2,()),())):=by
 have hbig:=bh;have hi:i<13:=ai hk;have hfit:∀ x:dI,bj 24 a.2 [x]=true:=fun x=>aex (by show(a.2.length+1) * 24<=bN; omega)
 have h1:=zY h;have h2:=Ej c;have q38:=yh k.1 (A1 38 h) (by omega);have q39:=yh k.1 (vz c) (by omega);have q54:=yh k.1 t (by omega);unfold wy OG lv yU;rw[aM hk,aC hk,aO _ hk,vk m k.1 hb,P3 h hh,NW,aU (by omega)];obtain⟨ok,l⟩:=a;dsimp only at hfit ha ⊢;simp only[q38,q39,q54,hfit,oB,oT];cases h38:aj k.1 38 with
 | true=>cases iq m k.1 <;> cases cond (aj c 0) (!bw h []) false <;> cases ok <;> rfl
 | false =>
   cases h39:aj k.1 39 with
   | true=>cases iq m k.1 <;> cases ok <;> rfl
   | false =>
     cases h54:aj k.1 54 with
     | true=>cases iq m k.1 <;> cases !bw t [] <;> cases ok <;> rfl
     | false =>
       cases hm:iq m k.1 with
       | none=>rfl
       | some s =>
         obtain⟨g,hg,_,e⟩:=vL hm;have hs:=hb.2.2 g hg;rw[e]at hs;cases ok with
         | false=>rfl
         | true => show Option.bind (vF k.1 s) _=_;rw[yh k.1 s (by omega)];try rfl
theorem WT(m:bl)(c:Int)(h t:S8)(k:jq)(a:Bool×List dI):(OG m c h t k a).2.length<=a.2.length+1:=by
 unfold OG;cases lv m c h t k.1 with
 | none=>exact aga _
 | some f=>show(a.2++[f]).length<=_; rw[aeo]; exact oR _
theorem IN(m:bl)(c:Int)(h t mt:S8)(hb:gB m)(hh:h.length<=1048576)(ht:t.length<=1048576) :
 TP c h t true eG (ae eG) 0 m ([],[],()) (mt,[],())=some (.inl (c,h,t,(hY m c h t).all (fun f=>dm f.1 f.2.1),eG,ae eG,ae eG,m,([],[],()),(mt,hY m c h t,()),())):=by
 have hl:=aT (step:=IT wy) eG (fun i (a:Bool×List dI)=>(c,h,t,a.1,eG,ae eG,((i:Nat):Int),m,(([],[],()):bl),((mt,a.2,()):bl),())) (fun _ k a=>Sum.inl (OG m c h t k a)) (fun a=> .inl (c,h,t,a.1,eG,ae eG,ae eG,m,([],[],()),(mt,a.2,()),())) (fun i a=>a.2.length<=i) (a0:=(true,[])) (oR _) (fun i k a hk ha=>H5 m c h t mt hb hh ht i k a hk ha) (fun i k a a' hk ha he=>by
  simp only[aeK]at he;have:=WT m c h t k a;rw[<- he];omega) (fun a ha=>by
  show wy c h t a.1 eG (ae eG) (eG.length:Int) m ([],[],()) (mt,a.2,())=_;unfold wy;rw[aA rfl];try rfl)
 rw[bQ]at hl;have e:=Ea m c h t vC (true,[]);rw[agd,af4]at e;refine hl.trans ?_;show some (Sum.inl (c,h,t,((vC.map fun n=>((n,()):jq)).foldl (fun a k=>OG m c h t k a) (true,[])).1,eG,ae eG,ae eG,m,([],[],()),(mt,((vC.map fun n=>((n,()):jq)).foldl (fun a k=>OG m c h t k a) (true,[])).2,()),()))=_;rw[e];try rfl
theorem RB(m:bl)(c:Int)(h t:S8)(hb:gB m)(hh:h.length<=1048576)(ht:t.length<=1048576):g96 m c h t=some ((),((iH m c h t).1,((iH m c h t).2,()),())):=by
 unfold g96 iH;rw[Fo _ hb.1,Hh m hb];dsimp only[oB];cases fk m with
 | false=>rfl
 | true =>
   cases bw (db m.1) []with
   | true=>rfl
   | false =>
     dsimp only[oT,oF,oN];rw[NW];dsimp only[oB];cases bw (vz c) []with
     | true=>rfl
     | false => refine(bn (IN m c h t (db m.1) hb hh ht)).trans ?_;dsimp only[oB,oL];cases(hY m c h t).all fun f=>dm f.1 f.2.1 <;> rfl
theorem Jg(m:bl)(c:Int)(h t mt:S8)(hb:gB m)(hh:h.length<=1048576)(ht:t.length<=1048576)(i:Nat)(k:jq)(a:List dI)(hk:eG[i]? = some k)(ha:a.length<=i) :
 qu c h t () eG (ae eG) (i:Int) m ([],[],()) (mt,a,())=some (.inl (c,h,t,(),eG,ae eG,((i+1:Nat):Int),m,([],[],()),(mt,(match lv m c h t k.1 with | some f=>a++[f] | none=>a),()),())):=by
 have hbig:=bh;have hi:i<13:=ai hk;have hfit:∀ x:dI,bj 24 a [x]=true:=fun x=>aex (by show(a.length+1) * 24<=bN; omega)
 have hput:∀(no:Int) (s:S8),Ch no s (mt,a,())=some (((mt,a++[(no,s,())],()),()),()):=fun no s=>by unfold Ch;dsimp only;rw[hfit];try rfl
 unfold qu lv yU;rw[aM hk,aC hk,aO _ hk];dsimp only[oT];rw[Mj m k.1 hb,PH h hh,NR,aU (by omega)];dsimp only[oB];rw[hput,hput,hput];cases h38:aj k.1 38 with
 | true => rw[bu.1 h38];cases iq m 38 <;> cases cond (aj c 0) (!bw h []) false <;> rfl
 | false =>
   cases h39:aj k.1 39 with
   | true => rw[bu.1 h39];cases iq m 39 <;> rfl
   | false =>
     cases h54:aj k.1 54 with
     | true => rw[bu.1 h54];cases iq m 54 <;> cases !bw t [] <;> rfl
     | false =>
       cases hm:iq m k.1 with
       | none=>rfl
       | some s => show Option.bind (Ch k.1 s (mt,a,())) _=_;rw[hput];try rfl
def Yn(m:bl)(c:Int)(h t:S8)(k:jq)(a:List dI):List dI:=match lv m c h t k.1 with | some f=>a++[f] | none=>a
theorem B4(m:bl)(c:Int)(h t:S8):∀(l:List Int) (a:List dI),(l.map fun n=>((n,()):jq)).foldl (fun a k=>Yn m c h t k a) a=a++l.filterMap (lv m c h t)
 | [],a=>by simp
 | n::l,a=>by
   rw[aeZ,afg,B4 m c h t l];unfold Yn;cases hr:lv m c h t n with
   | none=>rw[agP hr]
   | some f=>rw[agQ hr]; simp
theorem Jo(m:bl)(c:Int)(h t mt:S8)(hb:gB m)(hh:h.length<=1048576)(ht:t.length<=1048576) :
 N9 c h t () eG (ae eG) 0 m ([],[],()) (mt,[],())=some (.inl (c,h,t,(),eG,ae eG,ae eG,m,([],[],()),(mt,hY m c h t,()),())):=by
 have hl:=aT (step:=IT qu) eG (fun i (a:List dI)=>(c,h,t,(),eG,ae eG,((i:Nat):Int),m,(([],[],()):bl),((mt,a,()):bl),())) (fun _ k a=>Sum.inl (Yn m c h t k a)) (fun a=> .inl (c,h,t,(),eG,ae eG,ae eG,m,([],[],()),(mt,a,()),())) (fun i a=>a.length<=i) (a0:=[]) (oR _) (fun i k a hk ha=>Jg m c h t mt hb hh ht i k a hk ha) (fun i k a a' hk ha he=>by
  simp only[aeK]at he;rw[<- he];unfold Yn;cases lv m c h t k.1 with
  | none=>show a.length<=_; omega
  | some f=>show(a++[f]).length<=_; rw[aeo]; show a.length+1<=_; omega) (fun a ha=>by
  show qu c h t () eG (ae eG) (eG.length:Int) m ([],[],()) (mt,a,())=_;unfold qu;rw[aA rfl];try rfl)
 rw[bQ]at hl;have e:=B4 m c h t vC [];rw[af4]at e;refine hl.trans ?_;show some (Sum.inl (c,h,t,(),eG,ae eG,ae eG,m,([],[],()),(mt,(vC.map fun n=>((n,()):jq)).foldl (fun a k=>Yn m c h t k a) [],()),()))=_;rw[e];try rfl
theorem JU(m:bl)(c:Int)(h t:S8):(hY m c h t).length<=13:=List.length_filterMap_le _ vC
theorem TK{m:bl}{c:Int}{h t:S8}(hb:gB m)(ht:t.length<=1048576):gB (db m.1,hY m c h t,()):=by have h1:=B5 m.1;have h2:=JU m c h t;refine⟨by show(db m.1).length<=_; omega,by show(hY m c h t).length<=_; omega,fun f hf => ?_⟩;obtain⟨no,_,hf⟩:=List.mem_filterMap.1 hf;exact N2 hb ht hf
theorem QU(m:bl)(c:Int)(h t:S8)(hb:gB m)(hh:h.length<=1048576)(ht:t.length<=1048576):P2 m c h t=some ((),((iH m c h t).1,((iH m c h t).2,()),())):=by
 unfold P2 iH;rw[Fu _ hb.1,DF m hb];dsimp only[oB];cases fk m with
 | false=>rfl
 | true =>
   cases he:bw (db m.1) []with
   | true=>rfl
   | false =>
     dsimp only[oT,oF,oN];rw[NR];dsimp only[oB];cases bw (vz c) []with
     | true=>rfl
     | false => refine(bn (Jo m c h t (db m.1) hb hh ht)).trans ?_;dsimp only[oB,oL];rw[DF _ (TK hb ht),Dh (sQ m c h t) (Ac he)];dsimp only[oB];cases(hY m c h t).all fun f=>dm f.1 f.2.1 <;> rfl
theorem DW{m:bl}{c:Int}{h t:S8}(hb:gB m)(ht:t.length<=1048576):gB (iH m c h t).1:=by
 have h0:gB (([],[],()):bl):=⟨aeA _,aeA _,fun f hf=>by simp at hf⟩;unfold iH;cases cond (fk m) (cond (bw (db m.1) []) false (!bw (vz c) [])) false with
 | false=>exact h0
 | true =>
   cases(hY m c h t).all fun f=>dm f.1 f.2.1 with
   | false=>exact h0
   | true=>exact TK hb ht
theorem Bq(m:bl)(c:Int)(h t:S8)(hb:gB m)(hh:h.length<=1048576)(ht:t.length<=1048576):RQ m c h t=zR (qL m c h t):=by unfold RQ qL;rw[RB m c h t hb hh ht];dsimp only[oB];rw[Tt _ (DW hb ht)];try rfl
theorem Ba(m:bl)(c:Int)(h t:S8)(hb:gB m)(hh:h.length<=1048576)(ht:t.length<=1048576):RN m c h t=zR (qL m c h t):=by unfold RN qL;rw[QU m c h t hb hh ht];dsimp only[oB];rw[TO _ (DW hb ht)];try rfl
theorem yD{α:Type}(p:α->Bool):∀(xs:List α) (k:Nat),(dk p k xs = -1/\xs.find? p=none)∨∃(i:Nat) (x:α),dk p k xs=((k+i:Nat):Int)/\xs[i]? = some x/\xs.find? p=some x
 | [],k=> .inl ⟨rfl,rfl⟩
 | x::r,k=>by
   rw[dk,List.find?_cons];cases hp:p x with
   | true=>exact .inr ⟨0,x,rfl,rfl,rfl⟩
   | false =>
     rcases yD p r (k+1)with h | ⟨i,y,h1,h2,h3⟩
     . exact .inl h
     . exact .inr ⟨i+1,y,by show dk p (k+1) r=_; rw[h1]; congr 1; omega,h2,h3⟩
def zn(o:Option aI):Option (Unit×((aI×Unit)×(Bool×Unit)×Unit)):=some ((),match o with | some b=>((b,()),(true,()),()) | none=>(([],()),(false,()),()))
theorem ML(l:List cM)(t m:S8)(hl:l.length<=1048576)(hb:∀ y∈l,y.2.2.1.length<=1048576):g52 l t m=zn (ik l t m):=by
 have hbig:=bh;unfold g52 ik zn;have h:=aQ (step:=nM xU) l (fun i (_:Unit)=>(t,m,l,ae l,((i:Nat):Int),())) (fun _ x _=>bif tj t m x then .inr (.inr (x.2.2.1,true,()))else Sum.inl ()) (fun _=> .inl (t,m,l,ae l,(l.length:Int),())) (a0:=()) (fun i x a hx=>by
  have hlt:=ai hx;have hr:=hb x (aet hx);show xU t m l (ae l) (i:Int)=_;unfold xU;rw[aM hx,aC hx,aO _ hx];dsimp only[oT];rw[aU (by omega),lx (a:=[]) (b:=x.2.2.1) (by show 0+x.2.2.1.length<=bN; omega)];show cond (tj t m x) _ _=_;cases tj t m x <;> rfl) (fun a=>by
  show xU t m l (ae l) (l.length:Int)=_;unfold xU;rw[aA rfl];try rfl)
 rw[mH (tj t m) (fun(x:cM)=>(Sum.inr (x.2.2.1,true,()):Sum (S8×S8×List cM×Int×Int×Unit) (aI×Bool×Unit)))]at h;have h':Sv t m l (ae l) 0=_:=h;rw[h'];cases l.find? (tj t m) <;> rfl
theorem Ma(l:List cM)(t m:S8)(hl:l.length<=1048576)(hb:∀ y∈l,y.2.2.1.length<=1048576):g66 l t m=zn (ik l t m):=by
 have hbig:=bh;unfold g66 ik zn;rw[DE l t m hl];dsimp only[oB];rcases yD (tj t m) l 0 with ⟨h1,h2⟩ | ⟨i,y,h1,h2,h3⟩
 . rw[h2];have h1:dk (fun y=>cond (bw y.1 t) (bw y.2.1 m) false) 0 l = -1:=h1;rw[h1];try rfl
 . rw[h3];rw[aey]at h1;have h1:dk (fun y=>cond (bw y.1 t) (bw y.2.1 m) false) 0 l=(i:Int):=h1;have hr:=hb y (aet h2);rw[h1,aG (by omega),aC h2,aO _ h2];unfold FC;rw[lx (a:=[]) (b:=y.2.2.1) (by show 0+y.2.2.1.length<=bN; omega)];try rfl
theorem C2{l:List cM}(h:fZ l=true):l.length<=6/\∀ z∈l,z.1.length<=1048576/\z.2.1.length<=1048576/\z.2.2.1.length<=1048576:=by
 unfold fZ at h;cases ha:allI (eF l) 0 l with
 | false=>rw[ha]at h; cases h
 | true =>
   rw[ha]at h;have h6:ae l<=6:=afI h;refine⟨by unfold ae at h6; omega,fun z hz => ?_⟩;obtain⟨i,hi⟩:=ag1.1 hz;have:=j4 _ ha hi;unfold eF at this;cases hm:nP z with
   | false=>rw[hm]at this; cases this
   | true => unfold nP at hm;simp only[Bool.cond_false_right,aen]at hm;obtain⟨⟨_,h1⟩,⟨_,h2⟩,h3⟩:=hm;have h1:=bu.1 h1;have h2:=bu.1 h2;have h3:=bD.1 h3;unfold ae at h1 h2 h3;omega
theorem Js{l:List cM}{s:cM}(h:fZ (l++[s])=true):g54 l s=some ((),((l++[s],()),(true,()),())):=by
 have hbig:=bh;obtain⟨h1,h2⟩:=C2 h;have h3:l.length<=6:=by rw[aeo]at h1; omega
 have hc:=uo (l++[s]) (by omega) fun y hy=>(h2 y hy).2.2
 unfold g54;rw[uo l (by omega) fun y hy=>(h2 y (af3 _ hy)).2.2];dsimp only[oB];rw[show bj 56 l [s]=true from aex (by show(l.length+1) * 56<=bN; omega)];show Option.bind (Wz (l++[s])) _=_;rw[hc];dsimp only[oB];rw[GO _ ⟨by omega,fun y hy=>⟨bO (h2 y hy).1,bO (h2 y hy).2.1⟩⟩,h];try rfl
theorem I7{l:List cM}{s:cM}(h:fZ (l++[s])=true):Yo l s=some ((),((l++[s],()),(true,()),())):=by
 have hbig:=bh;obtain⟨h1,h2⟩:=C2 h;have h3:l.length<=6:=by rw[aeo]at h1; omega
 have hc:=Af (l++[s]) (by omega) fun y hy=>(h2 y hy).2.2
 unfold Yo;rw[show XR 56 l=true from aex (by omega),show bj 56 l [s]=true from aex (by show(l.length+1) * 56<=bN; omega)];show Option.bind (Jd (l++[s])) _=_;rw[hc];dsimp only[oB];rw[Gp _ ⟨by omega,fun y hy=>⟨bO (h2 y hy).1,bO (h2 y hy).2.1⟩⟩,h];try rfl
theorem GY{x:aI}{t:S8}(h:hE x 0 4=some t):aj (cU x).2 1=false:=by
 unfold cU;rw[h];dsimp only;cases yO x with
 | none=>rfl
 | some p =>
   obtain⟨nos,a⟩:=p;dsimp only;cases kV x nos a []with
   | none=>rfl
   | some p =>
     obtain⟨l,e⟩:=p;dsimp only;by_cases he:e=x.length
     . rw[if_pos he];try rfl
     . rw[if_neg he];try rfl
theorem Gc(t:S8)(c:Int):gB (kR t c).1:=by
 unfold kR;cases fk (db t,[(39,vz c,())],())with
 | false=>exact⟨aeA _,aeA _,fun f hf=>by simp at hf⟩
 | true=>exact Fa t c
theorem D3{t:S8}(h:xO t):t.length<=1048576:=by
 rcases h with rfl | h
 . exact aeA _
 . omega
theorem qn{a:ay}(h:bE a):(slotsOf a).length<=1048576/\∀ y∈slotsOf a,y.2.2.1.length<=1048576:=⟨h.2.2.2.1,fun y hy=>(h.2.2.2.2 y hy).2.2⟩
theorem UF(b:List ay)(x:aI)(now:Int)(hb:lJ b)(hx:Ai x):g15 (b,()) x now=some ((),(((jo b x now).1,()),((jo b x now).2,()),())):=by
 have hbig:=bh;have hcp:=Cq b hb;have hbcd:IB x 0 4=sx (hE x 0 4) 2:=D8 x 0 4 hx (aeA _) (by decide);have hmB:=we x;unfold g15 jo;rw[hcp,hbcd,Yc x hx,KE b hb];unfold Jx sx;dsimp only[oB];cases hbk:jV b with
 | false=>rfl
 | true =>
   rw[gN];cases htm:bd now with
   | false=>rfl
   | true =>
     cases ho:hE x 0 4 with
     | none =>
       have hp:cU x=(([],[],()),1):=by unfold cU; rw[ho]
       rw[hp];try rfl
     | some t =>
       have h4:t.length=4:=(dR ho).2.1;dsimp only[oB,oT,oF,oN];rw[GY ho,Fo t (by omega)];dsimp only[oB,oT,oF];cases hr:bw (db t) []with
       | true=>rfl
       | false =>
         cases h0:aj (cU x).2 0 with
         | false => dsimp only[oT,oF,oM];rw[QN t 1 (by omega)];dsimp only[oB];rw[Tt _ (Gc t 1)];try rfl
         | true =>
           dsimp only[oT,oF,oN];have hm1:=zJ ho h0;generalize (cU x).1=m at hmB hm1 ⊢;subst hm1;rw[adG m hmB];unfold NL vT;dsimp only[oB];cases hq0:aj (ee m).2 0 with
           | false => dsimp only[oT,oF,oM];rw[Bq m _ [] [] hmB (aeA _) (aeA _)];try rfl
           | true =>
             obtain⟨hmM,hqM⟩:=B0 hq0;have hqB:=A4 hmB;dsimp only[oT,oF,oN];generalize (ee m).1=q at hqM hqB ⊢;rw[xa b q.2.1 hb.1];unfold sK;dsimp only[oB];cases hk:aD (au b q.2.1) 0 with
             | true => dsimp only[oT];rw[Bq m 3 [] [] hmB (aeA _) (aeA _)];try rfl
             | false =>
               obtain⟨i,y,e,hy⟩:=ew (of_decide_eq_false hk);have hgy:gt aL b (au b q.2.1)=y:=by rw[e]; exact aO _ hy
               have hgp:gt d94 b (au b q.2.1)=y:=by rw[e]; exact aO _ hy
               have hin:aZ (au b q.2.1) b=true:=by rw[e]; exact aC hy
               have hyB:=qn (hb.2 y (aet hy));have hso:=ML (slotsOf y) q.2.2.2.2.1 q.2.2.2.2.2.1 hyB.1 hyB.2;rw[hin,hgp,hgy];dsimp only[oT,oF];refine(bn hso).trans ?_;unfold zn;dsimp only[oB];cases ho2:ik (slotsOf y) q.2.2.2.2.1 q.2.2.2.2.2.1 with
               | some o=>rfl
               | none =>
                 dsimp only[oT,oF];show cond (aj (ae (slotsOf y)) 6) _ _=_;cases h6:aj (ae (slotsOf y)) 6 with
                 | true => dsimp only[oT];rw[Bq m 10 [] [] hmB (aeA _) (aeA _)];try rfl
                 | false =>
                   dsimp only[oF];obtain⟨hs,j,z,e2,hz⟩:=Dd hbk hk (by rw[hgy]; exact ho2) (by rw[hgy]; exact h6) hmM hr hqM (now:=now);have hrep:=Bq m (cV b q now).2.1 q.2.2.2.1 (cV b q now).2.2 hmB hqB.2.2.1 (D3 (um b q now));rw[Wp b q now hb hqB];dsimp only[oB];rw[hrep];dsimp only[oB];have hgn:gt aL (cq b q now) (au b q.2.1)=z:=by rw[e2]; exact aO _ hz
                   have hgd:gt d94 (cq b q now) (au b q.2.1)=z:=by rw[e2]; exact aO _ hz
                   have hib:aZ (au b q.2.1) (cq b q now)=true:=by rw[e2]; exact aC hz
                   rw[hgn]at hs;have hput:=Js hs;unfold x4;rw[hgn];cases hz0:aj (cV b q now).2.1 0 with
                   | true =>
                     have hnx:cq b q now=(cV b q now).1:=by unfold cq; rw[hz0];try rfl
                     rw[hnx]at hgd hib ⊢;dsimp only[oT,oF,oN];rw[hib,hgd];dsimp only[oT];exact bn hput
                   | false =>
                     have hnx:cq b q now=b:=by unfold cq; rw[hz0];try rfl
                     rw[hnx]at hgd ⊢;have hzy:z=y:=hgd.symm.trans hgp;subst hzy;exact bn hput
theorem WL(b:List ay)(x:aI)(now:Int)(hb:lJ b)(hx:Ai x):g17 (b,()) x now=some ((),(((jo b x now).1,()),((jo b x now).2,()),())):=by
 have hbig:=bh;have hcp:=Dw b hb;have hbcd:Na x 0 4=sx (hE x 0 4) 2:=HK x 0 4 hx (aeA _) (by decide);have hmB:=we x;unfold g17 jo;rw[hcp,hbcd,Yd x hx,Kz b hb];unfold Jx sx;dsimp only[oB];cases hbk:jV b with
 | false=>rfl
 | true =>
   rw[gM];cases htm:bd now with
   | false=>rfl
   | true =>
     cases ho:hE x 0 4 with
     | none =>
       have hp:cU x=(([],[],()),1):=by unfold cU; rw[ho]
       rw[hp];try rfl
     | some t =>
       have h4:t.length=4:=(dR ho).2.1;dsimp only[oB,oT,oF,oN];rw[GY ho,Fu t (by omega)];dsimp only[oB,oT,oF];cases hr:bw (db t) []with
       | true=>rfl
       | false =>
         cases h0:aj (cU x).2 0 with
         | false => dsimp only[oT,oF,oM];rw[Rr t 1 (by omega)];dsimp only[oB];rw[TO _ (Gc t 1)];try rfl
         | true =>
           dsimp only[oT,oF,oN];have hm1:=zJ ho h0;generalize (cU x).1=m at hmB hm1 ⊢;subst hm1;rw[abo m hmB];unfold NL vT;dsimp only[oB];cases hq0:aj (ee m).2 0 with
           | false => dsimp only[oT,oF,oM];rw[Ba m _ [] [] hmB (aeA _) (aeA _)];try rfl
           | true =>
             obtain⟨hmM,hqM⟩:=B0 hq0;have hqB:=A4 hmB;dsimp only[oT,oF,oN];generalize (ee m).1=q at hqM hqB ⊢;rw[v7 b q.2.1 hb.1];unfold sK;dsimp only[oB];cases hk:aD (au b q.2.1) 0 with
             | true => dsimp only[oT];rw[Ba m 3 [] [] hmB (aeA _) (aeA _)];try rfl
             | false =>
               obtain⟨i,y,e,hy⟩:=ew (of_decide_eq_false hk);have hgy:gt aL b (au b q.2.1)=y:=by rw[e]; exact aO _ hy
               have hgp:gt d94 b (au b q.2.1)=y:=by rw[e]; exact aO _ hy
               have hin:aZ (au b q.2.1) b=true:=by rw[e]; exact aC hy
               have hyB:=qn (hb.2 y (aet hy));have hso:=Ma (slotsOf y) q.2.2.2.2.1 q.2.2.2.2.2.1 hyB.1 hyB.2;rw[hin,hgp,hgy];dsimp only[oT,oF];refine(bn hso).trans ?_;unfold zn;dsimp only[oB];cases ho2:ik (slotsOf y) q.2.2.2.2.1 q.2.2.2.2.2.1 with
               | some o=>rfl
               | none =>
                 dsimp only[oT,oF];show cond (aj (ae (slotsOf y)) 6) _ _=_;cases h6:aj (ae (slotsOf y)) 6 with
                 | true => dsimp only[oT];rw[Ba m 10 [] [] hmB (aeA _) (aeA _)];try rfl
                 | false =>
                   dsimp only[oF];obtain⟨hs,j,z,e2,hz⟩:=Dd hbk hk (by rw[hgy]; exact ho2) (by rw[hgy]; exact h6) hmM hr hqM (now:=now);have hrep:=Ba m (cV b q now).2.1 q.2.2.2.1 (cV b q now).2.2 hmB hqB.2.2.1 (D3 (um b q now));rw[VX b q now hb hqB];dsimp only[oB];rw[hrep];dsimp only[oB];have hgn:gt aL (cq b q now) (au b q.2.1)=z:=by rw[e2]; exact aO _ hz
                   have hgd:gt d94 (cq b q now) (au b q.2.1)=z:=by rw[e2]; exact aO _ hz
                   have hib:aZ (au b q.2.1) (cq b q now)=true:=by rw[e2]; exact aC hz
                   rw[hgn]at hs;have hput:=I7 hs;unfold x4;rw[hgn];cases hz0:aj (cV b q now).2.1 0 with
                   | true =>
                     have hnx:cq b q now=(cV b q now).1:=by unfold cq; rw[hz0];try rfl
                     rw[hnx]at hgd hib ⊢;dsimp only[oT,oF,oN];rw[hib,hgd];dsimp only[oT];exact bn hput
                   | false =>
                     have hnx:cq b q now=b:=by unfold cq; rw[hz0];try rfl
                     rw[hnx]at hgd ⊢;have hzy:z=y:=hgd.symm.trans hgp;subst hzy;exact bn hput
end Go.Av
