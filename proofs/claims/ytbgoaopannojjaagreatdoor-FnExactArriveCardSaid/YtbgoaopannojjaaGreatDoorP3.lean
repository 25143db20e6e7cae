/- Part of a proof that the law FnExactArrive answers true for every input: the printed functions of this program and their plain laws. No conditions beyond the statement. -/
import Derived.Test.YtbgoaopannojjaaGreatDoorQ3
set_option maxRecDepth 100000
set_option maxHeartbeats 4000000
namespace Go.Av
abbrev p9:=Int×List UInt8×Unit
abbrev cH:=List UInt8×List p9×Unit
def qo (m:cH):Prop:=m.1.length<=1048576/\m.2.1.length<=1048576/\∀ f∈m.2.1,f.2.1.length<=1048576
def gi (xs:List p9) (i:Nat) (x:p9):Bool:=cond (iZ x.1 x.2.1) (cond (decide (0 < i)) (!(bH x.1 (gt (0,[],()) xs ((i:Int) - 1)).1)) true) false
def xt (m:cH):Bool:=cond (cond (aY m.1) (aq (ae m.1) 4) false) (allI (gi m.2.1) 0 m.2.1) false
theorem DD (m:cH) (hb:qo m):Dd m.2.1 (ae m.2.1) 0 m=some (bif allI (gi m.2.1) 0 m.2.1 then .inl (m.2.1,ae m.2.1,(m.2.1.length:Int),m,()) else .inr (false,())):=by
 have hbig:aT=140737488355328:=rfl;obtain ⟨mti,xs,u⟩:=m;obtain ⟨_,hl,hf⟩:=hb;dsimp only at hl hf ⊢;have h:=aI (step:=cV nU) xs (fun i (_:Unit)=>(xs,ae xs,((i:Nat):Int),(mti,xs,()),())) (fun i x _=>bif gi xs i x then Sum.inl () else .inr (.inr (false,()))) (fun _=> .inl (xs,ae xs,(xs.length:Int),(mti,xs,()),())) (a0:=()) (fun i x a hx=>by
  have hlt:=ai hx;show nU xs (ae xs) (i:Int) (mti,xs,())=_;unfold nU gi;rw [aD hx,az hx,aV _ hx];dsimp only [cond_true];rw [Vm _ _ (cD (hf x (List.mem_of_getElem? hx))),aJ (by omega)];dsimp only [Option.bind_some];cases iZ x.1 x.2.1 with
  | false=>rfl
  | true =>
    by_cases h0:0 < i
    . rw [aF (show (0:Int) < i by omega),aS (by omega) (by omega),iO hx h0];dsimp only [cond_true,cond_false,Bool.not_true];have e:gt d175 xs ((i:Int) - 1)=gt (0,[],()) xs ((i:Int) - 1):=rfl;rw [e,decide_eq_true h0];cases bH x.1 (gt (0,[],()) xs ((i:Int) - 1)).1 <;> rfl
    . rw [ax (show ¬ (0:Int) < i by omega),decide_eq_false h0]; rfl) (fun a=>by
  show nU xs (ae xs) (xs.length:Int) (mti,xs,())=_;unfold nU;rw [aw rfl]; rfl)
 rw [cN] at h;have h':Dd xs (ae xs) 0 (mti,xs,())=_:=h;rw [h']
theorem U5 (m:cH) (hb:qo m):Mr m=some ((),((xt m,()),())):=by
 unfold Mr xt;rw [fN _ (cD hb.1)];dsimp only [Option.bind_some];cases aY m.1 with
 | false=>rfl
 | true =>
 cases aq (ae m.1) 4 with
 | false=>rfl
 | true => refine (bn (DD m hb)).trans ?_;show _=some ((),((allI (gi m.2.1) 0 m.2.1,()),()));cases allI (gi m.2.1) 0 m.2.1 <;> rfl
theorem Dn (m:cH) (hb:qo m):CK m.2.1 (ae m.2.1) 0 m=some (bif allI (gi m.2.1) 0 m.2.1 then .inl (m.2.1,ae m.2.1,(m.2.1.length:Int),m,()) else .inr (false,())):=by
 have hbig:aT=140737488355328:=rfl;obtain ⟨mti,xs,u⟩:=m;obtain ⟨_,hl,hf⟩:=hb;dsimp only at hl hf ⊢;have h:=aI (step:=cV qd) xs (fun i (_:Unit)=>(xs,ae xs,((i:Nat):Int),(mti,xs,()),())) (fun i x _=>bif gi xs i x then Sum.inl () else .inr (.inr (false,()))) (fun _=> .inl (xs,ae xs,(xs.length:Int),(mti,xs,()),())) (a0:=()) (fun i x a hx=>by
  have hlt:=ai hx;show qd xs (ae xs) (i:Int) (mti,xs,())=_;unfold qd gi;rw [aD hx,az hx,aV _ hx];dsimp only [cond_true];rw [J4 _ _ (cD (hf x (List.mem_of_getElem? hx))),aJ (by omega)];dsimp only [Option.bind_some];cases iZ x.1 x.2.1 with
  | false=>rfl
  | true =>
    by_cases h0:0 < i
    . rw [aF (show (0:Int) < i by omega),aS (by omega) (by omega),iO hx h0];dsimp only [cond_true,cond_false,Bool.not_true];have e:gt d175 xs ((i:Int) - 1)=gt (0,[],()) xs ((i:Int) - 1):=rfl;rw [e,decide_eq_true h0];cases bH x.1 (gt (0,[],()) xs ((i:Int) - 1)).1 <;> rfl
    . rw [ax (show ¬ (0:Int) < i by omega),decide_eq_false h0]; rfl) (fun a=>by
  show qd xs (ae xs) (xs.length:Int) (mti,xs,())=_;unfold qd;rw [aw rfl]; rfl)
 rw [cN] at h;have h':CK xs (ae xs) 0 (mti,xs,())=_:=h;rw [h']
theorem GM (s:List UInt8) (n:Int) (hs:s.length<=aT):wY s n=some ((),((cond (aY s) (aq (ae s) n) false,()),())):=by unfold wY;rw [gP s hs]; rfl
theorem V9 (m:cH) (hb:qo m):L6 m=some ((),((xt m,()),())):=by
 unfold L6 xt;refine (bn (Dn m hb)).trans ?_;cases allI (gi m.2.1) 0 m.2.1 with
 | true =>
   show Option.bind (wY m.1 4) _=_;rw [GM m.1 4 (cD hb.1)];dsimp only [Option.bind_some];cases aY m.1 with
   | false=>rfl
   | true=>cases aq (ae m.1) 4 <;> rfl
 | false =>
   cases aY m.1 with
   | false=>rfl
   | true=>cases aq (ae m.1) 4 <;> rfl
def mc (m:cH) (no:Int):Option (List UInt8):=(m.2.1.find? fun f=>aq f.1 no).map (·.2.1)
def Dt (o:Option (List UInt8)):Option (Unit×((List UInt8×Unit)×(Bool×Unit)×Unit)):=some ((),match o with | some s=>((s,()),(true,()),()) | none=>(([],()),(false,()),()))
theorem vF (m:cH) (no:Int) (hb:qo m):j6 m no=Dt (mc m no):=by
 have hbig:aT=140737488355328:=rfl;have hl:=hb.2.1;unfold j6;have h:=aI (step:=cV pg) m.2.1 (fun i (_:Unit)=>(no,m.2.1,ae m.2.1,((i:Nat):Int),())) (fun i x _=>bif aq x.1 no then .inr (.inr (x.2.1,true,())) else .inl ()) (fun _=> .inl (no,m.2.1,ae m.2.1,(m.2.1.length:Int),())) (a0:=()) (fun i x a hx=>by
  have hlt:=ai hx;show pg no m.2.1 (ae m.2.1) (i:Int)=_;unfold pg;rw [aD hx,az hx,aV _ hx,aJ (by omega)];dsimp only [cond_true];cases aq x.1 no <;> rfl) (fun a=>by
  show pg no m.2.1 (ae m.2.1) (m.2.1.length:Int)=_;unfold pg;rw [aw rfl]; rfl)
 rw [nq] at h;have h':H5 no m.2.1 (ae m.2.1) 0=_:=h;refine (bn h').trans ?_;unfold mc Dt;cases m.2.1.find? _ <;> rfl
theorem Pn (m:cH) (no:Int) (hb:qo m):G4 m no=Dt (mc m no):=by
 have hbig:aT=140737488355328:=rfl;have hl:=hb.2.1;unfold G4;have h:=aI (step:=cV qb) m.2.1 (fun i (_:Unit)=>(no,m.2.1,ae m.2.1,((i:Nat):Int),())) (fun i x _=>bif aq x.1 no then .inr (.inr (x.2.1,true,())) else .inl ()) (fun _=> .inl (no,m.2.1,ae m.2.1,(m.2.1.length:Int),())) (a0:=()) (fun i x a hx=>by
  have hlt:=ai hx;show qb no m.2.1 (ae m.2.1) (i:Int)=_;unfold qb;rw [aD hx,az hx,aV _ hx,aJ (by omega)];dsimp only [cond_true];cases aq x.1 no <;> rfl) (fun a=>by
  show qb no m.2.1 (ae m.2.1) (m.2.1.length:Int)=_;unfold qb;rw [aw rfl]; rfl)
 rw [nq] at h;have h':Ja no m.2.1 (ae m.2.1) 0=_:=h;refine (bn h').trans ?_;unfold mc Dt;cases m.2.1.find? _ <;> rfl
def lh (b:aW):aW->Nat->List p9->Option (List p9×Nat)
 | [],a,o=>some (o,a)
 | x :: r,a,o=>match nH b a x.1 with
   | some (s,e)=>lh b r e (o ++ [(x.1,s,())])
   | none=>none
def iR (l:aW):aW:=l.map fun x=>(aj .i64 x.1 64,())
def uH (x:Int×Unit):Bool:= !(aq (bu x.1) 0)
def eQ (l:aW):aW:=l.filter fun x=> !(aq x.1 1)
def gk (l:aW):Bool:=l.any fun x=>aq x.1 1
def BU (b:aW):Option (aW×Nat) :=
 if 10<=b.length then
  (bif gk (dU (eK b 2 8)) then
    (if 18<=b.length/\dU (eK b 10 8)≠[] then (bif (eQ (dU (eK b 2 8)) ++ iR (dU (eK b 10 8))).all uH then some (eQ (dU (eK b 2 8)) ++ iR (dU (eK b 10 8)),18) else none) else none)
  else (bif (eQ (dU (eK b 2 8))).all uH then some (eQ (dU (eK b 2 8)),10) else none))
 else none
def kr (b:aW):cH×Int:=match jc b 0 4 with
 | none=>(([],[],()),1)
 | some mti=>match BU b with
   | none=>(([],[],()),2)
   | some (nos,a)=>match lh b nos a [] with
     | none=>(([],[],()),3)
     | some (l,e)=>if e=b.length then ((mti,l,()),0) else (([],[],()),4)
def GN (p:cH×Int):Option (Unit×(cH×(Int×Unit)×Unit)):=some ((),(p.1,(p.2,()),()))
theorem Vx (b:aW) (hb:yl b) (h2:2<=b.length):Ir b=some ((),match BU b with | some p=>((p.1,()),((p.2:Int),()),(true,()),()) | none=>(([],()),(0,()),(false,()),())):=by
 have hbig:aT=140737488355328:=rfl;have hl:=hb.1;unfold Ir BU;have h0:Da b 2=_:=JX b 2 hb h2;unfold nO at h0;refine (bn h0).trans ?_;by_cases h10:10<=b.length;rotate_left
 . rw [if_neg h10,if_neg h10]; rfl
 rw [if_pos h10,if_pos h10];have k1:=kT (eK b 2 8);generalize dU (eK b 2 8)=lo at k1 ⊢;have hlow:Kz b 10 [] false lo (ae lo) 0=some (.inl (b,10,eQ lo,gk lo,lo,ae lo,(lo.length:Int),())):=by
  have h:=aH (step:=Kl oZ) lo (fun i (o:aW×Bool)=>(b,10,o.1,o.2,lo,ae lo,((i:Nat):Int),())) (fun _ x o=>Sum.inl (bif aq x.1 1 then (o.1,true) else (o.1 ++ [x],o.2))) (fun o=> .inl (b,10,o.1,o.2,lo,ae lo,(lo.length:Int),())) (fun i o=>o.1.length<=i) (a0:=([],false)) (Nat.le_refl _) (fun i x o hx ho=>by
   have hlt:=ai hx;show oZ b 10 o.1 o.2 lo (ae lo) (i:Int)=_;unfold oZ;rw [aD hx,az hx,aV _ hx,aJ (by omega)];have:bY 8 o.1 [x]=true:=Nat.ble_eq_true_of_le (by show (o.1.length + 1) * 8<=aT; omega);dsimp only [cond_true];rw [this];cases aq x.1 1 <;> rfl) (fun i x o o' hx ho hf=>by
   simp only [Sum.inl.injEq] at hf;rw [<- hf];cases aq x.1 1 with
   | true=>show o.1.length<=_; omega
   | false=>show (o.1 ++ [x]).length<=_; rw [List.length_append]; show o.1.length + 1<=_; omega) (fun o ho=>by
   show oZ b 10 o.1 o.2 lo (ae lo) (lo.length:Int)=_;unfold oZ;rw [aw rfl]; rfl)
  have hfold:∀ (l:aW) (o:aW×Bool),l.foldl (fun o x=>bif aq x.1 1 then (o.1,true) else (o.1 ++ [x],o.2)) o=(o.1 ++ eQ l,o.2 || gk l):=fun l=>by
   induction l with
   | nil=>intro o; simp [eQ,gk]
   | cons x r ih => intro o;rw [List.foldl_cons,ih];unfold eQ gk;rw [List.filter_cons,List.any_cons];cases aq x.1 1 <;> simp
  rw [bZ,hfold] at h;exact h
 have hchk:∀ (nos:aW) (a:Int),nos.length<=1000->D3 () a nos (ae nos) 0=some (bif nos.all uH then .inl ((),a,nos,ae nos,(nos.length:Int),()) else .inr ([],0,false,())):=fun nos a hn=>by
  have h:=aI (step:=ff oF) nos (fun i (_:Unit)=>((),a,nos,ae nos,((i:Nat):Int),())) (fun _ x _=>bif uH x then Sum.inl () else .inr (.inr ([],0,false,()))) (fun _=> .inl ((),a,nos,ae nos,(nos.length:Int),())) (a0:=()) (fun i x o hx=>by
   have hlt:=ai hx;show oF () a nos (ae nos) (i:Int)=_;unfold oF;rw [aD hx,az hx,aV _ hx,aJ (by omega),CQ];dsimp only [cond_true,Option.bind_some];unfold uH;cases aq (bu x.1) 0 <;> rfl) (fun o=>by
   show oF () a nos (ae nos) (nos.length:Int)=_;unfold oF;rw [aw rfl]; rfl)
  rw [fU] at h;refine Eq.trans h ?_;cases nos.all uH <;> rfl
 have hlen:(eQ lo).length<=64:=Nat.le_trans (List.length_filter_le _ _) k1;refine (bn hlow).trans ?_;show cond (gk lo) _ _=_;cases gk lo with
 | false => refine (bn (hchk (eQ lo) 10 (by omega))).trans ?_;cases (eQ lo).all uH <;> rfl
 | true =>
   have h1:Da b 10=_:=JX b 10 hb h10;unfold nO at h1;refine (bn h1).trans ?_;by_cases h18:18<=b.length;rotate_left
   . rw [if_neg h18,if_neg (fun h=>h18 h.1)]; rfl
   rw [if_pos h18];have k2:=kT (eK b 10 8);have k3:= @I4 (eK b 10 8);generalize dU (eK b 10 8)=hi at k2 k3 ⊢;by_cases hne:hi=[]
   . rw [if_neg (fun h=>h.2 hne),hne]; rfl
   rw [if_pos ⟨h18,hne⟩];have he:aq (ae hi) 0=false:=beq_eq_false_iff_ne.2 (by
    show (hi.length:Int)≠0;cases hi with
    | nil=>exact absurd rfl hne
    | cons x r=>show ((r.length + 1:Nat):Int)≠0; omega)
   have hhi:Jr (eQ lo) 18 hi (ae hi) 0=some (.inl (eQ lo ++ iR hi,18,hi,ae hi,(hi.length:Int),())):=by
    have h:=aH (step:=ff oG) hi (fun i (o:aW)=>(o,18,hi,ae hi,((i:Nat):Int),())) (fun _ x o=>Sum.inl (o ++ [(aj .i64 x.1 64,())])) (fun o=> .inl (o,18,hi,ae hi,(hi.length:Int),())) (fun i o=>o.length=(eQ lo).length + i) (a0:=eQ lo) rfl (fun i x o hx ho=>by
     have hlt:=ai hx;show oG o 18 hi (ae hi) (i:Int)=_;unfold oG;rw [aD hx,az hx,aV _ hx,aJ (by omega)];have:bY 8 o [(aj .i64 x.1 64,())]=true:=Nat.ble_eq_true_of_le (by show (o.length + 1) * 8<=aT; omega);rw [this]; rfl) (fun i x o o' hx ho hf=>by
     simp only [Sum.inl.injEq] at hf;rw [<- hf,List.length_append,ho]; rfl) (fun o ho=>by
     show oG o 18 hi (ae hi) (hi.length:Int)=_;unfold oG;rw [aw rfl]; rfl)
    have hfold:∀ (l o:aW),l.foldl (fun o x=>o ++ [(aj .i64 x.1 64,())]) o=o ++ iR l:=fun l=>by
     induction l with
     | nil=>intro o; simp [iR]
     | cons x r ih=>intro o; rw [List.foldl_cons,ih]; simp [iR]
    rw [bZ,hfold] at h;exact h
   show cond (cond (!true) true (aq (ae hi) 0)) _ _=_;rw [he];refine (bn hhi).trans ?_;have hla:(eQ lo ++ iR hi).length<=1000:=by rw [List.length_append]; unfold iR; rw [List.length_map]; omega
   refine (bn (hchk (eQ lo ++ iR hi) 18 hla)).trans ?_;cases (eQ lo ++ iR hi).all uH <;> rfl
theorem vU {α A Y:Type} (p:α->Bool) (f:α->A->A) (y:Y) (z:A->Y):∀ (xs:List α) (i:Nat) (a:A),jX (fun _ x a=>bif p x then .inl (f x a) else .inr y) z i xs a=bif xs.all p then z (xs.foldl (fun a x=>f x a) a) else y
 | [],_,_=>rfl
 | x :: r,i,a=>by
   rw [jX,List.all_cons,List.foldl_cons];cases hp:p x with
   | true=>simp only [cond_true,Bool.true_and]; exact vU p f y z r (i + 1) _
   | false=>rfl
def Ld (x:Int×Unit) (o:aW×Bool):aW×Bool:=bif aq x.1 1 then (o.1,true) else (o.1 ++ [x],o.2)
theorem Ha:∀ (l:aW) (o:aW×Bool),l.foldl (fun o x=>Ld x o) o=(o.1 ++ eQ l,o.2 || gk l):=fun l=>by
 induction l with
 | nil=>intro o; simp [eQ,gk]
 | cons x r ih => intro o;rw [List.foldl_cons,ih];unfold Ld eQ gk;rw [List.filter_cons,List.any_cons];cases aq x.1 1 <;> simp
def Ks (x:Int×Unit):Bool:=aq x.1 1 || uH x
theorem JQ (l:aW):l.all Ks=(eQ l).all uH:=by
 induction l with
 | nil=>rfl
 | cons x r ih => unfold eQ at ih ⊢;rw [List.all_cons,List.filter_cons,ih];unfold Ks;cases h:aq x.1 1 <;> simp
theorem HK {o:aW} {x:Int×Unit} (h:o.length<=1048576):bY 8 o [x]=true:=Nat.ble_eq_true_of_le (by show (o.length + 1) * 8<=140737488355328; omega)
theorem VT (b:aW) (mti:List UInt8) (at':Int) (lo:aW) (hl:lo.length<=64) (m0:cH):Kb b mti at' [] false lo (ae lo) 0 m0=some (bif (eQ lo).all uH then .inl (b,mti,at',eQ lo,gk lo,lo,ae lo,(lo.length:Int),m0,()) else .inr (2,([],[],()),())):=by
 have h:=aH (step:=Dl qa) lo (fun i (o:aW×Bool)=>(b,mti,at',o.1,o.2,lo,ae lo,((i:Nat):Int),m0,())) (fun _ x o=>bif Ks x then Sum.inl (Ld x o) else .inr (.inr (2,([],[],()),()))) (fun o=> .inl (b,mti,at',o.1,o.2,lo,ae lo,(lo.length:Int),m0,())) (fun i o=>o.1.length<=i) (a0:=([],false)) (Nat.le_refl _) (fun i x o hx ho=>by
  have hlt:=ai hx;show qa b mti at' o.1 o.2 lo (ae lo) (i:Int) m0=_;unfold qa;rw [aD hx,az hx,aV _ hx,aJ (by unfold aT; omega)];dsimp only [cond_true];rw [zw];dsimp only [Option.bind_some];rw [HK (by omega)];unfold Ks Ld uH;cases aq x.1 1 <;> cases aq (bu x.1) 0 <;> rfl) (fun i x o o' hx ho hf=>by
  unfold Ld at hf;cases hk:Ks x <;> rw [hk] at hf
  . cases hf
  . cases hf;cases aq x.1 1 with
    | true=>show o.1.length<=_; omega
    | false=>show (o.1 ++ [x]).length<=_; rw [List.length_append]; show o.1.length + 1<=_; omega) (fun o ho=>by
  show qa b mti at' o.1 o.2 lo (ae lo) (lo.length:Int) m0=_;unfold qa;rw [aw rfl]; rfl)
 rw [vU,Ha,JQ] at h;refine Eq.trans h ?_;cases (eQ lo).all uH <;> rfl
theorem Jv (l:aW):(iR l).all uH=l.all fun x=>uH (aj .i64 x.1 64,()):=by unfold iR; rw [List.all_map]; rfl
theorem GU:∀ (l o:aW),l.foldl (fun o x=>o ++ [(aj .i64 x.1 64,())]) o=o ++ iR l:=fun l=>by
 induction l with
 | nil=>intro o; simp [iR]
 | cons x r ih=>intro o; rw [List.foldl_cons,ih]; simp [iR]
theorem QV (b:aW) (mti:List UInt8) (at':Int) (o0 hi:aW) (h0:o0.length<=64) (hl:hi.length<=64) (m0:cH):IT b mti at' o0 hi (ae hi) 0 m0=some (bif (iR hi).all uH then .inl (b,mti,at',o0 ++ iR hi,hi,ae hi,(hi.length:Int),m0,()) else .inr (2,([],[],()),())):=by
 have h:=aH (step:=yV oz) hi (fun i (o:aW)=>(b,mti,at',o,hi,ae hi,((i:Nat):Int),m0,())) (fun _ x o=>bif uH (aj .i64 x.1 64,()) then Sum.inl (o ++ [(aj .i64 x.1 64,())]) else .inr (.inr (2,([],[],()),()))) (fun o=> .inl (b,mti,at',o,hi,ae hi,(hi.length:Int),m0,())) (fun i o=>o.length<=64 + i) (a0:=o0) h0 (fun i x o hx ho=>by
  have hlt:=ai hx;show oz b mti at' o hi (ae hi) (i:Int) m0=_;unfold oz;rw [aD hx,az hx,aV _ hx,aJ (by unfold aT; omega)];dsimp only [cond_true];rw [zw];dsimp only [Option.bind_some];rw [HK (by omega)];unfold uH;cases aq (bu (aj .i64 x.1 64)) 0 <;> rfl) (fun i x o o' hx ho hf=>by
  cases hk:uH (aj .i64 x.1 64,()) <;> rw [hk] at hf
  . cases hf
  . cases hf;rw [List.length_append]; show o.length + 1<=_; omega) (fun o ho=>by
  show oz b mti at' o hi (ae hi) (hi.length:Int) m0=_;unfold oz;rw [aw rfl]; rfl)
 rw [vU,GU,<- Jv] at h;refine Eq.trans h ?_;cases (iR hi).all uH <;> rfl
def Qx (b:aW) (mti:List UInt8) (m0:cH) (nos:aW) (n:Int):Option (List p9×Nat)->Sum (aW×Int×aW×Int×Int×cH×cH×Unit) (Int×cH×Unit)
 | some (l,e)=> .inl (b,(e:Int),nos,n,n,m0,(mti,l,()),())
 | none=> .inr (3,([],[],()),())
theorem zj (b:aW) (mti:List UInt8) (m0:cH) (ns:aW) (n:Int):∀ (nos:aW) (i a:Nat) (o:List p9),jX (fun _ x (q:Nat×List p9)=>match nH b q.1 x.1 with | some (s,e)=>Sum.inl (e,q.2 ++ [(x.1,s,())]) | none=> .inr (.inr (3,([],[],()),()))) (fun q=> .inl (b,(q.1:Int),ns,n,n,m0,(mti,q.2,()),())) i nos (a,o)=Qx b mti m0 ns n (lh b nos a o)
 | [],_,_,_=>rfl
 | x :: r,i,a,o=>by
   rw [jX,lh];cases nH b a x.1 with
   | none=>rfl
   | some p=>exact zj b mti m0 ns n r (i + 1) p.2 _
theorem Oq {o:List p9} {x:p9} (h:o.length<=1048576):bY 24 o [x]=true:=Nat.ble_eq_true_of_le (by show (o.length + 1) * 24<=140737488355328; omega)
theorem QM (b:aW) (hb:yl b) (a:Nat) (ha:a<=b.length) (nos:aW) (hn:nos.length<=1000) (mti:List UInt8) (m0:cH):JR b (a:Int) nos (ae nos) 0 m0 (mti,[],())=some (Qx b mti m0 nos (ae nos) (lh b nos a [])):=by
 have h:=aH (step:=Kl pL) nos (fun i (q:Nat×List p9)=>(b,(q.1:Int),nos,ae nos,((i:Nat):Int),m0,(mti,q.2,()),())) (fun _ x q=>match nH b q.1 x.1 with | some (s,e)=>Sum.inl (e,q.2 ++ [(x.1,s,())]) | none=> .inr (.inr (3,([],[],()),()))) (fun q=> .inl (b,(q.1:Int),nos,ae nos,(nos.length:Int),m0,(mti,q.2,()),())) (fun i q=>q.1<=b.length/\q.2.length<=i) (a0:=(a,[])) ⟨ha,Nat.le_refl _⟩ (fun i x q hx hq=>by
  have hlt:=ai hx;show pL b (q.1:Int) nos (ae nos) (i:Int) m0 (mti,q.2,())=_;unfold pL;rw [aD hx,az hx,aV _ hx,aJ (by unfold aT; omega),TJ b q.1 x.1 hb hq.1];unfold lV;cases nH b q.1 x.1 with
  | none=>rfl
  | some p =>
    dsimp only [cond_true,Option.bind_some,Bool.not_true,cond_false];rw [Oq (Nat.le_trans hq.2 (by omega))]; rfl) (fun i x q q' hx hq hf=>by
  cases hg:nH b q.1 x.1 with
  | none=>rw [hg] at hf; cases hf
  | some p =>
    rw [hg] at hf;cases hf;refine ⟨(se hq.1 hg).2.2,?_⟩;show (q.2 ++ [_]).length<=_;rw [List.length_append];exact Nat.succ_le_succ hq.2) (fun q hq=>by
  show pL b (q.1:Int) nos (ae nos) (nos.length:Int) m0 (mti,q.2,())=_;unfold pL;rw [aw rfl]; rfl)
 rw [show (fun (q:Nat×List p9)=>(Sum.inl (b,(q.1:Int),nos,ae nos,(nos.length:Int),m0,(mti,q.2,()),()):Sum (aW×Int×aW×Int×Int×cH×cH×Unit) (Int×cH×Unit)))=fun q=> .inl (b,(q.1:Int),nos,ae nos,ae nos,m0,(mti,q.2,()),()) from rfl,zj] at h;exact h
theorem Qk (b:aW) (hb:yl b) (a:Nat) (ha:a<=b.length) (nos:aW) (hn:nos.length<=1000) (mti:List UInt8) (m0:cH):Ax b (a:Int) nos (ae nos) 0 m0 (mti,[],())=some (Qx b mti m0 nos (ae nos) (lh b nos a [])):=by
 have h:=aH (step:=Kl oa) nos (fun i (q:Nat×List p9)=>(b,(q.1:Int),nos,ae nos,((i:Nat):Int),m0,(mti,q.2,()),())) (fun _ x q=>match nH b q.1 x.1 with | some (s,e)=>Sum.inl (e,q.2 ++ [(x.1,s,())]) | none=> .inr (.inr (3,([],[],()),()))) (fun q=> .inl (b,(q.1:Int),nos,ae nos,(nos.length:Int),m0,(mti,q.2,()),())) (fun i q=>q.1<=b.length/\q.2.length<=i) (a0:=(a,[])) ⟨ha,Nat.le_refl _⟩ (fun i x q hx hq=>by
  have hlt:=ai hx;show oa b (q.1:Int) nos (ae nos) (i:Int) m0 (mti,q.2,())=_;unfold oa;rw [aD hx,az hx,aV _ hx,aJ (by unfold aT; omega),Vp b q.1 x.1 hb hq.1];unfold lV;cases nH b q.1 x.1 with
  | none=>rfl
  | some p =>
    dsimp only [cond_true,Option.bind_some,Bool.not_true,cond_false];rw [Oq (Nat.le_trans hq.2 (by omega))]; rfl) (fun i x q q' hx hq hf=>by
  cases hg:nH b q.1 x.1 with
  | none=>rw [hg] at hf; cases hf
  | some p =>
    rw [hg] at hf;cases hf;refine ⟨(se hq.1 hg).2.2,?_⟩;show (q.2 ++ [_]).length<=_;rw [List.length_append];exact Nat.succ_le_succ hq.2) (fun q hq=>by
  show oa b (q.1:Int) nos (ae nos) (nos.length:Int) m0 (mti,q.2,())=_;unfold oa;rw [aw rfl]; rfl)
 rw [show (fun (q:Nat×List p9)=>(Sum.inl (b,(q.1:Int),nos,ae nos,(nos.length:Int),m0,(mti,q.2,()),()):Sum (aW×Int×aW×Int×Int×cH×cH×Unit) (Int×cH×Unit)))=fun q=> .inl (b,(q.1:Int),nos,ae nos,ae nos,m0,(mti,q.2,()),()) from rfl,zj] at h;exact h
theorem A6 {b:aW} {p:aW×Nat} (h:BU b=some p):p.1.length<=1000/\p.2<=b.length:=by
 have k1:=kT (eK b 2 8);have k2:=kT (eK b 10 8);have k3:(eQ (dU (eK b 2 8))).length<=64:=Nat.le_trans (List.length_filter_le _ _) k1;have k4:(iR (dU (eK b 10 8))).length<=64:=by unfold iR; rw [List.length_map]; exact k2
 unfold BU at h;by_cases h10:10<=b.length;rotate_left
 . rw [if_neg h10] at h; cases h
 rw [if_pos h10] at h;cases hm:gk (dU (eK b 2 8)) <;> rw [hm] at h
 . cases hk:(eQ (dU (eK b 2 8))).all uH <;> rw [hk] at h <;> cases h;exact ⟨by show (eQ (dU (eK b 2 8))).length<=_; omega,h10⟩
 . by_cases h18:18<=b.length/\dU (eK b 10 8)≠[]
   . rw [cond_true,if_pos h18] at h;cases hk:(eQ (dU (eK b 2 8)) ++ iR (dU (eK b 10 8))).all uH <;> rw [hk] at h <;> cases h;refine ⟨?_,h18.1⟩;show (eQ (dU (eK b 2 8)) ++ iR (dU (eK b 10 8))).length<=_;rw [List.length_append]; omega
   . rw [cond_true,if_neg h18] at h; cases h
theorem TY (b:aW) (hb:yl b):Nw b=GN (kr b):=by
 unfold Nw kr GN;have h0:vJ b 0 4=ya (jc b 0 4) 2:=Ec b 0 4 hb (Nat.zero_le _) (by omega);rw [h0];cases hc:jc b 0 4 with
 | none=>rfl
 | some mti =>
   have h2:2<=b.length:=(dT hc).2.2.2.2;show Option.bind (Ir b) _=_;rw [Vx b hb h2];cases hn:BU b with
   | none=>rfl
   | some p =>
     obtain ⟨n1,n2⟩:=A6 hn;obtain ⟨nos,a⟩:=p;refine (bn (QM b hb a n2 nos n1 mti ([],[],()))).trans ?_;dsimp only;cases lh b nos a [] with
     | none=>rfl
     | some q =>
       obtain ⟨l,e⟩:=q;show cond (!(aq (e:Int) (b.length:Int))) _ _=_;dsimp only;by_cases he:e=b.length
       . rw [if_pos he,he,bg]; rfl
       . rw [if_neg he,show aq (e:Int) (b.length:Int)=false from beq_eq_false_iff_ne.2 (by omega)]; rfl
theorem Uy (b:aW) (hb:yl b):Om b=GN (kr b):=by
 unfold Om kr GN;have h0:zp b 0 4=ya (jc b 0 4) 2:=HS b 0 4 hb (Nat.zero_le _) (by omega);rw [h0];cases hc:jc b 0 4 with
 | none=>rfl
 | some mti =>
   have h2:2<=b.length:=(dT hc).2.2.2.2;have h1:Bi b 2=nO b 2:=Io b 2 hb h2;show Option.bind (Bi b 2) _=_;rw [h1];unfold nO BU;have k1:=kT (eK b 2 8);generalize hlo:dU (eK b 2 8)=lo at k1 ⊢;have k3:(eQ lo).length<=64:=Nat.le_trans (List.length_filter_le _ _) k1;have tail:∀ (nos:aW) (a:Nat),a<=b.length->nos.length<=1000->∀ m0:cH,(Option.bind (Ax b (a:Int) nos (ae nos) 0 m0 (mti,[],())) (Sum.elim (fun y6=>cond (!(aq y6.2.1 (ae y6.1))) (some ((),(([],[],()),(4,()),()))) (some ((),(y6.2.2.2.2.2.2.1,(0,()),())))) (fun y6=>some ((),(y6.2.1,(y6.1,()),())))))=some ((),(match lh b nos a [] with | none=>(([],[],()),3) | some (l,e)=>if e=b.length then ((mti,l,()),0) else (([],[],()),4):cH×Int).1,((match lh b nos a [] with | none=>(([],[],()),3) | some (l,e)=>if e=b.length then ((mti,l,()),0) else (([],[],()),4):cH×Int).2,()),()):=fun nos a ha hn m0=>by
    rw [Qk b hb a ha nos hn mti m0];cases lh b nos a [] with
    | none=>rfl
    | some q =>
      obtain ⟨l,e⟩:=q;show cond (!(aq (e:Int) (b.length:Int))) _ _=_;dsimp only;by_cases he:e=b.length
      . rw [if_pos he,he,bg]; rfl
      . rw [if_neg he,show aq (e:Int) (b.length:Int)=false from beq_eq_false_iff_ne.2 (by omega)]; rfl
   by_cases h10:10<=b.length;rotate_left
   . rw [if_neg h10,if_neg (show ¬ 2 + 8<=b.length from h10)]; rfl
   rw [if_pos h10,if_pos (show 2 + 8<=b.length from h10)];refine (bn (VT b mti 10 lo k1 ([],[],()))).trans ?_;cases hk:(eQ lo).all uH with
   | false =>
     dsimp only [cond_false];cases gk lo with
     | false=>rfl
     | true =>
       dsimp only [cond_true];rw [List.all_append,hk];by_cases h18:18<=b.length/\dU (eK b 10 8)≠[]
       . rw [if_pos h18]; rfl
       . rw [if_neg h18]; rfl
   | true =>
     dsimp only [cond_true];show cond (gk lo) _ _=_;cases gk lo with
     | false=>exact tail (eQ lo) 10 h10 (by omega) _
     | true =>
       dsimp only [cond_true];have h3:Bi b 10=nO b 10:=Io b 10 hb h10;refine (bn h3).trans ?_;unfold nO;have k2:=kT (eK b 10 8);generalize dU (eK b 10 8)=hi at k2 ⊢;by_cases h18:18<=b.length;rotate_left
       . rw [if_neg (show ¬ 10 + 8<=b.length from h18),if_neg (fun h=>h18 h.1)]; rfl
       rw [if_pos (show 10 + 8<=b.length from h18)];by_cases hne:hi=[]
       . rw [if_neg (fun h=>h.2 hne),hne]; rfl
       rw [if_pos ⟨h18,hne⟩];have he:aq (ae hi) 0=false:=beq_eq_false_iff_ne.2 (by
        show (hi.length:Int)≠0;cases hi with
        | nil=>exact absurd rfl hne
        | cons x r=>show ((r.length + 1:Nat):Int)≠0; omega)
       show cond (cond (!true) true (aq (ae hi) 0)) _ _=_;rw [he];refine (bn (QV b mti 18 (eQ lo) hi k3 k2 ([],[],()))).trans ?_;rw [List.all_append,hk];cases (iR hi).all uH with
       | false=>rfl
       | true=>exact tail (eQ lo ++ iR hi) 18 h18 (by rw [List.length_append]; unfold iR; rw [List.length_map]; omega) _
abbrev kD:=Int×(List UInt8)×(List UInt8)×(List UInt8)×(List UInt8)×(List UInt8)×Int×Int×Unit
theorem xG (xs:List (Int×Unit)) (v:Int) (hs:xs.length<=1048576):Rc xs v=some ((),((bH 0 (gz (fun y=>aq v y.1) 0 xs),()),())):=by
 have hbig:aT=140737488355328:=rfl;unfold Rc Rj;have h:=aI (step:=cV pS) xs (fun i (_:Unit)=>(xs,v,ae xs,((i:Nat):Int),())) (fun i y _=>bif aq v y.1 then Sum.inr (.inr ((i:Int),())) else Sum.inl ()) (fun _=> .inl (xs,v,ae xs,(xs.length:Int),())) (a0:=()) (fun i y u hy=>by
  have hlt:=ai hy;show pS xs v (ae xs) (i:Int)=_;unfold pS;rw [aD hy,az hy,aV _ hy,aJ (by omega)];dsimp only [cond_true];cases aq v y.1 <;> rfl) (fun u=>by
  show pS xs v (ae xs) (xs.length:Int)=_;unfold pS;rw [aw rfl]; rfl)
 have h':I0 xs v (ae xs) 0=_:=h;rw [h'];have hf:=mZ (Y:=Sum ((List (Int×Unit))×Int×Int×Int×Unit) (Int×Unit)) (fun (y:Int×Unit)=>aq v y.1) (fun n=> .inr (n,())) (.inl (xs,v,ae xs,(xs.length:Int),())) (fun y=>match y with | .inl _ => -1 | .inr z=>z.1) (fun _=>rfl) rfl xs 0;rw [<- hf];dsimp only [Option.bind_some];cases jX _ _ 0 xs () <;> rfl
def Ia (op:Int):List UInt8:=gt ([],()) [([],()),([48,49,48,48],()),([48,49,48,48],()),([48,50,50,48],()),([48,50,50,48],()),([48,50,50,48],()),([48,50,48,48],()),([48,49,48,48],()),([48,50,48,48],())] op |>.1
def qh (q:kD):Bool:=dR q.1 1 8 && cr q.2.2.2.2.2.1 (Ia q.1) && fy q.2.1 && aY q.2.2.2.2.1 && aq (ae q.2.2.2.2.1) 6 && (cond (au q.1 7) (iv q.2.2.2.1) (cr q.2.2.2.1 [])) && (cond (au q.1 5) (dR q.2.2.2.2.2.2.1 0 999999999999) (aq q.2.2.2.2.2.2.1 0)) && (cond (aq q.1 1) (dR q.2.2.2.2.2.2.2.1 0 9999) (aq q.2.2.2.2.2.2.2.1 0)) && (cond (aq q.1 6) (fy q.2.2.1) (cr q.2.2.1 []))
def Ix (q:kD):Prop:=q.2.1.length<=1048576/\q.2.2.1.length<=1048576/\q.2.2.2.1.length<=1048576/\q.2.2.2.2.1.length<=1048576/\q.2.2.2.2.2.1.length<=1048576
theorem qN {op:Int} (h:dR op 1 8=true):op=1∨op=2∨op=3∨op=4∨op=5∨op=6∨op=7∨op=8:=by have:=gM.1 h;omega
theorem Tj (q:kD) (hb:Ix q):lg q=some ((),((qh q,()),())):=by
 obtain ⟨op,acct,other,hold,trace,mti,amt,ttl,_⟩:=q;obtain ⟨b1,b2,b3,b4,b5⟩:=hb;cases hop:dR op 1 8 with
 | false => unfold lg AG qh;rw [lX,hop]; rfl
 | true =>
   have k1:=uO acct (cD b1);have k2:=uO other (cD b2);have k3:=B7 hold (cD b3);have k4:=fN trace (cD b4);have k5:AG op=some ((),((true,()),())):=by unfold AG; rw [lX,hop]; rfl
   have k6:Ga op=some ((),((Ia op,()),())):=by unfold Ga;rw [k5];rcases qN hop with h | h | h | h | h | h | h | h <;> subst h <;> rfl
   have k7:F4 op=some ((),((au op 7,()),())):=by unfold F4; rw [k5]; rfl
   have k8:AH op=some ((),((au op 5,()),())):=by unfold AH;rw [lX];rcases qN hop with h | h | h | h | h | h | h | h <;> subst h <;> rfl
   have k9:=lX amt 0 999999999999;have k10:=lX ttl 0 9999;unfold lg qh;dsimp only;rw [k5,k6,k1,k4,k7,k8,k3,k9,k10,k2];dsimp only [Option.bind_some];rw [hop];cases cr mti (Ia op) <;> first | rfl | skip
   cases fy acct <;> first | rfl | skip
   cases aY trace <;> first | rfl | skip
   cases aq (ae trace) 6 <;> first | rfl | skip
   cases au op 7 <;> cases iv hold <;> cases cr hold [] <;> first | rfl | skip
   all_goals (cases au op 5 <;> cases dR amt 0 999999999999 <;> cases aq amt 0 <;> first | rfl | skip)
   all_goals (cases aq op 1 <;> cases dR ttl 0 9999 <;> cases aq ttl 0 <;> first | rfl | skip)
   all_goals (cases aq op 6 <;> cases fy other <;> rfl)
theorem SO {op:Int} (hop:dR op 1 8=true):kB op 38=some ((),((au op 7,()),()))/\kB op 4=some ((),((au op 5,()),()))/\kB op 14=some ((),((aq op 1,()),()))/\kB op 103=some ((),((aq op 6,()),())):=by unfold kB Af;rw [jY,hop];rcases qN hop with h | h | h | h | h | h | h | h <;> subst h <;> refine ⟨?_,?_,?_,?_⟩ <;> (refine (congrArg (fun z=>Option.bind z fun y2=>some ((),(y2.2.1,()))) (xG _ _ ?_)).trans ?_) <;> first | rfl | decide
theorem SB {op:Int} (hop:dR op 1 8=true):∃ (nm:List UInt8×List UInt8) (fs:List (Int×Unit)),Af op=some ((),((Ia op,nm.1,nm.2,fs,()),()))/\cr nm.2 []=false:=by unfold Af;rw [jY,hop];rcases qN hop with h | h | h | h | h | h | h | h <;> subst h <;> exact ⟨(_,_),_,rfl,rfl⟩
theorem V0 (q:kD) (hb:Ix q):KE q=some ((),((qh q,()),())):=by
 obtain ⟨op,acct,other,hold,trace,mti,amt,ttl,_⟩:=q;obtain ⟨b1,b2,b3,b4,b5⟩:=hb;cases hop:dR op 1 8 with
 | false => unfold KE Af qh;rw [jY,hop]; rfl
 | true =>
   have k1:=xi acct (cD b1);have k2:=xi other (cD b2);have k3:=Bw hold (cD b3);have k4:wY trace 6=some ((),((cond (aY trace) (aq (ae trace) 6) false,()),())):=by unfold wY; rw [gP trace (cD b4)]; rfl
   obtain ⟨nm,fs,k5,k6⟩:=SB hop;obtain ⟨u1,u2,u3,u4⟩:=SO hop;have k9:=jY amt 0 999999999999;have k10:=jY ttl 0 9999;unfold KE qh;dsimp only;rw [k5,k1,k4,u1,u2,u3,u4,k3,k9,k10,k2];dsimp only [Option.bind_some];rw [hop,k6];cases cr mti (Ia op) <;> first | rfl | skip
   cases fy acct <;> first | rfl | skip
   cases aY trace <;> first | rfl | skip
   cases aq (ae trace) 6 <;> first | rfl | skip
   cases au op 7 <;> cases iv hold <;> cases cr hold [] <;> cases au op 5 <;> cases dR amt 0 999999999999 <;> cases aq amt 0 <;> cases aq op 1 <;> cases dR ttl 0 9999 <;> cases aq ttl 0 <;> cases aq op 6 <;> cases fy other <;> cases cr other [] <;> rfl
def l6 (s:List UInt8):Nat->Nat
 | 0=>0
 | n + 1=>bif aq (dx s (n:Int)) 32 then l6 s n else n + 1
def tw (s:List UInt8):List UInt8:=s.take (l6 s s.length)
theorem Bc (s:List UInt8):∀ n,l6 s n<=n
 | 0=>Nat.le_refl _
 | n + 1=>by
   unfold l6;cases aq (dx s (n:Int)) 32 with
   | true=>exact Nat.le_succ_of_le (Bc s n)
   | false=>exact Nat.le_refl _
theorem Ro (s:List UInt8) (hs:s.length<=aT):M8 s=some ((),((tw s,()),())):=by
 have hbig:aT=140737488355328:=rfl;have h:∀ n:Nat,n<=s.length->KB s (n:Int)=some (.inl (s,((l6 s n:Nat):Int),())):=fun n=>by
  induction n with
  | zero=>intro _; exact aK _ rfl
  | succ n ih =>
    intro hn;have e:zu s ((n + 1:Nat):Int)=bif aq (dx s (n:Int)) 32 then some (.inl (s,(n:Int),())) else some (.inr (.inl (s,((n + 1:Nat):Int),()))):=by unfold zu;rw [aF (show (0:Int) < ((n + 1:Nat):Int) by omega),aS (by omega) (by omega),show ((n + 1:Nat):Int) - 1=(n:Int) by omega];dsimp only [cond_true];rw [ln (xs:=s) (by omega)];cases aq (dx s (n:Int)) 32 <;> rfl
    cases hc:aq (dx s (n:Int)) 32 with
    | true => rw [hc] at e;unfold l6;rw [hc];exact aU _ e (ih (by omega))
    | false => rw [hc] at e;unfold l6;rw [hc];exact aK _ e
 unfold M8;refine (bn (h s.length (Nat.le_refl _))).trans ?_;show cond (dP 0 ((l6 s s.length:Nat):Int) s) (some ((),((sub s 0 ((l6 s s.length:Nat):Int),()),()))) none=_;rw [jq (Bc s s.length),qG]; rfl
theorem QY (s:List UInt8) (hs:s.length<=aT):KK s 32=some ((),((tw s,()),())):=by
 have hbig:aT=140737488355328:=rfl;have h:∀ n:Nat,n<=s.length->Ky (s.take n) 32=some (.inl (s.take (l6 s n),32,())):=fun n=>by
  induction n with
  | zero=>intro _; exact aK _ rfl
  | succ n ih =>
    intro hn;have hl:(s.take (n + 1)).length=n + 1:=by rw [List.length_take]; omega
    have hb:dx (s.take (n + 1)) (n:Int)=dx s (n:Int):=by have hx:s[n]? = some (s[n]'(by omega)):=List.getElem?_eq_getElem (by omega);rw [eI hx,eI (xs:=s.take (n + 1)) (x:=s[n]'(by omega)) (by rw [List.getElem?_take,if_pos (by omega)]; exact hx)]
    have e:An (s.take (n + 1)) 32=bif aq (dx s (n:Int)) 32 then some (.inl (s.take n,32,())) else some (.inr (.inl (s.take (n + 1),32,()))):=by unfold An;rw [show ae (s.take (n + 1))=((n + 1:Nat):Int) from congrArg Int.ofNat hl];dsimp only;rw [aF (show (0:Int) < ((n + 1:Nat):Int) by omega),aS (by omega) (by omega),show ((n + 1:Nat):Int) - 1=(n:Int) by omega,ln (xs:=s.take (n + 1)) (by omega),hb,jq (xs:=s.take (n + 1)) (i:=n) (by omega),qG,List.take_take,Nat.min_eq_left (Nat.le_succ n)];cases aq (dx s (n:Int)) 32 <;> rfl
    cases hc:aq (dx s (n:Int)) 32 with
    | true => rw [hc] at e;unfold l6;rw [hc];exact aU _ e (ih (by omega))
    | false => rw [hc] at e;unfold l6;rw [hc];exact aK _ e
 have h0:=h s.length (Nat.le_refl _);rw [List.take_length] at h0;unfold KK;refine (bn h0).trans rfl
theorem QA (s:List UInt8) (hs:s.length<=aT):Mq s=some ((),((tw s,()),())):=by
 unfold Mq RY;cases he:cr s [] with
 | true =>
   have:s=[]:=by simpa [cr] using he
   subst this;rfl
 | false => have e:KK s (dx [32] 0)=_:=QY s hs;dsimp only;rw [e]; rfl
theorem K5 (s:List UInt8):(tw s).length<=s.length:=by unfold tw; rw [List.length_take]; exact Nat.min_le_right _ _
abbrev qE:=List UInt8×Unit
theorem QF (a b:List UInt8):ND a b=some ((),((kj a b,()),())):=by unfold ND Ok;rw [cU]; rfl
theorem QE (a b:Int):NZ a b=some ((),((au a b,()),())):=by unfold NZ LQ;rw [bg]; rfl
theorem OQ:FD 1=some ((),((1,()),())):=rfl
theorem Pb:FD 2=some ((),((2,()),())):=rfl
theorem Nn (x:qE):Cm [x]=some ((([x],()),()),()):=by have h:pr [x] 0 1 1=some (.inl ([x],0,1,1,())):=aK _ rfl;unfold Cm;refine (bn OQ).trans ?_;show Option.bind (Option.bind (Option.bind (pr [x] 0 1 1) _) _) _=_;rw [h]; rfl
def SU (x y:qE):List qE:=bif kj y.1 x.1 then [y,x] else [x,y]
theorem M9 (x y:qE):Cm [x,y]=some (((SU x y,()),()),()):=by
 have hi:wF [x,y] 0 2 1 1=some (.inl (SU x y,0,2,1,(bif kj y.1 x.1 then 0 else 1),())):=by
  have e:vW [x,y] 0 2 1 1=bif kj y.1 x.1 then some (.inl ([y,x],0,2,1,0,())) else some (.inr (.inl ([x,y],0,2,1,1,()))):=by unfold vW;dsimp only;rw [QF];rfl
  unfold SU;cases hc:kj y.1 x.1 with
  | true=>rw [hc] at e; exact aU _ e (aK _ rfl)
  | false=>rw [hc] at e; exact aK _ e
 have h:pr [x,y] 0 2 1=some (.inl (SU x y,0,2,2,())):=by
  have e:wK [x,y] 0 2 1=some (.inl (SU x y,0,2,2,())):=by unfold wK;show Option.bind (wF [x,y] 0 2 1 1) _=_;rw [hi]; rfl
  exact aU _ e (aK _ rfl)
 unfold Cm;refine (bn Pb).trans ?_;show Option.bind (Option.bind (Option.bind (pr [x,y] 0 2 1) _) _) _=_;rw [h]; rfl
theorem zH (x y:qE):Gx [x,y]=some ((),((bif cr y.1 x.1 then [x] else [x,y],()),())):=by
 have e:Ah [x,y] 1=bif cr y.1 x.1 then some (.inr (.inr ([x],()))) else some (.inl ([x,y],2,())):=rfl;have h:vk [x,y] 1=some (bif cr y.1 x.1 then .inr ([x],()) else .inl ([x,y],2,())):=by
  cases hc:cr y.1 x.1 with
  | true=>rw [hc] at e; exact aK _ e
  | false=>rw [hc] at e; exact aU _ e (aK _ rfl)
 unfold Gx;show Option.bind (vk [x,y] 1) _=_;rw [h];cases cr y.1 x.1 <;> rfl
abbrev de:=Int×Unit
theorem M6 (x:de):vd [x]=some ((([x],()),()),()):=by have h:lP [x] 0 1 1=some (.inl ([x],0,1,1,())):=aK _ rfl;unfold vd;refine (bn OQ).trans ?_;show Option.bind (Option.bind (Option.bind (lP [x] 0 1 1) _) _) _=_;rw [h]; rfl
theorem Ni:vd []=some ((([],()),()),()):=by have h:lP [] 0 0 1=some (.inl ([],0,0,1,())):=aK _ rfl;unfold vd;refine (bn (show FD 0=some ((),((0,()),())) from rfl)).trans ?_;show Option.bind (Option.bind (Option.bind (lP [] 0 0 1) _) _) _=_;rw [h]; rfl
def S1 (x y:de):List de:=bif au y.1 x.1 then [y,x] else [x,y]
theorem MH (x y:de):vd [x,y]=some (((S1 x y,()),()),()):=by
 have hi:vP [x,y] 0 2 1 1=some (.inl (S1 x y,0,2,1,(bif au y.1 x.1 then 0 else 1),())):=by
  have e:vq [x,y] 0 2 1 1=bif au y.1 x.1 then some (.inl ([y,x],0,2,1,0,())) else some (.inr (.inl ([x,y],0,2,1,1,()))):=by unfold vq;dsimp only;rw [QE];rfl
  unfold S1;cases hc:au y.1 x.1 with
  | true=>rw [hc] at e; exact aU _ e (aK _ rfl)
  | false=>rw [hc] at e; exact aK _ e
 have h:lP [x,y] 0 2 1=some (.inl (S1 x y,0,2,2,())):=by
  have e:xI [x,y] 0 2 1=some (.inl (S1 x y,0,2,2,())):=by unfold xI;show Option.bind (vP [x,y] 0 2 1 1) _=_;rw [hi]; rfl
  exact aU _ e (aK _ rfl)
 unfold vd;refine (bn Pb).trans ?_;show Option.bind (Option.bind (Option.bind (lP [x,y] 0 2 1) _) _) _=_;rw [h]; rfl
theorem Et (x y:de):HF [x,y]=some ((),((bif aq y.1 x.1 then [x] else [x,y],()),())):=by
 have e:Aa [x,y] 1=bif aq y.1 x.1 then some (.inr (.inr ([x],()))) else some (.inl ([x,y],2,())):=rfl;have h:uM [x,y] 1=some (bif aq y.1 x.1 then .inr ([x],()) else .inl ([x,y],2,())):=by
  cases hc:aq y.1 x.1 with
  | true=>rw [hc] at e; exact aK _ e
  | false=>rw [hc] at e; exact aU _ e (aK _ rfl)
 unfold HF;show Option.bind (uM [x,y] 1) _=_;rw [h];cases aq y.1 x.1 <;> rfl
def vY (n:Int):List qE->List de
 | [a]=>[(aG a.1 n,())]
 | [a,b]=>bif au (aG b.1 n) (aG a.1 n) then [(aG b.1 n,()),(aG a.1 n,())] else bif aq (aG b.1 n) (aG a.1 n) then [(aG a.1 n,())] else [(aG a.1 n,()),(aG b.1 n,())]
 | _=>[]
def G7 (l:List qE):Prop:=l.length<=2/\∀ x∈l,x.1.length<=1048576
theorem Mm (n:Int):∀ (ids:List qE) (h:G7 ids),Jq n [] ids (ae ids) 0=some (.inl (n,ids.map (fun x=>(aG x.1 n,())),ids,ae ids,ae ids,())):=fun ids hb=>by
 have h:=aH (step:=ff pD) ids (fun i (o:List de)=>(n,o,ids,ae ids,((i:Nat):Int),())) (fun _ x o=>Sum.inl (o ++ [(aG x.1 n,())])) (fun o=> .inl (n,o,ids,ae ids,ae ids,())) (fun i o=>o.length=i) (a0:=[]) rfl (fun i x o hx ho=>by
  have hlt:=ai hx;have:=hb.1;show pD n o ids (ae ids) (i:Int)=_;unfold pD;rw [aD hx,az hx,aV _ hx,aJ (by unfold aT; omega),Cs x.1 n (cD (hb.2 x (List.mem_of_getElem? hx)))];dsimp only [cond_true,Option.bind_some];rw [HK (by omega)]; rfl) (fun i x o o' hx ho hf=>by
  cases hf;rw [List.length_append,ho]; rfl) (fun o ho=>by
  show pD n o ids (ae ids) (ids.length:Int)=_;unfold pD;rw [aw rfl]; rfl)
 rw [bZ] at h;refine Eq.trans h ?_;have:∀ (l:List qE) (o:List de),l.foldl (fun o x=>o ++ [(aG x.1 n,())]) o=o ++ l.map (fun x=>(aG x.1 n,())):=fun l=>by
  induction l with
  | nil=>intro o; simp
  | cons x r ih=>intro o; rw [List.foldl_cons,ih]; simp
 rw [this]; rfl
theorem Q4 (ids:List qE) (n:Int) (hb:G7 ids):MY ids n=some ((),((vY n ids,()),())):=by
 unfold MY;refine (bn (Mm n ids hb)).trans ?_
 match ids,hb with
 | [],_ => show Option.bind (vd []) _=_;rw [Ni]; rfl
 | [a],_ => show Option.bind (vd [(aG a.1 n,())]) _=_;rw [M6]; rfl
 | [a,b],_ =>
   show Option.bind (vd [(aG a.1 n,()),(aG b.1 n,())]) _=_;rw [MH];unfold S1 vY;dsimp only [Option.bind_some];cases hc:au (aG b.1 n) (aG a.1 n) with
   | true => dsimp only [cond_true];rw [Et];have hlt:aG b.1 n < aG a.1 n:=of_decide_eq_true hc;rw [show aq (aG a.1 n) (aG b.1 n)=false from beq_eq_false_iff_ne.2 (by omega)]; rfl
   | false => dsimp only [cond_false];rw [Et]; rfl
 | _ :: _ :: _ :: _,hb=>exact absurd hb.1 (by simp)
theorem Qw (ids:List qE) (n:Int) (hb:G7 ids):N4 ids n=some ((),((vY n ids,()),())):=by
 have inn:∀ (o:List de) (x:Int) (ids:List qE) (k j:Int),rO n [] x 0 ids k j=some (.inl (n,[],x,0,ids,k,j,())):=fun o x ids k j=>aK _ rfl
 have in1:∀ (s x:Int) (ids:List qE) (k j:Int),rO n [(s,())] x 0 ids k j=some (.inl (n,[(s,())],x,(bif au s x then 1 else 0),ids,k,j,())):=fun s x ids k j=>by
  have e:C8 n [(s,())] x 0 ids k j=bif au s x then some (.inl (n,[(s,())],x,1,ids,k,j,())) else some (.inr (.inl (n,[(s,())],x,0,ids,k,j,()))):=rfl;cases hc:au s x with
  | true=>rw [hc] at e; exact aU _ e (aK _ rfl)
  | false=>rw [hc] at e; exact aK _ e
 unfold N4
 match ids,hb with
 | [],_ => have h:Ab n [] [] 0 0=some (.inl (n,[],[],0,0,())):=aK _ rfl;exact (bn h).trans rfl
 | [a],hb =>
   have e:mB n [] [a] 1 0=some (.inl (n,[(aG a.1 n,())],[a],1,1,())):=by unfold mB;show Option.bind (B5 a.1 n) _=_;rw [qC a.1 n (cD (hb.2 a (by simp)))];show Option.bind (rO n [] (aG a.1 n) 0 [a] 1 0) _=_;rw [inn []]; rfl
   have h:Ab n [] [a] 1 0=some (.inl (n,[(aG a.1 n,())],[a],1,1,())):=aU _ e (aK _ rfl);exact (bn h).trans rfl
 | [a,b],hb =>
   have e1:mB n [] [a,b] 2 0=some (.inl (n,[(aG a.1 n,())],[a,b],2,1,())):=by unfold mB;show Option.bind (B5 a.1 n) _=_;rw [qC a.1 n (cD (hb.2 a (by simp)))];show Option.bind (rO n [] (aG a.1 n) 0 [a,b] 2 0) _=_;rw [inn []]; rfl
   have e2:mB n [(aG a.1 n,())] [a,b] 2 1=some (.inl (n,vY n [a,b],[a,b],2,2,())):=by
    unfold mB;show Option.bind (B5 b.1 n) _=_;rw [qC b.1 n (cD (hb.2 b (by simp)))];show Option.bind (rO n [(aG a.1 n,())] (aG b.1 n) 0 [a,b] 2 1) _=_;rw [in1,show vY n [a,b]=bif au (aG b.1 n) (aG a.1 n) then [(aG b.1 n,()),(aG a.1 n,())] else bif aq (aG b.1 n) (aG a.1 n) then [(aG a.1 n,())] else [(aG a.1 n,()),(aG b.1 n,())] from rfl];cases hc:au (aG a.1 n) (aG b.1 n) with
    | true => have hlt:aG a.1 n < aG b.1 n:=of_decide_eq_true hc;rw [ax (show ¬ aG b.1 n < aG a.1 n by omega),show aq (aG b.1 n) (aG a.1 n)=false from beq_eq_false_iff_ne.2 (by omega)]; rfl
    | false =>
      have hge:¬ aG a.1 n < aG b.1 n:=of_decide_eq_false hc;dsimp only [Option.bind_some,cond_false,Sum.elim_inl];show cond (aq (aG a.1 n) (aG b.1 n)) _ _=_;by_cases he:aG a.1 n=aG b.1 n
      . rw [he,bg,ax (show ¬ aG b.1 n < aG b.1 n by omega)]; rfl
      . rw [show aq (aG a.1 n) (aG b.1 n)=false from beq_eq_false_iff_ne.2 he,aF (show aG b.1 n < aG a.1 n by omega)]; rfl
   have h:Ab n [] [a,b] 2 0=some (.inl (n,vY n [a,b],[a,b],2,2,())):=aU _ e1 (aU _ e2 (aK _ rfl));exact (bn h).trans rfl
 | _ :: _ :: _ :: _,hb=>exact absurd hb.1 (by simp)
def hE:kD:=(0,[],[],[],[],[],0,0,())
def yB (s:List UInt8):Bool:=cond (cond (cr s [48,49,48,48]) true (cr s [48,50,48,48])) true (cr s [48,50,50,48])
abbrev Ft:=List UInt8×List UInt8×List UInt8×List (Int×Unit)×Unit
def cY:List Ft:=[([48,49,48,48],[48,48],[97,117,116,104],[(4,()),(14,()),(38,())],()),([48,49,48,48],[48,50],[109,111,114,101],[(4,()),(38,())],()),([48,50,50,48],[48,49],[112,97,114,116],[(4,()),(38,())],()),([48,50,50,48],[48,48],[102,105,110,97,108],[(4,()),(38,())],()),([48,50,50,48],[50,48],[102,114,101,101],[(38,())],()),([48,50,48,48],[52,48],[109,111,118,101],[(38,()),(103,())],()),([48,49,48,48],[51,49],[97,115,107],[],()),([48,50,48,48],[57,48],[115,119,101,101,112],[],())]
def CH (mti c:List UInt8) (r:Ft):Bool:=cond (cr r.1 mti) (cr r.2.1 (sub c 0 2)) false
def ej (mti c:List UInt8):Int:=1 + gz (CH mti c) 0 cY
theorem tJ (mti c:List UInt8):ej mti c=0∨ej mti c=1∨ej mti c=2∨ej mti c=3∨ej mti c=4∨ej mti c=5∨ej mti c=6∨ej mti c=7∨ej mti c=8:=by unfold ej;have:=xR (CH mti c) cY 0;simp only [show cY.length=8 from rfl] at this;omega
theorem Oc (m:cH) (c:List UInt8) (hc:2<=c.length) (nm:List UInt8×Unit) (hn:nm=(c,())):Nv cY m nm=some ((),((gz (CH m.1 c) 0 cY,()),())):=by
 subst hn;have hcut:dP 0 2 c=true:=jq (i:=2) hc;have h:=aI (step:=cV pG) cY (fun i (_:Unit)=>(cY,(m,(c,()),()),ae cY,((i:Nat):Int),())) (fun i x _=>bif CH m.1 c x then Sum.inr (.inr ((i:Int),())) else .inl ()) (fun _=> .inl (cY,(m,(c,()),()),ae cY,(cY.length:Int),())) (a0:=()) (fun i x a hx=>by
  have hlt:=ai hx;have h8:cY.length=8:=rfl;show pG cY (m,(c,()),()) (ae cY) (i:Int)=_;unfold pG Qs CH;rw [aD hx,az hx,aV _ hx,aJ (by unfold aT; omega)];dsimp only [cond_true];rw [hcut];cases cr x.1 m.1 <;> cases cr x.2.1 (sub c 0 2) <;> rfl) (fun a=>by
  show pG cY (m,(c,()),()) (ae cY) (cY.length:Int)=_;unfold pG;rw [aw rfl]; rfl)
 have hf:=mZ (Y:=Sum ((List Ft)×(cH×(List UInt8×Unit)×Unit)×Int×Int×Unit) (Int×Unit)) (CH m.1 c) (fun n=> .inr (n,())) (.inl (cY,(m,(c,()),()),ae cY,(cY.length:Int),())) (fun y=>match y with | .inl _ => -1 | .inr z=>z.1) (fun _=>rfl) rfl cY 0;unfold Nv;refine (bn h).trans ?_;rw [<- hf];dsimp only [Option.bind_some];cases jX _ _ 0 cY () <;> rfl
theorem opm {i:Nat} {x:Ft} (hx:cY[i]? = some x):Ga (((i + 1:Nat)):Int)=some ((),((x.1,()),()))/\Qf (((i + 1:Nat)):Int)=some ((),((x.2.1,()),())):=by
 have hlt:=ai hx;have h8:cY.length=8:=rfl;have:i=0∨i=1∨i=2∨i=3∨i=4∨i=5∨i=6∨i=7:=by omega
 rcases this with h | h | h | h | h | h | h | h <;> subst h <;> cases hx <;> exact ⟨rfl,rfl⟩
theorem NL (mti c:List UInt8) (hc:2<=c.length):KI mti c=some ((),((ej mti c,()),())):=by
 have hcut:dP 0 2 c=true:=jq (i:=2) hc;have h8:cY.length=8:=rfl;have h:=aI (step:=dn xE) cY (fun i (_:Unit)=>(mti,c,((i + 1:Nat):Int),())) (fun i x _=>bif CH mti c x then Sum.inr (.inr (((i + 1:Nat):Int),())) else .inl ()) (fun _=> .inl (mti,c,9,())) (a0:=()) (fun i x a hx=>by have hlt:=ai hx;show xE mti c ((i + 1:Nat):Int)=_;unfold xE CH;rw [(opm hx).1,(opm hx).2,show bH ((i + 1:Nat):Int) 8=true from decide_eq_true (by omega),aJ (by unfold aT; omega)];dsimp only [cond_true,Option.bind_some];rw [hcut];cases cr x.1 mti <;> cases cr x.2.1 (sub c 0 2) <;> rfl) (fun a=>rfl);have hf:=mZ (Y:=Sum (List UInt8×List UInt8×Int×Unit) (Int×Unit)) (CH mti c) (fun n=> .inr (1 + n,())) (.inl (mti,c,9,())) (fun y=>match y with | .inl _ => -1 | .inr z=>z.1 - 1) (fun n=>by show 1 + n - 1=n; omega) rfl cY 0;rw [show (fun (i:Nat) (x:Ft) (_:Unit)=>bif CH mti c x then (Sum.inr (Sum.inr (((i + 1:Nat):Int),())):Sum Unit (Sum (List UInt8×List UInt8×Int×Unit) (Int×Unit))) else .inl ())=fun i x _=>bif CH mti c x then .inr (.inr (1 + (i:Int),())) else .inl () from by funext i x _;rw [show ((i + 1:Nat):Int)=1 + (i:Int) by omega]] at h;unfold KI;have h':Iu mti c 1=_:=h;refine (bn h').trans ?_;unfold ej;rw [<- hf];dsimp only [Option.bind_some];have hneg:gz (CH mti c) 0 cY = -1∨0<=gz (CH mti c) 0 cY:=by
  rcases xR (CH mti c) cY 0 with h | h
  . exact Or.inl h
  . exact Or.inr h.1
 cases hg:jX (fun (i:Nat) (x:Ft) (_:Unit)=>bif CH mti c x then (Sum.inr (Sum.inr (1 + (i:Int),())):Sum Unit (Sum (List UInt8×List UInt8×Int×Unit) (Int×Unit))) else .inl ()) (fun _=> .inl (mti,c,9,())) 0 cY () with
 | inl y=>rfl
 | inr y => show some ((),((y.1,()),()))=some ((),((1 + (y.1 - 1),()),()));rw [show 1 + (y.1 - 1)=y.1 by omega]
def fv (m:cH) (no:Int):List UInt8:=(mc m no).getD []
def fs (m:cH) (no:Int):Bool:=(mc m no).isSome
theorem lr (m:cH) (no:Int):Dt (mc m no)=some ((),((fv m no,()),(fs m no,()),())):=by unfold Dt fv fs;cases mc m no <;> rfl
theorem uF {m:cH} {no:Int} (h:fs m no=false):fv m no=[]:=by
 unfold fs at h; unfold fv;cases hf:mc m no with
 | none=>rfl
 | some s=>rw [hf] at h; cases h
theorem Em {m:cH} {no:Int} {s:List UInt8} (h:mc m no=some s):∃ f∈m.2.1,f.1=no/\f.2.1=s:=by
 unfold mc at h;cases hf:m.2.1.find? fun f=>aq f.1 no with
 | none=>rw [hf] at h; cases h
 | some f => rw [hf] at h;refine ⟨f,List.mem_of_find?_eq_some hf,fZ.1 (by have:=List.find?_some hf; exact this),?_⟩;cases h; rfl
theorem lG {m:cH} (hb:qo m) (no:Int):(fv m no).length<=1048576:=by
 unfold fv;cases h:mc m no with
 | none=>exact Nat.zero_le _
 | some s => obtain ⟨f,h1,_,rfl⟩:=Em h;exact hb.2.2 f h1
theorem NT {m:cH} (h:xt m=true) {no:Int} {s:List UInt8} (hf:mc m no=some s):iZ no s=true:=by
 unfold xt at h;obtain ⟨f,h1,h2,h3⟩:=Em hf;obtain ⟨i,hi⟩:=List.mem_iff_getElem?.1 h1;cases hd:cond (aY m.1) (aq (ae m.1) 4) false with
 | false=>rw [hd] at h; cases h
 | true =>
   rw [hd] at h;have:=Ca (gi m.2.1) h hi;unfold gi at this;rw [h2,h3] at this;cases hk:iZ no s with
   | true=>rfl
   | false=>rw [hk] at this; cases this
theorem yt {m:cH} (h:xt m=true) {s:List UInt8} (hf:mc m 3=some s):2<=s.length:=by
 have:=NT h hf;have e:iZ 3 s=cond (aY s) (aq (ae s) 6) false:=rfl;rw [e] at this;cases hd:aY s with
 | false=>rw [hd] at this; cases this
 | true => rw [hd] at this;have:=fZ.1 (show aq (ae s) 6=true from this);have:(s.length:Int)=6:=this;omega
def SX (s:List UInt8):Int:=match xY s with | some n=>(n:Int) | none=>0
def nkM (s:List UInt8):Bool:=(xY s).isSome
theorem AA (s:List UInt8):Nz (xY s)=some ((),((SX s,()),(nkM s,()),())):=by unfold Nz SX nkM;cases xY s <;> rfl
def iT (m:cH) (op:Int):kD:=(op,fv m 2,cond (aq op 6) (fv m 103) [],cond (cond (dR op 1 8) (au op 7) false) (tw (fv m 38)) [],fv m 11,m.1,cond (dR op 1 4) (SX (fv m 4)) 0,cond (aq op 1) (SX (fv m 14)) 0,())
def Lb (m:cH) (op:Int):Bool:=cond (cond (dR op 1 4) (fs m 4) true) (cond (aq op 1) (fs m 14) true) false
def Gj (m:cH) (op:Int):kD×Int:=cond (Lb m op) (cond (qh (iT m op)) (iT m op,0) (hE,1)) (hE,1)
def kz (m:cH):kD×Int:=cond (xt m) (cond (yB m.1) (match mc m 3 with | none=>(hE,1) | some c=>Gj m (ej m.1 c)) (hE,2)) (hE,1)
def La (p:kD×Int):Option (Unit×(kD×(Int×Unit)×Unit)):=some ((),(p.1,(p.2,()),()))
theorem CY {m:cH} (hb:qo m) (op:Int):Ix (iT m op):=by
 refine ⟨lG hb 2,?_,?_,lG hb 11,hb.1⟩
 . show (cond (aq op 6) (fv m 103) []).length<=_;cases aq op 6 with
   | true=>exact lG hb 103
   | false=>exact Nat.zero_le _
 . show (cond (cond (dR op 1 8) (au op 7) false) (tw (fv m 38)) []).length<=_;cases cond (dR op 1 8) (au op 7) false with
   | true=>exact Nat.le_trans (K5 _) (lG hb 38)
   | false=>exact Nat.zero_le _
theorem abk (m:cH) (hb:qo m):MC m=La (kz m):=by
 unfold MC kz;rw [U5 m hb];cases hm:xt m with
 | false=>rfl
 | true =>
 have hk:RI m.1=some ((),((yB m.1,()),())):=rfl;dsimp only [Option.bind_some,Bool.not_true,cond_false];rw [hk];cases yB m.1 with
 | false=>rfl
 | true =>
 show Option.bind (j6 m 3) _=_;rw [vF m 3 hb];cases h3:mc m 3 with
 | none=>rfl
 | some c =>
 show Option.bind (KI m.1 c) _=_;rw [NL m.1 c (yt hm h3)];have f2:=(vF m 2 hb).trans (lr m 2);have f11:=(vF m 11 hb).trans (lr m 11);have f38:=(vF m 38 hb).trans (lr m 38);have f4:=(vF m 4 hb).trans (lr m 4);have f14:=(vF m 14 hb).trans (lr m 14);have f103:=(vF m 103 hb).trans (lr m 103);have b38:=Ro (fv m 38) (cD (lG hb 38));have n4:=(Ed (fv m 4) (cD (lG hb 4))).trans (AA _);have n14:=(Ed (fv m 14) (cD (lG hb 14))).trans (AA _);dsimp only [Option.bind_some];rw [f2,f11];dsimp only [Option.bind_some];have hop:=tJ m.1 c;generalize ej m.1 c=op at hop ⊢;have hq:=Tj (iT m op) (CY hb op);have hH:F4 op=some ((),((cond (dR op 1 8) (au op 7) false,()),())):=rfl;have hA:AH op=some ((),((dR op 1 4,()),())):=rfl;unfold Gj;generalize qh (iT m op)=z at hq ⊢;rw [hH,hA,f38,f4,f14,f103];dsimp only [Option.bind_some];rw [b38,n4,n14];dsimp only [Option.bind_some];unfold Lb;unfold iT at hq ⊢;generalize cond (dR op 1 8) (au op 7) false=c1 at hq ⊢;generalize dR op 1 4=c2 at hq ⊢;generalize aq op 1=c3 at hq ⊢;generalize aq op 6=c4 at hq ⊢;cases c1 <;> cases c2 <;> cases c3 <;> cases c4 <;> dsimp only [cond_true,cond_false] at hq ⊢ <;> rw [hq] <;> cases fs m 4 <;> cases fs m 14 <;> cases z <;> rfl
theorem SN {m:cH} {op:Int} (h:qh (iT m op)=true):fs m 2=true/\fs m 11=true/\(cond (dR op 1 8) (au op 7) false=true->fs m 38=true)/\(aq op 6=true->fs m 103=true):=by
 unfold qh iT at h;simp only [Bool.and_eq_true] at h;obtain ⟨⟨⟨⟨⟨⟨⟨⟨h1,_⟩,h2⟩,h3⟩,_⟩,h4⟩,_⟩,_⟩,h5⟩:=h;refine ⟨?_,?_,fun hc => ?_,fun hc => ?_⟩
 . cases hf:fs m 2 with
   | true=>rfl
   | false=>rw [uF hf] at h2; cases h2
 . cases hf:fs m 11 with
   | true=>rfl
   | false=>rw [uF hf] at h3; cases h3
 . cases hf:fs m 38 with
   | true=>rfl
   | false => rw [hc,uF hf] at h4;rw [h1] at hc;rw [show au op 7=true from hc] at h4;cases h4
 . cases hf:fs m 103 with
   | true=>rfl
   | false=>rw [hc,uF hf] at h5; cases h5
def lR (op:Int):List de:=cond (dR op 1 8) (gt ([],[],[],[],()) cY (op - 1)).2.2.2.1 []
def GQ (m:cH) (op:Int):Bool:=fs m 2 && (fs m 11 && (lR op).all fun x=>fs m x.1)
def OpC (op:Int):Prop:=op=0∨op=1∨op=2∨op=3∨op=4∨op=5∨op=6∨op=7∨op=8
theorem Jk (m:cH) (op:Int) (hop:OpC op):Gj m op=bif GQ m op then (bif qh (iT m op) then (iT m op,0) else (hE,1)) else (hE,1):=by
 have hz:= @SN m op;unfold Gj;generalize qh (iT m op)=z at hz ⊢;generalize iT m op=q at hz ⊢;cases z with
 | false=>cases GQ m op <;> cases Lb m op <;> rfl
 | true =>
   obtain ⟨h1,h2,h3,h4⟩:=hz rfl;unfold GQ Lb;rw [h1,h2];rcases hop with h | h | h | h | h | h | h | h | h <;> subst h
   . rfl
   . have:=h3 rfl;show (bif cond (fs m 4) (fs m 14) false then _ else _)=bif true && (true && (fs m 4 && (fs m 14 && (fs m 38 && true)))) then _ else _;rw [this];cases fs m 4 <;> cases fs m 14 <;> rfl
   . have:=h3 rfl;show (bif cond (fs m 4) true false then _ else _)=bif true && (true && (fs m 4 && (fs m 38 && true))) then _ else _;rw [this];cases fs m 4 <;> rfl
   . have:=h3 rfl;show (bif cond (fs m 4) true false then _ else _)=bif true && (true && (fs m 4 && (fs m 38 && true))) then _ else _;rw [this];cases fs m 4 <;> rfl
   . have:=h3 rfl;show (bif cond (fs m 4) true false then _ else _)=bif true && (true && (fs m 4 && (fs m 38 && true))) then _ else _;rw [this];cases fs m 4 <;> rfl
   . have:=h3 rfl;show _=bif true && (true && (fs m 38 && true)) then _ else _;rw [this]; rfl
   . have:=h3 rfl;have h6:=h4 rfl;show _=bif true && (true && (fs m 38 && (fs m 103 && true))) then _ else _;rw [this,h6]; rfl
   . rfl
   . rfl
def LC (m:cH) (no:Int) (q:kD):kD :=
 cond (aq no 2) (q.1,fv m no,q.2.2.1,q.2.2.2.1,q.2.2.2.2.1,q.2.2.2.2.2.1,q.2.2.2.2.2.2.1,q.2.2.2.2.2.2.2.1,())
  (cond (aq no 4) (q.1,q.2.1,q.2.2.1,q.2.2.2.1,q.2.2.2.2.1,q.2.2.2.2.2.1,SX (fv m no),q.2.2.2.2.2.2.2.1,())
    (cond (aq no 11) (q.1,q.2.1,q.2.2.1,q.2.2.2.1,fv m no,q.2.2.2.2.2.1,q.2.2.2.2.2.2.1,q.2.2.2.2.2.2.2.1,())
      (cond (aq no 14) (q.1,q.2.1,q.2.2.1,q.2.2.2.1,q.2.2.2.2.1,q.2.2.2.2.2.1,q.2.2.2.2.2.2.1,SX (fv m no),())
        (cond (aq no 38) (q.1,q.2.1,q.2.2.1,tw (fv m no),q.2.2.2.2.1,q.2.2.2.2.2.1,q.2.2.2.2.2.2.1,q.2.2.2.2.2.2.2.1,())
          (cond (aq no 103) (q.1,q.2.1,fv m no,q.2.2.2.1,q.2.2.2.2.1,q.2.2.2.2.2.1,q.2.2.2.2.2.2.1,q.2.2.2.2.2.2.2.1,()) q)))))
def J3 (m:cH):List de->kD->Option kD
 | [],q=>some q
 | x :: r,q=>bif fs m x.1 then J3 m r (LC m x.1 q) else none
def VM (xs:List de) (n:Int) (m:cH):Option kD->Sum (List de×Int×Int×cH×kD×kD×Unit) (Int×kD×Unit)
 | some q=> .inl (xs,n,n,m,hE,q,())
 | none=> .inr (1,hE,())
theorem EZ (m:cH) (ys:List de) (n:Int):∀ (xs:List de) (i:Nat) (q:kD),jX (fun _ x q=>bif fs m x.1 then Sum.inl (LC m x.1 q) else .inr (.inr (1,hE,()))) (fun q=> .inl (ys,n,n,m,hE,q,())) i xs q=VM ys n m (J3 m xs q)
 | [],_,_=>rfl
 | x :: r,i,q=>by
   rw [jX,J3];cases fs m x.1 with
   | false=>rfl
   | true=>exact EZ m ys n r (i + 1) _
theorem My (m:cH) (hb:qo m) (xs:List de) (hx:xs.length<=10) (q0:kD):KA xs (ae xs) 0 m hE q0=some (VM xs (ae xs) m (J3 m xs q0)):=by
 have h:=aI (step:=Ex nY) xs (fun i (q:kD)=>(xs,ae xs,((i:Nat):Int),m,hE,q,())) (fun _ x q=>bif fs m x.1 then Sum.inl (LC m x.1 q) else .inr (.inr (1,hE,()))) (fun q=> .inl (xs,ae xs,ae xs,m,hE,q,())) (a0:=q0) (fun i x q hx=>by
  have hlt:=ai hx;show nY xs (ae xs) (i:Int) m hE q=_;unfold nY;rw [aD hx,az hx,aV _ hx,aJ (by unfold aT; omega)];dsimp only [cond_true];rw [Pn m x.1 hb,lr];dsimp only [Option.bind_some];rw [(Ps (fv m x.1) (cD (lG hb x.1))).trans (AA _),QA (fv m x.1) (cD (lG hb x.1))];unfold LC;cases fs m x.1 with
  | false=>rfl
  | true=>cases aq x.1 2 <;> cases aq x.1 4 <;> cases aq x.1 11 <;> cases aq x.1 14 <;> cases aq x.1 38 <;> cases aq x.1 103 <;> rfl) (fun q=>by
  show nY xs (ae xs) (xs.length:Int) m hE q=_;unfold nY;rw [aw rfl]; rfl)
 rw [EZ] at h;exact h
theorem ML (m:cH) (op:Int) (hop:OpC op):J3 m ((2,()) :: (11,()) :: lR op) (op,[],[],[],[],m.1,0,0,())=bif GQ m op then some (iT m op) else none:=by
 unfold GQ;rcases hop with h | h | h | h | h | h | h | h | h <;> subst h
 . show (bif fs m 2 then (bif fs m 11 then some (iT m 0) else none) else none)=bif fs m 2 && (fs m 11 && true) then _ else _;cases fs m 2 <;> cases fs m 11 <;> rfl
 . show (bif fs m 2 then (bif fs m 11 then (bif fs m 4 then (bif fs m 14 then (bif fs m 38 then some (iT m 1) else none) else none) else none) else none) else none)=bif fs m 2 && (fs m 11 && (fs m 4 && (fs m 14 && (fs m 38 && true)))) then _ else _;cases fs m 2 <;> cases fs m 11 <;> cases fs m 4 <;> cases fs m 14 <;> cases fs m 38 <;> rfl
 . show (bif fs m 2 then (bif fs m 11 then (bif fs m 4 then (bif fs m 38 then some (iT m 2) else none) else none) else none) else none)=bif fs m 2 && (fs m 11 && (fs m 4 && (fs m 38 && true))) then _ else _;cases fs m 2 <;> cases fs m 11 <;> cases fs m 4 <;> cases fs m 38 <;> rfl
 . show (bif fs m 2 then (bif fs m 11 then (bif fs m 4 then (bif fs m 38 then some (iT m 3) else none) else none) else none) else none)=bif fs m 2 && (fs m 11 && (fs m 4 && (fs m 38 && true))) then _ else _;cases fs m 2 <;> cases fs m 11 <;> cases fs m 4 <;> cases fs m 38 <;> rfl
 . show (bif fs m 2 then (bif fs m 11 then (bif fs m 4 then (bif fs m 38 then some (iT m 4) else none) else none) else none) else none)=bif fs m 2 && (fs m 11 && (fs m 4 && (fs m 38 && true))) then _ else _;cases fs m 2 <;> cases fs m 11 <;> cases fs m 4 <;> cases fs m 38 <;> rfl
 . show (bif fs m 2 then (bif fs m 11 then (bif fs m 38 then some (iT m 5) else none) else none) else none)=bif fs m 2 && (fs m 11 && (fs m 38 && true)) then _ else _;cases fs m 2 <;> cases fs m 11 <;> cases fs m 38 <;> rfl
 . show (bif fs m 2 then (bif fs m 11 then (bif fs m 38 then (bif fs m 103 then some (iT m 6) else none) else none) else none) else none)=bif fs m 2 && (fs m 11 && (fs m 38 && (fs m 103 && true))) then _ else _;cases fs m 2 <;> cases fs m 11 <;> cases fs m 38 <;> cases fs m 103 <;> rfl
 . show (bif fs m 2 then (bif fs m 11 then some (iT m 7) else none) else none)=bif fs m 2 && (fs m 11 && true) then _ else _;cases fs m 2 <;> cases fs m 11 <;> rfl
 . show (bif fs m 2 then (bif fs m 11 then some (iT m 8) else none) else none)=bif fs m 2 && (fs m 11 && true) then _ else _;cases fs m 2 <;> cases fs m 11 <;> rfl
theorem JE (op:Int) (hop:OpC op):∃ a b c,Af op=some ((),((a,b,c,lR op,()),()))/\(lR op).length<=3:=by rcases hop with h | h | h | h | h | h | h | h | h <;> subst h <;> exact ⟨_,_,_,rfl,by decide⟩
theorem Ye (m:cH) (hb:qo m):Oe m=La (kz m):=by
 unfold Oe kz;rw [V9 m hb];cases hm:xt m with
 | false=>rfl
 | true =>
 have hk:Rm m.1=some ((),((yB m.1,()),())):=rfl;dsimp only [Option.bind_some,Bool.not_true,cond_false];rw [hk];cases yB m.1 with
 | false=>rfl
 | true =>
 show Option.bind (G4 m 3) _=_;rw [Pn m 3 hb];cases h3:mc m 3 with
 | none=>rfl
 | some c =>
 have hr:L3=some ((),((cY,()),())):=rfl;unfold Dt;dsimp only [Option.bind_some,Bool.not_true,cond_false];rw [hr];dsimp only [Option.bind_some];refine (bn (Oc m c (yt hm h3) (c,()) rfl)).trans ?_;have hop:=tJ m.1 c;have hw:aj .i64 1 (gz (CH m.1 c) 0 cY)=ej m.1 c:=by unfold ej at hop ⊢;exact ay (by omega) (by omega)
 dsimp only [Option.bind_some];rw [hw];generalize ej m.1 c=op at hop ⊢;obtain ⟨a1,a2,a3,hf,hfl⟩:=JE op hop;rw [hf];dsimp only [Option.bind_some];have hfit:bY 8 [((2:Int),()),(11,())] (lR op)=true:=Nat.ble_eq_true_of_le (by show (2 + (lR op).length) * 8<=140737488355328; omega);rw [hfit];refine (bn (My m hb ((2,()) :: (11,()) :: lR op) (by simp only [List.length_cons]; omega) (op,[],[],[],[],m.1,0,0,()))).trans ?_;rw [ML m op hop];show _=La (Gj m op);rw [Jk m op hop];cases GQ m op with
 | false=>rfl
 | true => refine (bn (V0 (iT m op) (CY hb op))).trans ?_;cases qh (iT m op) <;> rfl
def C7 (b:aW):List qE:=match kr b with
 | (m,c)=>bif aq c 0 then (match kz m with | (q,d)=>bif aq d 0 then (bif aq q.1 6 && !(cr q.2.2.1 q.2.1) then (bif kj q.2.2.1 q.2.1 then [(q.2.2.1,()),(q.2.1,())] else [(q.2.1,()),(q.2.2.1,())]) else [(q.2.1,())]) else []) else []
theorem E2 {b:aW}:∀ {nos:aW} {a:Nat} {o l:List p9} {e:Nat},a<=b.length->(∀ f∈o,f.2.1.length<=1048576)->lh b nos a o=some (l,e)->l.length=o.length + nos.length/\∀ f∈l,f.2.1.length<=1048576
 | [],_,_,_,_,_,ho,h=>by cases h;exact ⟨rfl,ho⟩
 | x :: r,a,o,l,e,ha,ho,h=>by
   rw [lh] at h;cases hg:nH b a x.1 with
   | none=>rw [hg] at h; cases h
   | some p =>
     rw [hg] at h;obtain ⟨_,h2,h3⟩:=se ha hg;obtain ⟨k1,k2⟩:=E2 (nos:=r) h3 (fun f hf=>by
      rcases List.mem_append.1 hf with h | h
      . exact ho f h
      . rcases List.mem_singleton.1 h with rfl
        exact Nat.le_trans h2 (by omega)) h
     refine ⟨?_,k2⟩;rw [k1,List.length_append];simp only [List.length_cons,List.length_nil];omega
theorem wO (b:aW):qo (kr b).1:=by
 have h0:qo ([],[],()):=⟨Nat.zero_le _,Nat.zero_le _,fun f hf=>by cases hf⟩;unfold kr;cases hc:jc b 0 4 with
 | none=>exact h0
 | some mti =>
   cases hn:BU b with
   | none=>exact h0
   | some p =>
     obtain ⟨nos,a⟩:=p;obtain ⟨n1,n2⟩:=A6 hn;dsimp only;cases hf:lh b nos a [] with
     | none=>exact h0
     | some q =>
       obtain ⟨l,e⟩:=q;obtain ⟨k1,k2⟩:=E2 n2 (fun f hf=>by cases hf) hf;dsimp only;split
       . refine ⟨?_,?_,k2⟩
         . show mti.length<=_;rw [(dT hc).2.1]; omega
         . show l.length<=_;rw [k1]; simp only [List.length_nil]; exact Nat.le_trans (Nat.le_of_eq (Nat.zero_add _)) (Nat.le_trans n1 (by omega))
       . exact h0
theorem N8 {m:cH} (hb:qo m):Ix (kz m).1:=by
 have h0:Ix hE:=⟨Nat.zero_le _,Nat.zero_le _,Nat.zero_le _,Nat.zero_le _,Nat.zero_le _⟩;unfold kz Gj;cases xt m with
 | false=>exact h0
 | true =>
 cases yB m.1 with
 | false=>exact h0
 | true =>
 cases mc m 3 with
 | none=>exact h0
 | some c =>
 dsimp only [cond_true];cases Lb m (ej m.1 c) with
 | false=>exact h0
 | true =>
   dsimp only [cond_true];cases qh (iT m (ej m.1 c)) with
   | false=>exact h0
   | true=>exact CY hb _
theorem P9 (b:aW):G7 (C7 b):=by
 have h1:=N8 (wO b);have h0:G7 []:=⟨Nat.zero_le _,fun x hx=>by cases hx⟩;unfold C7;generalize kr b=p at h1 ⊢;obtain ⟨m,c⟩:=p;dsimp only at h1 ⊢;cases aq c 0 with
 | false=>exact h0
 | true =>
 generalize kz m=r at h1 ⊢;obtain ⟨q,d⟩:=r;dsimp only [cond_true] at h1 ⊢;have two:∀ x y:List UInt8,x.length<=1048576->y.length<=1048576->G7 [(x,()),(y,())]:=fun x y hx hy=>⟨Nat.le_refl _,fun z hz=>by
  rcases List.mem_cons.1 hz with rfl | hz
  . exact hx
  . rcases List.mem_singleton.1 hz with rfl
    exact hy⟩
 cases aq d 0 with
 | false=>exact h0
 | true =>
   dsimp only [cond_true];cases aq q.1 6 && !(cr q.2.2.1 q.2.1) with
   | false=>exact ⟨Nat.le_succ 1,fun z hz=>by rcases List.mem_singleton.1 hz with rfl; exact h1.1⟩
   | true =>
     dsimp only [cond_true];cases kj q.2.2.1 q.2.1 with
     | true=>exact two _ _ h1.2.1 h1.1
     | false=>exact two _ _ h1.1 h1.2.1
theorem Wr (b:aW) (hb:yl b):MT b=some ((),((C7 b,()),())):=by
 unfold MT C7;rw [TY b hb];have hm:=wO b;unfold GN;generalize kr b=p at hm ⊢;obtain ⟨m,c⟩:=p;dsimp only [Option.bind_some] at hm ⊢;cases aq c 0 with
 | false=>rfl
 | true =>
   dsimp only [Bool.not_true,cond_false,cond_true];rw [abk m hm];unfold La;generalize kz m=r;obtain ⟨q,d⟩:=r;dsimp only [Option.bind_some];cases aq d 0 with
   | false=>rfl
   | true => dsimp only [Bool.not_true,cond_false,cond_true];cases aq q.1 6 <;> cases cr q.2.2.1 q.2.1 <;> cases kj q.2.2.1 q.2.1 <;> rfl
theorem D7 {a b:List UInt8}:cr a b=true↔a=b:=by simp [cr]
theorem Wz (b:aW) (hb:yl b):LS b=some ((),((C7 b,()),())):=by
 unfold LS C7;rw [Uy b hb];have hm:=wO b;unfold GN;generalize kr b=p at hm ⊢;obtain ⟨m,c⟩:=p;dsimp only [Option.bind_some] at hm ⊢;rw [Ye m hm];unfold La;generalize kz m=r;obtain ⟨q,d⟩:=r;dsimp only [Option.bind_some];cases aq c 0 with
 | false=>rfl
 | true =>
 cases aq d 0 with
 | false=>rfl
 | true =>
 dsimp only [Bool.not_true,cond_false,cond_true];cases aq q.1 6 with
 | false => dsimp only [cond_false,Bool.false_and];rw [Nn]; rfl
 | true =>
   show Option.bind (Cm [(q.2.1,()),(q.2.2.1,())]) _=_;rw [M9];unfold SU;dsimp only [Option.bind_some,Bool.true_and];cases he:cr q.2.2.1 q.2.1 with
   | true => have e:=D7.1 he;rw [e,zL];dsimp only [cond_false];rw [zH,cU]; rfl
   | false =>
     cases hc:kj q.2.2.1 q.2.1 with
     | true =>
       dsimp only [cond_true];rw [zH];have:cr q.2.1 q.2.2.1=false:=by
        cases h:cr q.2.1 q.2.2.1 with
        | false=>rfl
        | true=>rw [D7.1 h,cU] at he; cases he
       dsimp only;rw [this]; rfl
     | false => dsimp only [cond_false];rw [zH];dsimp only;rw [he]; rfl
def qk (b:aW) (n:Int):List de:=vY n (C7 b)
abbrev cR:=aW×Int×List de×Int×Int×Int×Int×Int×aW×Unit
def nR (t:cR):Prop:=yl t.1/\t.2.2.1.length<=1048576/\t.2.2.2.2.2.2.2.2.1.length<=1048576
def FO (a b:List de):Bool:=cond (aq (ae a) (ae b)) (allI (fun i x=>aq x.1 (gt (0,()) b (i:Int)).1) 0 a) false
theorem PG (a b:List de) (hs:a.length<=1048576):Oh a b=some ((),((FO a b,()),())):=by
 unfold Oh FO;dsimp only;cases he:aq (ae a) (ae b) with
 | false=>rfl
 | true =>
   have hl:a.length=b.length:=by have:=fZ.1 he; unfold ae at this; omega
   have h:=aI (step:=cV pn) a (fun i (_:Unit)=>(a,b,ae a,((i:Nat):Int),())) (fun i x _=>bif aq x.1 (gt (0,()) b (i:Int)).1 then Sum.inl () else .inr (.inr (false,()))) (fun _=> .inl (a,b,ae a,(a.length:Int),())) (a0:=()) (fun i x u hx=>by
    have hlt:=ai hx;show pn a b (ae a) (i:Int)=_;unfold pn;rw [aD hx,az hx,aV _ hx,aJ (by unfold aT; omega),ln (xs:=b) (by omega)];dsimp only [cond_true];show cond (!(aq x.1 (gt (0,()) b (i:Int)).1)) _ _=_;cases aq x.1 (gt (0,()) b (i:Int)).1 <;> rfl) (fun u=>by
    show pn a b (ae a) (a.length:Int)=_;unfold pn;rw [aw rfl]; rfl)
   rw [cN] at h;refine (bn h).trans ?_;dsimp only [cond_true];cases allI _ 0 a <;> rfl
theorem Wv (a b:List de) (hs:a.length<=1048576):RN a b=some ((),((FO a b,()),())):=PG a b hs
theorem Qo (t:cR) (n:Int) (hb:nR t):W9 t n=some ((),((qk t.1 n,()),())):=by unfold W9 qk;rw [Wr _ hb.1];dsimp only [Option.bind_some];rw [Qw _ n (P9 t.1)]; rfl
theorem QC (t:cR) (n:Int) (hb:nR t):WZ t n=some ((),((qk t.1 n,()),())):=by unfold WZ qk;rw [Wz _ hb.1];dsimp only [Option.bind_some];rw [Q4 _ n (P9 t.1)]; rfl
def Ci (t:cR):Bool:=cond (aq t.2.1 1) (cond (bH 0 t.2.2.2.1) (au t.2.2.2.1 (ae t.2.2.1)) false) (cond (aq t.2.1 2) (cond (aq t.2.2.2.1 (ae t.2.2.1)) (au 0 (ae t.2.2.1)) false) (cond (aq t.2.1 3) (dR t.2.2.2.1 1 (ae t.2.2.1)) (aq t.2.2.2.1 0)))
def Ql (t:cR):Bool:=cond (bH t.2.1 2) (cond (cond (cond (aq t.2.2.2.2.2.1 (-1)) (aq t.2.2.2.2.2.2.1 (-1)) false) (aq t.2.2.2.2.2.2.2.1 0) false) (aq (ae t.2.2.2.2.2.2.2.2.1) 0) false) (cond (cond (!dv t.2.2.2.2.2.1) true (au t.2.2.2.2.2.1 t.2.2.2.2.1)) false (cond (aq t.2.1 5) (cond (dv t.2.2.2.2.2.2.1) (bH t.2.2.2.2.2.1 t.2.2.2.2.2.2.1) false) (aq t.2.2.2.2.2.2.1 (-1))))
def tQ (t:cR) (n:Int):Bool:=cond (cond (cond (!dR n 1 5) true (au 300 (ae t.1))) true (au 200 (ae t.2.2.2.2.2.2.2.2.1))) false (cond (dv t.2.2.2.2.1) (cond (dv t.2.2.2.2.2.2.2.1) (cond (dR t.2.1 0 5) (cond (Ci t) (cond (cond (aq t.2.1 0) (au 0 (ae t.2.2.1)) false) false (cond (cond (!(aq t.2.1 0)) (FO t.2.2.1 (qk t.1 n)) true) (Ql t) false)) false) false) false) false)
theorem R8 (t:cR) (n:Int) (hb:nR t):XA t n=some ((),((tQ t n,()),())):=by
 have hn:=Qo t n hb;have he:=PG t.2.2.1 (qk t.1 n) hb.2.1;have hh:N9 t=some ((),((Ci t,()),())):=by unfold N9 Ci;dsimp only;rw [lX];cases aq t.2.1 1 <;> cases aq t.2.1 2 <;> cases aq t.2.1 3 <;> rfl
 unfold XA;dsimp only;rw [lX,lu,lu,lX,hh,hn];dsimp only [Option.bind_some];rw [he,lu,lu];dsimp only [Option.bind_some];unfold tQ Ql;generalize Ci t=c1;generalize FO t.2.2.1 (qk t.1 n)=c2;generalize dR n 1 5=c3;generalize dR t.2.1 0 5=c4;generalize au 300 (ae t.1)=c5;generalize au 200 (ae t.2.2.2.2.2.2.2.2.1)=c6;generalize dv t.2.2.2.2.1=c7;generalize dv t.2.2.2.2.2.2.2.1=c8;generalize dv t.2.2.2.2.2.1=c9;generalize dv t.2.2.2.2.2.2.1=ca;generalize bH t.2.1 2=cb;generalize aq t.2.1 0=cc;generalize aq t.2.1 5=cd;generalize au 0 (ae t.2.2.1)=ce;cases c3 <;> first | rfl | skip
 cases c5 <;> first | rfl | skip
 cases c6 <;> first | rfl | skip
 cases c7 <;> first | rfl | skip
 cases c8 <;> first | rfl | skip
 cases c4 <;> first | rfl | skip
 cases c1 <;> first | rfl | skip
 cases cc <;> cases ce <;> cases c2 <;> first | rfl | skip
 all_goals (cases cb <;> first | rfl | skip)
 all_goals (cases c9 <;> first | rfl | skip)
 all_goals (cases au t.2.2.2.2.2.1 t.2.2.2.2.1 <;> cases cd <;> cases ca <;> rfl)
theorem U7 {α:Type} {h:Int} {xs:List α} (hs:xs.length<=1048576):dR h 0 (aM .i64 (ae xs) 1)=cond (bH 0 h) (au h (ae xs)) false:=by
 unfold ae;rw [aS (by omega) (by omega)];unfold dR;have:bH h ((xs.length:Int) - 1)=au h (xs.length:Int):=by unfold bH au;exact decide_eq_decide.2 (by omega)
 rw [this]
theorem Ct {pc:Int} (h:dR pc 0 5=true):pc=0∨pc=1∨pc=2∨pc=3∨pc=4∨pc=5:=by have:=gM.1 h;omega
theorem SJ (t:cR) (n:Int) (hb:nR t):Uz t n=some ((),((tQ t n,()),())):=by
 obtain ⟨d,pc,st,held,inv,lin,res,at',rep,u⟩:=t;have hn:=QC (d,pc,st,held,inv,lin,res,at',rep,u) n hb;have he:=Wv st (qk d n) hb.2.1;have hl:= @U7 _ held st hb.2.1;cases hpc:dR pc 0 5 with
 | false =>
   have hp:UE pc=some ((),(([],()),())):=by unfold UE;rw [jY,hpc]; rfl
   unfold Uz tQ;dsimp only;rw [jY,hp];dsimp only [Option.bind_some];rw [hpc];cases dR n 1 5 <;> first | rfl | skip
   cases au 300 (ae d) <;> cases au 200 (ae rep) <;> cases dv inv <;> cases dv at' <;> rfl
 | true =>
   have hp:∃ nm,UE pc=some ((),((nm,()),()))/\cr nm []=false:=by rcases Ct hpc with h | h | h | h | h | h <;> subst h <;> exact ⟨_,rfl,rfl⟩
   obtain ⟨nm,hp,hne⟩:=hp;unfold Uz tQ Ci Ql;dsimp only;rw [jY,hp];dsimp only [Option.bind_some];rw [hne,lU,lU,lU,lU,jY,jY,hn,hl,hpc];dsimp only [Option.bind_some];rw [he];dsimp only [Option.bind_some];generalize FO st (qk d n)=c2;generalize dR n 1 5=c3;generalize au 300 (ae d)=c5;generalize au 200 (ae rep)=c6;generalize dv inv=c7;generalize dv at'=c8;generalize dv lin=c9;generalize dv res=ca;generalize dR held 1 (ae st)=cg;generalize au 0 (ae st)=ce;generalize aq held (ae st)=ch;generalize bH 0 held=ci;generalize au held (ae st)=cj;generalize aq held 0=ck;cases c3 <;> first | rfl | skip
   cases c5 <;> first | rfl | skip
   cases c6 <;> first | rfl | skip
   cases c7 <;> first | rfl | skip
   cases c8 <;> first | rfl | skip
   clear hp hn he hl;rcases Ct hpc with h | h | h | h | h | h <;> subst h
   . simp only [show aq (0:Int) 0=true from rfl,show aq (0:Int) 1=false from rfl,show aq (0:Int) 2=false from rfl,show aq (0:Int) 3=false from rfl,show au (0:Int) 3=true from rfl,show bH (0:Int) 2=true from rfl,cond_true,cond_false,Bool.not_true,Bool.not_false];cases ce <;> cases ck <;> rfl
   . simp only [show aq (1:Int) 0=false from rfl,show aq (1:Int) 1=true from rfl,show au (1:Int) 3=true from rfl,show bH (1:Int) 2=true from rfl,cond_true,cond_false,Bool.not_true,Bool.not_false];cases c2 <;> cases ci <;> cases cj <;> rfl
   . simp only [show aq (2:Int) 0=false from rfl,show aq (2:Int) 1=false from rfl,show aq (2:Int) 2=true from rfl,show au (2:Int) 3=true from rfl,show bH (2:Int) 2=true from rfl,cond_true,cond_false,Bool.not_true,Bool.not_false];cases c2 <;> cases ch <;> cases ce <;> rfl
   . simp only [show aq (3:Int) 0=false from rfl,show aq (3:Int) 1=false from rfl,show aq (3:Int) 2=false from rfl,show aq (3:Int) 3=true from rfl,show aq (3:Int) 5=false from rfl,show au (3:Int) 3=false from rfl,show bH (3:Int) 2=false from rfl,cond_true,cond_false,Bool.not_true,Bool.not_false];cases c2 <;> cases cg <;> cases c9 <;> cases au lin inv <;> rfl
   . simp only [show aq (4:Int) 0=false from rfl,show aq (4:Int) 1=false from rfl,show aq (4:Int) 2=false from rfl,show aq (4:Int) 3=false from rfl,show aq (4:Int) 5=false from rfl,show au (4:Int) 3=false from rfl,show bH (4:Int) 2=false from rfl,cond_true,cond_false,Bool.not_true,Bool.not_false];cases c2 <;> cases ck <;> cases c9 <;> cases au lin inv <;> rfl
   . simp only [show aq (5:Int) 0=false from rfl,show aq (5:Int) 1=false from rfl,show aq (5:Int) 2=false from rfl,show aq (5:Int) 3=false from rfl,show aq (5:Int) 5=true from rfl,show au (5:Int) 3=false from rfl,show bH (5:Int) 2=false from rfl,cond_true,cond_false,Bool.not_true,Bool.not_false];cases c2 <;> cases ck <;> cases c9 <;> cases au lin inv <;> cases ca <;> rfl
theorem CE {α:Type} (p:α->Bool):∀ (xs:List α) (i:Nat),bH 0 (gz p i xs)=xs.any p
 | [],_=>rfl
 | x :: r,i=>by
   rw [gz,List.any_cons];cases p x with
   | true=>exact decide_eq_true (by show (0:Int)<=(i:Int); omega)
   | false=>exact CE p r (i + 1)
theorem A8 (a b:Int):aq a b=aq b a:=by unfold aq;exact Bool.beq_comm
def Gv (v:Int) (xs:List de):Bool:=xs.any fun y=>aq v y.1
theorem zk {α Y:Type} (p:α->Bool) (y:Y) (z:Y):∀ (xs:List α) (i:Nat),jX (fun _ x (_:Unit)=>bif p x then Sum.inr y else .inl ()) (fun _=>z) i xs ()=bif xs.any p then y else z
 | [],_=>rfl
 | x :: r,i=>by
   rw [jX,List.any_cons];cases p x with
   | true=>rfl
   | false=>exact zk p y z r (i + 1)
theorem PY (xs:List de) (v:Int) (hs:xs.length<=1048576):Rc xs v=some ((),((Gv v xs,()),())):=by rw [xG xs v hs,CE]; rfl
theorem Vb (xs:List de) (v:Int) (hs:xs.length<=1048576):Me xs v=some ((),((Gv v xs,()),())):=by
 have h:=aI (step:=cV oB) xs (fun i (_:Unit)=>(v,xs,ae xs,((i:Nat):Int),())) (fun _ x _=>bif aq v x.1 then Sum.inr (.inr (true,())) else .inl ()) (fun _=> .inl (v,xs,ae xs,(xs.length:Int),())) (a0:=()) (fun i x u hx=>by
  have hlt:=ai hx;show oB v xs (ae xs) (i:Int)=_;unfold oB;rw [aD hx,az hx,aV _ hx,aJ (by unfold aT; omega),A8 x.1 v];cases aq v x.1 <;> rfl) (fun u=>by
  show oB v xs (ae xs) (xs.length:Int)=_;unfold oB;rw [aw rfl]; rfl)
 rw [zk] at h;unfold Me;refine (bn h).trans ?_;unfold Gv;cases xs.any fun y=>aq v y.1 <;> rfl
def sF (t:cR):Nat:=min t.2.2.2.1.toNat t.2.2.1.length
def Gk (t:cR) (k:Int):Bool:=Gv k (t.2.2.1.take (sF t))
theorem VG (t:cR) (k:Int) (hb:nR t):XE t k=some ((),((Gk t k,()),())):=by
 have hs:=hb.2.1;have hle:sF t<=t.2.2.1.length:=Nat.min_le_right _ _;have hl:(t.2.2.1.take (sF t)).length=sF t:=by rw [List.length_take]; omega
 have h:=aI (step:=dn vV) (t.2.2.1.take (sF t)) (fun i (_:Unit)=>(k,((i:Nat):Int),t,())) (fun _ x _=>bif aq k x.1 then Sum.inr (.inr (true,())) else .inl ()) (fun _=> .inl (k,((sF t:Nat):Int),t,())) (a0:=()) (fun i x u hx=>by
  have hlt:=ai hx;rw [hl] at hlt;rw [List.getElem?_take,if_pos hlt] at hx;have h1:i < t.2.2.2.1.toNat:=Nat.lt_of_lt_of_le hlt (Nat.min_le_left _ _);show vV k (i:Int) t=_;unfold vV;rw [aF (show (i:Int) < t.2.2.2.1 by omega),aD hx,az hx,aV _ hx,aJ (by unfold aT; omega),A8 x.1 k];cases aq k x.1 <;> rfl) (fun u=>by
  rw [hl];show vV k ((sF t:Nat):Int) t=_;unfold vV;have:cond (au ((sF t:Nat):Int) t.2.2.2.1) (au ((sF t:Nat):Int) (ae t.2.2.1)) false=false:=by
   unfold sF;rcases Nat.le_total t.2.2.2.1.toNat t.2.2.1.length with h | h
   . rw [Nat.min_eq_left h,ax (by omega)]; rfl
   . rw [Nat.min_eq_right h,aw rfl]; cases au _ _ <;> rfl
  rw [this]; rfl)
 rw [zk] at h;unfold XE;refine (bn h).trans ?_;unfold Gk Gv;cases List.any _ _ <;> rfl
theorem TS (t:cR) (k:Int) (hb:nR t):Xq t k=some ((),((Gk t k,()),())):=by
 have hs:=hb.2.1;have hle:sF t<=t.2.2.1.length:=Nat.min_le_right _ _;have hu:Fz 0 (Hj t.2.2.2.1 (ae t.2.2.1))=((sF t:Nat):Int):=by unfold Fz Hj sF ae;split <;> split <;> omega
 unfold Xq;dsimp only;rw [hu,jq hle,qG,PY _ k (by rw [List.length_take]; omega)]; rfl
noncomputable def uc (l:List er):List aO:=open Classical in if h:∃ M,lL dD M/\ez dD (fD l) M then Classical.choose h else []
theorem C2 {l:List er} (hB:sy l):(uc l).length=(fD l).length/\(∀ x∈uc l,x∈fD l)/\lL dD (uc l)/\ez dD (fD l) (uc l)/\Pm l=some ((),((uc l,()),()))/\Ri l=some ((),((uc l,()),())):=by
 obtain ⟨M,⟨m1,m2⟩,m3⟩:=Bk l hB;obtain ⟨M',p0,p1,p2,p3,p4⟩:=Ho l hB;have e0:M=M':=by have h:=m3.symm.trans p3;simp only [Option.some.injEq,Prod.mk.injEq,true_and,and_true] at h;exact h
 subst e0;have hex:∃ M,lL dD M/\ez dD (fD l) M:=⟨M,m1,m2⟩;have e:uc l=M:=by unfold uc;rw [dif_pos hex];exact qZ fw (Classical.choose_spec hex).1 m1 ((Classical.choose_spec hex).2.symm.trans m2)
 rw [e];exact ⟨p0,p1,m1,m2,p3,p4⟩
theorem PW {l:List er} (hB:sy l):Ez (uc l):=by obtain ⟨h1,h2,_⟩:=C2 hB;refine ⟨by rw [h1]; exact hB.2.1,fun a ha => ?_⟩;have:=h2 a ha;unfold fD at this;obtain ⟨xs,hx,hm⟩:=List.mem_flatten.1 this;obtain ⟨s,hs,rfl⟩:=List.mem_map.1 hx;exact hB.2.2 s hs a hm
def qj (n k:Int) (xs:List aO) (i:Nat) (a:aO):Bool:=cond (aq (aG a.1 n) k) (cond (decide (0 < i)) (kj (gt d59 xs ((i:Int) - 1)).1 a.1) true) false
def DC (n k:Int) (xs:List aO):Bool:=allI (qj n k xs) 0 xs
def jS (n:Int) (k:Nat) (s:er):Bool:=cond (dR s.1 (-1) 11) (DC n (k:Int) s.2.1) false
noncomputable def Dm (l:List er):Bool:=cond (dR (ae l) 1 5) (cond (allI (jS (ae l)) 0 l) (Bn (uc l)) false) false
theorem UJ (l t11:List er) (k t12 t13:Int) (s:er) (hl:l.length<=1048576) (hs:s.2.1.length<=1048576) (hb:∀ a∈s.2.1,iX a):Ox l k t11 t12 t13 s.2.1 (ae s.2.1) 0 s=some (bif DC (ae l) k s.2.1 then .inl (l,k,t11,t12,t13,s.2.1,ae s.2.1,(s.2.1.length:Int),s,()) else .inr (false,())):=by
 have h:=aI (step:=Dl wT) s.2.1 (fun i (_:Unit)=>(l,k,t11,t12,t13,s.2.1,ae s.2.1,((i:Nat):Int),s,())) (fun i x _=>bif qj (ae l) k s.2.1 i x then Sum.inl () else .inr (.inr (false,()))) (fun _=> .inl (l,k,t11,t12,t13,s.2.1,ae s.2.1,(s.2.1.length:Int),s,())) (a0:=()) (fun i x u hx=>by
  have hlt:=ai hx;show wT l k t11 t12 t13 s.2.1 (ae s.2.1) (i:Int) s=_;unfold wT qj;rw [aD hx,az hx,aV _ hx,qC x.1 (ae l) (cD (hb x (List.mem_of_getElem? hx)).1),aJ (by unfold aT; omega)];dsimp only [cond_true,Option.bind_some];cases aq (aG x.1 (ae l)) k with
  | false=>rfl
  | true =>
    by_cases h0:0 < i
    . rw [aF (show (0:Int) < i by omega),aS (by omega) (by omega),iO hx h0,decide_eq_true h0];dsimp only [cond_true,cond_false,Bool.not_true];cases kj (gt d59 s.2.1 ((i:Int) - 1)).1 x.1 <;> rfl
    . rw [ax (show ¬ (0:Int) < i by omega),decide_eq_false h0]; rfl) (fun u=>by
  show wT l k t11 t12 t13 s.2.1 (ae s.2.1) (s.2.1.length:Int) s=_;unfold wT;rw [aw rfl]; rfl)
 rw [cN] at h;refine Eq.trans h ?_;unfold DC;cases allI _ 0 s.2.1 <;> rfl
theorem Ty (l t11:List er) (k t12 t13:Int) (s:er) (hl:l.length<=1048576) (hs:s.2.1.length<=1048576) (hb:∀ a∈s.2.1,iX a):OO l k t11 t12 t13 s.2.1 (ae s.2.1) 0 s=some (bif DC (ae l) k s.2.1 then .inl (l,k,t11,t12,t13,s.2.1,ae s.2.1,(s.2.1.length:Int),s,()) else .inr (false,())):=by
 have h:=aI (step:=Dl uS) s.2.1 (fun i (_:Unit)=>(l,k,t11,t12,t13,s.2.1,ae s.2.1,((i:Nat):Int),s,())) (fun i x _=>bif qj (ae l) k s.2.1 i x then Sum.inl () else .inr (.inr (false,()))) (fun _=> .inl (l,k,t11,t12,t13,s.2.1,ae s.2.1,(s.2.1.length:Int),s,())) (a0:=()) (fun i x u hx=>by
  have hlt:=ai hx;show uS l k t11 t12 t13 s.2.1 (ae s.2.1) (i:Int) s=_;unfold uS qj;rw [aD hx,az hx,aV _ hx,Cs x.1 (ae l) (cD (hb x (List.mem_of_getElem? hx)).1),aJ (by unfold aT; omega)];dsimp only [cond_true,Option.bind_some];cases aq (aG x.1 (ae l)) k with
  | false=>rfl
  | true =>
    by_cases h0:0 < i
    . rw [aF (show (0:Int) < i by omega),aS (by omega) (by omega),iO hx h0,decide_eq_true h0,ux];dsimp only [cond_true,cond_false,Bool.not_true];cases kj (gt d59 s.2.1 ((i:Int) - 1)).1 x.1 <;> rfl
    . rw [ax (show ¬ (0:Int) < i by omega),decide_eq_false h0]; rfl) (fun u=>by
  show uS l k t11 t12 t13 s.2.1 (ae s.2.1) (s.2.1.length:Int) s=_;unfold uS;rw [aw rfl]; rfl)
 rw [cN] at h;refine Eq.trans h ?_;unfold DC;cases allI _ 0 s.2.1 <;> rfl
theorem JU {l:List er} (hB:sy l) {i:Nat} {s:er} (h:l[i]? = some s):s.2.1.length<=1048576:=by have h1:=nv h;have h2:=ur l (i + 1);rw [h1,List.length_append] at h2;have:=hB.2.1;omega
theorem Wk (l:List er) (hB:sy l):Xn l=some ((),((Dm l,()),())):=by
 have hl:=hB.1;obtain ⟨_,_,_,_,hg,_⟩:=C2 hB;unfold Xn Dm;dsimp only;rw [lX];cases dR (ae l) 1 5 with
 | false=>rfl
 | true =>
 have h:=aI (step:=cV xb) l (fun i (_:Unit)=>(l,l,ae l,((i:Nat):Int),())) (fun i x _=>bif jS (ae l) i x then Sum.inl () else .inr (.inr (false,()))) (fun _=> .inl (l,l,ae l,(l.length:Int),())) (a0:=()) (fun i x u hx=>by
  have hlt:=ai hx;show xb l l (ae l) (i:Int)=_;unfold xb jS;rw [aD hx,az hx,aV _ hx];dsimp only [cond_true];rw [lX];dsimp only [Option.bind_some];cases dR x.1 (-1) 11 with
  | false=>rfl
  | true =>
    dsimp only [Bool.not_true,cond_false,cond_true];rw [UJ l l (i:Int) (ae l) (i:Int) x hl (JU hB hx) (hB.2.2 x (List.mem_of_getElem? hx))];cases DC (ae l) (i:Int) x.2.1 with
    | false=>rfl
    | true =>
      dsimp only [cond_true,Option.bind_some,Sum.elim_inl];rw [aJ (by unfold aT; omega)]; rfl) (fun u=>by
  show xb l l (ae l) (l.length:Int)=_;unfold xb;rw [aw rfl]; rfl)
 rw [cN] at h;refine (bn h).trans ?_;cases allI (jS (ae l)) 0 l with
 | false=>rfl
 | true => show Option.bind (Pm l) _=_;rw [hg];show Option.bind (Ip (uc l,())) _=_;rw [Sk _ (PW hB)]; rfl
theorem T0 (l:List er) (hB:sy l):Xt l=some ((),((Dm l,()),())):=by
 have hl:=hB.1;obtain ⟨_,_,_,_,_,hg⟩:=C2 hB;unfold Xt Dm;have h:=aI (step:=cV xP) l (fun i (_:Unit)=>(l,l,ae l,((i:Nat):Int),())) (fun i x _=>bif jS (ae l) i x then Sum.inl () else .inr (.inr (false,()))) (fun _=> .inl (l,l,ae l,(l.length:Int),())) (a0:=()) (fun i x u hx=>by
  have hlt:=ai hx;show xP l l (ae l) (i:Int)=_;unfold xP jS;rw [aD hx,az hx,aV _ hx];dsimp only [cond_true];rw [jY];dsimp only [Option.bind_some];cases dR x.1 (-1) 11 with
  | false=>rfl
  | true =>
    dsimp only [Bool.not_true,cond_false,cond_true];rw [Ty l l (i:Int) (ae l) (i:Int) x hl (JU hB hx) (hB.2.2 x (List.mem_of_getElem? hx))];cases DC (ae l) (i:Int) x.2.1 with
    | false=>rfl
    | true =>
      dsimp only [cond_true,Option.bind_some,Sum.elim_inl];rw [aJ (by unfold aT; omega)]; rfl) (fun u=>by
  show xP l l (ae l) (l.length:Int)=_;unfold xP;rw [aw rfl]; rfl)
 rw [cN] at h;refine (bn h).trans ?_;cases allI (jS (ae l)) 0 l with
 | false => cases dR (ae l) 1 5 <;> rfl
 | true =>
   dsimp only [cond_true,Option.bind_some,Sum.elim_inl];rw [jY];dsimp only [Option.bind_some];cases dR (ae l) 1 5 with
   | false=>rfl
   | true => show Option.bind (Ri l) _=_;rw [hg];show Option.bind (HO (uc l,())) _=_;rw [QX _ (PW hB)]; rfl
abbrev dy:=List er×Int×Int×List cR×Unit
def ij (w:dy):Prop:=sy w.1/\w.2.2.2.1.length<=1048576/\∀ t∈w.2.2.2.1,nR t
def nI (t:cR):List de:=[(t.2.2.2.2.1,()),(t.2.2.2.2.2.1,()),(t.2.2.2.2.2.2.1,())]
def j3 (n:Int):List de->List de->Option (List de)
 | [],o=>some o
 | x :: r,o=>bif aq x.1 (-1) then j3 n r o else bif bH n x.1 then none else bif Gv x.1 o then none else j3 n r (o ++ [x])
def BD (n:Int) (x:de) (o:List de) (y:Unit):Sum (List de) Unit:=bif aq x.1 (-1) then .inl o else bif bH n x.1 then .inr y else bif Gv x.1 o then .inr y else .inl (o ++ [x])
theorem uj {Y:Type} (n:Int) (y:Y) (z:List de->Y):∀ (xs:List de) (i:Nat) (o:List de),jX (fun _ x o=>match BD n x o () with | .inl o'=>Sum.inl o' | .inr _=> .inr y) z i xs o=match j3 n xs o with | some o'=>z o' | none=>y
 | [],_,_=>rfl
 | x :: r,i,o=>by
   rw [jX,j3];unfold BD;cases aq x.1 (-1) with
   | true=>exact uj n y z r (i + 1) o
   | false =>
     cases bH n x.1 with
     | true=>rfl
     | false =>
       cases Gv x.1 o with
       | true=>rfl
       | false=>exact uj n y z r (i + 1) _
theorem qA (n:Int):∀ (xs o o':List de),j3 n xs o=some o'->o'.length<=o.length + xs.length
 | [],o,o',h=>by cases h; exact Nat.le_refl _
 | x :: r,o,o',h=>by
   rw [j3] at h;cases h1:aq x.1 (-1) <;> rw [h1] at h
   . cases h2:bH n x.1 <;> rw [h2] at h
     . cases h3:Gv x.1 o <;> rw [h3] at h
       . have:=qA n r _ _ h;rw [List.length_append] at this;simp only [List.length_cons,List.length_nil] at this ⊢;omega
       . cases h
     . cases h
   . have:=qA n r _ _ h;simp only [List.length_cons];omega
theorem XV (n:Int) (o:List de) (t11:List cR) (t12 t13:Int) (xs:List de) (hx:xs.length<=3) (ho:o.length<=1000):OF n o t11 t12 t13 xs (ae xs) 0=some (match j3 n xs o with | some o'=> .inl (n,o',t11,t12,t13,xs,ae xs,ae xs,()) | none=> .inr (false,())):=by
 have h:=aH (step:=yV xF) xs (fun i (o:List de)=>(n,o,t11,t12,t13,xs,ae xs,((i:Nat):Int),())) (fun _ x o=>match BD n x o () with | .inl o'=>Sum.inl o' | .inr _=> .inr (.inr (false,()))) (fun o=> .inl (n,o,t11,t12,t13,xs,ae xs,ae xs,())) (fun i o=>o.length<=1000 + i) (a0:=o) ho (fun i x o hx' ho'=>by
  have hlt:=ai hx';show xF n o t11 t12 t13 xs (ae xs) (i:Int)=_;unfold xF;rw [aD hx',az hx',aV _ hx',aJ (by unfold aT; omega)];dsimp only [cond_true];rw [Vb o x.1 (by omega)];dsimp only [Option.bind_some];rw [HK (by omega)];unfold BD;cases aq x.1 (-1) <;> cases bH n x.1 <;> cases Gv x.1 o <;> rfl) (fun i x o o' hx' ho' hf=>by
  unfold BD at hf;cases h1:aq x.1 (-1) <;> rw [h1] at hf
  . cases h2:bH n x.1 <;> rw [h2] at hf
    . cases h3:Gv x.1 o <;> rw [h3] at hf
      . cases hf;rw [List.length_append]; show o.length + 1<=_; omega
      . cases hf
    . cases hf
  . cases hf; omega) (fun o ho'=>by
  show xF n o t11 t12 t13 xs (ae xs) (xs.length:Int)=_;unfold xF;rw [aw rfl]; rfl)
 rw [uj] at h;refine Eq.trans h ?_;cases j3 n xs o <;> rfl
theorem abl (n:Int) (o:List de) (t36:List cR) (t37 t38:Int) (xs:List de) (w:dy) (hn:w.2.2.1=n) (hx:xs.length<=3) (ho:o.length<=1000):Pu o t36 t37 t38 xs (ae xs) 0 w=some (match j3 n xs o with | some o'=> .inl (o',t36,t37,t38,xs,ae xs,ae xs,w,()) | none=> .inr (false,())):=by
 subst hn;have h:=aH (step:=yV vM) xs (fun i (o:List de)=>(o,t36,t37,t38,xs,ae xs,((i:Nat):Int),w,())) (fun _ x o=>match BD w.2.2.1 x o () with | .inl o'=>Sum.inl o' | .inr _=> .inr (.inr (false,()))) (fun o=> .inl (o,t36,t37,t38,xs,ae xs,ae xs,w,())) (fun i o=>o.length<=1000 + i) (a0:=o) ho (fun i x o hx' ho'=>by
  have hlt:=ai hx';show vM o t36 t37 t38 xs (ae xs) (i:Int) w=_;unfold vM;rw [aD hx',az hx',aV _ hx',aJ (by unfold aT; omega)];dsimp only [cond_true];rw [PY o x.1 (by omega)];dsimp only [Option.bind_some];rw [HK (by omega)];unfold BD;cases aq x.1 (-1) <;> cases bH w.2.2.1 x.1 <;> cases Gv x.1 o <;> rfl) (fun i x o o' hx' ho' hf=>by
  unfold BD at hf;cases h1:aq x.1 (-1) <;> rw [h1] at hf
  . cases h2:bH w.2.2.1 x.1 <;> rw [h2] at hf
    . cases h3:Gv x.1 o <;> rw [h3] at hf
      . cases hf;rw [List.length_append]; show o.length + 1<=_; omega
      . cases hf
    . cases hf
  . cases hf; omega) (fun o ho'=>by
  show vM o t36 t37 t38 xs (ae xs) (xs.length:Int) w=_;unfold vM;rw [aw rfl]; rfl)
 rw [uj] at h;refine Eq.trans h ?_;cases j3 w.2.2.1 xs o <;> rfl
def l5 (n:Int):List cR->List de->Option (List de)
 | [],o=>some o
 | t :: r,o=>(j3 n (nI t) o).bind (l5 n r)
def CI (L now:Int) (t:cR):Bool:=cond (tQ t L) (!(au now t.2.2.2.2.2.2.2.1)) false
theorem EA {Y:Type} (n:Int) (y:Y) (z:List de->Y):∀ (xs:List cR) (i:Nat) (o:List de),jX (fun _ x o=>match j3 n (nI x) o with | some o'=>Sum.inl o' | none=> .inr y) z i xs o=match l5 n xs o with | some o'=>z o' | none=>y
 | [],_,_=>rfl
 | x :: r,i,o=>by
   rw [jX,l5];cases j3 n (nI x) o with
   | none=>rfl
   | some o'=>exact EA n y z r (i + 1) o'
theorem ET {Y:Type} (L now n:Int) (y:Y) (z:Y->Prop) (Z:List de->Y) (hZ:∀ o,z (Z o)):∀ (xs:List cR) (i:Nat) (o:List de),(bif xs.all (CI L now) && (l5 n xs o).isSome then z (jX (fun _ x o=>bif CI L now x then (match j3 n (nI x) o with | some o'=>Sum.inl o' | none=> .inr y) else .inr y) Z i xs o) else jX (fun _ x o=>bif CI L now x then (match j3 n (nI x) o with | some o'=>Sum.inl o' | none=> .inr y) else .inr y) Z i xs o=y:Prop)
 | [],_,o=>hZ o
 | x :: r,i,o=>by
   rw [jX,l5,List.all_cons];cases CI L now x with
   | false=>rfl
   | true =>
     cases j3 n (nI x) o with
     | none=>rw [show (none:Option (List de)).bind (l5 n r)=none from rfl]; cases r.all (CI L now) <;> rfl
     | some o'=>exact ET L now n y z Z hZ r (i + 1) o'
theorem S7 (n:Int) (ts:List cR) (ht:ts.length<=12):WV ts n=some ((),(((l5 n ts []).isSome,()),())):=by
 have h:=aH (step:=ff wN) ts (fun i (o:List de)=>(n,o,ts,ae ts,((i:Nat):Int),())) (fun _ x o=>match j3 n (nI x) o with | some o'=>Sum.inl o' | none=> .inr (.inr (false,()))) (fun o=> .inl (n,o,ts,ae ts,(ts.length:Int),())) (fun i o=>o.length<=3 * i) (a0:=[]) (Nat.le_refl _) (fun i x o hx ho=>by
  have hlt:=ai hx;show wN n o ts (ae ts) (i:Int)=_;unfold wN;rw [aD hx,az hx,aV _ hx];dsimp only [cond_true];refine (bn (XV n o ts (ae ts) (i:Int) (nI x) (Nat.le_refl _) (by omega))).trans ?_;cases j3 n (nI x) o with
  | none=>rfl
  | some o' =>
    dsimp only [Option.bind_some,Sum.elim_inl];rw [aJ (by unfold aT; omega)] <;> rfl) (fun i x o o' hx ho hf=>by
  cases hs:j3 n (nI x) o with
  | none=>rw [hs] at hf; cases hf
  | some o2 =>
    rw [hs] at hf;cases hf;have:=qA n _ _ _ hs;have e:(nI x).length=3:=rfl;omega) (fun o ho=>by
  show wN n o ts (ae ts) (ts.length:Int)=_;unfold wN;rw [aw rfl]; rfl)
 rw [EA] at h;unfold WV;refine (bn h).trans ?_;cases l5 n ts [] <;> rfl
theorem Bz (w:dy) (hb:ij w):JF w.2.2.2.1 (ae w.2.2.2.1) 0 w=some (bif w.2.2.2.1.all (CI (ae w.1) w.2.1) then .inl (w.2.2.2.1,ae w.2.2.2.1,ae w.2.2.2.1,w,()) else .inr (false,())):=by
 have hl:=hb.2.1;have h:=aI (step:=cV uJ) w.2.2.2.1 (fun i (_:Unit)=>(w.2.2.2.1,ae w.2.2.2.1,((i:Nat):Int),w,())) (fun _ x _=>bif CI (ae w.1) w.2.1 x then Sum.inl () else .inr (.inr (false,()))) (fun _=> .inl (w.2.2.2.1,ae w.2.2.2.1,ae w.2.2.2.1,w,())) (a0:=()) (fun i x u hx=>by
  have hlt:=ai hx;show uJ w.2.2.2.1 (ae w.2.2.2.1) (i:Int) w=_;unfold uJ CI;rw [aD hx,az hx,aV _ hx,aJ (by unfold aT; omega)];dsimp only [cond_true];rw [R8 x (ae w.1) (hb.2.2 x (List.mem_of_getElem? hx))];dsimp only [Option.bind_some];cases tQ x (ae w.1) <;> cases au w.2.1 x.2.2.2.2.2.2.2.1 <;> rfl) (fun u=>by
  show uJ w.2.2.2.1 (ae w.2.2.2.1) (w.2.2.2.1.length:Int) w=_;unfold uJ;rw [aw rfl]; rfl)
 rw [fU] at h;refine Eq.trans h ?_;cases w.2.2.2.1.all (CI (ae w.1) w.2.1) <;> rfl
theorem CB (w:dy) (hb:ij w) (h12:w.2.2.2.1.length<=12):∃ y,PV [] w.2.2.2.1 (ae w.2.2.2.1) 0 w=some y/\(bif w.2.2.2.1.all (CI (ae w.1) w.2.1) && (l5 w.2.2.1 w.2.2.2.1 []).isSome then (∃ o,y= .inl (o,w.2.2.2.1,ae w.2.2.2.1,ae w.2.2.2.1,w,())) else y= .inr (false,()):Prop):=by
 have h:=aH (step:=ff xz) w.2.2.2.1 (fun i (o:List de)=>(o,w.2.2.2.1,ae w.2.2.2.1,((i:Nat):Int),w,())) (fun _ x o=>bif CI (ae w.1) w.2.1 x then (match j3 w.2.2.1 (nI x) o with | some o'=>Sum.inl o' | none=> .inr (.inr (false,()))) else .inr (.inr (false,()))) (fun o=> .inl (o,w.2.2.2.1,ae w.2.2.2.1,ae w.2.2.2.1,w,())) (fun i o=>o.length<=3 * i) (a0:=[]) (Nat.le_refl _) (fun i x o hx ho=>by
  have hlt:=ai hx;show xz o w.2.2.2.1 (ae w.2.2.2.1) (i:Int) w=_;unfold xz CI;rw [aD hx,az hx,aV _ hx];dsimp only [cond_true];rw [SJ x (ae w.1) (hb.2.2 x (List.mem_of_getElem? hx))];dsimp only [Option.bind_some];cases tQ x (ae w.1) with
  | false=>rfl
  | true =>
  cases au w.2.1 x.2.2.2.2.2.2.2.1 with
  | true=>rfl
  | false =>
    dsimp only [Bool.not_true,Bool.not_false,cond_false,cond_true];refine (bn (abl w.2.2.1 o w.2.2.2.1 (ae w.2.2.2.1) (i:Int) (nI x) w rfl (Nat.le_refl _) (by omega))).trans ?_;cases j3 w.2.2.1 (nI x) o with
    | none=>rfl
    | some o' =>
      dsimp only [Option.bind_some,Sum.elim_inl];rw [aJ (by unfold aT; omega)] <;> rfl) (fun i x o o' hx ho hf=>by
  cases hk:CI (ae w.1) w.2.1 x with
  | false=>rw [hk] at hf; cases hf
  | true =>
    rw [hk] at hf;cases hs:j3 w.2.2.1 (nI x) o with
    | none=>rw [hs] at hf; cases hf
    | some o2 =>
      rw [hs] at hf;cases hf;have:=qA w.2.2.1 _ _ _ hs;have e:(nI x).length=3:=rfl;omega) (fun o ho=>by
  show xz o w.2.2.2.1 (ae w.2.2.2.1) (w.2.2.2.1.length:Int) w=_;unfold xz;rw [aw rfl]; rfl)
 exact ⟨_,h,ET (Y:=Sum (List de×List cR×Int×Int×dy×Unit) (Bool×Unit)) (ae w.1) w.2.1 w.2.2.1 (.inr (false,())) (fun y=>∃ o,y= .inl (o,w.2.2.2.1,ae w.2.2.2.1,ae w.2.2.2.1,w,())) _ (fun o=>⟨o,rfl⟩) w.2.2.2.1 0 []⟩
def gH (o k:Int) (i:Nat) (t:cR):Bool:=Kw (Gk t k) (aq o (i:Int))
def fh (ts:List cR) (k:Nat) (s:er):Bool:=cond (bH (ae ts) s.1) false (allI (gH s.1 (k:Int)) 0 ts)
theorem VS (w:dy) (hb:ij w) (k t62:Int) (l:List er) (s:er):Qa k l t62 k w.2.2.2.1 (ae w.2.2.2.1) 0 w s=some (bif allI (gH s.1 k) 0 w.2.2.2.1 then .inl (k,l,t62,k,w.2.2.2.1,ae w.2.2.2.1,ae w.2.2.2.1,w,s,()) else .inr (false,())):=by
 have hl:=hb.2.1;have h:=aI (step:=Dl xg) w.2.2.2.1 (fun i (_:Unit)=>(k,l,t62,k,w.2.2.2.1,ae w.2.2.2.1,((i:Nat):Int),w,s,())) (fun i x _=>bif gH s.1 k i x then Sum.inl () else .inr (.inr (false,()))) (fun _=> .inl (k,l,t62,k,w.2.2.2.1,ae w.2.2.2.1,ae w.2.2.2.1,w,s,())) (a0:=()) (fun i x u hx=>by
  have hlt:=ai hx;show xg k l t62 k w.2.2.2.1 (ae w.2.2.2.1) (i:Int) w s=_;unfold xg gH;rw [aD hx,az hx,aV _ hx,aJ (by unfold aT; omega),VG x k (hb.2.2 x (List.mem_of_getElem? hx))];dsimp only [cond_true,Option.bind_some];cases Kw (Gk x k) (aq s.1 (i:Int)) <;> rfl) (fun u=>by
  show xg k l t62 k w.2.2.2.1 (ae w.2.2.2.1) (w.2.2.2.1.length:Int) w s=_;unfold xg;rw [aw rfl]; rfl)
 rw [cN] at h;refine Eq.trans h ?_;cases allI (gH s.1 k) 0 w.2.2.2.1 <;> rfl
theorem TG (w:dy) (hb:ij w) (k t62:Int) (l:List er) (s:er):Pz k l t62 k w.2.2.2.1 (ae w.2.2.2.1) 0 w s=some (bif allI (gH s.1 k) 0 w.2.2.2.1 then .inl (k,l,t62,k,w.2.2.2.1,ae w.2.2.2.1,ae w.2.2.2.1,w,s,()) else .inr (false,())):=by
 have hl:=hb.2.1;have h:=aI (step:=Dl ve) w.2.2.2.1 (fun i (_:Unit)=>(k,l,t62,k,w.2.2.2.1,ae w.2.2.2.1,((i:Nat):Int),w,s,())) (fun i x _=>bif gH s.1 k i x then Sum.inl () else .inr (.inr (false,()))) (fun _=> .inl (k,l,t62,k,w.2.2.2.1,ae w.2.2.2.1,ae w.2.2.2.1,w,s,())) (a0:=()) (fun i x u hx=>by
  have hlt:=ai hx;show ve k l t62 k w.2.2.2.1 (ae w.2.2.2.1) (i:Int) w s=_;unfold ve gH;rw [aD hx,az hx,aV _ hx,aJ (by unfold aT; omega),TS x k (hb.2.2 x (List.mem_of_getElem? hx))];dsimp only [cond_true,Option.bind_some];cases Kw (Gk x k) (aq s.1 (i:Int)) <;> rfl) (fun u=>by
  show ve k l t62 k w.2.2.2.1 (ae w.2.2.2.1) (w.2.2.2.1.length:Int) w s=_;unfold ve;rw [aw rfl]; rfl)
 rw [cN] at h;refine Eq.trans h ?_;cases allI (gH s.1 k) 0 w.2.2.2.1 <;> rfl
theorem Rf (w:dy) (hb:ij w):O5 w.1 (ae w.1) 0 w=some (bif allI (fh w.2.2.2.1) 0 w.1 then .inl (w.1,ae w.1,ae w.1,w,()) else .inr (false,())):=by
 have hl:=hb.1.1;have h:=aI (step:=cV wZ) w.1 (fun i (_:Unit)=>(w.1,ae w.1,((i:Nat):Int),w,())) (fun i x _=>bif fh w.2.2.2.1 i x then Sum.inl () else .inr (.inr (false,()))) (fun _=> .inl (w.1,ae w.1,ae w.1,w,())) (a0:=()) (fun i x u hx=>by
  have hlt:=ai hx;show wZ w.1 (ae w.1) (i:Int) w=_;unfold wZ fh;rw [aD hx,az hx,aV _ hx];dsimp only [cond_true];cases bH (ae w.2.2.2.1) x.1 with
  | true=>rfl
  | false =>
    dsimp only [cond_false];rw [VS w hb (i:Int) (ae w.1) w.1 x];cases allI (gH x.1 (i:Int)) 0 w.2.2.2.1 with
    | false=>rfl
    | true =>
      dsimp only [cond_true,Option.bind_some,Sum.elim_inl];rw [aJ (by unfold aT; omega)] <;> rfl) (fun u=>by
  show wZ w.1 (ae w.1) (w.1.length:Int) w=_;unfold wZ;rw [aw rfl]; rfl)
 rw [cN] at h;refine Eq.trans h ?_;cases allI (fh w.2.2.2.1) 0 w.1 <;> rfl
theorem RX (w:dy) (hb:ij w):O0 w.1 (ae w.1) 0 w=some (bif allI (fh w.2.2.2.1) 0 w.1 then .inl (w.1,ae w.1,ae w.1,w,()) else .inr (false,())):=by
 have hl:=hb.1.1;have h:=aI (step:=cV vf) w.1 (fun i (_:Unit)=>(w.1,ae w.1,((i:Nat):Int),w,())) (fun i x _=>bif fh w.2.2.2.1 i x then Sum.inl () else .inr (.inr (false,()))) (fun _=> .inl (w.1,ae w.1,ae w.1,w,())) (a0:=()) (fun i x u hx=>by
  have hlt:=ai hx;show vf w.1 (ae w.1) (i:Int) w=_;unfold vf fh;rw [aD hx,az hx,aV _ hx];dsimp only [cond_true];cases bH (ae w.2.2.2.1) x.1 with
  | true=>rfl
  | false =>
    dsimp only [cond_false];rw [TG w hb (i:Int) (ae w.1) w.1 x];cases allI (gH x.1 (i:Int)) 0 w.2.2.2.1 with
    | false=>rfl
    | true =>
      dsimp only [cond_true,Option.bind_some,Sum.elim_inl];rw [aJ (by unfold aT; omega)] <;> rfl) (fun u=>by
  show vf w.1 (ae w.1) (w.1.length:Int) w=_;unfold vf;rw [aw rfl]; rfl)
 rw [cN] at h;refine Eq.trans h ?_;cases allI (fh w.2.2.2.1) 0 w.1 <;> rfl
noncomputable def iH (w:dy):Bool:=cond (Dm w.1) (cond (dv w.2.1) (cond (cond (!dv w.2.2.1) true (au 12 (ae w.2.2.2.1))) false (cond (w.2.2.2.1.all (CI (ae w.1) w.2.1) && (l5 w.2.2.1 w.2.2.2.1 []).isSome) (allI (fh w.2.2.2.1) 0 w.1) false)) false) false
theorem UG (w:dy) (hb:ij w):Xx w=some ((),((iH w,()),())):=by
 unfold Xx iH;rw [Wk w.1 hb.1,lu,lu];dsimp only [Option.bind_some];cases Dm w.1 with
 | false=>rfl
 | true =>
 cases dv w.2.1 with
 | false=>rfl
 | true =>
 cases dv w.2.2.1 with
 | false=>rfl
 | true =>
 cases h12:au 12 (ae w.2.2.2.1) with
 | true=>rfl
 | false =>
 have hl:w.2.2.2.1.length<=12:=by have:=of_decide_eq_false h12;unfold ae at this;omega
 dsimp only [Bool.not_true,cond_false,cond_true];rw [S7 w.2.2.1 w.2.2.2.1 hl];dsimp only [Option.bind_some];cases (l5 w.2.2.1 w.2.2.2.1 []).isSome with
 | false=>rw [Bool.and_false]; rfl
 | true =>
 show Option.bind (JF w.2.2.2.1 (ae w.2.2.2.1) 0 w) _=_;rw [Bz w hb,Bool.and_true];cases w.2.2.2.1.all (CI (ae w.1) w.2.1) with
 | false=>rfl
 | true =>
 dsimp only [cond_true,Option.bind_some,Sum.elim_inl];rw [Rf w hb];cases allI (fh w.2.2.2.1) 0 w.1 <;> rfl
theorem Vo (w:dy) (hb:ij w):Xi w=some ((),((iH w,()),())):=by
 unfold Xi iH;rw [T0 w.1 hb.1,lU,lU];dsimp only [Option.bind_some];cases Dm w.1 with
 | false=>rfl
 | true =>
 cases dv w.2.1 with
 | false=>rfl
 | true =>
 cases dv w.2.2.1 with
 | false=>rfl
 | true =>
 cases h12:au 12 (ae w.2.2.2.1) with
 | true=>rfl
 | false =>
 have hl:w.2.2.2.1.length<=12:=by have:=of_decide_eq_false h12;unfold ae at this;omega
 dsimp only [Bool.not_true,cond_false,cond_true];obtain ⟨y,h1,h2⟩:=CB w hb hl;rw [h1];dsimp only [Option.bind_some];cases hc:w.2.2.2.1.all (CI (ae w.1) w.2.1) && (l5 w.2.2.1 w.2.2.2.1 []).isSome with
 | false => rw [hc] at h2;have h2:y= .inr (false,()):=h2;rw [h2]; rfl
 | true => rw [hc] at h2;obtain ⟨o,rfl⟩:=h2;dsimp only [cond_true,Sum.elim_inl];rw [RX w hb];cases allI (fh w.2.2.2.1) 0 w.1 <;> rfl
theorem HG (xs:List aO) (hb:Ez xs):LM (xs,())=some ((),((xs,()),())):=by
 have hbig:aT=140737488355328:=rfl;have hs:=hb.1;unfold LM;have h:=aH (step:=ff ot) xs (fun i (a:List aO)=>(xs,ae xs,((i:Nat):Int),([],()),(a,()),())) (fun _ x a=>Sum.inl (a ++ [x])) (fun a=> .inl (xs,ae xs,(xs.length:Int),([],()),(a,()),())) (fun i a=>a.length=i) (a0:=[]) rfl (fun i x a hx ha=>by
  have hlt:=ai hx;have hm:=hb.2 x (List.mem_of_getElem? hx);show ot xs (ae xs) (i:Int) ([],()) (a,())=_;unfold ot;have e:∀ y:aO,bY 160 a [y]=true:=fun y=>Nat.ble_eq_true_of_le (by simp; omega)
  have e0:gt d59 xs (i:Int)=x:=aV _ hx;rw [aD hx,az hx,e0];dsimp only [cond_true];rw [Ch x hm];dsimp only [Option.bind_some];rw [e,aJ (by omega)];rfl) (fun i x a a' hx ha hf=>by
  simp only [Sum.inl.injEq] at hf;rw [<- hf,List.length_append,ha]; rfl) (fun a ha=>by
  show ot xs (ae xs) (xs.length:Int) ([],()) (a,())=_;unfold ot;rw [aw rfl]; rfl)
 rw [fH] at h;have h':IG xs (ae xs) 0 ([],()) ([],())=_:=h;rw [h']; rfl
theorem EV {l:List er} (hB:sy l) {j:Nat} {s:er} (hx:l[j]? = some s):s.2.1.length<=1048576/\∀ a∈s.2.1,iX a:=by have e1:=nv hx;have e2:=ur l (j + 1);have e3:=hB.2.1;rw [e1,List.length_append] at e2;exact ⟨by omega,hB.2.2 s (List.mem_of_getElem? hx)⟩
theorem Oi (l:List er) (hB:sy l):WY l=some ((),((l,()),())):=by
 have hbig:aT=140737488355328:=rfl;have hl:=hB.1;have h:=aH (step:=cV wa) l (fun i (a:List er)=>(a,l,ae l,((i:Nat):Int),())) (fun _ x a=>Sum.inl (a ++ [x])) (fun a=> .inl (a,l,ae l,(l.length:Int),())) (fun i a=>a.length=i) (a0:=[]) rfl (fun i x a hx ha=>by
  have hlt:=ai hx;obtain ⟨s1,s2⟩:=EV hB hx;show wa a l (ae l) (i:Int)=_;unfold wa;have e:∀ y:er,bY 32 a [y]=true:=fun y=>Nat.ble_eq_true_of_le (by simp; omega)
  rw [aD hx,az hx,aV _ hx];dsimp only [cond_true];rw [AS x.2.1 s2 s1,aJ (by omega)];dsimp only [Option.bind_some];rw [e]; rfl) (fun i x a a' hx ha hf=>by
  simp only [Sum.inl.injEq] at hf;rw [<- hf,List.length_append,ha]; rfl) (fun a ha=>by
  show wa a l (ae l) (l.length:Int)=_;unfold wa;rw [aw rfl]; rfl)
 rw [fH] at h;have h':Pq [] l (ae l) 0=_:=h;unfold WY;rw [h']; rfl
theorem N6 (l:List er) (hB:sy l):Xy l=some ((),((l,()),())):=by
 have hbig:aT=140737488355328:=rfl;have hl:=hB.1;have h:=aH (step:=cV xB) l (fun i (a:List er)=>(a,l,ae l,((i:Nat):Int),())) (fun _ x a=>Sum.inl (a ++ [x])) (fun a=> .inl (a,l,ae l,(l.length:Int),())) (fun i a=>a.length=i) (a0:=[]) rfl (fun i x a hx ha=>by
  have hlt:=ai hx;obtain ⟨s1,s2⟩:=EV hB hx;show xB a l (ae l) (i:Int)=_;unfold xB;have e:∀ y:er,bY 32 a [y]=true:=fun y=>Nat.ble_eq_true_of_le (by simp; omega)
  rw [aD hx,az hx,aV _ hx];dsimp only [cond_true];rw [HG x.2.1 ⟨s1,s2⟩,aJ (by omega)];dsimp only [Option.bind_some];rw [e]; rfl) (fun i x a a' hx ha hf=>by
  simp only [Sum.inl.injEq] at hf;rw [<- hf,List.length_append,ha]; rfl) (fun a ha=>by
  show xB a l (ae l) (l.length:Int)=_;unfold xB;rw [aw rfl]; rfl)
 rw [fH] at h;have h':O9 [] l (ae l) 0=_:=h;unfold Xy;rw [h']; rfl
theorem Ko (t:cR) (hb:nR t):XD t=some ((),(t,())):=by have hbig:aT=140737488355328:=rfl;have h1:=hb.1.1;have h2:=hb.2.1;have h3:=hb.2.2;unfold XD;rw [df (by omega),df (by omega),df (by omega)]; rfl
theorem HT (t:cR) (hb:nR t):Xr t=some ((),(t,())):=by have hbig:aT=140737488355328:=rfl;have h1:=hb.1.1;have h2:=hb.2.1;have h3:=hb.2.2;unfold Xr Lt BQ;rw [df (by omega),df (by omega),df (by omega)]; rfl
theorem FP (w:dy) (hb:ij w):Xf w=some ((),(w,())):=by
 have hbig:aT=140737488355328:=rfl;have hl:=hb.2.1;have h:=aH (step:=ff xQ) w.2.2.2.1 (fun i (a:List cR)=>(w.2.2.2.1,ae w.2.2.2.1,((i:Nat):Int),([],0,0,[],()),(w.1,w.2.1,w.2.2.1,a,()),())) (fun _ x a=>Sum.inl (a ++ [x])) (fun a=> .inl (w.2.2.2.1,ae w.2.2.2.1,(w.2.2.2.1.length:Int),([],0,0,[],()),(w.1,w.2.1,w.2.2.1,a,()),())) (fun i a=>a.length=i) (a0:=[]) rfl (fun i x a hx ha=>by
  have hlt:=ai hx;show xQ w.2.2.2.1 (ae w.2.2.2.1) (i:Int) ([],0,0,[],()) (w.1,w.2.1,w.2.2.1,a,())=_;unfold xQ;have e:∀ y:cR,bY 120 a [y]=true:=fun y=>Nat.ble_eq_true_of_le (by simp; omega)
  rw [aD hx,az hx,aV _ hx];dsimp only [cond_true];rw [HT x (hb.2.2 x (List.mem_of_getElem? hx)),aJ (by omega)];dsimp only [Option.bind_some];rw [e]; rfl) (fun i x a a' hx ha hf=>by
  simp only [Sum.inl.injEq] at hf;rw [<- hf,List.length_append,ha]; rfl) (fun a ha=>by
  show xQ w.2.2.2.1 (ae w.2.2.2.1) (w.2.2.2.1.length:Int) ([],0,0,[],()) (w.1,w.2.1,w.2.2.1,a,())=_;unfold xQ;rw [aw rfl]; rfl)
 rw [fH] at h;have h':On w.2.2.2.1 (ae w.2.2.2.1) 0 ([],0,0,[],()) (w.1,w.2.1,w.2.2.1,[],())=_:=h;unfold Xf;rw [Oi w.1 hb.1];dsimp only [Option.bind_some];rw [h']; rfl
theorem F6 (w:dy) (hb:ij w):W6 w=some ((),(w,())):=by
 have hbig:aT=140737488355328:=rfl;have hl:=hb.2.1;have h:=aH (step:=ff wq) w.2.2.2.1 (fun i (a:List cR)=>(w.2.2.2.1,ae w.2.2.2.1,((i:Nat):Int),([],0,0,[],()),(w.1,w.2.1,w.2.2.1,a,()),())) (fun _ x a=>Sum.inl (a ++ [x])) (fun a=> .inl (w.2.2.2.1,ae w.2.2.2.1,(w.2.2.2.1.length:Int),([],0,0,[],()),(w.1,w.2.1,w.2.2.1,a,()),())) (fun i a=>a.length=i) (a0:=[]) rfl (fun i x a hx ha=>by
  have hlt:=ai hx;show wq w.2.2.2.1 (ae w.2.2.2.1) (i:Int) ([],0,0,[],()) (w.1,w.2.1,w.2.2.1,a,())=_;unfold wq;have e:∀ y:cR,bY 120 a [y]=true:=fun y=>Nat.ble_eq_true_of_le (by simp; omega)
  rw [aD hx,az hx,aV _ hx];dsimp only [cond_true];rw [Ko x (hb.2.2 x (List.mem_of_getElem? hx)),aJ (by omega)];dsimp only [Option.bind_some];rw [e]; rfl) (fun i x a a' hx ha hf=>by
  simp only [Sum.inl.injEq] at hf;rw [<- hf,List.length_append,ha]; rfl) (fun a ha=>by
  show wq w.2.2.2.1 (ae w.2.2.2.1) (w.2.2.2.1.length:Int) ([],0,0,[],()) (w.1,w.2.1,w.2.2.1,a,())=_;unfold wq;rw [aw rfl]; rfl)
 rw [fH] at h;have h':PE w.2.2.2.1 (ae w.2.2.2.1) 0 ([],0,0,[],()) (w.1,w.2.1,w.2.2.1,[],())=_:=h;unfold W6;rw [N6 w.1 hb.1];dsimp only [Option.bind_some];rw [h']; rfl
def w00:dy:=([],0,0,[],())
def tkZ:cR:=([],0,[],0,0,0,0,0,[],())
def kh (d:aW) (n:Int):cR×Bool:=cond (au 300 (ae d)) (tkZ,false) (cond (!dv n) (tkZ,false) ((d,0,[],0,n,(-1),(-1),0,[],()),true))
theorem RJ (d:aW) (n:Int) (hd:d.length<=1048576):WU d n=some ((),((kh d n).1,((kh d n).2,()),())):=by
 have hbig:aT=140737488355328:=rfl;unfold WU kh;rw [lu,df (by omega)];dsimp only [Option.bind_some];cases au 300 (ae d) <;> first | rfl | skip
 cases dv n <;> rfl
theorem Sa (d:aW) (n:Int) (hd:d.length<=1048576):Xe d n=some ((),((kh d n).1,((kh d n).2,()),())):=by
 have hbig:aT=140737488355328:=rfl;unfold Xe Lt kh;rw [lU,df (by omega)];dsimp only [Option.bind_some];cases au 300 (ae d) <;> first | rfl | skip
 cases dv n <;> rfl
noncomputable def il (w:dy) (d:aW):dy×Bool :=
 cond (cond (cond (cond (!iH w) true (!(kh d w.2.2.1).2)) true (aq w.2.2.1 1000000000)) true (aq (ae w.2.2.2.1) 12)) (w00,false) ((w.1,w.2.1,aj .i64 w.2.2.1 1,w.2.2.2.1 ++ [(kh d w.2.2.1).1],()),true)
theorem Wu (w:dy) (d:aW) (hb:ij w) (hd:d.length<=1048576):g16 w d=some ((),((il w d).1,((il w d).2,()),())):=by
 have hbig:aT=140737488355328:=rfl;have hl:=hb.2.1;have hf:∀ y:cR,bY 120 w.2.2.2.1 [y]=true:=fun y=>Nat.ble_eq_true_of_le (by simp; omega)
 unfold g16 il;rw [RJ d _ hd,UG w hb,F6 w hb];dsimp only [Option.bind_some];rw [hf];cases cond (cond (cond (!iH w) true (!(kh d w.2.2.1).2)) true (aq w.2.2.1 1000000000)) true (aq (ae w.2.2.2.1) 12) <;> rfl
theorem Vi (w:dy) (d:aW) (hb:ij w) (hd:d.length<=1048576):g18 w d=some ((),((il w d).1,((il w d).2,()),())):=by
 have hbig:aT=140737488355328:=rfl;have hl:=hb.2.1;have hf:∀ y:cR,bY 120 w.2.2.2.1 [y]=true:=fun y=>Nat.ble_eq_true_of_le (by simp; omega)
 unfold g18 il;rw [Sa d _ hd,Vo w hb,FP w hb];dsimp only [Option.bind_some];rw [hf];cases iH w <;> cases (kh d w.2.2.1).2 <;> cases aq w.2.2.1 1000000000 <;> cases aq (ae w.2.2.2.1) 12 <;> rfl
end Go.Av
