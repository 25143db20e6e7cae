/- Part of a proof that the law FnExactWaitChain answers true for every input: the printed functions of this program and their plain laws. No conditions beyond the statement. -/
import Derived.Test.YtpgkhfcgbjangaaGreatDoorQ3
set_option maxRecDepth 100000
set_option maxHeartbeats 4000000
namespace Go.Av
abbrev oP:=Int×List UInt8×Unit
abbrev cF:=List UInt8×List oP×Unit
def qj (m:cF):Prop:=m.1.length<=1048576/\m.2.1.length<=1048576/\∀ f∈m.2.1,f.2.1.length<=1048576
def gi (xs:List oP) (i:Nat) (x:oP):Bool:=cond (iW x.1 x.2.1) (cond (decide (0 < i)) (!(bD x.1 (gt (0,[],()) xs ((i:Int) - 1)).1)) true) false
def uV (m:cF):Bool:=cond (cond (aY m.1) (aq (ae m.1) 4) false) (allI (gi m.2.1) 0 m.2.1) false
theorem Cz (m:cF) (hb:qj m):CX m.2.1 (ae m.2.1) 0 m=some (bif allI (gi m.2.1) 0 m.2.1 then .inl (m.2.1,ae m.2.1,(m.2.1.length:Int),m,()) else .inr (false,())):=by
 have hbig:aV=140737488355328:=rfl;obtain ⟨mti,xs,u⟩:=m;obtain ⟨_,hl,hf⟩:=hb;dsimp only at hl hf ⊢;have h:=aG (step:=dh pH) xs (fun i (_:Unit)=>(xs,ae xs,((i:Nat):Int),(mti,xs,()),())) (fun i x _=>bif gi xs i x then Sum.inl () else .inr (.inr (false,()))) (fun _=> .inl (xs,ae xs,(xs.length:Int),(mti,xs,()),())) (a0:=()) (fun i x a hx=>by
  have hlt:=aj hx;show pH xs (ae xs) (i:Int) (mti,xs,())=_;unfold pH gi;rw [aI hx,aC hx,aW _ hx];dsimp only [cond_true];rw [Ve _ _ (cE (hf x (List.mem_of_getElem? hx))),aO (by omega)];dsimp only [Option.bind_some];cases iW x.1 x.2.1 with
  | false=>rfl
  | true =>
    by_cases h0:0 < i
    . rw [aD (show (0:Int) < i by omega),aR (by omega) (by omega),iG hx h0];dsimp only [cond_true,cond_false,Bool.not_true];have e:gt d178 xs ((i:Int) - 1)=gt (0,[],()) xs ((i:Int) - 1):=rfl;rw [e,decide_eq_true h0];cases bD x.1 (gt (0,[],()) xs ((i:Int) - 1)).1 <;> rfl
    . rw [ay (show ¬ (0:Int) < i by omega),decide_eq_false h0]; rfl) (fun a=>by
  show pH xs (ae xs) (xs.length:Int) (mti,xs,())=_;unfold pH;rw [ax rfl]; rfl)
 rw [cK] at h;have h':CX xs (ae xs) 0 (mti,xs,())=_:=h;rw [h']
theorem RT (m:cF) (hb:qj m):LC m=some ((),((uV m,()),())):=by
 unfold LC uV;rw [fO _ (cE hb.1)];dsimp only [Option.bind_some];cases aY m.1 with
 | false=>rfl
 | true =>
 cases aq (ae m.1) 4 with
 | false=>rfl
 | true => refine (bn (Cz m hb)).trans ?_;show _=some ((),((allI (gi m.2.1) 0 m.2.1,()),()));cases allI (gi m.2.1) 0 m.2.1 <;> rfl
theorem C2 (m:cF) (hb:qj m):C3 m.2.1 (ae m.2.1) 0 m=some (bif allI (gi m.2.1) 0 m.2.1 then .inl (m.2.1,ae m.2.1,(m.2.1.length:Int),m,()) else .inr (false,())):=by
 have hbig:aV=140737488355328:=rfl;obtain ⟨mti,xs,u⟩:=m;obtain ⟨_,hl,hf⟩:=hb;dsimp only at hl hf ⊢;have h:=aG (step:=dh pG) xs (fun i (_:Unit)=>(xs,ae xs,((i:Nat):Int),(mti,xs,()),())) (fun i x _=>bif gi xs i x then Sum.inl () else .inr (.inr (false,()))) (fun _=> .inl (xs,ae xs,(xs.length:Int),(mti,xs,()),())) (a0:=()) (fun i x a hx=>by
  have hlt:=aj hx;show pG xs (ae xs) (i:Int) (mti,xs,())=_;unfold pG gi;rw [aI hx,aC hx,aW _ hx];dsimp only [cond_true];rw [Ih _ _ (cE (hf x (List.mem_of_getElem? hx))),aO (by omega)];dsimp only [Option.bind_some];cases iW x.1 x.2.1 with
  | false=>rfl
  | true =>
    by_cases h0:0 < i
    . rw [aD (show (0:Int) < i by omega),aR (by omega) (by omega),iG hx h0];dsimp only [cond_true,cond_false,Bool.not_true];have e:gt d178 xs ((i:Int) - 1)=gt (0,[],()) xs ((i:Int) - 1):=rfl;rw [e,decide_eq_true h0];cases bD x.1 (gt (0,[],()) xs ((i:Int) - 1)).1 <;> rfl
    . rw [ay (show ¬ (0:Int) < i by omega),decide_eq_false h0]; rfl) (fun a=>by
  show pG xs (ae xs) (xs.length:Int) (mti,xs,())=_;unfold pG;rw [ax rfl]; rfl)
 rw [cK] at h;have h':C3 xs (ae xs) 0 (mti,xs,())=_:=h;rw [h']
theorem F4 (s:List UInt8) (n:Int) (hs:s.length<=aV):vq s n=some ((),((cond (aY s) (aq (ae s) n) false,()),())):=by unfold vq;rw [gJ s hs]; rfl
theorem TH (m:cF) (hb:qj m):MJ m=some ((),((uV m,()),())):=by
 unfold MJ uV;refine (bn (C2 m hb)).trans ?_;cases allI (gi m.2.1) 0 m.2.1 with
 | true =>
   show Option.bind (vq m.1 4) _=_;rw [F4 m.1 4 (cE hb.1)];dsimp only [Option.bind_some];cases aY m.1 with
   | false=>rfl
   | true=>cases aq (ae m.1) 4 <;> rfl
 | false =>
   cases aY m.1 with
   | false=>rfl
   | true=>cases aq (ae m.1) 4 <;> rfl
def l7 (m:cF) (no:Int):Option (List UInt8):=(m.2.1.find? fun f=>aq f.1 no).map (·.2.1)
def Cq (o:Option (List UInt8)):Option (Unit×((List UInt8×Unit)×(Bool×Unit)×Unit)):=some ((),match o with | some s=>((s,()),(true,()),()) | none=>(([],()),(false,()),()))
theorem xo (m:cF) (no:Int) (hb:qj m):j3 m no=Cq (l7 m no):=by
 have hbig:aV=140737488355328:=rfl;have hl:=hb.2.1;unfold j3;have h:=aG (step:=dh oe) m.2.1 (fun i (_:Unit)=>(no,m.2.1,ae m.2.1,((i:Nat):Int),())) (fun i x _=>bif aq x.1 no then .inr (.inr (x.2.1,true,())) else .inl ()) (fun _=> .inl (no,m.2.1,ae m.2.1,(m.2.1.length:Int),())) (a0:=()) (fun i x a hx=>by
  have hlt:=aj hx;show oe no m.2.1 (ae m.2.1) (i:Int)=_;unfold oe;rw [aI hx,aC hx,aW _ hx,aO (by omega)];dsimp only [cond_true];cases aq x.1 no <;> rfl) (fun a=>by
  show oe no m.2.1 (ae m.2.1) (m.2.1.length:Int)=_;unfold oe;rw [ax rfl]; rfl)
 rw [nA] at h;have h':J1 no m.2.1 (ae m.2.1) 0=_:=h;refine (bn h').trans ?_;unfold l7 Cq;cases m.2.1.find? _ <;> rfl
theorem N8 (m:cF) (no:Int) (hb:qj m):FO m no=Cq (l7 m no):=by
 have hbig:aV=140737488355328:=rfl;have hl:=hb.2.1;unfold FO;have h:=aG (step:=dh pI) m.2.1 (fun i (_:Unit)=>(no,m.2.1,ae m.2.1,((i:Nat):Int),())) (fun i x _=>bif aq x.1 no then .inr (.inr (x.2.1,true,())) else .inl ()) (fun _=> .inl (no,m.2.1,ae m.2.1,(m.2.1.length:Int),())) (a0:=()) (fun i x a hx=>by
  have hlt:=aj hx;show pI no m.2.1 (ae m.2.1) (i:Int)=_;unfold pI;rw [aI hx,aC hx,aW _ hx,aO (by omega)];dsimp only [cond_true];cases aq x.1 no <;> rfl) (fun a=>by
  show pI no m.2.1 (ae m.2.1) (m.2.1.length:Int)=_;unfold pI;rw [ax rfl]; rfl)
 rw [nA] at h;have h':Ik no m.2.1 (ae m.2.1) 0=_:=h;refine (bn h').trans ?_;unfold l7 Cq;cases m.2.1.find? _ <;> rfl
def ld (b:aX):aX->Nat->List oP->Option (List oP×Nat)
 | [],a,o=>some (o,a)
 | x :: r,a,o=>match nJ b a x.1 with
   | some (s,e)=>ld b r e (o ++ [(x.1,s,())])
   | none=>none
def iP (l:aX):aX:=l.map fun x=>(ak .i64 x.1 64,())
def tJ (x:Int×Unit):Bool:= !(aq (bm x.1) 0)
def eP (l:aX):aX:=l.filter fun x=> !(aq x.1 1)
def gu (l:aX):Bool:=l.any fun x=>aq x.1 1
def Cc (b:aX):Option (aX×Nat) :=
 if 10<=b.length then
  (bif gu (dV (eL b 2 8)) then
    (if 18<=b.length/\dV (eL b 10 8)≠[] then (bif (eP (dV (eL b 2 8)) ++ iP (dV (eL b 10 8))).all tJ then some (eP (dV (eL b 2 8)) ++ iP (dV (eL b 10 8)),18) else none) else none)
  else (bif (eP (dV (eL b 2 8))).all tJ then some (eP (dV (eL b 2 8)),10) else none))
 else none
def kC (b:aX):cF×Int:=match ja b 0 4 with
 | none=>(([],[],()),1)
 | some mti=>match Cc b with
   | none=>(([],[],()),2)
   | some (nos,a)=>match ld b nos a [] with
     | none=>(([],[],()),3)
     | some (l,e)=>if e=b.length then ((mti,l,()),0) else (([],[],()),4)
def Gy (p:cF×Int):Option (Unit×(cF×(Int×Unit)×Unit)):=some ((),(p.1,(p.2,()),()))
theorem Sb (b:aX) (hb:yf b) (h2:2<=b.length):Iu b=some ((),match Cc b with | some p=>((p.1,()),((p.2:Int),()),(true,()),()) | none=>(([],()),(0,()),(false,()),())):=by
 have hbig:aV=140737488355328:=rfl;have hl:=hb.1;unfold Iu Cc;have h0:CH b 2=_:=Ht b 2 hb h2;unfold nR at h0;refine (bn h0).trans ?_;by_cases h10:10<=b.length;rotate_left
 . rw [if_neg h10,if_neg h10]; rfl
 rw [if_pos h10,if_pos h10];have k1:=lf (eL b 2 8);generalize dV (eL b 2 8)=lo at k1 ⊢;have hlow:Hi b 10 [] false lo (ae lo) 0=some (.inl (b,10,eP lo,gu lo,lo,ae lo,(lo.length:Int),())):=by
  have h:=aT (step:=Hp oQ) lo (fun i (o:aX×Bool)=>(b,10,o.1,o.2,lo,ae lo,((i:Nat):Int),())) (fun _ x o=>Sum.inl (bif aq x.1 1 then (o.1,true) else (o.1 ++ [x],o.2))) (fun o=> .inl (b,10,o.1,o.2,lo,ae lo,(lo.length:Int),())) (fun i o=>o.1.length<=i) (a0:=([],false)) (Nat.le_refl _) (fun i x o hx ho=>by
   have hlt:=aj hx;show oQ b 10 o.1 o.2 lo (ae lo) (i:Int)=_;unfold oQ;rw [aI hx,aC hx,aW _ hx,aO (by omega)];have:cT 8 o.1 [x]=true:=Nat.ble_eq_true_of_le (by show (o.1.length + 1) * 8<=aV; omega);dsimp only [cond_true];rw [this];cases aq x.1 1 <;> rfl) (fun i x o o' hx ho hf=>by
   simp only [Sum.inl.injEq] at hf;rw [<- hf];cases aq x.1 1 with
   | true=>show o.1.length<=_; omega
   | false=>show (o.1 ++ [x]).length<=_; rw [List.length_append]; show o.1.length + 1<=_; omega) (fun o ho=>by
   show oQ b 10 o.1 o.2 lo (ae lo) (lo.length:Int)=_;unfold oQ;rw [ax rfl]; rfl)
  have hfold:∀ (l:aX) (o:aX×Bool),l.foldl (fun o x=>bif aq x.1 1 then (o.1,true) else (o.1 ++ [x],o.2)) o=(o.1 ++ eP l,o.2 || gu l):=fun l=>by
   induction l with
   | nil=>intro o; simp [eP,gu]
   | cons x r ih => intro o;rw [List.foldl_cons,ih];unfold eP gu;rw [List.filter_cons,List.any_cons];cases aq x.1 1 <;> simp
  rw [bV,hfold] at h;exact h
 have hchk:∀ (nos:aX) (a:Int),nos.length<=1000->CC () a nos (ae nos) 0=some (bif nos.all tJ then .inl ((),a,nos,ae nos,(nos.length:Int),()) else .inr ([],0,false,())):=fun nos a hn=>by
  have h:=aG (step:=gz ph) nos (fun i (_:Unit)=>((),a,nos,ae nos,((i:Nat):Int),())) (fun _ x _=>bif tJ x then Sum.inl () else .inr (.inr ([],0,false,()))) (fun _=> .inl ((),a,nos,ae nos,(nos.length:Int),())) (a0:=()) (fun i x o hx=>by
   have hlt:=aj hx;show ph () a nos (ae nos) (i:Int)=_;unfold ph;rw [aI hx,aC hx,aW _ hx,aO (by omega),Co];dsimp only [cond_true,Option.bind_some];unfold tJ;cases aq (bm x.1) 0 <;> rfl) (fun o=>by
   show ph () a nos (ae nos) (nos.length:Int)=_;unfold ph;rw [ax rfl]; rfl)
  rw [gh] at h;refine Eq.trans h ?_;cases nos.all tJ <;> rfl
 have hlen:(eP lo).length<=64:=Nat.le_trans (List.length_filter_le _ _) k1;refine (bn hlow).trans ?_;show cond (gu lo) _ _=_;cases gu lo with
 | false => refine (bn (hchk (eP lo) 10 (by omega))).trans ?_;cases (eP lo).all tJ <;> rfl
 | true =>
   have h1:CH b 10=_:=Ht b 10 hb h10;unfold nR at h1;refine (bn h1).trans ?_;by_cases h18:18<=b.length;rotate_left
   . rw [if_neg h18,if_neg (fun h=>h18 h.1)]; rfl
   rw [if_pos h18];have k2:=lf (eL b 10 8);have k3:= @JM (eL b 10 8);generalize dV (eL b 10 8)=hi at k2 k3 ⊢;by_cases hne:hi=[]
   . rw [if_neg (fun h=>h.2 hne),hne]; rfl
   rw [if_pos ⟨h18,hne⟩];have he:aq (ae hi) 0=false:=beq_eq_false_iff_ne.2 (by
    show (hi.length:Int)≠0;cases hi with
    | nil=>exact absurd rfl hne
    | cons x r=>show ((r.length + 1:Nat):Int)≠0; omega)
   have hhi:HT (eP lo) 18 hi (ae hi) 0=some (.inl (eP lo ++ iP hi,18,hi,ae hi,(hi.length:Int),())):=by
    have h:=aT (step:=gz oC) hi (fun i (o:aX)=>(o,18,hi,ae hi,((i:Nat):Int),())) (fun _ x o=>Sum.inl (o ++ [(ak .i64 x.1 64,())])) (fun o=> .inl (o,18,hi,ae hi,(hi.length:Int),())) (fun i o=>o.length=(eP lo).length + i) (a0:=eP lo) rfl (fun i x o hx ho=>by
     have hlt:=aj hx;show oC o 18 hi (ae hi) (i:Int)=_;unfold oC;rw [aI hx,aC hx,aW _ hx,aO (by omega)];have:cT 8 o [(ak .i64 x.1 64,())]=true:=Nat.ble_eq_true_of_le (by show (o.length + 1) * 8<=aV; omega);rw [this]; rfl) (fun i x o o' hx ho hf=>by
     simp only [Sum.inl.injEq] at hf;rw [<- hf,List.length_append,ho]; rfl) (fun o ho=>by
     show oC o 18 hi (ae hi) (hi.length:Int)=_;unfold oC;rw [ax rfl]; rfl)
    have hfold:∀ (l o:aX),l.foldl (fun o x=>o ++ [(ak .i64 x.1 64,())]) o=o ++ iP l:=fun l=>by
     induction l with
     | nil=>intro o; simp [iP]
     | cons x r ih=>intro o; rw [List.foldl_cons,ih]; simp [iP]
    rw [bV,hfold] at h;exact h
   show cond (cond (!true) true (aq (ae hi) 0)) _ _=_;rw [he];refine (bn hhi).trans ?_;have hla:(eP lo ++ iP hi).length<=1000:=by rw [List.length_append]; unfold iP; rw [List.length_map]; omega
   refine (bn (hchk (eP lo ++ iP hi) 18 hla)).trans ?_;cases (eP lo ++ iP hi).all tJ <;> rfl
theorem wH {α A Y:Type} (p:α->Bool) (f:α->A->A) (y:Y) (z:A->Y):∀ (xs:List α) (i:Nat) (a:A),ju (fun _ x a=>bif p x then .inl (f x a) else .inr y) z i xs a=bif xs.all p then z (xs.foldl (fun a x=>f x a) a) else y
 | [],_,_=>rfl
 | x :: r,i,a=>by
   rw [ju,List.all_cons,List.foldl_cons];cases hp:p x with
   | true=>simp only [cond_true,Bool.true_and]; exact wH p f y z r (i + 1) _
   | false=>rfl
def IC (x:Int×Unit) (o:aX×Bool):aX×Bool:=bif aq x.1 1 then (o.1,true) else (o.1 ++ [x],o.2)
theorem E2:∀ (l:aX) (o:aX×Bool),l.foldl (fun o x=>IC x o) o=(o.1 ++ eP l,o.2 || gu l):=fun l=>by
 induction l with
 | nil=>intro o; simp [eP,gu]
 | cons x r ih => intro o;rw [List.foldl_cons,ih];unfold IC eP gu;rw [List.filter_cons,List.any_cons];cases aq x.1 1 <;> simp
def Kd (x:Int×Unit):Bool:=aq x.1 1 || tJ x
theorem Hz (l:aX):l.all Kd=(eP l).all tJ:=by
 induction l with
 | nil=>rfl
 | cons x r ih => unfold eP at ih ⊢;rw [List.all_cons,List.filter_cons,ih];unfold Kd;cases h:aq x.1 1 <;> simp
theorem Cv {o:aX} {x:Int×Unit} (h:o.length<=1048576):cT 8 o [x]=true:=Nat.ble_eq_true_of_le (by show (o.length + 1) * 8<=140737488355328; omega)
theorem TB (b:aX) (mti:List UInt8) (at':Int) (lo:aX) (hl:lo.length<=64) (m0:cF):JA b mti at' [] false lo (ae lo) 0 m0=some (bif (eP lo).all tJ then .inl (b,mti,at',eP lo,gu lo,lo,ae lo,(lo.length:Int),m0,()) else .inr (2,([],[],()),())):=by
 have h:=aT (step:=C1 oE) lo (fun i (o:aX×Bool)=>(b,mti,at',o.1,o.2,lo,ae lo,((i:Nat):Int),m0,())) (fun _ x o=>bif Kd x then Sum.inl (IC x o) else .inr (.inr (2,([],[],()),()))) (fun o=> .inl (b,mti,at',o.1,o.2,lo,ae lo,(lo.length:Int),m0,())) (fun i o=>o.1.length<=i) (a0:=([],false)) (Nat.le_refl _) (fun i x o hx ho=>by
  have hlt:=aj hx;show oE b mti at' o.1 o.2 lo (ae lo) (i:Int) m0=_;unfold oE;rw [aI hx,aC hx,aW _ hx,aO (by unfold aV; omega)];dsimp only [cond_true];rw [Am];dsimp only [Option.bind_some];rw [Cv (by omega)];unfold Kd IC tJ;cases aq x.1 1 <;> cases aq (bm x.1) 0 <;> rfl) (fun i x o o' hx ho hf=>by
  unfold IC at hf;cases hk:Kd x <;> rw [hk] at hf
  . cases hf
  . cases hf;cases aq x.1 1 with
    | true=>show o.1.length<=_; omega
    | false=>show (o.1 ++ [x]).length<=_; rw [List.length_append]; show o.1.length + 1<=_; omega) (fun o ho=>by
  show oE b mti at' o.1 o.2 lo (ae lo) (lo.length:Int) m0=_;unfold oE;rw [ax rfl]; rfl)
 rw [wH,E2,Hz] at h;refine Eq.trans h ?_;cases (eP lo).all tJ <;> rfl
theorem HU (l:aX):(iP l).all tJ=l.all fun x=>tJ (ak .i64 x.1 64,()):=by unfold iP; rw [List.all_map]; rfl
theorem FP:∀ (l o:aX),l.foldl (fun o x=>o ++ [(ak .i64 x.1 64,())]) o=o ++ iP l:=fun l=>by
 induction l with
 | nil=>intro o; simp [iP]
 | cons x r ih=>intro o; rw [List.foldl_cons,ih]; simp [iP]
theorem Ro (b:aX) (mti:List UInt8) (at':Int) (o0 hi:aX) (h0:o0.length<=64) (hl:hi.length<=64) (m0:cF):Hq b mti at' o0 hi (ae hi) 0 m0=some (bif (iP hi).all tJ then .inl (b,mti,at',o0 ++ iP hi,hi,ae hi,(hi.length:Int),m0,()) else .inr (2,([],[],()),())):=by
 have h:=aT (step:=yl nV) hi (fun i (o:aX)=>(b,mti,at',o,hi,ae hi,((i:Nat):Int),m0,())) (fun _ x o=>bif tJ (ak .i64 x.1 64,()) then Sum.inl (o ++ [(ak .i64 x.1 64,())]) else .inr (.inr (2,([],[],()),()))) (fun o=> .inl (b,mti,at',o,hi,ae hi,(hi.length:Int),m0,())) (fun i o=>o.length<=64 + i) (a0:=o0) h0 (fun i x o hx ho=>by
  have hlt:=aj hx;show nV b mti at' o hi (ae hi) (i:Int) m0=_;unfold nV;rw [aI hx,aC hx,aW _ hx,aO (by unfold aV; omega)];dsimp only [cond_true];rw [Am];dsimp only [Option.bind_some];rw [Cv (by omega)];unfold tJ;cases aq (bm (ak .i64 x.1 64)) 0 <;> rfl) (fun i x o o' hx ho hf=>by
  cases hk:tJ (ak .i64 x.1 64,()) <;> rw [hk] at hf
  . cases hf
  . cases hf;rw [List.length_append]; show o.length + 1<=_; omega) (fun o ho=>by
  show nV b mti at' o hi (ae hi) (hi.length:Int) m0=_;unfold nV;rw [ax rfl]; rfl)
 rw [wH,FP,<- HU] at h;refine Eq.trans h ?_;cases (iP hi).all tJ <;> rfl
def PO (b:aX) (mti:List UInt8) (m0:cF) (nos:aX) (n:Int):Option (List oP×Nat)->Sum (aX×Int×aX×Int×Int×cF×cF×Unit) (Int×cF×Unit)
 | some (l,e)=> .inl (b,(e:Int),nos,n,n,m0,(mti,l,()),())
 | none=> .inr (3,([],[],()),())
theorem zx (b:aX) (mti:List UInt8) (m0:cF) (ns:aX) (n:Int):∀ (nos:aX) (i a:Nat) (o:List oP),ju (fun _ x (q:Nat×List oP)=>match nJ b q.1 x.1 with | some (s,e)=>Sum.inl (e,q.2 ++ [(x.1,s,())]) | none=> .inr (.inr (3,([],[],()),()))) (fun q=> .inl (b,(q.1:Int),ns,n,n,m0,(mti,q.2,()),())) i nos (a,o)=PO b mti m0 ns n (ld b nos a o)
 | [],_,_,_=>rfl
 | x :: r,i,a,o=>by
   rw [ju,ld];cases nJ b a x.1 with
   | none=>rfl
   | some p=>exact zx b mti m0 ns n r (i + 1) p.2 _
theorem Nt {o:List oP} {x:oP} (h:o.length<=1048576):cT 24 o [x]=true:=Nat.ble_eq_true_of_le (by show (o.length + 1) * 24<=140737488355328; omega)
theorem Ri (b:aX) (hb:yf b) (a:Nat) (ha:a<=b.length) (nos:aX) (hn:nos.length<=1000) (mti:List UInt8) (m0:cF):Jg b (a:Int) nos (ae nos) 0 m0 (mti,[],())=some (PO b mti m0 nos (ae nos) (ld b nos a [])):=by
 have h:=aT (step:=Hp ot) nos (fun i (q:Nat×List oP)=>(b,(q.1:Int),nos,ae nos,((i:Nat):Int),m0,(mti,q.2,()),())) (fun _ x q=>match nJ b q.1 x.1 with | some (s,e)=>Sum.inl (e,q.2 ++ [(x.1,s,())]) | none=> .inr (.inr (3,([],[],()),()))) (fun q=> .inl (b,(q.1:Int),nos,ae nos,(nos.length:Int),m0,(mti,q.2,()),())) (fun i q=>q.1<=b.length/\q.2.length<=i) (a0:=(a,[])) ⟨ha,Nat.le_refl _⟩ (fun i x q hx hq=>by
  have hlt:=aj hx;show ot b (q.1:Int) nos (ae nos) (i:Int) m0 (mti,q.2,())=_;unfold ot;rw [aI hx,aC hx,aW _ hx,aO (by unfold aV; omega),SW b q.1 x.1 hb hq.1];unfold lx;cases nJ b q.1 x.1 with
  | none=>rfl
  | some p =>
    dsimp only [cond_true,Option.bind_some,Bool.not_true,cond_false];rw [Nt (Nat.le_trans hq.2 (by omega))]; rfl) (fun i x q q' hx hq hf=>by
  cases hg:nJ b q.1 x.1 with
  | none=>rw [hg] at hf; cases hf
  | some p =>
    rw [hg] at hf;cases hf;refine ⟨(rN hq.1 hg).2.2,?_⟩;show (q.2 ++ [_]).length<=_;rw [List.length_append];exact Nat.succ_le_succ hq.2) (fun q hq=>by
  show ot b (q.1:Int) nos (ae nos) (nos.length:Int) m0 (mti,q.2,())=_;unfold ot;rw [ax rfl]; rfl)
 rw [show (fun (q:Nat×List oP)=>(Sum.inl (b,(q.1:Int),nos,ae nos,(nos.length:Int),m0,(mti,q.2,()),()):Sum (aX×Int×aX×Int×Int×cF×cF×Unit) (Int×cF×Unit)))=fun q=> .inl (b,(q.1:Int),nos,ae nos,ae nos,m0,(mti,q.2,()),()) from rfl,zx] at h;exact h
theorem QC (b:aX) (hb:yf b) (a:Nat) (ha:a<=b.length) (nos:aX) (hn:nos.length<=1000) (mti:List UInt8) (m0:cF):zI b (a:Int) nos (ae nos) 0 m0 (mti,[],())=some (PO b mti m0 nos (ae nos) (ld b nos a [])):=by
 have h:=aT (step:=Hp pS) nos (fun i (q:Nat×List oP)=>(b,(q.1:Int),nos,ae nos,((i:Nat):Int),m0,(mti,q.2,()),())) (fun _ x q=>match nJ b q.1 x.1 with | some (s,e)=>Sum.inl (e,q.2 ++ [(x.1,s,())]) | none=> .inr (.inr (3,([],[],()),()))) (fun q=> .inl (b,(q.1:Int),nos,ae nos,(nos.length:Int),m0,(mti,q.2,()),())) (fun i q=>q.1<=b.length/\q.2.length<=i) (a0:=(a,[])) ⟨ha,Nat.le_refl _⟩ (fun i x q hx hq=>by
  have hlt:=aj hx;show pS b (q.1:Int) nos (ae nos) (i:Int) m0 (mti,q.2,())=_;unfold pS;rw [aI hx,aC hx,aW _ hx,aO (by unfold aV; omega),TT b q.1 x.1 hb hq.1];unfold lx;cases nJ b q.1 x.1 with
  | none=>rfl
  | some p =>
    dsimp only [cond_true,Option.bind_some,Bool.not_true,cond_false];rw [Nt (Nat.le_trans hq.2 (by omega))]; rfl) (fun i x q q' hx hq hf=>by
  cases hg:nJ b q.1 x.1 with
  | none=>rw [hg] at hf; cases hf
  | some p =>
    rw [hg] at hf;cases hf;refine ⟨(rN hq.1 hg).2.2,?_⟩;show (q.2 ++ [_]).length<=_;rw [List.length_append];exact Nat.succ_le_succ hq.2) (fun q hq=>by
  show pS b (q.1:Int) nos (ae nos) (nos.length:Int) m0 (mti,q.2,())=_;unfold pS;rw [ax rfl]; rfl)
 rw [show (fun (q:Nat×List oP)=>(Sum.inl (b,(q.1:Int),nos,ae nos,(nos.length:Int),m0,(mti,q.2,()),()):Sum (aX×Int×aX×Int×Int×cF×cF×Unit) (Int×cF×Unit)))=fun q=> .inl (b,(q.1:Int),nos,ae nos,ae nos,m0,(mti,q.2,()),()) from rfl,zx] at h;exact h
theorem AA {b:aX} {p:aX×Nat} (h:Cc b=some p):p.1.length<=1000/\p.2<=b.length:=by
 have k1:=lf (eL b 2 8);have k2:=lf (eL b 10 8);have k3:(eP (dV (eL b 2 8))).length<=64:=Nat.le_trans (List.length_filter_le _ _) k1;have k4:(iP (dV (eL b 10 8))).length<=64:=by unfold iP; rw [List.length_map]; exact k2
 unfold Cc at h;by_cases h10:10<=b.length;rotate_left
 . rw [if_neg h10] at h; cases h
 rw [if_pos h10] at h;cases hm:gu (dV (eL b 2 8)) <;> rw [hm] at h
 . cases hk:(eP (dV (eL b 2 8))).all tJ <;> rw [hk] at h <;> cases h;exact ⟨by show (eP (dV (eL b 2 8))).length<=_; omega,h10⟩
 . by_cases h18:18<=b.length/\dV (eL b 10 8)≠[]
   . rw [cond_true,if_pos h18] at h;cases hk:(eP (dV (eL b 2 8)) ++ iP (dV (eL b 10 8))).all tJ <;> rw [hk] at h <;> cases h;refine ⟨?_,h18.1⟩;show (eP (dV (eL b 2 8)) ++ iP (dV (eL b 10 8))).length<=_;rw [List.length_append]; omega
   . rw [cond_true,if_neg h18] at h; cases h
theorem TR (b:aX) (hb:yf b):Le b=Gy (kC b):=by
 unfold Le kC Gy;have h0:vr b 0 4=xJ (ja b 0 4) 2:=DH b 0 4 hb (Nat.zero_le _) (by omega);rw [h0];cases hc:ja b 0 4 with
 | none=>rfl
 | some mti =>
   have h2:2<=b.length:=(dR hc).2.2.2.2;show Option.bind (Iu b) _=_;rw [Sb b hb h2];cases hn:Cc b with
   | none=>rfl
   | some p =>
     obtain ⟨n1,n2⟩:=AA hn;obtain ⟨nos,a⟩:=p;refine (bn (Ri b hb a n2 nos n1 mti ([],[],()))).trans ?_;dsimp only;cases ld b nos a [] with
     | none=>rfl
     | some q =>
       obtain ⟨l,e⟩:=q;show cond (!(aq (e:Int) (b.length:Int))) _ _=_;dsimp only;by_cases he:e=b.length
       . rw [if_pos he,he,bq]; rfl
       . rw [if_neg he,show aq (e:Int) (b.length:Int)=false from beq_eq_false_iff_ne.2 (by omega)]; rfl
theorem Ua (b:aX) (hb:yf b):Nb b=Gy (kC b):=by
 unfold Nb kC Gy;have h0:yO b 0 4=xJ (ja b 0 4) 2:=Ke b 0 4 hb (Nat.zero_le _) (by omega);rw [h0];cases hc:ja b 0 4 with
 | none=>rfl
 | some mti =>
   have h2:2<=b.length:=(dR hc).2.2.2.2;have h1:AM b 2=nR b 2:=Kl b 2 hb h2;show Option.bind (AM b 2) _=_;rw [h1];unfold nR Cc;have k1:=lf (eL b 2 8);generalize hlo:dV (eL b 2 8)=lo at k1 ⊢;have k3:(eP lo).length<=64:=Nat.le_trans (List.length_filter_le _ _) k1;have tail:∀ (nos:aX) (a:Nat),a<=b.length->nos.length<=1000->∀ m0:cF,(Option.bind (zI b (a:Int) nos (ae nos) 0 m0 (mti,[],())) (Sum.elim (fun y6=>cond (!(aq y6.2.1 (ae y6.1))) (some ((),(([],[],()),(4,()),()))) (some ((),(y6.2.2.2.2.2.2.1,(0,()),())))) (fun y6=>some ((),(y6.2.1,(y6.1,()),())))))=some ((),(match ld b nos a [] with | none=>(([],[],()),3) | some (l,e)=>if e=b.length then ((mti,l,()),0) else (([],[],()),4):cF×Int).1,((match ld b nos a [] with | none=>(([],[],()),3) | some (l,e)=>if e=b.length then ((mti,l,()),0) else (([],[],()),4):cF×Int).2,()),()):=fun nos a ha hn m0=>by
    rw [QC b hb a ha nos hn mti m0];cases ld b nos a [] with
    | none=>rfl
    | some q =>
      obtain ⟨l,e⟩:=q;show cond (!(aq (e:Int) (b.length:Int))) _ _=_;dsimp only;by_cases he:e=b.length
      . rw [if_pos he,he,bq]; rfl
      . rw [if_neg he,show aq (e:Int) (b.length:Int)=false from beq_eq_false_iff_ne.2 (by omega)]; rfl
   by_cases h10:10<=b.length;rotate_left
   . rw [if_neg h10,if_neg (show ¬ 2 + 8<=b.length from h10)]; rfl
   rw [if_pos h10,if_pos (show 2 + 8<=b.length from h10)];refine (bn (TB b mti 10 lo k1 ([],[],()))).trans ?_;cases hk:(eP lo).all tJ with
   | false =>
     dsimp only [cond_false];cases gu lo with
     | false=>rfl
     | true =>
       dsimp only [cond_true];rw [List.all_append,hk];by_cases h18:18<=b.length/\dV (eL b 10 8)≠[]
       . rw [if_pos h18]; rfl
       . rw [if_neg h18]; rfl
   | true =>
     dsimp only [cond_true];show cond (gu lo) _ _=_;cases gu lo with
     | false=>exact tail (eP lo) 10 h10 (by omega) _
     | true =>
       dsimp only [cond_true];have h3:AM b 10=nR b 10:=Kl b 10 hb h10;refine (bn h3).trans ?_;unfold nR;have k2:=lf (eL b 10 8);generalize dV (eL b 10 8)=hi at k2 ⊢;by_cases h18:18<=b.length;rotate_left
       . rw [if_neg (show ¬ 10 + 8<=b.length from h18),if_neg (fun h=>h18 h.1)]; rfl
       rw [if_pos (show 10 + 8<=b.length from h18)];by_cases hne:hi=[]
       . rw [if_neg (fun h=>h.2 hne),hne]; rfl
       rw [if_pos ⟨h18,hne⟩];have he:aq (ae hi) 0=false:=beq_eq_false_iff_ne.2 (by
        show (hi.length:Int)≠0;cases hi with
        | nil=>exact absurd rfl hne
        | cons x r=>show ((r.length + 1:Nat):Int)≠0; omega)
       show cond (cond (!true) true (aq (ae hi) 0)) _ _=_;rw [he];refine (bn (Ro b mti 18 (eP lo) hi k3 k2 ([],[],()))).trans ?_;rw [List.all_append,hk];cases (iP hi).all tJ with
       | false=>rfl
       | true=>exact tail (eP lo ++ iP hi) 18 h18 (by rw [List.length_append]; unfold iP; rw [List.length_map]; omega) _
abbrev kB:=Int×(List UInt8)×(List UInt8)×(List UInt8)×(List UInt8)×(List UInt8)×Int×Int×Unit
theorem vc (xs:List (Int×Unit)) (v:Int) (hs:xs.length<=1048576):QT xs v=some ((),((bD 0 (gG (fun y=>aq v y.1) 0 xs),()),())):=by
 have hbig:aV=140737488355328:=rfl;unfold QT Yj;have h:=aG (step:=dh vQ) xs (fun i (_:Unit)=>(xs,v,ae xs,((i:Nat):Int),())) (fun i y _=>bif aq v y.1 then Sum.inr (.inr ((i:Int),())) else Sum.inl ()) (fun _=> .inl (xs,v,ae xs,(xs.length:Int),())) (a0:=()) (fun i y u hy=>by
  have hlt:=aj hy;show vQ xs v (ae xs) (i:Int)=_;unfold vQ;rw [aI hy,aC hy,aW _ hy,aO (by omega)];dsimp only [cond_true];cases aq v y.1 <;> rfl) (fun u=>by
  show vQ xs v (ae xs) (xs.length:Int)=_;unfold vQ;rw [ax rfl]; rfl)
 have h':O1 xs v (ae xs) 0=_:=h;rw [h'];have hf:=mE (Y:=Sum ((List (Int×Unit))×Int×Int×Int×Unit) (Int×Unit)) (fun (y:Int×Unit)=>aq v y.1) (fun n=> .inr (n,())) (.inl (xs,v,ae xs,(xs.length:Int),())) (fun y=>match y with | .inl _ => -1 | .inr z=>z.1) (fun _=>rfl) rfl xs 0;rw [<- hf];dsimp only [Option.bind_some];cases ju _ _ 0 xs () <;> rfl
def Kr (op:Int):List UInt8:=gt ([],()) [([],()),([48,49,48,48],()),([48,49,48,48],()),([48,50,50,48],()),([48,50,50,48],()),([48,50,50,48],()),([48,50,48,48],()),([48,49,48,48],()),([48,50,48,48],())] op |>.1
def qg (q:kB):Bool:=dv q.1 1 8 && cq q.2.2.2.2.2.1 (Kr q.1) && fF q.2.1 && aY q.2.2.2.2.1 && aq (ae q.2.2.2.2.1) 6 && (cond (au q.1 7) (ig q.2.2.2.1) (cq q.2.2.2.1 [])) && (cond (au q.1 5) (dv q.2.2.2.2.2.2.1 0 999999999999) (aq q.2.2.2.2.2.2.1 0)) && (cond (aq q.1 1) (dv q.2.2.2.2.2.2.2.1 0 9999) (aq q.2.2.2.2.2.2.2.1 0)) && (cond (aq q.1 6) (fF q.2.2.1) (cq q.2.2.1 []))
def IQ (q:kB):Prop:=q.2.1.length<=1048576/\q.2.2.1.length<=1048576/\q.2.2.2.1.length<=1048576/\q.2.2.2.2.1.length<=1048576/\q.2.2.2.2.2.1.length<=1048576
theorem qH {op:Int} (h:dv op 1 8=true):op=1∨op=2∨op=3∨op=4∨op=5∨op=6∨op=7∨op=8:=by have:=fC.1 h;omega
theorem S4 (q:kB) (hb:IQ q):kK q=some ((),((qg q,()),())):=by
 obtain ⟨op,acct,other,hold,trace,mti,amt,ttl,_⟩:=q;obtain ⟨b1,b2,b3,b4,b5⟩:=hb;cases hop:dv op 1 8 with
 | false => unfold kK AZ qg;rw [kr,hop]; rfl
 | true =>
   have k1:=vU acct (cE b1);have k2:=vU other (cE b2);have k3:=Bx hold (cE b3);have k4:=fO trace (cE b4);have k5:AZ op=some ((),((true,()),())):=by unfold AZ; rw [kr,hop]; rfl
   have k6:GK op=some ((),((Kr op,()),())):=by unfold GK;rw [k5];rcases qH hop with h | h | h | h | h | h | h | h <;> subst h <;> rfl
   have k7:Gn op=some ((),((au op 7,()),())):=by unfold Gn; rw [k5]; rfl
   have k8:By op=some ((),((au op 5,()),())):=by unfold By;rw [kr];rcases qH hop with h | h | h | h | h | h | h | h <;> subst h <;> rfl
   have k9:=kr amt 0 999999999999;have k10:=kr ttl 0 9999;unfold kK qg;dsimp only;rw [k5,k6,k1,k4,k7,k8,k3,k9,k10,k2];dsimp only [Option.bind_some];rw [hop];cases cq mti (Kr op) <;> first | rfl | skip
   cases fF acct <;> first | rfl | skip
   cases aY trace <;> first | rfl | skip
   cases aq (ae trace) 6 <;> first | rfl | skip
   cases au op 7 <;> cases ig hold <;> cases cq hold [] <;> first | rfl | skip
   all_goals (cases au op 5 <;> cases dv amt 0 999999999999 <;> cases aq amt 0 <;> first | rfl | skip)
   all_goals (cases aq op 1 <;> cases dv ttl 0 9999 <;> cases aq ttl 0 <;> first | rfl | skip)
   all_goals (cases aq op 6 <;> cases fF other <;> rfl)
theorem Rf {op:Int} (hop:dv op 1 8=true):kz op 38=some ((),((au op 7,()),()))/\kz op 4=some ((),((au op 5,()),()))/\kz op 14=some ((),((aq op 1,()),()))/\kz op 103=some ((),((aq op 6,()),())):=by unfold kz An;rw [iZ,hop];rcases qH hop with h | h | h | h | h | h | h | h <;> subst h <;> refine ⟨?_,?_,?_,?_⟩ <;> (refine (congrArg (fun z=>Option.bind z fun y2=>some ((),(y2.2.1,()))) (vc _ _ ?_)).trans ?_) <;> first | rfl | decide
theorem Qk {op:Int} (hop:dv op 1 8=true):∃ (nm:List UInt8×List UInt8) (fs:List (Int×Unit)),An op=some ((),((Kr op,nm.1,nm.2,fs,()),()))/\cq nm.2 []=false:=by unfold An;rw [iZ,hop];rcases qH hop with h | h | h | h | h | h | h | h <;> subst h <;> exact ⟨(_,_),_,rfl,rfl⟩
theorem U0 (q:kB) (hb:IQ q):HA q=some ((),((qg q,()),())):=by
 obtain ⟨op,acct,other,hold,trace,mti,amt,ttl,_⟩:=q;obtain ⟨b1,b2,b3,b4,b5⟩:=hb;cases hop:dv op 1 8 with
 | false => unfold HA An qg;rw [iZ,hop]; rfl
 | true =>
   have k1:=wQ acct (cE b1);have k2:=wQ other (cE b2);have k3:=BP hold (cE b3);have k4:vq trace 6=some ((),((cond (aY trace) (aq (ae trace) 6) false,()),())):=by unfold vq; rw [gJ trace (cE b4)]; rfl
   obtain ⟨nm,fs,k5,k6⟩:=Qk hop;obtain ⟨u1,u2,u3,u4⟩:=Rf hop;have k9:=iZ amt 0 999999999999;have k10:=iZ ttl 0 9999;unfold HA qg;dsimp only;rw [k5,k1,k4,u1,u2,u3,u4,k3,k9,k10,k2];dsimp only [Option.bind_some];rw [hop,k6];cases cq mti (Kr op) <;> first | rfl | skip
   cases fF acct <;> first | rfl | skip
   cases aY trace <;> first | rfl | skip
   cases aq (ae trace) 6 <;> first | rfl | skip
   cases au op 7 <;> cases ig hold <;> cases cq hold [] <;> cases au op 5 <;> cases dv amt 0 999999999999 <;> cases aq amt 0 <;> cases aq op 1 <;> cases dv ttl 0 9999 <;> cases aq ttl 0 <;> cases aq op 6 <;> cases fF other <;> cases cq other [] <;> rfl
def lZ (s:List UInt8):Nat->Nat
 | 0=>0
 | n + 1=>bif aq (dy s (n:Int)) 32 then lZ s n else n + 1
def sF (s:List UInt8):List UInt8:=s.take (lZ s s.length)
theorem Bn (s:List UInt8):∀ n,lZ s n<=n
 | 0=>Nat.le_refl _
 | n + 1=>by
   unfold lZ;cases aq (dy s (n:Int)) 32 with
   | true=>exact Nat.le_succ_of_le (Bn s n)
   | false=>exact Nat.le_refl _
theorem Q6 (s:List UInt8) (hs:s.length<=aV):Lh s=some ((),((sF s,()),())):=by
 have hbig:aV=140737488355328:=rfl;have h:∀ n:Nat,n<=s.length->Hc s (n:Int)=some (.inl (s,((lZ s n:Nat):Int),())):=fun n=>by
  induction n with
  | zero=>intro _; exact aF _ rfl
  | succ n ih =>
    intro hn;have e:zr s ((n + 1:Nat):Int)=bif aq (dy s (n:Int)) 32 then some (.inl (s,(n:Int),())) else some (.inr (.inl (s,((n + 1:Nat):Int),()))):=by unfold zr;rw [aD (show (0:Int) < ((n + 1:Nat):Int) by omega),aR (by omega) (by omega),show ((n + 1:Nat):Int) - 1=(n:Int) by omega];dsimp only [cond_true];rw [kt (xs:=s) (by omega)];cases aq (dy s (n:Int)) 32 <;> rfl
    cases hc:aq (dy s (n:Int)) 32 with
    | true => rw [hc] at e;unfold lZ;rw [hc];exact aP _ e (ih (by omega))
    | false => rw [hc] at e;unfold lZ;rw [hc];exact aF _ e
 unfold Lh;refine (bn (h s.length (Nat.le_refl _))).trans ?_;show cond (dO 0 ((lZ s s.length:Nat):Int) s) (some ((),((sub s 0 ((lZ s s.length:Nat):Int),()),()))) none=_;rw [jj (Bn s s.length),qC]; rfl
theorem P5 (s:List UInt8) (hs:s.length<=aV):G1 s 32=some ((),((sF s,()),())):=by
 have hbig:aV=140737488355328:=rfl;have h:∀ n:Nat,n<=s.length->Iy (s.take n) 32=some (.inl (s.take (lZ s n),32,())):=fun n=>by
  induction n with
  | zero=>intro _; exact aF _ rfl
  | succ n ih =>
    intro hn;have hl:(s.take (n + 1)).length=n + 1:=by rw [List.length_take]; omega
    have hb:dy (s.take (n + 1)) (n:Int)=dy s (n:Int):=by have hx:s[n]? = some (s[n]'(by omega)):=List.getElem?_eq_getElem (by omega);rw [eG hx,eG (xs:=s.take (n + 1)) (x:=s[n]'(by omega)) (by rw [List.getElem?_take,if_pos (by omega)]; exact hx)]
    have e:zm (s.take (n + 1)) 32=bif aq (dy s (n:Int)) 32 then some (.inl (s.take n,32,())) else some (.inr (.inl (s.take (n + 1),32,()))):=by unfold zm;rw [show ae (s.take (n + 1))=((n + 1:Nat):Int) from congrArg Int.ofNat hl];dsimp only;rw [aD (show (0:Int) < ((n + 1:Nat):Int) by omega),aR (by omega) (by omega),show ((n + 1:Nat):Int) - 1=(n:Int) by omega,kt (xs:=s.take (n + 1)) (by omega),hb,jj (xs:=s.take (n + 1)) (i:=n) (by omega),qC,List.take_take,Nat.min_eq_left (Nat.le_succ n)];cases aq (dy s (n:Int)) 32 <;> rfl
    cases hc:aq (dy s (n:Int)) 32 with
    | true => rw [hc] at e;unfold lZ;rw [hc];exact aP _ e (ih (by omega))
    | false => rw [hc] at e;unfold lZ;rw [hc];exact aF _ e
 have h0:=h s.length (Nat.le_refl _);rw [List.take_length] at h0;unfold G1;refine (bn h0).trans rfl
theorem PS (s:List UInt8) (hs:s.length<=aV):Lk s=some ((),((sF s,()),())):=by
 unfold Lk QY;cases he:cq s [] with
 | true =>
   have:s=[]:=by simpa [cq] using he
   subst this;rfl
 | false => have e:G1 s (dy [32] 0)=_:=P5 s hs;dsimp only;rw [e]; rfl
theorem Hf (s:List UInt8):(sF s).length<=s.length:=by unfold sF; rw [List.length_take]; exact Nat.min_le_right _ _
abbrev mW:=List UInt8×Unit
theorem Rr (a b:List UInt8):LP a b=some ((),((kd a b,()),())):=by unfold LP K1;rw [ep]; rfl
theorem Q3 (a b:Int):KP a b=some ((),((au a b,()),())):=by unfold KP MN;rw [bq]; rfl
theorem OF:Fc 1=some ((),((1,()),())):=rfl
theorem Ol:Fc 2=some ((),((2,()),())):=rfl
theorem MK (x:mW):Ch [x]=some ((([x],()),()),()):=by have h:pM [x] 0 1 1=some (.inl ([x],0,1,1,())):=aF _ rfl;unfold Ch;refine (bn OF).trans ?_;show Option.bind (Option.bind (Option.bind (pM [x] 0 1 1) _) _) _=_;rw [h]; rfl
def RF (x y:mW):List mW:=bif kd y.1 x.1 then [y,x] else [x,y]
theorem Ms (x y:mW):Ch [x,y]=some (((RF x y,()),()),()):=by
 have hi:uJ [x,y] 0 2 1 1=some (.inl (RF x y,0,2,1,(bif kd y.1 x.1 then 0 else 1),())):=by
  have e:uM [x,y] 0 2 1 1=bif kd y.1 x.1 then some (.inl ([y,x],0,2,1,0,())) else some (.inr (.inl ([x,y],0,2,1,1,()))):=by unfold uM;dsimp only;rw [Rr];rfl
  unfold RF;cases hc:kd y.1 x.1 with
  | true=>rw [hc] at e; exact aP _ e (aF _ rfl)
  | false=>rw [hc] at e; exact aF _ e
 have h:pM [x,y] 0 2 1=some (.inl (RF x y,0,2,2,())):=by
  have e:wG [x,y] 0 2 1=some (.inl (RF x y,0,2,2,())):=by unfold wG;show Option.bind (uJ [x,y] 0 2 1 1) _=_;rw [hi]; rfl
  exact aP _ e (aF _ rfl)
 unfold Ch;refine (bn Ol).trans ?_;show Option.bind (Option.bind (Option.bind (pM [x,y] 0 2 1) _) _) _=_;rw [h]; rfl
theorem zO (x y:mW):Gx [x,y]=some ((),((bif cq y.1 x.1 then [x] else [x,y],()),())):=by
 have e:z8 [x,y] 1=bif cq y.1 x.1 then some (.inr (.inr ([x],()))) else some (.inl ([x,y],2,())):=rfl;have h:uY [x,y] 1=some (bif cq y.1 x.1 then .inr ([x],()) else .inl ([x,y],2,())):=by
  cases hc:cq y.1 x.1 with
  | true=>rw [hc] at e; exact aF _ e
  | false=>rw [hc] at e; exact aP _ e (aF _ rfl)
 unfold Gx;show Option.bind (uY [x,y] 1) _=_;rw [h];cases cq y.1 x.1 <;> rfl
abbrev cJ:=Int×Unit
theorem L5 (x:cJ):uQ [x]=some ((([x],()),()),()):=by have h:lK [x] 0 1 1=some (.inl ([x],0,1,1,())):=aF _ rfl;unfold uQ;refine (bn OF).trans ?_;show Option.bind (Option.bind (Option.bind (lK [x] 0 1 1) _) _) _=_;rw [h]; rfl
theorem MA:uQ []=some ((([],()),()),()):=by have h:lK [] 0 0 1=some (.inl ([],0,0,1,())):=aF _ rfl;unfold uQ;refine (bn (show Fc 0=some ((),((0,()),())) from rfl)).trans ?_;show Option.bind (Option.bind (Option.bind (lK [] 0 0 1) _) _) _=_;rw [h]; rfl
def RH (x y:cJ):List cJ:=bif au y.1 x.1 then [y,x] else [x,y]
theorem L6 (x y:cJ):uQ [x,y]=some (((RH x y,()),()),()):=by
 have hi:xt [x,y] 0 2 1 1=some (.inl (RH x y,0,2,1,(bif au y.1 x.1 then 0 else 1),())):=by
  have e:vd [x,y] 0 2 1 1=bif au y.1 x.1 then some (.inl ([y,x],0,2,1,0,())) else some (.inr (.inl ([x,y],0,2,1,1,()))):=by unfold vd;dsimp only;rw [Q3];rfl
  unfold RH;cases hc:au y.1 x.1 with
  | true=>rw [hc] at e; exact aP _ e (aF _ rfl)
  | false=>rw [hc] at e; exact aF _ e
 have h:lK [x,y] 0 2 1=some (.inl (RH x y,0,2,2,())):=by
  have e:wN [x,y] 0 2 1=some (.inl (RH x y,0,2,2,())):=by unfold wN;show Option.bind (xt [x,y] 0 2 1 1) _=_;rw [hi]; rfl
  exact aP _ e (aF _ rfl)
 unfold uQ;refine (bn Ol).trans ?_;show Option.bind (Option.bind (Option.bind (lK [x,y] 0 2 1) _) _) _=_;rw [h]; rfl
theorem DI (x y:cJ):J2 [x,y]=some ((),((bif aq y.1 x.1 then [x] else [x,y],()),())):=by
 have e:Ae [x,y] 1=bif aq y.1 x.1 then some (.inr (.inr ([x],()))) else some (.inl ([x,y],2,())):=rfl;have h:uZ [x,y] 1=some (bif aq y.1 x.1 then .inr ([x],()) else .inl ([x,y],2,())):=by
  cases hc:aq y.1 x.1 with
  | true=>rw [hc] at e; exact aF _ e
  | false=>rw [hc] at e; exact aP _ e (aF _ rfl)
 unfold J2;show Option.bind (uZ [x,y] 1) _=_;rw [h];cases aq y.1 x.1 <;> rfl
def nN (n:Int):List mW->List cJ
 | [a]=>[(aw a.1 n,())]
 | [a,b]=>bif au (aw b.1 n) (aw a.1 n) then [(aw b.1 n,()),(aw a.1 n,())] else bif aq (aw b.1 n) (aw a.1 n) then [(aw a.1 n,())] else [(aw a.1 n,()),(aw b.1 n,())]
 | _=>[]
def Fu (l:List mW):Prop:=l.length<=2/\∀ x∈l,x.1.length<=1048576
theorem MI (n:Int):∀ (ids:List mW) (h:Fu ids),NK n [] ids (ae ids) 0=some (.inl (n,ids.map (fun x=>(aw x.1 n,())),ids,ae ids,ae ids,())):=fun ids hb=>by
 have h:=aT (step:=gz v7) ids (fun i (o:List cJ)=>(n,o,ids,ae ids,((i:Nat):Int),())) (fun _ x o=>Sum.inl (o ++ [(aw x.1 n,())])) (fun o=> .inl (n,o,ids,ae ids,ae ids,())) (fun i o=>o.length=i) (a0:=[]) rfl (fun i x o hx ho=>by
  have hlt:=aj hx;have:=hb.1;show v7 n o ids (ae ids) (i:Int)=_;unfold v7;rw [aI hx,aC hx,aW _ hx,aO (by unfold aV; omega),A3 x.1 n (cE (hb.2 x (List.mem_of_getElem? hx)))];dsimp only [cond_true,Option.bind_some];rw [Cv (by omega)]; rfl) (fun i x o o' hx ho hf=>by
  cases hf;rw [List.length_append,ho]; rfl) (fun o ho=>by
  show v7 n o ids (ae ids) (ids.length:Int)=_;unfold v7;rw [ax rfl]; rfl)
 rw [bV] at h;refine Eq.trans h ?_;have:∀ (l:List mW) (o:List cJ),l.foldl (fun o x=>o ++ [(aw x.1 n,())]) o=o ++ l.map (fun x=>(aw x.1 n,())):=fun l=>by
  induction l with
  | nil=>intro o; simp
  | cons x r ih=>intro o; rw [List.foldl_cons,ih]; simp
 rw [this]; rfl
theorem Qs (ids:List mW) (n:Int) (hb:Fu ids):VL ids n=some ((),((nN n ids,()),())):=by
 unfold VL;refine (bn (MI n ids hb)).trans ?_
 match ids,hb with
 | [],_ => show Option.bind (uQ []) _=_;rw [MA]; rfl
 | [a],_ => show Option.bind (uQ [(aw a.1 n,())]) _=_;rw [L5]; rfl
 | [a,b],_ =>
   show Option.bind (uQ [(aw a.1 n,()),(aw b.1 n,())]) _=_;rw [L6];unfold RH nN;dsimp only [Option.bind_some];cases hc:au (aw b.1 n) (aw a.1 n) with
   | true => dsimp only [cond_true];rw [DI];have hlt:aw b.1 n < aw a.1 n:=of_decide_eq_true hc;rw [show aq (aw a.1 n) (aw b.1 n)=false from beq_eq_false_iff_ne.2 (by omega)]; rfl
   | false => dsimp only [cond_false];rw [DI]; rfl
 | _ :: _ :: _ :: _,hb=>exact absurd hb.1 (by simp)
theorem Qm (ids:List mW) (n:Int) (hb:Fu ids):V3 ids n=some ((),((nN n ids,()),())):=by
 have inn:∀ (o:List cJ) (x:Int) (ids:List mW) (k j:Int),yo n [] x 0 ids k j=some (.inl (n,[],x,0,ids,k,j,())):=fun o x ids k j=>aF _ rfl
 have in1:∀ (s x:Int) (ids:List mW) (k j:Int),yo n [(s,())] x 0 ids k j=some (.inl (n,[(s,())],x,(bif au s x then 1 else 0),ids,k,j,())):=fun s x ids k j=>by
  have e:JP n [(s,())] x 0 ids k j=bif au s x then some (.inl (n,[(s,())],x,1,ids,k,j,())) else some (.inr (.inl (n,[(s,())],x,0,ids,k,j,()))):=rfl;cases hc:au s x with
  | true=>rw [hc] at e; exact aP _ e (aF _ rfl)
  | false=>rw [hc] at e; exact aF _ e
 unfold V3
 match ids,hb with
 | [],_ => have h:D1 n [] [] 0 0=some (.inl (n,[],[],0,0,())):=aF _ rfl;exact (bn h).trans rfl
 | [a],hb =>
   have e:sH n [] [a] 1 0=some (.inl (n,[(aw a.1 n,())],[a],1,1,())):=by unfold sH;show Option.bind (Ny a.1 n) _=_;rw [p7 a.1 n (cE (hb.2 a (by simp)))];show Option.bind (yo n [] (aw a.1 n) 0 [a] 1 0) _=_;rw [inn []]; rfl
   have h:D1 n [] [a] 1 0=some (.inl (n,[(aw a.1 n,())],[a],1,1,())):=aP _ e (aF _ rfl);exact (bn h).trans rfl
 | [a,b],hb =>
   have e1:sH n [] [a,b] 2 0=some (.inl (n,[(aw a.1 n,())],[a,b],2,1,())):=by unfold sH;show Option.bind (Ny a.1 n) _=_;rw [p7 a.1 n (cE (hb.2 a (by simp)))];show Option.bind (yo n [] (aw a.1 n) 0 [a,b] 2 0) _=_;rw [inn []]; rfl
   have e2:sH n [(aw a.1 n,())] [a,b] 2 1=some (.inl (n,nN n [a,b],[a,b],2,2,())):=by
    unfold sH;show Option.bind (Ny b.1 n) _=_;rw [p7 b.1 n (cE (hb.2 b (by simp)))];show Option.bind (yo n [(aw a.1 n,())] (aw b.1 n) 0 [a,b] 2 1) _=_;rw [in1,show nN n [a,b]=bif au (aw b.1 n) (aw a.1 n) then [(aw b.1 n,()),(aw a.1 n,())] else bif aq (aw b.1 n) (aw a.1 n) then [(aw a.1 n,())] else [(aw a.1 n,()),(aw b.1 n,())] from rfl];cases hc:au (aw a.1 n) (aw b.1 n) with
    | true => have hlt:aw a.1 n < aw b.1 n:=of_decide_eq_true hc;rw [ay (show ¬ aw b.1 n < aw a.1 n by omega),show aq (aw b.1 n) (aw a.1 n)=false from beq_eq_false_iff_ne.2 (by omega)]; rfl
    | false =>
      have hge:¬ aw a.1 n < aw b.1 n:=of_decide_eq_false hc;dsimp only [Option.bind_some,cond_false,Sum.elim_inl];show cond (aq (aw a.1 n) (aw b.1 n)) _ _=_;by_cases he:aw a.1 n=aw b.1 n
      . rw [he,bq,ay (show ¬ aw b.1 n < aw b.1 n by omega)]; rfl
      . rw [show aq (aw a.1 n) (aw b.1 n)=false from beq_eq_false_iff_ne.2 he,aD (show aw b.1 n < aw a.1 n by omega)]; rfl
   have h:D1 n [] [a,b] 2 0=some (.inl (n,nN n [a,b],[a,b],2,2,())):=aP _ e1 (aP _ e2 (aF _ rfl));exact (bn h).trans rfl
 | _ :: _ :: _ :: _,hb=>exact absurd hb.1 (by simp)
def gX:kB:=(0,[],[],[],[],[],0,0,())
def yJ (s:List UInt8):Bool:=cond (cond (cq s [48,49,48,48]) true (cq s [48,50,48,48])) true (cq s [48,50,50,48])
abbrev Fl:=List UInt8×List UInt8×List UInt8×List (Int×Unit)×Unit
def cZ:List Fl:=[([48,49,48,48],[48,48],[97,117,116,104],[(4,()),(14,()),(38,())],()),([48,49,48,48],[48,50],[109,111,114,101],[(4,()),(38,())],()),([48,50,50,48],[48,49],[112,97,114,116],[(4,()),(38,())],()),([48,50,50,48],[48,48],[102,105,110,97,108],[(4,()),(38,())],()),([48,50,50,48],[50,48],[102,114,101,101],[(38,())],()),([48,50,48,48],[52,48],[109,111,118,101],[(38,()),(103,())],()),([48,49,48,48],[51,49],[97,115,107],[],()),([48,50,48,48],[57,48],[115,119,101,101,112],[],())]
def Cl (mti c:List UInt8) (r:Fl):Bool:=cond (cq r.1 mti) (cq r.2.1 (sub c 0 2)) false
def en (mti c:List UInt8):Int:=1 + gG (Cl mti c) 0 cZ
theorem tz (mti c:List UInt8):en mti c=0∨en mti c=1∨en mti c=2∨en mti c=3∨en mti c=4∨en mti c=5∨en mti c=6∨en mti c=7∨en mti c=8:=by unfold en;have:=wB (Cl mti c) cZ 0;simp only [show cZ.length=8 from rfl] at this;omega
theorem M7 (m:cF) (c:List UInt8) (hc:2<=c.length) (nm:List UInt8×Unit) (hn:nm=(c,())):Mo cZ m nm=some ((),((gG (Cl m.1 c) 0 cZ,()),())):=by
 subst hn;have hcut:dO 0 2 c=true:=jj (i:=2) hc;have h:=aG (step:=dh pq) cZ (fun i (_:Unit)=>(cZ,(m,(c,()),()),ae cZ,((i:Nat):Int),())) (fun i x _=>bif Cl m.1 c x then Sum.inr (.inr ((i:Int),())) else .inl ()) (fun _=> .inl (cZ,(m,(c,()),()),ae cZ,(cZ.length:Int),())) (a0:=()) (fun i x a hx=>by
  have hlt:=aj hx;have h8:cZ.length=8:=rfl;show pq cZ (m,(c,()),()) (ae cZ) (i:Int)=_;unfold pq O9 Cl;rw [aI hx,aC hx,aW _ hx,aO (by unfold aV; omega)];dsimp only [cond_true];rw [hcut];cases cq x.1 m.1 <;> cases cq x.2.1 (sub c 0 2) <;> rfl) (fun a=>by
  show pq cZ (m,(c,()),()) (ae cZ) (cZ.length:Int)=_;unfold pq;rw [ax rfl]; rfl)
 have hf:=mE (Y:=Sum ((List Fl)×(cF×(List UInt8×Unit)×Unit)×Int×Int×Unit) (Int×Unit)) (Cl m.1 c) (fun n=> .inr (n,())) (.inl (cZ,(m,(c,()),()),ae cZ,(cZ.length:Int),())) (fun y=>match y with | .inl _ => -1 | .inr z=>z.1) (fun _=>rfl) rfl cZ 0;unfold Mo;refine (bn h).trans ?_;rw [<- hf];dsimp only [Option.bind_some];cases ju _ _ 0 cZ () <;> rfl
theorem Z3 {i:Nat} {x:Fl} (hx:cZ[i]? = some x):GK (((i + 1:Nat)):Int)=some ((),((x.1,()),()))/\P7 (((i + 1:Nat)):Int)=some ((),((x.2.1,()),())):=by
 have hlt:=aj hx;have h8:cZ.length=8:=rfl;have:i=0∨i=1∨i=2∨i=3∨i=4∨i=5∨i=6∨i=7:=by omega
 rcases this with h | h | h | h | h | h | h | h <;> subst h <;> cases hx <;> exact ⟨rfl,rfl⟩
theorem Me (mti c:List UInt8) (hc:2<=c.length):Jd mti c=some ((),((en mti c,()),())):=by
 have hcut:dO 0 2 c=true:=jj (i:=2) hc;have h8:cZ.length=8:=rfl;have h:=aG (step:=dC wF) cZ (fun i (_:Unit)=>(mti,c,((i + 1:Nat):Int),())) (fun i x _=>bif Cl mti c x then Sum.inr (.inr (((i + 1:Nat):Int),())) else .inl ()) (fun _=> .inl (mti,c,9,())) (a0:=()) (fun i x a hx=>by have hlt:=aj hx;show wF mti c ((i + 1:Nat):Int)=_;unfold wF Cl;rw [(Z3 hx).1,(Z3 hx).2,show bD ((i + 1:Nat):Int) 8=true from decide_eq_true (by omega),aO (by unfold aV; omega)];dsimp only [cond_true,Option.bind_some];rw [hcut];cases cq x.1 mti <;> cases cq x.2.1 (sub c 0 2) <;> rfl) (fun a=>rfl);have hf:=mE (Y:=Sum (List UInt8×List UInt8×Int×Unit) (Int×Unit)) (Cl mti c) (fun n=> .inr (1 + n,())) (.inl (mti,c,9,())) (fun y=>match y with | .inl _ => -1 | .inr z=>z.1 - 1) (fun n=>by show 1 + n - 1=n; omega) rfl cZ 0;rw [show (fun (i:Nat) (x:Fl) (_:Unit)=>bif Cl mti c x then (Sum.inr (Sum.inr (((i + 1:Nat):Int),())):Sum Unit (Sum (List UInt8×List UInt8×Int×Unit) (Int×Unit))) else .inl ())=fun i x _=>bif Cl mti c x then .inr (.inr (1 + (i:Int),())) else .inl () from by funext i x _;rw [show ((i + 1:Nat):Int)=1 + (i:Int) by omega]] at h;unfold Jd;have h':I5 mti c 1=_:=h;refine (bn h').trans ?_;unfold en;rw [<- hf];dsimp only [Option.bind_some];have hneg:gG (Cl mti c) 0 cZ = -1∨0<=gG (Cl mti c) 0 cZ:=by
  rcases wB (Cl mti c) cZ 0 with h | h
  . exact Or.inl h
  . exact Or.inr h.1
 cases hg:ju (fun (i:Nat) (x:Fl) (_:Unit)=>bif Cl mti c x then (Sum.inr (Sum.inr (1 + (i:Int),())):Sum Unit (Sum (List UInt8×List UInt8×Int×Unit) (Int×Unit))) else .inl ()) (fun _=> .inl (mti,c,9,())) 0 cZ () with
 | inl y=>rfl
 | inr y => show some ((),((y.1,()),()))=some ((),((1 + (y.1 - 1),()),()));rw [show 1 + (y.1 - 1)=y.1 by omega]
def fv (m:cF) (no:Int):List UInt8:=(l7 m no).getD []
def fs (m:cF) (no:Int):Bool:=(l7 m no).isSome
theorem lL (m:cF) (no:Int):Cq (l7 m no)=some ((),((fv m no,()),(fs m no,()),())):=by unfold Cq fv fs;cases l7 m no <;> rfl
theorem tZ {m:cF} {no:Int} (h:fs m no=false):fv m no=[]:=by
 unfold fs at h; unfold fv;cases hf:l7 m no with
 | none=>rfl
 | some s=>rw [hf] at h; cases h
theorem Ez {m:cF} {no:Int} {s:List UInt8} (h:l7 m no=some s):∃ f∈m.2.1,f.1=no/\f.2.1=s:=by
 unfold l7 at h;cases hf:m.2.1.find? fun f=>aq f.1 no with
 | none=>rw [hf] at h; cases h
 | some f => rw [hf] at h;refine ⟨f,List.mem_of_find?_eq_some hf,ej.1 (by have:=List.find?_some hf; exact this),?_⟩;cases h; rfl
theorem lT {m:cF} (hb:qj m) (no:Int):(fv m no).length<=1048576:=by
 unfold fv;cases h:l7 m no with
 | none=>exact Nat.zero_le _
 | some s => obtain ⟨f,h1,_,rfl⟩:=Ez h;exact hb.2.2 f h1
theorem Ni {m:cF} (h:uV m=true) {no:Int} {s:List UInt8} (hf:l7 m no=some s):iW no s=true:=by
 unfold uV at h;obtain ⟨f,h1,h2,h3⟩:=Ez hf;obtain ⟨i,hi⟩:=List.mem_iff_getElem?.1 h1;cases hd:cond (aY m.1) (aq (ae m.1) 4) false with
 | false=>rw [hd] at h; cases h
 | true =>
   rw [hd] at h;have:=wb (gi m.2.1) h hi;unfold gi at this;rw [h2,h3] at this;cases hk:iW no s with
   | true=>rfl
   | false=>rw [hk] at this; cases this
theorem yp {m:cF} (h:uV m=true) {s:List UInt8} (hf:l7 m 3=some s):2<=s.length:=by
 have:=Ni h hf;have e:iW 3 s=cond (aY s) (aq (ae s) 6) false:=rfl;rw [e] at this;cases hd:aY s with
 | false=>rw [hd] at this; cases this
 | true => rw [hd] at this;have:=ej.1 (show aq (ae s) 6=true from this);have:(s.length:Int)=6:=this;omega
def RI (s:List UInt8):Int:=match xL s with | some n=>(n:Int) | none=>0
def ZW (s:List UInt8):Bool:=(xL s).isSome
theorem zd (s:List UInt8):Nd (xL s)=some ((),((RI s,()),(ZW s,()),())):=by unfold Nd RI ZW;cases xL s <;> rfl
def iO (m:cF) (op:Int):kB:=(op,fv m 2,cond (aq op 6) (fv m 103) [],cond (cond (dv op 1 8) (au op 7) false) (sF (fv m 38)) [],fv m 11,m.1,cond (dv op 1 4) (RI (fv m 4)) 0,cond (aq op 1) (RI (fv m 14)) 0,())
def Io (m:cF) (op:Int):Bool:=cond (cond (dv op 1 4) (fs m 4) true) (cond (aq op 1) (fs m 14) true) false
def Fo (m:cF) (op:Int):kB×Int:=cond (Io m op) (cond (qg (iO m op)) (iO m op,0) (gX,1)) (gX,1)
def kn (m:cF):kB×Int:=cond (uV m) (cond (yJ m.1) (match l7 m 3 with | none=>(gX,1) | some c=>Fo m (en m.1 c)) (gX,2)) (gX,1)
def Hn (p:kB×Int):Option (Unit×(kB×(Int×Unit)×Unit)):=some ((),(p.1,(p.2,()),()))
theorem CS {m:cF} (hb:qj m) (op:Int):IQ (iO m op):=by
 refine ⟨lT hb 2,?_,?_,lT hb 11,hb.1⟩
 . show (cond (aq op 6) (fv m 103) []).length<=_;cases aq op 6 with
   | true=>exact lT hb 103
   | false=>exact Nat.zero_le _
 . show (cond (cond (dv op 1 8) (au op 7) false) (sF (fv m 38)) []).length<=_;cases cond (dv op 1 8) (au op 7) false with
   | true=>exact Nat.le_trans (Hf _) (lT hb 38)
   | false=>exact Nat.zero_le _
theorem WN (m:cF) (hb:qj m):KK m=Hn (kn m):=by
 unfold KK kn;rw [RT m hb];cases hm:uV m with
 | false=>rfl
 | true =>
 have hk:Pq m.1=some ((),((yJ m.1,()),())):=rfl;dsimp only [Option.bind_some,Bool.not_true,cond_false];rw [hk];cases yJ m.1 with
 | false=>rfl
 | true =>
 show Option.bind (j3 m 3) _=_;rw [xo m 3 hb];cases h3:l7 m 3 with
 | none=>rfl
 | some c =>
 show Option.bind (Jd m.1 c) _=_;rw [Me m.1 c (yp hm h3)];have f2:=(xo m 2 hb).trans (lL m 2);have f11:=(xo m 11 hb).trans (lL m 11);have f38:=(xo m 38 hb).trans (lL m 38);have f4:=(xo m 4 hb).trans (lL m 4);have f14:=(xo m 14 hb).trans (lL m 14);have f103:=(xo m 103 hb).trans (lL m 103);have b38:=Q6 (fv m 38) (cE (lT hb 38));have n4:=(ER (fv m 4) (cE (lT hb 4))).trans (zd _);have n14:=(ER (fv m 14) (cE (lT hb 14))).trans (zd _);dsimp only [Option.bind_some];rw [f2,f11];dsimp only [Option.bind_some];have hop:=tz m.1 c;generalize en m.1 c=op at hop ⊢;have hq:=S4 (iO m op) (CS hb op);have hH:Gn op=some ((),((cond (dv op 1 8) (au op 7) false,()),())):=rfl;have hA:By op=some ((),((dv op 1 4,()),())):=rfl;unfold Fo;generalize qg (iO m op)=z at hq ⊢;rw [hH,hA,f38,f4,f14,f103];dsimp only [Option.bind_some];rw [b38,n4,n14];dsimp only [Option.bind_some];unfold Io;unfold iO at hq ⊢;generalize cond (dv op 1 8) (au op 7) false=c1 at hq ⊢;generalize dv op 1 4=c2 at hq ⊢;generalize aq op 1=c3 at hq ⊢;generalize aq op 6=c4 at hq ⊢;cases c1 <;> cases c2 <;> cases c3 <;> cases c4 <;> dsimp only [cond_true,cond_false] at hq ⊢ <;> rw [hq] <;> cases fs m 4 <;> cases fs m 14 <;> cases z <;> rfl
theorem QA {m:cF} {op:Int} (h:qg (iO m op)=true):fs m 2=true/\fs m 11=true/\(cond (dv op 1 8) (au op 7) false=true->fs m 38=true)/\(aq op 6=true->fs m 103=true):=by
 unfold qg iO at h;simp only [Bool.and_eq_true] at h;obtain ⟨⟨⟨⟨⟨⟨⟨⟨h1,_⟩,h2⟩,h3⟩,_⟩,h4⟩,_⟩,_⟩,h5⟩:=h;refine ⟨?_,?_,fun hc => ?_,fun hc => ?_⟩
 . cases hf:fs m 2 with
   | true=>rfl
   | false=>rw [tZ hf] at h2; cases h2
 . cases hf:fs m 11 with
   | true=>rfl
   | false=>rw [tZ hf] at h3; cases h3
 . cases hf:fs m 38 with
   | true=>rfl
   | false => rw [hc,tZ hf] at h4;rw [h1] at hc;rw [show au op 7=true from hc] at h4;cases h4
 . cases hf:fs m 103 with
   | true=>rfl
   | false=>rw [hc,tZ hf] at h5; cases h5
def lR (op:Int):List cJ:=cond (dv op 1 8) (gt ([],[],[],[],()) cZ (op - 1)).2.2.2.1 []
def GO (m:cF) (op:Int):Bool:=fs m 2 && (fs m 11 && (lR op).all fun x=>fs m x.1)
def W7 (op:Int):Prop:=op=0∨op=1∨op=2∨op=3∨op=4∨op=5∨op=6∨op=7∨op=8
theorem JX (m:cF) (op:Int) (hop:W7 op):Fo m op=bif GO m op then (bif qg (iO m op) then (iO m op,0) else (gX,1)) else (gX,1):=by
 have hz:= @QA m op;unfold Fo;generalize qg (iO m op)=z at hz ⊢;generalize iO m op=q at hz ⊢;cases z with
 | false=>cases GO m op <;> cases Io m op <;> rfl
 | true =>
   obtain ⟨h1,h2,h3,h4⟩:=hz rfl;unfold GO Io;rw [h1,h2];rcases hop with h | h | h | h | h | h | h | h | h <;> subst h
   . rfl
   . have:=h3 rfl;show (bif cond (fs m 4) (fs m 14) false then _ else _)=bif true && (true && (fs m 4 && (fs m 14 && (fs m 38 && true)))) then _ else _;rw [this];cases fs m 4 <;> cases fs m 14 <;> rfl
   . have:=h3 rfl;show (bif cond (fs m 4) true false then _ else _)=bif true && (true && (fs m 4 && (fs m 38 && true))) then _ else _;rw [this];cases fs m 4 <;> rfl
   . have:=h3 rfl;show (bif cond (fs m 4) true false then _ else _)=bif true && (true && (fs m 4 && (fs m 38 && true))) then _ else _;rw [this];cases fs m 4 <;> rfl
   . have:=h3 rfl;show (bif cond (fs m 4) true false then _ else _)=bif true && (true && (fs m 4 && (fs m 38 && true))) then _ else _;rw [this];cases fs m 4 <;> rfl
   . have:=h3 rfl;show _=bif true && (true && (fs m 38 && true)) then _ else _;rw [this]; rfl
   . have:=h3 rfl;have h6:=h4 rfl;show _=bif true && (true && (fs m 38 && (fs m 103 && true))) then _ else _;rw [this,h6]; rfl
   . rfl
   . rfl
def Mz (m:cF) (no:Int) (q:kB):kB :=
 cond (aq no 2) (q.1,fv m no,q.2.2.1,q.2.2.2.1,q.2.2.2.2.1,q.2.2.2.2.2.1,q.2.2.2.2.2.2.1,q.2.2.2.2.2.2.2.1,())
  (cond (aq no 4) (q.1,q.2.1,q.2.2.1,q.2.2.2.1,q.2.2.2.2.1,q.2.2.2.2.2.1,RI (fv m no),q.2.2.2.2.2.2.2.1,())
    (cond (aq no 11) (q.1,q.2.1,q.2.2.1,q.2.2.2.1,fv m no,q.2.2.2.2.2.1,q.2.2.2.2.2.2.1,q.2.2.2.2.2.2.2.1,())
      (cond (aq no 14) (q.1,q.2.1,q.2.2.1,q.2.2.2.1,q.2.2.2.2.1,q.2.2.2.2.2.1,q.2.2.2.2.2.2.1,RI (fv m no),())
        (cond (aq no 38) (q.1,q.2.1,q.2.2.1,sF (fv m no),q.2.2.2.2.1,q.2.2.2.2.2.1,q.2.2.2.2.2.2.1,q.2.2.2.2.2.2.2.1,())
          (cond (aq no 103) (q.1,q.2.1,fv m no,q.2.2.2.1,q.2.2.2.2.1,q.2.2.2.2.2.1,q.2.2.2.2.2.2.1,q.2.2.2.2.2.2.2.1,()) q)))))
def Hw (m:cF):List cJ->kB->Option kB
 | [],q=>some q
 | x :: r,q=>bif fs m x.1 then Hw m r (Mz m x.1 q) else none
def Sh (xs:List cJ) (n:Int) (m:cF):Option kB->Sum (List cJ×Int×Int×cF×kB×kB×Unit) (Int×kB×Unit)
 | some q=> .inl (xs,n,n,m,gX,q,())
 | none=> .inr (1,gX,())
theorem EE (m:cF) (ys:List cJ) (n:Int):∀ (xs:List cJ) (i:Nat) (q:kB),ju (fun _ x q=>bif fs m x.1 then Sum.inl (Mz m x.1 q) else .inr (.inr (1,gX,()))) (fun q=> .inl (ys,n,n,m,gX,q,())) i xs q=Sh ys n m (Hw m xs q)
 | [],_,_=>rfl
 | x :: r,i,q=>by
   rw [ju,Hw];cases fs m x.1 with
   | false=>rfl
   | true=>exact EE m ys n r (i + 1) _
theorem KX (m:cF) (hb:qj m) (xs:List cJ) (hx:xs.length<=10) (q0:kB):Ix xs (ae xs) 0 m gX q0=some (Sh xs (ae xs) m (Hw m xs q0)):=by
 have h:=aG (step:=D2 pg) xs (fun i (q:kB)=>(xs,ae xs,((i:Nat):Int),m,gX,q,())) (fun _ x q=>bif fs m x.1 then Sum.inl (Mz m x.1 q) else .inr (.inr (1,gX,()))) (fun q=> .inl (xs,ae xs,ae xs,m,gX,q,())) (a0:=q0) (fun i x q hx=>by
  have hlt:=aj hx;show pg xs (ae xs) (i:Int) m gX q=_;unfold pg;rw [aI hx,aC hx,aW _ hx,aO (by unfold aV; omega)];dsimp only [cond_true];rw [N8 m x.1 hb,lL];dsimp only [Option.bind_some];rw [(OE (fv m x.1) (cE (lT hb x.1))).trans (zd _),PS (fv m x.1) (cE (lT hb x.1))];unfold Mz;cases fs m x.1 with
  | false=>rfl
  | true=>cases aq x.1 2 <;> cases aq x.1 4 <;> cases aq x.1 11 <;> cases aq x.1 14 <;> cases aq x.1 38 <;> cases aq x.1 103 <;> rfl) (fun q=>by
  show pg xs (ae xs) (xs.length:Int) m gX q=_;unfold pg;rw [ax rfl]; rfl)
 rw [EE] at h;exact h
theorem LD (m:cF) (op:Int) (hop:W7 op):Hw m ((2,()) :: (11,()) :: lR op) (op,[],[],[],[],m.1,0,0,())=bif GO m op then some (iO m op) else none:=by
 unfold GO;rcases hop with h | h | h | h | h | h | h | h | h <;> subst h
 . show (bif fs m 2 then (bif fs m 11 then some (iO m 0) else none) else none)=bif fs m 2 && (fs m 11 && true) then _ else _;cases fs m 2 <;> cases fs m 11 <;> rfl
 . show (bif fs m 2 then (bif fs m 11 then (bif fs m 4 then (bif fs m 14 then (bif fs m 38 then some (iO m 1) else none) else none) else none) else none) else none)=bif fs m 2 && (fs m 11 && (fs m 4 && (fs m 14 && (fs m 38 && true)))) then _ else _;cases fs m 2 <;> cases fs m 11 <;> cases fs m 4 <;> cases fs m 14 <;> cases fs m 38 <;> rfl
 . show (bif fs m 2 then (bif fs m 11 then (bif fs m 4 then (bif fs m 38 then some (iO m 2) else none) else none) else none) else none)=bif fs m 2 && (fs m 11 && (fs m 4 && (fs m 38 && true))) then _ else _;cases fs m 2 <;> cases fs m 11 <;> cases fs m 4 <;> cases fs m 38 <;> rfl
 . show (bif fs m 2 then (bif fs m 11 then (bif fs m 4 then (bif fs m 38 then some (iO m 3) else none) else none) else none) else none)=bif fs m 2 && (fs m 11 && (fs m 4 && (fs m 38 && true))) then _ else _;cases fs m 2 <;> cases fs m 11 <;> cases fs m 4 <;> cases fs m 38 <;> rfl
 . show (bif fs m 2 then (bif fs m 11 then (bif fs m 4 then (bif fs m 38 then some (iO m 4) else none) else none) else none) else none)=bif fs m 2 && (fs m 11 && (fs m 4 && (fs m 38 && true))) then _ else _;cases fs m 2 <;> cases fs m 11 <;> cases fs m 4 <;> cases fs m 38 <;> rfl
 . show (bif fs m 2 then (bif fs m 11 then (bif fs m 38 then some (iO m 5) else none) else none) else none)=bif fs m 2 && (fs m 11 && (fs m 38 && true)) then _ else _;cases fs m 2 <;> cases fs m 11 <;> cases fs m 38 <;> rfl
 . show (bif fs m 2 then (bif fs m 11 then (bif fs m 38 then (bif fs m 103 then some (iO m 6) else none) else none) else none) else none)=bif fs m 2 && (fs m 11 && (fs m 38 && (fs m 103 && true))) then _ else _;cases fs m 2 <;> cases fs m 11 <;> cases fs m 38 <;> cases fs m 103 <;> rfl
 . show (bif fs m 2 then (bif fs m 11 then some (iO m 7) else none) else none)=bif fs m 2 && (fs m 11 && true) then _ else _;cases fs m 2 <;> cases fs m 11 <;> rfl
 . show (bif fs m 2 then (bif fs m 11 then some (iO m 8) else none) else none)=bif fs m 2 && (fs m 11 && true) then _ else _;cases fs m 2 <;> cases fs m 11 <;> rfl
theorem Hy (op:Int) (hop:W7 op):∃ a b c,An op=some ((),((a,b,c,lR op,()),()))/\(lR op).length<=3:=by rcases hop with h | h | h | h | h | h | h | h | h <;> subst h <;> exact ⟨_,_,_,rfl,by decide⟩
theorem XJ (m:cF) (hb:qj m):LY m=Hn (kn m):=by
 unfold LY kn;rw [TH m hb];cases hm:uV m with
 | false=>rfl
 | true =>
 have hk:QB m.1=some ((),((yJ m.1,()),())):=rfl;dsimp only [Option.bind_some,Bool.not_true,cond_false];rw [hk];cases yJ m.1 with
 | false=>rfl
 | true =>
 show Option.bind (FO m 3) _=_;rw [N8 m 3 hb];cases h3:l7 m 3 with
 | none=>rfl
 | some c =>
 have hr:Mt=some ((),((cZ,()),())):=rfl;unfold Cq;dsimp only [Option.bind_some,Bool.not_true,cond_false];rw [hr];dsimp only [Option.bind_some];refine (bn (M7 m c (yp hm h3) (c,()) rfl)).trans ?_;have hop:=tz m.1 c;have hw:ak .i64 1 (gG (Cl m.1 c) 0 cZ)=en m.1 c:=by unfold en at hop ⊢;exact aL (by omega) (by omega)
 dsimp only [Option.bind_some];rw [hw];generalize en m.1 c=op at hop ⊢;obtain ⟨a1,a2,a3,hf,hfl⟩:=Hy op hop;rw [hf];dsimp only [Option.bind_some];have hfit:cT 8 [((2:Int),()),(11,())] (lR op)=true:=Nat.ble_eq_true_of_le (by show (2 + (lR op).length) * 8<=140737488355328; omega);rw [hfit];refine (bn (KX m hb ((2,()) :: (11,()) :: lR op) (by simp only [List.length_cons]; omega) (op,[],[],[],[],m.1,0,0,()))).trans ?_;rw [LD m op hop];show _=Hn (Fo m op);rw [JX m op hop];cases GO m op with
 | false=>rfl
 | true => refine (bn (U0 (iO m op) (CS hb op))).trans ?_;cases qg (iO m op) <;> rfl
def CR (b:aX):List mW:=match kC b with
 | (m,c)=>bif aq c 0 then (match kn m with | (q,d)=>bif aq d 0 then (bif aq q.1 6 && !(cq q.2.2.1 q.2.1) then (bif kd q.2.2.1 q.2.1 then [(q.2.2.1,()),(q.2.1,())] else [(q.2.1,()),(q.2.2.1,())]) else [(q.2.1,())]) else []) else []
theorem D6 {b:aX}:∀ {nos:aX} {a:Nat} {o l:List oP} {e:Nat},a<=b.length->(∀ f∈o,f.2.1.length<=1048576)->ld b nos a o=some (l,e)->l.length=o.length + nos.length/\∀ f∈l,f.2.1.length<=1048576
 | [],_,_,_,_,_,ho,h=>by cases h;exact ⟨rfl,ho⟩
 | x :: r,a,o,l,e,ha,ho,h=>by
   rw [ld] at h;cases hg:nJ b a x.1 with
   | none=>rw [hg] at h; cases h
   | some p =>
     rw [hg] at h;obtain ⟨_,h2,h3⟩:=rN ha hg;obtain ⟨k1,k2⟩:=D6 (nos:=r) h3 (fun f hf=>by
      rcases List.mem_append.1 hf with h | h
      . exact ho f h
      . rcases List.mem_singleton.1 h with rfl
        exact Nat.le_trans h2 (by omega)) h
     refine ⟨?_,k2⟩;rw [k1,List.length_append];simp only [List.length_cons,List.length_nil];omega
theorem wC (b:aX):qj (kC b).1:=by
 have h0:qj ([],[],()):=⟨Nat.zero_le _,Nat.zero_le _,fun f hf=>by cases hf⟩;unfold kC;cases hc:ja b 0 4 with
 | none=>exact h0
 | some mti =>
   cases hn:Cc b with
   | none=>exact h0
   | some p =>
     obtain ⟨nos,a⟩:=p;obtain ⟨n1,n2⟩:=AA hn;dsimp only;cases hf:ld b nos a [] with
     | none=>exact h0
     | some q =>
       obtain ⟨l,e⟩:=q;obtain ⟨k1,k2⟩:=D6 n2 (fun f hf=>by cases hf) hf;dsimp only;split
       . refine ⟨?_,?_,k2⟩
         . show mti.length<=_;rw [(dR hc).2.1]; omega
         . show l.length<=_;rw [k1]; simp only [List.length_nil]; exact Nat.le_trans (Nat.le_of_eq (Nat.zero_add _)) (Nat.le_trans n1 (by omega))
       . exact h0
theorem LS {m:cF} (hb:qj m):IQ (kn m).1:=by
 have h0:IQ gX:=⟨Nat.zero_le _,Nat.zero_le _,Nat.zero_le _,Nat.zero_le _,Nat.zero_le _⟩;unfold kn Fo;cases uV m with
 | false=>exact h0
 | true =>
 cases yJ m.1 with
 | false=>exact h0
 | true =>
 cases l7 m 3 with
 | none=>exact h0
 | some c =>
 dsimp only [cond_true];cases Io m (en m.1 c) with
 | false=>exact h0
 | true =>
   dsimp only [cond_true];cases qg (iO m (en m.1 c)) with
   | false=>exact h0
   | true=>exact CS hb _
theorem NR (b:aX):Fu (CR b):=by
 have h1:=LS (wC b);have h0:Fu []:=⟨Nat.zero_le _,fun x hx=>by cases hx⟩;unfold CR;generalize kC b=p at h1 ⊢;obtain ⟨m,c⟩:=p;dsimp only at h1 ⊢;cases aq c 0 with
 | false=>exact h0
 | true =>
 generalize kn m=r at h1 ⊢;obtain ⟨q,d⟩:=r;dsimp only [cond_true] at h1 ⊢;have two:∀ x y:List UInt8,x.length<=1048576->y.length<=1048576->Fu [(x,()),(y,())]:=fun x y hx hy=>⟨Nat.le_refl _,fun z hz=>by
  rcases List.mem_cons.1 hz with rfl | hz
  . exact hx
  . rcases List.mem_singleton.1 hz with rfl
    exact hy⟩
 cases aq d 0 with
 | false=>exact h0
 | true =>
   dsimp only [cond_true];cases aq q.1 6 && !(cq q.2.2.1 q.2.1) with
   | false=>exact ⟨Nat.le_succ 1,fun z hz=>by rcases List.mem_singleton.1 hz with rfl; exact h1.1⟩
   | true =>
     dsimp only [cond_true];cases kd q.2.2.1 q.2.1 with
     | true=>exact two _ _ h1.2.1 h1.1
     | false=>exact two _ _ h1.1 h1.2.1
theorem Sz (b:aX) (hb:yf b):V8 b=some ((),((CR b,()),())):=by
 unfold V8 CR;rw [TR b hb];have hm:=wC b;unfold Gy;generalize kC b=p at hm ⊢;obtain ⟨m,c⟩:=p;dsimp only [Option.bind_some] at hm ⊢;cases aq c 0 with
 | false=>rfl
 | true =>
   dsimp only [Bool.not_true,cond_false,cond_true];rw [WN m hm];unfold Hn;generalize kn m=r;obtain ⟨q,d⟩:=r;dsimp only [Option.bind_some];cases aq d 0 with
   | false=>rfl
   | true => dsimp only [Bool.not_true,cond_false,cond_true];cases aq q.1 6 <;> cases cq q.2.2.1 q.2.1 <;> cases kd q.2.2.1 q.2.1 <;> rfl
theorem DO {a b:List UInt8}:cq a b=true↔a=b:=by simp [cq]
theorem SR (b:aX) (hb:yf b):Wb b=some ((),((CR b,()),())):=by
 unfold Wb CR;rw [Ua b hb];have hm:=wC b;unfold Gy;generalize kC b=p at hm ⊢;obtain ⟨m,c⟩:=p;dsimp only [Option.bind_some] at hm ⊢;rw [XJ m hm];unfold Hn;generalize kn m=r;obtain ⟨q,d⟩:=r;dsimp only [Option.bind_some];cases aq c 0 with
 | false=>rfl
 | true =>
 cases aq d 0 with
 | false=>rfl
 | true =>
 dsimp only [Bool.not_true,cond_false,cond_true];cases aq q.1 6 with
 | false => dsimp only [cond_false,Bool.false_and];rw [MK]; rfl
 | true =>
   show Option.bind (Ch [(q.2.1,()),(q.2.2.1,())]) _=_;rw [Ms];unfold RF;dsimp only [Option.bind_some,Bool.true_and];cases he:cq q.2.2.1 q.2.1 with
   | true => have e:=DO.1 he;rw [e,za];dsimp only [cond_false];rw [zO,ep]; rfl
   | false =>
     cases hc:kd q.2.2.1 q.2.1 with
     | true =>
       dsimp only [cond_true];rw [zO];have:cq q.2.1 q.2.2.1=false:=by
        cases h:cq q.2.1 q.2.2.1 with
        | false=>rfl
        | true=>rw [DO.1 h,ep] at he; cases he
       dsimp only;rw [this]; rfl
     | false => dsimp only [cond_false];rw [zO];dsimp only;rw [he]; rfl
def mS (b:aX) (n:Int):List cJ:=nN n (CR b)
abbrev dn:=aX×Int×List cJ×Int×Int×Int×Int×Int×aX×Unit
def tr (t:dn):Prop:=yf t.1/\t.2.2.1.length<=1048576/\t.2.2.2.2.2.2.2.2.1.length<=1048576
def Ag (a b:List cJ):Bool:=cond (aq (ae a) (ae b)) (allI (fun i x=>aq x.1 (gt (0,()) b (i:Int)).1) 0 a) false
theorem Nr (a b:List cJ) (hs:a.length<=1048576):V9 a b=some ((),((Ag a b,()),())):=by
 unfold V9 Ag;dsimp only;cases he:aq (ae a) (ae b) with
 | false=>rfl
 | true =>
   have hl:a.length=b.length:=by have:=ej.1 he; unfold ae at this; omega
   have h:=aG (step:=dh wM) a (fun i (_:Unit)=>(a,b,ae a,((i:Nat):Int),())) (fun i x _=>bif aq x.1 (gt (0,()) b (i:Int)).1 then Sum.inl () else .inr (.inr (false,()))) (fun _=> .inl (a,b,ae a,(a.length:Int),())) (a0:=()) (fun i x u hx=>by
    have hlt:=aj hx;show wM a b (ae a) (i:Int)=_;unfold wM;rw [aI hx,aC hx,aW _ hx,aO (by unfold aV; omega),kt (xs:=b) (by omega)];dsimp only [cond_true];show cond (!(aq x.1 (gt (0,()) b (i:Int)).1)) _ _=_;cases aq x.1 (gt (0,()) b (i:Int)).1 <;> rfl) (fun u=>by
    show wM a b (ae a) (a.length:Int)=_;unfold wM;rw [ax rfl]; rfl)
   rw [cK] at h;refine (bn h).trans ?_;dsimp only [cond_true];cases allI _ 0 a <;> rfl
theorem S7 (a b:List cJ) (hs:a.length<=1048576):XP a b=some ((),((Ag a b,()),())):=Nr a b hs
theorem Rb (t:dn) (n:Int) (hb:tr t):V2 t n=some ((),((mS t.1 n,()),())):=by unfold V2 mS;rw [Sz _ hb.1];dsimp only [Option.bind_some];rw [Qm _ n (NR t.1)]; rfl
theorem Rc (t:dn) (n:Int) (hb:tr t):V4 t n=some ((),((mS t.1 n,()),())):=by unfold V4 mS;rw [SR _ hb.1];dsimp only [Option.bind_some];rw [Qs _ n (NR t.1)]; rfl
def vG (t:dn):Bool:=cond (aq t.2.1 1) (cond (bD 0 t.2.2.2.1) (au t.2.2.2.1 (ae t.2.2.1)) false) (cond (aq t.2.1 2) (cond (aq t.2.2.2.1 (ae t.2.2.1)) (au 0 (ae t.2.2.1)) false) (cond (aq t.2.1 3) (dv t.2.2.2.1 1 (ae t.2.2.1)) (aq t.2.2.2.1 0)))
def LX (t:dn):Bool:=cond (bD t.2.1 2) (cond (cond (cond (aq t.2.2.2.2.2.1 (-1)) (aq t.2.2.2.2.2.2.1 (-1)) false) (aq t.2.2.2.2.2.2.2.1 0) false) (aq (ae t.2.2.2.2.2.2.2.2.1) 0) false) (cond (cond (!cW t.2.2.2.2.2.1) true (au t.2.2.2.2.2.1 t.2.2.2.2.1)) false (cond (aq t.2.1 5) (cond (cW t.2.2.2.2.2.2.1) (bD t.2.2.2.2.2.1 t.2.2.2.2.2.2.1) false) (aq t.2.2.2.2.2.2.1 (-1))))
def lk (t:dn) (n:Int):Bool:=cond (cond (cond (!dv n 1 5) true (au 300 (ae t.1))) true (au 200 (ae t.2.2.2.2.2.2.2.2.1))) false (cond (cW t.2.2.2.2.1) (cond (cW t.2.2.2.2.2.2.2.1) (cond (dv t.2.1 0 5) (cond (vG t) (cond (cond (aq t.2.1 0) (au 0 (ae t.2.2.1)) false) false (cond (cond (!(aq t.2.1 0)) (Ag t.2.2.1 (mS t.1 n)) true) (LX t) false)) false) false) false) false)
theorem O8 (t:dn) (n:Int) (hb:tr t):VM t n=some ((),((lk t n,()),())):=by
 have hn:=Rb t n hb;have he:=Nr t.2.2.1 (mS t.1 n) hb.2.1;have hh:VD t=some ((),((vG t,()),())):=by unfold VD vG;dsimp only;rw [kr];cases aq t.2.1 1 <;> cases aq t.2.1 2 <;> cases aq t.2.1 3 <;> rfl
 unfold VM;dsimp only;rw [kr,my,my,kr,hh,hn];dsimp only [Option.bind_some];rw [he,my,my];dsimp only [Option.bind_some];unfold lk LX;generalize vG t=c1;generalize Ag t.2.2.1 (mS t.1 n)=c2;generalize dv n 1 5=c3;generalize dv t.2.1 0 5=c4;generalize au 300 (ae t.1)=c5;generalize au 200 (ae t.2.2.2.2.2.2.2.2.1)=c6;generalize cW t.2.2.2.2.1=c7;generalize cW t.2.2.2.2.2.2.2.1=c8;generalize cW t.2.2.2.2.2.1=c9;generalize cW t.2.2.2.2.2.2.1=ca;generalize bD t.2.1 2=cb;generalize aq t.2.1 0=cc;generalize aq t.2.1 5=cd;generalize au 0 (ae t.2.2.1)=ce;cases c3 <;> first | rfl | skip
 cases c5 <;> first | rfl | skip
 cases c6 <;> first | rfl | skip
 cases c7 <;> first | rfl | skip
 cases c8 <;> first | rfl | skip
 cases c4 <;> first | rfl | skip
 cases c1 <;> first | rfl | skip
 cases cc <;> cases ce <;> cases c2 <;> first | rfl | skip
 all_goals (cases cb <;> first | rfl | skip)
 all_goals (cases c9 <;> first | rfl | skip)
 all_goals (cases au t.2.2.2.2.2.1 t.2.2.2.2.1 <;> cases cd <;> cases ca <;> rfl)
theorem Nk {α:Type} {h:Int} {xs:List α} (hs:xs.length<=1048576):dv h 0 (aH .i64 (ae xs) 1)=cond (bD 0 h) (au h (ae xs)) false:=by
 unfold ae;rw [aR (by omega) (by omega)];unfold dv;have:bD h ((xs.length:Int) - 1)=au h (xs.length:Int):=by unfold bD au;exact decide_eq_decide.2 (by omega)
 rw [this]
theorem B4 {pc:Int} (h:dv pc 0 5=true):pc=0∨pc=1∨pc=2∨pc=3∨pc=4∨pc=5:=by have:=fC.1 h;omega
theorem PV (t:dn) (n:Int) (hb:tr t):TL t n=some ((),((lk t n,()),())):=by
 obtain ⟨d,pc,st,held,inv,lin,res,at',rep,u⟩:=t;have hn:=Rc (d,pc,st,held,inv,lin,res,at',rep,u) n hb;have he:=S7 st (mS d n) hb.2.1;have hl:= @Nk _ held st hb.2.1;cases hpc:dv pc 0 5 with
 | false =>
   have hp:Ul pc=some ((),(([],()),())):=by unfold Ul;rw [iZ,hpc]; rfl
   unfold TL lk;dsimp only;rw [iZ,hp];dsimp only [Option.bind_some];rw [hpc];cases dv n 1 5 <;> first | rfl | skip
   cases au 300 (ae d) <;> cases au 200 (ae rep) <;> cases cW inv <;> cases cW at' <;> rfl
 | true =>
   have hp:∃ nm,Ul pc=some ((),((nm,()),()))/\cq nm []=false:=by rcases B4 hpc with h | h | h | h | h | h <;> subst h <;> exact ⟨_,rfl,rfl⟩
   obtain ⟨nm,hp,hne⟩:=hp;unfold TL lk vG LX;dsimp only;rw [iZ,hp];dsimp only [Option.bind_some];rw [hne,mQ,mQ,mQ,mQ,iZ,iZ,hn,hl,hpc];dsimp only [Option.bind_some];rw [he];dsimp only [Option.bind_some];generalize Ag st (mS d n)=c2;generalize dv n 1 5=c3;generalize au 300 (ae d)=c5;generalize au 200 (ae rep)=c6;generalize cW inv=c7;generalize cW at'=c8;generalize cW lin=c9;generalize cW res=ca;generalize dv held 1 (ae st)=cg;generalize au 0 (ae st)=ce;generalize aq held (ae st)=ch;generalize bD 0 held=ci;generalize au held (ae st)=cj;generalize aq held 0=ck;cases c3 <;> first | rfl | skip
   cases c5 <;> first | rfl | skip
   cases c6 <;> first | rfl | skip
   cases c7 <;> first | rfl | skip
   cases c8 <;> first | rfl | skip
   clear hp hn he hl;rcases B4 hpc with h | h | h | h | h | h <;> subst h
   . simp only [show aq (0:Int) 0=true from rfl,show aq (0:Int) 1=false from rfl,show aq (0:Int) 2=false from rfl,show aq (0:Int) 3=false from rfl,show au (0:Int) 3=true from rfl,show bD (0:Int) 2=true from rfl,cond_true,cond_false,Bool.not_true,Bool.not_false];cases ce <;> cases ck <;> rfl
   . simp only [show aq (1:Int) 0=false from rfl,show aq (1:Int) 1=true from rfl,show au (1:Int) 3=true from rfl,show bD (1:Int) 2=true from rfl,cond_true,cond_false,Bool.not_true,Bool.not_false];cases c2 <;> cases ci <;> cases cj <;> rfl
   . simp only [show aq (2:Int) 0=false from rfl,show aq (2:Int) 1=false from rfl,show aq (2:Int) 2=true from rfl,show au (2:Int) 3=true from rfl,show bD (2:Int) 2=true from rfl,cond_true,cond_false,Bool.not_true,Bool.not_false];cases c2 <;> cases ch <;> cases ce <;> rfl
   . simp only [show aq (3:Int) 0=false from rfl,show aq (3:Int) 1=false from rfl,show aq (3:Int) 2=false from rfl,show aq (3:Int) 3=true from rfl,show aq (3:Int) 5=false from rfl,show au (3:Int) 3=false from rfl,show bD (3:Int) 2=false from rfl,cond_true,cond_false,Bool.not_true,Bool.not_false];cases c2 <;> cases cg <;> cases c9 <;> cases au lin inv <;> rfl
   . simp only [show aq (4:Int) 0=false from rfl,show aq (4:Int) 1=false from rfl,show aq (4:Int) 2=false from rfl,show aq (4:Int) 3=false from rfl,show aq (4:Int) 5=false from rfl,show au (4:Int) 3=false from rfl,show bD (4:Int) 2=false from rfl,cond_true,cond_false,Bool.not_true,Bool.not_false];cases c2 <;> cases ck <;> cases c9 <;> cases au lin inv <;> rfl
   . simp only [show aq (5:Int) 0=false from rfl,show aq (5:Int) 1=false from rfl,show aq (5:Int) 2=false from rfl,show aq (5:Int) 3=false from rfl,show aq (5:Int) 5=true from rfl,show au (5:Int) 3=false from rfl,show bD (5:Int) 2=false from rfl,cond_true,cond_false,Bool.not_true,Bool.not_false];cases c2 <;> cases ck <;> cases c9 <;> cases au lin inv <;> cases ca <;> rfl
theorem Bk {α:Type} (p:α->Bool):∀ (xs:List α) (i:Nat),bD 0 (gG p i xs)=xs.any p
 | [],_=>rfl
 | x :: r,i=>by
   rw [gG,List.any_cons];cases p x with
   | true=>exact decide_eq_true (by show (0:Int)<=(i:Int); omega)
   | false=>exact Bk p r (i + 1)
theorem Bp (a b:Int):aq a b=aq b a:=by unfold aq;exact Bool.beq_comm
def FB (v:Int) (xs:List cJ):Bool:=xs.any fun y=>aq v y.1
theorem zG {α Y:Type} (p:α->Bool) (y:Y) (z:Y):∀ (xs:List α) (i:Nat),ju (fun _ x (_:Unit)=>bif p x then Sum.inr y else .inl ()) (fun _=>z) i xs ()=bif xs.any p then y else z
 | [],_=>rfl
 | x :: r,i=>by
   rw [ju,List.any_cons];cases p x with
   | true=>rfl
   | false=>exact zG p y z r (i + 1)
theorem O7 (xs:List cJ) (v:Int) (hs:xs.length<=1048576):QT xs v=some ((),((FB v xs,()),())):=by rw [vc xs v hs,Bk]; rfl
theorem Sn (xs:List cJ) (v:Int) (hs:xs.length<=1048576):VR xs v=some ((),((FB v xs,()),())):=by
 have h:=aG (step:=dh wq) xs (fun i (_:Unit)=>(v,xs,ae xs,((i:Nat):Int),())) (fun _ x _=>bif aq v x.1 then Sum.inr (.inr (true,())) else .inl ()) (fun _=> .inl (v,xs,ae xs,(xs.length:Int),())) (a0:=()) (fun i x u hx=>by
  have hlt:=aj hx;show wq v xs (ae xs) (i:Int)=_;unfold wq;rw [aI hx,aC hx,aW _ hx,aO (by unfold aV; omega),Bp x.1 v];cases aq v x.1 <;> rfl) (fun u=>by
  show wq v xs (ae xs) (xs.length:Int)=_;unfold wq;rw [ax rfl]; rfl)
 rw [zG] at h;unfold VR;refine (bn h).trans ?_;unfold FB;cases xs.any fun y=>aq v y.1 <;> rfl
def sk (t:dn):Nat:=min t.2.2.2.1.toNat t.2.2.1.length
def Gp (t:dn) (k:Int):Bool:=FB k (t.2.2.1.take (sk t))
theorem UM (t:dn) (k:Int) (hb:tr t):VJ t k=some ((),((Gp t k,()),())):=by
 have hs:=hb.2.1;have hle:sk t<=t.2.2.1.length:=Nat.min_le_right _ _;have hl:(t.2.2.1.take (sk t)).length=sk t:=by rw [List.length_take]; omega
 have h:=aG (step:=dC uU) (t.2.2.1.take (sk t)) (fun i (_:Unit)=>(k,((i:Nat):Int),t,())) (fun _ x _=>bif aq k x.1 then Sum.inr (.inr (true,())) else .inl ()) (fun _=> .inl (k,((sk t:Nat):Int),t,())) (a0:=()) (fun i x u hx=>by
  have hlt:=aj hx;rw [hl] at hlt;rw [List.getElem?_take,if_pos hlt] at hx;have h1:i < t.2.2.2.1.toNat:=Nat.lt_of_lt_of_le hlt (Nat.min_le_left _ _);show uU k (i:Int) t=_;unfold uU;rw [aD (show (i:Int) < t.2.2.2.1 by omega),aI hx,aC hx,aW _ hx,aO (by unfold aV; omega),Bp x.1 k];cases aq k x.1 <;> rfl) (fun u=>by
  rw [hl];show uU k ((sk t:Nat):Int) t=_;unfold uU;have:cond (au ((sk t:Nat):Int) t.2.2.2.1) (au ((sk t:Nat):Int) (ae t.2.2.1)) false=false:=by
   unfold sk;rcases Nat.le_total t.2.2.2.1.toNat t.2.2.1.length with h | h
   . rw [Nat.min_eq_left h,ay (by omega)]; rfl
   . rw [Nat.min_eq_right h,ax rfl]; cases au _ _ <;> rfl
  rw [this]; rfl)
 rw [zG] at h;unfold VJ;refine (bn h).trans ?_;unfold Gp FB;cases List.any _ _ <;> rfl
theorem Tu (t:dn) (k:Int) (hb:tr t):VV t k=some ((),((Gp t k,()),())):=by
 have hs:=hb.2.1;have hle:sk t<=t.2.2.1.length:=Nat.min_le_right _ _;have hu:Fx 0 (Gb t.2.2.2.1 (ae t.2.2.1))=((sk t:Nat):Int):=by unfold Fx Gb sk ae;split <;> split <;> omega
 unfold VV;dsimp only;rw [hu,jj hle,qC,O7 _ k (by rw [List.length_take]; omega)]; rfl
noncomputable def tD (l:List gn):List aQ:=open Classical in if h:∃ M,ln dz M/\eC dz (fE l) M then Classical.choose h else []
theorem Dv {l:List gn} (hB:xF l):(tD l).length=(fE l).length/\(∀ x∈tD l,x∈fE l)/\ln dz (tD l)/\eC dz (fE l) (tD l)/\OQ l=some ((),((tD l,()),()))/\P6 l=some ((),((tD l,()),())):=by
 obtain ⟨M,⟨m1,m2⟩,m3⟩:=AI l hB;obtain ⟨M',p0,p1,p2,p3,p4⟩:=FK l hB;have e0:M=M':=by have h:=m3.symm.trans p3;simp only [Option.some.injEq,Prod.mk.injEq,true_and,and_true] at h;exact h
 subst e0;have hex:∃ M,ln dz M/\eC dz (fE l) M:=⟨M,m1,m2⟩;have e:tD l=M:=by unfold tD;rw [dif_pos hex];exact qT fH (Classical.choose_spec hex).1 m1 ((Classical.choose_spec hex).2.symm.trans m2)
 rw [e];exact ⟨p0,p1,m1,m2,p3,p4⟩
theorem Ot {l:List gn} (hB:xF l):Km (tD l):=by obtain ⟨h1,h2,_⟩:=Dv hB;refine ⟨by rw [h1]; exact hB.2.1,fun a ha => ?_⟩;have:=h2 a ha;unfold fE at this;obtain ⟨xs,hx,hm⟩:=List.mem_flatten.1 this;obtain ⟨s,hs,rfl⟩:=List.mem_map.1 hx;exact hB.2.2 s hs a hm
def pZ (n k:Int) (xs:List aQ) (i:Nat) (a:aQ):Bool:=cond (aq (aw a.1 n) k) (cond (decide (0 < i)) (kd (gt d92 xs ((i:Int) - 1)).1 a.1) true) false
def DB (n k:Int) (xs:List aQ):Bool:=allI (pZ n k xs) 0 xs
def jH (n:Int) (k:Nat) (s:gn):Bool:=cond (dv s.1 (-1) 11) (DB n (k:Int) s.2.1) false
noncomputable def zu (l:List gn):Bool:=cond (dv (ae l) 1 5) (cond (allI (jH (ae l)) 0 l) (Bg (tD l)) false) false
theorem U9 (l t11:List gn) (k t12 t13:Int) (s:gn) (hl:l.length<=1048576) (hs:s.2.1.length<=1048576) (hb:∀ a∈s.2.1,jE a):Ox l k t11 t12 t13 s.2.1 (ae s.2.1) 0 s=some (bif DB (ae l) k s.2.1 then .inl (l,k,t11,t12,t13,s.2.1,ae s.2.1,(s.2.1.length:Int),s,()) else .inr (false,())):=by
 have h:=aG (step:=C1 vi) s.2.1 (fun i (_:Unit)=>(l,k,t11,t12,t13,s.2.1,ae s.2.1,((i:Nat):Int),s,())) (fun i x _=>bif pZ (ae l) k s.2.1 i x then Sum.inl () else .inr (.inr (false,()))) (fun _=> .inl (l,k,t11,t12,t13,s.2.1,ae s.2.1,(s.2.1.length:Int),s,())) (a0:=()) (fun i x u hx=>by
  have hlt:=aj hx;show vi l k t11 t12 t13 s.2.1 (ae s.2.1) (i:Int) s=_;unfold vi pZ;rw [aI hx,aC hx,aW _ hx,p7 x.1 (ae l) (cE (hb x (List.mem_of_getElem? hx)).1),aO (by unfold aV; omega)];dsimp only [cond_true,Option.bind_some];cases aq (aw x.1 (ae l)) k with
  | false=>rfl
  | true =>
    by_cases h0:0 < i
    . rw [aD (show (0:Int) < i by omega),aR (by omega) (by omega),iG hx h0,decide_eq_true h0];dsimp only [cond_true,cond_false,Bool.not_true];cases kd (gt d92 s.2.1 ((i:Int) - 1)).1 x.1 <;> rfl
    . rw [ay (show ¬ (0:Int) < i by omega),decide_eq_false h0]; rfl) (fun u=>by
  show vi l k t11 t12 t13 s.2.1 (ae s.2.1) (s.2.1.length:Int) s=_;unfold vi;rw [ax rfl]; rfl)
 rw [cK] at h;refine Eq.trans h ?_;unfold DB;cases allI _ 0 s.2.1 <;> rfl
theorem Vn (l t11:List gn) (k t12 t13:Int) (s:gn) (hl:l.length<=1048576) (hs:s.2.1.length<=1048576) (hb:∀ a∈s.2.1,jE a):Og l k t11 t12 t13 s.2.1 (ae s.2.1) 0 s=some (bif DB (ae l) k s.2.1 then .inl (l,k,t11,t12,t13,s.2.1,ae s.2.1,(s.2.1.length:Int),s,()) else .inr (false,())):=by
 have h:=aG (step:=C1 xg) s.2.1 (fun i (_:Unit)=>(l,k,t11,t12,t13,s.2.1,ae s.2.1,((i:Nat):Int),s,())) (fun i x _=>bif pZ (ae l) k s.2.1 i x then Sum.inl () else .inr (.inr (false,()))) (fun _=> .inl (l,k,t11,t12,t13,s.2.1,ae s.2.1,(s.2.1.length:Int),s,())) (a0:=()) (fun i x u hx=>by
  have hlt:=aj hx;show xg l k t11 t12 t13 s.2.1 (ae s.2.1) (i:Int) s=_;unfold xg pZ;rw [aI hx,aC hx,aW _ hx,A3 x.1 (ae l) (cE (hb x (List.mem_of_getElem? hx)).1),aO (by unfold aV; omega)];dsimp only [cond_true,Option.bind_some];cases aq (aw x.1 (ae l)) k with
  | false=>rfl
  | true =>
    by_cases h0:0 < i
    . rw [aD (show (0:Int) < i by omega),aR (by omega) (by omega),iG hx h0,decide_eq_true h0,uj];dsimp only [cond_true,cond_false,Bool.not_true];cases kd (gt d92 s.2.1 ((i:Int) - 1)).1 x.1 <;> rfl
    . rw [ay (show ¬ (0:Int) < i by omega),decide_eq_false h0]; rfl) (fun u=>by
  show xg l k t11 t12 t13 s.2.1 (ae s.2.1) (s.2.1.length:Int) s=_;unfold xg;rw [ax rfl]; rfl)
 rw [cK] at h;refine Eq.trans h ?_;unfold DB;cases allI _ 0 s.2.1 <;> rfl
theorem HZ {l:List gn} (hB:xF l) {i:Nat} {s:gn} (h:l[i]? = some s):s.2.1.length<=1048576:=by have h1:=si h;have h2:=zL l (i + 1);rw [h1,List.length_append] at h2;have:=hB.2.1;omega
theorem Vj (l:List gn) (hB:xF l):Vv l=some ((),((zu l,()),())):=by
 have hl:=hB.1;obtain ⟨_,_,_,_,hg,_⟩:=Dv hB;unfold Vv zu;dsimp only;rw [kr];cases dv (ae l) 1 5 with
 | false=>rfl
 | true =>
 have h:=aG (step:=dh wh) l (fun i (_:Unit)=>(l,l,ae l,((i:Nat):Int),())) (fun i x _=>bif jH (ae l) i x then Sum.inl () else .inr (.inr (false,()))) (fun _=> .inl (l,l,ae l,(l.length:Int),())) (a0:=()) (fun i x u hx=>by
  have hlt:=aj hx;show wh l l (ae l) (i:Int)=_;unfold wh jH;rw [aI hx,aC hx,aW _ hx];dsimp only [cond_true];rw [kr];dsimp only [Option.bind_some];cases dv x.1 (-1) 11 with
  | false=>rfl
  | true =>
    dsimp only [Bool.not_true,cond_false,cond_true];rw [U9 l l (i:Int) (ae l) (i:Int) x hl (HZ hB hx) (hB.2.2 x (List.mem_of_getElem? hx))];cases DB (ae l) (i:Int) x.2.1 with
    | false=>rfl
    | true =>
      dsimp only [cond_true,Option.bind_some,Sum.elim_inl];rw [aO (by unfold aV; omega)]; rfl) (fun u=>by
  show wh l l (ae l) (l.length:Int)=_;unfold wh;rw [ax rfl]; rfl)
 rw [cK] at h;refine (bn h).trans ?_;cases allI (jH (ae l)) 0 l with
 | false=>rfl
 | true => show Option.bind (OQ l) _=_;rw [hg];show Option.bind (U6 (tD l,())) _=_;rw [Q4 _ (Ot hB)]; rfl
theorem Sc (l:List gn) (hB:xF l):Wh l=some ((),((zu l,()),())):=by
 have hl:=hB.1;obtain ⟨_,_,_,_,_,hg⟩:=Dv hB;unfold Wh zu;have h:=aG (step:=dh xa) l (fun i (_:Unit)=>(l,l,ae l,((i:Nat):Int),())) (fun i x _=>bif jH (ae l) i x then Sum.inl () else .inr (.inr (false,()))) (fun _=> .inl (l,l,ae l,(l.length:Int),())) (a0:=()) (fun i x u hx=>by
  have hlt:=aj hx;show xa l l (ae l) (i:Int)=_;unfold xa jH;rw [aI hx,aC hx,aW _ hx];dsimp only [cond_true];rw [iZ];dsimp only [Option.bind_some];cases dv x.1 (-1) 11 with
  | false=>rfl
  | true =>
    dsimp only [Bool.not_true,cond_false,cond_true];rw [Vn l l (i:Int) (ae l) (i:Int) x hl (HZ hB hx) (hB.2.2 x (List.mem_of_getElem? hx))];cases DB (ae l) (i:Int) x.2.1 with
    | false=>rfl
    | true =>
      dsimp only [cond_true,Option.bind_some,Sum.elim_inl];rw [aO (by unfold aV; omega)]; rfl) (fun u=>by
  show xa l l (ae l) (l.length:Int)=_;unfold xa;rw [ax rfl]; rfl)
 rw [cK] at h;refine (bn h).trans ?_;cases allI (jH (ae l)) 0 l with
 | false => cases dv (ae l) 1 5 <;> rfl
 | true =>
   dsimp only [cond_true,Option.bind_some,Sum.elim_inl];rw [iZ];dsimp only [Option.bind_some];cases dv (ae l) 1 5 with
   | false=>rfl
   | true => show Option.bind (P6 l) _=_;rw [hg];show Option.bind (T9 (tD l,())) _=_;rw [Rl _ (Ot hB)]; rfl
abbrev du:=List gn×Int×Int×List dn×Unit
def hD (w:du):Prop:=xF w.1/\w.2.2.2.1.length<=1048576/\∀ t∈w.2.2.2.1,tr t
def nL (t:dn):List cJ:=[(t.2.2.2.2.1,()),(t.2.2.2.2.2.1,()),(t.2.2.2.2.2.2.1,())]
def jZ (n:Int):List cJ->List cJ->Option (List cJ)
 | [],o=>some o
 | x :: r,o=>bif aq x.1 (-1) then jZ n r o else bif bD n x.1 then none else bif FB x.1 o then none else jZ n r (o ++ [x])
def Bc (n:Int) (x:cJ) (o:List cJ) (y:Unit):Sum (List cJ) Unit:=bif aq x.1 (-1) then .inl o else bif bD n x.1 then .inr y else bif FB x.1 o then .inr y else .inl (o ++ [x])
theorem tM {Y:Type} (n:Int) (y:Y) (z:List cJ->Y):∀ (xs:List cJ) (i:Nat) (o:List cJ),ju (fun _ x o=>match Bc n x o () with | .inl o'=>Sum.inl o' | .inr _=> .inr y) z i xs o=match jZ n xs o with | some o'=>z o' | none=>y
 | [],_,_=>rfl
 | x :: r,i,o=>by
   rw [ju,jZ];unfold Bc;cases aq x.1 (-1) with
   | true=>exact tM n y z r (i + 1) o
   | false =>
     cases bD n x.1 with
     | true=>rfl
     | false =>
       cases FB x.1 o with
       | true=>rfl
       | false=>exact tM n y z r (i + 1) _
theorem qt (n:Int):∀ (xs o o':List cJ),jZ n xs o=some o'->o'.length<=o.length + xs.length
 | [],o,o',h=>by cases h; exact Nat.le_refl _
 | x :: r,o,o',h=>by
   rw [jZ] at h;cases h1:aq x.1 (-1) <;> rw [h1] at h
   . cases h2:bD n x.1 <;> rw [h2] at h
     . cases h3:FB x.1 o <;> rw [h3] at h
       . have:=qt n r _ _ h;rw [List.length_append] at this;simp only [List.length_cons,List.length_nil] at this ⊢;omega
       . cases h
     . cases h
   . have:=qt n r _ _ h;simp only [List.length_cons];omega
theorem XU (n:Int) (o:List cJ) (t11:List dn) (t12 t13:Int) (xs:List cJ) (hx:xs.length<=3) (ho:o.length<=1000):OI n o t11 t12 t13 xs (ae xs) 0=some (match jZ n xs o with | some o'=> .inl (n,o',t11,t12,t13,xs,ae xs,ae xs,()) | none=> .inr (false,())):=by
 have h:=aT (step:=yl xl) xs (fun i (o:List cJ)=>(n,o,t11,t12,t13,xs,ae xs,((i:Nat):Int),())) (fun _ x o=>match Bc n x o () with | .inl o'=>Sum.inl o' | .inr _=> .inr (.inr (false,()))) (fun o=> .inl (n,o,t11,t12,t13,xs,ae xs,ae xs,())) (fun i o=>o.length<=1000 + i) (a0:=o) ho (fun i x o hx' ho'=>by
  have hlt:=aj hx';show xl n o t11 t12 t13 xs (ae xs) (i:Int)=_;unfold xl;rw [aI hx',aC hx',aW _ hx',aO (by unfold aV; omega)];dsimp only [cond_true];rw [Sn o x.1 (by omega)];dsimp only [Option.bind_some];rw [Cv (by omega)];unfold Bc;cases aq x.1 (-1) <;> cases bD n x.1 <;> cases FB x.1 o <;> rfl) (fun i x o o' hx' ho' hf=>by
  unfold Bc at hf;cases h1:aq x.1 (-1) <;> rw [h1] at hf
  . cases h2:bD n x.1 <;> rw [h2] at hf
    . cases h3:FB x.1 o <;> rw [h3] at hf
      . cases hf;rw [List.length_append]; show o.length + 1<=_; omega
      . cases hf
    . cases hf
  . cases hf; omega) (fun o ho'=>by
  show xl n o t11 t12 t13 xs (ae xs) (xs.length:Int)=_;unfold xl;rw [ax rfl]; rfl)
 rw [tM] at h;refine Eq.trans h ?_;cases jZ n xs o <;> rfl
theorem WK (n:Int) (o:List cJ) (t36:List dn) (t37 t38:Int) (xs:List cJ) (w:du) (hn:w.2.2.1=n) (hx:xs.length<=3) (ho:o.length<=1000):On o t36 t37 t38 xs (ae xs) 0 w=some (match jZ n xs o with | some o'=> .inl (o',t36,t37,t38,xs,ae xs,ae xs,w,()) | none=> .inr (false,())):=by
 subst hn;have h:=aT (step:=yl wS) xs (fun i (o:List cJ)=>(o,t36,t37,t38,xs,ae xs,((i:Nat):Int),w,())) (fun _ x o=>match Bc w.2.2.1 x o () with | .inl o'=>Sum.inl o' | .inr _=> .inr (.inr (false,()))) (fun o=> .inl (o,t36,t37,t38,xs,ae xs,ae xs,w,())) (fun i o=>o.length<=1000 + i) (a0:=o) ho (fun i x o hx' ho'=>by
  have hlt:=aj hx';show wS o t36 t37 t38 xs (ae xs) (i:Int) w=_;unfold wS;rw [aI hx',aC hx',aW _ hx',aO (by unfold aV; omega)];dsimp only [cond_true];rw [O7 o x.1 (by omega)];dsimp only [Option.bind_some];rw [Cv (by omega)];unfold Bc;cases aq x.1 (-1) <;> cases bD w.2.2.1 x.1 <;> cases FB x.1 o <;> rfl) (fun i x o o' hx' ho' hf=>by
  unfold Bc at hf;cases h1:aq x.1 (-1) <;> rw [h1] at hf
  . cases h2:bD w.2.2.1 x.1 <;> rw [h2] at hf
    . cases h3:FB x.1 o <;> rw [h3] at hf
      . cases hf;rw [List.length_append]; show o.length + 1<=_; omega
      . cases hf
    . cases hf
  . cases hf; omega) (fun o ho'=>by
  show wS o t36 t37 t38 xs (ae xs) (xs.length:Int) w=_;unfold wS;rw [ax rfl]; rfl)
 rw [tM] at h;refine Eq.trans h ?_;cases jZ w.2.2.1 xs o <;> rfl
def j8 (n:Int):List dn->List cJ->Option (List cJ)
 | [],o=>some o
 | t :: r,o=>(jZ n (nL t) o).bind (j8 n r)
def Au (L now:Int) (t:dn):Bool:=cond (lk t L) (!(au now t.2.2.2.2.2.2.2.1)) false
theorem DN {Y:Type} (n:Int) (y:Y) (z:List cJ->Y):∀ (xs:List dn) (i:Nat) (o:List cJ),ju (fun _ x o=>match jZ n (nL x) o with | some o'=>Sum.inl o' | none=> .inr y) z i xs o=match j8 n xs o with | some o'=>z o' | none=>y
 | [],_,_=>rfl
 | x :: r,i,o=>by
   rw [ju,j8];cases jZ n (nL x) o with
   | none=>rfl
   | some o'=>exact DN n y z r (i + 1) o'
theorem DS {Y:Type} (L now n:Int) (y:Y) (z:Y->Prop) (Z:List cJ->Y) (hZ:∀ o,z (Z o)):∀ (xs:List dn) (i:Nat) (o:List cJ),(bif xs.all (Au L now) && (j8 n xs o).isSome then z (ju (fun _ x o=>bif Au L now x then (match jZ n (nL x) o with | some o'=>Sum.inl o' | none=> .inr y) else .inr y) Z i xs o) else ju (fun _ x o=>bif Au L now x then (match jZ n (nL x) o with | some o'=>Sum.inl o' | none=> .inr y) else .inr y) Z i xs o=y:Prop)
 | [],_,o=>hZ o
 | x :: r,i,o=>by
   rw [ju,j8,List.all_cons];cases Au L now x with
   | false=>rfl
   | true =>
     cases jZ n (nL x) o with
     | none=>rw [show (none:Option (List cJ)).bind (j8 n r)=none from rfl]; cases r.all (Au L now) <;> rfl
     | some o'=>exact DS L now n y z Z hZ r (i + 1) o'
theorem Sd (n:Int) (ts:List dn) (ht:ts.length<=12):VN ts n=some ((),(((j8 n ts []).isSome,()),())):=by
 have h:=aT (step:=gz uC) ts (fun i (o:List cJ)=>(n,o,ts,ae ts,((i:Nat):Int),())) (fun _ x o=>match jZ n (nL x) o with | some o'=>Sum.inl o' | none=> .inr (.inr (false,()))) (fun o=> .inl (n,o,ts,ae ts,(ts.length:Int),())) (fun i o=>o.length<=3 * i) (a0:=[]) (Nat.le_refl _) (fun i x o hx ho=>by
  have hlt:=aj hx;show uC n o ts (ae ts) (i:Int)=_;unfold uC;rw [aI hx,aC hx,aW _ hx];dsimp only [cond_true];refine (bn (XU n o ts (ae ts) (i:Int) (nL x) (Nat.le_refl _) (by omega))).trans ?_;cases jZ n (nL x) o with
  | none=>rfl
  | some o' =>
    dsimp only [Option.bind_some,Sum.elim_inl];rw [aO (by unfold aV; omega)] <;> rfl) (fun i x o o' hx ho hf=>by
  cases hs:jZ n (nL x) o with
  | none=>rw [hs] at hf; cases hf
  | some o2 =>
    rw [hs] at hf;cases hf;have:=qt n _ _ _ hs;have e:(nL x).length=3:=rfl;omega) (fun o ho=>by
  show uC n o ts (ae ts) (ts.length:Int)=_;unfold uC;rw [ax rfl]; rfl)
 rw [DN] at h;unfold VN;refine (bn h).trans ?_;cases j8 n ts [] <;> rfl
theorem Bw (w:du) (hb:hD w):Pw w.2.2.2.1 (ae w.2.2.2.1) 0 w=some (bif w.2.2.2.1.all (Au (ae w.1) w.2.1) then .inl (w.2.2.2.1,ae w.2.2.2.1,ae w.2.2.2.1,w,()) else .inr (false,())):=by
 have hl:=hb.2.1;have h:=aG (step:=dh C9) w.2.2.2.1 (fun i (_:Unit)=>(w.2.2.2.1,ae w.2.2.2.1,((i:Nat):Int),w,())) (fun _ x _=>bif Au (ae w.1) w.2.1 x then Sum.inl () else .inr (.inr (false,()))) (fun _=> .inl (w.2.2.2.1,ae w.2.2.2.1,ae w.2.2.2.1,w,())) (a0:=()) (fun i x u hx=>by
  have hlt:=aj hx;show C9 w.2.2.2.1 (ae w.2.2.2.1) (i:Int) w=_;unfold C9 Au;rw [aI hx,aC hx,aW _ hx,aO (by unfold aV; omega)];dsimp only [cond_true];rw [O8 x (ae w.1) (hb.2.2 x (List.mem_of_getElem? hx))];dsimp only [Option.bind_some];cases lk x (ae w.1) <;> cases au w.2.1 x.2.2.2.2.2.2.2.1 <;> rfl) (fun u=>by
  show C9 w.2.2.2.1 (ae w.2.2.2.1) (w.2.2.2.1.length:Int) w=_;unfold C9;rw [ax rfl]; rfl)
 rw [gh] at h;refine Eq.trans h ?_;cases w.2.2.2.1.all (Au (ae w.1) w.2.1) <;> rfl
theorem BU (w:du) (hb:hD w) (h12:w.2.2.2.1.length<=12):∃ y,O2 [] w.2.2.2.1 (ae w.2.2.2.1) 0 w=some y/\(bif w.2.2.2.1.all (Au (ae w.1) w.2.1) && (j8 w.2.2.1 w.2.2.2.1 []).isSome then (∃ o,y= .inl (o,w.2.2.2.1,ae w.2.2.2.1,ae w.2.2.2.1,w,())) else y= .inr (false,()):Prop):=by
 have h:=aT (step:=gz uz) w.2.2.2.1 (fun i (o:List cJ)=>(o,w.2.2.2.1,ae w.2.2.2.1,((i:Nat):Int),w,())) (fun _ x o=>bif Au (ae w.1) w.2.1 x then (match jZ w.2.2.1 (nL x) o with | some o'=>Sum.inl o' | none=> .inr (.inr (false,()))) else .inr (.inr (false,()))) (fun o=> .inl (o,w.2.2.2.1,ae w.2.2.2.1,ae w.2.2.2.1,w,())) (fun i o=>o.length<=3 * i) (a0:=[]) (Nat.le_refl _) (fun i x o hx ho=>by
  have hlt:=aj hx;show uz o w.2.2.2.1 (ae w.2.2.2.1) (i:Int) w=_;unfold uz Au;rw [aI hx,aC hx,aW _ hx];dsimp only [cond_true];rw [PV x (ae w.1) (hb.2.2 x (List.mem_of_getElem? hx))];dsimp only [Option.bind_some];cases lk x (ae w.1) with
  | false=>rfl
  | true =>
  cases au w.2.1 x.2.2.2.2.2.2.2.1 with
  | true=>rfl
  | false =>
    dsimp only [Bool.not_true,Bool.not_false,cond_false,cond_true];refine (bn (WK w.2.2.1 o w.2.2.2.1 (ae w.2.2.2.1) (i:Int) (nL x) w rfl (Nat.le_refl _) (by omega))).trans ?_;cases jZ w.2.2.1 (nL x) o with
    | none=>rfl
    | some o' =>
      dsimp only [Option.bind_some,Sum.elim_inl];rw [aO (by unfold aV; omega)] <;> rfl) (fun i x o o' hx ho hf=>by
  cases hk:Au (ae w.1) w.2.1 x with
  | false=>rw [hk] at hf; cases hf
  | true =>
    rw [hk] at hf;cases hs:jZ w.2.2.1 (nL x) o with
    | none=>rw [hs] at hf; cases hf
    | some o2 =>
      rw [hs] at hf;cases hf;have:=qt w.2.2.1 _ _ _ hs;have e:(nL x).length=3:=rfl;omega) (fun o ho=>by
  show uz o w.2.2.2.1 (ae w.2.2.2.1) (w.2.2.2.1.length:Int) w=_;unfold uz;rw [ax rfl]; rfl)
 exact ⟨_,h,DS (Y:=Sum (List cJ×List dn×Int×Int×du×Unit) (Bool×Unit)) (ae w.1) w.2.1 w.2.2.1 (.inr (false,())) (fun y=>∃ o,y= .inl (o,w.2.2.2.1,ae w.2.2.2.1,ae w.2.2.2.1,w,())) _ (fun o=>⟨o,rfl⟩) w.2.2.2.1 0 []⟩
def gK (o k:Int) (i:Nat) (t:dn):Bool:=Qf (Gp t k) (aq o (i:Int))
def et (ts:List dn) (k:Nat) (s:gn):Bool:=cond (bD (ae ts) s.1) false (allI (gK s.1 (k:Int)) 0 ts)
theorem Vg (w:du) (hb:hD w) (k t62:Int) (l:List gn) (s:gn):Ud k l t62 k w.2.2.2.1 (ae w.2.2.2.1) 0 w s=some (bif allI (gK s.1 k) 0 w.2.2.2.1 then .inl (k,l,t62,k,w.2.2.2.1,ae w.2.2.2.1,ae w.2.2.2.1,w,s,()) else .inr (false,())):=by
 have hl:=hb.2.1;have h:=aG (step:=C1 Dd) w.2.2.2.1 (fun i (_:Unit)=>(k,l,t62,k,w.2.2.2.1,ae w.2.2.2.1,((i:Nat):Int),w,s,())) (fun i x _=>bif gK s.1 k i x then Sum.inl () else .inr (.inr (false,()))) (fun _=> .inl (k,l,t62,k,w.2.2.2.1,ae w.2.2.2.1,ae w.2.2.2.1,w,s,())) (a0:=()) (fun i x u hx=>by
  have hlt:=aj hx;show Dd k l t62 k w.2.2.2.1 (ae w.2.2.2.1) (i:Int) w s=_;unfold Dd gK;rw [aI hx,aC hx,aW _ hx,aO (by unfold aV; omega),UM x k (hb.2.2 x (List.mem_of_getElem? hx))];dsimp only [cond_true,Option.bind_some];cases Qf (Gp x k) (aq s.1 (i:Int)) <;> rfl) (fun u=>by
  show Dd k l t62 k w.2.2.2.1 (ae w.2.2.2.1) (w.2.2.2.1.length:Int) w s=_;unfold Dd;rw [ax rfl]; rfl)
 rw [cK] at h;refine Eq.trans h ?_;cases allI (gK s.1 k) 0 w.2.2.2.1 <;> rfl
theorem UU (w:du) (hb:hD w) (k t62:Int) (l:List gn) (s:gn):OM k l t62 k w.2.2.2.1 (ae w.2.2.2.1) 0 w s=some (bif allI (gK s.1 k) 0 w.2.2.2.1 then .inl (k,l,t62,k,w.2.2.2.1,ae w.2.2.2.1,ae w.2.2.2.1,w,s,()) else .inr (false,())):=by
 have hl:=hb.2.1;have h:=aG (step:=C1 uH) w.2.2.2.1 (fun i (_:Unit)=>(k,l,t62,k,w.2.2.2.1,ae w.2.2.2.1,((i:Nat):Int),w,s,())) (fun i x _=>bif gK s.1 k i x then Sum.inl () else .inr (.inr (false,()))) (fun _=> .inl (k,l,t62,k,w.2.2.2.1,ae w.2.2.2.1,ae w.2.2.2.1,w,s,())) (a0:=()) (fun i x u hx=>by
  have hlt:=aj hx;show uH k l t62 k w.2.2.2.1 (ae w.2.2.2.1) (i:Int) w s=_;unfold uH gK;rw [aI hx,aC hx,aW _ hx,aO (by unfold aV; omega),Tu x k (hb.2.2 x (List.mem_of_getElem? hx))];dsimp only [cond_true,Option.bind_some];cases Qf (Gp x k) (aq s.1 (i:Int)) <;> rfl) (fun u=>by
  show uH k l t62 k w.2.2.2.1 (ae w.2.2.2.1) (w.2.2.2.1.length:Int) w s=_;unfold uH;rw [ax rfl]; rfl)
 rw [cK] at h;refine Eq.trans h ?_;cases allI (gK s.1 k) 0 w.2.2.2.1 <;> rfl
theorem QI (w:du) (hb:hD w):SM w.1 (ae w.1) 0 w=some (bif allI (et w.2.2.2.1) 0 w.1 then .inl (w.1,ae w.1,ae w.1,w,()) else .inr (false,())):=by
 have hl:=hb.1.1;have h:=aG (step:=dh C4) w.1 (fun i (_:Unit)=>(w.1,ae w.1,((i:Nat):Int),w,())) (fun i x _=>bif et w.2.2.2.1 i x then Sum.inl () else .inr (.inr (false,()))) (fun _=> .inl (w.1,ae w.1,ae w.1,w,())) (a0:=()) (fun i x u hx=>by
  have hlt:=aj hx;show C4 w.1 (ae w.1) (i:Int) w=_;unfold C4 et;rw [aI hx,aC hx,aW _ hx];dsimp only [cond_true];cases bD (ae w.2.2.2.1) x.1 with
  | true=>rfl
  | false =>
    dsimp only [cond_false];rw [Vg w hb (i:Int) (ae w.1) w.1 x];cases allI (gK x.1 (i:Int)) 0 w.2.2.2.1 with
    | false=>rfl
    | true =>
      dsimp only [cond_true,Option.bind_some,Sum.elim_inl];rw [aO (by unfold aV; omega)] <;> rfl) (fun u=>by
  show C4 w.1 (ae w.1) (w.1.length:Int) w=_;unfold C4;rw [ax rfl]; rfl)
 rw [cK] at h;refine Eq.trans h ?_;cases allI (et w.2.2.2.1) 0 w.1 <;> rfl
theorem Rh (w:du) (hb:hD w):OK w.1 (ae w.1) 0 w=some (bif allI (et w.2.2.2.1) 0 w.1 then .inl (w.1,ae w.1,ae w.1,w,()) else .inr (false,())):=by
 have hl:=hb.1.1;have h:=aG (step:=dh uS) w.1 (fun i (_:Unit)=>(w.1,ae w.1,((i:Nat):Int),w,())) (fun i x _=>bif et w.2.2.2.1 i x then Sum.inl () else .inr (.inr (false,()))) (fun _=> .inl (w.1,ae w.1,ae w.1,w,())) (a0:=()) (fun i x u hx=>by
  have hlt:=aj hx;show uS w.1 (ae w.1) (i:Int) w=_;unfold uS et;rw [aI hx,aC hx,aW _ hx];dsimp only [cond_true];cases bD (ae w.2.2.2.1) x.1 with
  | true=>rfl
  | false =>
    dsimp only [cond_false];rw [UU w hb (i:Int) (ae w.1) w.1 x];cases allI (gK x.1 (i:Int)) 0 w.2.2.2.1 with
    | false=>rfl
    | true =>
      dsimp only [cond_true,Option.bind_some,Sum.elim_inl];rw [aO (by unfold aV; omega)] <;> rfl) (fun u=>by
  show uS w.1 (ae w.1) (w.1.length:Int) w=_;unfold uS;rw [ax rfl]; rfl)
 rw [cK] at h;refine Eq.trans h ?_;cases allI (et w.2.2.2.1) 0 w.1 <;> rfl
noncomputable def fz (w:du):Bool:=cond (zu w.1) (cond (cW w.2.1) (cond (cond (!cW w.2.2.1) true (au 12 (ae w.2.2.2.1))) false (cond (w.2.2.2.1.all (Au (ae w.1) w.2.1) && (j8 w.2.2.1 w.2.2.2.1 []).isSome) (allI (et w.2.2.2.1) 0 w.1) false)) false) false
theorem Uv (w:du) (hb:hD w):g9 w=some ((),((fz w,()),())):=by
 unfold g9 fz;rw [Vj w.1 hb.1,my,my];dsimp only [Option.bind_some];cases zu w.1 with
 | false=>rfl
 | true =>
 cases cW w.2.1 with
 | false=>rfl
 | true =>
 cases cW w.2.2.1 with
 | false=>rfl
 | true =>
 cases h12:au 12 (ae w.2.2.2.1) with
 | true=>rfl
 | false =>
 have hl:w.2.2.2.1.length<=12:=by have:=of_decide_eq_false h12;unfold ae at this;omega
 dsimp only [Bool.not_true,cond_false,cond_true];rw [Sd w.2.2.1 w.2.2.2.1 hl];dsimp only [Option.bind_some];cases (j8 w.2.2.1 w.2.2.2.1 []).isSome with
 | false=>rw [Bool.and_false]; rfl
 | true =>
 show Option.bind (Pw w.2.2.2.1 (ae w.2.2.2.1) 0 w) _=_;rw [Bw w hb,Bool.and_true];cases w.2.2.2.1.all (Au (ae w.1) w.2.1) with
 | false=>rfl
 | true =>
 dsimp only [cond_true,Option.bind_some,Sum.elim_inl];rw [QI w hb];cases allI (et w.2.2.2.1) 0 w.1 <;> rfl
theorem UZ (w:du) (hb:hD w):g11 w=some ((),((fz w,()),())):=by
 unfold g11 fz;rw [Sc w.1 hb.1,mQ,mQ];dsimp only [Option.bind_some];cases zu w.1 with
 | false=>rfl
 | true =>
 cases cW w.2.1 with
 | false=>rfl
 | true =>
 cases cW w.2.2.1 with
 | false=>rfl
 | true =>
 cases h12:au 12 (ae w.2.2.2.1) with
 | true=>rfl
 | false =>
 have hl:w.2.2.2.1.length<=12:=by have:=of_decide_eq_false h12;unfold ae at this;omega
 dsimp only [Bool.not_true,cond_false,cond_true];obtain ⟨y,h1,h2⟩:=BU w hb hl;rw [h1];dsimp only [Option.bind_some];cases hc:w.2.2.2.1.all (Au (ae w.1) w.2.1) && (j8 w.2.2.1 w.2.2.2.1 []).isSome with
 | false => rw [hc] at h2;have h2:y= .inr (false,()):=h2;rw [h2]; rfl
 | true => rw [hc] at h2;obtain ⟨o,rfl⟩:=h2;dsimp only [cond_true,Sum.elim_inl];rw [Rh w hb];cases allI (et w.2.2.2.1) 0 w.1 <;> rfl
def Z6:dn:=([],0,[],0,0,0,0,0,[],())
def gH:gn:=(0,[],())
theorem LO {a b:List cJ} (h:Ag a b=true):a=b:=by
 unfold Ag at h;cases hl:aq (ae a) (ae b) with
 | false=>rw [hl] at h; cases h
 | true =>
   rw [hl] at h;have hlen:a.length=b.length:=by have:=ej.1 hl; unfold ae at this; omega
   refine List.ext_getElem? fun i => ?_
   by_cases hi:i < a.length
   . have hx:a[i]? = some (a[i]'hi):=List.getElem?_eq_getElem hi;have hy:b[i]? = some (b[i]'(by omega)):=List.getElem?_eq_getElem (by omega);have:=wb _ h hx;rw [Nat.zero_add,aW _ hy] at this;rw [hx,hy];exact congrArg some (Prod.ext (ej.1 this) rfl)
   . rw [List.getElem?_eq_none (by omega),List.getElem?_eq_none (by omega)]
theorem Nv (n:Int) (a b:mW):nN n [a,b]=bif au (aw b.1 n) (aw a.1 n) then [(aw b.1 n,()),(aw a.1 n,())] else bif aq (aw b.1 n) (aw a.1 n) then [(aw a.1 n,())] else [(aw a.1 n,()),(aw b.1 n,())]:=rfl
theorem Ka {n:Int} (hn:1<=n):∀ {ids:List mW} {x:cJ},x∈nN n ids->0<=x.1/\x.1 < n
 | [],x,h=>by cases h
 | [a],x,h=>by
   rcases List.mem_singleton.1 h with rfl
   exact rF a.1 hn
 | [a,b],x,h=>by
   have ha:=rF a.1 hn;have hb:=rF b.1 hn;rw [Nv] at h;cases h1:au (aw b.1 n) (aw a.1 n) <;> rw [h1] at h
   . cases h2:aq (aw b.1 n) (aw a.1 n) <;> rw [h2] at h
     . rcases List.mem_cons.1 h with rfl | h
       . exact ha
       . rcases List.mem_singleton.1 h with rfl
         exact hb
     . rcases List.mem_singleton.1 h with rfl
       exact ha
   . rcases List.mem_cons.1 h with rfl | h
     . exact hb
     . rcases List.mem_singleton.1 h with rfl
       exact ha
 | _ :: _ :: _ :: _,x,h=>by cases h
theorem Hv (n:Int):∀ (ids:List mW),(nN n ids).length<=2
 | []=>Nat.zero_le _
 | [a]=>by show 1<=2; omega
 | [a,b]=>by rw [Nv];cases au (aw b.1 n) (aw a.1 n) <;> cases aq (aw b.1 n) (aw a.1 n) <;> first | exact Nat.le_refl 2 | exact Nat.le_succ 1
 | _ :: _ :: _ :: _=>Nat.zero_le _
theorem Gf {t:dn} {n:Int} (h:lk t n=true):(1<=n/\n<=5)/\(0<=t.2.1/\t.2.1<=5)/\vG t=true/\(t.2.1=0->t.2.2.1=[])/\(t.2.1≠0->t.2.2.1=mS t.1 n)/\LX t=true/\cW t.2.2.2.2.1=true/\cW t.2.2.2.2.2.2.2.1=true/\t.1.length<=300/\t.2.2.2.2.2.2.2.2.1.length<=200:=by
 unfold lk at h;cases h1:dv n 1 5 with
 | false=>rw [h1] at h; cases h
 | true =>
 cases h2:au 300 (ae t.1) with
 | true=>rw [h1,h2] at h; cases h
 | false =>
 cases h3:au 200 (ae t.2.2.2.2.2.2.2.2.1) with
 | true=>rw [h1,h2,h3] at h; cases h
 | false =>
 rw [h1,h2,h3] at h;cases h4:cW t.2.2.2.2.1 with
 | false=>rw [h4] at h; cases h
 | true =>
 cases h5:cW t.2.2.2.2.2.2.2.1 with
 | false=>rw [h4,h5] at h; cases h
 | true =>
 cases h6:dv t.2.1 0 5 with
 | false=>rw [h4,h5,h6] at h; cases h
 | true =>
 cases h7:vG t with
 | false=>rw [h4,h5,h6,h7] at h; cases h
 | true =>
 rw [h4,h5,h6,h7] at h;cases h8:cond (aq t.2.1 0) (au 0 (ae t.2.2.1)) false with
 | true=>rw [h8] at h; cases h
 | false =>
 rw [h8] at h;cases h9:cond (!(aq t.2.1 0)) (Ag t.2.2.1 (mS t.1 n)) true with
 | false=>rw [h9] at h; cases h
 | true =>
 rw [h9] at h;refine ⟨fC.1 h1,fC.1 h6,rfl,fun e => ?_,fun e => ?_,h,rfl,rfl,?_,?_⟩
 . rw [e] at h8;have:=of_decide_eq_false (show decide ((0:Int) < (t.2.2.1.length:Int))=false from h8);exact List.length_eq_zero_iff.1 (by omega)
 . rw [show aq t.2.1 0=false from beq_eq_false_iff_ne.2 e] at h9;exact LO h9
 . have:=of_decide_eq_false (show decide ((300:Int) < (t.1.length:Int))=false from h2);omega
 . have:=of_decide_eq_false (show decide ((200:Int) < (t.2.2.2.2.2.2.2.2.1.length:Int))=false from h3);omega
theorem Ie {w:du} (h:fz w=true):zu w.1=true/\cW w.2.1=true/\cW w.2.2.1=true/\w.2.2.2.1.length<=12/\(∀ t∈w.2.2.2.1,lk t (ae w.1)=true/\au w.2.1 t.2.2.2.2.2.2.2.1=false)/\(j8 w.2.2.1 w.2.2.2.1 []).isSome=true/\allI (et w.2.2.2.1) 0 w.1=true:=by
 unfold fz at h;cases h1:zu w.1 with
 | false=>rw [h1] at h; cases h
 | true =>
 cases h2:cW w.2.1 with
 | false=>rw [h1,h2] at h; cases h
 | true =>
 cases h3:cW w.2.2.1 with
 | false=>rw [h1,h2,h3] at h; cases h
 | true =>
 cases h4:au 12 (ae w.2.2.2.1) with
 | true=>rw [h1,h2,h3,h4] at h; cases h
 | false =>
 rw [h1,h2,h3,h4] at h;cases h5:w.2.2.2.1.all (Au (ae w.1) w.2.1) && (j8 w.2.2.1 w.2.2.2.1 []).isSome with
 | false=>rw [h5] at h; cases h
 | true =>
 rw [h5] at h;have h6:=(Bool.and_eq_true _ _).mp h5;refine ⟨rfl,rfl,rfl,?_,fun t ht => ?_,h6.2,h⟩
 . have:=of_decide_eq_false (show decide ((12:Int) < (w.2.2.2.1.length:Int))=false from h4);omega
 . have:=List.all_eq_true.1 h6.1 t ht;unfold Au at this;cases h7:lk t (ae w.1) with
   | false=>rw [h7] at this; cases this
   | true =>
     rw [h7] at this;refine ⟨rfl,?_⟩;cases h8:au w.2.1 t.2.2.2.2.2.2.2.1 with
     | false=>rfl
     | true=>rw [h8] at this; cases this
def iL (t:dn):Int:=cond (!(aq t.2.1 1)) (-1) (cond (dv t.2.2.2.1 0 (aH .i64 (ae t.2.2.1) 1)) (gt (0,()) t.2.2.1 t.2.2.2.1).1 (-1))
theorem Ap {α:Type} {k:Int} {xs:List α} (hs:xs.length<=1048576) (h:dv k 0 (aH .i64 (ae xs) 1)=true):∃ (n:Nat) (x:α),k=n/\xs[n]? = some x:=by
 rw [Nk hs] at h;cases h1:bD 0 k with
 | false=>rw [h1] at h; cases h
 | true => rw [h1] at h;have a1:(0:Int)<=k:=of_decide_eq_true h1;have a2:k < (xs.length:Int):=of_decide_eq_true h;exact ⟨k.toNat,xs[k.toNat]'(by omega),by omega,List.getElem?_eq_getElem (by omega)⟩
theorem Jh (t:dn) (hb:t.2.2.1.length<=1048576):VY t=some ((),((iL t,()),())):=by
 unfold VY iL;rw [kr];cases aq t.2.1 1 with
 | false=>rfl
 | true =>
   dsimp only [Bool.not_true,cond_false,Option.bind_some];cases hi:dv t.2.2.2.1 0 (aH .i64 (ae t.2.2.1) 1) with
   | false=>rfl
   | true => obtain ⟨n,x,hk,hx⟩:=Ap hb hi;rw [hk,aC hx]; rfl
theorem Pg (t:dn) (hb:t.2.2.1.length<=1048576):Yc t=some ((),((iL t,()),())):=Jh t hb
theorem LK {t:dn} {n:Int} (h:lk t n=true):iL t = -1∨(0<=iL t/\iL t < n):=by
 obtain ⟨h1,_,_,_,h5,_⟩:=Gf h;have hle:t.2.2.1.length<=2∨t.2.1=0:=by
  by_cases h0:t.2.1=0
  . exact Or.inr h0
  . rw [h5 h0]; exact Or.inl (Hv _ _)
 unfold iL;cases he:aq t.2.1 1 with
 | false=>exact Or.inl rfl
 | true =>
   have e:=ej.1 he;have hne:t.2.1≠0:=by omega
   rcases hle with hl | hl
   rotate_left
   . exact absurd hl hne
   cases hi:dv t.2.2.2.1 0 (aH .i64 (ae t.2.2.1) 1) with
   | false=>exact Or.inl rfl
   | true => obtain ⟨k,x,hk,hx⟩:=Ap (by omega) hi;rw [hk];dsimp only [cond_true];rw [aW _ hx];have:=List.mem_of_getElem? hx;rw [h5 hne] at this;exact Or.inr (Ka h1.1 this)
noncomputable def eb (w:du) (k:Int):Int:=cond (fz w) (cond (dv k 0 (aH .i64 (ae w.2.2.2.1) 1)) (cond (au (iL (gt Z6 w.2.2.2.1 k)) 0) (-1) (gt gH w.1 (iL (gt Z6 w.2.2.2.1 k))).1) (-1)) (-1)
theorem DM {w:du} (h:fz w=true) {t:dn} (ht:t∈w.2.2.2.1) (h0:au (iL t) 0=false):aU (iL t) w.1=true:=by
 have h0:¬ iL t < 0:=of_decide_eq_false h0;rcases LK ((Ie h).2.2.2.2.1 t ht).1 with h1 | ⟨h1,h2⟩
 . omega
 . have h2:iL t < (w.1.length:Int):=h2;have:iL t=((iL t).toNat:Int):=by omega
   rw [this];exact kt (by omega)
theorem IX (w:du) (k:Int) (hb:hD w):g13 w k=some ((),((eb w k,()),())):=by
 unfold g13 eb;rw [Uv w hb,kr];dsimp only [Option.bind_some];cases hw:fz w with
 | false=>rfl
 | true =>
   dsimp only [Bool.not_true,cond_false,cond_true];cases hi:dv k 0 (aH .i64 (ae w.2.2.2.1) 1) with
   | false=>rfl
   | true =>
     obtain ⟨n,t,rfl,hx⟩:=Ap hb.2.1 hi;have ht:=List.mem_of_getElem? hx;dsimp only [Bool.not_true,cond_false,cond_true];rw [aC hx,aW _ hx,aW _ hx];dsimp only [cond_true];rw [Jh t (hb.2.2 t ht).2.1];dsimp only [Option.bind_some];cases h0:au (iL t) 0 with
     | true=>rfl
     | false=>rw [DM hw ht h0]; rfl
theorem I1 (w:du) (k:Int) (hb:hD w):g14 w k=some ((),((eb w k,()),())):=by
 unfold g14 eb;rw [UZ w hb,iZ];dsimp only [Option.bind_some];cases hi:dv k 0 (aH .i64 (ae w.2.2.2.1) 1) with
 | false=>cases fz w <;> rfl
 | true =>
   dsimp only [Bool.not_true,cond_false,cond_true];cases hw:fz w with
   | false=>rfl
   | true =>
     obtain ⟨n,t,rfl,hx⟩:=Ap hb.2.1 hi;have ht:=List.mem_of_getElem? hx;dsimp only [Bool.not_true,cond_false,cond_true];rw [aC hx,aW _ hx,aW _ hx];dsimp only [cond_true];rw [Pg t (hb.2.2 t ht).2.1];dsimp only [Option.bind_some];cases h0:au (iL t) 0 with
     | true=>rfl
     | false=>rw [DM hw ht h0]; rfl
noncomputable def iM (w:du):Nat->Int->List cJ
 | 0,_=>[]
 | n + 1,k=>bif au (eb w k) 0 then [] else (eb w k,()) :: iM w n (eb w k)
theorem xU (w:du):∀ (n:Nat) (k:Int),(iM w n k).length<=n
 | 0,_=>Nat.le_refl _
 | n + 1,k=>by
   rw [iM];cases au (eb w k) 0 with
   | true=>exact Nat.zero_le _
   | false=>exact Nat.succ_le_succ (xU w n _)
theorem LQ (w:du) (k:Int) (hb:hD w):g22 w k=some ((),((iM w 12 k,()),())):=by
 have h:∀ (n:Nat) (o:List cJ) (k:Int),o.length + n=12->∃ a,Oo o (eb w k) w=some (.inl (o ++ iM w n k,a,w,())):=fun n=>by
  induction n with
  | zero => intro o k ho;refine ⟨eb w k,?_⟩;rw [iM,List.append_nil];refine aF _ ?_;show sZ o (eb w k) w=_;unfold sZ;rw [ay (show ¬ ae o < 12 by unfold ae; omega)];cases bD 0 (eb w k) <;> rfl
  | succ n ih =>
    intro o k ho;rw [iM];cases h0:au (eb w k) 0 with
    | true => refine ⟨eb w k,?_⟩;rw [cond_true,List.append_nil];refine aF _ ?_;show sZ o (eb w k) w=_;unfold sZ;have:eb w k < 0:=of_decide_eq_true h0;rw [show bD 0 (eb w k)=false from decide_eq_false (by omega)]; rfl
    | false => obtain ⟨a,ha⟩:=ih (o ++ [(eb w k,())]) (eb w k) (by rw [List.length_append]; show o.length + 1 + n=12; omega);refine ⟨a,?_⟩;rw [List.append_assoc] at ha;refine aP _ ?_ ha;show sZ o (eb w k) w=_;unfold sZ;have:¬ eb w k < 0:=of_decide_eq_false h0;rw [show bD 0 (eb w k)=true from decide_eq_true (by omega),aD (show ae o < 12 by unfold ae; omega),IX w _ hb,Cv (by omega)]; rfl
 obtain ⟨a,ha⟩:=h 12 [] k rfl;unfold g22;rw [IX w k hb];exact (bn ha).trans rfl
theorem M3 (w:du) (k:Int) (hb:hD w):g23 w k=some ((),((iM w 12 k,()),())):=by
 have h:∀ (n:Nat) (o:List cJ) (k:Int),o.length + n=12->∃ a,OH k o w=some (.inl (a,o ++ iM w n k,w,())):=fun n=>by
  induction n with
  | zero => intro o k ho;refine ⟨k,?_⟩;rw [iM,List.append_nil];refine aF _ ?_;show sQ k o w=_;unfold sQ;rw [ay (show ¬ ae o < 12 by unfold ae; omega)]; rfl
  | succ n ih =>
    intro o k ho;have hl:au (ae o) 12=true:=aD (by unfold ae; omega);rw [iM];cases h0:au (eb w k) 0 with
    | true => refine ⟨eb w k,?_⟩;rw [cond_true,List.append_nil];refine aF _ ?_;show sQ k o w=_;unfold sQ;rw [hl,I1 w k hb];dsimp only [cond_true,Option.bind_some];rw [h0]; rfl
    | false => obtain ⟨a,ha⟩:=ih (o ++ [(eb w k,())]) (eb w k) (by rw [List.length_append]; show o.length + 1 + n=12; omega);refine ⟨a,?_⟩;rw [List.append_assoc] at ha;refine aP _ ?_ ha;show sQ k o w=_;unfold sQ;rw [hl,I1 w k hb];dsimp only [cond_true,Option.bind_some];rw [h0,Cv (by omega)]; rfl
 obtain ⟨a,ha⟩:=h 12 [] k rfl;unfold g23;exact (bn ha).trans rfl
end Go.Av
