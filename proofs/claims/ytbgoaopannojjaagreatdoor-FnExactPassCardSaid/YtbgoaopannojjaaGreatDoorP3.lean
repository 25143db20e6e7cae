/- Part of a proof that the law FnExactPass answers true for every input: the printed functions of this program and their plain laws. No conditions beyond the statement. -/
import Derived.Test.YtbgoaopannojjaaGreatDoorQ3
set_option maxRecDepth 100000
set_option maxHeartbeats 4000000
namespace Go.Av
abbrev oO:=Int×List UInt8×Unit
abbrev cH:=List UInt8×List oO×Unit
def rr (m:cH):Prop:=m.1.length<=1048576/\m.2.1.length<=1048576/\∀ f∈m.2.1,f.2.1.length<=1048576
def fZ (xs:List oO) (i:Nat) (x:oO):Bool:=cond (ja x.1 x.2.1) (cond (decide (0 < i)) (!(bH x.1 (gt (0,[],()) xs ((i:Int) - 1)).1)) true) false
def vH (m:cH):Bool:=cond (cond (aW m.1) (aq (ae m.1) 4) false) (allI (fZ m.2.1) 0 m.2.1) false
theorem C4 (m:cH) (hb:rr m):DQ m.2.1 (ae m.2.1) 0 m=some (bif allI (fZ m.2.1) 0 m.2.1 then .inl (m.2.1,ae m.2.1,(m.2.1.length:Int),m,()) else .inr (false,())):=by
 have hbig:aT=140737488355328:=rfl;obtain ⟨mti,xs,u⟩:=m;obtain ⟨_,hl,hf⟩:=hb;dsimp only at hl hf ⊢;have h:=aH (step:=cV pf) xs (fun i (_:Unit)=>(xs,ae xs,((i:Nat):Int),(mti,xs,()),())) (fun i x _=>bif fZ xs i x then Sum.inl () else .inr (.inr (false,()))) (fun _=> .inl (xs,ae xs,(xs.length:Int),(mti,xs,()),())) (a0:=()) (fun i x a hx=>by
  have hlt:=aj hx;show pf xs (ae xs) (i:Int) (mti,xs,())=_;unfold pf fZ;rw [aD hx,az hx,aV _ hx];dsimp only [cond_true];rw [UH _ _ (cD (hf x (List.mem_of_getElem? hx))),aJ (by omega)];dsimp only [Option.bind_some];cases ja x.1 x.2.1 with
  | false=>rfl
  | true =>
    by_cases h0:0 < i
    . rw [aG (show (0:Int) < i by omega),aS (by omega) (by omega),iJ hx h0];dsimp only [cond_true,cond_false,Bool.not_true];have e:gt d175 xs ((i:Int) - 1)=gt (0,[],()) xs ((i:Int) - 1):=rfl;rw [e,decide_eq_true h0];cases bH x.1 (gt (0,[],()) xs ((i:Int) - 1)).1 <;> rfl
    . rw [ax (show ¬ (0:Int) < i by omega),decide_eq_false h0]; rfl) (fun a=>by
  show pf xs (ae xs) (xs.length:Int) (mti,xs,())=_;unfold pf;rw [aw rfl]; rfl)
 rw [cK] at h;have h':DQ xs (ae xs) 0 (mti,xs,())=_:=h;rw [h']
theorem VJ (m:cH) (hb:rr m):Mi m=some ((),((vH m,()),())):=by
 unfold Mi vH;rw [fN _ (cD hb.1)];dsimp only [Option.bind_some];cases aW m.1 with
 | false=>rfl
 | true =>
 cases aq (ae m.1) 4 with
 | false=>rfl
 | true => refine (bn (C4 m hb)).trans ?_;show _=some ((),((allI (fZ m.2.1) 0 m.2.1,()),()));cases allI (fZ m.2.1) 0 m.2.1 <;> rfl
theorem C8 (m:cH) (hb:rr m):Dt m.2.1 (ae m.2.1) 0 m=some (bif allI (fZ m.2.1) 0 m.2.1 then .inl (m.2.1,ae m.2.1,(m.2.1.length:Int),m,()) else .inr (false,())):=by
 have hbig:aT=140737488355328:=rfl;obtain ⟨mti,xs,u⟩:=m;obtain ⟨_,hl,hf⟩:=hb;dsimp only at hl hf ⊢;have h:=aH (step:=cV qc) xs (fun i (_:Unit)=>(xs,ae xs,((i:Nat):Int),(mti,xs,()),())) (fun i x _=>bif fZ xs i x then Sum.inl () else .inr (.inr (false,()))) (fun _=> .inl (xs,ae xs,(xs.length:Int),(mti,xs,()),())) (a0:=()) (fun i x a hx=>by
  have hlt:=aj hx;show qc xs (ae xs) (i:Int) (mti,xs,())=_;unfold qc fZ;rw [aD hx,az hx,aV _ hx];dsimp only [cond_true];rw [JZ _ _ (cD (hf x (List.mem_of_getElem? hx))),aJ (by omega)];dsimp only [Option.bind_some];cases ja x.1 x.2.1 with
  | false=>rfl
  | true =>
    by_cases h0:0 < i
    . rw [aG (show (0:Int) < i by omega),aS (by omega) (by omega),iJ hx h0];dsimp only [cond_true,cond_false,Bool.not_true];have e:gt d175 xs ((i:Int) - 1)=gt (0,[],()) xs ((i:Int) - 1):=rfl;rw [e,decide_eq_true h0];cases bH x.1 (gt (0,[],()) xs ((i:Int) - 1)).1 <;> rfl
    . rw [ax (show ¬ (0:Int) < i by omega),decide_eq_false h0]; rfl) (fun a=>by
  show qc xs (ae xs) (xs.length:Int) (mti,xs,())=_;unfold qc;rw [aw rfl]; rfl)
 rw [cK] at h;have h':Dt xs (ae xs) 0 (mti,xs,())=_:=h;rw [h']
theorem G9 (s:List UInt8) (n:Int) (hs:s.length<=aT):uV s n=some ((),((cond (aW s) (aq (ae s) n) false,()),())):=by unfold uV;rw [gJ s hs]; rfl
theorem Vt (m:cH) (hb:rr m):Nl m=some ((),((vH m,()),())):=by
 unfold Nl vH;refine (bn (C8 m hb)).trans ?_;cases allI (fZ m.2.1) 0 m.2.1 with
 | true =>
   show Option.bind (uV m.1 4) _=_;rw [G9 m.1 4 (cD hb.1)];dsimp only [Option.bind_some];cases aW m.1 with
   | false=>rfl
   | true=>cases aq (ae m.1) 4 <;> rfl
 | false =>
   cases aW m.1 with
   | false=>rfl
   | true=>cases aq (ae m.1) 4 <;> rfl
def l7 (m:cH) (no:Int):Option (List UInt8):=(m.2.1.find? fun f=>aq f.1 no).map (·.2.1)
def Df (o:Option (List UInt8)):Option (Unit×((List UInt8×Unit)×(Bool×Unit)×Unit)):=some ((),match o with | some s=>((s,()),(true,()),()) | none=>(([],()),(false,()),()))
theorem uH (m:cH) (no:Int) (hb:rr m):j4 m no=Df (l7 m no):=by
 have hbig:aT=140737488355328:=rfl;have hl:=hb.2.1;unfold j4;have h:=aH (step:=cV pV) m.2.1 (fun i (_:Unit)=>(no,m.2.1,ae m.2.1,((i:Nat):Int),())) (fun i x _=>bif aq x.1 no then .inr (.inr (x.2.1,true,())) else .inl ()) (fun _=> .inl (no,m.2.1,ae m.2.1,(m.2.1.length:Int),())) (a0:=()) (fun i x a hx=>by
  have hlt:=aj hx;show pV no m.2.1 (ae m.2.1) (i:Int)=_;unfold pV;rw [aD hx,az hx,aV _ hx,aJ (by omega)];dsimp only [cond_true];cases aq x.1 no <;> rfl) (fun a=>by
  show pV no m.2.1 (ae m.2.1) (m.2.1.length:Int)=_;unfold pV;rw [aw rfl]; rfl)
 rw [nD] at h;have h':Jm no m.2.1 (ae m.2.1) 0=_:=h;refine (bn h').trans ?_;unfold l7 Df;cases m.2.1.find? _ <;> rfl
theorem Pm (m:cH) (no:Int) (hb:rr m):F2 m no=Df (l7 m no):=by
 have hbig:aT=140737488355328:=rfl;have hl:=hb.2.1;unfold F2;have h:=aH (step:=cV po) m.2.1 (fun i (_:Unit)=>(no,m.2.1,ae m.2.1,((i:Nat):Int),())) (fun i x _=>bif aq x.1 no then .inr (.inr (x.2.1,true,())) else .inl ()) (fun _=> .inl (no,m.2.1,ae m.2.1,(m.2.1.length:Int),())) (a0:=()) (fun i x a hx=>by
  have hlt:=aj hx;show po no m.2.1 (ae m.2.1) (i:Int)=_;unfold po;rw [aD hx,az hx,aV _ hx,aJ (by omega)];dsimp only [cond_true];cases aq x.1 no <;> rfl) (fun a=>by
  show po no m.2.1 (ae m.2.1) (m.2.1.length:Int)=_;unfold po;rw [aw rfl]; rfl)
 rw [nD] at h;have h':HU no m.2.1 (ae m.2.1) 0=_:=h;refine (bn h').trans ?_;unfold l7 Df;cases m.2.1.find? _ <;> rfl
def ld (b:aY):aY->Nat->List oO->Option (List oO×Nat)
 | [],a,o=>some (o,a)
 | x :: r,a,o=>match nK b a x.1 with
   | some (s,e)=>ld b r e (o ++ [(x.1,s,())])
   | none=>none
def iQ (l:aY):aY:=l.map fun x=>(ai .i64 x.1 64,())
def um (x:Int×Unit):Bool:= !(aq (bt x.1) 0)
def eQ (l:aY):aY:=l.filter fun x=> !(aq x.1 1)
def gp (l:aY):Bool:=l.any fun x=>aq x.1 1
def AJ (b:aY):Option (aY×Nat) :=
 if 10<=b.length then
  (bif gp (dS (eG b 2 8)) then
    (if 18<=b.length/\dS (eG b 10 8)≠[] then (bif (eQ (dS (eG b 2 8)) ++ iQ (dS (eG b 10 8))).all um then some (eQ (dS (eG b 2 8)) ++ iQ (dS (eG b 10 8)),18) else none) else none)
  else (bif (eQ (dS (eG b 2 8))).all um then some (eQ (dS (eG b 2 8)),10) else none))
 else none
def ky (b:aY):cH×Int:=match jf b 0 4 with
 | none=>(([],[],()),1)
 | some mti=>match AJ b with
   | none=>(([],[],()),2)
   | some (nos,a)=>match ld b nos a [] with
     | none=>(([],[],()),3)
     | some (l,e)=>if e=b.length then ((mti,l,()),0) else (([],[],()),4)
def GR (p:cH×Int):Option (Unit×(cH×(Int×Unit)×Unit)):=some ((),(p.1,(p.2,()),()))
theorem Vk (b:aY) (hb:yL b) (h2:2<=b.length):HG b=some ((),match AJ b with | some p=>((p.1,()),((p.2:Int),()),(true,()),()) | none=>(([],()),(0,()),(false,()),())):=by
 have hbig:aT=140737488355328:=rfl;have hl:=hb.1;unfold HG AJ;have h0:CV b 2=_:=Kf b 2 hb h2;unfold nL at h0;refine (bn h0).trans ?_;by_cases h10:10<=b.length;rotate_left
 . rw [if_neg h10,if_neg h10]; rfl
 rw [if_pos h10,if_pos h10];have k1:=kL (eG b 2 8);generalize dS (eG b 2 8)=lo at k1 ⊢;have hlow:K7 b 10 [] false lo (ae lo) 0=some (.inl (b,10,eQ lo,gp lo,lo,ae lo,(lo.length:Int),())):=by
  have h:=aI (step:=HL pz) lo (fun i (o:aY×Bool)=>(b,10,o.1,o.2,lo,ae lo,((i:Nat):Int),())) (fun _ x o=>Sum.inl (bif aq x.1 1 then (o.1,true) else (o.1 ++ [x],o.2))) (fun o=> .inl (b,10,o.1,o.2,lo,ae lo,(lo.length:Int),())) (fun i o=>o.1.length<=i) (a0:=([],false)) (Nat.le_refl _) (fun i x o hx ho=>by
   have hlt:=aj hx;show pz b 10 o.1 o.2 lo (ae lo) (i:Int)=_;unfold pz;rw [aD hx,az hx,aV _ hx,aJ (by omega)];have:ct 8 o.1 [x]=true:=Nat.ble_eq_true_of_le (by show (o.1.length + 1) * 8<=aT; omega);dsimp only [cond_true];rw [this];cases aq x.1 1 <;> rfl) (fun i x o o' hx ho hf=>by
   simp only [Sum.inl.injEq] at hf;rw [<- hf];cases aq x.1 1 with
   | true=>show o.1.length<=_; omega
   | false=>show (o.1 ++ [x]).length<=_; rw [List.length_append]; show o.1.length + 1<=_; omega) (fun o ho=>by
   show pz b 10 o.1 o.2 lo (ae lo) (lo.length:Int)=_;unfold pz;rw [aw rfl]; rfl)
  have hfold:∀ (l:aY) (o:aY×Bool),l.foldl (fun o x=>bif aq x.1 1 then (o.1,true) else (o.1 ++ [x],o.2)) o=(o.1 ++ eQ l,o.2 || gp l):=fun l=>by
   induction l with
   | nil=>intro o; simp [eQ,gp]
   | cons x r ih => intro o;rw [List.foldl_cons,ih];unfold eQ gp;rw [List.filter_cons,List.any_cons];cases aq x.1 1 <;> simp
  rw [bY,hfold] at h;exact h
 have hchk:∀ (nos:aY) (a:Int),nos.length<=1000->DP () a nos (ae nos) 0=some (bif nos.all um then .inl ((),a,nos,ae nos,(nos.length:Int),()) else .inr ([],0,false,())):=fun nos a hn=>by
  have h:=aH (step:=fh pM) nos (fun i (_:Unit)=>((),a,nos,ae nos,((i:Nat):Int),())) (fun _ x _=>bif um x then Sum.inl () else .inr (.inr ([],0,false,()))) (fun _=> .inl ((),a,nos,ae nos,(nos.length:Int),())) (a0:=()) (fun i x o hx=>by
   have hlt:=aj hx;show pM () a nos (ae nos) (i:Int)=_;unfold pM;rw [aD hx,az hx,aV _ hx,aJ (by omega),Dq];dsimp only [cond_true,Option.bind_some];unfold um;cases aq (bt x.1) 0 <;> rfl) (fun o=>by
   show pM () a nos (ae nos) (nos.length:Int)=_;unfold pM;rw [aw rfl]; rfl)
  rw [gi] at h;refine Eq.trans h ?_;cases nos.all um <;> rfl
 have hlen:(eQ lo).length<=64:=Nat.le_trans (List.length_filter_le _ _) k1;refine (bn hlow).trans ?_;show cond (gp lo) _ _=_;cases gp lo with
 | false => refine (bn (hchk (eQ lo) 10 (by omega))).trans ?_;cases (eQ lo).all um <;> rfl
 | true =>
   have h1:CV b 10=_:=Kf b 10 hb h10;unfold nL at h1;refine (bn h1).trans ?_;by_cases h18:18<=b.length;rotate_left
   . rw [if_neg h18,if_neg (fun h=>h18 h.1)]; rfl
   rw [if_pos h18];have k2:=kL (eG b 10 8);have k3:= @Jd (eG b 10 8);generalize dS (eG b 10 8)=hi at k2 k3 ⊢;by_cases hne:hi=[]
   . rw [if_neg (fun h=>h.2 hne),hne]; rfl
   rw [if_pos ⟨h18,hne⟩];have he:aq (ae hi) 0=false:=beq_eq_false_iff_ne.2 (by
    show (hi.length:Int)≠0;cases hi with
    | nil=>exact absurd rfl hne
    | cons x r=>show ((r.length + 1:Nat):Int)≠0; omega)
   have hhi:H3 (eQ lo) 18 hi (ae hi) 0=some (.inl (eQ lo ++ iQ hi,18,hi,ae hi,(hi.length:Int),())):=by
    have h:=aI (step:=fh oQ) hi (fun i (o:aY)=>(o,18,hi,ae hi,((i:Nat):Int),())) (fun _ x o=>Sum.inl (o ++ [(ai .i64 x.1 64,())])) (fun o=> .inl (o,18,hi,ae hi,(hi.length:Int),())) (fun i o=>o.length=(eQ lo).length + i) (a0:=eQ lo) rfl (fun i x o hx ho=>by
     have hlt:=aj hx;show oQ o 18 hi (ae hi) (i:Int)=_;unfold oQ;rw [aD hx,az hx,aV _ hx,aJ (by omega)];have:ct 8 o [(ai .i64 x.1 64,())]=true:=Nat.ble_eq_true_of_le (by show (o.length + 1) * 8<=aT; omega);rw [this]; rfl) (fun i x o o' hx ho hf=>by
     simp only [Sum.inl.injEq] at hf;rw [<- hf,List.length_append,ho]; rfl) (fun o ho=>by
     show oQ o 18 hi (ae hi) (hi.length:Int)=_;unfold oQ;rw [aw rfl]; rfl)
    have hfold:∀ (l o:aY),l.foldl (fun o x=>o ++ [(ai .i64 x.1 64,())]) o=o ++ iQ l:=fun l=>by
     induction l with
     | nil=>intro o; simp [iQ]
     | cons x r ih=>intro o; rw [List.foldl_cons,ih]; simp [iQ]
    rw [bY,hfold] at h;exact h
   show cond (cond (!true) true (aq (ae hi) 0)) _ _=_;rw [he];refine (bn hhi).trans ?_;have hla:(eQ lo ++ iQ hi).length<=1000:=by rw [List.length_append]; unfold iQ; rw [List.length_map]; omega
   refine (bn (hchk (eQ lo ++ iQ hi) 18 hla)).trans ?_;cases (eQ lo ++ iQ hi).all um <;> rfl
theorem v7 {α A Y:Type} (p:α->Bool) (f:α->A->A) (y:Y) (z:A->Y):∀ (xs:List α) (i:Nat) (a:A),jO (fun _ x a=>bif p x then .inl (f x a) else .inr y) z i xs a=bif xs.all p then z (xs.foldl (fun a x=>f x a) a) else y
 | [],_,_=>rfl
 | x :: r,i,a=>by
   rw [jO,List.all_cons,List.foldl_cons];cases hp:p x with
   | true=>simp only [cond_true,Bool.true_and]; exact v7 p f y z r (i + 1) _
   | false=>rfl
def Ic (x:Int×Unit) (o:aY×Bool):aY×Bool:=bif aq x.1 1 then (o.1,true) else (o.1 ++ [x],o.2)
theorem Fv:∀ (l:aY) (o:aY×Bool),l.foldl (fun o x=>Ic x o) o=(o.1 ++ eQ l,o.2 || gp l):=fun l=>by
 induction l with
 | nil=>intro o; simp [eQ,gp]
 | cons x r ih => intro o;rw [List.foldl_cons,ih];unfold Ic eQ gp;rw [List.filter_cons,List.any_cons];cases aq x.1 1 <;> simp
def Ia (x:Int×Unit):Bool:=aq x.1 1 || um x
theorem Jn (l:aY):l.all Ia=(eQ l).all um:=by
 induction l with
 | nil=>rfl
 | cons x r ih => unfold eQ at ih ⊢;rw [List.all_cons,List.filter_cons,ih];unfold Ia;cases h:aq x.1 1 <;> simp
theorem HO {o:aY} {x:Int×Unit} (h:o.length<=1048576):ct 8 o [x]=true:=Nat.ble_eq_true_of_le (by show (o.length + 1) * 8<=140737488355328; omega)
theorem Ut (b:aY) (mti:List UInt8) (at':Int) (lo:aY) (hl:lo.length<=64) (m0:cH):HA b mti at' [] false lo (ae lo) 0 m0=some (bif (eQ lo).all um then .inl (b,mti,at',eQ lo,gp lo,lo,ae lo,(lo.length:Int),m0,()) else .inr (2,([],[],()),())):=by
 have h:=aI (step:=Dd pY) lo (fun i (o:aY×Bool)=>(b,mti,at',o.1,o.2,lo,ae lo,((i:Nat):Int),m0,())) (fun _ x o=>bif Ia x then Sum.inl (Ic x o) else .inr (.inr (2,([],[],()),()))) (fun o=> .inl (b,mti,at',o.1,o.2,lo,ae lo,(lo.length:Int),m0,())) (fun i o=>o.1.length<=i) (a0:=([],false)) (Nat.le_refl _) (fun i x o hx ho=>by
  have hlt:=aj hx;show pY b mti at' o.1 o.2 lo (ae lo) (i:Int) m0=_;unfold pY;rw [aD hx,az hx,aV _ hx,aJ (by unfold aT; omega)];dsimp only [cond_true];rw [z8];dsimp only [Option.bind_some];rw [HO (by omega)];unfold Ia Ic um;cases aq x.1 1 <;> cases aq (bt x.1) 0 <;> rfl) (fun i x o o' hx ho hf=>by
  unfold Ic at hf;cases hk:Ia x <;> rw [hk] at hf
  . cases hf
  . cases hf;cases aq x.1 1 with
    | true=>show o.1.length<=_; omega
    | false=>show (o.1 ++ [x]).length<=_; rw [List.length_append]; show o.1.length + 1<=_; omega) (fun o ho=>by
  show pY b mti at' o.1 o.2 lo (ae lo) (lo.length:Int) m0=_;unfold pY;rw [aw rfl]; rfl)
 rw [v7,Fv,Jn] at h;refine Eq.trans h ?_;cases (eQ lo).all um <;> rfl
theorem Jr (l:aY):(iQ l).all um=l.all fun x=>um (ai .i64 x.1 64,()):=by unfold iQ; rw [List.all_map]; rfl
theorem Hg:∀ (l o:aY),l.foldl (fun o x=>o ++ [(ai .i64 x.1 64,())]) o=o ++ iQ l:=fun l=>by
 induction l with
 | nil=>intro o; simp [iQ]
 | cons x r ih=>intro o; rw [List.foldl_cons,ih]; simp [iQ]
theorem QM (b:aY) (mti:List UInt8) (at':Int) (o0 hi:aY) (h0:o0.length<=64) (hl:hi.length<=64) (m0:cH):Kv b mti at' o0 hi (ae hi) 0 m0=some (bif (iQ hi).all um then .inl (b,mti,at',o0 ++ iQ hi,hi,ae hi,(hi.length:Int),m0,()) else .inr (2,([],[],()),())):=by
 have h:=aI (step:=yz pW) hi (fun i (o:aY)=>(b,mti,at',o,hi,ae hi,((i:Nat):Int),m0,())) (fun _ x o=>bif um (ai .i64 x.1 64,()) then Sum.inl (o ++ [(ai .i64 x.1 64,())]) else .inr (.inr (2,([],[],()),()))) (fun o=> .inl (b,mti,at',o,hi,ae hi,(hi.length:Int),m0,())) (fun i o=>o.length<=64 + i) (a0:=o0) h0 (fun i x o hx ho=>by
  have hlt:=aj hx;show pW b mti at' o hi (ae hi) (i:Int) m0=_;unfold pW;rw [aD hx,az hx,aV _ hx,aJ (by unfold aT; omega)];dsimp only [cond_true];rw [z8];dsimp only [Option.bind_some];rw [HO (by omega)];unfold um;cases aq (bt (ai .i64 x.1 64)) 0 <;> rfl) (fun i x o o' hx ho hf=>by
  cases hk:um (ai .i64 x.1 64,()) <;> rw [hk] at hf
  . cases hf
  . cases hf;rw [List.length_append]; show o.length + 1<=_; omega) (fun o ho=>by
  show pW b mti at' o hi (ae hi) (hi.length:Int) m0=_;unfold pW;rw [aw rfl]; rfl)
 rw [v7,Hg,<- Jr] at h;refine Eq.trans h ?_;cases (iQ hi).all um <;> rfl
def RL (b:aY) (mti:List UInt8) (m0:cH) (nos:aY) (n:Int):Option (List oO×Nat)->Sum (aY×Int×aY×Int×Int×cH×cH×Unit) (Int×cH×Unit)
 | some (l,e)=> .inl (b,(e:Int),nos,n,n,m0,(mti,l,()),())
 | none=> .inr (3,([],[],()),())
theorem Af (b:aY) (mti:List UInt8) (m0:cH) (ns:aY) (n:Int):∀ (nos:aY) (i a:Nat) (o:List oO),jO (fun _ x (q:Nat×List oO)=>match nK b q.1 x.1 with | some (s,e)=>Sum.inl (e,q.2 ++ [(x.1,s,())]) | none=> .inr (.inr (3,([],[],()),()))) (fun q=> .inl (b,(q.1:Int),ns,n,n,m0,(mti,q.2,()),())) i nos (a,o)=RL b mti m0 ns n (ld b nos a o)
 | [],_,_,_=>rfl
 | x :: r,i,a,o=>by
   rw [jO,ld];cases nK b a x.1 with
   | none=>rfl
   | some p=>exact Af b mti m0 ns n r (i + 1) p.2 _
theorem Ol {o:List oO} {x:oO} (h:o.length<=1048576):ct 24 o [x]=true:=Nat.ble_eq_true_of_le (by show (o.length + 1) * 24<=140737488355328; omega)
theorem Qs (b:aY) (hb:yL b) (a:Nat) (ha:a<=b.length) (nos:aY) (hn:nos.length<=1000) (mti:List UInt8) (m0:cH):KM b (a:Int) nos (ae nos) 0 m0 (mti,[],())=some (RL b mti m0 nos (ae nos) (ld b nos a [])):=by
 have h:=aI (step:=HL oK) nos (fun i (q:Nat×List oO)=>(b,(q.1:Int),nos,ae nos,((i:Nat):Int),m0,(mti,q.2,()),())) (fun _ x q=>match nK b q.1 x.1 with | some (s,e)=>Sum.inl (e,q.2 ++ [(x.1,s,())]) | none=> .inr (.inr (3,([],[],()),()))) (fun q=> .inl (b,(q.1:Int),nos,ae nos,(nos.length:Int),m0,(mti,q.2,()),())) (fun i q=>q.1<=b.length/\q.2.length<=i) (a0:=(a,[])) ⟨ha,Nat.le_refl _⟩ (fun i x q hx hq=>by
  have hlt:=aj hx;show oK b (q.1:Int) nos (ae nos) (i:Int) m0 (mti,q.2,())=_;unfold oK;rw [aD hx,az hx,aV _ hx,aJ (by unfold aT; omega),Vc b q.1 x.1 hb hq.1];unfold lR;cases nK b q.1 x.1 with
  | none=>rfl
  | some p =>
    dsimp only [cond_true,Option.bind_some,Bool.not_true,cond_false];rw [Ol (Nat.le_trans hq.2 (by omega))]; rfl) (fun i x q q' hx hq hf=>by
  cases hg:nK b q.1 x.1 with
  | none=>rw [hg] at hf; cases hf
  | some p =>
    rw [hg] at hf;cases hf;refine ⟨(se hq.1 hg).2.2,?_⟩;show (q.2 ++ [_]).length<=_;rw [List.length_append];exact Nat.succ_le_succ hq.2) (fun q hq=>by
  show oK b (q.1:Int) nos (ae nos) (nos.length:Int) m0 (mti,q.2,())=_;unfold oK;rw [aw rfl]; rfl)
 rw [show (fun (q:Nat×List oO)=>(Sum.inl (b,(q.1:Int),nos,ae nos,(nos.length:Int),m0,(mti,q.2,()),()):Sum (aY×Int×aY×Int×Int×cH×cH×Unit) (Int×cH×Unit)))=fun q=> .inl (b,(q.1:Int),nos,ae nos,ae nos,m0,(mti,q.2,()),()) from rfl,Af] at h;exact h
theorem RP (b:aY) (hb:yL b) (a:Nat) (ha:a<=b.length) (nos:aY) (hn:nos.length<=1000) (mti:List UInt8) (m0:cH):zw b (a:Int) nos (ae nos) 0 m0 (mti,[],())=some (RL b mti m0 nos (ae nos) (ld b nos a [])):=by
 have h:=aI (step:=HL pr) nos (fun i (q:Nat×List oO)=>(b,(q.1:Int),nos,ae nos,((i:Nat):Int),m0,(mti,q.2,()),())) (fun _ x q=>match nK b q.1 x.1 with | some (s,e)=>Sum.inl (e,q.2 ++ [(x.1,s,())]) | none=> .inr (.inr (3,([],[],()),()))) (fun q=> .inl (b,(q.1:Int),nos,ae nos,(nos.length:Int),m0,(mti,q.2,()),())) (fun i q=>q.1<=b.length/\q.2.length<=i) (a0:=(a,[])) ⟨ha,Nat.le_refl _⟩ (fun i x q hx hq=>by
  have hlt:=aj hx;show pr b (q.1:Int) nos (ae nos) (i:Int) m0 (mti,q.2,())=_;unfold pr;rw [aD hx,az hx,aV _ hx,aJ (by unfold aT; omega),S9 b q.1 x.1 hb hq.1];unfold lR;cases nK b q.1 x.1 with
  | none=>rfl
  | some p =>
    dsimp only [cond_true,Option.bind_some,Bool.not_true,cond_false];rw [Ol (Nat.le_trans hq.2 (by omega))]; rfl) (fun i x q q' hx hq hf=>by
  cases hg:nK b q.1 x.1 with
  | none=>rw [hg] at hf; cases hf
  | some p =>
    rw [hg] at hf;cases hf;refine ⟨(se hq.1 hg).2.2,?_⟩;show (q.2 ++ [_]).length<=_;rw [List.length_append];exact Nat.succ_le_succ hq.2) (fun q hq=>by
  show pr b (q.1:Int) nos (ae nos) (nos.length:Int) m0 (mti,q.2,())=_;unfold pr;rw [aw rfl]; rfl)
 rw [show (fun (q:Nat×List oO)=>(Sum.inl (b,(q.1:Int),nos,ae nos,(nos.length:Int),m0,(mti,q.2,()),()):Sum (aY×Int×aY×Int×Int×cH×cH×Unit) (Int×cH×Unit)))=fun q=> .inl (b,(q.1:Int),nos,ae nos,ae nos,m0,(mti,q.2,()),()) from rfl,Af] at h;exact h
theorem AY {b:aY} {p:aY×Nat} (h:AJ b=some p):p.1.length<=1000/\p.2<=b.length:=by
 have k1:=kL (eG b 2 8);have k2:=kL (eG b 10 8);have k3:(eQ (dS (eG b 2 8))).length<=64:=Nat.le_trans (List.length_filter_le _ _) k1;have k4:(iQ (dS (eG b 10 8))).length<=64:=by unfold iQ; rw [List.length_map]; exact k2
 unfold AJ at h;by_cases h10:10<=b.length;rotate_left
 . rw [if_neg h10] at h; cases h
 rw [if_pos h10] at h;cases hm:gp (dS (eG b 2 8)) <;> rw [hm] at h
 . cases hk:(eQ (dS (eG b 2 8))).all um <;> rw [hk] at h <;> cases h;exact ⟨by show (eQ (dS (eG b 2 8))).length<=_; omega,h10⟩
 . by_cases h18:18<=b.length/\dS (eG b 10 8)≠[]
   . rw [cond_true,if_pos h18] at h;cases hk:(eQ (dS (eG b 2 8)) ++ iQ (dS (eG b 10 8))).all um <;> rw [hk] at h <;> cases h;refine ⟨?_,h18.1⟩;show (eQ (dS (eG b 2 8)) ++ iQ (dS (eG b 10 8))).length<=_;rw [List.length_append]; omega
   . rw [cond_true,if_neg h18] at h; cases h
theorem V1 (b:aY) (hb:yL b):N7 b=GR (ky b):=by
 unfold N7 ky GR;have h0:xx b 0 4=xX (jf b 0 4) 2:=Eh b 0 4 hb (Nat.zero_le _) (by omega);rw [h0];cases hc:jf b 0 4 with
 | none=>rfl
 | some mti =>
   have h2:2<=b.length:=(dR hc).2.2.2.2;show Option.bind (HG b) _=_;rw [Vk b hb h2];cases hn:AJ b with
   | none=>rfl
   | some p =>
     obtain ⟨n1,n2⟩:=AY hn;obtain ⟨nos,a⟩:=p;refine (bn (Qs b hb a n2 nos n1 mti ([],[],()))).trans ?_;dsimp only;cases ld b nos a [] with
     | none=>rfl
     | some q =>
       obtain ⟨l,e⟩:=q;show cond (!(aq (e:Int) (b.length:Int))) _ _=_;dsimp only;by_cases he:e=b.length
       . rw [if_pos he,he,bg]; rfl
       . rw [if_neg he,show aq (e:Int) (b.length:Int)=false from beq_eq_false_iff_ne.2 (by omega)]; rfl
theorem Un (b:aY) (hb:yL b):Mr b=GR (ky b):=by
 unfold Mr ky GR;have h0:zS b 0 4=xX (jf b 0 4) 2:=Kz b 0 4 hb (Nat.zero_le _) (by omega);rw [h0];cases hc:jf b 0 4 with
 | none=>rfl
 | some mti =>
   have h2:2<=b.length:=(dR hc).2.2.2.2;have h1:AF b 2=nL b 2:=H7 b 2 hb h2;show Option.bind (AF b 2) _=_;rw [h1];unfold nL AJ;have k1:=kL (eG b 2 8);generalize hlo:dS (eG b 2 8)=lo at k1 ⊢;have k3:(eQ lo).length<=64:=Nat.le_trans (List.length_filter_le _ _) k1;have tail:∀ (nos:aY) (a:Nat),a<=b.length->nos.length<=1000->∀ m0:cH,(Option.bind (zw b (a:Int) nos (ae nos) 0 m0 (mti,[],())) (Sum.elim (fun y6=>cond (!(aq y6.2.1 (ae y6.1))) (some ((),(([],[],()),(4,()),()))) (some ((),(y6.2.2.2.2.2.2.1,(0,()),())))) (fun y6=>some ((),(y6.2.1,(y6.1,()),())))))=some ((),(match ld b nos a [] with | none=>(([],[],()),3) | some (l,e)=>if e=b.length then ((mti,l,()),0) else (([],[],()),4):cH×Int).1,((match ld b nos a [] with | none=>(([],[],()),3) | some (l,e)=>if e=b.length then ((mti,l,()),0) else (([],[],()),4):cH×Int).2,()),()):=fun nos a ha hn m0=>by
    rw [RP b hb a ha nos hn mti m0];cases ld b nos a [] with
    | none=>rfl
    | some q =>
      obtain ⟨l,e⟩:=q;show cond (!(aq (e:Int) (b.length:Int))) _ _=_;dsimp only;by_cases he:e=b.length
      . rw [if_pos he,he,bg]; rfl
      . rw [if_neg he,show aq (e:Int) (b.length:Int)=false from beq_eq_false_iff_ne.2 (by omega)]; rfl
   by_cases h10:10<=b.length;rotate_left
   . rw [if_neg h10,if_neg (show ¬ 2 + 8<=b.length from h10)]; rfl
   rw [if_pos h10,if_pos (show 2 + 8<=b.length from h10)];refine (bn (Ut b mti 10 lo k1 ([],[],()))).trans ?_;cases hk:(eQ lo).all um with
   | false =>
     dsimp only [cond_false];cases gp lo with
     | false=>rfl
     | true =>
       dsimp only [cond_true];rw [List.all_append,hk];by_cases h18:18<=b.length/\dS (eG b 10 8)≠[]
       . rw [if_pos h18]; rfl
       . rw [if_neg h18]; rfl
   | true =>
     dsimp only [cond_true];show cond (gp lo) _ _=_;cases gp lo with
     | false=>exact tail (eQ lo) 10 h10 (by omega) _
     | true =>
       dsimp only [cond_true];have h3:AF b 10=nL b 10:=H7 b 10 hb h10;refine (bn h3).trans ?_;unfold nL;have k2:=kL (eG b 10 8);generalize dS (eG b 10 8)=hi at k2 ⊢;by_cases h18:18<=b.length;rotate_left
       . rw [if_neg (show ¬ 10 + 8<=b.length from h18),if_neg (fun h=>h18 h.1)]; rfl
       rw [if_pos (show 10 + 8<=b.length from h18)];by_cases hne:hi=[]
       . rw [if_neg (fun h=>h.2 hne),hne]; rfl
       rw [if_pos ⟨h18,hne⟩];have he:aq (ae hi) 0=false:=beq_eq_false_iff_ne.2 (by
        show (hi.length:Int)≠0;cases hi with
        | nil=>exact absurd rfl hne
        | cons x r=>show ((r.length + 1:Nat):Int)≠0; omega)
       show cond (cond (!true) true (aq (ae hi) 0)) _ _=_;rw [he];refine (bn (QM b mti 18 (eQ lo) hi k3 k2 ([],[],()))).trans ?_;rw [List.all_append,hk];cases (iQ hi).all um with
       | false=>rfl
       | true=>exact tail (eQ lo ++ iQ hi) 18 h18 (by rw [List.length_append]; unfold iQ; rw [List.length_map]; omega) _
abbrev kj:=Int×(List UInt8)×(List UInt8)×(List UInt8)×(List UInt8)×(List UInt8)×Int×Int×Unit
theorem uX (xs:List (Int×Unit)) (v:Int) (hs:xs.length<=1048576):Sh xs v=some ((),((bH 0 (gz (fun y=>aq v y.1) 0 xs),()),())):=by
 have hbig:aT=140737488355328:=rfl;unfold Sh Qk;have h:=aH (step:=cV pI) xs (fun i (_:Unit)=>(xs,v,ae xs,((i:Nat):Int),())) (fun i y _=>bif aq v y.1 then Sum.inr (.inr ((i:Int),())) else Sum.inl ()) (fun _=> .inl (xs,v,ae xs,(xs.length:Int),())) (a0:=()) (fun i y u hy=>by
  have hlt:=aj hy;show pI xs v (ae xs) (i:Int)=_;unfold pI;rw [aD hy,az hy,aV _ hy,aJ (by omega)];dsimp only [cond_true];cases aq v y.1 <;> rfl) (fun u=>by
  show pI xs v (ae xs) (xs.length:Int)=_;unfold pI;rw [aw rfl]; rfl)
 have h':Lc xs v (ae xs) 0=_:=h;rw [h'];have hf:=mQ (Y:=Sum ((List (Int×Unit))×Int×Int×Int×Unit) (Int×Unit)) (fun (y:Int×Unit)=>aq v y.1) (fun n=> .inr (n,())) (.inl (xs,v,ae xs,(xs.length:Int),())) (fun y=>match y with | .inl _ => -1 | .inr z=>z.1) (fun _=>rfl) rfl xs 0;rw [<- hf];dsimp only [Option.bind_some];cases jO _ _ 0 xs () <;> rfl
def IF (op:Int):List UInt8:=gt ([],()) [([],()),([48,49,48,48],()),([48,49,48,48],()),([48,50,50,48],()),([48,50,50,48],()),([48,50,50,48],()),([48,50,48,48],()),([48,49,48,48],()),([48,50,48,48],())] op |>.1
def qA (q:kj):Bool:=dI q.1 1 8 && cq q.2.2.2.2.2.1 (IF q.1) && fD q.2.1 && aW q.2.2.2.2.1 && aq (ae q.2.2.2.2.1) 6 && (cond (au q.1 7) (ik q.2.2.2.1) (cq q.2.2.2.1 [])) && (cond (au q.1 5) (dI q.2.2.2.2.2.2.1 0 999999999999) (aq q.2.2.2.2.2.2.1 0)) && (cond (aq q.1 1) (dI q.2.2.2.2.2.2.2.1 0 9999) (aq q.2.2.2.2.2.2.2.1 0)) && (cond (aq q.1 6) (fD q.2.2.1) (cq q.2.2.1 []))
def JN (q:kj):Prop:=q.2.1.length<=1048576/\q.2.2.1.length<=1048576/\q.2.2.2.1.length<=1048576/\q.2.2.2.2.1.length<=1048576/\q.2.2.2.2.2.1.length<=1048576
theorem qw {op:Int} (h:dI op 1 8=true):op=1∨op=2∨op=3∨op=4∨op=5∨op=6∨op=7∨op=8:=by have:=gM.1 h;omega
theorem VB (q:kj) (hb:JN q):kP q=some ((),((qA q,()),())):=by
 obtain ⟨op,acct,other,hold,trace,mti,amt,ttl,_⟩:=q;obtain ⟨b1,b2,b3,b4,b5⟩:=hb;cases hop:dI op 1 8 with
 | false => unfold kP BD qA;rw [kN,hop]; rfl
 | true =>
   have k1:=vE acct (cD b1);have k2:=vE other (cD b2);have k3:=BL hold (cD b3);have k4:=fN trace (cD b4);have k5:BD op=some ((),((true,()),())):=by unfold BD; rw [kN,hop]; rfl
   have k6:Ft op=some ((),((IF op,()),())):=by unfold Ft;rw [k5];rcases qw hop with h | h | h | h | h | h | h | h <;> subst h <;> rfl
   have k7:FX op=some ((),((au op 7,()),())):=by unfold FX; rw [k5]; rfl
   have k8:Ck op=some ((),((au op 5,()),())):=by unfold Ck;rw [kN];rcases qw hop with h | h | h | h | h | h | h | h <;> subst h <;> rfl
   have k9:=kN amt 0 999999999999;have k10:=kN ttl 0 9999;unfold kP qA;dsimp only;rw [k5,k6,k1,k4,k7,k8,k3,k9,k10,k2];dsimp only [Option.bind_some];rw [hop];cases cq mti (IF op) <;> first | rfl | skip
   cases fD acct <;> first | rfl | skip
   cases aW trace <;> first | rfl | skip
   cases aq (ae trace) 6 <;> first | rfl | skip
   cases au op 7 <;> cases ik hold <;> cases cq hold [] <;> first | rfl | skip
   all_goals (cases au op 5 <;> cases dI amt 0 999999999999 <;> cases aq amt 0 <;> first | rfl | skip)
   all_goals (cases aq op 1 <;> cases dI ttl 0 9999 <;> cases aq ttl 0 <;> first | rfl | skip)
   all_goals (cases aq op 6 <;> cases fD other <;> rfl)
theorem Sp {op:Int} (hop:dI op 1 8=true):kl op 38=some ((),((au op 7,()),()))/\kl op 4=some ((),((au op 5,()),()))/\kl op 14=some ((),((aq op 1,()),()))/\kl op 103=some ((),((aq op 6,()),())):=by unfold kl Aq;rw [jb,hop];rcases qw hop with h | h | h | h | h | h | h | h <;> subst h <;> refine ⟨?_,?_,?_,?_⟩ <;> (refine (congrArg (fun z=>Option.bind z fun y2=>some ((),(y2.2.1,()))) (uX _ _ ?_)).trans ?_) <;> first | rfl | decide
theorem Qy {op:Int} (hop:dI op 1 8=true):∃ (nm:List UInt8×List UInt8) (fs:List (Int×Unit)),Aq op=some ((),((IF op,nm.1,nm.2,fs,()),()))/\cq nm.2 []=false:=by unfold Aq;rw [jb,hop];rcases qw hop with h | h | h | h | h | h | h | h <;> subst h <;> exact ⟨(_,_),_,rfl,rfl⟩
theorem T3 (q:kj) (hb:JN q):Ke q=some ((),((qA q,()),())):=by
 obtain ⟨op,acct,other,hold,trace,mti,amt,ttl,_⟩:=q;obtain ⟨b1,b2,b3,b4,b5⟩:=hb;cases hop:dI op 1 8 with
 | false => unfold Ke Aq qA;rw [jb,hop]; rfl
 | true =>
   have k1:=xw acct (cD b1);have k2:=xw other (cD b2);have k3:=AZ hold (cD b3);have k4:uV trace 6=some ((),((cond (aW trace) (aq (ae trace) 6) false,()),())):=by unfold uV; rw [gJ trace (cD b4)]; rfl
   obtain ⟨nm,fs,k5,k6⟩:=Qy hop;obtain ⟨u1,u2,u3,u4⟩:=Sp hop;have k9:=jb amt 0 999999999999;have k10:=jb ttl 0 9999;unfold Ke qA;dsimp only;rw [k5,k1,k4,u1,u2,u3,u4,k3,k9,k10,k2];dsimp only [Option.bind_some];rw [hop,k6];cases cq mti (IF op) <;> first | rfl | skip
   cases fD acct <;> first | rfl | skip
   cases aW trace <;> first | rfl | skip
   cases aq (ae trace) 6 <;> first | rfl | skip
   cases au op 7 <;> cases ik hold <;> cases cq hold [] <;> cases au op 5 <;> cases dI amt 0 999999999999 <;> cases aq amt 0 <;> cases aq op 1 <;> cases dI ttl 0 9999 <;> cases aq ttl 0 <;> cases aq op 6 <;> cases fD other <;> cases cq other [] <;> rfl
def l0 (s:List UInt8):Nat->Nat
 | 0=>0
 | n + 1=>bif aq (dx s (n:Int)) 32 then l0 s n else n + 1
def sW (s:List UInt8):List UInt8:=s.take (l0 s s.length)
theorem BS (s:List UInt8):∀ n,l0 s n<=n
 | 0=>Nat.le_refl _
 | n + 1=>by
   unfold l0;cases aq (dx s (n:Int)) 32 with
   | true=>exact Nat.le_succ_of_le (BS s n)
   | false=>exact Nat.le_refl _
theorem Q0 (s:List UInt8) (hs:s.length<=aT):LG s=some ((),((sW s,()),())):=by
 have hbig:aT=140737488355328:=rfl;have h:∀ n:Nat,n<=s.length->Je s (n:Int)=some (.inl (s,((l0 s n:Nat):Int),())):=fun n=>by
  induction n with
  | zero=>intro _; exact aK _ rfl
  | succ n ih =>
    intro hn;have e:AD s ((n + 1:Nat):Int)=bif aq (dx s (n:Int)) 32 then some (.inl (s,(n:Int),())) else some (.inr (.inl (s,((n + 1:Nat):Int),()))):=by unfold AD;rw [aG (show (0:Int) < ((n + 1:Nat):Int) by omega),aS (by omega) (by omega),show ((n + 1:Nat):Int) - 1=(n:Int) by omega];dsimp only [cond_true];rw [lq (xs:=s) (by omega)];cases aq (dx s (n:Int)) 32 <;> rfl
    cases hc:aq (dx s (n:Int)) 32 with
    | true => rw [hc] at e;unfold l0;rw [hc];exact aU _ e (ih (by omega))
    | false => rw [hc] at e;unfold l0;rw [hc];exact aK _ e
 unfold LG;refine (bn (h s.length (Nat.le_refl _))).trans ?_;show cond (dO 0 ((l0 s s.length:Nat):Int) s) (some ((),((sub s 0 ((l0 s s.length:Nat):Int),()),()))) none=_;rw [ji (BS s s.length),qH]; rfl
theorem Q1 (s:List UInt8) (hs:s.length<=aT):Jc s 32=some ((),((sW s,()),())):=by
 have hbig:aT=140737488355328:=rfl;have h:∀ n:Nat,n<=s.length->I2 (s.take n) 32=some (.inl (s.take (l0 s n),32,())):=fun n=>by
  induction n with
  | zero=>intro _; exact aK _ rfl
  | succ n ih =>
    intro hn;have hl:(s.take (n + 1)).length=n + 1:=by rw [List.length_take]; omega
    have hb:dx (s.take (n + 1)) (n:Int)=dx s (n:Int):=by have hx:s[n]? = some (s[n]'(by omega)):=List.getElem?_eq_getElem (by omega);rw [eD hx,eD (xs:=s.take (n + 1)) (x:=s[n]'(by omega)) (by rw [List.getElem?_take,if_pos (by omega)]; exact hx)]
    have e:zG (s.take (n + 1)) 32=bif aq (dx s (n:Int)) 32 then some (.inl (s.take n,32,())) else some (.inr (.inl (s.take (n + 1),32,()))):=by unfold zG;rw [show ae (s.take (n + 1))=((n + 1:Nat):Int) from congrArg Int.ofNat hl];dsimp only;rw [aG (show (0:Int) < ((n + 1:Nat):Int) by omega),aS (by omega) (by omega),show ((n + 1:Nat):Int) - 1=(n:Int) by omega,lq (xs:=s.take (n + 1)) (by omega),hb,ji (xs:=s.take (n + 1)) (i:=n) (by omega),qH,List.take_take,Nat.min_eq_left (Nat.le_succ n)];cases aq (dx s (n:Int)) 32 <;> rfl
    cases hc:aq (dx s (n:Int)) 32 with
    | true => rw [hc] at e;unfold l0;rw [hc];exact aU _ e (ih (by omega))
    | false => rw [hc] at e;unfold l0;rw [hc];exact aK _ e
 have h0:=h s.length (Nat.le_refl _);rw [List.take_length] at h0;unfold Jc;refine (bn h0).trans rfl
theorem R4 (s:List UInt8) (hs:s.length<=aT):LS s=some ((),((sW s,()),())):=by
 unfold LS Qq;cases he:cq s [] with
 | true =>
   have:s=[]:=by simpa [cq] using he
   subst this;rfl
 | false => have e:Jc s (dx [32] 0)=_:=Q1 s hs;dsimp only;rw [e]; rfl
theorem HQ (s:List UInt8):(sW s).length<=s.length:=by unfold sW; rw [List.length_take]; exact Nat.min_le_right _ _
abbrev qQ:=List UInt8×Unit
theorem Sv (a b:List UInt8):M7 a b=some ((),((j8 a b,()),())):=by unfold M7 MR;rw [cW]; rfl
theorem SC (a b:Int):M0 a b=some ((),((au a b,()),())):=by unfold M0 Nc;rw [bg]; rfl
theorem PB:FT 1=some ((),((1,()),())):=rfl
theorem P4:FT 2=some ((),((2,()),())):=rfl
theorem NT (x:qQ):BI [x]=some ((([x],()),()),()):=by have h:oo [x] 0 1 1=some (.inl ([x],0,1,1,())):=aK _ rfl;unfold BI;refine (bn PB).trans ?_;show Option.bind (Option.bind (Option.bind (oo [x] 0 1 1) _) _) _=_;rw [h]; rfl
def SP (x y:qQ):List qQ:=bif j8 y.1 x.1 then [y,x] else [x,y]
theorem NB (x y:qQ):BI [x,y]=some (((SP x y,()),()),()):=by
 have hi:wU [x,y] 0 2 1 1=some (.inl (SP x y,0,2,1,(bif j8 y.1 x.1 then 0 else 1),())):=by
  have e:wX [x,y] 0 2 1 1=bif j8 y.1 x.1 then some (.inl ([y,x],0,2,1,0,())) else some (.inr (.inl ([x,y],0,2,1,1,()))):=by unfold wX;dsimp only;rw [Sv];rfl
  unfold SP;cases hc:j8 y.1 x.1 with
  | true=>rw [hc] at e; exact aU _ e (aK _ rfl)
  | false=>rw [hc] at e; exact aK _ e
 have h:oo [x,y] 0 2 1=some (.inl (SP x y,0,2,2,())):=by
  have e:xt [x,y] 0 2 1=some (.inl (SP x y,0,2,2,())):=by unfold xt;show Option.bind (wU [x,y] 0 2 1 1) _=_;rw [hi]; rfl
  exact aU _ e (aK _ rfl)
 unfold BI;refine (bn P4).trans ?_;show Option.bind (Option.bind (Option.bind (oo [x,y] 0 2 1) _) _) _=_;rw [h]; rfl
theorem zH (x y:qQ):G5 [x,y]=some ((),((bif cq y.1 x.1 then [x] else [x,y],()),())):=by
 have e:zP [x,y] 1=bif cq y.1 x.1 then some (.inr (.inr ([x],()))) else some (.inl ([x,y],2,())):=rfl;have h:xg [x,y] 1=some (bif cq y.1 x.1 then .inr ([x],()) else .inl ([x,y],2,())):=by
  cases hc:cq y.1 x.1 with
  | true=>rw [hc] at e; exact aK _ e
  | false=>rw [hc] at e; exact aU _ e (aK _ rfl)
 unfold G5;show Option.bind (xg [x,y] 1) _=_;rw [h];cases cq y.1 x.1 <;> rfl
abbrev db:=Int×Unit
theorem Nw (x:db):xe [x]=some ((([x],()),()),()):=by have h:lP [x] 0 1 1=some (.inl ([x],0,1,1,())):=aK _ rfl;unfold xe;refine (bn PB).trans ?_;show Option.bind (Option.bind (Option.bind (lP [x] 0 1 1) _) _) _=_;rw [h]; rfl
theorem LU:xe []=some ((([],()),()),()):=by have h:lP [] 0 0 1=some (.inl ([],0,0,1,())):=aK _ rfl;unfold xe;refine (bn (show FT 0=some ((),((0,()),())) from rfl)).trans ?_;show Option.bind (Option.bind (Option.bind (lP [] 0 0 1) _) _) _=_;rw [h]; rfl
def SQ (x y:db):List db:=bif au y.1 x.1 then [y,x] else [x,y]
theorem L8 (x y:db):xe [x,y]=some (((SQ x y,()),()),()):=by
 have hi:v8 [x,y] 0 2 1 1=some (.inl (SQ x y,0,2,1,(bif au y.1 x.1 then 0 else 1),())):=by
  have e:xa [x,y] 0 2 1 1=bif au y.1 x.1 then some (.inl ([y,x],0,2,1,0,())) else some (.inr (.inl ([x,y],0,2,1,1,()))):=by unfold xa;dsimp only;rw [SC];rfl
  unfold SQ;cases hc:au y.1 x.1 with
  | true=>rw [hc] at e; exact aU _ e (aK _ rfl)
  | false=>rw [hc] at e; exact aK _ e
 have h:lP [x,y] 0 2 1=some (.inl (SQ x y,0,2,2,())):=by
  have e:uK [x,y] 0 2 1=some (.inl (SQ x y,0,2,2,())):=by unfold uK;show Option.bind (v8 [x,y] 0 2 1 1) _=_;rw [hi]; rfl
  exact aU _ e (aK _ rfl)
 unfold xe;refine (bn P4).trans ?_;show Option.bind (Option.bind (Option.bind (lP [x,y] 0 2 1) _) _) _=_;rw [h]; rfl
theorem EW (x y:db):II [x,y]=some ((),((bif aq y.1 x.1 then [x] else [x,y],()),())):=by
 have e:ze [x,y] 1=bif aq y.1 x.1 then some (.inr (.inr ([x],()))) else some (.inl ([x,y],2,())):=rfl;have h:u0 [x,y] 1=some (bif aq y.1 x.1 then .inr ([x],()) else .inl ([x,y],2,())):=by
  cases hc:aq y.1 x.1 with
  | true=>rw [hc] at e; exact aK _ e
  | false=>rw [hc] at e; exact aU _ e (aK _ rfl)
 unfold II;show Option.bind (u0 [x,y] 1) _=_;rw [h];cases aq y.1 x.1 <;> rfl
def vD (n:Int):List qQ->List db
 | [a]=>[(aF a.1 n,())]
 | [a,b]=>bif au (aF b.1 n) (aF a.1 n) then [(aF b.1 n,()),(aF a.1 n,())] else bif aq (aF b.1 n) (aF a.1 n) then [(aF a.1 n,())] else [(aF a.1 n,()),(aF b.1 n,())]
 | _=>[]
def GK (l:List qQ):Prop:=l.length<=2/\∀ x∈l,x.1.length<=1048576
theorem M6 (n:Int):∀ (ids:List qQ) (h:GK ids),HY n [] ids (ae ids) 0=some (.inl (n,ids.map (fun x=>(aF x.1 n,())),ids,ae ids,ae ids,())):=fun ids hb=>by
 have h:=aI (step:=fh oz) ids (fun i (o:List db)=>(n,o,ids,ae ids,((i:Nat):Int),())) (fun _ x o=>Sum.inl (o ++ [(aF x.1 n,())])) (fun o=> .inl (n,o,ids,ae ids,ae ids,())) (fun i o=>o.length=i) (a0:=[]) rfl (fun i x o hx ho=>by
  have hlt:=aj hx;have:=hb.1;show oz n o ids (ae ids) (i:Int)=_;unfold oz;rw [aD hx,az hx,aV _ hx,aJ (by unfold aT; omega),Cj x.1 n (cD (hb.2 x (List.mem_of_getElem? hx)))];dsimp only [cond_true,Option.bind_some];rw [HO (by omega)]; rfl) (fun i x o o' hx ho hf=>by
  cases hf;rw [List.length_append,ho]; rfl) (fun o ho=>by
  show oz n o ids (ae ids) (ids.length:Int)=_;unfold oz;rw [aw rfl]; rfl)
 rw [bY] at h;refine Eq.trans h ?_;have:∀ (l:List qQ) (o:List db),l.foldl (fun o x=>o ++ [(aF x.1 n,())]) o=o ++ l.map (fun x=>(aF x.1 n,())):=fun l=>by
  induction l with
  | nil=>intro o; simp
  | cons x r ih=>intro o; rw [List.foldl_cons,ih]; simp
 rw [this]; rfl
theorem Rs (ids:List qQ) (n:Int) (hb:GK ids):N3 ids n=some ((),((vD n ids,()),())):=by
 unfold N3;refine (bn (M6 n ids hb)).trans ?_
 match ids,hb with
 | [],_ => show Option.bind (xe []) _=_;rw [LU]; rfl
 | [a],_ => show Option.bind (xe [(aF a.1 n,())]) _=_;rw [Nw]; rfl
 | [a,b],_ =>
   show Option.bind (xe [(aF a.1 n,()),(aF b.1 n,())]) _=_;rw [L8];unfold SQ vD;dsimp only [Option.bind_some];cases hc:au (aF b.1 n) (aF a.1 n) with
   | true => dsimp only [cond_true];rw [EW];have hlt:aF b.1 n < aF a.1 n:=of_decide_eq_true hc;rw [show aq (aF a.1 n) (aF b.1 n)=false from beq_eq_false_iff_ne.2 (by omega)]; rfl
   | false => dsimp only [cond_false];rw [EW]; rfl
 | _ :: _ :: _ :: _,hb=>exact absurd hb.1 (by simp)
theorem Rf (ids:List qQ) (n:Int) (hb:GK ids):MZ ids n=some ((),((vD n ids,()),())):=by
 have inn:∀ (o:List db) (x:Int) (ids:List qQ) (k j:Int),rM n [] x 0 ids k j=some (.inl (n,[],x,0,ids,k,j,())):=fun o x ids k j=>aK _ rfl
 have in1:∀ (s x:Int) (ids:List qQ) (k j:Int),rM n [(s,())] x 0 ids k j=some (.inl (n,[(s,())],x,(bif au s x then 1 else 0),ids,k,j,())):=fun s x ids k j=>by
  have e:Da n [(s,())] x 0 ids k j=bif au s x then some (.inl (n,[(s,())],x,1,ids,k,j,())) else some (.inr (.inl (n,[(s,())],x,0,ids,k,j,()))):=rfl;cases hc:au s x with
  | true=>rw [hc] at e; exact aU _ e (aK _ rfl)
  | false=>rw [hc] at e; exact aK _ e
 unfold MZ
 match ids,hb with
 | [],_ => have h:Ag n [] [] 0 0=some (.inl (n,[],[],0,0,())):=aK _ rfl;exact (bn h).trans rfl
 | [a],hb =>
   have e:mN n [] [a] 1 0=some (.inl (n,[(aF a.1 n,())],[a],1,1,())):=by unfold mN;show Option.bind (Bj a.1 n) _=_;rw [rE a.1 n (cD (hb.2 a (by simp)))];show Option.bind (rM n [] (aF a.1 n) 0 [a] 1 0) _=_;rw [inn []]; rfl
   have h:Ag n [] [a] 1 0=some (.inl (n,[(aF a.1 n,())],[a],1,1,())):=aU _ e (aK _ rfl);exact (bn h).trans rfl
 | [a,b],hb =>
   have e1:mN n [] [a,b] 2 0=some (.inl (n,[(aF a.1 n,())],[a,b],2,1,())):=by unfold mN;show Option.bind (Bj a.1 n) _=_;rw [rE a.1 n (cD (hb.2 a (by simp)))];show Option.bind (rM n [] (aF a.1 n) 0 [a,b] 2 0) _=_;rw [inn []]; rfl
   have e2:mN n [(aF a.1 n,())] [a,b] 2 1=some (.inl (n,vD n [a,b],[a,b],2,2,())):=by
    unfold mN;show Option.bind (Bj b.1 n) _=_;rw [rE b.1 n (cD (hb.2 b (by simp)))];show Option.bind (rM n [(aF a.1 n,())] (aF b.1 n) 0 [a,b] 2 1) _=_;rw [in1,show vD n [a,b]=bif au (aF b.1 n) (aF a.1 n) then [(aF b.1 n,()),(aF a.1 n,())] else bif aq (aF b.1 n) (aF a.1 n) then [(aF a.1 n,())] else [(aF a.1 n,()),(aF b.1 n,())] from rfl];cases hc:au (aF a.1 n) (aF b.1 n) with
    | true => have hlt:aF a.1 n < aF b.1 n:=of_decide_eq_true hc;rw [ax (show ¬ aF b.1 n < aF a.1 n by omega),show aq (aF b.1 n) (aF a.1 n)=false from beq_eq_false_iff_ne.2 (by omega)]; rfl
    | false =>
      have hge:¬ aF a.1 n < aF b.1 n:=of_decide_eq_false hc;dsimp only [Option.bind_some,cond_false,Sum.elim_inl];show cond (aq (aF a.1 n) (aF b.1 n)) _ _=_;by_cases he:aF a.1 n=aF b.1 n
      . rw [he,bg,ax (show ¬ aF b.1 n < aF b.1 n by omega)]; rfl
      . rw [show aq (aF a.1 n) (aF b.1 n)=false from beq_eq_false_iff_ne.2 he,aG (show aF b.1 n < aF a.1 n by omega)]; rfl
   have h:Ag n [] [a,b] 2 0=some (.inl (n,vD n [a,b],[a,b],2,2,())):=aU _ e1 (aU _ e2 (aK _ rfl));exact (bn h).trans rfl
 | _ :: _ :: _ :: _,hb=>exact absurd hb.1 (by simp)
def gZ:kj:=(0,[],[],[],[],[],0,0,())
def yU (s:List UInt8):Bool:=cond (cond (cq s [48,49,48,48]) true (cq s [48,50,48,48])) true (cq s [48,50,50,48])
abbrev Gw:=List UInt8×List UInt8×List UInt8×List (Int×Unit)×Unit
def cY:List Gw:=[([48,49,48,48],[48,48],[97,117,116,104],[(4,()),(14,()),(38,())],()),([48,49,48,48],[48,50],[109,111,114,101],[(4,()),(38,())],()),([48,50,50,48],[48,49],[112,97,114,116],[(4,()),(38,())],()),([48,50,50,48],[48,48],[102,105,110,97,108],[(4,()),(38,())],()),([48,50,50,48],[50,48],[102,114,101,101],[(38,())],()),([48,50,48,48],[52,48],[109,111,118,101],[(38,()),(103,())],()),([48,49,48,48],[51,49],[97,115,107],[],()),([48,50,48,48],[57,48],[115,119,101,101,112],[],())]
def CG (mti c:List UInt8) (r:Gw):Bool:=cond (cq r.1 mti) (cq r.2.1 (sub c 0 2)) false
def eo (mti c:List UInt8):Int:=1 + gz (CG mti c) 0 cY
theorem tg (mti c:List UInt8):eo mti c=0∨eo mti c=1∨eo mti c=2∨eo mti c=3∨eo mti c=4∨eo mti c=5∨eo mti c=6∨eo mti c=7∨eo mti c=8:=by unfold eo;have:=vV (CG mti c) cY 0;simp only [show cY.length=8 from rfl] at this;omega
theorem MU (m:cH) (c:List UInt8) (hc:2<=c.length) (nm:List UInt8×Unit) (hn:nm=(c,())):NL cY m nm=some ((),((gz (CG m.1 c) 0 cY,()),())):=by
 subst hn;have hcut:dO 0 2 c=true:=ji (i:=2) hc;have h:=aH (step:=cV ot) cY (fun i (_:Unit)=>(cY,(m,(c,()),()),ae cY,((i:Nat):Int),())) (fun i x _=>bif CG m.1 c x then Sum.inr (.inr ((i:Int),())) else .inl ()) (fun _=> .inl (cY,(m,(c,()),()),ae cY,(cY.length:Int),())) (a0:=()) (fun i x a hx=>by
  have hlt:=aj hx;have h8:cY.length=8:=rfl;show ot cY (m,(c,()),()) (ae cY) (i:Int)=_;unfold ot Rw CG;rw [aD hx,az hx,aV _ hx,aJ (by unfold aT; omega)];dsimp only [cond_true];rw [hcut];cases cq x.1 m.1 <;> cases cq x.2.1 (sub c 0 2) <;> rfl) (fun a=>by
  show ot cY (m,(c,()),()) (ae cY) (cY.length:Int)=_;unfold ot;rw [aw rfl]; rfl)
 have hf:=mQ (Y:=Sum ((List Gw)×(cH×(List UInt8×Unit)×Unit)×Int×Int×Unit) (Int×Unit)) (CG m.1 c) (fun n=> .inr (n,())) (.inl (cY,(m,(c,()),()),ae cY,(cY.length:Int),())) (fun y=>match y with | .inl _ => -1 | .inr z=>z.1) (fun _=>rfl) rfl cY 0;unfold NL;refine (bn h).trans ?_;rw [<- hf];dsimp only [Option.bind_some];cases jO _ _ 0 cY () <;> rfl
theorem opm {i:Nat} {x:Gw} (hx:cY[i]? = some x):Ft (((i + 1:Nat)):Int)=some ((),((x.1,()),()))/\Qw (((i + 1:Nat)):Int)=some ((),((x.2.1,()),())):=by
 have hlt:=aj hx;have h8:cY.length=8:=rfl;have:i=0∨i=1∨i=2∨i=3∨i=4∨i=5∨i=6∨i=7:=by omega
 rcases this with h | h | h | h | h | h | h | h <;> subst h <;> cases hx <;> exact ⟨rfl,rfl⟩
theorem Ns (mti c:List UInt8) (hc:2<=c.length):J4 mti c=some ((),((eo mti c,()),())):=by
 have hcut:dO 0 2 c=true:=ji (i:=2) hc;have h8:cY.length=8:=rfl;have h:=aH (step:=dk wN) cY (fun i (_:Unit)=>(mti,c,((i + 1:Nat):Int),())) (fun i x _=>bif CG mti c x then Sum.inr (.inr (((i + 1:Nat):Int),())) else .inl ()) (fun _=> .inl (mti,c,9,())) (a0:=()) (fun i x a hx=>by have hlt:=aj hx;show wN mti c ((i + 1:Nat):Int)=_;unfold wN CG;rw [(opm hx).1,(opm hx).2,show bH ((i + 1:Nat):Int) 8=true from decide_eq_true (by omega),aJ (by unfold aT; omega)];dsimp only [cond_true,Option.bind_some];rw [hcut];cases cq x.1 mti <;> cases cq x.2.1 (sub c 0 2) <;> rfl) (fun a=>rfl);have hf:=mQ (Y:=Sum (List UInt8×List UInt8×Int×Unit) (Int×Unit)) (CG mti c) (fun n=> .inr (1 + n,())) (.inl (mti,c,9,())) (fun y=>match y with | .inl _ => -1 | .inr z=>z.1 - 1) (fun n=>by show 1 + n - 1=n; omega) rfl cY 0;rw [show (fun (i:Nat) (x:Gw) (_:Unit)=>bif CG mti c x then (Sum.inr (Sum.inr (((i + 1:Nat):Int),())):Sum Unit (Sum (List UInt8×List UInt8×Int×Unit) (Int×Unit))) else .inl ())=fun i x _=>bif CG mti c x then .inr (.inr (1 + (i:Int),())) else .inl () from by funext i x _;rw [show ((i + 1:Nat):Int)=1 + (i:Int) by omega]] at h;unfold J4;have h':JK mti c 1=_:=h;refine (bn h').trans ?_;unfold eo;rw [<- hf];dsimp only [Option.bind_some];have hneg:gz (CG mti c) 0 cY = -1∨0<=gz (CG mti c) 0 cY:=by
  rcases vV (CG mti c) cY 0 with h | h
  . exact Or.inl h
  . exact Or.inr h.1
 cases hg:jO (fun (i:Nat) (x:Gw) (_:Unit)=>bif CG mti c x then (Sum.inr (Sum.inr (1 + (i:Int),())):Sum Unit (Sum (List UInt8×List UInt8×Int×Unit) (Int×Unit))) else .inl ()) (fun _=> .inl (mti,c,9,())) 0 cY () with
 | inl y=>rfl
 | inr y => show some ((),((y.1,()),()))=some ((),((1 + (y.1 - 1),()),()));rw [show 1 + (y.1 - 1)=y.1 by omega]
def fv (m:cH) (no:Int):List UInt8:=(l7 m no).getD []
def fs (m:cH) (no:Int):Bool:=(l7 m no).isSome
theorem lA (m:cH) (no:Int):Df (l7 m no)=some ((),((fv m no,()),(fs m no,()),())):=by unfold Df fv fs;cases l7 m no <;> rfl
theorem uz {m:cH} {no:Int} (h:fs m no=false):fv m no=[]:=by
 unfold fs at h; unfold fv;cases hf:l7 m no with
 | none=>rfl
 | some s=>rw [hf] at h; cases h
theorem E6 {m:cH} {no:Int} {s:List UInt8} (h:l7 m no=some s):∃ f∈m.2.1,f.1=no/\f.2.1=s:=by
 unfold l7 at h;cases hf:m.2.1.find? fun f=>aq f.1 no with
 | none=>rw [hf] at h; cases h
 | some f => rw [hf] at h;refine ⟨f,List.mem_of_find?_eq_some hf,fY.1 (by have:=List.find?_some hf; exact this),?_⟩;cases h; rfl
theorem lv {m:cH} (hb:rr m) (no:Int):(fv m no).length<=1048576:=by
 unfold fv;cases h:l7 m no with
 | none=>exact Nat.zero_le _
 | some s => obtain ⟨f,h1,_,rfl⟩:=E6 h;exact hb.2.2 f h1
theorem Nz {m:cH} (h:vH m=true) {no:Int} {s:List UInt8} (hf:l7 m no=some s):ja no s=true:=by
 unfold vH at h;obtain ⟨f,h1,h2,h3⟩:=E6 hf;obtain ⟨i,hi⟩:=List.mem_iff_getElem?.1 h1;cases hd:cond (aW m.1) (aq (ae m.1) 4) false with
 | false=>rw [hd] at h; cases h
 | true =>
   rw [hd] at h;have:=BF (fZ m.2.1) h hi;unfold fZ at this;rw [h2,h3] at this;cases hk:ja no s with
   | true=>rfl
   | false=>rw [hk] at this; cases this
theorem yw {m:cH} (h:vH m=true) {s:List UInt8} (hf:l7 m 3=some s):2<=s.length:=by
 have:=Nz h hf;have e:ja 3 s=cond (aW s) (aq (ae s) 6) false:=rfl;rw [e] at this;cases hd:aW s with
 | false=>rw [hd] at this; cases this
 | true => rw [hd] at this;have:=fY.1 (show aq (ae s) 6=true from this);have:(s.length:Int)=6:=this;omega
def SW (s:List UInt8):Int:=match yb s with | some n=>(n:Int) | none=>0
def nkM (s:List UInt8):Bool:=(yb s).isSome
theorem zr (s:List UInt8):L4 (yb s)=some ((),((SW s,()),(nkM s,()),())):=by unfold L4 SW nkM;cases yb s <;> rfl
def iT (m:cH) (op:Int):kj:=(op,fv m 2,cond (aq op 6) (fv m 103) [],cond (cond (dI op 1 8) (au op 7) false) (sW (fv m 38)) [],fv m 11,m.1,cond (dI op 1 4) (SW (fv m 4)) 0,cond (aq op 1) (SW (fv m 14)) 0,())
def Jz (m:cH) (op:Int):Bool:=cond (cond (dI op 1 4) (fs m 4) true) (cond (aq op 1) (fs m 14) true) false
def Fs (m:cH) (op:Int):kj×Int:=cond (Jz m op) (cond (qA (iT m op)) (iT m op,0) (gZ,1)) (gZ,1)
def ko (m:cH):kj×Int:=cond (vH m) (cond (yU m.1) (match l7 m 3 with | none=>(gZ,1) | some c=>Fs m (eo m.1 c)) (gZ,2)) (gZ,1)
def HZ (p:kj×Int):Option (Unit×(kj×(Int×Unit)×Unit)):=some ((),(p.1,(p.2,()),()))
theorem CP {m:cH} (hb:rr m) (op:Int):JN (iT m op):=by
 refine ⟨lv hb 2,?_,?_,lv hb 11,hb.1⟩
 . show (cond (aq op 6) (fv m 103) []).length<=_;cases aq op 6 with
   | true=>exact lv hb 103
   | false=>exact Nat.zero_le _
 . show (cond (cond (dI op 1 8) (au op 7) false) (sW (fv m 38)) []).length<=_;cases cond (dI op 1 8) (au op 7) false with
   | true=>exact Nat.le_trans (HQ _) (lv hb 38)
   | false=>exact Nat.zero_le _
theorem X9 (m:cH) (hb:rr m):NF m=HZ (ko m):=by
 unfold NF ko;rw [VJ m hb];cases hm:vH m with
 | false=>rfl
 | true =>
 have hk:QK m.1=some ((),((yU m.1,()),())):=rfl;dsimp only [Option.bind_some,Bool.not_true,cond_false];rw [hk];cases yU m.1 with
 | false=>rfl
 | true =>
 show Option.bind (j4 m 3) _=_;rw [uH m 3 hb];cases h3:l7 m 3 with
 | none=>rfl
 | some c =>
 show Option.bind (J4 m.1 c) _=_;rw [Ns m.1 c (yw hm h3)];have f2:=(uH m 2 hb).trans (lA m 2);have f11:=(uH m 11 hb).trans (lA m 11);have f38:=(uH m 38 hb).trans (lA m 38);have f4:=(uH m 4 hb).trans (lA m 4);have f14:=(uH m 14 hb).trans (lA m 14);have f103:=(uH m 103 hb).trans (lA m 103);have b38:=Q0 (fv m 38) (cD (lv hb 38));have n4:=(EV (fv m 4) (cD (lv hb 4))).trans (zr _);have n14:=(EV (fv m 14) (cD (lv hb 14))).trans (zr _);dsimp only [Option.bind_some];rw [f2,f11];dsimp only [Option.bind_some];have hop:=tg m.1 c;generalize eo m.1 c=op at hop ⊢;have hq:=VB (iT m op) (CP hb op);have hH:FX op=some ((),((cond (dI op 1 8) (au op 7) false,()),())):=rfl;have hA:Ck op=some ((),((dI op 1 4,()),())):=rfl;unfold Fs;generalize qA (iT m op)=z at hq ⊢;rw [hH,hA,f38,f4,f14,f103];dsimp only [Option.bind_some];rw [b38,n4,n14];dsimp only [Option.bind_some];unfold Jz;unfold iT at hq ⊢;generalize cond (dI op 1 8) (au op 7) false=c1 at hq ⊢;generalize dI op 1 4=c2 at hq ⊢;generalize aq op 1=c3 at hq ⊢;generalize aq op 6=c4 at hq ⊢;cases c1 <;> cases c2 <;> cases c3 <;> cases c4 <;> dsimp only [cond_true,cond_false] at hq ⊢ <;> rw [hq] <;> cases fs m 4 <;> cases fs m 14 <;> cases z <;> rfl
theorem QY {m:cH} {op:Int} (h:qA (iT m op)=true):fs m 2=true/\fs m 11=true/\(cond (dI op 1 8) (au op 7) false=true->fs m 38=true)/\(aq op 6=true->fs m 103=true):=by
 unfold qA iT at h;simp only [Bool.and_eq_true] at h;obtain ⟨⟨⟨⟨⟨⟨⟨⟨h1,_⟩,h2⟩,h3⟩,_⟩,h4⟩,_⟩,_⟩,h5⟩:=h;refine ⟨?_,?_,fun hc => ?_,fun hc => ?_⟩
 . cases hf:fs m 2 with
   | true=>rfl
   | false=>rw [uz hf] at h2; cases h2
 . cases hf:fs m 11 with
   | true=>rfl
   | false=>rw [uz hf] at h3; cases h3
 . cases hf:fs m 38 with
   | true=>rfl
   | false => rw [hc,uz hf] at h4;rw [h1] at hc;rw [show au op 7=true from hc] at h4;cases h4
 . cases hf:fs m 103 with
   | true=>rfl
   | false=>rw [hc,uz hf] at h5; cases h5
def lM (op:Int):List db:=cond (dI op 1 8) (gt ([],[],[],[],()) cY (op - 1)).2.2.2.1 []
def Gy (m:cH) (op:Int):Bool:=fs m 2 && (fs m 11 && (lM op).all fun x=>fs m x.1)
def Zz (op:Int):Prop:=op=0∨op=1∨op=2∨op=3∨op=4∨op=5∨op=6∨op=7∨op=8
theorem I3 (m:cH) (op:Int) (hop:Zz op):Fs m op=bif Gy m op then (bif qA (iT m op) then (iT m op,0) else (gZ,1)) else (gZ,1):=by
 have hz:= @QY m op;unfold Fs;generalize qA (iT m op)=z at hz ⊢;generalize iT m op=q at hz ⊢;cases z with
 | false=>cases Gy m op <;> cases Jz m op <;> rfl
 | true =>
   obtain ⟨h1,h2,h3,h4⟩:=hz rfl;unfold Gy Jz;rw [h1,h2];rcases hop with h | h | h | h | h | h | h | h | h <;> subst h
   . rfl
   . have:=h3 rfl;show (bif cond (fs m 4) (fs m 14) false then _ else _)=bif true && (true && (fs m 4 && (fs m 14 && (fs m 38 && true)))) then _ else _;rw [this];cases fs m 4 <;> cases fs m 14 <;> rfl
   . have:=h3 rfl;show (bif cond (fs m 4) true false then _ else _)=bif true && (true && (fs m 4 && (fs m 38 && true))) then _ else _;rw [this];cases fs m 4 <;> rfl
   . have:=h3 rfl;show (bif cond (fs m 4) true false then _ else _)=bif true && (true && (fs m 4 && (fs m 38 && true))) then _ else _;rw [this];cases fs m 4 <;> rfl
   . have:=h3 rfl;show (bif cond (fs m 4) true false then _ else _)=bif true && (true && (fs m 4 && (fs m 38 && true))) then _ else _;rw [this];cases fs m 4 <;> rfl
   . have:=h3 rfl;show _=bif true && (true && (fs m 38 && true)) then _ else _;rw [this]; rfl
   . have:=h3 rfl;have h6:=h4 rfl;show _=bif true && (true && (fs m 38 && (fs m 103 && true))) then _ else _;rw [this,h6]; rfl
   . rfl
   . rfl
def NO (m:cH) (no:Int) (q:kj):kj :=
 cond (aq no 2) (q.1,fv m no,q.2.2.1,q.2.2.2.1,q.2.2.2.2.1,q.2.2.2.2.2.1,q.2.2.2.2.2.2.1,q.2.2.2.2.2.2.2.1,())
  (cond (aq no 4) (q.1,q.2.1,q.2.2.1,q.2.2.2.1,q.2.2.2.2.1,q.2.2.2.2.2.1,SW (fv m no),q.2.2.2.2.2.2.2.1,())
    (cond (aq no 11) (q.1,q.2.1,q.2.2.1,q.2.2.2.1,fv m no,q.2.2.2.2.2.1,q.2.2.2.2.2.2.1,q.2.2.2.2.2.2.2.1,())
      (cond (aq no 14) (q.1,q.2.1,q.2.2.1,q.2.2.2.1,q.2.2.2.2.1,q.2.2.2.2.2.1,q.2.2.2.2.2.2.1,SW (fv m no),())
        (cond (aq no 38) (q.1,q.2.1,q.2.2.1,sW (fv m no),q.2.2.2.2.1,q.2.2.2.2.2.1,q.2.2.2.2.2.2.1,q.2.2.2.2.2.2.2.1,())
          (cond (aq no 103) (q.1,q.2.1,fv m no,q.2.2.2.1,q.2.2.2.2.1,q.2.2.2.2.2.1,q.2.2.2.2.2.2.1,q.2.2.2.2.2.2.2.1,()) q)))))
def I6 (m:cH):List db->kj->Option kj
 | [],q=>some q
 | x :: r,q=>bif fs m x.1 then I6 m r (NO m x.1 q) else none
def Uo (xs:List db) (n:Int) (m:cH):Option kj->Sum (List db×Int×Int×cH×kj×kj×Unit) (Int×kj×Unit)
 | some q=> .inl (xs,n,n,m,gZ,q,())
 | none=> .inr (1,gZ,())
theorem EO (m:cH) (ys:List db) (n:Int):∀ (xs:List db) (i:Nat) (q:kj),jO (fun _ x q=>bif fs m x.1 then Sum.inl (NO m x.1 q) else .inr (.inr (1,gZ,()))) (fun q=> .inl (ys,n,n,m,gZ,q,())) i xs q=Uo ys n m (I6 m xs q)
 | [],_,_=>rfl
 | x :: r,i,q=>by
   rw [jO,I6];cases fs m x.1 with
   | false=>rfl
   | true=>exact EO m ys n r (i + 1) _
theorem LW (m:cH) (hb:rr m) (xs:List db) (hx:xs.length<=10) (q0:kj):Ie xs (ae xs) 0 m gZ q0=some (Uo xs (ae xs) m (I6 m xs q0)):=by
 have h:=aH (step:=D5 pE) xs (fun i (q:kj)=>(xs,ae xs,((i:Nat):Int),m,gZ,q,())) (fun _ x q=>bif fs m x.1 then Sum.inl (NO m x.1 q) else .inr (.inr (1,gZ,()))) (fun q=> .inl (xs,ae xs,ae xs,m,gZ,q,())) (a0:=q0) (fun i x q hx=>by
  have hlt:=aj hx;show pE xs (ae xs) (i:Int) m gZ q=_;unfold pE;rw [aD hx,az hx,aV _ hx,aJ (by unfold aT; omega)];dsimp only [cond_true];rw [Pm m x.1 hb,lA];dsimp only [Option.bind_some];rw [(OO (fv m x.1) (cD (lv hb x.1))).trans (zr _),R4 (fv m x.1) (cD (lv hb x.1))];unfold NO;cases fs m x.1 with
  | false=>rfl
  | true=>cases aq x.1 2 <;> cases aq x.1 4 <;> cases aq x.1 11 <;> cases aq x.1 14 <;> cases aq x.1 38 <;> cases aq x.1 103 <;> rfl) (fun q=>by
  show pE xs (ae xs) (xs.length:Int) m gZ q=_;unfold pE;rw [aw rfl]; rfl)
 rw [EO] at h;exact h
theorem Np (m:cH) (op:Int) (hop:Zz op):I6 m ((2,()) :: (11,()) :: lM op) (op,[],[],[],[],m.1,0,0,())=bif Gy m op then some (iT m op) else none:=by
 unfold Gy;rcases hop with h | h | h | h | h | h | h | h | h <;> subst h
 . show (bif fs m 2 then (bif fs m 11 then some (iT m 0) else none) else none)=bif fs m 2 && (fs m 11 && true) then _ else _;cases fs m 2 <;> cases fs m 11 <;> rfl
 . show (bif fs m 2 then (bif fs m 11 then (bif fs m 4 then (bif fs m 14 then (bif fs m 38 then some (iT m 1) else none) else none) else none) else none) else none)=bif fs m 2 && (fs m 11 && (fs m 4 && (fs m 14 && (fs m 38 && true)))) then _ else _;cases fs m 2 <;> cases fs m 11 <;> cases fs m 4 <;> cases fs m 14 <;> cases fs m 38 <;> rfl
 . show (bif fs m 2 then (bif fs m 11 then (bif fs m 4 then (bif fs m 38 then some (iT m 2) else none) else none) else none) else none)=bif fs m 2 && (fs m 11 && (fs m 4 && (fs m 38 && true))) then _ else _;cases fs m 2 <;> cases fs m 11 <;> cases fs m 4 <;> cases fs m 38 <;> rfl
 . show (bif fs m 2 then (bif fs m 11 then (bif fs m 4 then (bif fs m 38 then some (iT m 3) else none) else none) else none) else none)=bif fs m 2 && (fs m 11 && (fs m 4 && (fs m 38 && true))) then _ else _;cases fs m 2 <;> cases fs m 11 <;> cases fs m 4 <;> cases fs m 38 <;> rfl
 . show (bif fs m 2 then (bif fs m 11 then (bif fs m 4 then (bif fs m 38 then some (iT m 4) else none) else none) else none) else none)=bif fs m 2 && (fs m 11 && (fs m 4 && (fs m 38 && true))) then _ else _;cases fs m 2 <;> cases fs m 11 <;> cases fs m 4 <;> cases fs m 38 <;> rfl
 . show (bif fs m 2 then (bif fs m 11 then (bif fs m 38 then some (iT m 5) else none) else none) else none)=bif fs m 2 && (fs m 11 && (fs m 38 && true)) then _ else _;cases fs m 2 <;> cases fs m 11 <;> cases fs m 38 <;> rfl
 . show (bif fs m 2 then (bif fs m 11 then (bif fs m 38 then (bif fs m 103 then some (iT m 6) else none) else none) else none) else none)=bif fs m 2 && (fs m 11 && (fs m 38 && (fs m 103 && true))) then _ else _;cases fs m 2 <;> cases fs m 11 <;> cases fs m 38 <;> cases fs m 103 <;> rfl
 . show (bif fs m 2 then (bif fs m 11 then some (iT m 7) else none) else none)=bif fs m 2 && (fs m 11 && true) then _ else _;cases fs m 2 <;> cases fs m 11 <;> rfl
 . show (bif fs m 2 then (bif fs m 11 then some (iT m 8) else none) else none)=bif fs m 2 && (fs m 11 && true) then _ else _;cases fs m 2 <;> cases fs m 11 <;> rfl
theorem I5 (op:Int) (hop:Zz op):∃ a b c,Aq op=some ((),((a,b,c,lM op,()),()))/\(lM op).length<=3:=by rcases hop with h | h | h | h | h | h | h | h | h <;> subst h <;> exact ⟨_,_,_,rfl,by decide⟩
theorem ZD (m:cH) (hb:rr m):N5 m=HZ (ko m):=by
 unfold N5 ko;rw [Vt m hb];cases hm:vH m with
 | false=>rfl
 | true =>
 have hk:RS m.1=some ((),((yU m.1,()),())):=rfl;dsimp only [Option.bind_some,Bool.not_true,cond_false];rw [hk];cases yU m.1 with
 | false=>rfl
 | true =>
 show Option.bind (F2 m 3) _=_;rw [Pm m 3 hb];cases h3:l7 m 3 with
 | none=>rfl
 | some c =>
 have hr:L6=some ((),((cY,()),())):=rfl;unfold Df;dsimp only [Option.bind_some,Bool.not_true,cond_false];rw [hr];dsimp only [Option.bind_some];refine (bn (MU m c (yw hm h3) (c,()) rfl)).trans ?_;have hop:=tg m.1 c;have hw:ai .i64 1 (gz (CG m.1 c) 0 cY)=eo m.1 c:=by unfold eo at hop ⊢;exact ay (by omega) (by omega)
 dsimp only [Option.bind_some];rw [hw];generalize eo m.1 c=op at hop ⊢;obtain ⟨a1,a2,a3,hf,hfl⟩:=I5 op hop;rw [hf];dsimp only [Option.bind_some];have hfit:ct 8 [((2:Int),()),(11,())] (lM op)=true:=Nat.ble_eq_true_of_le (by show (2 + (lM op).length) * 8<=140737488355328; omega);rw [hfit];refine (bn (LW m hb ((2,()) :: (11,()) :: lM op) (by simp only [List.length_cons]; omega) (op,[],[],[],[],m.1,0,0,()))).trans ?_;rw [Np m op hop];show _=HZ (Fs m op);rw [I3 m op hop];cases Gy m op with
 | false=>rfl
 | true => refine (bn (T3 (iT m op) (CP hb op))).trans ?_;cases qA (iT m op) <;> rfl
def Dk (b:aY):List qQ:=match ky b with
 | (m,c)=>bif aq c 0 then (match ko m with | (q,d)=>bif aq d 0 then (bif aq q.1 6 && !(cq q.2.2.1 q.2.1) then (bif j8 q.2.2.1 q.2.1 then [(q.2.2.1,()),(q.2.1,())] else [(q.2.1,()),(q.2.2.1,())]) else [(q.2.1,())]) else []) else []
theorem Ez {b:aY}:∀ {nos:aY} {a:Nat} {o l:List oO} {e:Nat},a<=b.length->(∀ f∈o,f.2.1.length<=1048576)->ld b nos a o=some (l,e)->l.length=o.length + nos.length/\∀ f∈l,f.2.1.length<=1048576
 | [],_,_,_,_,_,ho,h=>by cases h;exact ⟨rfl,ho⟩
 | x :: r,a,o,l,e,ha,ho,h=>by
   rw [ld] at h;cases hg:nK b a x.1 with
   | none=>rw [hg] at h; cases h
   | some p =>
     rw [hg] at h;obtain ⟨_,h2,h3⟩:=se ha hg;obtain ⟨k1,k2⟩:=Ez (nos:=r) h3 (fun f hf=>by
      rcases List.mem_append.1 hf with h | h
      . exact ho f h
      . rcases List.mem_singleton.1 h with rfl
        exact Nat.le_trans h2 (by omega)) h
     refine ⟨?_,k2⟩;rw [k1,List.length_append];simp only [List.length_cons,List.length_nil];omega
theorem wA (b:aY):rr (ky b).1:=by
 have h0:rr ([],[],()):=⟨Nat.zero_le _,Nat.zero_le _,fun f hf=>by cases hf⟩;unfold ky;cases hc:jf b 0 4 with
 | none=>exact h0
 | some mti =>
   cases hn:AJ b with
   | none=>exact h0
   | some p =>
     obtain ⟨nos,a⟩:=p;obtain ⟨n1,n2⟩:=AY hn;dsimp only;cases hf:ld b nos a [] with
     | none=>exact h0
     | some q =>
       obtain ⟨l,e⟩:=q;obtain ⟨k1,k2⟩:=Ez n2 (fun f hf=>by cases hf) hf;dsimp only;split
       . refine ⟨?_,?_,k2⟩
         . show mti.length<=_;rw [(dR hc).2.1]; omega
         . show l.length<=_;rw [k1]; simp only [List.length_nil]; exact Nat.le_trans (Nat.le_of_eq (Nat.zero_add _)) (Nat.le_trans n1 (by omega))
       . exact h0
theorem Lx {m:cH} (hb:rr m):JN (ko m).1:=by
 have h0:JN gZ:=⟨Nat.zero_le _,Nat.zero_le _,Nat.zero_le _,Nat.zero_le _,Nat.zero_le _⟩;unfold ko Fs;cases vH m with
 | false=>exact h0
 | true =>
 cases yU m.1 with
 | false=>exact h0
 | true =>
 cases l7 m 3 with
 | none=>exact h0
 | some c =>
 dsimp only [cond_true];cases Jz m (eo m.1 c) with
 | false=>exact h0
 | true =>
   dsimp only [cond_true];cases qA (iT m (eo m.1 c)) with
   | false=>exact h0
   | true=>exact CP hb _
theorem PC (b:aY):GK (Dk b):=by
 have h1:=Lx (wA b);have h0:GK []:=⟨Nat.zero_le _,fun x hx=>by cases hx⟩;unfold Dk;generalize ky b=p at h1 ⊢;obtain ⟨m,c⟩:=p;dsimp only at h1 ⊢;cases aq c 0 with
 | false=>exact h0
 | true =>
 generalize ko m=r at h1 ⊢;obtain ⟨q,d⟩:=r;dsimp only [cond_true] at h1 ⊢;have two:∀ x y:List UInt8,x.length<=1048576->y.length<=1048576->GK [(x,()),(y,())]:=fun x y hx hy=>⟨Nat.le_refl _,fun z hz=>by
  rcases List.mem_cons.1 hz with rfl | hz
  . exact hx
  . rcases List.mem_singleton.1 hz with rfl
    exact hy⟩
 cases aq d 0 with
 | false=>exact h0
 | true =>
   dsimp only [cond_true];cases aq q.1 6 && !(cq q.2.2.1 q.2.1) with
   | false=>exact ⟨Nat.le_succ 1,fun z hz=>by rcases List.mem_singleton.1 hz with rfl; exact h1.1⟩
   | true =>
     dsimp only [cond_true];cases j8 q.2.2.1 q.2.1 with
     | true=>exact two _ _ h1.2.1 h1.1
     | false=>exact two _ _ h1.1 h1.2.1
theorem UU (b:aY) (hb:yL b):ND b=some ((),((Dk b,()),())):=by
 unfold ND Dk;rw [V1 b hb];have hm:=wA b;unfold GR;generalize ky b=p at hm ⊢;obtain ⟨m,c⟩:=p;dsimp only [Option.bind_some] at hm ⊢;cases aq c 0 with
 | false=>rfl
 | true =>
   dsimp only [Bool.not_true,cond_false,cond_true];rw [X9 m hm];unfold HZ;generalize ko m=r;obtain ⟨q,d⟩:=r;dsimp only [Option.bind_some];cases aq d 0 with
   | false=>rfl
   | true => dsimp only [Bool.not_true,cond_false,cond_true];cases aq q.1 6 <;> cases cq q.2.2.1 q.2.1 <;> cases j8 q.2.2.1 q.2.1 <;> rfl
theorem Ev {a b:List UInt8}:cq a b=true↔a=b:=by simp [cq]
theorem Wu (b:aY) (hb:yL b):Na b=some ((),((Dk b,()),())):=by
 unfold Na Dk;rw [Un b hb];have hm:=wA b;unfold GR;generalize ky b=p at hm ⊢;obtain ⟨m,c⟩:=p;dsimp only [Option.bind_some] at hm ⊢;rw [ZD m hm];unfold HZ;generalize ko m=r;obtain ⟨q,d⟩:=r;dsimp only [Option.bind_some];cases aq c 0 with
 | false=>rfl
 | true =>
 cases aq d 0 with
 | false=>rfl
 | true =>
 dsimp only [Bool.not_true,cond_false,cond_true];cases aq q.1 6 with
 | false => dsimp only [cond_false,Bool.false_and];rw [NT]; rfl
 | true =>
   show Option.bind (BI [(q.2.1,()),(q.2.2.1,())]) _=_;rw [NB];unfold SP;dsimp only [Option.bind_some,Bool.true_and];cases he:cq q.2.2.1 q.2.1 with
   | true => have e:=Ev.1 he;rw [e,zp];dsimp only [cond_false];rw [zH,cW]; rfl
   | false =>
     cases hc:j8 q.2.2.1 q.2.1 with
     | true =>
       dsimp only [cond_true];rw [zH];have:cq q.2.1 q.2.2.1=false:=by
        cases h:cq q.2.1 q.2.2.1 with
        | false=>rfl
        | true=>rw [Ev.1 h,cW] at he; cases he
       dsimp only;rw [this]; rfl
     | false => dsimp only [cond_false];rw [zH];dsimp only;rw [he]; rfl
def qY (b:aY) (n:Int):List db:=vD n (Dk b)
abbrev dq:=aY×Int×List db×Int×Int×Int×Int×Int×aY×Unit
def nN (t:dq):Prop:=yL t.1/\t.2.2.1.length<=1048576/\t.2.2.2.2.2.2.2.2.1.length<=1048576
def Fo (a b:List db):Bool:=cond (aq (ae a) (ae b)) (allI (fun i x=>aq x.1 (gt (0,()) b (i:Int)).1) 0 a) false
theorem OY (a b:List db) (hs:a.length<=1048576):ML a b=some ((),((Fo a b,()),())):=by
 unfold ML Fo;dsimp only;cases he:aq (ae a) (ae b) with
 | false=>rfl
 | true =>
   have hl:a.length=b.length:=by have:=fY.1 he; unfold ae at this; omega
   have h:=aH (step:=cV oC) a (fun i (_:Unit)=>(a,b,ae a,((i:Nat):Int),())) (fun i x _=>bif aq x.1 (gt (0,()) b (i:Int)).1 then Sum.inl () else .inr (.inr (false,()))) (fun _=> .inl (a,b,ae a,(a.length:Int),())) (a0:=()) (fun i x u hx=>by
    have hlt:=aj hx;show oC a b (ae a) (i:Int)=_;unfold oC;rw [aD hx,az hx,aV _ hx,aJ (by unfold aT; omega),lq (xs:=b) (by omega)];dsimp only [cond_true];show cond (!(aq x.1 (gt (0,()) b (i:Int)).1)) _ _=_;cases aq x.1 (gt (0,()) b (i:Int)).1 <;> rfl) (fun u=>by
    show oC a b (ae a) (a.length:Int)=_;unfold oC;rw [aw rfl]; rfl)
   rw [cK] at h;refine (bn h).trans ?_;dsimp only [cond_true];cases allI _ 0 a <;> rfl
theorem TO (a b:List db) (hs:a.length<=1048576):Ru a b=some ((),((Fo a b,()),())):=OY a b hs
theorem Sc (t:dq) (n:Int) (hb:nN t):WW t n=some ((),((qY t.1 n,()),())):=by unfold WW qY;rw [UU _ hb.1];dsimp only [Option.bind_some];rw [Rf _ n (PC t.1)]; rfl
theorem Qz (t:dq) (n:Int) (hb:nN t):W5 t n=some ((),((qY t.1 n,()),())):=by unfold W5 qY;rw [Wu _ hb.1];dsimp only [Option.bind_some];rw [Rs _ n (PC t.1)]; rfl
def AO (t:dq):Bool:=cond (aq t.2.1 1) (cond (bH 0 t.2.2.2.1) (au t.2.2.2.1 (ae t.2.2.1)) false) (cond (aq t.2.1 2) (cond (aq t.2.2.2.1 (ae t.2.2.1)) (au 0 (ae t.2.2.1)) false) (cond (aq t.2.1 3) (dI t.2.2.2.1 1 (ae t.2.2.1)) (aq t.2.2.2.1 0)))
def Qp (t:dq):Bool:=cond (bH t.2.1 2) (cond (cond (cond (aq t.2.2.2.2.2.1 (-1)) (aq t.2.2.2.2.2.2.1 (-1)) false) (aq t.2.2.2.2.2.2.2.1 0) false) (aq (ae t.2.2.2.2.2.2.2.2.1) 0) false) (cond (cond (!dU t.2.2.2.2.2.1) true (au t.2.2.2.2.2.1 t.2.2.2.2.1)) false (cond (aq t.2.1 5) (cond (dU t.2.2.2.2.2.2.1) (bH t.2.2.2.2.2.1 t.2.2.2.2.2.2.1) false) (aq t.2.2.2.2.2.2.1 (-1))))
def sY (t:dq) (n:Int):Bool:=cond (cond (cond (!dI n 1 5) true (au 300 (ae t.1))) true (au 200 (ae t.2.2.2.2.2.2.2.2.1))) false (cond (dU t.2.2.2.2.1) (cond (dU t.2.2.2.2.2.2.2.1) (cond (dI t.2.1 0 5) (cond (AO t) (cond (cond (aq t.2.1 0) (au 0 (ae t.2.2.1)) false) false (cond (cond (!(aq t.2.1 0)) (Fo t.2.2.1 (qY t.1 n)) true) (Qp t) false)) false) false) false) false)
theorem Qr (t:dq) (n:Int) (hb:nN t):XA t n=some ((),((sY t n,()),())):=by
 have hn:=Sc t n hb;have he:=OY t.2.2.1 (qY t.1 n) hb.2.1;have hh:MK t=some ((),((AO t,()),())):=by unfold MK AO;dsimp only;rw [kN];cases aq t.2.1 1 <;> cases aq t.2.1 2 <;> cases aq t.2.1 3 <;> rfl
 unfold XA;dsimp only;rw [kN,mm,mm,kN,hh,hn];dsimp only [Option.bind_some];rw [he,mm,mm];dsimp only [Option.bind_some];unfold sY Qp;generalize AO t=c1;generalize Fo t.2.2.1 (qY t.1 n)=c2;generalize dI n 1 5=c3;generalize dI t.2.1 0 5=c4;generalize au 300 (ae t.1)=c5;generalize au 200 (ae t.2.2.2.2.2.2.2.2.1)=c6;generalize dU t.2.2.2.2.1=c7;generalize dU t.2.2.2.2.2.2.2.1=c8;generalize dU t.2.2.2.2.2.1=c9;generalize dU t.2.2.2.2.2.2.1=ca;generalize bH t.2.1 2=cb;generalize aq t.2.1 0=cc;generalize aq t.2.1 5=cd;generalize au 0 (ae t.2.2.1)=ce;cases c3 <;> first | rfl | skip
 cases c5 <;> first | rfl | skip
 cases c6 <;> first | rfl | skip
 cases c7 <;> first | rfl | skip
 cases c8 <;> first | rfl | skip
 cases c4 <;> first | rfl | skip
 cases c1 <;> first | rfl | skip
 cases cc <;> cases ce <;> cases c2 <;> first | rfl | skip
 all_goals (cases cb <;> first | rfl | skip)
 all_goals (cases c9 <;> first | rfl | skip)
 all_goals (cases au t.2.2.2.2.2.1 t.2.2.2.2.1 <;> cases cd <;> cases ca <;> rfl)
theorem VR {α:Type} {h:Int} {xs:List α} (hs:xs.length<=1048576):dI h 0 (aM .i64 (ae xs) 1)=cond (bH 0 h) (au h (ae xs)) false:=by
 unfold ae;rw [aS (by omega) (by omega)];unfold dI;have:bH h ((xs.length:Int) - 1)=au h (xs.length:Int):=by unfold bH au;exact decide_eq_decide.2 (by omega)
 rw [this]
theorem BJ {pc:Int} (h:dI pc 0 5=true):pc=0∨pc=1∨pc=2∨pc=3∨pc=4∨pc=5:=by have:=gM.1 h;omega
theorem RE (t:dq) (n:Int) (hb:nN t):Wk t n=some ((),((sY t n,()),())):=by
 obtain ⟨d,pc,st,held,inv,lin,res,at',rep,u⟩:=t;have hn:=Qz (d,pc,st,held,inv,lin,res,at',rep,u) n hb;have he:=TO st (qY d n) hb.2.1;have hl:= @VR _ held st hb.2.1;cases hpc:dI pc 0 5 with
 | false =>
   have hp:V2 pc=some ((),(([],()),())):=by unfold V2;rw [jb,hpc]; rfl
   unfold Wk sY;dsimp only;rw [jb,hp];dsimp only [Option.bind_some];rw [hpc];cases dI n 1 5 <;> first | rfl | skip
   cases au 300 (ae d) <;> cases au 200 (ae rep) <;> cases dU inv <;> cases dU at' <;> rfl
 | true =>
   have hp:∃ nm,V2 pc=some ((),((nm,()),()))/\cq nm []=false:=by rcases BJ hpc with h | h | h | h | h | h <;> subst h <;> exact ⟨_,rfl,rfl⟩
   obtain ⟨nm,hp,hne⟩:=hp;unfold Wk sY AO Qp;dsimp only;rw [jb,hp];dsimp only [Option.bind_some];rw [hne,mR,mR,mR,mR,jb,jb,hn,hl,hpc];dsimp only [Option.bind_some];rw [he];dsimp only [Option.bind_some];generalize Fo st (qY d n)=c2;generalize dI n 1 5=c3;generalize au 300 (ae d)=c5;generalize au 200 (ae rep)=c6;generalize dU inv=c7;generalize dU at'=c8;generalize dU lin=c9;generalize dU res=ca;generalize dI held 1 (ae st)=cg;generalize au 0 (ae st)=ce;generalize aq held (ae st)=ch;generalize bH 0 held=ci;generalize au held (ae st)=cj;generalize aq held 0=ck;cases c3 <;> first | rfl | skip
   cases c5 <;> first | rfl | skip
   cases c6 <;> first | rfl | skip
   cases c7 <;> first | rfl | skip
   cases c8 <;> first | rfl | skip
   clear hp hn he hl;rcases BJ hpc with h | h | h | h | h | h <;> subst h
   . simp only [show aq (0:Int) 0=true from rfl,show aq (0:Int) 1=false from rfl,show aq (0:Int) 2=false from rfl,show aq (0:Int) 3=false from rfl,show au (0:Int) 3=true from rfl,show bH (0:Int) 2=true from rfl,cond_true,cond_false,Bool.not_true,Bool.not_false];cases ce <;> cases ck <;> rfl
   . simp only [show aq (1:Int) 0=false from rfl,show aq (1:Int) 1=true from rfl,show au (1:Int) 3=true from rfl,show bH (1:Int) 2=true from rfl,cond_true,cond_false,Bool.not_true,Bool.not_false];cases c2 <;> cases ci <;> cases cj <;> rfl
   . simp only [show aq (2:Int) 0=false from rfl,show aq (2:Int) 1=false from rfl,show aq (2:Int) 2=true from rfl,show au (2:Int) 3=true from rfl,show bH (2:Int) 2=true from rfl,cond_true,cond_false,Bool.not_true,Bool.not_false];cases c2 <;> cases ch <;> cases ce <;> rfl
   . simp only [show aq (3:Int) 0=false from rfl,show aq (3:Int) 1=false from rfl,show aq (3:Int) 2=false from rfl,show aq (3:Int) 3=true from rfl,show aq (3:Int) 5=false from rfl,show au (3:Int) 3=false from rfl,show bH (3:Int) 2=false from rfl,cond_true,cond_false,Bool.not_true,Bool.not_false];cases c2 <;> cases cg <;> cases c9 <;> cases au lin inv <;> rfl
   . simp only [show aq (4:Int) 0=false from rfl,show aq (4:Int) 1=false from rfl,show aq (4:Int) 2=false from rfl,show aq (4:Int) 3=false from rfl,show aq (4:Int) 5=false from rfl,show au (4:Int) 3=false from rfl,show bH (4:Int) 2=false from rfl,cond_true,cond_false,Bool.not_true,Bool.not_false];cases c2 <;> cases ck <;> cases c9 <;> cases au lin inv <;> rfl
   . simp only [show aq (5:Int) 0=false from rfl,show aq (5:Int) 1=false from rfl,show aq (5:Int) 2=false from rfl,show aq (5:Int) 3=false from rfl,show aq (5:Int) 5=true from rfl,show au (5:Int) 3=false from rfl,show bH (5:Int) 2=false from rfl,cond_true,cond_false,Bool.not_true,Bool.not_false];cases c2 <;> cases ck <;> cases c9 <;> cases au lin inv <;> cases ca <;> rfl
theorem AQ {α:Type} (p:α->Bool):∀ (xs:List α) (i:Nat),bH 0 (gz p i xs)=xs.any p
 | [],_=>rfl
 | x :: r,i=>by
   rw [gz,List.any_cons];cases p x with
   | true=>exact decide_eq_true (by show (0:Int)<=(i:Int); omega)
   | false=>exact AQ p r (i + 1)
theorem Ba (a b:Int):aq a b=aq b a:=by unfold aq;exact Bool.beq_comm
def GZ (v:Int) (xs:List db):Bool:=xs.any fun y=>aq v y.1
theorem zl {α Y:Type} (p:α->Bool) (y:Y) (z:Y):∀ (xs:List α) (i:Nat),jO (fun _ x (_:Unit)=>bif p x then Sum.inr y else .inl ()) (fun _=>z) i xs ()=bif xs.any p then y else z
 | [],_=>rfl
 | x :: r,i=>by
   rw [jO,List.any_cons];cases p x with
   | true=>rfl
   | false=>exact zl p y z r (i + 1)
theorem OA (xs:List db) (v:Int) (hs:xs.length<=1048576):Sh xs v=some ((),((GZ v xs,()),())):=by rw [uX xs v hs,AQ]; rfl
theorem TH (xs:List db) (v:Int) (hs:xs.length<=1048576):Mm xs v=some ((),((GZ v xs,()),())):=by
 have h:=aH (step:=cV oB) xs (fun i (_:Unit)=>(v,xs,ae xs,((i:Nat):Int),())) (fun _ x _=>bif aq v x.1 then Sum.inr (.inr (true,())) else .inl ()) (fun _=> .inl (v,xs,ae xs,(xs.length:Int),())) (a0:=()) (fun i x u hx=>by
  have hlt:=aj hx;show oB v xs (ae xs) (i:Int)=_;unfold oB;rw [aD hx,az hx,aV _ hx,aJ (by unfold aT; omega),Ba x.1 v];cases aq v x.1 <;> rfl) (fun u=>by
  show oB v xs (ae xs) (xs.length:Int)=_;unfold oB;rw [aw rfl]; rfl)
 rw [zl] at h;unfold Mm;refine (bn h).trans ?_;unfold GZ;cases xs.any fun y=>aq v y.1 <;> rfl
def rX (t:dq):Nat:=min t.2.2.2.1.toNat t.2.2.1.length
def G0 (t:dq) (k:Int):Bool:=GZ k (t.2.2.1.take (rX t))
theorem TA (t:dq) (k:Int) (hb:nN t):Xr t k=some ((),((G0 t k,()),())):=by
 have hs:=hb.2.1;have hle:rX t<=t.2.2.1.length:=Nat.min_le_right _ _;have hl:(t.2.2.1.take (rX t)).length=rX t:=by rw [List.length_take]; omega
 have h:=aH (step:=dk xk) (t.2.2.1.take (rX t)) (fun i (_:Unit)=>(k,((i:Nat):Int),t,())) (fun _ x _=>bif aq k x.1 then Sum.inr (.inr (true,())) else .inl ()) (fun _=> .inl (k,((rX t:Nat):Int),t,())) (a0:=()) (fun i x u hx=>by
  have hlt:=aj hx;rw [hl] at hlt;rw [List.getElem?_take,if_pos hlt] at hx;have h1:i < t.2.2.2.1.toNat:=Nat.lt_of_lt_of_le hlt (Nat.min_le_left _ _);show xk k (i:Int) t=_;unfold xk;rw [aG (show (i:Int) < t.2.2.2.1 by omega),aD hx,az hx,aV _ hx,aJ (by unfold aT; omega),Ba x.1 k];cases aq k x.1 <;> rfl) (fun u=>by
  rw [hl];show xk k ((rX t:Nat):Int) t=_;unfold xk;have:cond (au ((rX t:Nat):Int) t.2.2.2.1) (au ((rX t:Nat):Int) (ae t.2.2.1)) false=false:=by
   unfold rX;rcases Nat.le_total t.2.2.2.1.toNat t.2.2.1.length with h | h
   . rw [Nat.min_eq_left h,ax (by omega)]; rfl
   . rw [Nat.min_eq_right h,aw rfl]; cases au _ _ <;> rfl
  rw [this]; rfl)
 rw [zl] at h;unfold Xr;refine (bn h).trans ?_;unfold G0 GZ;cases List.any _ _ <;> rfl
theorem UY (t:dq) (k:Int) (hb:nN t):Xk t k=some ((),((G0 t k,()),())):=by
 have hs:=hb.2.1;have hle:rX t<=t.2.2.1.length:=Nat.min_le_right _ _;have hu:Hj 0 (FJ t.2.2.2.1 (ae t.2.2.1))=((rX t:Nat):Int):=by unfold Hj FJ rX ae;split <;> split <;> omega
 unfold Xk;dsimp only;rw [hu,ji hle,qH,OA _ k (by rw [List.length_take]; omega)]; rfl
noncomputable def uc (l:List er):List aO:=open Classical in if h:∃ M,lI dy M/\ez dy (fz l) M then Classical.choose h else []
theorem C5 {l:List er} (hB:si l):(uc l).length=(fz l).length/\(∀ x∈uc l,x∈fz l)/\lI dy (uc l)/\ez dy (fz l) (uc l)/\Pb l=some ((),((uc l,()),()))/\RI l=some ((),((uc l,()),())):=by
 obtain ⟨M,⟨m1,m2⟩,m3⟩:=Cp l hB;obtain ⟨M',p0,p1,p2,p3,p4⟩:=GX l hB;have e0:M=M':=by have h:=m3.symm.trans p3;simp only [Option.some.injEq,Prod.mk.injEq,true_and,and_true] at h;exact h
 subst e0;have hex:∃ M,lI dy M/\ez dy (fz l) M:=⟨M,m1,m2⟩;have e:uc l=M:=by unfold uc;rw [dif_pos hex];exact rn fC (Classical.choose_spec hex).1 m1 ((Classical.choose_spec hex).2.symm.trans m2)
 rw [e];exact ⟨p0,p1,m1,m2,p3,p4⟩
theorem Ox {l:List er} (hB:si l):EJ (uc l):=by obtain ⟨h1,h2,_⟩:=C5 hB;refine ⟨by rw [h1]; exact hB.2.1,fun a ha => ?_⟩;have:=h2 a ha;unfold fz at this;obtain ⟨xs,hx,hm⟩:=List.mem_flatten.1 this;obtain ⟨s,hs,rfl⟩:=List.mem_map.1 hx;exact hB.2.2 s hs a hm
def qG (n k:Int) (xs:List aO) (i:Nat) (a:aO):Bool:=cond (aq (aF a.1 n) k) (cond (decide (0 < i)) (j8 (gt d59 xs ((i:Int) - 1)).1 a.1) true) false
def DA (n k:Int) (xs:List aO):Bool:=allI (qG n k xs) 0 xs
def jD (n:Int) (k:Nat) (s:er):Bool:=cond (dI s.1 (-1) 11) (DA n (k:Int) s.2.1) false
noncomputable def DF (l:List er):Bool:=cond (dI (ae l) 1 5) (cond (allI (jD (ae l)) 0 l) (AH (uc l)) false) false
theorem Tu (l t11:List er) (k t12 t13:Int) (s:er) (hl:l.length<=1048576) (hs:s.2.1.length<=1048576) (hb:∀ a∈s.2.1,iW a):PJ l k t11 t12 t13 s.2.1 (ae s.2.1) 0 s=some (bif DA (ae l) k s.2.1 then .inl (l,k,t11,t12,t13,s.2.1,ae s.2.1,(s.2.1.length:Int),s,()) else .inr (false,())):=by
 have h:=aH (step:=Dd vi) s.2.1 (fun i (_:Unit)=>(l,k,t11,t12,t13,s.2.1,ae s.2.1,((i:Nat):Int),s,())) (fun i x _=>bif qG (ae l) k s.2.1 i x then Sum.inl () else .inr (.inr (false,()))) (fun _=> .inl (l,k,t11,t12,t13,s.2.1,ae s.2.1,(s.2.1.length:Int),s,())) (a0:=()) (fun i x u hx=>by
  have hlt:=aj hx;show vi l k t11 t12 t13 s.2.1 (ae s.2.1) (i:Int) s=_;unfold vi qG;rw [aD hx,az hx,aV _ hx,rE x.1 (ae l) (cD (hb x (List.mem_of_getElem? hx)).1),aJ (by unfold aT; omega)];dsimp only [cond_true,Option.bind_some];cases aq (aF x.1 (ae l)) k with
  | false=>rfl
  | true =>
    by_cases h0:0 < i
    . rw [aG (show (0:Int) < i by omega),aS (by omega) (by omega),iJ hx h0,decide_eq_true h0];dsimp only [cond_true,cond_false,Bool.not_true];cases j8 (gt d59 s.2.1 ((i:Int) - 1)).1 x.1 <;> rfl
    . rw [ax (show ¬ (0:Int) < i by omega),decide_eq_false h0]; rfl) (fun u=>by
  show vi l k t11 t12 t13 s.2.1 (ae s.2.1) (s.2.1.length:Int) s=_;unfold vi;rw [aw rfl]; rfl)
 rw [cK] at h;refine Eq.trans h ?_;unfold DA;cases allI _ 0 s.2.1 <;> rfl
theorem Um (l t11:List er) (k t12 t13:Int) (s:er) (hl:l.length<=1048576) (hs:s.2.1.length<=1048576) (hb:∀ a∈s.2.1,iW a):Oo l k t11 t12 t13 s.2.1 (ae s.2.1) 0 s=some (bif DA (ae l) k s.2.1 then .inl (l,k,t11,t12,t13,s.2.1,ae s.2.1,(s.2.1.length:Int),s,()) else .inr (false,())):=by
 have h:=aH (step:=Dd wa) s.2.1 (fun i (_:Unit)=>(l,k,t11,t12,t13,s.2.1,ae s.2.1,((i:Nat):Int),s,())) (fun i x _=>bif qG (ae l) k s.2.1 i x then Sum.inl () else .inr (.inr (false,()))) (fun _=> .inl (l,k,t11,t12,t13,s.2.1,ae s.2.1,(s.2.1.length:Int),s,())) (a0:=()) (fun i x u hx=>by
  have hlt:=aj hx;show wa l k t11 t12 t13 s.2.1 (ae s.2.1) (i:Int) s=_;unfold wa qG;rw [aD hx,az hx,aV _ hx,Cj x.1 (ae l) (cD (hb x (List.mem_of_getElem? hx)).1),aJ (by unfold aT; omega)];dsimp only [cond_true,Option.bind_some];cases aq (aF x.1 (ae l)) k with
  | false=>rfl
  | true =>
    by_cases h0:0 < i
    . rw [aG (show (0:Int) < i by omega),aS (by omega) (by omega),iJ hx h0,decide_eq_true h0,uv];dsimp only [cond_true,cond_false,Bool.not_true];cases j8 (gt d59 s.2.1 ((i:Int) - 1)).1 x.1 <;> rfl
    . rw [ax (show ¬ (0:Int) < i by omega),decide_eq_false h0]; rfl) (fun u=>by
  show wa l k t11 t12 t13 s.2.1 (ae s.2.1) (s.2.1.length:Int) s=_;unfold wa;rw [aw rfl]; rfl)
 rw [cK] at h;refine Eq.trans h ?_;unfold DA;cases allI _ 0 s.2.1 <;> rfl
theorem KT {l:List er} (hB:si l) {i:Nat} {s:er} (h:l[i]? = some s):s.2.1.length<=1048576:=by have h1:=na h;have h2:=uu l (i + 1);rw [h1,List.length_append] at h2;have:=hB.2.1;omega
theorem TG (l:List er) (hB:si l):Xs l=some ((),((DF l,()),())):=by
 have hl:=hB.1;obtain ⟨_,_,_,_,hg,_⟩:=C5 hB;unfold Xs DF;dsimp only;rw [kN];cases dI (ae l) 1 5 with
 | false=>rfl
 | true =>
 have h:=aH (step:=cV vc) l (fun i (_:Unit)=>(l,l,ae l,((i:Nat):Int),())) (fun i x _=>bif jD (ae l) i x then Sum.inl () else .inr (.inr (false,()))) (fun _=> .inl (l,l,ae l,(l.length:Int),())) (a0:=()) (fun i x u hx=>by
  have hlt:=aj hx;show vc l l (ae l) (i:Int)=_;unfold vc jD;rw [aD hx,az hx,aV _ hx];dsimp only [cond_true];rw [kN];dsimp only [Option.bind_some];cases dI x.1 (-1) 11 with
  | false=>rfl
  | true =>
    dsimp only [Bool.not_true,cond_false,cond_true];rw [Tu l l (i:Int) (ae l) (i:Int) x hl (KT hB hx) (hB.2.2 x (List.mem_of_getElem? hx))];cases DA (ae l) (i:Int) x.2.1 with
    | false=>rfl
    | true =>
      dsimp only [cond_true,Option.bind_some,Sum.elim_inl];rw [aJ (by unfold aT; omega)]; rfl) (fun u=>by
  show vc l l (ae l) (l.length:Int)=_;unfold vc;rw [aw rfl]; rfl)
 rw [cK] at h;refine (bn h).trans ?_;cases allI (jD (ae l)) 0 l with
 | false=>rfl
 | true => show Option.bind (Pb l) _=_;rw [hg];show Option.bind (I9 (uc l,())) _=_;rw [Sx _ (Ox hB)]; rfl
theorem U6 (l:List er) (hB:si l):Xf l=some ((),((DF l,()),())):=by
 have hl:=hB.1;obtain ⟨_,_,_,_,_,hg⟩:=C5 hB;unfold Xf DF;have h:=aH (step:=cV xG) l (fun i (_:Unit)=>(l,l,ae l,((i:Nat):Int),())) (fun i x _=>bif jD (ae l) i x then Sum.inl () else .inr (.inr (false,()))) (fun _=> .inl (l,l,ae l,(l.length:Int),())) (a0:=()) (fun i x u hx=>by
  have hlt:=aj hx;show xG l l (ae l) (i:Int)=_;unfold xG jD;rw [aD hx,az hx,aV _ hx];dsimp only [cond_true];rw [jb];dsimp only [Option.bind_some];cases dI x.1 (-1) 11 with
  | false=>rfl
  | true =>
    dsimp only [Bool.not_true,cond_false,cond_true];rw [Um l l (i:Int) (ae l) (i:Int) x hl (KT hB hx) (hB.2.2 x (List.mem_of_getElem? hx))];cases DA (ae l) (i:Int) x.2.1 with
    | false=>rfl
    | true =>
      dsimp only [cond_true,Option.bind_some,Sum.elim_inl];rw [aJ (by unfold aT; omega)]; rfl) (fun u=>by
  show xG l l (ae l) (l.length:Int)=_;unfold xG;rw [aw rfl]; rfl)
 rw [cK] at h;refine (bn h).trans ?_;cases allI (jD (ae l)) 0 l with
 | false => cases dI (ae l) 1 5 <;> rfl
 | true =>
   dsimp only [cond_true,Option.bind_some,Sum.elim_inl];rw [jb];dsimp only [Option.bind_some];cases dI (ae l) 1 5 with
   | false=>rfl
   | true => show Option.bind (RI l) _=_;rw [hg];show Option.bind (IA (uc l,())) _=_;rw [Qv _ (Ox hB)]; rfl
abbrev dv:=List er×Int×Int×List dq×Unit
def ic (w:dv):Prop:=si w.1/\w.2.2.2.1.length<=1048576/\∀ t∈w.2.2.2.1,nN t
def nG (t:dq):List db:=[(t.2.2.2.2.1,()),(t.2.2.2.2.2.1,()),(t.2.2.2.2.2.2.1,())]
def jY (n:Int):List db->List db->Option (List db)
 | [],o=>some o
 | x :: r,o=>bif aq x.1 (-1) then jY n r o else bif bH n x.1 then none else bif GZ x.1 o then none else jY n r (o ++ [x])
def BC (n:Int) (x:db) (o:List db) (y:Unit):Sum (List db) Unit:=bif aq x.1 (-1) then .inl o else bif bH n x.1 then .inr y else bif GZ x.1 o then .inr y else .inl (o ++ [x])
theorem uo {Y:Type} (n:Int) (y:Y) (z:List db->Y):∀ (xs:List db) (i:Nat) (o:List db),jO (fun _ x o=>match BC n x o () with | .inl o'=>Sum.inl o' | .inr _=> .inr y) z i xs o=match jY n xs o with | some o'=>z o' | none=>y
 | [],_,_=>rfl
 | x :: r,i,o=>by
   rw [jO,jY];unfold BC;cases aq x.1 (-1) with
   | true=>exact uo n y z r (i + 1) o
   | false =>
     cases bH n x.1 with
     | true=>rfl
     | false =>
       cases GZ x.1 o with
       | true=>rfl
       | false=>exact uo n y z r (i + 1) _
theorem qi (n:Int):∀ (xs o o':List db),jY n xs o=some o'->o'.length<=o.length + xs.length
 | [],o,o',h=>by cases h; exact Nat.le_refl _
 | x :: r,o,o',h=>by
   rw [jY] at h;cases h1:aq x.1 (-1) <;> rw [h1] at h
   . cases h2:bH n x.1 <;> rw [h2] at h
     . cases h3:GZ x.1 o <;> rw [h3] at h
       . have:=qi n r _ _ h;rw [List.length_append] at this;simp only [List.length_cons,List.length_nil] at this ⊢;omega
       . cases h
     . cases h
   . have:=qi n r _ _ h;simp only [List.length_cons];omega
theorem aaQ (n:Int) (o:List db) (t11:List dq) (t12 t13:Int) (xs:List db) (hx:xs.length<=3) (ho:o.length<=1000):OU n o t11 t12 t13 xs (ae xs) 0=some (match jY n xs o with | some o'=> .inl (n,o',t11,t12,t13,xs,ae xs,ae xs,()) | none=> .inr (false,())):=by
 have h:=aI (step:=yz wm) xs (fun i (o:List db)=>(n,o,t11,t12,t13,xs,ae xs,((i:Nat):Int),())) (fun _ x o=>match BC n x o () with | .inl o'=>Sum.inl o' | .inr _=> .inr (.inr (false,()))) (fun o=> .inl (n,o,t11,t12,t13,xs,ae xs,ae xs,())) (fun i o=>o.length<=1000 + i) (a0:=o) ho (fun i x o hx' ho'=>by
  have hlt:=aj hx';show wm n o t11 t12 t13 xs (ae xs) (i:Int)=_;unfold wm;rw [aD hx',az hx',aV _ hx',aJ (by unfold aT; omega)];dsimp only [cond_true];rw [TH o x.1 (by omega)];dsimp only [Option.bind_some];rw [HO (by omega)];unfold BC;cases aq x.1 (-1) <;> cases bH n x.1 <;> cases GZ x.1 o <;> rfl) (fun i x o o' hx' ho' hf=>by
  unfold BC at hf;cases h1:aq x.1 (-1) <;> rw [h1] at hf
  . cases h2:bH n x.1 <;> rw [h2] at hf
    . cases h3:GZ x.1 o <;> rw [h3] at hf
      . cases hf;rw [List.length_append]; show o.length + 1<=_; omega
      . cases hf
    . cases hf
  . cases hf; omega) (fun o ho'=>by
  show wm n o t11 t12 t13 xs (ae xs) (xs.length:Int)=_;unfold wm;rw [aw rfl]; rfl)
 rw [uo] at h;refine Eq.trans h ?_;cases jY n xs o <;> rfl
theorem Zn (n:Int) (o:List db) (t36:List dq) (t37 t38:Int) (xs:List db) (w:dv) (hn:w.2.2.1=n) (hx:xs.length<=3) (ho:o.length<=1000):Pf o t36 t37 t38 xs (ae xs) 0 w=some (match jY n xs o with | some o'=> .inl (o',t36,t37,t38,xs,ae xs,ae xs,w,()) | none=> .inr (false,())):=by
 subst hn;have h:=aI (step:=yz ve) xs (fun i (o:List db)=>(o,t36,t37,t38,xs,ae xs,((i:Nat):Int),w,())) (fun _ x o=>match BC w.2.2.1 x o () with | .inl o'=>Sum.inl o' | .inr _=> .inr (.inr (false,()))) (fun o=> .inl (o,t36,t37,t38,xs,ae xs,ae xs,w,())) (fun i o=>o.length<=1000 + i) (a0:=o) ho (fun i x o hx' ho'=>by
  have hlt:=aj hx';show ve o t36 t37 t38 xs (ae xs) (i:Int) w=_;unfold ve;rw [aD hx',az hx',aV _ hx',aJ (by unfold aT; omega)];dsimp only [cond_true];rw [OA o x.1 (by omega)];dsimp only [Option.bind_some];rw [HO (by omega)];unfold BC;cases aq x.1 (-1) <;> cases bH w.2.2.1 x.1 <;> cases GZ x.1 o <;> rfl) (fun i x o o' hx' ho' hf=>by
  unfold BC at hf;cases h1:aq x.1 (-1) <;> rw [h1] at hf
  . cases h2:bH w.2.2.1 x.1 <;> rw [h2] at hf
    . cases h3:GZ x.1 o <;> rw [h3] at hf
      . cases hf;rw [List.length_append]; show o.length + 1<=_; omega
      . cases hf
    . cases hf
  . cases hf; omega) (fun o ho'=>by
  show ve o t36 t37 t38 xs (ae xs) (xs.length:Int) w=_;unfold ve;rw [aw rfl]; rfl)
 rw [uo] at h;refine Eq.trans h ?_;cases jY w.2.2.1 xs o <;> rfl
def lZ (n:Int):List dq->List db->Option (List db)
 | [],o=>some o
 | t :: r,o=>(jY n (nG t) o).bind (lZ n r)
def CE (L now:Int) (t:dq):Bool:=cond (sY t L) (!(au now t.2.2.2.2.2.2.2.1)) false
theorem E8 {Y:Type} (n:Int) (y:Y) (z:List db->Y):∀ (xs:List dq) (i:Nat) (o:List db),jO (fun _ x o=>match jY n (nG x) o with | some o'=>Sum.inl o' | none=> .inr y) z i xs o=match lZ n xs o with | some o'=>z o' | none=>y
 | [],_,_=>rfl
 | x :: r,i,o=>by
   rw [jO,lZ];cases jY n (nG x) o with
   | none=>rfl
   | some o'=>exact E8 n y z r (i + 1) o'
theorem EB {Y:Type} (L now n:Int) (y:Y) (z:Y->Prop) (Z:List db->Y) (hZ:∀ o,z (Z o)):∀ (xs:List dq) (i:Nat) (o:List db),(bif xs.all (CE L now) && (lZ n xs o).isSome then z (jO (fun _ x o=>bif CE L now x then (match jY n (nG x) o with | some o'=>Sum.inl o' | none=> .inr y) else .inr y) Z i xs o) else jO (fun _ x o=>bif CE L now x then (match jY n (nG x) o with | some o'=>Sum.inl o' | none=> .inr y) else .inr y) Z i xs o=y:Prop)
 | [],_,o=>hZ o
 | x :: r,i,o=>by
   rw [jO,lZ,List.all_cons];cases CE L now x with
   | false=>rfl
   | true =>
     cases jY n (nG x) o with
     | none=>rw [show (none:Option (List db)).bind (lZ n r)=none from rfl]; cases r.all (CE L now) <;> rfl
     | some o'=>exact EB L now n y z Z hZ r (i + 1) o'
theorem Vj (n:Int) (ts:List dq) (ht:ts.length<=12):Xv ts n=some ((),(((lZ n ts []).isSome,()),())):=by
 have h:=aI (step:=fh uL) ts (fun i (o:List db)=>(n,o,ts,ae ts,((i:Nat):Int),())) (fun _ x o=>match jY n (nG x) o with | some o'=>Sum.inl o' | none=> .inr (.inr (false,()))) (fun o=> .inl (n,o,ts,ae ts,(ts.length:Int),())) (fun i o=>o.length<=3 * i) (a0:=[]) (Nat.le_refl _) (fun i x o hx ho=>by
  have hlt:=aj hx;show uL n o ts (ae ts) (i:Int)=_;unfold uL;rw [aD hx,az hx,aV _ hx];dsimp only [cond_true];refine (bn (aaQ n o ts (ae ts) (i:Int) (nG x) (Nat.le_refl _) (by omega))).trans ?_;cases jY n (nG x) o with
  | none=>rfl
  | some o' =>
    dsimp only [Option.bind_some,Sum.elim_inl];rw [aJ (by unfold aT; omega)] <;> rfl) (fun i x o o' hx ho hf=>by
  cases hs:jY n (nG x) o with
  | none=>rw [hs] at hf; cases hf
  | some o2 =>
    rw [hs] at hf;cases hf;have:=qi n _ _ _ hs;have e:(nG x).length=3:=rfl;omega) (fun o ho=>by
  show uL n o ts (ae ts) (ts.length:Int)=_;unfold uL;rw [aw rfl]; rfl)
 rw [E8] at h;unfold Xv;refine (bn h).trans ?_;cases lZ n ts [] <;> rfl
theorem Bh (w:dv) (hb:ic w):Lj w.2.2.2.1 (ae w.2.2.2.1) 0 w=some (bif w.2.2.2.1.all (CE (ae w.1) w.2.1) then .inl (w.2.2.2.1,ae w.2.2.2.1,ae w.2.2.2.1,w,()) else .inr (false,())):=by
 have hl:=hb.2.1;have h:=aH (step:=cV wT) w.2.2.2.1 (fun i (_:Unit)=>(w.2.2.2.1,ae w.2.2.2.1,((i:Nat):Int),w,())) (fun _ x _=>bif CE (ae w.1) w.2.1 x then Sum.inl () else .inr (.inr (false,()))) (fun _=> .inl (w.2.2.2.1,ae w.2.2.2.1,ae w.2.2.2.1,w,())) (a0:=()) (fun i x u hx=>by
  have hlt:=aj hx;show wT w.2.2.2.1 (ae w.2.2.2.1) (i:Int) w=_;unfold wT CE;rw [aD hx,az hx,aV _ hx,aJ (by unfold aT; omega)];dsimp only [cond_true];rw [Qr x (ae w.1) (hb.2.2 x (List.mem_of_getElem? hx))];dsimp only [Option.bind_some];cases sY x (ae w.1) <;> cases au w.2.1 x.2.2.2.2.2.2.2.1 <;> rfl) (fun u=>by
  show wT w.2.2.2.1 (ae w.2.2.2.1) (w.2.2.2.1.length:Int) w=_;unfold wT;rw [aw rfl]; rfl)
 rw [gi] at h;refine Eq.trans h ?_;cases w.2.2.2.1.all (CE (ae w.1) w.2.1) <;> rfl
theorem BN (w:dv) (hb:ic w) (h12:w.2.2.2.1.length<=12):∃ y,Pg [] w.2.2.2.1 (ae w.2.2.2.1) 0 w=some y/\(bif w.2.2.2.1.all (CE (ae w.1) w.2.1) && (lZ w.2.2.1 w.2.2.2.1 []).isSome then (∃ o,y= .inl (o,w.2.2.2.1,ae w.2.2.2.1,ae w.2.2.2.1,w,())) else y= .inr (false,()):Prop):=by
 have h:=aI (step:=fh vC) w.2.2.2.1 (fun i (o:List db)=>(o,w.2.2.2.1,ae w.2.2.2.1,((i:Nat):Int),w,())) (fun _ x o=>bif CE (ae w.1) w.2.1 x then (match jY w.2.2.1 (nG x) o with | some o'=>Sum.inl o' | none=> .inr (.inr (false,()))) else .inr (.inr (false,()))) (fun o=> .inl (o,w.2.2.2.1,ae w.2.2.2.1,ae w.2.2.2.1,w,())) (fun i o=>o.length<=3 * i) (a0:=[]) (Nat.le_refl _) (fun i x o hx ho=>by
  have hlt:=aj hx;show vC o w.2.2.2.1 (ae w.2.2.2.1) (i:Int) w=_;unfold vC CE;rw [aD hx,az hx,aV _ hx];dsimp only [cond_true];rw [RE x (ae w.1) (hb.2.2 x (List.mem_of_getElem? hx))];dsimp only [Option.bind_some];cases sY x (ae w.1) with
  | false=>rfl
  | true =>
  cases au w.2.1 x.2.2.2.2.2.2.2.1 with
  | true=>rfl
  | false =>
    dsimp only [Bool.not_true,Bool.not_false,cond_false,cond_true];refine (bn (Zn w.2.2.1 o w.2.2.2.1 (ae w.2.2.2.1) (i:Int) (nG x) w rfl (Nat.le_refl _) (by omega))).trans ?_;cases jY w.2.2.1 (nG x) o with
    | none=>rfl
    | some o' =>
      dsimp only [Option.bind_some,Sum.elim_inl];rw [aJ (by unfold aT; omega)] <;> rfl) (fun i x o o' hx ho hf=>by
  cases hk:CE (ae w.1) w.2.1 x with
  | false=>rw [hk] at hf; cases hf
  | true =>
    rw [hk] at hf;cases hs:jY w.2.2.1 (nG x) o with
    | none=>rw [hs] at hf; cases hf
    | some o2 =>
      rw [hs] at hf;cases hf;have:=qi w.2.2.1 _ _ _ hs;have e:(nG x).length=3:=rfl;omega) (fun o ho=>by
  show vC o w.2.2.2.1 (ae w.2.2.2.1) (w.2.2.2.1.length:Int) w=_;unfold vC;rw [aw rfl]; rfl)
 exact ⟨_,h,EB (Y:=Sum (List db×List dq×Int×Int×dv×Unit) (Bool×Unit)) (ae w.1) w.2.1 w.2.2.1 (.inr (false,())) (fun y=>∃ o,y= .inl (o,w.2.2.2.1,ae w.2.2.2.1,ae w.2.2.2.1,w,())) _ (fun o=>⟨o,rfl⟩) w.2.2.2.1 0 []⟩
def gR (o k:Int) (i:Nat) (t:dq):Bool:=Jk (G0 t k) (aq o (i:Int))
def fg (ts:List dq) (k:Nat) (s:er):Bool:=cond (bH (ae ts) s.1) false (allI (gR s.1 (k:Int)) 0 ts)
theorem UE (w:dv) (hb:ic w) (k t62:Int) (l:List er) (s:er):OT k l t62 k w.2.2.2.1 (ae w.2.2.2.1) 0 w s=some (bif allI (gR s.1 k) 0 w.2.2.2.1 then .inl (k,l,t62,k,w.2.2.2.1,ae w.2.2.2.1,ae w.2.2.2.1,w,s,()) else .inr (false,())):=by
 have hl:=hb.2.1;have h:=aH (step:=Dd xD) w.2.2.2.1 (fun i (_:Unit)=>(k,l,t62,k,w.2.2.2.1,ae w.2.2.2.1,((i:Nat):Int),w,s,())) (fun i x _=>bif gR s.1 k i x then Sum.inl () else .inr (.inr (false,()))) (fun _=> .inl (k,l,t62,k,w.2.2.2.1,ae w.2.2.2.1,ae w.2.2.2.1,w,s,())) (a0:=()) (fun i x u hx=>by
  have hlt:=aj hx;show xD k l t62 k w.2.2.2.1 (ae w.2.2.2.1) (i:Int) w s=_;unfold xD gR;rw [aD hx,az hx,aV _ hx,aJ (by unfold aT; omega),TA x k (hb.2.2 x (List.mem_of_getElem? hx))];dsimp only [cond_true,Option.bind_some];cases Jk (G0 x k) (aq s.1 (i:Int)) <;> rfl) (fun u=>by
  show xD k l t62 k w.2.2.2.1 (ae w.2.2.2.1) (w.2.2.2.1.length:Int) w s=_;unfold xD;rw [aw rfl]; rfl)
 rw [cK] at h;refine Eq.trans h ?_;cases allI (gR s.1 k) 0 w.2.2.2.1 <;> rfl
theorem VX (w:dv) (hb:ic w) (k t62:Int) (l:List er) (s:er):P6 k l t62 k w.2.2.2.1 (ae w.2.2.2.1) 0 w s=some (bif allI (gR s.1 k) 0 w.2.2.2.1 then .inl (k,l,t62,k,w.2.2.2.1,ae w.2.2.2.1,ae w.2.2.2.1,w,s,()) else .inr (false,())):=by
 have hl:=hb.2.1;have h:=aH (step:=Dd vp) w.2.2.2.1 (fun i (_:Unit)=>(k,l,t62,k,w.2.2.2.1,ae w.2.2.2.1,((i:Nat):Int),w,s,())) (fun i x _=>bif gR s.1 k i x then Sum.inl () else .inr (.inr (false,()))) (fun _=> .inl (k,l,t62,k,w.2.2.2.1,ae w.2.2.2.1,ae w.2.2.2.1,w,s,())) (a0:=()) (fun i x u hx=>by
  have hlt:=aj hx;show vp k l t62 k w.2.2.2.1 (ae w.2.2.2.1) (i:Int) w s=_;unfold vp gR;rw [aD hx,az hx,aV _ hx,aJ (by unfold aT; omega),UY x k (hb.2.2 x (List.mem_of_getElem? hx))];dsimp only [cond_true,Option.bind_some];cases Jk (G0 x k) (aq s.1 (i:Int)) <;> rfl) (fun u=>by
  show vp k l t62 k w.2.2.2.1 (ae w.2.2.2.1) (w.2.2.2.1.length:Int) w s=_;unfold vp;rw [aw rfl]; rfl)
 rw [cK] at h;refine Eq.trans h ?_;cases allI (gR s.1 k) 0 w.2.2.2.1 <;> rfl
theorem Re (w:dv) (hb:ic w):P0 w.1 (ae w.1) 0 w=some (bif allI (fg w.2.2.2.1) 0 w.1 then .inl (w.1,ae w.1,ae w.1,w,()) else .inr (false,())):=by
 have hl:=hb.1.1;have h:=aH (step:=cV uY) w.1 (fun i (_:Unit)=>(w.1,ae w.1,((i:Nat):Int),w,())) (fun i x _=>bif fg w.2.2.2.1 i x then Sum.inl () else .inr (.inr (false,()))) (fun _=> .inl (w.1,ae w.1,ae w.1,w,())) (a0:=()) (fun i x u hx=>by
  have hlt:=aj hx;show uY w.1 (ae w.1) (i:Int) w=_;unfold uY fg;rw [aD hx,az hx,aV _ hx];dsimp only [cond_true];cases bH (ae w.2.2.2.1) x.1 with
  | true=>rfl
  | false =>
    dsimp only [cond_false];rw [UE w hb (i:Int) (ae w.1) w.1 x];cases allI (gR x.1 (i:Int)) 0 w.2.2.2.1 with
    | false=>rfl
    | true =>
      dsimp only [cond_true,Option.bind_some,Sum.elim_inl];rw [aJ (by unfold aT; omega)] <;> rfl) (fun u=>by
  show uY w.1 (ae w.1) (w.1.length:Int) w=_;unfold uY;rw [aw rfl]; rfl)
 rw [cK] at h;refine Eq.trans h ?_;cases allI (fg w.2.2.2.1) 0 w.1 <;> rfl
theorem Si (w:dv) (hb:ic w):Pw w.1 (ae w.1) 0 w=some (bif allI (fg w.2.2.2.1) 0 w.1 then .inl (w.1,ae w.1,ae w.1,w,()) else .inr (false,())):=by
 have hl:=hb.1.1;have h:=aH (step:=cV xK) w.1 (fun i (_:Unit)=>(w.1,ae w.1,((i:Nat):Int),w,())) (fun i x _=>bif fg w.2.2.2.1 i x then Sum.inl () else .inr (.inr (false,()))) (fun _=> .inl (w.1,ae w.1,ae w.1,w,())) (a0:=()) (fun i x u hx=>by
  have hlt:=aj hx;show xK w.1 (ae w.1) (i:Int) w=_;unfold xK fg;rw [aD hx,az hx,aV _ hx];dsimp only [cond_true];cases bH (ae w.2.2.2.1) x.1 with
  | true=>rfl
  | false =>
    dsimp only [cond_false];rw [VX w hb (i:Int) (ae w.1) w.1 x];cases allI (gR x.1 (i:Int)) 0 w.2.2.2.1 with
    | false=>rfl
    | true =>
      dsimp only [cond_true,Option.bind_some,Sum.elim_inl];rw [aJ (by unfold aT; omega)] <;> rfl) (fun u=>by
  show xK w.1 (ae w.1) (w.1.length:Int) w=_;unfold xK;rw [aw rfl]; rfl)
 rw [cK] at h;refine Eq.trans h ?_;cases allI (fg w.2.2.2.1) 0 w.1 <;> rfl
noncomputable def iN (w:dv):Bool:=cond (DF w.1) (cond (dU w.2.1) (cond (cond (!dU w.2.2.1) true (au 12 (ae w.2.2.2.1))) false (cond (w.2.2.2.1.all (CE (ae w.1) w.2.1) && (lZ w.2.2.1 w.2.2.2.1 []).isSome) (allI (fg w.2.2.2.1) 0 w.1) false)) false) false
theorem TT (w:dv) (hb:ic w):W8 w=some ((),((iN w,()),())):=by
 unfold W8 iN;rw [TG w.1 hb.1,mm,mm];dsimp only [Option.bind_some];cases DF w.1 with
 | false=>rfl
 | true =>
 cases dU w.2.1 with
 | false=>rfl
 | true =>
 cases dU w.2.2.1 with
 | false=>rfl
 | true =>
 cases h12:au 12 (ae w.2.2.2.1) with
 | true=>rfl
 | false =>
 have hl:w.2.2.2.1.length<=12:=by have:=of_decide_eq_false h12;unfold ae at this;omega
 dsimp only [Bool.not_true,cond_false,cond_true];rw [Vj w.2.2.1 w.2.2.2.1 hl];dsimp only [Option.bind_some];cases (lZ w.2.2.1 w.2.2.2.1 []).isSome with
 | false=>rw [Bool.and_false]; rfl
 | true =>
 show Option.bind (Lj w.2.2.2.1 (ae w.2.2.2.1) 0 w) _=_;rw [Bh w hb,Bool.and_true];cases w.2.2.2.1.all (CE (ae w.1) w.2.1) with
 | false=>rfl
 | true =>
 dsimp only [cond_true,Option.bind_some,Sum.elim_inl];rw [Re w hb];cases allI (fg w.2.2.2.1) 0 w.1 <;> rfl
theorem Vf (w:dv) (hb:ic w):Xz w=some ((),((iN w,()),())):=by
 unfold Xz iN;rw [U6 w.1 hb.1,mR,mR];dsimp only [Option.bind_some];cases DF w.1 with
 | false=>rfl
 | true =>
 cases dU w.2.1 with
 | false=>rfl
 | true =>
 cases dU w.2.2.1 with
 | false=>rfl
 | true =>
 cases h12:au 12 (ae w.2.2.2.1) with
 | true=>rfl
 | false =>
 have hl:w.2.2.2.1.length<=12:=by have:=of_decide_eq_false h12;unfold ae at this;omega
 dsimp only [Bool.not_true,cond_false,cond_true];obtain ⟨y,h1,h2⟩:=BN w hb hl;rw [h1];dsimp only [Option.bind_some];cases hc:w.2.2.2.1.all (CE (ae w.1) w.2.1) && (lZ w.2.2.1 w.2.2.2.1 []).isSome with
 | false => rw [hc] at h2;have h2:y= .inr (false,()):=h2;rw [h2]; rfl
 | true => rw [hc] at h2;obtain ⟨o,rfl⟩:=h2;dsimp only [cond_true,Sum.elim_inl];rw [Si w hb];cases allI (fg w.2.2.2.1) 0 w.1 <;> rfl
theorem Jo (xs:List aO) (hb:EJ xs):Ob (xs,())=some ((),((xs,()),())):=by
 have hbig:aT=140737488355328:=rfl;have hs:=hb.1;unfold Ob;have h:=aI (step:=fh pv) xs (fun i (a:List aO)=>(xs,ae xs,((i:Nat):Int),([],()),(a,()),())) (fun _ x a=>Sum.inl (a ++ [x])) (fun a=> .inl (xs,ae xs,(xs.length:Int),([],()),(a,()),())) (fun i a=>a.length=i) (a0:=[]) rfl (fun i x a hx ha=>by
  have hlt:=aj hx;have hm:=hb.2 x (List.mem_of_getElem? hx);show pv xs (ae xs) (i:Int) ([],()) (a,())=_;unfold pv;have e:∀ y:aO,ct 160 a [y]=true:=fun y=>Nat.ble_eq_true_of_le (by simp; omega)
  have e0:gt d59 xs (i:Int)=x:=aV _ hx;rw [aD hx,az hx,e0];dsimp only [cond_true];rw [Bm x hm];dsimp only [Option.bind_some];rw [e,aJ (by omega)];rfl) (fun i x a a' hx ha hf=>by
  simp only [Sum.inl.injEq] at hf;rw [<- hf,List.length_append,ha]; rfl) (fun a ha=>by
  show pv xs (ae xs) (xs.length:Int) ([],()) (a,())=_;unfold pv;rw [aw rfl]; rfl)
 rw [fJ] at h;have h':KI xs (ae xs) 0 ([],()) ([],())=_:=h;rw [h']; rfl
theorem El {l:List er} (hB:si l) {j:Nat} {s:er} (hx:l[j]? = some s):s.2.1.length<=1048576/\∀ a∈s.2.1,iW a:=by have e1:=na hx;have e2:=uu l (j + 1);have e3:=hB.2.1;rw [e1,List.length_append] at e2;exact ⟨by omega,hB.2.2 s (List.mem_of_getElem? hx)⟩
theorem N1 (l:List er) (hB:si l):Xp l=some ((),((l,()),())):=by
 have hbig:aT=140737488355328:=rfl;have hl:=hB.1;have h:=aI (step:=cV xf) l (fun i (a:List er)=>(a,l,ae l,((i:Nat):Int),())) (fun _ x a=>Sum.inl (a ++ [x])) (fun a=> .inl (a,l,ae l,(l.length:Int),())) (fun i a=>a.length=i) (a0:=[]) rfl (fun i x a hx ha=>by
  have hlt:=aj hx;obtain ⟨s1,s2⟩:=El hB hx;show xf a l (ae l) (i:Int)=_;unfold xf;have e:∀ y:er,ct 32 a [y]=true:=fun y=>Nat.ble_eq_true_of_le (by simp; omega)
  rw [aD hx,az hx,aV _ hx];dsimp only [cond_true];rw [Bc x.2.1 s2 s1,aJ (by omega)];dsimp only [Option.bind_some];rw [e]; rfl) (fun i x a a' hx ha hf=>by
  simp only [Sum.inl.injEq] at hf;rw [<- hf,List.length_append,ha]; rfl) (fun a ha=>by
  show xf a l (ae l) (l.length:Int)=_;unfold xf;rw [aw rfl]; rfl)
 rw [fJ] at h;have h':PZ [] l (ae l) 0=_:=h;unfold Xp;rw [h']; rfl
theorem L3 (l:List er) (hB:si l):Xl l=some ((),((l,()),())):=by
 have hbig:aT=140737488355328:=rfl;have hl:=hB.1;have h:=aI (step:=cV vJ) l (fun i (a:List er)=>(a,l,ae l,((i:Nat):Int),())) (fun _ x a=>Sum.inl (a ++ [x])) (fun a=> .inl (a,l,ae l,(l.length:Int),())) (fun i a=>a.length=i) (a0:=[]) rfl (fun i x a hx ha=>by
  have hlt:=aj hx;obtain ⟨s1,s2⟩:=El hB hx;show vJ a l (ae l) (i:Int)=_;unfold vJ;have e:∀ y:er,ct 32 a [y]=true:=fun y=>Nat.ble_eq_true_of_le (by simp; omega)
  rw [aD hx,az hx,aV _ hx];dsimp only [cond_true];rw [Jo x.2.1 ⟨s1,s2⟩,aJ (by omega)];dsimp only [Option.bind_some];rw [e]; rfl) (fun i x a a' hx ha hf=>by
  simp only [Sum.inl.injEq] at hf;rw [<- hf,List.length_append,ha]; rfl) (fun a ha=>by
  show vJ a l (ae l) (l.length:Int)=_;unfold vJ;rw [aw rfl]; rfl)
 rw [fJ] at h;have h':OG [] l (ae l) 0=_:=h;unfold Xl;rw [h']; rfl
theorem ID (t:dq) (hb:nN t):Xy t=some ((),(t,())):=by have hbig:aT=140737488355328:=rfl;have h1:=hb.1.1;have h2:=hb.2.1;have h3:=hb.2.2;unfold Xy;rw [dF (by omega),dF (by omega),dF (by omega)]; rfl
theorem K3 (t:dq) (hb:nN t):Xt t=some ((),(t,())):=by have hbig:aT=140737488355328:=rfl;have h1:=hb.1.1;have h2:=hb.2.1;have h3:=hb.2.2;unfold Xt Pl BH;rw [dF (by omega),dF (by omega),dF (by omega)]; rfl
theorem Ge (w:dv) (hb:ic w):Xj w=some ((),(w,())):=by
 have hbig:aT=140737488355328:=rfl;have hl:=hb.2.1;have h:=aI (step:=fh wq) w.2.2.2.1 (fun i (a:List dq)=>(w.2.2.2.1,ae w.2.2.2.1,((i:Nat):Int),([],0,0,[],()),(w.1,w.2.1,w.2.2.1,a,()),())) (fun _ x a=>Sum.inl (a ++ [x])) (fun a=> .inl (w.2.2.2.1,ae w.2.2.2.1,(w.2.2.2.1.length:Int),([],0,0,[],()),(w.1,w.2.1,w.2.2.1,a,()),())) (fun i a=>a.length=i) (a0:=[]) rfl (fun i x a hx ha=>by
  have hlt:=aj hx;show wq w.2.2.2.1 (ae w.2.2.2.1) (i:Int) ([],0,0,[],()) (w.1,w.2.1,w.2.2.1,a,())=_;unfold wq;have e:∀ y:dq,ct 120 a [y]=true:=fun y=>Nat.ble_eq_true_of_le (by simp; omega)
  rw [aD hx,az hx,aV _ hx];dsimp only [cond_true];rw [K3 x (hb.2.2 x (List.mem_of_getElem? hx)),aJ (by omega)];dsimp only [Option.bind_some];rw [e]; rfl) (fun i x a a' hx ha hf=>by
  simp only [Sum.inl.injEq] at hf;rw [<- hf,List.length_append,ha]; rfl) (fun a ha=>by
  show wq w.2.2.2.1 (ae w.2.2.2.1) (w.2.2.2.1.length:Int) ([],0,0,[],()) (w.1,w.2.1,w.2.2.1,a,())=_;unfold wq;rw [aw rfl]; rfl)
 rw [fJ] at h;have h':PM w.2.2.2.1 (ae w.2.2.2.1) 0 ([],0,0,[],()) (w.1,w.2.1,w.2.2.1,[],())=_:=h;unfold Xj;rw [N1 w.1 hb.1];dsimp only [Option.bind_some];rw [h']; rfl
theorem Gj (w:dv) (hb:ic w):Xa w=some ((),(w,())):=by
 have hbig:aT=140737488355328:=rfl;have hl:=hb.2.1;have h:=aI (step:=fh vm) w.2.2.2.1 (fun i (a:List dq)=>(w.2.2.2.1,ae w.2.2.2.1,((i:Nat):Int),([],0,0,[],()),(w.1,w.2.1,w.2.2.1,a,()),())) (fun _ x a=>Sum.inl (a ++ [x])) (fun a=> .inl (w.2.2.2.1,ae w.2.2.2.1,(w.2.2.2.1.length:Int),([],0,0,[],()),(w.1,w.2.1,w.2.2.1,a,()),())) (fun i a=>a.length=i) (a0:=[]) rfl (fun i x a hx ha=>by
  have hlt:=aj hx;show vm w.2.2.2.1 (ae w.2.2.2.1) (i:Int) ([],0,0,[],()) (w.1,w.2.1,w.2.2.1,a,())=_;unfold vm;have e:∀ y:dq,ct 120 a [y]=true:=fun y=>Nat.ble_eq_true_of_le (by simp; omega)
  rw [aD hx,az hx,aV _ hx];dsimp only [cond_true];rw [ID x (hb.2.2 x (List.mem_of_getElem? hx)),aJ (by omega)];dsimp only [Option.bind_some];rw [e]; rfl) (fun i x a a' hx ha hf=>by
  simp only [Sum.inl.injEq] at hf;rw [<- hf,List.length_append,ha]; rfl) (fun a ha=>by
  show vm w.2.2.2.1 (ae w.2.2.2.1) (w.2.2.2.1.length:Int) ([],0,0,[],()) (w.1,w.2.1,w.2.2.1,a,())=_;unfold vm;rw [aw rfl]; rfl)
 rw [fJ] at h;have h':O8 w.2.2.2.1 (ae w.2.2.2.1) 0 ([],0,0,[],()) (w.1,w.2.1,w.2.2.1,[],())=_:=h;unfold Xa;rw [L3 w.1 hb.1];dsimp only [Option.bind_some];rw [h']; rfl
def w00:dv:=([],0,0,[],())
noncomputable def nQ (w:dv) (n:Int):dv×Bool :=
 cond (cond (!iN w) true (aq w.2.2.1 1000000000)) (w00,false) (cond (cond (!dI n 1 1000) true (au 1000000000 (ai .i64 w.2.1 n))) (w00,false) ((w.1,ai .i64 w.2.1 n,ai .i64 w.2.2.1 1,w.2.2.2.1,()),true))
theorem Q5 (w:dv) (n:Int) (hb:ic w):g12 w n=some ((),((nQ w n).1,((nQ w n).2,()),())):=by
 unfold g12 nQ;rw [TT w hb,kN,Gj w hb];dsimp only [Option.bind_some];cases cond (!iN w) true (aq w.2.2.1 1000000000) <;> first | rfl | skip
 cases cond (!dI n 1 1000) true (au 1000000000 (ai .i64 w.2.1 n)) <;> rfl
theorem SM (w:dv) (n:Int) (hb:ic w):g13 w n=some ((),((nQ w n).1,((nQ w n).2,()),())):=by
 unfold g13 nQ;rw [Vf w hb,jb,Ge w hb];dsimp only [Option.bind_some];cases cond (!iN w) true (aq w.2.2.1 1000000000) <;> first | rfl | skip
 cases cond (!dI n 1 1000) true (au 1000000000 (ai .i64 w.2.1 n)) <;> rfl
end Go.Av
