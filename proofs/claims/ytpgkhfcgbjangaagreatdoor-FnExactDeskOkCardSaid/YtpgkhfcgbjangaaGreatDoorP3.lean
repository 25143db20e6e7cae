/- Part of a proof that the law FnExactDeskOk answers true for every input: the printed functions of this program and their plain laws. No conditions beyond the statement. -/
import Derived.Test.YtpgkhfcgbjangaaGreatDoorQ3
set_option maxRecDepth 100000
set_option maxHeartbeats 4000000
namespace Go.Av
abbrev nB:=Int×List UInt8×Unit
abbrev cu:=List UInt8×List nB×Unit
def pF (m:cu):Prop:=m.1.length<=1048576/\m.2.1.length<=1048576/\∀ f∈m.2.1,f.2.1.length<=1048576
def fO (xs:List nB) (i:Nat) (x:nB):Bool:=cond (iN x.1 x.2.1) (cond (decide (0 < i)) (!(bC x.1 (gt (0,[],()) xs ((i:Int) - 1)).1)) true) false
def we (m:cu):Bool:=cond (cond (aT m.1) (ak (ae m.1) 4) false) (allI (fO m.2.1) 0 m.2.1) false
theorem BI (m:cu) (hb:pF m):BV m.2.1 (ae m.2.1) 0 m=some (bif allI (fO m.2.1) 0 m.2.1 then .inl (m.2.1,ae m.2.1,(m.2.1.length:Int),m,()) else .inr (false,())):=by
 have hbig:aW=140737488355328:=rfl;obtain ⟨mti,xs,u⟩:=m;obtain ⟨_,hl,hf⟩:=hb;dsimp only at hl hf ⊢;have h:=aE (step:=cU oe) xs (fun i (_:Unit)=>(xs,ae xs,((i:Nat):Int),(mti,xs,()),())) (fun i x _=>bif fO xs i x then Sum.inl () else .inr (.inr (false,()))) (fun _=> .inl (xs,ae xs,(xs.length:Int),(mti,xs,()),())) (a0:=()) (fun i x a hx=>by
  have hlt:=aj hx;show oe xs (ae xs) (i:Int) (mti,xs,())=_;unfold oe fO;rw [aG hx,aC hx,aX _ hx];dsimp only [cond_true];rw [SH _ _ (ct (hf x (List.mem_of_getElem? hx))),aQ (by omega)];dsimp only [Option.bind_some];cases iN x.1 x.2.1 with
  | false=>rfl
  | true =>
    by_cases h0:0 < i
    . rw [aF (show (0:Int) < i by omega),aO (by omega) (by omega),hJ hx h0];dsimp only [cond_true,cond_false,Bool.not_true];have e:gt d178 xs ((i:Int) - 1)=gt (0,[],()) xs ((i:Int) - 1):=rfl;rw [e,decide_eq_true h0];cases bC x.1 (gt (0,[],()) xs ((i:Int) - 1)).1 <;> rfl
    . rw [ax (show ¬ (0:Int) < i by omega),decide_eq_false h0]; rfl) (fun a=>by
  show oe xs (ae xs) (xs.length:Int) (mti,xs,())=_;unfold oe;rw [aw rfl]; rfl)
 rw [cC] at h;have h':BV xs (ae xs) 0 (mti,xs,())=_:=h;rw [h']
theorem Qy (m:cu) (hb:pF m):LG m=some ((),((we m,()),())):=by
 unfold LG we;rw [fz _ (ct hb.1)];dsimp only [Option.bind_some];cases aT m.1 with
 | false=>rfl
 | true =>
 cases ak (ae m.1) 4 with
 | false=>rfl
 | true => refine (bn (BI m hb)).trans ?_;show _=some ((),((allI (fO m.2.1) 0 m.2.1,()),()));cases allI (fO m.2.1) 0 m.2.1 <;> rfl
theorem BR (m:cu) (hb:pF m):CH m.2.1 (ae m.2.1) 0 m=some (bif allI (fO m.2.1) 0 m.2.1 then .inl (m.2.1,ae m.2.1,(m.2.1.length:Int),m,()) else .inr (false,())):=by
 have hbig:aW=140737488355328:=rfl;obtain ⟨mti,xs,u⟩:=m;obtain ⟨_,hl,hf⟩:=hb;dsimp only at hl hf ⊢;have h:=aE (step:=cU oo) xs (fun i (_:Unit)=>(xs,ae xs,((i:Nat):Int),(mti,xs,()),())) (fun i x _=>bif fO xs i x then Sum.inl () else .inr (.inr (false,()))) (fun _=> .inl (xs,ae xs,(xs.length:Int),(mti,xs,()),())) (a0:=()) (fun i x a hx=>by
  have hlt:=aj hx;show oo xs (ae xs) (i:Int) (mti,xs,())=_;unfold oo fO;rw [aG hx,aC hx,aX _ hx];dsimp only [cond_true];rw [Hl _ _ (ct (hf x (List.mem_of_getElem? hx))),aQ (by omega)];dsimp only [Option.bind_some];cases iN x.1 x.2.1 with
  | false=>rfl
  | true =>
    by_cases h0:0 < i
    . rw [aF (show (0:Int) < i by omega),aO (by omega) (by omega),hJ hx h0];dsimp only [cond_true,cond_false,Bool.not_true];have e:gt d178 xs ((i:Int) - 1)=gt (0,[],()) xs ((i:Int) - 1):=rfl;rw [e,decide_eq_true h0];cases bC x.1 (gt (0,[],()) xs ((i:Int) - 1)).1 <;> rfl
    . rw [ax (show ¬ (0:Int) < i by omega),decide_eq_false h0]; rfl) (fun a=>by
  show oo xs (ae xs) (xs.length:Int) (mti,xs,())=_;unfold oo;rw [aw rfl]; rfl)
 rw [cC] at h;have h':CH xs (ae xs) 0 (mti,xs,())=_:=h;rw [h']
theorem ES (s:List UInt8) (n:Int) (hs:s.length<=aW):wF s n=some ((),((cond (aT s) (ak (ae s) n) false,()),())):=by unfold wF;rw [gv s hs]; rfl
theorem Sy (m:cu) (hb:pF m):LB m=some ((),((we m,()),())):=by
 unfold LB we;refine (bn (BR m hb)).trans ?_;cases allI (fO m.2.1) 0 m.2.1 with
 | true =>
   show Option.bind (wF m.1 4) _=_;rw [ES m.1 4 (ct hb.1)];dsimp only [Option.bind_some];cases aT m.1 with
   | false=>rfl
   | true=>cases ak (ae m.1) 4 <;> rfl
 | false =>
   cases aT m.1 with
   | false=>rfl
   | true=>cases ak (ae m.1) 4 <;> rfl
def lP (m:cu) (no:Int):Option (List UInt8):=(m.2.1.find? fun f=>ak f.1 no).map (·.2.1)
def CN (o:Option (List UInt8)):Option (Unit×((List UInt8×Unit)×(Bool×Unit)×Unit)):=some ((),match o with | some s=>((s,()),(true,()),()) | none=>(([],()),(false,()),()))
theorem wz (m:cu) (no:Int) (hb:pF m):jL m no=CN (lP m no):=by
 have hbig:aW=140737488355328:=rfl;have hl:=hb.2.1;unfold jL;have h:=aE (step:=cU oC) m.2.1 (fun i (_:Unit)=>(no,m.2.1,ae m.2.1,((i:Nat):Int),())) (fun i x _=>bif ak x.1 no then .inr (.inr (x.2.1,true,())) else .inl ()) (fun _=> .inl (no,m.2.1,ae m.2.1,(m.2.1.length:Int),())) (a0:=()) (fun i x a hx=>by
  have hlt:=aj hx;show oC no m.2.1 (ae m.2.1) (i:Int)=_;unfold oC;rw [aG hx,aC hx,aX _ hx,aQ (by omega)];dsimp only [cond_true];cases ak x.1 no <;> rfl) (fun a=>by
  show oC no m.2.1 (ae m.2.1) (m.2.1.length:Int)=_;unfold oC;rw [aw rfl]; rfl)
 rw [mQ] at h;have h':I3 no m.2.1 (ae m.2.1) 0=_:=h;refine (bn h').trans ?_;unfold lP CN;cases m.2.1.find? _ <;> rfl
theorem M6 (m:cu) (no:Int) (hb:pF m):E5 m no=CN (lP m no):=by
 have hbig:aW=140737488355328:=rfl;have hl:=hb.2.1;unfold E5;have h:=aE (step:=cU nz) m.2.1 (fun i (_:Unit)=>(no,m.2.1,ae m.2.1,((i:Nat):Int),())) (fun i x _=>bif ak x.1 no then .inr (.inr (x.2.1,true,())) else .inl ()) (fun _=> .inl (no,m.2.1,ae m.2.1,(m.2.1.length:Int),())) (a0:=()) (fun i x a hx=>by
  have hlt:=aj hx;show nz no m.2.1 (ae m.2.1) (i:Int)=_;unfold nz;rw [aG hx,aC hx,aX _ hx,aQ (by omega)];dsimp only [cond_true];cases ak x.1 no <;> rfl) (fun a=>by
  show nz no m.2.1 (ae m.2.1) (m.2.1.length:Int)=_;unfold nz;rw [aw rfl]; rfl)
 rw [mQ] at h;have h':Hr no m.2.1 (ae m.2.1) 0=_:=h;refine (bn h').trans ?_;unfold lP CN;cases m.2.1.find? _ <;> rfl
def ki (b:aS):aS->Nat->List nB->Option (List nB×Nat)
 | [],a,o=>some (o,a)
 | x :: r,a,o=>match nh b a x.1 with
   | some (s,e)=>ki b r e (o ++ [(x.1,s,())])
   | none=>none
def iy (l:aS):aS:=l.map fun x=>(aq .i64 x.1 64,())
def tj (x:Int×Unit):Bool:= !(ak (bm x.1) 0)
def eH (l:aS):aS:=l.filter fun x=> !(ak x.1 1)
def fS (l:aS):Bool:=l.any fun x=>ak x.1 1
def zQ (b:aS):Option (aS×Nat) :=
 if 10<=b.length then
  (bif fS (dL (et b 2 8)) then
    (if 18<=b.length/\dL (et b 10 8)≠[] then (bif (eH (dL (et b 2 8)) ++ iy (dL (et b 10 8))).all tj then some (eH (dL (et b 2 8)) ++ iy (dL (et b 10 8)),18) else none) else none)
  else (bif (eH (dL (et b 2 8))).all tj then some (eH (dL (et b 2 8)),10) else none))
 else none
def j5 (b:aS):cu×Int:=match iM b 0 4 with
 | none=>(([],[],()),1)
 | some mti=>match zQ b with
   | none=>(([],[],()),2)
   | some (nos,a)=>match ki b nos a [] with
     | none=>(([],[],()),3)
     | some (l,e)=>if e=b.length then ((mti,l,()),0) else (([],[],()),4)
def Ek (p:cu×Int):Option (Unit×(cu×(Int×Unit)×Unit)):=some ((),(p.1,(p.2,()),()))
theorem Qz (b:aS) (hb:xX b) (h2:2<=b.length):G3 b=some ((),match zQ b with | some p=>((p.1,()),((p.2:Int),()),(true,()),()) | none=>(([],()),(0,()),(false,()),())):=by
 have hbig:aW=140737488355328:=rfl;have hl:=hb.1;unfold G3 zQ;have h0:CF b 2=_:=I9 b 2 hb h2;unfold nq at h0;refine (bn h0).trans ?_;by_cases h10:10<=b.length;rotate_left
 . rw [if_neg h10,if_neg h10]; rfl
 rw [if_pos h10,if_pos h10];have k1:=kg (et b 2 8);generalize dL (et b 2 8)=lo at k1 ⊢;have hlow:GC b 10 [] false lo (ae lo) 0=some (.inl (b,10,eH lo,fS lo,lo,ae lo,(lo.length:Int),())):=by
  have h:=a6 (step:=G9 nY) lo (fun i (o:aS×Bool)=>(b,10,o.1,o.2,lo,ae lo,((i:Nat):Int),())) (fun _ x o=>Sum.inl (bif ak x.1 1 then (o.1,true) else (o.1 ++ [x],o.2))) (fun o=> .inl (b,10,o.1,o.2,lo,ae lo,(lo.length:Int),())) (fun i o=>o.1.length<=i) (a0:=([],false)) (Nat.le_refl _) (fun i x o hx ho=>by
   have hlt:=aj hx;show nY b 10 o.1 o.2 lo (ae lo) (i:Int)=_;unfold nY;rw [aG hx,aC hx,aX _ hx,aQ (by omega)];have:cS 8 o.1 [x]=true:=Nat.ble_eq_true_of_le (by show (o.1.length + 1) * 8<=aW; omega);dsimp only [cond_true];rw [this];cases ak x.1 1 <;> rfl) (fun i x o o' hx ho hf=>by
   simp only [Sum.inl.injEq] at hf;rw [<- hf];cases ak x.1 1 with
   | true=>show o.1.length<=_; omega
   | false=>show (o.1 ++ [x]).length<=_; rw [List.length_append]; show o.1.length + 1<=_; omega) (fun o ho=>by
   show nY b 10 o.1 o.2 lo (ae lo) (lo.length:Int)=_;unfold nY;rw [aw rfl]; rfl)
  have hfold:∀ (l:aS) (o:aS×Bool),l.foldl (fun o x=>bif ak x.1 1 then (o.1,true) else (o.1 ++ [x],o.2)) o=(o.1 ++ eH l,o.2 || fS l):=fun l=>by
   induction l with
   | nil=>intro o; simp [eH,fS]
   | cons x r ih => intro o;rw [List.foldl_cons,ih];unfold eH fS;rw [List.filter_cons,List.any_cons];cases ak x.1 1 <;> simp
  rw [bQ,hfold] at h;exact h
 have hchk:∀ (nos:aS) (a:Int),nos.length<=1000->Cf () a nos (ae nos) 0=some (bif nos.all tj then .inl ((),a,nos,ae nos,(nos.length:Int),()) else .inr ([],0,false,())):=fun nos a hn=>by
  have h:=aE (step:=gj oW) nos (fun i (_:Unit)=>((),a,nos,ae nos,((i:Nat):Int),())) (fun _ x _=>bif tj x then Sum.inl () else .inr (.inr ([],0,false,()))) (fun _=> .inl ((),a,nos,ae nos,(nos.length:Int),())) (a0:=()) (fun i x o hx=>by
   have hlt:=aj hx;show oW () a nos (ae nos) (i:Int)=_;unfold oW;rw [aG hx,aC hx,aX _ hx,aQ (by omega),CZ];dsimp only [cond_true,Option.bind_some];unfold tj;cases ak (bm x.1) 0 <;> rfl) (fun o=>by
   show oW () a nos (ae nos) (nos.length:Int)=_;unfold oW;rw [aw rfl]; rfl)
  rw [fJ] at h;refine Eq.trans h ?_;cases nos.all tj <;> rfl
 have hlen:(eH lo).length<=64:=Nat.le_trans (List.length_filter_le _ _) k1;refine (bn hlow).trans ?_;show cond (fS lo) _ _=_;cases fS lo with
 | false => refine (bn (hchk (eH lo) 10 (by omega))).trans ?_;cases (eH lo).all tj <;> rfl
 | true =>
   have h1:CF b 10=_:=I9 b 10 hb h10;unfold nq at h1;refine (bn h1).trans ?_;by_cases h18:18<=b.length;rotate_left
   . rw [if_neg h18,if_neg (fun h=>h18 h.1)]; rfl
   rw [if_pos h18];have k2:=kg (et b 10 8);have k3:= @F7 (et b 10 8);generalize dL (et b 10 8)=hi at k2 k3 ⊢;by_cases hne:hi=[]
   . rw [if_neg (fun h=>h.2 hne),hne]; rfl
   rw [if_pos ⟨h18,hne⟩];have he:ak (ae hi) 0=false:=beq_eq_false_iff_ne.2 (by
    show (hi.length:Int)≠0;cases hi with
    | nil=>exact absurd rfl hne
    | cons x r=>show ((r.length + 1:Nat):Int)≠0; omega)
   have hhi:HX (eH lo) 18 hi (ae hi) 0=some (.inl (eH lo ++ iy hi,18,hi,ae hi,(hi.length:Int),())):=by
    have h:=a6 (step:=gj oz) hi (fun i (o:aS)=>(o,18,hi,ae hi,((i:Nat):Int),())) (fun _ x o=>Sum.inl (o ++ [(aq .i64 x.1 64,())])) (fun o=> .inl (o,18,hi,ae hi,(hi.length:Int),())) (fun i o=>o.length=(eH lo).length + i) (a0:=eH lo) rfl (fun i x o hx ho=>by
     have hlt:=aj hx;show oz o 18 hi (ae hi) (i:Int)=_;unfold oz;rw [aG hx,aC hx,aX _ hx,aQ (by omega)];have:cS 8 o [(aq .i64 x.1 64,())]=true:=Nat.ble_eq_true_of_le (by show (o.length + 1) * 8<=aW; omega);rw [this]; rfl) (fun i x o o' hx ho hf=>by
     simp only [Sum.inl.injEq] at hf;rw [<- hf,List.length_append,ho]; rfl) (fun o ho=>by
     show oz o 18 hi (ae hi) (hi.length:Int)=_;unfold oz;rw [aw rfl]; rfl)
    have hfold:∀ (l o:aS),l.foldl (fun o x=>o ++ [(aq .i64 x.1 64,())]) o=o ++ iy l:=fun l=>by
     induction l with
     | nil=>intro o; simp [iy]
     | cons x r ih=>intro o; rw [List.foldl_cons,ih]; simp [iy]
    rw [bQ,hfold] at h;exact h
   show cond (cond (!true) true (ak (ae hi) 0)) _ _=_;rw [he];refine (bn hhi).trans ?_;have hla:(eH lo ++ iy hi).length<=1000:=by rw [List.length_append]; unfold iy; rw [List.length_map]; omega
   refine (bn (hchk (eH lo ++ iy hi) 18 hla)).trans ?_;cases (eH lo ++ iy hi).all tj <;> rfl
theorem uG {α A Y:Type} (p:α->Bool) (f:α->A->A) (y:Y) (z:A->Y):∀ (xs:List α) (i:Nat) (a:A),kB (fun _ x a=>bif p x then .inl (f x a) else .inr y) z i xs a=bif xs.all p then z (xs.foldl (fun a x=>f x a) a) else y
 | [],_,_=>rfl
 | x :: r,i,a=>by
   rw [kB,List.all_cons,List.foldl_cons];cases hp:p x with
   | true=>simp only [cond_true,Bool.true_and]; exact uG p f y z r (i + 1) _
   | false=>rfl
def Iq (x:Int×Unit) (o:aS×Bool):aS×Bool:=bif ak x.1 1 then (o.1,true) else (o.1 ++ [x],o.2)
theorem EA:∀ (l:aS) (o:aS×Bool),l.foldl (fun o x=>Iq x o) o=(o.1 ++ eH l,o.2 || fS l):=fun l=>by
 induction l with
 | nil=>intro o; simp [eH,fS]
 | cons x r ih => intro o;rw [List.foldl_cons,ih];unfold Iq eH fS;rw [List.filter_cons,List.any_cons];cases ak x.1 1 <;> simp
def Iu (x:Int×Unit):Bool:=ak x.1 1 || tj x
theorem Gu (l:aS):l.all Iu=(eH l).all tj:=by
 induction l with
 | nil=>rfl
 | cons x r ih => unfold eH at ih ⊢;rw [List.all_cons,List.filter_cons,ih];unfold Iu;cases h:ak x.1 1 <;> simp
theorem Jx {o:aS} {x:Int×Unit} (h:o.length<=1048576):cS 8 o [x]=true:=Nat.ble_eq_true_of_le (by show (o.length + 1) * 8<=140737488355328; omega)
theorem Uj (b:aS) (mti:List UInt8) (at':Int) (lo:aS) (hl:lo.length<=64) (m0:cu):Jj b mti at' [] false lo (ae lo) 0 m0=some (bif (eH lo).all tj then .inl (b,mti,at',eH lo,fS lo,lo,ae lo,(lo.length:Int),m0,()) else .inr (2,([],[],()),())):=by
 have h:=a6 (step:=B9 oq) lo (fun i (o:aS×Bool)=>(b,mti,at',o.1,o.2,lo,ae lo,((i:Nat):Int),m0,())) (fun _ x o=>bif Iu x then Sum.inl (Iq x o) else .inr (.inr (2,([],[],()),()))) (fun o=> .inl (b,mti,at',o.1,o.2,lo,ae lo,(lo.length:Int),m0,())) (fun i o=>o.1.length<=i) (a0:=([],false)) (Nat.le_refl _) (fun i x o hx ho=>by
  have hlt:=aj hx;show oq b mti at' o.1 o.2 lo (ae lo) (i:Int) m0=_;unfold oq;rw [aG hx,aC hx,aX _ hx,aQ (by unfold aW; omega)];dsimp only [cond_true];rw [yb];dsimp only [Option.bind_some];rw [Jx (by omega)];unfold Iu Iq tj;cases ak x.1 1 <;> cases ak (bm x.1) 0 <;> rfl) (fun i x o o' hx ho hf=>by
  unfold Iq at hf;cases hk:Iu x <;> rw [hk] at hf
  . cases hf
  . cases hf;cases ak x.1 1 with
    | true=>show o.1.length<=_; omega
    | false=>show (o.1 ++ [x]).length<=_; rw [List.length_append]; show o.1.length + 1<=_; omega) (fun o ho=>by
  show oq b mti at' o.1 o.2 lo (ae lo) (lo.length:Int) m0=_;unfold oq;rw [aw rfl]; rfl)
 rw [uG,EA,Gu] at h;refine Eq.trans h ?_;cases (eH lo).all tj <;> rfl
theorem IE (l:aS):(iy l).all tj=l.all fun x=>tj (aq .i64 x.1 64,()):=by unfold iy; rw [List.all_map]; rfl
theorem EI:∀ (l o:aS),l.foldl (fun o x=>o ++ [(aq .i64 x.1 64,())]) o=o ++ iy l:=fun l=>by
 induction l with
 | nil=>intro o; simp [iy]
 | cons x r ih=>intro o; rw [List.foldl_cons,ih]; simp [iy]
theorem Od (b:aS) (mti:List UInt8) (at':Int) (o0 hi:aS) (h0:o0.length<=64) (hl:hi.length<=64) (m0:cu):JD b mti at' o0 hi (ae hi) 0 m0=some (bif (iy hi).all tj then .inl (b,mti,at',o0 ++ iy hi,hi,ae hi,(hi.length:Int),m0,()) else .inr (2,([],[],()),())):=by
 have h:=a6 (step:=xd oT) hi (fun i (o:aS)=>(b,mti,at',o,hi,ae hi,((i:Nat):Int),m0,())) (fun _ x o=>bif tj (aq .i64 x.1 64,()) then Sum.inl (o ++ [(aq .i64 x.1 64,())]) else .inr (.inr (2,([],[],()),()))) (fun o=> .inl (b,mti,at',o,hi,ae hi,(hi.length:Int),m0,())) (fun i o=>o.length<=64 + i) (a0:=o0) h0 (fun i x o hx ho=>by
  have hlt:=aj hx;show oT b mti at' o hi (ae hi) (i:Int) m0=_;unfold oT;rw [aG hx,aC hx,aX _ hx,aQ (by unfold aW; omega)];dsimp only [cond_true];rw [yb];dsimp only [Option.bind_some];rw [Jx (by omega)];unfold tj;cases ak (bm (aq .i64 x.1 64)) 0 <;> rfl) (fun i x o o' hx ho hf=>by
  cases hk:tj (aq .i64 x.1 64,()) <;> rw [hk] at hf
  . cases hf
  . cases hf;rw [List.length_append]; show o.length + 1<=_; omega) (fun o ho=>by
  show oT b mti at' o hi (ae hi) (hi.length:Int) m0=_;unfold oT;rw [aw rfl]; rfl)
 rw [uG,EI,<- IE] at h;refine Eq.trans h ?_;cases (iy hi).all tj <;> rfl
def Oj (b:aS) (mti:List UInt8) (m0:cu) (nos:aS) (n:Int):Option (List nB×Nat)->Sum (aS×Int×aS×Int×Int×cu×cu×Unit) (Int×cu×Unit)
 | some (l,e)=> .inl (b,(e:Int),nos,n,n,m0,(mti,l,()),())
 | none=> .inr (3,([],[],()),())
theorem yj (b:aS) (mti:List UInt8) (m0:cu) (ns:aS) (n:Int):∀ (nos:aS) (i a:Nat) (o:List nB),kB (fun _ x (q:Nat×List nB)=>match nh b q.1 x.1 with | some (s,e)=>Sum.inl (e,q.2 ++ [(x.1,s,())]) | none=> .inr (.inr (3,([],[],()),()))) (fun q=> .inl (b,(q.1:Int),ns,n,n,m0,(mti,q.2,()),())) i nos (a,o)=Oj b mti m0 ns n (ki b nos a o)
 | [],_,_,_=>rfl
 | x :: r,i,a,o=>by
   rw [kB,ki];cases nh b a x.1 with
   | none=>rfl
   | some p=>exact yj b mti m0 ns n r (i + 1) p.2 _
theorem MN {o:List nB} {x:nB} (h:o.length<=1048576):cS 24 o [x]=true:=Nat.ble_eq_true_of_le (by show (o.length + 1) * 24<=140737488355328; omega)
theorem PF (b:aS) (hb:xX b) (a:Nat) (ha:a<=b.length) (nos:aS) (hn:nos.length<=1000) (mti:List UInt8) (m0:cu):IS b (a:Int) nos (ae nos) 0 m0 (mti,[],())=some (Oj b mti m0 nos (ae nos) (ki b nos a [])):=by
 have h:=a6 (step:=G9 oD) nos (fun i (q:Nat×List nB)=>(b,(q.1:Int),nos,ae nos,((i:Nat):Int),m0,(mti,q.2,()),())) (fun _ x q=>match nh b q.1 x.1 with | some (s,e)=>Sum.inl (e,q.2 ++ [(x.1,s,())]) | none=> .inr (.inr (3,([],[],()),()))) (fun q=> .inl (b,(q.1:Int),nos,ae nos,(nos.length:Int),m0,(mti,q.2,()),())) (fun i q=>q.1<=b.length/\q.2.length<=i) (a0:=(a,[])) ⟨ha,Nat.le_refl _⟩ (fun i x q hx hq=>by
  have hlt:=aj hx;show oD b (q.1:Int) nos (ae nos) (i:Int) m0 (mti,q.2,())=_;unfold oD;rw [aG hx,aC hx,aX _ hx,aQ (by unfold aW; omega),Rq b q.1 x.1 hb hq.1];unfold ld;cases nh b q.1 x.1 with
  | none=>rfl
  | some p =>
    dsimp only [cond_true,Option.bind_some,Bool.not_true,cond_false];rw [MN (Nat.le_trans hq.2 (by omega))]; rfl) (fun i x q q' hx hq hf=>by
  cases hg:nh b q.1 x.1 with
  | none=>rw [hg] at hf; cases hf
  | some p =>
    rw [hg] at hf;cases hf;refine ⟨(rE hq.1 hg).2.2,?_⟩;show (q.2 ++ [_]).length<=_;rw [List.length_append];exact Nat.succ_le_succ hq.2) (fun q hq=>by
  show oD b (q.1:Int) nos (ae nos) (nos.length:Int) m0 (mti,q.2,())=_;unfold oD;rw [aw rfl]; rfl)
 rw [show (fun (q:Nat×List nB)=>(Sum.inl (b,(q.1:Int),nos,ae nos,(nos.length:Int),m0,(mti,q.2,()),()):Sum (aS×Int×aS×Int×Int×cu×cu×Unit) (Int×cu×Unit)))=fun q=> .inl (b,(q.1:Int),nos,ae nos,ae nos,m0,(mti,q.2,()),()) from rfl,yj] at h;exact h
theorem Om (b:aS) (hb:xX b) (a:Nat) (ha:a<=b.length) (nos:aS) (hn:nos.length<=1000) (mti:List UInt8) (m0:cu):yL b (a:Int) nos (ae nos) 0 m0 (mti,[],())=some (Oj b mti m0 nos (ae nos) (ki b nos a [])):=by
 have h:=a6 (step:=G9 nx) nos (fun i (q:Nat×List nB)=>(b,(q.1:Int),nos,ae nos,((i:Nat):Int),m0,(mti,q.2,()),())) (fun _ x q=>match nh b q.1 x.1 with | some (s,e)=>Sum.inl (e,q.2 ++ [(x.1,s,())]) | none=> .inr (.inr (3,([],[],()),()))) (fun q=> .inl (b,(q.1:Int),nos,ae nos,(nos.length:Int),m0,(mti,q.2,()),())) (fun i q=>q.1<=b.length/\q.2.length<=i) (a0:=(a,[])) ⟨ha,Nat.le_refl _⟩ (fun i x q hx hq=>by
  have hlt:=aj hx;show nx b (q.1:Int) nos (ae nos) (i:Int) m0 (mti,q.2,())=_;unfold nx;rw [aG hx,aC hx,aX _ hx,aQ (by unfold aW; omega),S9 b q.1 x.1 hb hq.1];unfold ld;cases nh b q.1 x.1 with
  | none=>rfl
  | some p =>
    dsimp only [cond_true,Option.bind_some,Bool.not_true,cond_false];rw [MN (Nat.le_trans hq.2 (by omega))]; rfl) (fun i x q q' hx hq hf=>by
  cases hg:nh b q.1 x.1 with
  | none=>rw [hg] at hf; cases hf
  | some p =>
    rw [hg] at hf;cases hf;refine ⟨(rE hq.1 hg).2.2,?_⟩;show (q.2 ++ [_]).length<=_;rw [List.length_append];exact Nat.succ_le_succ hq.2) (fun q hq=>by
  show nx b (q.1:Int) nos (ae nos) (nos.length:Int) m0 (mti,q.2,())=_;unfold nx;rw [aw rfl]; rfl)
 rw [show (fun (q:Nat×List nB)=>(Sum.inl (b,(q.1:Int),nos,ae nos,(nos.length:Int),m0,(mti,q.2,()),()):Sum (aS×Int×aS×Int×Int×cu×cu×Unit) (Int×cu×Unit)))=fun q=> .inl (b,(q.1:Int),nos,ae nos,ae nos,m0,(mti,q.2,()),()) from rfl,yj] at h;exact h
theorem Ag {b:aS} {p:aS×Nat} (h:zQ b=some p):p.1.length<=1000/\p.2<=b.length:=by
 have k1:=kg (et b 2 8);have k2:=kg (et b 10 8);have k3:(eH (dL (et b 2 8))).length<=64:=Nat.le_trans (List.length_filter_le _ _) k1;have k4:(iy (dL (et b 10 8))).length<=64:=by unfold iy; rw [List.length_map]; exact k2
 unfold zQ at h;by_cases h10:10<=b.length;rotate_left
 . rw [if_neg h10] at h; cases h
 rw [if_pos h10] at h;cases hm:fS (dL (et b 2 8)) <;> rw [hm] at h
 . cases hk:(eH (dL (et b 2 8))).all tj <;> rw [hk] at h <;> cases h;exact ⟨by show (eH (dL (et b 2 8))).length<=_; omega,h10⟩
 . by_cases h18:18<=b.length/\dL (et b 10 8)≠[]
   . rw [cond_true,if_pos h18] at h;cases hk:(eH (dL (et b 2 8)) ++ iy (dL (et b 10 8))).all tj <;> rw [hk] at h <;> cases h;refine ⟨?_,h18.1⟩;show (eH (dL (et b 2 8)) ++ iy (dL (et b 10 8))).length<=_;rw [List.length_append]; omega
   . rw [cond_true,if_neg h18] at h; cases h
theorem QG (b:aS) (hb:xX b):LL b=Ek (j5 b):=by
 unfold LL j5 Ek;have h0:tD b 0 4=wQ (iM b 0 4) 2:=Ee b 0 4 hb (Nat.zero_le _) (by omega);rw [h0];cases hc:iM b 0 4 with
 | none=>rfl
 | some mti =>
   have h2:2<=b.length:=(dR hc).2.2.2.2;show Option.bind (G3 b) _=_;rw [Qz b hb h2];cases hn:zQ b with
   | none=>rfl
   | some p =>
     obtain ⟨n1,n2⟩:=Ag hn;obtain ⟨nos,a⟩:=p;refine (bn (PF b hb a n2 nos n1 mti ([],[],()))).trans ?_;dsimp only;cases ki b nos a [] with
     | none=>rfl
     | some q =>
       obtain ⟨l,e⟩:=q;show cond (!(ak (e:Int) (b.length:Int))) _ _=_;dsimp only;by_cases he:e=b.length
       . rw [if_pos he,he,bp]; rfl
       . rw [if_neg he,show ak (e:Int) (b.length:Int)=false from beq_eq_false_iff_ne.2 (by omega)]; rfl
theorem RR (b:aS) (hb:xX b):KB b=Ek (j5 b):=by
 unfold KB j5 Ek;have h0:yr b 0 4=wQ (iM b 0 4) 2:=I8 b 0 4 hb (Nat.zero_le _) (by omega);rw [h0];cases hc:iM b 0 4 with
 | none=>rfl
 | some mti =>
   have h2:2<=b.length:=(dR hc).2.2.2.2;have h1:As b 2=nq b 2:=IY b 2 hb h2;show Option.bind (As b 2) _=_;rw [h1];unfold nq zQ;have k1:=kg (et b 2 8);generalize hlo:dL (et b 2 8)=lo at k1 ⊢;have k3:(eH lo).length<=64:=Nat.le_trans (List.length_filter_le _ _) k1;have tail:∀ (nos:aS) (a:Nat),a<=b.length->nos.length<=1000->∀ m0:cu,(Option.bind (yL b (a:Int) nos (ae nos) 0 m0 (mti,[],())) (Sum.elim (fun y6=>cond (!(ak y6.2.1 (ae y6.1))) (some ((),(([],[],()),(4,()),()))) (some ((),(y6.2.2.2.2.2.2.1,(0,()),())))) (fun y6=>some ((),(y6.2.1,(y6.1,()),())))))=some ((),(match ki b nos a [] with | none=>(([],[],()),3) | some (l,e)=>if e=b.length then ((mti,l,()),0) else (([],[],()),4):cu×Int).1,((match ki b nos a [] with | none=>(([],[],()),3) | some (l,e)=>if e=b.length then ((mti,l,()),0) else (([],[],()),4):cu×Int).2,()),()):=fun nos a ha hn m0=>by
    rw [Om b hb a ha nos hn mti m0];cases ki b nos a [] with
    | none=>rfl
    | some q =>
      obtain ⟨l,e⟩:=q;show cond (!(ak (e:Int) (b.length:Int))) _ _=_;dsimp only;by_cases he:e=b.length
      . rw [if_pos he,he,bp]; rfl
      . rw [if_neg he,show ak (e:Int) (b.length:Int)=false from beq_eq_false_iff_ne.2 (by omega)]; rfl
   by_cases h10:10<=b.length;rotate_left
   . rw [if_neg h10,if_neg (show ¬ 2 + 8<=b.length from h10)]; rfl
   rw [if_pos h10,if_pos (show 2 + 8<=b.length from h10)];refine (bn (Uj b mti 10 lo k1 ([],[],()))).trans ?_;cases hk:(eH lo).all tj with
   | false =>
     dsimp only [cond_false];cases fS lo with
     | false=>rfl
     | true =>
       dsimp only [cond_true];rw [List.all_append,hk];by_cases h18:18<=b.length/\dL (et b 10 8)≠[]
       . rw [if_pos h18]; rfl
       . rw [if_neg h18]; rfl
   | true =>
     dsimp only [cond_true];show cond (fS lo) _ _=_;cases fS lo with
     | false=>exact tail (eH lo) 10 h10 (by omega) _
     | true =>
       dsimp only [cond_true];have h3:As b 10=nq b 10:=IY b 10 hb h10;refine (bn h3).trans ?_;unfold nq;have k2:=kg (et b 10 8);generalize dL (et b 10 8)=hi at k2 ⊢;by_cases h18:18<=b.length;rotate_left
       . rw [if_neg (show ¬ 10 + 8<=b.length from h18),if_neg (fun h=>h18 h.1)]; rfl
       rw [if_pos (show 10 + 8<=b.length from h18)];by_cases hne:hi=[]
       . rw [if_neg (fun h=>h.2 hne),hne]; rfl
       rw [if_pos ⟨h18,hne⟩];have he:ak (ae hi) 0=false:=beq_eq_false_iff_ne.2 (by
        show (hi.length:Int)≠0;cases hi with
        | nil=>exact absurd rfl hne
        | cons x r=>show ((r.length + 1:Nat):Int)≠0; omega)
       show cond (cond (!true) true (ak (ae hi) 0)) _ _=_;rw [he];refine (bn (Od b mti 18 (eH lo) hi k3 k2 ([],[],()))).trans ?_;rw [List.all_append,hk];cases (iy hi).all tj with
       | false=>rfl
       | true=>exact tail (eH lo ++ iy hi) 18 h18 (by rw [List.length_append]; unfold iy; rw [List.length_map]; omega) _
abbrev j3:=Int×(List UInt8)×(List UInt8)×(List UInt8)×(List UInt8)×(List UInt8)×Int×Int×Unit
theorem uA (xs:List (Int×Unit)) (v:Int) (hs:xs.length<=1048576):O7 xs v=some ((),((bC 0 (gf (fun y=>ak v y.1) 0 xs),()),())):=by
 have hbig:aW=140737488355328:=rfl;unfold O7 XQ;have h:=aE (step:=cU tM) xs (fun i (_:Unit)=>(xs,v,ae xs,((i:Nat):Int),())) (fun i y _=>bif ak v y.1 then Sum.inr (.inr ((i:Int),())) else Sum.inl ()) (fun _=> .inl (xs,v,ae xs,(xs.length:Int),())) (a0:=()) (fun i y u hy=>by
  have hlt:=aj hy;show tM xs v (ae xs) (i:Int)=_;unfold tM;rw [aG hy,aC hy,aX _ hy,aQ (by omega)];dsimp only [cond_true];cases ak v y.1 <;> rfl) (fun u=>by
  show tM xs v (ae xs) (xs.length:Int)=_;unfold tM;rw [aw rfl]; rfl)
 have h':MW xs v (ae xs) 0=_:=h;rw [h'];have hf:=l6 (Y:=Sum ((List (Int×Unit))×Int×Int×Int×Unit) (Int×Unit)) (fun (y:Int×Unit)=>ak v y.1) (fun n=> .inr (n,())) (.inl (xs,v,ae xs,(xs.length:Int),())) (fun y=>match y with | .inl _ => -1 | .inr z=>z.1) (fun _=>rfl) rfl xs 0;rw [<- hf];dsimp only [Option.bind_some];cases kB _ _ 0 xs () <;> rfl
def HT (op:Int):List UInt8:=gt ([],()) [([],()),([48,49,48,48],()),([48,49,48,48],()),([48,50,50,48],()),([48,50,50,48],()),([48,50,50,48],()),([48,50,48,48],()),([48,49,48,48],()),([48,50,48,48],())] op |>.1
def qp (q:j3):Bool:=dJ q.1 1 8 && bY q.2.2.2.2.2.1 (HT q.1) && fk q.2.1 && aT q.2.2.2.2.1 && ak (ae q.2.2.2.2.1) 6 && (cond (au q.1 7) (hD q.2.2.2.1) (bY q.2.2.2.1 [])) && (cond (au q.1 5) (dJ q.2.2.2.2.2.2.1 0 999999999999) (ak q.2.2.2.2.2.2.1 0)) && (cond (ak q.1 1) (dJ q.2.2.2.2.2.2.2.1 0 9999) (ak q.2.2.2.2.2.2.2.1 0)) && (cond (ak q.1 6) (fk q.2.2.1) (bY q.2.2.1 []))
def It (q:j3):Prop:=q.2.1.length<=1048576/\q.2.2.1.length<=1048576/\q.2.2.2.1.length<=1048576/\q.2.2.2.2.1.length<=1048576/\q.2.2.2.2.2.1.length<=1048576
theorem pK {op:Int} (h:dJ op 1 8=true):op=1∨op=2∨op=3∨op=4∨op=5∨op=6∨op=7∨op=8:=by have:=gF.1 h;omega
theorem Td (q:j3) (hb:It q):kF q=some ((),((qp q,()),())):=by
 obtain ⟨op,acct,other,hold,trace,mti,amt,ttl,_⟩:=q;obtain ⟨b1,b2,b3,b4,b5⟩:=hb;cases hop:dJ op 1 8 with
 | false => unfold kF Bv qp;rw [kQ,hop]; rfl
 | true =>
   have k1:=vM acct (ct b1);have k2:=vM other (ct b2);have k3:=Ax hold (ct b3);have k4:=fz trace (ct b4);have k5:Bv op=some ((),((true,()),())):=by unfold Bv; rw [kQ,hop]; rfl
   have k6:FZ op=some ((),((HT op,()),())):=by unfold FZ;rw [k5];rcases pK hop with h | h | h | h | h | h | h | h <;> subst h <;> rfl
   have k7:Ff op=some ((),((au op 7,()),())):=by unfold Ff; rw [k5]; rfl
   have k8:AD op=some ((),((au op 5,()),())):=by unfold AD;rw [kQ];rcases pK hop with h | h | h | h | h | h | h | h <;> subst h <;> rfl
   have k9:=kQ amt 0 999999999999;have k10:=kQ ttl 0 9999;unfold kF qp;dsimp only;rw [k5,k6,k1,k4,k7,k8,k3,k9,k10,k2];dsimp only [Option.bind_some];rw [hop];cases bY mti (HT op) <;> first | rfl | skip
   cases fk acct <;> first | rfl | skip
   cases aT trace <;> first | rfl | skip
   cases ak (ae trace) 6 <;> first | rfl | skip
   cases au op 7 <;> cases hD hold <;> cases bY hold [] <;> first | rfl | skip
   all_goals (cases au op 5 <;> cases dJ amt 0 999999999999 <;> cases ak amt 0 <;> first | rfl | skip)
   all_goals (cases ak op 1 <;> cases dJ ttl 0 9999 <;> cases ak ttl 0 <;> first | rfl | skip)
   all_goals (cases ak op 6 <;> cases fk other <;> rfl)
theorem Pm {op:Int} (hop:dJ op 1 8=true):j4 op 38=some ((),((au op 7,()),()))/\j4 op 4=some ((),((au op 5,()),()))/\j4 op 14=some ((),((ak op 1,()),()))/\j4 op 103=some ((),((ak op 6,()),())):=by unfold j4 yq;rw [jd,hop];rcases pK hop with h | h | h | h | h | h | h | h <;> subst h <;> refine ⟨?_,?_,?_,?_⟩ <;> (refine (congrArg (fun z=>Option.bind z fun y2=>some ((),(y2.2.1,()))) (uA _ _ ?_)).trans ?_) <;> first | rfl | decide
theorem OG {op:Int} (hop:dJ op 1 8=true):∃ (nm:List UInt8×List UInt8) (fs:List (Int×Unit)),yq op=some ((),((HT op,nm.1,nm.2,fs,()),()))/\bY nm.2 []=false:=by unfold yq;rw [jd,hop];rcases pK hop with h | h | h | h | h | h | h | h <;> subst h <;> exact ⟨(_,_),_,rfl,rfl⟩
theorem QH (q:j3) (hb:It q):IT q=some ((),((qp q,()),())):=by
 obtain ⟨op,acct,other,hold,trace,mti,amt,ttl,_⟩:=q;obtain ⟨b1,b2,b3,b4,b5⟩:=hb;cases hop:dJ op 1 8 with
 | false => unfold IT yq qp;rw [jd,hop]; rfl
 | true =>
   have k1:=tT acct (ct b1);have k2:=tT other (ct b2);have k3:=AS hold (ct b3);have k4:wF trace 6=some ((),((cond (aT trace) (ak (ae trace) 6) false,()),())):=by unfold wF; rw [gv trace (ct b4)]; rfl
   obtain ⟨nm,fs,k5,k6⟩:=OG hop;obtain ⟨u1,u2,u3,u4⟩:=Pm hop;have k9:=jd amt 0 999999999999;have k10:=jd ttl 0 9999;unfold IT qp;dsimp only;rw [k5,k1,k4,u1,u2,u3,u4,k3,k9,k10,k2];dsimp only [Option.bind_some];rw [hop,k6];cases bY mti (HT op) <;> first | rfl | skip
   cases fk acct <;> first | rfl | skip
   cases aT trace <;> first | rfl | skip
   cases ak (ae trace) 6 <;> first | rfl | skip
   cases au op 7 <;> cases hD hold <;> cases bY hold [] <;> cases au op 5 <;> cases dJ amt 0 999999999999 <;> cases ak amt 0 <;> cases ak op 1 <;> cases dJ ttl 0 9999 <;> cases ak ttl 0 <;> cases ak op 6 <;> cases fk other <;> cases bY other [] <;> rfl
def lH (s:List UInt8):Nat->Nat
 | 0=>0
 | n + 1=>bif ak (dm s (n:Int)) 32 then lH s n else n + 1
def rY (s:List UInt8):List UInt8:=s.take (lH s s.length)
theorem Ai (s:List UInt8):∀ n,lH s n<=n
 | 0=>Nat.le_refl _
 | n + 1=>by
   unfold lH;cases ak (dm s (n:Int)) 32 with
   | true=>exact Nat.le_succ_of_le (Ai s n)
   | false=>exact Nat.le_refl _
theorem Of (s:List UInt8) (hs:s.length<=aW):Kb s=some ((),((rY s,()),())):=by
 have hbig:aW=140737488355328:=rfl;have h:∀ n:Nat,n<=s.length->GH s (n:Int)=some (.inl (s,((lH s n:Nat):Int),())):=fun n=>by
  induction n with
  | zero=>intro _; exact aJ _ rfl
  | succ n ih =>
    intro hn;have e:yl s ((n + 1:Nat):Int)=bif ak (dm s (n:Int)) 32 then some (.inl (s,(n:Int),())) else some (.inr (.inl (s,((n + 1:Nat):Int),()))):=by unfold yl;rw [aF (show (0:Int) < ((n + 1:Nat):Int) by omega),aO (by omega) (by omega),show ((n + 1:Nat):Int) - 1=(n:Int) by omega];dsimp only [cond_true];rw [kY (xs:=s) (by omega)];cases ak (dm s (n:Int)) 32 <;> rfl
    cases hc:ak (dm s (n:Int)) 32 with
    | true => rw [hc] at e;unfold lH;rw [hc];exact aR _ e (ih (by omega))
    | false => rw [hc] at e;unfold lH;rw [hc];exact aJ _ e
 unfold Kb;refine (bn (h s.length (Nat.le_refl _))).trans ?_;show cond (dH 0 ((lH s s.length:Nat):Int) s) (some ((),((sub s 0 ((lH s s.length:Nat):Int),()),()))) none=_;rw [iQ (Ai s s.length),qf]; rfl
theorem OK (s:List UInt8) (hs:s.length<=aW):Gg s 32=some ((),((rY s,()),())):=by
 have hbig:aW=140737488355328:=rfl;have h:∀ n:Nat,n<=s.length->Hc (s.take n) 32=some (.inl (s.take (lH s n),32,())):=fun n=>by
  induction n with
  | zero=>intro _; exact aJ _ rfl
  | succ n ih =>
    intro hn;have hl:(s.take (n + 1)).length=n + 1:=by rw [List.length_take]; omega
    have hb:dm (s.take (n + 1)) (n:Int)=dm s (n:Int):=by have hx:s[n]? = some (s[n]'(by omega)):=List.getElem?_eq_getElem (by omega);rw [ew hx,ew (xs:=s.take (n + 1)) (x:=s[n]'(by omega)) (by rw [List.getElem?_take,if_pos (by omega)]; exact hx)]
    have e:zA (s.take (n + 1)) 32=bif ak (dm s (n:Int)) 32 then some (.inl (s.take n,32,())) else some (.inr (.inl (s.take (n + 1),32,()))):=by unfold zA;rw [show ae (s.take (n + 1))=((n + 1:Nat):Int) from congrArg Int.ofNat hl];dsimp only;rw [aF (show (0:Int) < ((n + 1:Nat):Int) by omega),aO (by omega) (by omega),show ((n + 1:Nat):Int) - 1=(n:Int) by omega,kY (xs:=s.take (n + 1)) (by omega),hb,iQ (xs:=s.take (n + 1)) (i:=n) (by omega),qf,List.take_take,Nat.min_eq_left (Nat.le_succ n)];cases ak (dm s (n:Int)) 32 <;> rfl
    cases hc:ak (dm s (n:Int)) 32 with
    | true => rw [hc] at e;unfold lH;rw [hc];exact aR _ e (ih (by omega))
    | false => rw [hc] at e;unfold lH;rw [hc];exact aJ _ e
 have h0:=h s.length (Nat.le_refl _);rw [List.take_length] at h0;unfold Gg;refine (bn h0).trans rfl
theorem N4 (s:List UInt8) (hs:s.length<=aW):Kk s=some ((),((rY s,()),())):=by
 unfold Kk P0;cases he:bY s [] with
 | true =>
   have:s=[]:=by simpa [bY] using he
   subst this;rfl
 | false => have e:Gg s (dm [32] 0)=_:=OK s hs;dsimp only;rw [e]; rfl
theorem I0 (s:List UInt8):(rY s).length<=s.length:=by unfold rY; rw [List.length_take]; exact Nat.min_le_right _ _
abbrev pU:=List UInt8×Unit
theorem ON (a b:List UInt8):KJ a b=some ((),((jT a b,()),())):=by unfold KJ JN;rw [dx]; rfl
theorem Pk (a b:Int):Lf a b=some ((),((au a b,()),())):=by unfold Lf L3;rw [bp]; rfl
theorem MF:FF 1=some ((),((1,()),())):=rfl
theorem Mg:FF 2=some ((),((2,()),())):=rfl
theorem KC (x:pU):A9 [x]=some ((([x],()),()),()):=by have h:nX [x] 0 1 1=some (.inl ([x],0,1,1,())):=aJ _ rfl;unfold A9;refine (bn MF).trans ?_;show Option.bind (Option.bind (Option.bind (nX [x] 0 1 1) _) _) _=_;rw [h]; rfl
def Qh (x y:pU):List pU:=bif jT y.1 x.1 then [y,x] else [x,y]
theorem JS (x y:pU):A9 [x,y]=some (((Qh x y,()),()),()):=by
 have hi:vd [x,y] 0 2 1 1=some (.inl (Qh x y,0,2,1,(bif jT y.1 x.1 then 0 else 1),())):=by
  have e:u0 [x,y] 0 2 1 1=bif jT y.1 x.1 then some (.inl ([y,x],0,2,1,0,())) else some (.inr (.inl ([x,y],0,2,1,1,()))):=by unfold u0;dsimp only;rw [ON];rfl
  unfold Qh;cases hc:jT y.1 x.1 with
  | true=>rw [hc] at e; exact aR _ e (aJ _ rfl)
  | false=>rw [hc] at e; exact aJ _ e
 have h:nX [x,y] 0 2 1=some (.inl (Qh x y,0,2,2,())):=by
  have e:vG [x,y] 0 2 1=some (.inl (Qh x y,0,2,2,())):=by unfold vG;show Option.bind (vd [x,y] 0 2 1 1) _=_;rw [hi]; rfl
  exact aR _ e (aJ _ rfl)
 unfold A9;refine (bn Mg).trans ?_;show Option.bind (Option.bind (Option.bind (nX [x,y] 0 2 1) _) _) _=_;rw [h]; rfl
theorem yN (x y:pU):Fj [x,y]=some ((),((bif bY y.1 x.1 then [x] else [x,y],()),())):=by
 have e:yT [x,y] 1=bif bY y.1 x.1 then some (.inr (.inr ([x],()))) else some (.inl ([x,y],2,())):=rfl;have h:tE [x,y] 1=some (bif bY y.1 x.1 then .inr ([x],()) else .inl ([x,y],2,())):=by
  cases hc:bY y.1 x.1 with
  | true=>rw [hc] at e; exact aJ _ e
  | false=>rw [hc] at e; exact aR _ e (aJ _ rfl)
 unfold Fj;show Option.bind (tE [x,y] 1) _=_;rw [h];cases bY y.1 x.1 <;> rfl
abbrev cP:=Int×Unit
theorem Ky (x:cP):tL [x]=some ((([x],()),()),()):=by have h:lA [x] 0 1 1=some (.inl ([x],0,1,1,())):=aJ _ rfl;unfold tL;refine (bn MF).trans ?_;show Option.bind (Option.bind (Option.bind (lA [x] 0 1 1) _) _) _=_;rw [h]; rfl
theorem Kd:tL []=some ((([],()),()),()):=by have h:lA [] 0 0 1=some (.inl ([],0,0,1,())):=aJ _ rfl;unfold tL;refine (bn (show FF 0=some ((),((0,()),())) from rfl)).trans ?_;show Option.bind (Option.bind (Option.bind (lA [] 0 0 1) _) _) _=_;rw [h]; rfl
def Qe (x y:cP):List cP:=bif au y.1 x.1 then [y,x] else [x,y]
theorem LY (x y:cP):tL [x,y]=some (((Qe x y,()),()),()):=by
 have hi:uD [x,y] 0 2 1 1=some (.inl (Qe x y,0,2,1,(bif au y.1 x.1 then 0 else 1),())):=by
  have e:vl [x,y] 0 2 1 1=bif au y.1 x.1 then some (.inl ([y,x],0,2,1,0,())) else some (.inr (.inl ([x,y],0,2,1,1,()))):=by unfold vl;dsimp only;rw [Pk];rfl
  unfold Qe;cases hc:au y.1 x.1 with
  | true=>rw [hc] at e; exact aR _ e (aJ _ rfl)
  | false=>rw [hc] at e; exact aJ _ e
 have h:lA [x,y] 0 2 1=some (.inl (Qe x y,0,2,2,())):=by
  have e:vq [x,y] 0 2 1=some (.inl (Qe x y,0,2,2,())):=by unfold vq;show Option.bind (uD [x,y] 0 2 1 1) _=_;rw [hi]; rfl
  exact aR _ e (aJ _ rfl)
 unfold tL;refine (bn Mg).trans ?_;show Option.bind (Option.bind (Option.bind (lA [x,y] 0 2 1) _) _) _=_;rw [h]; rfl
theorem DZ (x y:cP):Jq [x,y]=some ((),((bif ak y.1 x.1 then [x] else [x,y],()),())):=by
 have e:yz [x,y] 1=bif ak y.1 x.1 then some (.inr (.inr ([x],()))) else some (.inl ([x,y],2,())):=rfl;have h:uM [x,y] 1=some (bif ak y.1 x.1 then .inr ([x],()) else .inl ([x,y],2,())):=by
  cases hc:ak y.1 x.1 with
  | true=>rw [hc] at e; exact aJ _ e
  | false=>rw [hc] at e; exact aR _ e (aJ _ rfl)
 unfold Jq;show Option.bind (uM [x,y] 1) _=_;rw [h];cases ak y.1 x.1 <;> rfl
def tQ (n:Int):List pU->List cP
 | [a]=>[(aD a.1 n,())]
 | [a,b]=>bif au (aD b.1 n) (aD a.1 n) then [(aD b.1 n,()),(aD a.1 n,())] else bif ak (aD b.1 n) (aD a.1 n) then [(aD a.1 n,())] else [(aD a.1 n,()),(aD b.1 n,())]
 | _=>[]
def FC (l:List pU):Prop:=l.length<=2/\∀ x∈l,x.1.length<=1048576
theorem KG (n:Int):∀ (ids:List pU) (h:FC ids),MK n [] ids (ae ids) 0=some (.inl (n,ids.map (fun x=>(aD x.1 n,())),ids,ae ids,ae ids,())):=fun ids hb=>by
 have h:=a6 (step:=gj uq) ids (fun i (o:List cP)=>(n,o,ids,ae ids,((i:Nat):Int),())) (fun _ x o=>Sum.inl (o ++ [(aD x.1 n,())])) (fun o=> .inl (n,o,ids,ae ids,ae ids,())) (fun i o=>o.length=i) (a0:=[]) rfl (fun i x o hx ho=>by
  have hlt:=aj hx;have:=hb.1;show uq n o ids (ae ids) (i:Int)=_;unfold uq;rw [aG hx,aC hx,aX _ hx,aQ (by unfold aW; omega),AN x.1 n (ct (hb.2 x (List.mem_of_getElem? hx)))];dsimp only [cond_true,Option.bind_some];rw [Jx (by omega)]; rfl) (fun i x o o' hx ho hf=>by
  cases hf;rw [List.length_append,ho]; rfl) (fun o ho=>by
  show uq n o ids (ae ids) (ids.length:Int)=_;unfold uq;rw [aw rfl]; rfl)
 rw [bQ] at h;refine Eq.trans h ?_;have:∀ (l:List pU) (o:List cP),l.foldl (fun o x=>o ++ [(aD x.1 n,())]) o=o ++ l.map (fun x=>(aD x.1 n,())):=fun l=>by
  induction l with
  | nil=>intro o; simp
  | cons x r ih=>intro o; rw [List.foldl_cons,ih]; simp
 rw [this]; rfl
theorem NU (ids:List pU) (n:Int) (hb:FC ids):UY ids n=some ((),((tQ n ids,()),())):=by
 unfold UY;refine (bn (KG n ids hb)).trans ?_
 match ids,hb with
 | [],_ => show Option.bind (tL []) _=_;rw [Kd]; rfl
 | [a],_ => show Option.bind (tL [(aD a.1 n,())]) _=_;rw [Ky]; rfl
 | [a,b],_ =>
   show Option.bind (tL [(aD a.1 n,()),(aD b.1 n,())]) _=_;rw [LY];unfold Qe tQ;dsimp only [Option.bind_some];cases hc:au (aD b.1 n) (aD a.1 n) with
   | true => dsimp only [cond_true];rw [DZ];have hlt:aD b.1 n < aD a.1 n:=of_decide_eq_true hc;rw [show ak (aD a.1 n) (aD b.1 n)=false from beq_eq_false_iff_ne.2 (by omega)]; rfl
   | false => dsimp only [cond_false];rw [DZ]; rfl
 | _ :: _ :: _ :: _,hb=>exact absurd hb.1 (by simp)
theorem PW (ids:List pU) (n:Int) (hb:FC ids):U2 ids n=some ((),((tQ n ids,()),())):=by
 have inn:∀ (o:List cP) (x:Int) (ids:List pU) (k j:Int),xM n [] x 0 ids k j=some (.inl (n,[],x,0,ids,k,j,())):=fun o x ids k j=>aJ _ rfl
 have in1:∀ (s x:Int) (ids:List pU) (k j:Int),xM n [(s,())] x 0 ids k j=some (.inl (n,[(s,())],x,(bif au s x then 1 else 0),ids,k,j,())):=fun s x ids k j=>by
  have e:IX n [(s,())] x 0 ids k j=bif au s x then some (.inl (n,[(s,())],x,1,ids,k,j,())) else some (.inr (.inl (n,[(s,())],x,0,ids,k,j,()))):=rfl;cases hc:au s x with
  | true=>rw [hc] at e; exact aR _ e (aJ _ rfl)
  | false=>rw [hc] at e; exact aJ _ e
 unfold U2
 match ids,hb with
 | [],_ => have h:DD n [] [] 0 0=some (.inl (n,[],[],0,0,())):=aJ _ rfl;exact (bn h).trans rfl
 | [a],hb =>
   have e:sD n [] [a] 1 0=some (.inl (n,[(aD a.1 n,())],[a],1,1,())):=by unfold sD;show Option.bind (Mj a.1 n) _=_;rw [pz a.1 n (ct (hb.2 a (by simp)))];show Option.bind (xM n [] (aD a.1 n) 0 [a] 1 0) _=_;rw [inn []]; rfl
   have h:DD n [] [a] 1 0=some (.inl (n,[(aD a.1 n,())],[a],1,1,())):=aR _ e (aJ _ rfl);exact (bn h).trans rfl
 | [a,b],hb =>
   have e1:sD n [] [a,b] 2 0=some (.inl (n,[(aD a.1 n,())],[a,b],2,1,())):=by unfold sD;show Option.bind (Mj a.1 n) _=_;rw [pz a.1 n (ct (hb.2 a (by simp)))];show Option.bind (xM n [] (aD a.1 n) 0 [a,b] 2 0) _=_;rw [inn []]; rfl
   have e2:sD n [(aD a.1 n,())] [a,b] 2 1=some (.inl (n,tQ n [a,b],[a,b],2,2,())):=by
    unfold sD;show Option.bind (Mj b.1 n) _=_;rw [pz b.1 n (ct (hb.2 b (by simp)))];show Option.bind (xM n [(aD a.1 n,())] (aD b.1 n) 0 [a,b] 2 1) _=_;rw [in1,show tQ n [a,b]=bif au (aD b.1 n) (aD a.1 n) then [(aD b.1 n,()),(aD a.1 n,())] else bif ak (aD b.1 n) (aD a.1 n) then [(aD a.1 n,())] else [(aD a.1 n,()),(aD b.1 n,())] from rfl];cases hc:au (aD a.1 n) (aD b.1 n) with
    | true => have hlt:aD a.1 n < aD b.1 n:=of_decide_eq_true hc;rw [ax (show ¬ aD b.1 n < aD a.1 n by omega),show ak (aD b.1 n) (aD a.1 n)=false from beq_eq_false_iff_ne.2 (by omega)]; rfl
    | false =>
      have hge:¬ aD a.1 n < aD b.1 n:=of_decide_eq_false hc;dsimp only [Option.bind_some,cond_false,Sum.elim_inl];show cond (ak (aD a.1 n) (aD b.1 n)) _ _=_;by_cases he:aD a.1 n=aD b.1 n
      . rw [he,bp,ax (show ¬ aD b.1 n < aD b.1 n by omega)]; rfl
      . rw [show ak (aD a.1 n) (aD b.1 n)=false from beq_eq_false_iff_ne.2 he,aF (show aD b.1 n < aD a.1 n by omega)]; rfl
   have h:DD n [] [a,b] 2 0=some (.inl (n,tQ n [a,b],[a,b],2,2,())):=aR _ e1 (aR _ e2 (aJ _ rfl));exact (bn h).trans rfl
 | _ :: _ :: _ :: _,hb=>exact absurd hb.1 (by simp)
def gK:j3:=(0,[],[],[],[],[],0,0,())
def xZ (s:List UInt8):Bool:=cond (cond (bY s [48,49,48,48]) true (bY s [48,50,48,48])) true (bY s [48,50,50,48])
abbrev EH:=List UInt8×List UInt8×List UInt8×List (Int×Unit)×Unit
def cO:List EH:=[([48,49,48,48],[48,48],[97,117,116,104],[(4,()),(14,()),(38,())],()),([48,49,48,48],[48,50],[109,111,114,101],[(4,()),(38,())],()),([48,50,50,48],[48,49],[112,97,114,116],[(4,()),(38,())],()),([48,50,50,48],[48,48],[102,105,110,97,108],[(4,()),(38,())],()),([48,50,50,48],[50,48],[102,114,101,101],[(38,())],()),([48,50,48,48],[52,48],[109,111,118,101],[(38,()),(103,())],()),([48,49,48,48],[51,49],[97,115,107],[],()),([48,50,48,48],[57,48],[115,119,101,101,112],[],())]
def Bz (mti c:List UInt8) (r:EH):Bool:=cond (bY r.1 mti) (bY r.2.1 (sub c 0 2)) false
def dY (mti c:List UInt8):Int:=1 + gf (Bz mti c) 0 cO
theorem rW (mti c:List UInt8):dY mti c=0∨dY mti c=1∨dY mti c=2∨dY mti c=3∨dY mti c=4∨dY mti c=5∨dY mti c=6∨dY mti c=7∨dY mti c=8:=by unfold dY;have:=vX (Bz mti c) cO 0;simp only [show cO.length=8 from rfl] at this;omega
theorem J4 (m:cu) (c:List UInt8) (hc:2<=c.length) (nm:List UInt8×Unit) (hn:nm=(c,())):K5 cO m nm=some ((),((gf (Bz m.1 c) 0 cO,()),())):=by
 subst hn;have hcut:dH 0 2 c=true:=iQ (i:=2) hc;have h:=aE (step:=cU o8) cO (fun i (_:Unit)=>(cO,(m,(c,()),()),ae cO,((i:Nat):Int),())) (fun i x _=>bif Bz m.1 c x then Sum.inr (.inr ((i:Int),())) else .inl ()) (fun _=> .inl (cO,(m,(c,()),()),ae cO,(cO.length:Int),())) (a0:=()) (fun i x a hx=>by
  have hlt:=aj hx;have h8:cO.length=8:=rfl;show o8 cO (m,(c,()),()) (ae cO) (i:Int)=_;unfold o8 Po Bz;rw [aG hx,aC hx,aX _ hx,aQ (by unfold aW; omega)];dsimp only [cond_true];rw [hcut];cases bY x.1 m.1 <;> cases bY x.2.1 (sub c 0 2) <;> rfl) (fun a=>by
  show o8 cO (m,(c,()),()) (ae cO) (cO.length:Int)=_;unfold o8;rw [aw rfl]; rfl)
 have hf:=l6 (Y:=Sum ((List EH)×(cu×(List UInt8×Unit)×Unit)×Int×Int×Unit) (Int×Unit)) (Bz m.1 c) (fun n=> .inr (n,())) (.inl (cO,(m,(c,()),()),ae cO,(cO.length:Int),())) (fun y=>match y with | .inl _ => -1 | .inr z=>z.1) (fun _=>rfl) rfl cO 0;unfold K5;refine (bn h).trans ?_;rw [<- hf];dsimp only [Option.bind_some];cases kB _ _ 0 cO () <;> rfl
theorem Yr {i:Nat} {x:EH} (hx:cO[i]? = some x):FZ (((i + 1:Nat)):Int)=some ((),((x.1,()),()))/\P1 (((i + 1:Nat)):Int)=some ((),((x.2.1,()),())):=by
 have hlt:=aj hx;have h8:cO.length=8:=rfl;have:i=0∨i=1∨i=2∨i=3∨i=4∨i=5∨i=6∨i=7:=by omega
 rcases this with h | h | h | h | h | h | h | h <;> subst h <;> cases hx <;> exact ⟨rfl,rfl⟩
theorem Ku (mti c:List UInt8) (hc:2<=c.length):Hd mti c=some ((),((dY mti c,()),())):=by
 have hcut:dH 0 2 c=true:=iQ (i:=2) hc;have h8:cO.length=8:=rfl;have h:=aE (step:=fb uc) cO (fun i (_:Unit)=>(mti,c,((i + 1:Nat):Int),())) (fun i x _=>bif Bz mti c x then Sum.inr (.inr (((i + 1:Nat):Int),())) else .inl ()) (fun _=> .inl (mti,c,9,())) (a0:=()) (fun i x a hx=>by have hlt:=aj hx;show uc mti c ((i + 1:Nat):Int)=_;unfold uc Bz;rw [(Yr hx).1,(Yr hx).2,show bC ((i + 1:Nat):Int) 8=true from decide_eq_true (by omega),aQ (by unfold aW; omega)];dsimp only [cond_true,Option.bind_some];rw [hcut];cases bY x.1 mti <;> cases bY x.2.1 (sub c 0 2) <;> rfl) (fun a=>rfl);have hf:=l6 (Y:=Sum (List UInt8×List UInt8×Int×Unit) (Int×Unit)) (Bz mti c) (fun n=> .inr (1 + n,())) (.inl (mti,c,9,())) (fun y=>match y with | .inl _ => -1 | .inr z=>z.1 - 1) (fun n=>by show 1 + n - 1=n; omega) rfl cO 0;rw [show (fun (i:Nat) (x:EH) (_:Unit)=>bif Bz mti c x then (Sum.inr (Sum.inr (((i + 1:Nat):Int),())):Sum Unit (Sum (List UInt8×List UInt8×Int×Unit) (Int×Unit))) else .inl ())=fun i x _=>bif Bz mti c x then .inr (.inr (1 + (i:Int),())) else .inl () from by funext i x _;rw [show ((i + 1:Nat):Int)=1 + (i:Int) by omega]] at h;unfold Hd;have h':Ha mti c 1=_:=h;refine (bn h').trans ?_;unfold dY;rw [<- hf];dsimp only [Option.bind_some];have hneg:gf (Bz mti c) 0 cO = -1∨0<=gf (Bz mti c) 0 cO:=by
  rcases vX (Bz mti c) cO 0 with h | h
  . exact Or.inl h
  . exact Or.inr h.1
 cases hg:kB (fun (i:Nat) (x:EH) (_:Unit)=>bif Bz mti c x then (Sum.inr (Sum.inr (1 + (i:Int),())):Sum Unit (Sum (List UInt8×List UInt8×Int×Unit) (Int×Unit))) else .inl ()) (fun _=> .inl (mti,c,9,())) 0 cO () with
 | inl y=>rfl
 | inr y => show some ((),((y.1,()),()))=some ((),((1 + (y.1 - 1),()),()));rw [show 1 + (y.1 - 1)=y.1 by omega]
def fv (m:cu) (no:Int):List UInt8:=(lP m no).getD []
def fs (m:cu) (no:Int):Bool:=(lP m no).isSome
theorem kU (m:cu) (no:Int):CN (lP m no)=some ((),((fv m no,()),(fs m no,()),())):=by unfold CN fv fs;cases lP m no <;> rfl
theorem th {m:cu} {no:Int} (h:fs m no=false):fv m no=[]:=by
 unfold fs at h; unfold fv;cases hf:lP m no with
 | none=>rfl
 | some s=>rw [hf] at h; cases h
theorem Ed {m:cu} {no:Int} {s:List UInt8} (h:lP m no=some s):∃ f∈m.2.1,f.1=no/\f.2.1=s:=by
 unfold lP at h;cases hf:m.2.1.find? fun f=>ak f.1 no with
 | none=>rw [hf] at h; cases h
 | some f => rw [hf] at h;refine ⟨f,List.mem_of_find?_eq_some hf,fL.1 (by have:=List.find?_some hf; exact this),?_⟩;cases h; rfl
theorem ln {m:cu} (hb:pF m) (no:Int):(fv m no).length<=1048576:=by
 unfold fv;cases h:lP m no with
 | none=>exact Nat.zero_le _
 | some s => obtain ⟨f,h1,_,rfl⟩:=Ed h;exact hb.2.2 f h1
theorem K9 {m:cu} (h:we m=true) {no:Int} {s:List UInt8} (hf:lP m no=some s):iN no s=true:=by
 unfold we at h;obtain ⟨f,h1,h2,h3⟩:=Ed hf;obtain ⟨i,hi⟩:=List.mem_iff_getElem?.1 h1;cases hd:cond (aT m.1) (ak (ae m.1) 4) false with
 | false=>rw [hd] at h; cases h
 | true =>
   rw [hd] at h;have:=Bg (fO m.2.1) h hi;unfold fO at this;rw [h2,h3] at this;cases hk:iN no s with
   | true=>rfl
   | false=>rw [hk] at this; cases this
theorem xB {m:cu} (h:we m=true) {s:List UInt8} (hf:lP m 3=some s):2<=s.length:=by
 have:=K9 h hf;have e:iN 3 s=cond (aT s) (ak (ae s) 6) false:=rfl;rw [e] at this;cases hd:aT s with
 | false=>rw [hd] at this; cases this
 | true => rw [hd] at this;have:=fL.1 (show ak (ae s) 6=true from this);have:(s.length:Int)=6:=this;omega
def Qg (s:List UInt8):Int:=match wY s with | some n=>(n:Int) | none=>0
def Yo (s:List UInt8):Bool:=(wY s).isSome
theorem yx (s:List UInt8):LV (wY s)=some ((),((Qg s,()),(Yo s,()),())):=by unfold LV Qg Yo;cases wY s <;> rfl
def iw (m:cu) (op:Int):j3:=(op,fv m 2,cond (ak op 6) (fv m 103) [],cond (cond (dJ op 1 8) (au op 7) false) (rY (fv m 38)) [],fv m 11,m.1,cond (dJ op 1 4) (Qg (fv m 4)) 0,cond (ak op 1) (Qg (fv m 14)) 0,())
def HA (m:cu) (op:Int):Bool:=cond (cond (dJ op 1 4) (fs m 4) true) (cond (ak op 1) (fs m 14) true) false
def Fx (m:cu) (op:Int):j3×Int:=cond (HA m op) (cond (qp (iw m op)) (iw m op,0) (gK,1)) (gK,1)
def jY (m:cu):j3×Int:=cond (we m) (cond (xZ m.1) (match lP m 3 with | none=>(gK,1) | some c=>Fx m (dY m.1 c)) (gK,2)) (gK,1)
def Ih (p:j3×Int):Option (Unit×(j3×(Int×Unit)×Unit)):=some ((),(p.1,(p.2,()),()))
theorem BS {m:cu} (hb:pF m) (op:Int):It (iw m op):=by
 refine ⟨ln hb 2,?_,?_,ln hb 11,hb.1⟩
 . show (cond (ak op 6) (fv m 103) []).length<=_;cases ak op 6 with
   | true=>exact ln hb 103
   | false=>exact Nat.zero_le _
 . show (cond (cond (dJ op 1 8) (au op 7) false) (rY (fv m 38)) []).length<=_;cases cond (dJ op 1 8) (au op 7) false with
   | true=>exact Nat.le_trans (I0 _) (ln hb 38)
   | false=>exact Nat.zero_le _
theorem Yd (m:cu) (hb:pF m):Li m=Ih (jY m):=by
 unfold Li jY;rw [Qy m hb];cases hm:we m with
 | false=>rfl
 | true =>
 have hk:O5 m.1=some ((),((xZ m.1,()),())):=rfl;dsimp only [Option.bind_some,Bool.not_true,cond_false];rw [hk];cases xZ m.1 with
 | false=>rfl
 | true =>
 show Option.bind (jL m 3) _=_;rw [wz m 3 hb];cases h3:lP m 3 with
 | none=>rfl
 | some c =>
 show Option.bind (Hd m.1 c) _=_;rw [Ku m.1 c (xB hm h3)];have f2:=(wz m 2 hb).trans (kU m 2);have f11:=(wz m 11 hb).trans (kU m 11);have f38:=(wz m 38 hb).trans (kU m 38);have f4:=(wz m 4 hb).trans (kU m 4);have f14:=(wz m 14 hb).trans (kU m 14);have f103:=(wz m 103 hb).trans (kU m 103);have b38:=Of (fv m 38) (ct (ln hb 38));have n4:=(Dw (fv m 4) (ct (ln hb 4))).trans (yx _);have n14:=(Dw (fv m 14) (ct (ln hb 14))).trans (yx _);dsimp only [Option.bind_some];rw [f2,f11];dsimp only [Option.bind_some];have hop:=rW m.1 c;generalize dY m.1 c=op at hop ⊢;have hq:=Td (iw m op) (BS hb op);have hH:Ff op=some ((),((cond (dJ op 1 8) (au op 7) false,()),())):=rfl;have hA:AD op=some ((),((dJ op 1 4,()),())):=rfl;unfold Fx;generalize qp (iw m op)=z at hq ⊢;rw [hH,hA,f38,f4,f14,f103];dsimp only [Option.bind_some];rw [b38,n4,n14];dsimp only [Option.bind_some];unfold HA;unfold iw at hq ⊢;generalize cond (dJ op 1 8) (au op 7) false=c1 at hq ⊢;generalize dJ op 1 4=c2 at hq ⊢;generalize ak op 1=c3 at hq ⊢;generalize ak op 6=c4 at hq ⊢;cases c1 <;> cases c2 <;> cases c3 <;> cases c4 <;> dsimp only [cond_true,cond_false] at hq ⊢ <;> rw [hq] <;> cases fs m 4 <;> cases fs m 14 <;> cases z <;> rfl
theorem On {m:cu} {op:Int} (h:qp (iw m op)=true):fs m 2=true/\fs m 11=true/\(cond (dJ op 1 8) (au op 7) false=true->fs m 38=true)/\(ak op 6=true->fs m 103=true):=by
 unfold qp iw at h;simp only [Bool.and_eq_true] at h;obtain ⟨⟨⟨⟨⟨⟨⟨⟨h1,_⟩,h2⟩,h3⟩,_⟩,h4⟩,_⟩,_⟩,h5⟩:=h;refine ⟨?_,?_,fun hc => ?_,fun hc => ?_⟩
 . cases hf:fs m 2 with
   | true=>rfl
   | false=>rw [th hf] at h2; cases h2
 . cases hf:fs m 11 with
   | true=>rfl
   | false=>rw [th hf] at h3; cases h3
 . cases hf:fs m 38 with
   | true=>rfl
   | false => rw [hc,th hf] at h4;rw [h1] at hc;rw [show au op 7=true from hc] at h4;cases h4
 . cases hf:fs m 103 with
   | true=>rfl
   | false=>rw [hc,th hf] at h5; cases h5
def lh (op:Int):List cP:=cond (dJ op 1 8) (gt ([],[],[],[],()) cO (op - 1)).2.2.2.1 []
def FJ (m:cu) (op:Int):Bool:=fs m 2 && (fs m 11 && (lh op).all fun x=>fs m x.1)
def Xb (op:Int):Prop:=op=0∨op=1∨op=2∨op=3∨op=4∨op=5∨op=6∨op=7∨op=8
theorem Jw (m:cu) (op:Int) (hop:Xb op):Fx m op=bif FJ m op then (bif qp (iw m op) then (iw m op,0) else (gK,1)) else (gK,1):=by
 have hz:= @On m op;unfold Fx;generalize qp (iw m op)=z at hz ⊢;generalize iw m op=q at hz ⊢;cases z with
 | false=>cases FJ m op <;> cases HA m op <;> rfl
 | true =>
   obtain ⟨h1,h2,h3,h4⟩:=hz rfl;unfold FJ HA;rw [h1,h2];rcases hop with h | h | h | h | h | h | h | h | h <;> subst h
   . rfl
   . have:=h3 rfl;show (bif cond (fs m 4) (fs m 14) false then _ else _)=bif true && (true && (fs m 4 && (fs m 14 && (fs m 38 && true)))) then _ else _;rw [this];cases fs m 4 <;> cases fs m 14 <;> rfl
   . have:=h3 rfl;show (bif cond (fs m 4) true false then _ else _)=bif true && (true && (fs m 4 && (fs m 38 && true))) then _ else _;rw [this];cases fs m 4 <;> rfl
   . have:=h3 rfl;show (bif cond (fs m 4) true false then _ else _)=bif true && (true && (fs m 4 && (fs m 38 && true))) then _ else _;rw [this];cases fs m 4 <;> rfl
   . have:=h3 rfl;show (bif cond (fs m 4) true false then _ else _)=bif true && (true && (fs m 4 && (fs m 38 && true))) then _ else _;rw [this];cases fs m 4 <;> rfl
   . have:=h3 rfl;show _=bif true && (true && (fs m 38 && true)) then _ else _;rw [this]; rfl
   . have:=h3 rfl;have h6:=h4 rfl;show _=bif true && (true && (fs m 38 && (fs m 103 && true))) then _ else _;rw [this,h6]; rfl
   . rfl
   . rfl
def Lw (m:cu) (no:Int) (q:j3):j3 :=
 cond (ak no 2) (q.1,fv m no,q.2.2.1,q.2.2.2.1,q.2.2.2.2.1,q.2.2.2.2.2.1,q.2.2.2.2.2.2.1,q.2.2.2.2.2.2.2.1,())
  (cond (ak no 4) (q.1,q.2.1,q.2.2.1,q.2.2.2.1,q.2.2.2.2.1,q.2.2.2.2.2.1,Qg (fv m no),q.2.2.2.2.2.2.2.1,())
    (cond (ak no 11) (q.1,q.2.1,q.2.2.1,q.2.2.2.1,fv m no,q.2.2.2.2.2.1,q.2.2.2.2.2.2.1,q.2.2.2.2.2.2.2.1,())
      (cond (ak no 14) (q.1,q.2.1,q.2.2.1,q.2.2.2.1,q.2.2.2.2.1,q.2.2.2.2.2.1,q.2.2.2.2.2.2.1,Qg (fv m no),())
        (cond (ak no 38) (q.1,q.2.1,q.2.2.1,rY (fv m no),q.2.2.2.2.1,q.2.2.2.2.2.1,q.2.2.2.2.2.2.1,q.2.2.2.2.2.2.2.1,())
          (cond (ak no 103) (q.1,q.2.1,fv m no,q.2.2.2.1,q.2.2.2.2.1,q.2.2.2.2.2.1,q.2.2.2.2.2.2.1,q.2.2.2.2.2.2.2.1,()) q)))))
def Hq (m:cu):List cP->j3->Option j3
 | [],q=>some q
 | x :: r,q=>bif fs m x.1 then Hq m r (Lw m x.1 q) else none
def QA (xs:List cP) (n:Int) (m:cu):Option j3->Sum (List cP×Int×Int×cu×j3×j3×Unit) (Int×j3×Unit)
 | some q=> .inl (xs,n,n,m,gK,q,())
 | none=> .inr (1,gK,())
theorem Dm (m:cu) (ys:List cP) (n:Int):∀ (xs:List cP) (i:Nat) (q:j3),kB (fun _ x q=>bif fs m x.1 then Sum.inl (Lw m x.1 q) else .inr (.inr (1,gK,()))) (fun q=> .inl (ys,n,n,m,gK,q,())) i xs q=QA ys n m (Hq m xs q)
 | [],_,_=>rfl
 | x :: r,i,q=>by
   rw [kB,Hq];cases fs m x.1 with
   | false=>rfl
   | true=>exact Dm m ys n r (i + 1) _
theorem K2 (m:cu) (hb:pF m) (xs:List cP) (hx:xs.length<=10) (q0:j3):HO xs (ae xs) 0 m gK q0=some (QA xs (ae xs) m (Hq m xs q0)):=by
 have h:=aE (step:=Dt oO) xs (fun i (q:j3)=>(xs,ae xs,((i:Nat):Int),m,gK,q,())) (fun _ x q=>bif fs m x.1 then Sum.inl (Lw m x.1 q) else .inr (.inr (1,gK,()))) (fun q=> .inl (xs,ae xs,ae xs,m,gK,q,())) (a0:=q0) (fun i x q hx=>by
  have hlt:=aj hx;show oO xs (ae xs) (i:Int) m gK q=_;unfold oO;rw [aG hx,aC hx,aX _ hx,aQ (by unfold aW; omega)];dsimp only [cond_true];rw [M6 m x.1 hb,kU];dsimp only [Option.bind_some];rw [(MP (fv m x.1) (ct (ln hb x.1))).trans (yx _),N4 (fv m x.1) (ct (ln hb x.1))];unfold Lw;cases fs m x.1 with
  | false=>rfl
  | true=>cases ak x.1 2 <;> cases ak x.1 4 <;> cases ak x.1 11 <;> cases ak x.1 14 <;> cases ak x.1 38 <;> cases ak x.1 103 <;> rfl) (fun q=>by
  show oO xs (ae xs) (xs.length:Int) m gK q=_;unfold oO;rw [aw rfl]; rfl)
 rw [Dm] at h;exact h
theorem KE (m:cu) (op:Int) (hop:Xb op):Hq m ((2,()) :: (11,()) :: lh op) (op,[],[],[],[],m.1,0,0,())=bif FJ m op then some (iw m op) else none:=by
 unfold FJ;rcases hop with h | h | h | h | h | h | h | h | h <;> subst h
 . show (bif fs m 2 then (bif fs m 11 then some (iw m 0) else none) else none)=bif fs m 2 && (fs m 11 && true) then _ else _;cases fs m 2 <;> cases fs m 11 <;> rfl
 . show (bif fs m 2 then (bif fs m 11 then (bif fs m 4 then (bif fs m 14 then (bif fs m 38 then some (iw m 1) else none) else none) else none) else none) else none)=bif fs m 2 && (fs m 11 && (fs m 4 && (fs m 14 && (fs m 38 && true)))) then _ else _;cases fs m 2 <;> cases fs m 11 <;> cases fs m 4 <;> cases fs m 14 <;> cases fs m 38 <;> rfl
 . show (bif fs m 2 then (bif fs m 11 then (bif fs m 4 then (bif fs m 38 then some (iw m 2) else none) else none) else none) else none)=bif fs m 2 && (fs m 11 && (fs m 4 && (fs m 38 && true))) then _ else _;cases fs m 2 <;> cases fs m 11 <;> cases fs m 4 <;> cases fs m 38 <;> rfl
 . show (bif fs m 2 then (bif fs m 11 then (bif fs m 4 then (bif fs m 38 then some (iw m 3) else none) else none) else none) else none)=bif fs m 2 && (fs m 11 && (fs m 4 && (fs m 38 && true))) then _ else _;cases fs m 2 <;> cases fs m 11 <;> cases fs m 4 <;> cases fs m 38 <;> rfl
 . show (bif fs m 2 then (bif fs m 11 then (bif fs m 4 then (bif fs m 38 then some (iw m 4) else none) else none) else none) else none)=bif fs m 2 && (fs m 11 && (fs m 4 && (fs m 38 && true))) then _ else _;cases fs m 2 <;> cases fs m 11 <;> cases fs m 4 <;> cases fs m 38 <;> rfl
 . show (bif fs m 2 then (bif fs m 11 then (bif fs m 38 then some (iw m 5) else none) else none) else none)=bif fs m 2 && (fs m 11 && (fs m 38 && true)) then _ else _;cases fs m 2 <;> cases fs m 11 <;> cases fs m 38 <;> rfl
 . show (bif fs m 2 then (bif fs m 11 then (bif fs m 38 then (bif fs m 103 then some (iw m 6) else none) else none) else none) else none)=bif fs m 2 && (fs m 11 && (fs m 38 && (fs m 103 && true))) then _ else _;cases fs m 2 <;> cases fs m 11 <;> cases fs m 38 <;> cases fs m 103 <;> rfl
 . show (bif fs m 2 then (bif fs m 11 then some (iw m 7) else none) else none)=bif fs m 2 && (fs m 11 && true) then _ else _;cases fs m 2 <;> cases fs m 11 <;> rfl
 . show (bif fs m 2 then (bif fs m 11 then some (iw m 8) else none) else none)=bif fs m 2 && (fs m 11 && true) then _ else _;cases fs m 2 <;> cases fs m 11 <;> rfl
theorem ID (op:Int) (hop:Xb op):∃ a b c,yq op=some ((),((a,b,c,lh op,()),()))/\(lh op).length<=3:=by rcases hop with h | h | h | h | h | h | h | h | h <;> subst h <;> exact ⟨_,_,_,rfl,by decide⟩
theorem X8 (m:cu) (hb:pF m):J7 m=Ih (jY m):=by
 unfold J7 jY;rw [Sy m hb];cases hm:we m with
 | false=>rfl
 | true =>
 have hk:N3 m.1=some ((),((xZ m.1,()),())):=rfl;dsimp only [Option.bind_some,Bool.not_true,cond_false];rw [hk];cases xZ m.1 with
 | false=>rfl
 | true =>
 show Option.bind (E5 m 3) _=_;rw [M6 m 3 hb];cases h3:lP m 3 with
 | none=>rfl
 | some c =>
 have hr:K0=some ((),((cO,()),())):=rfl;unfold CN;dsimp only [Option.bind_some,Bool.not_true,cond_false];rw [hr];dsimp only [Option.bind_some];refine (bn (J4 m c (xB hm h3) (c,()) rfl)).trans ?_;have hop:=rW m.1 c;have hw:aq .i64 1 (gf (Bz m.1 c) 0 cO)=dY m.1 c:=by unfold dY at hop ⊢;exact bf (by omega) (by omega)
 dsimp only [Option.bind_some];rw [hw];generalize dY m.1 c=op at hop ⊢;obtain ⟨a1,a2,a3,hf,hfl⟩:=ID op hop;rw [hf];dsimp only [Option.bind_some];have hfit:cS 8 [((2:Int),()),(11,())] (lh op)=true:=Nat.ble_eq_true_of_le (by show (2 + (lh op).length) * 8<=140737488355328; omega);rw [hfit];refine (bn (K2 m hb ((2,()) :: (11,()) :: lh op) (by simp only [List.length_cons]; omega) (op,[],[],[],[],m.1,0,0,()))).trans ?_;rw [KE m op hop];show _=Ih (Fx m op);rw [Jw m op hop];cases FJ m op with
 | false=>rfl
 | true => refine (bn (QH (iw m op) (BS hb op))).trans ?_;cases qp (iw m op) <;> rfl
def Cu (b:aS):List pU:=match j5 b with
 | (m,c)=>bif ak c 0 then (match jY m with | (q,d)=>bif ak d 0 then (bif ak q.1 6 && !(bY q.2.2.1 q.2.1) then (bif jT q.2.2.1 q.2.1 then [(q.2.2.1,()),(q.2.1,())] else [(q.2.1,()),(q.2.2.1,())]) else [(q.2.1,())]) else []) else []
theorem C9 {b:aS}:∀ {nos:aS} {a:Nat} {o l:List nB} {e:Nat},a<=b.length->(∀ f∈o,f.2.1.length<=1048576)->ki b nos a o=some (l,e)->l.length=o.length + nos.length/\∀ f∈l,f.2.1.length<=1048576
 | [],_,_,_,_,_,ho,h=>by cases h;exact ⟨rfl,ho⟩
 | x :: r,a,o,l,e,ha,ho,h=>by
   rw [ki] at h;cases hg:nh b a x.1 with
   | none=>rw [hg] at h; cases h
   | some p =>
     rw [hg] at h;obtain ⟨_,h2,h3⟩:=rE ha hg;obtain ⟨k1,k2⟩:=C9 (nos:=r) h3 (fun f hf=>by
      rcases List.mem_append.1 hf with h | h
      . exact ho f h
      . rcases List.mem_singleton.1 h with rfl
        exact Nat.le_trans h2 (by omega)) h
     refine ⟨?_,k2⟩;rw [k1,List.length_append];simp only [List.length_cons,List.length_nil];omega
theorem uo (b:aS):pF (j5 b).1:=by
 have h0:pF ([],[],()):=⟨Nat.zero_le _,Nat.zero_le _,fun f hf=>by cases hf⟩;unfold j5;cases hc:iM b 0 4 with
 | none=>exact h0
 | some mti =>
   cases hn:zQ b with
   | none=>exact h0
   | some p =>
     obtain ⟨nos,a⟩:=p;obtain ⟨n1,n2⟩:=Ag hn;dsimp only;cases hf:ki b nos a [] with
     | none=>exact h0
     | some q =>
       obtain ⟨l,e⟩:=q;obtain ⟨k1,k2⟩:=C9 n2 (fun f hf=>by cases hf) hf;dsimp only;split
       . refine ⟨?_,?_,k2⟩
         . show mti.length<=_;rw [(dR hc).2.1]; omega
         . show l.length<=_;rw [k1]; simp only [List.length_nil]; exact Nat.le_trans (Nat.le_of_eq (Nat.zero_add _)) (Nat.le_trans n1 (by omega))
       . exact h0
theorem JW {m:cu} (hb:pF m):It (jY m).1:=by
 have h0:It gK:=⟨Nat.zero_le _,Nat.zero_le _,Nat.zero_le _,Nat.zero_le _,Nat.zero_le _⟩;unfold jY Fx;cases we m with
 | false=>exact h0
 | true =>
 cases xZ m.1 with
 | false=>exact h0
 | true =>
 cases lP m 3 with
 | none=>exact h0
 | some c =>
 dsimp only [cond_true];cases HA m (dY m.1 c) with
 | false=>exact h0
 | true =>
   dsimp only [cond_true];cases qp (iw m (dY m.1 c)) with
   | false=>exact h0
   | true=>exact BS hb _
theorem Mc (b:aS):FC (Cu b):=by
 have h1:=JW (uo b);have h0:FC []:=⟨Nat.zero_le _,fun x hx=>by cases hx⟩;unfold Cu;generalize j5 b=p at h1 ⊢;obtain ⟨m,c⟩:=p;dsimp only at h1 ⊢;cases ak c 0 with
 | false=>exact h0
 | true =>
 generalize jY m=r at h1 ⊢;obtain ⟨q,d⟩:=r;dsimp only [cond_true] at h1 ⊢;have two:∀ x y:List UInt8,x.length<=1048576->y.length<=1048576->FC [(x,()),(y,())]:=fun x y hx hy=>⟨Nat.le_refl _,fun z hz=>by
  rcases List.mem_cons.1 hz with rfl | hz
  . exact hx
  . rcases List.mem_singleton.1 hz with rfl
    exact hy⟩
 cases ak d 0 with
 | false=>exact h0
 | true =>
   dsimp only [cond_true];cases ak q.1 6 && !(bY q.2.2.1 q.2.1) with
   | false=>exact ⟨Nat.le_succ 1,fun z hz=>by rcases List.mem_singleton.1 hz with rfl; exact h1.1⟩
   | true =>
     dsimp only [cond_true];cases jT q.2.2.1 q.2.1 with
     | true=>exact two _ _ h1.2.1 h1.1
     | false=>exact two _ _ h1.1 h1.2.1
theorem Uf (b:aS) (hb:xX b):Uv b=some ((),((Cu b,()),())):=by
 unfold Uv Cu;rw [QG b hb];have hm:=uo b;unfold Ek;generalize j5 b=p at hm ⊢;obtain ⟨m,c⟩:=p;dsimp only [Option.bind_some] at hm ⊢;cases ak c 0 with
 | false=>rfl
 | true =>
   dsimp only [Bool.not_true,cond_false,cond_true];rw [Yd m hm];unfold Ih;generalize jY m=r;obtain ⟨q,d⟩:=r;dsimp only [Option.bind_some];cases ak d 0 with
   | false=>rfl
   | true => dsimp only [Bool.not_true,cond_false,cond_true];cases ak q.1 6 <;> cases bY q.2.2.1 q.2.1 <;> cases jT q.2.2.1 q.2.1 <;> rfl
theorem C3 {a b:List UInt8}:bY a b=true↔a=b:=by simp [bY]
theorem SG (b:aS) (hb:xX b):UW b=some ((),((Cu b,()),())):=by
 unfold UW Cu;rw [RR b hb];have hm:=uo b;unfold Ek;generalize j5 b=p at hm ⊢;obtain ⟨m,c⟩:=p;dsimp only [Option.bind_some] at hm ⊢;rw [X8 m hm];unfold Ih;generalize jY m=r;obtain ⟨q,d⟩:=r;dsimp only [Option.bind_some];cases ak c 0 with
 | false=>rfl
 | true =>
 cases ak d 0 with
 | false=>rfl
 | true =>
 dsimp only [Bool.not_true,cond_false,cond_true];cases ak q.1 6 with
 | false => dsimp only [cond_false,Bool.false_and];rw [KC]; rfl
 | true =>
   show Option.bind (A9 [(q.2.1,()),(q.2.2.1,())]) _=_;rw [JS];unfold Qh;dsimp only [Option.bind_some,Bool.true_and];cases he:bY q.2.2.1 q.2.1 with
   | true => have e:=C3.1 he;rw [e,yB];dsimp only [cond_false];rw [yN,dx]; rfl
   | false =>
     cases hc:jT q.2.2.1 q.2.1 with
     | true =>
       dsimp only [cond_true];rw [yN];have:bY q.2.1 q.2.2.1=false:=by
        cases h:bY q.2.1 q.2.2.1 with
        | false=>rfl
        | true=>rw [C3.1 h,dx] at he; cases he
       dsimp only;rw [this]; rfl
     | false => dsimp only [cond_false];rw [yN];dsimp only;rw [he]; rfl
def pJ (b:aS) (n:Int):List cP:=tQ n (Cu b)
abbrev dV:=aS×Int×List cP×Int×Int×Int×Int×Int×aS×Unit
def rV (t:dV):Prop:=xX t.1/\t.2.2.1.length<=1048576/\t.2.2.2.2.2.2.2.2.1.length<=1048576
def FE (a b:List cP):Bool:=cond (ak (ae a) (ae b)) (allI (fun i x=>ak x.1 (gt (0,()) b (i:Int)).1) 0 a) false
theorem Nu (a b:List cP) (hs:a.length<=1048576):Un a b=some ((),((FE a b,()),())):=by
 unfold Un FE;dsimp only;cases he:ak (ae a) (ae b) with
 | false=>rfl
 | true =>
   have hl:a.length=b.length:=by have:=fL.1 he; unfold ae at this; omega
   have h:=aE (step:=cU vR) a (fun i (_:Unit)=>(a,b,ae a,((i:Nat):Int),())) (fun i x _=>bif ak x.1 (gt (0,()) b (i:Int)).1 then Sum.inl () else .inr (.inr (false,()))) (fun _=> .inl (a,b,ae a,(a.length:Int),())) (a0:=()) (fun i x u hx=>by
    have hlt:=aj hx;show vR a b (ae a) (i:Int)=_;unfold vR;rw [aG hx,aC hx,aX _ hx,aQ (by unfold aW; omega),kY (xs:=b) (by omega)];dsimp only [cond_true];show cond (!(ak x.1 (gt (0,()) b (i:Int)).1)) _ _=_;cases ak x.1 (gt (0,()) b (i:Int)).1 <;> rfl) (fun u=>by
    show vR a b (ae a) (a.length:Int)=_;unfold vR;rw [aw rfl]; rfl)
   rw [cC] at h;refine (bn h).trans ?_;dsimp only [cond_true];cases allI _ 0 a <;> rfl
theorem Ty (a b:List cP) (hs:a.length<=1048576):WE a b=some ((),((FE a b,()),())):=Nu a b hs
theorem OE (t:dV) (n:Int) (hb:rV t):Us t n=some ((),((pJ t.1 n,()),())):=by unfold Us pJ;rw [Uf _ hb.1];dsimp only [Option.bind_some];rw [PW _ n (Mc t.1)]; rfl
theorem Ps (t:dV) (n:Int) (hb:rV t):UE t n=some ((),((pJ t.1 n,()),())):=by unfold UE pJ;rw [SG _ hb.1];dsimp only [Option.bind_some];rw [NU _ n (Mc t.1)]; rfl
def AY (t:dV):Bool:=cond (ak t.2.1 1) (cond (bC 0 t.2.2.2.1) (au t.2.2.2.1 (ae t.2.2.1)) false) (cond (ak t.2.1 2) (cond (ak t.2.2.2.1 (ae t.2.2.1)) (au 0 (ae t.2.2.1)) false) (cond (ak t.2.1 3) (dJ t.2.2.2.1 1 (ae t.2.2.1)) (ak t.2.2.2.1 0)))
def OO (t:dV):Bool:=cond (bC t.2.1 2) (cond (cond (cond (ak t.2.2.2.2.2.1 (-1)) (ak t.2.2.2.2.2.2.1 (-1)) false) (ak t.2.2.2.2.2.2.2.1 0) false) (ak (ae t.2.2.2.2.2.2.2.2.1) 0) false) (cond (cond (!dP t.2.2.2.2.2.1) true (au t.2.2.2.2.2.1 t.2.2.2.2.1)) false (cond (ak t.2.1 5) (cond (dP t.2.2.2.2.2.2.1) (bC t.2.2.2.2.2.1 t.2.2.2.2.2.2.1) false) (ak t.2.2.2.2.2.2.1 (-1))))
def rU (t:dV) (n:Int):Bool:=cond (cond (cond (!dJ n 1 5) true (au 300 (ae t.1))) true (au 200 (ae t.2.2.2.2.2.2.2.2.1))) false (cond (dP t.2.2.2.2.1) (cond (dP t.2.2.2.2.2.2.2.1) (cond (dJ t.2.1 0 5) (cond (AY t) (cond (cond (ak t.2.1 0) (au 0 (ae t.2.2.1)) false) false (cond (cond (!(ak t.2.1 0)) (FE t.2.2.1 (pJ t.1 n)) true) (OO t) false)) false) false) false) false)
theorem OJ (t:dV) (n:Int) (hb:rV t):UP t n=some ((),((rU t n,()),())):=by
 have hn:=OE t n hb;have he:=Nu t.2.2.1 (pJ t.1 n) hb.2.1;have hh:UI t=some ((),((AY t,()),())):=by unfold UI AY;dsimp only;rw [kQ];cases ak t.2.1 1 <;> cases ak t.2.1 2 <;> cases ak t.2.1 3 <;> rfl
 unfold UP;dsimp only;rw [kQ,mu,mu,kQ,hh,hn];dsimp only [Option.bind_some];rw [he,mu,mu];dsimp only [Option.bind_some];unfold rU OO;generalize AY t=c1;generalize FE t.2.2.1 (pJ t.1 n)=c2;generalize dJ n 1 5=c3;generalize dJ t.2.1 0 5=c4;generalize au 300 (ae t.1)=c5;generalize au 200 (ae t.2.2.2.2.2.2.2.2.1)=c6;generalize dP t.2.2.2.2.1=c7;generalize dP t.2.2.2.2.2.2.2.1=c8;generalize dP t.2.2.2.2.2.1=c9;generalize dP t.2.2.2.2.2.2.1=ca;generalize bC t.2.1 2=cb;generalize ak t.2.1 0=cc;generalize ak t.2.1 5=cd;generalize au 0 (ae t.2.2.1)=ce;cases c3 <;> first | rfl | skip
 cases c5 <;> first | rfl | skip
 cases c6 <;> first | rfl | skip
 cases c7 <;> first | rfl | skip
 cases c8 <;> first | rfl | skip
 cases c4 <;> first | rfl | skip
 cases c1 <;> first | rfl | skip
 cases cc <;> cases ce <;> cases c2 <;> first | rfl | skip
 all_goals (cases cb <;> first | rfl | skip)
 all_goals (cases c9 <;> first | rfl | skip)
 all_goals (cases au t.2.2.2.2.2.1 t.2.2.2.2.1 <;> cases cd <;> cases ca <;> rfl)
theorem RU {α:Type} {h:Int} {xs:List α} (hs:xs.length<=1048576):dJ h 0 (aI .i64 (ae xs) 1)=cond (bC 0 h) (au h (ae xs)) false:=by
 unfold ae;rw [aO (by omega) (by omega)];unfold dJ;have:bC h ((xs.length:Int) - 1)=au h (xs.length:Int):=by unfold bC au;exact decide_eq_decide.2 (by omega)
 rw [this]
theorem z8 {pc:Int} (h:dJ pc 0 5=true):pc=0∨pc=1∨pc=2∨pc=3∨pc=4∨pc=5:=by have:=gF.1 h;omega
theorem Ov (t:dV) (n:Int) (hb:rV t):QE t n=some ((),((rU t n,()),())):=by
 obtain ⟨d,pc,st,held,inv,lin,res,at',rep,u⟩:=t;have hn:=Ps (d,pc,st,held,inv,lin,res,at',rep,u) n hb;have he:=Ty st (pJ d n) hb.2.1;have hl:= @RU _ held st hb.2.1;cases hpc:dJ pc 0 5 with
 | false =>
   have hp:Uk pc=some ((),(([],()),())):=by unfold Uk;rw [jd,hpc]; rfl
   unfold QE rU;dsimp only;rw [jd,hp];dsimp only [Option.bind_some];rw [hpc];cases dJ n 1 5 <;> first | rfl | skip
   cases au 300 (ae d) <;> cases au 200 (ae rep) <;> cases dP inv <;> cases dP at' <;> rfl
 | true =>
   have hp:∃ nm,Uk pc=some ((),((nm,()),()))/\bY nm []=false:=by rcases z8 hpc with h | h | h | h | h | h <;> subst h <;> exact ⟨_,rfl,rfl⟩
   obtain ⟨nm,hp,hne⟩:=hp;unfold QE rU AY OO;dsimp only;rw [jd,hp];dsimp only [Option.bind_some];rw [hne,mg,mg,mg,mg,jd,jd,hn,hl,hpc];dsimp only [Option.bind_some];rw [he];dsimp only [Option.bind_some];generalize FE st (pJ d n)=c2;generalize dJ n 1 5=c3;generalize au 300 (ae d)=c5;generalize au 200 (ae rep)=c6;generalize dP inv=c7;generalize dP at'=c8;generalize dP lin=c9;generalize dP res=ca;generalize dJ held 1 (ae st)=cg;generalize au 0 (ae st)=ce;generalize ak held (ae st)=ch;generalize bC 0 held=ci;generalize au held (ae st)=cj;generalize ak held 0=ck;cases c3 <;> first | rfl | skip
   cases c5 <;> first | rfl | skip
   cases c6 <;> first | rfl | skip
   cases c7 <;> first | rfl | skip
   cases c8 <;> first | rfl | skip
   clear hp hn he hl;rcases z8 hpc with h | h | h | h | h | h <;> subst h
   . simp only [show ak (0:Int) 0=true from rfl,show ak (0:Int) 1=false from rfl,show ak (0:Int) 2=false from rfl,show ak (0:Int) 3=false from rfl,show au (0:Int) 3=true from rfl,show bC (0:Int) 2=true from rfl,cond_true,cond_false,Bool.not_true,Bool.not_false];cases ce <;> cases ck <;> rfl
   . simp only [show ak (1:Int) 0=false from rfl,show ak (1:Int) 1=true from rfl,show au (1:Int) 3=true from rfl,show bC (1:Int) 2=true from rfl,cond_true,cond_false,Bool.not_true,Bool.not_false];cases c2 <;> cases ci <;> cases cj <;> rfl
   . simp only [show ak (2:Int) 0=false from rfl,show ak (2:Int) 1=false from rfl,show ak (2:Int) 2=true from rfl,show au (2:Int) 3=true from rfl,show bC (2:Int) 2=true from rfl,cond_true,cond_false,Bool.not_true,Bool.not_false];cases c2 <;> cases ch <;> cases ce <;> rfl
   . simp only [show ak (3:Int) 0=false from rfl,show ak (3:Int) 1=false from rfl,show ak (3:Int) 2=false from rfl,show ak (3:Int) 3=true from rfl,show ak (3:Int) 5=false from rfl,show au (3:Int) 3=false from rfl,show bC (3:Int) 2=false from rfl,cond_true,cond_false,Bool.not_true,Bool.not_false];cases c2 <;> cases cg <;> cases c9 <;> cases au lin inv <;> rfl
   . simp only [show ak (4:Int) 0=false from rfl,show ak (4:Int) 1=false from rfl,show ak (4:Int) 2=false from rfl,show ak (4:Int) 3=false from rfl,show ak (4:Int) 5=false from rfl,show au (4:Int) 3=false from rfl,show bC (4:Int) 2=false from rfl,cond_true,cond_false,Bool.not_true,Bool.not_false];cases c2 <;> cases ck <;> cases c9 <;> cases au lin inv <;> rfl
   . simp only [show ak (5:Int) 0=false from rfl,show ak (5:Int) 1=false from rfl,show ak (5:Int) 2=false from rfl,show ak (5:Int) 3=false from rfl,show ak (5:Int) 5=true from rfl,show au (5:Int) 3=false from rfl,show bC (5:Int) 2=false from rfl,cond_true,cond_false,Bool.not_true,Bool.not_false];cases c2 <;> cases ck <;> cases c9 <;> cases au lin inv <;> cases ca <;> rfl
theorem Aw {α:Type} (p:α->Bool):∀ (xs:List α) (i:Nat),bC 0 (gf p i xs)=xs.any p
 | [],_=>rfl
 | x :: r,i=>by
   rw [gf,List.any_cons];cases p x with
   | true=>exact decide_eq_true (by show (0:Int)<=(i:Int); omega)
   | false=>exact Aw p r (i + 1)
theorem Bt (a b:Int):ak a b=ak b a:=by unfold ak;exact Bool.beq_comm
def FA (v:Int) (xs:List cP):Bool:=xs.any fun y=>ak v y.1
theorem zn {α Y:Type} (p:α->Bool) (y:Y) (z:Y):∀ (xs:List α) (i:Nat),kB (fun _ x (_:Unit)=>bif p x then Sum.inr y else .inl ()) (fun _=>z) i xs ()=bif xs.any p then y else z
 | [],_=>rfl
 | x :: r,i=>by
   rw [kB,List.any_cons];cases p x with
   | true=>rfl
   | false=>exact zn p y z r (i + 1)
theorem M5 (xs:List cP) (v:Int) (hs:xs.length<=1048576):O7 xs v=some ((),((FA v xs,()),())):=by rw [uA xs v hs,Aw]; rfl
theorem Rr (xs:List cP) (v:Int) (hs:xs.length<=1048576):Uw xs v=some ((),((FA v xs,()),())):=by
 have h:=aE (step:=cU tG) xs (fun i (_:Unit)=>(v,xs,ae xs,((i:Nat):Int),())) (fun _ x _=>bif ak v x.1 then Sum.inr (.inr (true,())) else .inl ()) (fun _=> .inl (v,xs,ae xs,(xs.length:Int),())) (a0:=()) (fun i x u hx=>by
  have hlt:=aj hx;show tG v xs (ae xs) (i:Int)=_;unfold tG;rw [aG hx,aC hx,aX _ hx,aQ (by unfold aW; omega),Bt x.1 v];cases ak v x.1 <;> rfl) (fun u=>by
  show tG v xs (ae xs) (xs.length:Int)=_;unfold tG;rw [aw rfl]; rfl)
 rw [zn] at h;unfold Uw;refine (bn h).trans ?_;unfold FA;cases xs.any fun y=>ak v y.1 <;> rfl
def qR (t:dV):Nat:=min t.2.2.2.1.toNat t.2.2.1.length
def E4 (t:dV) (k:Int):Bool:=FA k (t.2.2.1.take (qR t))
theorem Rw (t:dV) (k:Int) (hb:rV t):U1 t k=some ((),((E4 t k,()),())):=by
 have hs:=hb.2.1;have hle:qR t<=t.2.2.1.length:=Nat.min_le_right _ _;have hl:(t.2.2.1.take (qR t)).length=qR t:=by rw [List.length_take]; omega
 have h:=aE (step:=fb uH) (t.2.2.1.take (qR t)) (fun i (_:Unit)=>(k,((i:Nat):Int),t,())) (fun _ x _=>bif ak k x.1 then Sum.inr (.inr (true,())) else .inl ()) (fun _=> .inl (k,((qR t:Nat):Int),t,())) (a0:=()) (fun i x u hx=>by
  have hlt:=aj hx;rw [hl] at hlt;rw [List.getElem?_take,if_pos hlt] at hx;have h1:i < t.2.2.2.1.toNat:=Nat.lt_of_lt_of_le hlt (Nat.min_le_left _ _);show uH k (i:Int) t=_;unfold uH;rw [aF (show (i:Int) < t.2.2.2.1 by omega),aG hx,aC hx,aX _ hx,aQ (by unfold aW; omega),Bt x.1 k];cases ak k x.1 <;> rfl) (fun u=>by
  rw [hl];show uH k ((qR t:Nat):Int) t=_;unfold uH;have:cond (au ((qR t:Nat):Int) t.2.2.2.1) (au ((qR t:Nat):Int) (ae t.2.2.1)) false=false:=by
   unfold qR;rcases Nat.le_total t.2.2.2.1.toNat t.2.2.1.length with h | h
   . rw [Nat.min_eq_left h,ax (by omega)]; rfl
   . rw [Nat.min_eq_right h,aw rfl]; cases au _ _ <;> rfl
  rw [this]; rfl)
 rw [zn] at h;unfold U1;refine (bn h).trans ?_;unfold E4 FA;cases List.any _ _ <;> rfl
theorem Uc (t:dV) (k:Int) (hb:rV t):UA t k=some ((),((E4 t k,()),())):=by
 have hs:=hb.2.1;have hle:qR t<=t.2.2.1.length:=Nat.min_le_right _ _;have hu:FD 0 (Ex t.2.2.2.1 (ae t.2.2.1))=((qR t:Nat):Int):=by unfold FD Ex qR ae;split <;> split <;> omega
 unfold UA;dsimp only;rw [hu,iQ hle,qf,M5 _ k (by rw [List.length_take]; omega)]; rfl
noncomputable def sJ (l:List fX):List aN:=open Classical in if h:∃ M,kZ dn M/\eh dn (fj l) M then Classical.choose h else []
theorem Ce {l:List fX} (hB:wU l):(sJ l).length=(fj l).length/\(∀ x∈sJ l,x∈fj l)/\kZ dn (sJ l)/\eh dn (fj l) (sJ l)/\Nc l=some ((),((sJ l,()),()))/\OU l=some ((),((sJ l,()),())):=by
 obtain ⟨M,⟨m1,m2⟩,m3⟩:=Ao l hB;obtain ⟨M',p0,p1,p2,p3,p4⟩:=EN l hB;have e0:M=M':=by have h:=m3.symm.trans p3;simp only [Option.some.injEq,Prod.mk.injEq,true_and,and_true] at h;exact h
 subst e0;have hex:∃ M,kZ dn M/\eh dn (fj l) M:=⟨M,m1,m2⟩;have e:sJ l=M:=by unfold sJ;rw [dif_pos hex];exact qo ff (Classical.choose_spec hex).1 m1 ((Classical.choose_spec hex).2.symm.trans m2)
 rw [e];exact ⟨p0,p1,m1,m2,p3,p4⟩
theorem MQ {l:List fX} (hB:wU l):DK (sJ l):=by obtain ⟨h1,h2,_⟩:=Ce hB;refine ⟨by rw [h1]; exact hB.2.1,fun a ha => ?_⟩;have:=h2 a ha;unfold fj at this;obtain ⟨xs,hx,hm⟩:=List.mem_flatten.1 this;obtain ⟨s,hs,rfl⟩:=List.mem_map.1 hx;exact hB.2.2 s hs a hm
def qg (n k:Int) (xs:List aN) (i:Nat) (a:aN):Bool:=cond (ak (aD a.1 n) k) (cond (decide (0 < i)) (jT (gt d92 xs ((i:Int) - 1)).1 a.1) true) false
def Cs (n k:Int) (xs:List aN):Bool:=allI (qg n k xs) 0 xs
def jr (n:Int) (k:Nat) (s:fX):Bool:=cond (dJ s.1 (-1) 11) (Cs n (k:Int) s.2.1) false
noncomputable def CV (l:List fX):Bool:=cond (dJ (ae l) 1 5) (cond (allI (jr (ae l)) 0 l) (rL (sJ l)) false) false
theorem Uh (l t11:List fX) (k t12 t13:Int) (s:fX) (hl:l.length<=1048576) (hs:s.2.1.length<=1048576) (hb:∀ a∈s.2.1,ju a):NI l k t11 t12 t13 s.2.1 (ae s.2.1) 0 s=some (bif Cs (ae l) k s.2.1 then .inl (l,k,t11,t12,t13,s.2.1,ae s.2.1,(s.2.1.length:Int),s,()) else .inr (false,())):=by
 have h:=aE (step:=B9 uZ) s.2.1 (fun i (_:Unit)=>(l,k,t11,t12,t13,s.2.1,ae s.2.1,((i:Nat):Int),s,())) (fun i x _=>bif qg (ae l) k s.2.1 i x then Sum.inl () else .inr (.inr (false,()))) (fun _=> .inl (l,k,t11,t12,t13,s.2.1,ae s.2.1,(s.2.1.length:Int),s,())) (a0:=()) (fun i x u hx=>by
  have hlt:=aj hx;show uZ l k t11 t12 t13 s.2.1 (ae s.2.1) (i:Int) s=_;unfold uZ qg;rw [aG hx,aC hx,aX _ hx,pz x.1 (ae l) (ct (hb x (List.mem_of_getElem? hx)).1),aQ (by unfold aW; omega)];dsimp only [cond_true,Option.bind_some];cases ak (aD x.1 (ae l)) k with
  | false=>rfl
  | true =>
    by_cases h0:0 < i
    . rw [aF (show (0:Int) < i by omega),aO (by omega) (by omega),hJ hx h0,decide_eq_true h0];dsimp only [cond_true,cond_false,Bool.not_true];cases jT (gt d92 s.2.1 ((i:Int) - 1)).1 x.1 <;> rfl
    . rw [ax (show ¬ (0:Int) < i by omega),decide_eq_false h0]; rfl) (fun u=>by
  show uZ l k t11 t12 t13 s.2.1 (ae s.2.1) (s.2.1.length:Int) s=_;unfold uZ;rw [aw rfl]; rfl)
 rw [cC] at h;refine Eq.trans h ?_;unfold Cs;cases allI _ 0 s.2.1 <;> rfl
theorem S6 (l t11:List fX) (k t12 t13:Int) (s:fX) (hl:l.length<=1048576) (hs:s.2.1.length<=1048576) (hb:∀ a∈s.2.1,ju a):MJ l k t11 t12 t13 s.2.1 (ae s.2.1) 0 s=some (bif Cs (ae l) k s.2.1 then .inl (l,k,t11,t12,t13,s.2.1,ae s.2.1,(s.2.1.length:Int),s,()) else .inr (false,())):=by
 have h:=aE (step:=B9 ur) s.2.1 (fun i (_:Unit)=>(l,k,t11,t12,t13,s.2.1,ae s.2.1,((i:Nat):Int),s,())) (fun i x _=>bif qg (ae l) k s.2.1 i x then Sum.inl () else .inr (.inr (false,()))) (fun _=> .inl (l,k,t11,t12,t13,s.2.1,ae s.2.1,(s.2.1.length:Int),s,())) (a0:=()) (fun i x u hx=>by
  have hlt:=aj hx;show ur l k t11 t12 t13 s.2.1 (ae s.2.1) (i:Int) s=_;unfold ur qg;rw [aG hx,aC hx,aX _ hx,AN x.1 (ae l) (ct (hb x (List.mem_of_getElem? hx)).1),aQ (by unfold aW; omega)];dsimp only [cond_true,Option.bind_some];cases ak (aD x.1 (ae l)) k with
  | false=>rfl
  | true =>
    by_cases h0:0 < i
    . rw [aF (show (0:Int) < i by omega),aO (by omega) (by omega),hJ hx h0,decide_eq_true h0,sU];dsimp only [cond_true,cond_false,Bool.not_true];cases jT (gt d92 s.2.1 ((i:Int) - 1)).1 x.1 <;> rfl
    . rw [ax (show ¬ (0:Int) < i by omega),decide_eq_false h0]; rfl) (fun u=>by
  show ur l k t11 t12 t13 s.2.1 (ae s.2.1) (s.2.1.length:Int) s=_;unfold ur;rw [aw rfl]; rfl)
 rw [cC] at h;refine Eq.trans h ?_;unfold Cs;cases allI _ 0 s.2.1 <;> rfl
theorem H4 {l:List fX} (hB:wU l) {i:Nat} {s:fX} (h:l[i]? = some s):s.2.1.length<=1048576:=by have h1:=qS h;have h2:=yZ l (i + 1);rw [h1,List.length_append] at h2;have:=hB.2.1;omega
theorem Ss (l:List fX) (hB:wU l):UF l=some ((),((CV l,()),())):=by
 have hl:=hB.1;obtain ⟨_,_,_,_,hg,_⟩:=Ce hB;unfold UF CV;dsimp only;rw [kQ];cases dJ (ae l) 1 5 with
 | false=>rfl
 | true =>
 have h:=aE (step:=cU vi) l (fun i (_:Unit)=>(l,l,ae l,((i:Nat):Int),())) (fun i x _=>bif jr (ae l) i x then Sum.inl () else .inr (.inr (false,()))) (fun _=> .inl (l,l,ae l,(l.length:Int),())) (a0:=()) (fun i x u hx=>by
  have hlt:=aj hx;show vi l l (ae l) (i:Int)=_;unfold vi jr;rw [aG hx,aC hx,aX _ hx];dsimp only [cond_true];rw [kQ];dsimp only [Option.bind_some];cases dJ x.1 (-1) 11 with
  | false=>rfl
  | true =>
    dsimp only [Bool.not_true,cond_false,cond_true];rw [Uh l l (i:Int) (ae l) (i:Int) x hl (H4 hB hx) (hB.2.2 x (List.mem_of_getElem? hx))];cases Cs (ae l) (i:Int) x.2.1 with
    | false=>rfl
    | true =>
      dsimp only [cond_true,Option.bind_some,Sum.elim_inl];rw [aQ (by unfold aW; omega)]; rfl) (fun u=>by
  show vi l l (ae l) (l.length:Int)=_;unfold vi;rw [aw rfl]; rfl)
 rw [cC] at h;refine (bn h).trans ?_;cases allI (jr (ae l)) 0 l with
 | false=>rfl
 | true => show Option.bind (Nc l) _=_;rw [hg];show Option.bind (Qi (sJ l,())) _=_;rw [Hz _ (MQ hB)]; rfl
theorem T5 (l:List fX) (hB:wU l):UD l=some ((),((CV l,()),())):=by
 have hl:=hB.1;obtain ⟨_,_,_,_,_,hg⟩:=Ce hB;unfold UD CV;have h:=aE (step:=cU uk) l (fun i (_:Unit)=>(l,l,ae l,((i:Nat):Int),())) (fun i x _=>bif jr (ae l) i x then Sum.inl () else .inr (.inr (false,()))) (fun _=> .inl (l,l,ae l,(l.length:Int),())) (a0:=()) (fun i x u hx=>by
  have hlt:=aj hx;show uk l l (ae l) (i:Int)=_;unfold uk jr;rw [aG hx,aC hx,aX _ hx];dsimp only [cond_true];rw [jd];dsimp only [Option.bind_some];cases dJ x.1 (-1) 11 with
  | false=>rfl
  | true =>
    dsimp only [Bool.not_true,cond_false,cond_true];rw [S6 l l (i:Int) (ae l) (i:Int) x hl (H4 hB hx) (hB.2.2 x (List.mem_of_getElem? hx))];cases Cs (ae l) (i:Int) x.2.1 with
    | false=>rfl
    | true =>
      dsimp only [cond_true,Option.bind_some,Sum.elim_inl];rw [aQ (by unfold aW; omega)]; rfl) (fun u=>by
  show uk l l (ae l) (l.length:Int)=_;unfold uk;rw [aw rfl]; rfl)
 rw [cC] at h;refine (bn h).trans ?_;cases allI (jr (ae l)) 0 l with
 | false => cases dJ (ae l) 1 5 <;> rfl
 | true =>
   dsimp only [cond_true,Option.bind_some,Sum.elim_inl];rw [jd];dsimp only [Option.bind_some];cases dJ (ae l) 1 5 with
   | false=>rfl
   | true => show Option.bind (OU l) _=_;rw [hg];show Option.bind (Qn (sJ l,())) _=_;rw [Hf _ (MQ hB)]; rfl
abbrev gy:=List fX×Int×Int×List dV×Unit
def jX (w:gy):Prop:=wU w.1/\w.2.2.2.1.length<=1048576/\∀ t∈w.2.2.2.1,rV t
def nj (t:dV):List cP:=[(t.2.2.2.2.1,()),(t.2.2.2.2.2.1,()),(t.2.2.2.2.2.2.1,())]
def jJ (n:Int):List cP->List cP->Option (List cP)
 | [],o=>some o
 | x :: r,o=>bif ak x.1 (-1) then jJ n r o else bif bC n x.1 then none else bif FA x.1 o then none else jJ n r (o ++ [x])
def Bf (n:Int) (x:cP) (o:List cP) (y:Unit):Sum (List cP) Unit:=bif ak x.1 (-1) then .inl o else bif bC n x.1 then .inr y else bif FA x.1 o then .inr y else .inl (o ++ [x])
theorem tk {Y:Type} (n:Int) (y:Y) (z:List cP->Y):∀ (xs:List cP) (i:Nat) (o:List cP),kB (fun _ x o=>match Bf n x o () with | .inl o'=>Sum.inl o' | .inr _=> .inr y) z i xs o=match jJ n xs o with | some o'=>z o' | none=>y
 | [],_,_=>rfl
 | x :: r,i,o=>by
   rw [kB,jJ];unfold Bf;cases ak x.1 (-1) with
   | true=>exact tk n y z r (i + 1) o
   | false =>
     cases bC n x.1 with
     | true=>rfl
     | false =>
       cases FA x.1 o with
       | true=>rfl
       | false=>exact tk n y z r (i + 1) _
theorem qF (n:Int):∀ (xs o o':List cP),jJ n xs o=some o'->o'.length<=o.length + xs.length
 | [],o,o',h=>by cases h; exact Nat.le_refl _
 | x :: r,o,o',h=>by
   rw [jJ] at h;cases h1:ak x.1 (-1) <;> rw [h1] at h
   . cases h2:bC n x.1 <;> rw [h2] at h
     . cases h3:FA x.1 o <;> rw [h3] at h
       . have:=qF n r _ _ h;rw [List.length_append] at this;simp only [List.length_cons,List.length_nil] at this ⊢;omega
       . cases h
     . cases h
   . have:=qF n r _ _ h;simp only [List.length_cons];omega
theorem Vs (n:Int) (o:List cP) (t11:List dV) (t12 t13:Int) (xs:List cP) (hx:xs.length<=3) (ho:o.length<=1000):Ma n o t11 t12 t13 xs (ae xs) 0=some (match jJ n xs o with | some o'=> .inl (n,o',t11,t12,t13,xs,ae xs,ae xs,()) | none=> .inr (false,())):=by
 have h:=a6 (step:=xd uf) xs (fun i (o:List cP)=>(n,o,t11,t12,t13,xs,ae xs,((i:Nat):Int),())) (fun _ x o=>match Bf n x o () with | .inl o'=>Sum.inl o' | .inr _=> .inr (.inr (false,()))) (fun o=> .inl (n,o,t11,t12,t13,xs,ae xs,ae xs,())) (fun i o=>o.length<=1000 + i) (a0:=o) ho (fun i x o hx' ho'=>by
  have hlt:=aj hx';show uf n o t11 t12 t13 xs (ae xs) (i:Int)=_;unfold uf;rw [aG hx',aC hx',aX _ hx',aQ (by unfold aW; omega)];dsimp only [cond_true];rw [Rr o x.1 (by omega)];dsimp only [Option.bind_some];rw [Jx (by omega)];unfold Bf;cases ak x.1 (-1) <;> cases bC n x.1 <;> cases FA x.1 o <;> rfl) (fun i x o o' hx' ho' hf=>by
  unfold Bf at hf;cases h1:ak x.1 (-1) <;> rw [h1] at hf
  . cases h2:bC n x.1 <;> rw [h2] at hf
    . cases h3:FA x.1 o <;> rw [h3] at hf
      . cases hf;rw [List.length_append]; show o.length + 1<=_; omega
      . cases hf
    . cases hf
  . cases hf; omega) (fun o ho'=>by
  show uf n o t11 t12 t13 xs (ae xs) (xs.length:Int)=_;unfold uf;rw [aw rfl]; rfl)
 rw [tk] at h;refine Eq.trans h ?_;cases jJ n xs o <;> rfl
theorem Wo (n:Int) (o:List cP) (t36:List dV) (t37 t38:Int) (xs:List cP) (w:gy) (hn:w.2.2.1=n) (hx:xs.length<=3) (ho:o.length<=1000):Mr o t36 t37 t38 xs (ae xs) 0 w=some (match jJ n xs o with | some o'=> .inl (o',t36,t37,t38,xs,ae xs,ae xs,w,()) | none=> .inr (false,())):=by
 subst hn;have h:=a6 (step:=xd uI) xs (fun i (o:List cP)=>(o,t36,t37,t38,xs,ae xs,((i:Nat):Int),w,())) (fun _ x o=>match Bf w.2.2.1 x o () with | .inl o'=>Sum.inl o' | .inr _=> .inr (.inr (false,()))) (fun o=> .inl (o,t36,t37,t38,xs,ae xs,ae xs,w,())) (fun i o=>o.length<=1000 + i) (a0:=o) ho (fun i x o hx' ho'=>by
  have hlt:=aj hx';show uI o t36 t37 t38 xs (ae xs) (i:Int) w=_;unfold uI;rw [aG hx',aC hx',aX _ hx',aQ (by unfold aW; omega)];dsimp only [cond_true];rw [M5 o x.1 (by omega)];dsimp only [Option.bind_some];rw [Jx (by omega)];unfold Bf;cases ak x.1 (-1) <;> cases bC w.2.2.1 x.1 <;> cases FA x.1 o <;> rfl) (fun i x o o' hx' ho' hf=>by
  unfold Bf at hf;cases h1:ak x.1 (-1) <;> rw [h1] at hf
  . cases h2:bC w.2.2.1 x.1 <;> rw [h2] at hf
    . cases h3:FA x.1 o <;> rw [h3] at hf
      . cases hf;rw [List.length_append]; show o.length + 1<=_; omega
      . cases hf
    . cases hf
  . cases hf; omega) (fun o ho'=>by
  show uI o t36 t37 t38 xs (ae xs) (xs.length:Int) w=_;unfold uI;rw [aw rfl]; rfl)
 rw [tk] at h;refine Eq.trans h ?_;cases jJ w.2.2.1 xs o <;> rfl
def lK (n:Int):List dV->List cP->Option (List cP)
 | [],o=>some o
 | t :: r,o=>(jJ n (nj t) o).bind (lK n r)
def BB (L now:Int) (t:dV):Bool:=cond (rU t L) (!(au now t.2.2.2.2.2.2.2.1)) false
theorem Dc {Y:Type} (n:Int) (y:Y) (z:List cP->Y):∀ (xs:List dV) (i:Nat) (o:List cP),kB (fun _ x o=>match jJ n (nj x) o with | some o'=>Sum.inl o' | none=> .inr y) z i xs o=match lK n xs o with | some o'=>z o' | none=>y
 | [],_,_=>rfl
 | x :: r,i,o=>by
   rw [kB,lK];cases jJ n (nj x) o with
   | none=>rfl
   | some o'=>exact Dc n y z r (i + 1) o'
theorem Dl {Y:Type} (L now n:Int) (y:Y) (z:Y->Prop) (Z:List cP->Y) (hZ:∀ o,z (Z o)):∀ (xs:List dV) (i:Nat) (o:List cP),(bif xs.all (BB L now) && (lK n xs o).isSome then z (kB (fun _ x o=>bif BB L now x then (match jJ n (nj x) o with | some o'=>Sum.inl o' | none=> .inr y) else .inr y) Z i xs o) else kB (fun _ x o=>bif BB L now x then (match jJ n (nj x) o with | some o'=>Sum.inl o' | none=> .inr y) else .inr y) Z i xs o=y:Prop)
 | [],_,o=>hZ o
 | x :: r,i,o=>by
   rw [kB,lK,List.all_cons];cases BB L now x with
   | false=>rfl
   | true =>
     cases jJ n (nj x) o with
     | none=>rw [show (none:Option (List cP)).bind (lK n r)=none from rfl]; cases r.all (BB L now) <;> rfl
     | some o'=>exact Dl L now n y z Z hZ r (i + 1) o'
theorem Tb (n:Int) (ts:List dV) (ht:ts.length<=12):UN ts n=some ((),(((lK n ts []).isSome,()),())):=by
 have h:=a6 (step:=gj uy) ts (fun i (o:List cP)=>(n,o,ts,ae ts,((i:Nat):Int),())) (fun _ x o=>match jJ n (nj x) o with | some o'=>Sum.inl o' | none=> .inr (.inr (false,()))) (fun o=> .inl (n,o,ts,ae ts,(ts.length:Int),())) (fun i o=>o.length<=3 * i) (a0:=[]) (Nat.le_refl _) (fun i x o hx ho=>by
  have hlt:=aj hx;show uy n o ts (ae ts) (i:Int)=_;unfold uy;rw [aG hx,aC hx,aX _ hx];dsimp only [cond_true];refine (bn (Vs n o ts (ae ts) (i:Int) (nj x) (Nat.le_refl _) (by omega))).trans ?_;cases jJ n (nj x) o with
  | none=>rfl
  | some o' =>
    dsimp only [Option.bind_some,Sum.elim_inl];rw [aQ (by unfold aW; omega)] <;> rfl) (fun i x o o' hx ho hf=>by
  cases hs:jJ n (nj x) o with
  | none=>rw [hs] at hf; cases hf
  | some o2 =>
    rw [hs] at hf;cases hf;have:=qF n _ _ _ hs;have e:(nj x).length=3:=rfl;omega) (fun o ho=>by
  show uy n o ts (ae ts) (ts.length:Int)=_;unfold uy;rw [aw rfl]; rfl)
 rw [Dc] at h;unfold UN;refine (bn h).trans ?_;cases lK n ts [] <;> rfl
theorem zU (w:gy) (hb:jX w):NQ w.2.2.2.1 (ae w.2.2.2.1) 0 w=some (bif w.2.2.2.1.all (BB (ae w.1) w.2.1) then .inl (w.2.2.2.1,ae w.2.2.2.1,ae w.2.2.2.1,w,()) else .inr (false,())):=by
 have hl:=hb.2.1;have h:=aE (step:=cU Cp) w.2.2.2.1 (fun i (_:Unit)=>(w.2.2.2.1,ae w.2.2.2.1,((i:Nat):Int),w,())) (fun _ x _=>bif BB (ae w.1) w.2.1 x then Sum.inl () else .inr (.inr (false,()))) (fun _=> .inl (w.2.2.2.1,ae w.2.2.2.1,ae w.2.2.2.1,w,())) (a0:=()) (fun i x u hx=>by
  have hlt:=aj hx;show Cp w.2.2.2.1 (ae w.2.2.2.1) (i:Int) w=_;unfold Cp BB;rw [aG hx,aC hx,aX _ hx,aQ (by unfold aW; omega)];dsimp only [cond_true];rw [OJ x (ae w.1) (hb.2.2 x (List.mem_of_getElem? hx))];dsimp only [Option.bind_some];cases rU x (ae w.1) <;> cases au w.2.1 x.2.2.2.2.2.2.2.1 <;> rfl) (fun u=>by
  show Cp w.2.2.2.1 (ae w.2.2.2.1) (w.2.2.2.1.length:Int) w=_;unfold Cp;rw [aw rfl]; rfl)
 rw [fJ] at h;refine Eq.trans h ?_;cases w.2.2.2.1.all (BB (ae w.1) w.2.1) <;> rfl
theorem zI (w:gy) (hb:jX w) (h12:w.2.2.2.1.length<=12):∃ y,MY [] w.2.2.2.1 (ae w.2.2.2.1) 0 w=some y/\(bif w.2.2.2.1.all (BB (ae w.1) w.2.1) && (lK w.2.2.1 w.2.2.2.1 []).isSome then (∃ o,y= .inl (o,w.2.2.2.1,ae w.2.2.2.1,ae w.2.2.2.1,w,())) else y= .inr (false,()):Prop):=by
 have h:=a6 (step:=gj vr) w.2.2.2.1 (fun i (o:List cP)=>(o,w.2.2.2.1,ae w.2.2.2.1,((i:Nat):Int),w,())) (fun _ x o=>bif BB (ae w.1) w.2.1 x then (match jJ w.2.2.1 (nj x) o with | some o'=>Sum.inl o' | none=> .inr (.inr (false,()))) else .inr (.inr (false,()))) (fun o=> .inl (o,w.2.2.2.1,ae w.2.2.2.1,ae w.2.2.2.1,w,())) (fun i o=>o.length<=3 * i) (a0:=[]) (Nat.le_refl _) (fun i x o hx ho=>by
  have hlt:=aj hx;show vr o w.2.2.2.1 (ae w.2.2.2.1) (i:Int) w=_;unfold vr BB;rw [aG hx,aC hx,aX _ hx];dsimp only [cond_true];rw [Ov x (ae w.1) (hb.2.2 x (List.mem_of_getElem? hx))];dsimp only [Option.bind_some];cases rU x (ae w.1) with
  | false=>rfl
  | true =>
  cases au w.2.1 x.2.2.2.2.2.2.2.1 with
  | true=>rfl
  | false =>
    dsimp only [Bool.not_true,Bool.not_false,cond_false,cond_true];refine (bn (Wo w.2.2.1 o w.2.2.2.1 (ae w.2.2.2.1) (i:Int) (nj x) w rfl (Nat.le_refl _) (by omega))).trans ?_;cases jJ w.2.2.1 (nj x) o with
    | none=>rfl
    | some o' =>
      dsimp only [Option.bind_some,Sum.elim_inl];rw [aQ (by unfold aW; omega)] <;> rfl) (fun i x o o' hx ho hf=>by
  cases hk:BB (ae w.1) w.2.1 x with
  | false=>rw [hk] at hf; cases hf
  | true =>
    rw [hk] at hf;cases hs:jJ w.2.2.1 (nj x) o with
    | none=>rw [hs] at hf; cases hf
    | some o2 =>
      rw [hs] at hf;cases hf;have:=qF w.2.2.1 _ _ _ hs;have e:(nj x).length=3:=rfl;omega) (fun o ho=>by
  show vr o w.2.2.2.1 (ae w.2.2.2.1) (w.2.2.2.1.length:Int) w=_;unfold vr;rw [aw rfl]; rfl)
 exact ⟨_,h,Dl (Y:=Sum (List cP×List dV×Int×Int×gy×Unit) (Bool×Unit)) (ae w.1) w.2.1 w.2.2.1 (.inr (false,())) (fun y=>∃ o,y= .inl (o,w.2.2.2.1,ae w.2.2.2.1,ae w.2.2.2.1,w,())) _ (fun o=>⟨o,rfl⟩) w.2.2.2.1 0 []⟩
def gG (o k:Int) (i:Nat) (t:dV):Bool:=Ls (E4 t k) (ak o (i:Int))
def eM (ts:List dV) (k:Nat) (s:fX):Bool:=cond (bC (ae ts) s.1) false (allI (gG s.1 (k:Int)) 0 ts)
theorem Tp (w:gy) (hb:jX w) (k t62:Int) (l:List fX) (s:fX):Qw k l t62 k w.2.2.2.1 (ae w.2.2.2.1) 0 w s=some (bif allI (gG s.1 k) 0 w.2.2.2.1 then .inl (k,l,t62,k,w.2.2.2.1,ae w.2.2.2.1,ae w.2.2.2.1,w,s,()) else .inr (false,())):=by
 have hl:=hb.2.1;have h:=aE (step:=B9 CY) w.2.2.2.1 (fun i (_:Unit)=>(k,l,t62,k,w.2.2.2.1,ae w.2.2.2.1,((i:Nat):Int),w,s,())) (fun i x _=>bif gG s.1 k i x then Sum.inl () else .inr (.inr (false,()))) (fun _=> .inl (k,l,t62,k,w.2.2.2.1,ae w.2.2.2.1,ae w.2.2.2.1,w,s,())) (a0:=()) (fun i x u hx=>by
  have hlt:=aj hx;show CY k l t62 k w.2.2.2.1 (ae w.2.2.2.1) (i:Int) w s=_;unfold CY gG;rw [aG hx,aC hx,aX _ hx,aQ (by unfold aW; omega),Rw x k (hb.2.2 x (List.mem_of_getElem? hx))];dsimp only [cond_true,Option.bind_some];cases Ls (E4 x k) (ak s.1 (i:Int)) <;> rfl) (fun u=>by
  show CY k l t62 k w.2.2.2.1 (ae w.2.2.2.1) (w.2.2.2.1.length:Int) w s=_;unfold CY;rw [aw rfl]; rfl)
 rw [cC] at h;refine Eq.trans h ?_;cases allI (gG s.1 k) 0 w.2.2.2.1 <;> rfl
theorem SL (w:gy) (hb:jX w) (k t62:Int) (l:List fX) (s:fX):Md k l t62 k w.2.2.2.1 (ae w.2.2.2.1) 0 w s=some (bif allI (gG s.1 k) 0 w.2.2.2.1 then .inl (k,l,t62,k,w.2.2.2.1,ae w.2.2.2.1,ae w.2.2.2.1,w,s,()) else .inr (false,())):=by
 have hl:=hb.2.1;have h:=aE (step:=B9 uW) w.2.2.2.1 (fun i (_:Unit)=>(k,l,t62,k,w.2.2.2.1,ae w.2.2.2.1,((i:Nat):Int),w,s,())) (fun i x _=>bif gG s.1 k i x then Sum.inl () else .inr (.inr (false,()))) (fun _=> .inl (k,l,t62,k,w.2.2.2.1,ae w.2.2.2.1,ae w.2.2.2.1,w,s,())) (a0:=()) (fun i x u hx=>by
  have hlt:=aj hx;show uW k l t62 k w.2.2.2.1 (ae w.2.2.2.1) (i:Int) w s=_;unfold uW gG;rw [aG hx,aC hx,aX _ hx,aQ (by unfold aW; omega),Uc x k (hb.2.2 x (List.mem_of_getElem? hx))];dsimp only [cond_true,Option.bind_some];cases Ls (E4 x k) (ak s.1 (i:Int)) <;> rfl) (fun u=>by
  show uW k l t62 k w.2.2.2.1 (ae w.2.2.2.1) (w.2.2.2.1.length:Int) w s=_;unfold uW;rw [aw rfl]; rfl)
 rw [cC] at h;refine Eq.trans h ?_;cases allI (gG s.1 k) 0 w.2.2.2.1 <;> rfl
theorem OZ (w:gy) (hb:jX w):Rn w.1 (ae w.1) 0 w=some (bif allI (eM w.2.2.2.1) 0 w.1 then .inl (w.1,ae w.1,ae w.1,w,()) else .inr (false,())):=by
 have hl:=hb.1.1;have h:=aE (step:=cU CD) w.1 (fun i (_:Unit)=>(w.1,ae w.1,((i:Nat):Int),w,())) (fun i x _=>bif eM w.2.2.2.1 i x then Sum.inl () else .inr (.inr (false,()))) (fun _=> .inl (w.1,ae w.1,ae w.1,w,())) (a0:=()) (fun i x u hx=>by
  have hlt:=aj hx;show CD w.1 (ae w.1) (i:Int) w=_;unfold CD eM;rw [aG hx,aC hx,aX _ hx];dsimp only [cond_true];cases bC (ae w.2.2.2.1) x.1 with
  | true=>rfl
  | false =>
    dsimp only [cond_false];rw [Tp w hb (i:Int) (ae w.1) w.1 x];cases allI (gG x.1 (i:Int)) 0 w.2.2.2.1 with
    | false=>rfl
    | true =>
      dsimp only [cond_true,Option.bind_some,Sum.elim_inl];rw [aQ (by unfold aW; omega)] <;> rfl) (fun u=>by
  show CD w.1 (ae w.1) (w.1.length:Int) w=_;unfold CD;rw [aw rfl]; rfl)
 rw [cC] at h;refine Eq.trans h ?_;cases allI (eM w.2.2.2.1) 0 w.1 <;> rfl
theorem OH (w:gy) (hb:jX w):Mk w.1 (ae w.1) 0 w=some (bif allI (eM w.2.2.2.1) 0 w.1 then .inl (w.1,ae w.1,ae w.1,w,()) else .inr (false,())):=by
 have hl:=hb.1.1;have h:=aE (step:=cU uF) w.1 (fun i (_:Unit)=>(w.1,ae w.1,((i:Nat):Int),w,())) (fun i x _=>bif eM w.2.2.2.1 i x then Sum.inl () else .inr (.inr (false,()))) (fun _=> .inl (w.1,ae w.1,ae w.1,w,())) (a0:=()) (fun i x u hx=>by
  have hlt:=aj hx;show uF w.1 (ae w.1) (i:Int) w=_;unfold uF eM;rw [aG hx,aC hx,aX _ hx];dsimp only [cond_true];cases bC (ae w.2.2.2.1) x.1 with
  | true=>rfl
  | false =>
    dsimp only [cond_false];rw [SL w hb (i:Int) (ae w.1) w.1 x];cases allI (gG x.1 (i:Int)) 0 w.2.2.2.1 with
    | false=>rfl
    | true =>
      dsimp only [cond_true,Option.bind_some,Sum.elim_inl];rw [aQ (by unfold aW; omega)] <;> rfl) (fun u=>by
  show uF w.1 (ae w.1) (w.1.length:Int) w=_;unfold uF;rw [aw rfl]; rfl)
 rw [cC] at h;refine Eq.trans h ?_;cases allI (eM w.2.2.2.1) 0 w.1 <;> rfl
noncomputable def me (w:gy):Bool:=cond (CV w.1) (cond (dP w.2.1) (cond (cond (!dP w.2.2.1) true (au 12 (ae w.2.2.2.1))) false (cond (w.2.2.2.1.all (BB (ae w.1) w.2.1) && (lK w.2.2.1 w.2.2.2.1 []).isSome) (allI (eM w.2.2.2.1) 0 w.1) false)) false) false
theorem Sr (w:gy) (hb:jX w):g9 w=some ((),((me w,()),())):=by
 unfold g9 me;rw [Ss w.1 hb.1,mu,mu];dsimp only [Option.bind_some];cases CV w.1 with
 | false=>rfl
 | true =>
 cases dP w.2.1 with
 | false=>rfl
 | true =>
 cases dP w.2.2.1 with
 | false=>rfl
 | true =>
 cases h12:au 12 (ae w.2.2.2.1) with
 | true=>rfl
 | false =>
 have hl:w.2.2.2.1.length<=12:=by have:=of_decide_eq_false h12;unfold ae at this;omega
 dsimp only [Bool.not_true,cond_false,cond_true];rw [Tb w.2.2.1 w.2.2.2.1 hl];dsimp only [Option.bind_some];cases (lK w.2.2.1 w.2.2.2.1 []).isSome with
 | false=>rw [Bool.and_false]; rfl
 | true =>
 show Option.bind (NQ w.2.2.2.1 (ae w.2.2.2.1) 0 w) _=_;rw [zU w hb,Bool.and_true];cases w.2.2.2.1.all (BB (ae w.1) w.2.1) with
 | false=>rfl
 | true =>
 dsimp only [cond_true,Option.bind_some,Sum.elim_inl];rw [OZ w hb];cases allI (eM w.2.2.2.1) 0 w.1 <;> rfl
theorem S4 (w:gy) (hb:jX w):g11 w=some ((),((me w,()),())):=by
 unfold g11 me;rw [T5 w.1 hb.1,mg,mg];dsimp only [Option.bind_some];cases CV w.1 with
 | false=>rfl
 | true =>
 cases dP w.2.1 with
 | false=>rfl
 | true =>
 cases dP w.2.2.1 with
 | false=>rfl
 | true =>
 cases h12:au 12 (ae w.2.2.2.1) with
 | true=>rfl
 | false =>
 have hl:w.2.2.2.1.length<=12:=by have:=of_decide_eq_false h12;unfold ae at this;omega
 dsimp only [Bool.not_true,cond_false,cond_true];obtain ⟨y,h1,h2⟩:=zI w hb hl;rw [h1];dsimp only [Option.bind_some];cases hc:w.2.2.2.1.all (BB (ae w.1) w.2.1) && (lK w.2.2.1 w.2.2.2.1 []).isSome with
 | false => rw [hc] at h2;have h2:y= .inr (false,()):=h2;rw [h2]; rfl
 | true => rw [hc] at h2;obtain ⟨o,rfl⟩:=h2;dsimp only [cond_true,Sum.elim_inl];rw [OH w hb];cases allI (eM w.2.2.2.1) 0 w.1 <;> rfl
end Go.Av
