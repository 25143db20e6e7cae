/- Part of a proof that the law FnExactWaitsOn answers true for every input: the printed functions of this program and their plain laws. No conditions beyond the statement. -/
import Derived.Test.YtpgkhfcgbjangaaGreatDoorQ3
set_option maxRecDepth 100000
set_option maxHeartbeats 4000000
namespace Go.Av
abbrev nJ:=Int×List UInt8×Unit
abbrev cu:=List UInt8×List nJ×Unit
def pG (m:cu):Prop:=m.1.length<=1048576/\m.2.1.length<=1048576/\∀ f∈m.2.1,f.2.1.length<=1048576
def fL (xs:List nJ) (i:Nat) (x:nJ):Bool:=cond (iH x.1 x.2.1) (cond (decide (0 < i)) (!(bz x.1 (gt (0,[],()) xs ((i:Int) - 1)).1)) true) false
def uH (m:cu):Bool:=cond (cond (aT m.1) (ak (ae m.1) 4) false) (allI (fL m.2.1) 0 m.2.1) false
theorem BO (m:cu) (hb:pG m):BY m.2.1 (ae m.2.1) 0 m=some (bif allI (fL m.2.1) 0 m.2.1 then .inl (m.2.1,ae m.2.1,(m.2.1.length:Int),m,()) else .inr (false,())):=by
 have hbig:aX=140737488355328:=rfl;obtain ⟨mti,xs,u⟩:=m;obtain ⟨_,hl,hf⟩:=hb;dsimp only at hl hf ⊢;have h:=aE (step:=cW ny) xs (fun i (_:Unit)=>(xs,ae xs,((i:Nat):Int),(mti,xs,()),())) (fun i x _=>bif fL xs i x then Sum.inl () else .inr (.inr (false,()))) (fun _=> .inl (xs,ae xs,(xs.length:Int),(mti,xs,()),())) (a0:=()) (fun i x a hx=>by
  have hlt:=aj hx;show ny xs (ae xs) (i:Int) (mti,xs,())=_;unfold ny fL;rw [aH hx,aC hx,aR _ hx];dsimp only [cond_true];rw [Tm _ _ (ct (hf x (List.mem_of_getElem? hx))),aP (by omega)];dsimp only [Option.bind_some];cases iH x.1 x.2.1 with
  | false=>rfl
  | true =>
    by_cases h0:0 < i
    . rw [aF (show (0:Int) < i by omega),aO (by omega) (by omega),il hx h0];dsimp only [cond_true,cond_false,Bool.not_true];have e:gt d178 xs ((i:Int) - 1)=gt (0,[],()) xs ((i:Int) - 1):=rfl;rw [e,decide_eq_true h0];cases bz x.1 (gt (0,[],()) xs ((i:Int) - 1)).1 <;> rfl
    . rw [ay (show ¬ (0:Int) < i by omega),decide_eq_false h0]; rfl) (fun a=>by
  show ny xs (ae xs) (xs.length:Int) (mti,xs,())=_;unfold ny;rw [ax rfl]; rfl)
 rw [cD] at h;have h':BY xs (ae xs) 0 (mti,xs,())=_:=h;rw [h']
theorem SO (m:cu) (hb:pG m):Lc m=some ((),((uH m,()),())):=by
 unfold Lc uH;rw [fI _ (ct hb.1)];dsimp only [Option.bind_some];cases aT m.1 with
 | false=>rfl
 | true =>
 cases ak (ae m.1) 4 with
 | false=>rfl
 | true => refine (bn (BO m hb)).trans ?_;show _=some ((),((allI (fL m.2.1) 0 m.2.1,()),()));cases allI (fL m.2.1) 0 m.2.1 <;> rfl
theorem BH (m:cu) (hb:pG m):Ce m.2.1 (ae m.2.1) 0 m=some (bif allI (fL m.2.1) 0 m.2.1 then .inl (m.2.1,ae m.2.1,(m.2.1.length:Int),m,()) else .inr (false,())):=by
 have hbig:aX=140737488355328:=rfl;obtain ⟨mti,xs,u⟩:=m;obtain ⟨_,hl,hf⟩:=hb;dsimp only at hl hf ⊢;have h:=aE (step:=cW oV) xs (fun i (_:Unit)=>(xs,ae xs,((i:Nat):Int),(mti,xs,()),())) (fun i x _=>bif fL xs i x then Sum.inl () else .inr (.inr (false,()))) (fun _=> .inl (xs,ae xs,(xs.length:Int),(mti,xs,()),())) (a0:=()) (fun i x a hx=>by
  have hlt:=aj hx;show oV xs (ae xs) (i:Int) (mti,xs,())=_;unfold oV fL;rw [aH hx,aC hx,aR _ hx];dsimp only [cond_true];rw [GC _ _ (ct (hf x (List.mem_of_getElem? hx))),aP (by omega)];dsimp only [Option.bind_some];cases iH x.1 x.2.1 with
  | false=>rfl
  | true =>
    by_cases h0:0 < i
    . rw [aF (show (0:Int) < i by omega),aO (by omega) (by omega),il hx h0];dsimp only [cond_true,cond_false,Bool.not_true];have e:gt d178 xs ((i:Int) - 1)=gt (0,[],()) xs ((i:Int) - 1):=rfl;rw [e,decide_eq_true h0];cases bz x.1 (gt (0,[],()) xs ((i:Int) - 1)).1 <;> rfl
    . rw [ay (show ¬ (0:Int) < i by omega),decide_eq_false h0]; rfl) (fun a=>by
  show oV xs (ae xs) (xs.length:Int) (mti,xs,())=_;unfold oV;rw [ax rfl]; rfl)
 rw [cD] at h;have h':Ce xs (ae xs) 0 (mti,xs,())=_:=h;rw [h']
theorem E2 (s:List UInt8) (n:Int) (hs:s.length<=aX):wH s n=some ((),((cond (aT s) (ak (ae s) n) false,()),())):=by unfold wH;rw [gp s hs]; rfl
theorem Q1 (m:cu) (hb:pG m):KM m=some ((),((uH m,()),())):=by
 unfold KM uH;refine (bn (BH m hb)).trans ?_;cases allI (fL m.2.1) 0 m.2.1 with
 | true =>
   show Option.bind (wH m.1 4) _=_;rw [E2 m.1 4 (ct hb.1)];dsimp only [Option.bind_some];cases aT m.1 with
   | false=>rfl
   | true=>cases ak (ae m.1) 4 <;> rfl
 | false =>
   cases aT m.1 with
   | false=>rfl
   | true=>cases ak (ae m.1) 4 <;> rfl
def lO (m:cu) (no:Int):Option (List UInt8):=(m.2.1.find? fun f=>ak f.1 no).map (·.2.1)
def Cy (o:Option (List UInt8)):Option (Unit×((List UInt8×Unit)×(Bool×Unit)×Unit)):=some ((),match o with | some s=>((s,()),(true,()),()) | none=>(([],()),(false,()),()))
theorem vX (m:cu) (no:Int) (hb:pG m):jH m no=Cy (lO m no):=by
 have hbig:aX=140737488355328:=rfl;have hl:=hb.2.1;unfold jH;have h:=aE (step:=cW nL) m.2.1 (fun i (_:Unit)=>(no,m.2.1,ae m.2.1,((i:Nat):Int),())) (fun i x _=>bif ak x.1 no then .inr (.inr (x.2.1,true,())) else .inl ()) (fun _=> .inl (no,m.2.1,ae m.2.1,(m.2.1.length:Int),())) (a0:=()) (fun i x a hx=>by
  have hlt:=aj hx;show nL no m.2.1 (ae m.2.1) (i:Int)=_;unfold nL;rw [aH hx,aC hx,aR _ hx,aP (by omega)];dsimp only [cond_true];cases ak x.1 no <;> rfl) (fun a=>by
  show nL no m.2.1 (ae m.2.1) (m.2.1.length:Int)=_;unfold nL;rw [ax rfl]; rfl)
 rw [nd] at h;have h':HH no m.2.1 (ae m.2.1) 0=_:=h;refine (bn h').trans ?_;unfold lO Cy;cases m.2.1.find? _ <;> rfl
theorem Nb (m:cu) (no:Int) (hb:pG m):FF m no=Cy (lO m no):=by
 have hbig:aX=140737488355328:=rfl;have hl:=hb.2.1;unfold FF;have h:=aE (step:=cW ow) m.2.1 (fun i (_:Unit)=>(no,m.2.1,ae m.2.1,((i:Nat):Int),())) (fun i x _=>bif ak x.1 no then .inr (.inr (x.2.1,true,())) else .inl ()) (fun _=> .inl (no,m.2.1,ae m.2.1,(m.2.1.length:Int),())) (a0:=()) (fun i x a hx=>by
  have hlt:=aj hx;show ow no m.2.1 (ae m.2.1) (i:Int)=_;unfold ow;rw [aH hx,aC hx,aR _ hx,aP (by omega)];dsimp only [cond_true];cases ak x.1 no <;> rfl) (fun a=>by
  show ow no m.2.1 (ae m.2.1) (m.2.1.length:Int)=_;unfold ow;rw [ax rfl]; rfl)
 rw [nd] at h;have h':HF no m.2.1 (ae m.2.1) 0=_:=h;refine (bn h').trans ?_;unfold lO Cy;cases m.2.1.find? _ <;> rfl
def kD (b:aS):aS->Nat->List nJ->Option (List nJ×Nat)
 | [],a,o=>some (o,a)
 | x :: r,a,o=>match nf b a x.1 with
   | some (s,e)=>kD b r e (o ++ [(x.1,s,())])
   | none=>none
def ir (l:aS):aS:=l.map fun x=>(aq .i64 x.1 64,())
def sJ (x:Int×Unit):Bool:= !(ak (bk x.1) 0)
def eF (l:aS):aS:=l.filter fun x=> !(ak x.1 1)
def fT (l:aS):Bool:=l.any fun x=>ak x.1 1
def Al (b:aS):Option (aS×Nat) :=
 if 10<=b.length then
  (bif fT (dO (ep b 2 8)) then
    (if 18<=b.length/\dO (ep b 10 8)≠[] then (bif (eF (dO (ep b 2 8)) ++ ir (dO (ep b 10 8))).all sJ then some (eF (dO (ep b 2 8)) ++ ir (dO (ep b 10 8)),18) else none) else none)
  else (bif (eF (dO (ep b 2 8))).all sJ then some (eF (dO (ep b 2 8)),10) else none))
 else none
def jZ (b:aS):cu×Int:=match iO b 0 4 with
 | none=>(([],[],()),1)
 | some mti=>match Al b with
   | none=>(([],[],()),2)
   | some (nos,a)=>match kD b nos a [] with
     | none=>(([],[],()),3)
     | some (l,e)=>if e=b.length then ((mti,l,()),0) else (([],[],()),4)
def Fp (p:cu×Int):Option (Unit×(cu×(Int×Unit)×Unit)):=some ((),(p.1,(p.2,()),()))
theorem Tk (b:aS) (hb:xH b) (h2:2<=b.length):G2 b=some ((),match Al b with | some p=>((p.1,()),((p.2:Int),()),(true,()),()) | none=>(([],()),(0,()),(false,()),())):=by
 have hbig:aX=140737488355328:=rfl;have hl:=hb.1;unfold G2 Al;have h0:B9 b 2=_:=ID b 2 hb h2;unfold nw at h0;refine (bn h0).trans ?_;by_cases h10:10<=b.length;rotate_left
 . rw [if_neg h10,if_neg h10]; rfl
 rw [if_pos h10,if_pos h10];have k1:=kx (ep b 2 8);generalize dO (ep b 2 8)=lo at k1 ⊢;have hlow:IL b 10 [] false lo (ae lo) 0=some (.inl (b,10,eF lo,fT lo,lo,ae lo,(lo.length:Int),())):=by
  have h:=a6 (step:=GG oP) lo (fun i (o:aS×Bool)=>(b,10,o.1,o.2,lo,ae lo,((i:Nat):Int),())) (fun _ x o=>Sum.inl (bif ak x.1 1 then (o.1,true) else (o.1 ++ [x],o.2))) (fun o=> .inl (b,10,o.1,o.2,lo,ae lo,(lo.length:Int),())) (fun i o=>o.1.length<=i) (a0:=([],false)) (Nat.le_refl _) (fun i x o hx ho=>by
   have hlt:=aj hx;show oP b 10 o.1 o.2 lo (ae lo) (i:Int)=_;unfold oP;rw [aH hx,aC hx,aR _ hx,aP (by omega)];have:cR 8 o.1 [x]=true:=Nat.ble_eq_true_of_le (by show (o.1.length + 1) * 8<=aX; omega);dsimp only [cond_true];rw [this];cases ak x.1 1 <;> rfl) (fun i x o o' hx ho hf=>by
   simp only [Sum.inl.injEq] at hf;rw [<- hf];cases ak x.1 1 with
   | true=>show o.1.length<=_; omega
   | false=>show (o.1 ++ [x]).length<=_; rw [List.length_append]; show o.1.length + 1<=_; omega) (fun o ho=>by
   show oP b 10 o.1 o.2 lo (ae lo) (lo.length:Int)=_;unfold oP;rw [ax rfl]; rfl)
  have hfold:∀ (l:aS) (o:aS×Bool),l.foldl (fun o x=>bif ak x.1 1 then (o.1,true) else (o.1 ++ [x],o.2)) o=(o.1 ++ eF l,o.2 || fT l):=fun l=>by
   induction l with
   | nil=>intro o; simp [eF,fT]
   | cons x r ih => intro o;rw [List.foldl_cons,ih];unfold eF fT;rw [List.filter_cons,List.any_cons];cases ak x.1 1 <;> simp
  rw [bP,hfold] at h;exact h
 have hchk:∀ (nos:aS) (a:Int),nos.length<=1000->B5 () a nos (ae nos) 0=some (bif nos.all sJ then .inl ((),a,nos,ae nos,(nos.length:Int),()) else .inr ([],0,false,())):=fun nos a hn=>by
  have h:=aE (step:=gi oQ) nos (fun i (_:Unit)=>((),a,nos,ae nos,((i:Nat):Int),())) (fun _ x _=>bif sJ x then Sum.inl () else .inr (.inr ([],0,false,()))) (fun _=> .inl ((),a,nos,ae nos,(nos.length:Int),())) (a0:=()) (fun i x o hx=>by
   have hlt:=aj hx;show oQ () a nos (ae nos) (i:Int)=_;unfold oQ;rw [aH hx,aC hx,aR _ hx,aP (by omega),CX];dsimp only [cond_true,Option.bind_some];unfold sJ;cases ak (bk x.1) 0 <;> rfl) (fun o=>by
   show oQ () a nos (ae nos) (nos.length:Int)=_;unfold oQ;rw [ax rfl]; rfl)
  rw [fN] at h;refine Eq.trans h ?_;cases nos.all sJ <;> rfl
 have hlen:(eF lo).length<=64:=Nat.le_trans (List.length_filter_le _ _) k1;refine (bn hlow).trans ?_;show cond (fT lo) _ _=_;cases fT lo with
 | false => refine (bn (hchk (eF lo) 10 (by omega))).trans ?_;cases (eF lo).all sJ <;> rfl
 | true =>
   have h1:B9 b 10=_:=ID b 10 hb h10;unfold nw at h1;refine (bn h1).trans ?_;by_cases h18:18<=b.length;rotate_left
   . rw [if_neg h18,if_neg (fun h=>h18 h.1)]; rfl
   rw [if_pos h18];have k2:=kx (ep b 10 8);have k3:= @Jd (ep b 10 8);generalize dO (ep b 10 8)=hi at k2 k3 ⊢;by_cases hne:hi=[]
   . rw [if_neg (fun h=>h.2 hne),hne]; rfl
   rw [if_pos ⟨h18,hne⟩];have he:ak (ae hi) 0=false:=beq_eq_false_iff_ne.2 (by
    show (hi.length:Int)≠0;cases hi with
    | nil=>exact absurd rfl hne
    | cons x r=>show ((r.length + 1:Nat):Int)≠0; omega)
   have hhi:I1 (eF lo) 18 hi (ae hi) 0=some (.inl (eF lo ++ ir hi,18,hi,ae hi,(hi.length:Int),())):=by
    have h:=a6 (step:=gi nz) hi (fun i (o:aS)=>(o,18,hi,ae hi,((i:Nat):Int),())) (fun _ x o=>Sum.inl (o ++ [(aq .i64 x.1 64,())])) (fun o=> .inl (o,18,hi,ae hi,(hi.length:Int),())) (fun i o=>o.length=(eF lo).length + i) (a0:=eF lo) rfl (fun i x o hx ho=>by
     have hlt:=aj hx;show nz o 18 hi (ae hi) (i:Int)=_;unfold nz;rw [aH hx,aC hx,aR _ hx,aP (by omega)];have:cR 8 o [(aq .i64 x.1 64,())]=true:=Nat.ble_eq_true_of_le (by show (o.length + 1) * 8<=aX; omega);rw [this]; rfl) (fun i x o o' hx ho hf=>by
     simp only [Sum.inl.injEq] at hf;rw [<- hf,List.length_append,ho]; rfl) (fun o ho=>by
     show nz o 18 hi (ae hi) (hi.length:Int)=_;unfold nz;rw [ax rfl]; rfl)
    have hfold:∀ (l o:aS),l.foldl (fun o x=>o ++ [(aq .i64 x.1 64,())]) o=o ++ ir l:=fun l=>by
     induction l with
     | nil=>intro o; simp [ir]
     | cons x r ih=>intro o; rw [List.foldl_cons,ih]; simp [ir]
    rw [bP,hfold] at h;exact h
   show cond (cond (!true) true (ak (ae hi) 0)) _ _=_;rw [he];refine (bn hhi).trans ?_;have hla:(eF lo ++ ir hi).length<=1000:=by rw [List.length_append]; unfold ir; rw [List.length_map]; omega
   refine (bn (hchk (eF lo ++ ir hi) 18 hla)).trans ?_;cases (eF lo ++ ir hi).all sJ <;> rfl
theorem wB {α A Y:Type} (p:α->Bool) (f:α->A->A) (y:Y) (z:A->Y):∀ (xs:List α) (i:Nat) (a:A),kl (fun _ x a=>bif p x then .inl (f x a) else .inr y) z i xs a=bif xs.all p then z (xs.foldl (fun a x=>f x a) a) else y
 | [],_,_=>rfl
 | x :: r,i,a=>by
   rw [kl,List.all_cons,List.foldl_cons];cases hp:p x with
   | true=>simp only [cond_true,Bool.true_and]; exact wB p f y z r (i + 1) _
   | false=>rfl
def Hz (x:Int×Unit) (o:aS×Bool):aS×Bool:=bif ak x.1 1 then (o.1,true) else (o.1 ++ [x],o.2)
theorem Ed:∀ (l:aS) (o:aS×Bool),l.foldl (fun o x=>Hz x o) o=(o.1 ++ eF l,o.2 || fT l):=fun l=>by
 induction l with
 | nil=>intro o; simp [eF,fT]
 | cons x r ih => intro o;rw [List.foldl_cons,ih];unfold Hz eF fT;rw [List.filter_cons,List.any_cons];cases ak x.1 1 <;> simp
def Gj (x:Int×Unit):Bool:=ak x.1 1 || sJ x
theorem I7 (l:aS):l.all Gj=(eF l).all sJ:=by
 induction l with
 | nil=>rfl
 | cons x r ih => unfold eF at ih ⊢;rw [List.all_cons,List.filter_cons,ih];unfold Gj;cases h:ak x.1 1 <;> simp
theorem Gq {o:aS} {x:Int×Unit} (h:o.length<=1048576):cR 8 o [x]=true:=Nat.ble_eq_true_of_le (by show (o.length + 1) * 8<=140737488355328; omega)
theorem RY (b:aS) (mti:List UInt8) (at':Int) (lo:aS) (hl:lo.length<=64) (m0:cu):II b mti at' [] false lo (ae lo) 0 m0=some (bif (eF lo).all sJ then .inl (b,mti,at',eF lo,fT lo,lo,ae lo,(lo.length:Int),m0,()) else .inr (2,([],[],()),())):=by
 have h:=a6 (step:=CN oL) lo (fun i (o:aS×Bool)=>(b,mti,at',o.1,o.2,lo,ae lo,((i:Nat):Int),m0,())) (fun _ x o=>bif Gj x then Sum.inl (Hz x o) else .inr (.inr (2,([],[],()),()))) (fun o=> .inl (b,mti,at',o.1,o.2,lo,ae lo,(lo.length:Int),m0,())) (fun i o=>o.1.length<=i) (a0:=([],false)) (Nat.le_refl _) (fun i x o hx ho=>by
  have hlt:=aj hx;show oL b mti at' o.1 o.2 lo (ae lo) (i:Int) m0=_;unfold oL;rw [aH hx,aC hx,aR _ hx,aP (by unfold aX; omega)];dsimp only [cond_true];rw [yH];dsimp only [Option.bind_some];rw [Gq (by omega)];unfold Gj Hz sJ;cases ak x.1 1 <;> cases ak (bk x.1) 0 <;> rfl) (fun i x o o' hx ho hf=>by
  unfold Hz at hf;cases hk:Gj x <;> rw [hk] at hf
  . cases hf
  . cases hf;cases ak x.1 1 with
    | true=>show o.1.length<=_; omega
    | false=>show (o.1 ++ [x]).length<=_; rw [List.length_append]; show o.1.length + 1<=_; omega) (fun o ho=>by
  show oL b mti at' o.1 o.2 lo (ae lo) (lo.length:Int) m0=_;unfold oL;rw [ax rfl]; rfl)
 rw [wB,Ed,I7] at h;refine Eq.trans h ?_;cases (eF lo).all sJ <;> rfl
theorem Js (l:aS):(ir l).all sJ=l.all fun x=>sJ (aq .i64 x.1 64,()):=by unfold ir; rw [List.all_map]; rfl
theorem FP:∀ (l o:aS),l.foldl (fun o x=>o ++ [(aq .i64 x.1 64,())]) o=o ++ ir l:=fun l=>by
 induction l with
 | nil=>intro o; simp [ir]
 | cons x r ih=>intro o; rw [List.foldl_cons,ih]; simp [ir]
theorem OK (b:aS) (mti:List UInt8) (at':Int) (o0 hi:aS) (h0:o0.length<=64) (hl:hi.length<=64) (m0:cu):Jg b mti at' o0 hi (ae hi) 0 m0=some (bif (ir hi).all sJ then .inl (b,mti,at',o0 ++ ir hi,hi,ae hi,(hi.length:Int),m0,()) else .inr (2,([],[],()),())):=by
 have h:=a6 (step:=xM oe) hi (fun i (o:aS)=>(b,mti,at',o,hi,ae hi,((i:Nat):Int),m0,())) (fun _ x o=>bif sJ (aq .i64 x.1 64,()) then Sum.inl (o ++ [(aq .i64 x.1 64,())]) else .inr (.inr (2,([],[],()),()))) (fun o=> .inl (b,mti,at',o,hi,ae hi,(hi.length:Int),m0,())) (fun i o=>o.length<=64 + i) (a0:=o0) h0 (fun i x o hx ho=>by
  have hlt:=aj hx;show oe b mti at' o hi (ae hi) (i:Int) m0=_;unfold oe;rw [aH hx,aC hx,aR _ hx,aP (by unfold aX; omega)];dsimp only [cond_true];rw [yH];dsimp only [Option.bind_some];rw [Gq (by omega)];unfold sJ;cases ak (bk (aq .i64 x.1 64)) 0 <;> rfl) (fun i x o o' hx ho hf=>by
  cases hk:sJ (aq .i64 x.1 64,()) <;> rw [hk] at hf
  . cases hf
  . cases hf;rw [List.length_append]; show o.length + 1<=_; omega) (fun o ho=>by
  show oe b mti at' o hi (ae hi) (hi.length:Int) m0=_;unfold oe;rw [ax rfl]; rfl)
 rw [wB,FP,<- Js] at h;refine Eq.trans h ?_;cases (ir hi).all sJ <;> rfl
def O3 (b:aS) (mti:List UInt8) (m0:cu) (nos:aS) (n:Int):Option (List nJ×Nat)->Sum (aS×Int×aS×Int×Int×cu×cu×Unit) (Int×cu×Unit)
 | some (l,e)=> .inl (b,(e:Int),nos,n,n,m0,(mti,l,()),())
 | none=> .inr (3,([],[],()),())
theorem zk (b:aS) (mti:List UInt8) (m0:cu) (ns:aS) (n:Int):∀ (nos:aS) (i a:Nat) (o:List nJ),kl (fun _ x (q:Nat×List nJ)=>match nf b q.1 x.1 with | some (s,e)=>Sum.inl (e,q.2 ++ [(x.1,s,())]) | none=> .inr (.inr (3,([],[],()),()))) (fun q=> .inl (b,(q.1:Int),ns,n,n,m0,(mti,q.2,()),())) i nos (a,o)=O3 b mti m0 ns n (kD b nos a o)
 | [],_,_,_=>rfl
 | x :: r,i,a,o=>by
   rw [kl,kD];cases nf b a x.1 with
   | none=>rfl
   | some p=>exact zk b mti m0 ns n r (i + 1) p.2 _
theorem Mw {o:List nJ} {x:nJ} (h:o.length<=1048576):cR 24 o [x]=true:=Nat.ble_eq_true_of_le (by show (o.length + 1) * 24<=140737488355328; omega)
theorem Oh (b:aS) (hb:xH b) (a:Nat) (ha:a<=b.length) (nos:aS) (hn:nos.length<=1000) (mti:List UInt8) (m0:cu):Jw b (a:Int) nos (ae nos) 0 m0 (mti,[],())=some (O3 b mti m0 nos (ae nos) (kD b nos a [])):=by
 have h:=a6 (step:=GG nU) nos (fun i (q:Nat×List nJ)=>(b,(q.1:Int),nos,ae nos,((i:Nat):Int),m0,(mti,q.2,()),())) (fun _ x q=>match nf b q.1 x.1 with | some (s,e)=>Sum.inl (e,q.2 ++ [(x.1,s,())]) | none=> .inr (.inr (3,([],[],()),()))) (fun q=> .inl (b,(q.1:Int),nos,ae nos,(nos.length:Int),m0,(mti,q.2,()),())) (fun i q=>q.1<=b.length/\q.2.length<=i) (a0:=(a,[])) ⟨ha,Nat.le_refl _⟩ (fun i x q hx hq=>by
  have hlt:=aj hx;show nU b (q.1:Int) nos (ae nos) (i:Int) m0 (mti,q.2,())=_;unfold nU;rw [aH hx,aC hx,aR _ hx,aP (by unfold aX; omega),TN b q.1 x.1 hb hq.1];unfold lf;cases nf b q.1 x.1 with
  | none=>rfl
  | some p =>
    dsimp only [cond_true,Option.bind_some,Bool.not_true,cond_false];rw [Mw (Nat.le_trans hq.2 (by omega))]; rfl) (fun i x q q' hx hq hf=>by
  cases hg:nf b q.1 x.1 with
  | none=>rw [hg] at hf; cases hf
  | some p =>
    rw [hg] at hf;cases hf;refine ⟨(rk hq.1 hg).2.2,?_⟩;show (q.2 ++ [_]).length<=_;rw [List.length_append];exact Nat.succ_le_succ hq.2) (fun q hq=>by
  show nU b (q.1:Int) nos (ae nos) (nos.length:Int) m0 (mti,q.2,())=_;unfold nU;rw [ax rfl]; rfl)
 rw [show (fun (q:Nat×List nJ)=>(Sum.inl (b,(q.1:Int),nos,ae nos,(nos.length:Int),m0,(mti,q.2,()),()):Sum (aS×Int×aS×Int×Int×cu×cu×Unit) (Int×cu×Unit)))=fun q=> .inl (b,(q.1:Int),nos,ae nos,ae nos,m0,(mti,q.2,()),()) from rfl,zk] at h;exact h
theorem P7 (b:aS) (hb:xH b) (a:Nat) (ha:a<=b.length) (nos:aS) (hn:nos.length<=1000) (mti:List UInt8) (m0:cu):yn b (a:Int) nos (ae nos) 0 m0 (mti,[],())=some (O3 b mti m0 nos (ae nos) (kD b nos a [])):=by
 have h:=a6 (step:=GG oo) nos (fun i (q:Nat×List nJ)=>(b,(q.1:Int),nos,ae nos,((i:Nat):Int),m0,(mti,q.2,()),())) (fun _ x q=>match nf b q.1 x.1 with | some (s,e)=>Sum.inl (e,q.2 ++ [(x.1,s,())]) | none=> .inr (.inr (3,([],[],()),()))) (fun q=> .inl (b,(q.1:Int),nos,ae nos,(nos.length:Int),m0,(mti,q.2,()),())) (fun i q=>q.1<=b.length/\q.2.length<=i) (a0:=(a,[])) ⟨ha,Nat.le_refl _⟩ (fun i x q hx hq=>by
  have hlt:=aj hx;show oo b (q.1:Int) nos (ae nos) (i:Int) m0 (mti,q.2,())=_;unfold oo;rw [aH hx,aC hx,aR _ hx,aP (by unfold aX; omega),TH b q.1 x.1 hb hq.1];unfold lf;cases nf b q.1 x.1 with
  | none=>rfl
  | some p =>
    dsimp only [cond_true,Option.bind_some,Bool.not_true,cond_false];rw [Mw (Nat.le_trans hq.2 (by omega))]; rfl) (fun i x q q' hx hq hf=>by
  cases hg:nf b q.1 x.1 with
  | none=>rw [hg] at hf; cases hf
  | some p =>
    rw [hg] at hf;cases hf;refine ⟨(rk hq.1 hg).2.2,?_⟩;show (q.2 ++ [_]).length<=_;rw [List.length_append];exact Nat.succ_le_succ hq.2) (fun q hq=>by
  show oo b (q.1:Int) nos (ae nos) (nos.length:Int) m0 (mti,q.2,())=_;unfold oo;rw [ax rfl]; rfl)
 rw [show (fun (q:Nat×List nJ)=>(Sum.inl (b,(q.1:Int),nos,ae nos,(nos.length:Int),m0,(mti,q.2,()),()):Sum (aS×Int×aS×Int×Int×cu×cu×Unit) (Int×cu×Unit)))=fun q=> .inl (b,(q.1:Int),nos,ae nos,ae nos,m0,(mti,q.2,()),()) from rfl,zk] at h;exact h
theorem Bk {b:aS} {p:aS×Nat} (h:Al b=some p):p.1.length<=1000/\p.2<=b.length:=by
 have k1:=kx (ep b 2 8);have k2:=kx (ep b 10 8);have k3:(eF (dO (ep b 2 8))).length<=64:=Nat.le_trans (List.length_filter_le _ _) k1;have k4:(ir (dO (ep b 10 8))).length<=64:=by unfold ir; rw [List.length_map]; exact k2
 unfold Al at h;by_cases h10:10<=b.length;rotate_left
 . rw [if_neg h10] at h; cases h
 rw [if_pos h10] at h;cases hm:fT (dO (ep b 2 8)) <;> rw [hm] at h
 . cases hk:(eF (dO (ep b 2 8))).all sJ <;> rw [hk] at h <;> cases h;exact ⟨by show (eF (dO (ep b 2 8))).length<=_; omega,h10⟩
 . by_cases h18:18<=b.length/\dO (ep b 10 8)≠[]
   . rw [cond_true,if_pos h18] at h;cases hk:(eF (dO (ep b 2 8)) ++ ir (dO (ep b 10 8))).all sJ <;> rw [hk] at h <;> cases h;refine ⟨?_,h18.1⟩;show (eF (dO (ep b 2 8)) ++ ir (dO (ep b 10 8))).length<=_;rw [List.length_append]; omega
   . rw [cond_true,if_neg h18] at h; cases h
theorem RD (b:aS) (hb:xH b):KY b=Fp (jZ b):=by
 unfold KY jZ Fp;have h0:ud b 0 4=wT (iO b 0 4) 2:=Dc b 0 4 hb (Nat.zero_le _) (by omega);rw [h0];cases hc:iO b 0 4 with
 | none=>rfl
 | some mti =>
   have h2:2<=b.length:=(dQ hc).2.2.2.2;show Option.bind (G2 b) _=_;rw [Tk b hb h2];cases hn:Al b with
   | none=>rfl
   | some p =>
     obtain ⟨n1,n2⟩:=Bk hn;obtain ⟨nos,a⟩:=p;refine (bn (Oh b hb a n2 nos n1 mti ([],[],()))).trans ?_;dsimp only;cases kD b nos a [] with
     | none=>rfl
     | some q =>
       obtain ⟨l,e⟩:=q;show cond (!(ak (e:Int) (b.length:Int))) _ _=_;dsimp only;by_cases he:e=b.length
       . rw [if_pos he,he,bq]; rfl
       . rw [if_neg he,show ak (e:Int) (b.length:Int)=false from beq_eq_false_iff_ne.2 (by omega)]; rfl
theorem S4 (b:aS) (hb:xH b):LK b=Fp (jZ b):=by
 unfold LK jZ Fp;have h0:zu b 0 4=wT (iO b 0 4) 2:=Ja b 0 4 hb (Nat.zero_le _) (by omega);rw [h0];cases hc:iO b 0 4 with
 | none=>rfl
 | some mti =>
   have h2:2<=b.length:=(dQ hc).2.2.2.2;have h1:Ak b 2=nw b 2:=Gw b 2 hb h2;show Option.bind (Ak b 2) _=_;rw [h1];unfold nw Al;have k1:=kx (ep b 2 8);generalize hlo:dO (ep b 2 8)=lo at k1 ⊢;have k3:(eF lo).length<=64:=Nat.le_trans (List.length_filter_le _ _) k1;have tail:∀ (nos:aS) (a:Nat),a<=b.length->nos.length<=1000->∀ m0:cu,(Option.bind (yn b (a:Int) nos (ae nos) 0 m0 (mti,[],())) (Sum.elim (fun y6=>cond (!(ak y6.2.1 (ae y6.1))) (some ((),(([],[],()),(4,()),()))) (some ((),(y6.2.2.2.2.2.2.1,(0,()),())))) (fun y6=>some ((),(y6.2.1,(y6.1,()),())))))=some ((),(match kD b nos a [] with | none=>(([],[],()),3) | some (l,e)=>if e=b.length then ((mti,l,()),0) else (([],[],()),4):cu×Int).1,((match kD b nos a [] with | none=>(([],[],()),3) | some (l,e)=>if e=b.length then ((mti,l,()),0) else (([],[],()),4):cu×Int).2,()),()):=fun nos a ha hn m0=>by
    rw [P7 b hb a ha nos hn mti m0];cases kD b nos a [] with
    | none=>rfl
    | some q =>
      obtain ⟨l,e⟩:=q;show cond (!(ak (e:Int) (b.length:Int))) _ _=_;dsimp only;by_cases he:e=b.length
      . rw [if_pos he,he,bq]; rfl
      . rw [if_neg he,show ak (e:Int) (b.length:Int)=false from beq_eq_false_iff_ne.2 (by omega)]; rfl
   by_cases h10:10<=b.length;rotate_left
   . rw [if_neg h10,if_neg (show ¬ 2 + 8<=b.length from h10)]; rfl
   rw [if_pos h10,if_pos (show 2 + 8<=b.length from h10)];refine (bn (RY b mti 10 lo k1 ([],[],()))).trans ?_;cases hk:(eF lo).all sJ with
   | false =>
     dsimp only [cond_false];cases fT lo with
     | false=>rfl
     | true =>
       dsimp only [cond_true];rw [List.all_append,hk];by_cases h18:18<=b.length/\dO (ep b 10 8)≠[]
       . rw [if_pos h18]; rfl
       . rw [if_neg h18]; rfl
   | true =>
     dsimp only [cond_true];show cond (fT lo) _ _=_;cases fT lo with
     | false=>exact tail (eF lo) 10 h10 (by omega) _
     | true =>
       dsimp only [cond_true];have h3:Ak b 10=nw b 10:=Gw b 10 hb h10;refine (bn h3).trans ?_;unfold nw;have k2:=kx (ep b 10 8);generalize dO (ep b 10 8)=hi at k2 ⊢;by_cases h18:18<=b.length;rotate_left
       . rw [if_neg (show ¬ 10 + 8<=b.length from h18),if_neg (fun h=>h18 h.1)]; rfl
       rw [if_pos (show 10 + 8<=b.length from h18)];by_cases hne:hi=[]
       . rw [if_neg (fun h=>h.2 hne),hne]; rfl
       rw [if_pos ⟨h18,hne⟩];have he:ak (ae hi) 0=false:=beq_eq_false_iff_ne.2 (by
        show (hi.length:Int)≠0;cases hi with
        | nil=>exact absurd rfl hne
        | cons x r=>show ((r.length + 1:Nat):Int)≠0; omega)
       show cond (cond (!true) true (ak (ae hi) 0)) _ _=_;rw [he];refine (bn (OK b mti 18 (eF lo) hi k3 k2 ([],[],()))).trans ?_;rw [List.all_append,hk];cases (ir hi).all sJ with
       | false=>rfl
       | true=>exact tail (eF lo ++ ir hi) 18 h18 (by rw [List.length_append]; unfold ir; rw [List.length_map]; omega) _
abbrev j6:=Int×(List UInt8)×(List UInt8)×(List UInt8)×(List UInt8)×(List UInt8)×Int×Int×Unit
theorem wF (xs:List (Int×Unit)) (v:Int) (hs:xs.length<=1048576):N6 xs v=some ((),((bz 0 (gh (fun y=>ak v y.1) 0 xs),()),())):=by
 have hbig:aX=140737488355328:=rfl;unfold N6 Vd;have h:=aE (step:=cW wk) xs (fun i (_:Unit)=>(xs,v,ae xs,((i:Nat):Int),())) (fun i y _=>bif ak v y.1 then Sum.inr (.inr ((i:Int),())) else Sum.inl ()) (fun _=> .inl (xs,v,ae xs,(xs.length:Int),())) (a0:=()) (fun i y u hy=>by
  have hlt:=aj hy;show wk xs v (ae xs) (i:Int)=_;unfold wk;rw [aH hy,aC hy,aR _ hy,aP (by omega)];dsimp only [cond_true];cases ak v y.1 <;> rfl) (fun u=>by
  show wk xs v (ae xs) (xs.length:Int)=_;unfold wk;rw [ax rfl]; rfl)
 have h':Ny xs v (ae xs) 0=_:=h;rw [h'];have hf:=mu (Y:=Sum ((List (Int×Unit))×Int×Int×Int×Unit) (Int×Unit)) (fun (y:Int×Unit)=>ak v y.1) (fun n=> .inr (n,())) (.inl (xs,v,ae xs,(xs.length:Int),())) (fun y=>match y with | .inl _ => -1 | .inr z=>z.1) (fun _=>rfl) rfl xs 0;rw [<- hf];dsimp only [Option.bind_some];cases kl _ _ 0 xs () <;> rfl
def G8 (op:Int):List UInt8:=gt ([],()) [([],()),([48,49,48,48],()),([48,49,48,48],()),([48,50,50,48],()),([48,50,50,48],()),([48,50,50,48],()),([48,50,48,48],()),([48,49,48,48],()),([48,50,48,48],())] op |>.1
def qh (q:j6):Bool:=dk q.1 1 8 && bY q.2.2.2.2.2.1 (G8 q.1) && fk q.2.1 && aT q.2.2.2.2.1 && ak (ae q.2.2.2.2.1) 6 && (cond (au q.1 7) (gS q.2.2.2.1) (bY q.2.2.2.1 [])) && (cond (au q.1 5) (dk q.2.2.2.2.2.2.1 0 999999999999) (ak q.2.2.2.2.2.2.1 0)) && (cond (ak q.1 1) (dk q.2.2.2.2.2.2.2.1 0 9999) (ak q.2.2.2.2.2.2.2.1 0)) && (cond (ak q.1 6) (fk q.2.2.1) (bY q.2.2.1 []))
def IZ (q:j6):Prop:=q.2.1.length<=1048576/\q.2.2.1.length<=1048576/\q.2.2.2.1.length<=1048576/\q.2.2.2.2.1.length<=1048576/\q.2.2.2.2.2.1.length<=1048576
theorem pP {op:Int} (h:dk op 1 8=true):op=1∨op=2∨op=3∨op=4∨op=5∨op=6∨op=7∨op=8:=by have:=fg.1 h;omega
theorem Ry (q:j6) (hb:IZ q):kA q=some ((),((qh q,()),())):=by
 obtain ⟨op,acct,other,hold,trace,mti,amt,ttl,_⟩:=q;obtain ⟨b1,b2,b3,b4,b5⟩:=hb;cases hop:dk op 1 8 with
 | false => unfold kA zW qh;rw [j3,hop]; rfl
 | true =>
   have k1:=tE acct (ct b1);have k2:=tE other (ct b2);have k3:=Bt hold (ct b3);have k4:=fI trace (ct b4);have k5:zW op=some ((),((true,()),())):=by unfold zW; rw [j3,hop]; rfl
   have k6:EE op=some ((),((G8 op,()),())):=by unfold EE;rw [k5];rcases pP hop with h | h | h | h | h | h | h | h <;> subst h <;> rfl
   have k7:Fz op=some ((),((au op 7,()),())):=by unfold Fz; rw [k5]; rfl
   have k8:Ar op=some ((),((au op 5,()),())):=by unfold Ar;rw [j3];rcases pP hop with h | h | h | h | h | h | h | h <;> subst h <;> rfl
   have k9:=j3 amt 0 999999999999;have k10:=j3 ttl 0 9999;unfold kA qh;dsimp only;rw [k5,k6,k1,k4,k7,k8,k3,k9,k10,k2];dsimp only [Option.bind_some];rw [hop];cases bY mti (G8 op) <;> first | rfl | skip
   cases fk acct <;> first | rfl | skip
   cases aT trace <;> first | rfl | skip
   cases ak (ae trace) 6 <;> first | rfl | skip
   cases au op 7 <;> cases gS hold <;> cases bY hold [] <;> first | rfl | skip
   all_goals (cases au op 5 <;> cases dk amt 0 999999999999 <;> cases ak amt 0 <;> first | rfl | skip)
   all_goals (cases ak op 1 <;> cases dk ttl 0 9999 <;> cases ak ttl 0 <;> first | rfl | skip)
   all_goals (cases ak op 6 <;> cases fk other <;> rfl)
theorem PZ {op:Int} (hop:dk op 1 8=true):kd op 38=some ((),((au op 7,()),()))/\kd op 4=some ((),((au op 5,()),()))/\kd op 14=some ((),((ak op 1,()),()))/\kd op 103=some ((),((ak op 6,()),())):=by unfold kd za;rw [iF,hop];rcases pP hop with h | h | h | h | h | h | h | h <;> subst h <;> refine ⟨?_,?_,?_,?_⟩ <;> (refine (congrArg (fun z=>Option.bind z fun y2=>some ((),(y2.2.1,()))) (wF _ _ ?_)).trans ?_) <;> first | rfl | decide
theorem Oi {op:Int} (hop:dk op 1 8=true):∃ (nm:List UInt8×List UInt8) (fs:List (Int×Unit)),za op=some ((),((G8 op,nm.1,nm.2,fs,()),()))/\bY nm.2 []=false:=by unfold za;rw [iF,hop];rcases pP hop with h | h | h | h | h | h | h | h <;> subst h <;> exact ⟨(_,_),_,rfl,rfl⟩
theorem Sf (q:j6) (hb:IZ q):GO q=some ((),((qh q,()),())):=by
 obtain ⟨op,acct,other,hold,trace,mti,amt,ttl,_⟩:=q;obtain ⟨b1,b2,b3,b4,b5⟩:=hb;cases hop:dk op 1 8 with
 | false => unfold GO za qh;rw [iF,hop]; rfl
 | true =>
   have k1:=ve acct (ct b1);have k2:=ve other (ct b2);have k3:=Bx hold (ct b3);have k4:wH trace 6=some ((),((cond (aT trace) (ak (ae trace) 6) false,()),())):=by unfold wH; rw [gp trace (ct b4)]; rfl
   obtain ⟨nm,fs,k5,k6⟩:=Oi hop;obtain ⟨u1,u2,u3,u4⟩:=PZ hop;have k9:=iF amt 0 999999999999;have k10:=iF ttl 0 9999;unfold GO qh;dsimp only;rw [k5,k1,k4,u1,u2,u3,u4,k3,k9,k10,k2];dsimp only [Option.bind_some];rw [hop,k6];cases bY mti (G8 op) <;> first | rfl | skip
   cases fk acct <;> first | rfl | skip
   cases aT trace <;> first | rfl | skip
   cases ak (ae trace) 6 <;> first | rfl | skip
   cases au op 7 <;> cases gS hold <;> cases bY hold [] <;> cases au op 5 <;> cases dk amt 0 999999999999 <;> cases ak amt 0 <;> cases ak op 1 <;> cases dk ttl 0 9999 <;> cases ak ttl 0 <;> cases ak op 6 <;> cases fk other <;> cases bY other [] <;> rfl
def lH (s:List UInt8):Nat->Nat
 | 0=>0
 | n + 1=>bif ak (dq s (n:Int)) 32 then lH s n else n + 1
def rK (s:List UInt8):List UInt8:=s.take (lH s s.length)
theorem Be (s:List UInt8):∀ n,lH s n<=n
 | 0=>Nat.le_refl _
 | n + 1=>by
   unfold lH;cases ak (dq s (n:Int)) 32 with
   | true=>exact Nat.le_succ_of_le (Be s n)
   | false=>exact Nat.le_refl _
theorem OG (s:List UInt8) (hs:s.length<=aX):KB s=some ((),((rK s,()),())):=by
 have hbig:aX=140737488355328:=rfl;have h:∀ n:Nat,n<=s.length->Hv s (n:Int)=some (.inl (s,((lH s n:Nat):Int),())):=fun n=>by
  induction n with
  | zero=>intro _; exact aJ _ rfl
  | succ n ih =>
    intro hn;have e:zz s ((n + 1:Nat):Int)=bif ak (dq s (n:Int)) 32 then some (.inl (s,(n:Int),())) else some (.inr (.inl (s,((n + 1:Nat):Int),()))):=by unfold zz;rw [aF (show (0:Int) < ((n + 1:Nat):Int) by omega),aO (by omega) (by omega),show ((n + 1:Nat):Int) - 1=(n:Int) by omega];dsimp only [cond_true];rw [jW (xs:=s) (by omega)];cases ak (dq s (n:Int)) 32 <;> rfl
    cases hc:ak (dq s (n:Int)) 32 with
    | true => rw [hc] at e;unfold lH;rw [hc];exact aQ _ e (ih (by omega))
    | false => rw [hc] at e;unfold lH;rw [hc];exact aJ _ e
 unfold KB;refine (bn (h s.length (Nat.le_refl _))).trans ?_;show cond (dI 0 ((lH s s.length:Nat):Int) s) (some ((),((sub s 0 ((lH s s.length:Nat):Int),()),()))) none=_;rw [iU (Be s s.length),qC]; rfl
theorem Ph (s:List UInt8) (hs:s.length<=aX):Ju s 32=some ((),((rK s,()),())):=by
 have hbig:aX=140737488355328:=rfl;have h:∀ n:Nat,n<=s.length->G0 (s.take n) 32=some (.inl (s.take (lH s n),32,())):=fun n=>by
  induction n with
  | zero=>intro _; exact aJ _ rfl
  | succ n ih =>
    intro hn;have hl:(s.take (n + 1)).length=n + 1:=by rw [List.length_take]; omega
    have hb:dq (s.take (n + 1)) (n:Int)=dq s (n:Int):=by have hx:s[n]? = some (s[n]'(by omega)):=List.getElem?_eq_getElem (by omega);rw [eD hx,eD (xs:=s.take (n + 1)) (x:=s[n]'(by omega)) (by rw [List.getElem?_take,if_pos (by omega)]; exact hx)]
    have e:xY (s.take (n + 1)) 32=bif ak (dq s (n:Int)) 32 then some (.inl (s.take n,32,())) else some (.inr (.inl (s.take (n + 1),32,()))):=by unfold xY;rw [show ae (s.take (n + 1))=((n + 1:Nat):Int) from congrArg Int.ofNat hl];dsimp only;rw [aF (show (0:Int) < ((n + 1:Nat):Int) by omega),aO (by omega) (by omega),show ((n + 1:Nat):Int) - 1=(n:Int) by omega,jW (xs:=s.take (n + 1)) (by omega),hb,iU (xs:=s.take (n + 1)) (i:=n) (by omega),qC,List.take_take,Nat.min_eq_left (Nat.le_succ n)];cases ak (dq s (n:Int)) 32 <;> rfl
    cases hc:ak (dq s (n:Int)) 32 with
    | true => rw [hc] at e;unfold lH;rw [hc];exact aQ _ e (ih (by omega))
    | false => rw [hc] at e;unfold lH;rw [hc];exact aJ _ e
 have h0:=h s.length (Nat.le_refl _);rw [List.take_length] at h0;unfold Ju;refine (bn h0).trans rfl
theorem Oz (s:List UInt8) (hs:s.length<=aX):KX s=some ((),((rK s,()),())):=by
 unfold KX PS;cases he:bY s [] with
 | true =>
   have:s=[]:=by simpa [bY] using he
   subst this;rfl
 | false => have e:Ju s (dq [32] 0)=_:=Ph s hs;dsimp only;rw [e]; rfl
theorem GV (s:List UInt8):(rK s).length<=s.length:=by unfold rK; rw [List.length_take]; exact Nat.min_le_right _ _
abbrev l4:=List UInt8×Unit
theorem PR (a b:List UInt8):K9 a b=some ((),((jU a b,()),())):=by unfold K9 JP;rw [eb]; rfl
theorem NT (a b:Int):Lv a b=some ((),((au a b,()),())):=by unfold Lv JL;rw [bq]; rfl
theorem Mx:FU 1=some ((),((1,()),())):=rfl
theorem Mk:FU 2=some ((),((2,()),())):=rfl
theorem Kf (x:l4):AI [x]=some ((([x],()),()),()):=by have h:nB [x] 0 1 1=some (.inl ([x],0,1,1,())):=aJ _ rfl;unfold AI;refine (bn Mx).trans ?_;show Option.bind (Option.bind (Option.bind (nB [x] 0 1 1) _) _) _=_;rw [h]; rfl
def Qh (x y:l4):List l4:=bif jU y.1 x.1 then [y,x] else [x,y]
theorem KT (x y:l4):AI [x,y]=some (((Qh x y,()),()),()):=by
 have hi:tX [x,y] 0 2 1 1=some (.inl (Qh x y,0,2,1,(bif jU y.1 x.1 then 0 else 1),())):=by
  have e:tY [x,y] 0 2 1 1=bif jU y.1 x.1 then some (.inl ([y,x],0,2,1,0,())) else some (.inr (.inl ([x,y],0,2,1,1,()))):=by unfold tY;dsimp only;rw [PR];rfl
  unfold Qh;cases hc:jU y.1 x.1 with
  | true=>rw [hc] at e; exact aQ _ e (aJ _ rfl)
  | false=>rw [hc] at e; exact aJ _ e
 have h:nB [x,y] 0 2 1=some (.inl (Qh x y,0,2,2,())):=by
  have e:um [x,y] 0 2 1=some (.inl (Qh x y,0,2,2,())):=by unfold um;show Option.bind (tX [x,y] 0 2 1 1) _=_;rw [hi]; rfl
  exact aQ _ e (aJ _ rfl)
 unfold AI;refine (bn Mk).trans ?_;show Option.bind (Option.bind (Option.bind (nB [x,y] 0 2 1) _) _) _=_;rw [h]; rfl
theorem yR (x y:l4):EJ [x,y]=some ((),((bif bY y.1 x.1 then [x] else [x,y],()),())):=by
 have e:yl [x,y] 1=bif bY y.1 x.1 then some (.inr (.inr ([x],()))) else some (.inl ([x,y],2,())):=rfl;have h:wy [x,y] 1=some (bif bY y.1 x.1 then .inr ([x],()) else .inl ([x,y],2,())):=by
  cases hc:bY y.1 x.1 with
  | true=>rw [hc] at e; exact aJ _ e
  | false=>rw [hc] at e; exact aQ _ e (aJ _ rfl)
 unfold EJ;show Option.bind (wy [x,y] 1) _=_;rw [h];cases bY y.1 x.1 <;> rfl
abbrev cK:=Int×Unit
theorem Ll (x:cK):vW [x]=some ((([x],()),()),()):=by have h:kZ [x] 0 1 1=some (.inl ([x],0,1,1,())):=aJ _ rfl;unfold vW;refine (bn Mx).trans ?_;show Option.bind (Option.bind (Option.bind (kZ [x] 0 1 1) _) _) _=_;rw [h]; rfl
theorem KL:vW []=some ((([],()),()),()):=by have h:kZ [] 0 0 1=some (.inl ([],0,0,1,())):=aJ _ rfl;unfold vW;refine (bn (show FU 0=some ((),((0,()),())) from rfl)).trans ?_;show Option.bind (Option.bind (Option.bind (kZ [] 0 0 1) _) _) _=_;rw [h]; rfl
def Qo (x y:cK):List cK:=bif au y.1 x.1 then [y,x] else [x,y]
theorem LY (x y:cK):vW [x,y]=some (((Qo x y,()),()),()):=by
 have hi:vm [x,y] 0 2 1 1=some (.inl (Qo x y,0,2,1,(bif au y.1 x.1 then 0 else 1),())):=by
  have e:uk [x,y] 0 2 1 1=bif au y.1 x.1 then some (.inl ([y,x],0,2,1,0,())) else some (.inr (.inl ([x,y],0,2,1,1,()))):=by unfold uk;dsimp only;rw [NT];rfl
  unfold Qo;cases hc:au y.1 x.1 with
  | true=>rw [hc] at e; exact aQ _ e (aJ _ rfl)
  | false=>rw [hc] at e; exact aJ _ e
 have h:kZ [x,y] 0 2 1=some (.inl (Qo x y,0,2,2,())):=by
  have e:ub [x,y] 0 2 1=some (.inl (Qo x y,0,2,2,())):=by unfold ub;show Option.bind (vm [x,y] 0 2 1 1) _=_;rw [hi]; rfl
  exact aQ _ e (aJ _ rfl)
 unfold vW;refine (bn Mk).trans ?_;show Option.bind (Option.bind (Option.bind (kZ [x,y] 0 2 1) _) _) _=_;rw [h]; rfl
theorem DF (x y:cK):GM [x,y]=some ((),((bif ak y.1 x.1 then [x] else [x,y],()),())):=by
 have e:yZ [x,y] 1=bif ak y.1 x.1 then some (.inr (.inr ([x],()))) else some (.inl ([x,y],2,())):=rfl;have h:tW [x,y] 1=some (bif ak y.1 x.1 then .inr ([x],()) else .inl ([x,y],2,())):=by
  cases hc:ak y.1 x.1 with
  | true=>rw [hc] at e; exact aJ _ e
  | false=>rw [hc] at e; exact aQ _ e (aJ _ rfl)
 unfold GM;show Option.bind (tW [x,y] 1) _=_;rw [h];cases ak y.1 x.1 <;> rfl
def nq (n:Int):List l4->List cK
 | [a]=>[(aw a.1 n,())]
 | [a,b]=>bif au (aw b.1 n) (aw a.1 n) then [(aw b.1 n,()),(aw a.1 n,())] else bif ak (aw b.1 n) (aw a.1 n) then [(aw a.1 n,())] else [(aw a.1 n,()),(aw b.1 n,())]
 | _=>[]
def Ep (l:List l4):Prop:=l.length<=2/\∀ x∈l,x.1.length<=1048576
theorem KI (n:Int):∀ (ids:List l4) (h:Ep ids),Mj n [] ids (ae ids) 0=some (.inl (n,ids.map (fun x=>(aw x.1 n,())),ids,ae ids,ae ids,())):=fun ids hb=>by
 have h:=a6 (step:=gi uj) ids (fun i (o:List cK)=>(n,o,ids,ae ids,((i:Nat):Int),())) (fun _ x o=>Sum.inl (o ++ [(aw x.1 n,())])) (fun o=> .inl (n,o,ids,ae ids,ae ids,())) (fun i o=>o.length=i) (a0:=[]) rfl (fun i x o hx ho=>by
  have hlt:=aj hx;have:=hb.1;show uj n o ids (ae ids) (i:Int)=_;unfold uj;rw [aH hx,aC hx,aR _ hx,aP (by unfold aX; omega),zQ x.1 n (ct (hb.2 x (List.mem_of_getElem? hx)))];dsimp only [cond_true,Option.bind_some];rw [Gq (by omega)]; rfl) (fun i x o o' hx ho hf=>by
  cases hf;rw [List.length_append,ho]; rfl) (fun o ho=>by
  show uj n o ids (ae ids) (ids.length:Int)=_;unfold uj;rw [ax rfl]; rfl)
 rw [bP] at h;refine Eq.trans h ?_;have:∀ (l:List l4) (o:List cK),l.foldl (fun o x=>o ++ [(aw x.1 n,())]) o=o ++ l.map (fun x=>(aw x.1 n,())):=fun l=>by
  induction l with
  | nil=>intro o; simp
  | cons x r ih=>intro o; rw [List.foldl_cons,ih]; simp
 rw [this]; rfl
theorem Pz (ids:List l4) (n:Int) (hb:Ep ids):Uj ids n=some ((),((nq n ids,()),())):=by
 unfold Uj;refine (bn (KI n ids hb)).trans ?_
 match ids,hb with
 | [],_ => show Option.bind (vW []) _=_;rw [KL]; rfl
 | [a],_ => show Option.bind (vW [(aw a.1 n,())]) _=_;rw [Ll]; rfl
 | [a,b],_ =>
   show Option.bind (vW [(aw a.1 n,()),(aw b.1 n,())]) _=_;rw [LY];unfold Qo nq;dsimp only [Option.bind_some];cases hc:au (aw b.1 n) (aw a.1 n) with
   | true => dsimp only [cond_true];rw [DF];have hlt:aw b.1 n < aw a.1 n:=of_decide_eq_true hc;rw [show ak (aw a.1 n) (aw b.1 n)=false from beq_eq_false_iff_ne.2 (by omega)]; rfl
   | false => dsimp only [cond_false];rw [DF]; rfl
 | _ :: _ :: _ :: _,hb=>exact absurd hb.1 (by simp)
theorem OF (ids:List l4) (n:Int) (hb:Ep ids):Um ids n=some ((),((nq n ids,()),())):=by
 have inn:∀ (o:List cK) (x:Int) (ids:List l4) (k j:Int),xG n [] x 0 ids k j=some (.inl (n,[],x,0,ids,k,j,())):=fun o x ids k j=>aJ _ rfl
 have in1:∀ (s x:Int) (ids:List l4) (k j:Int),xG n [(s,())] x 0 ids k j=some (.inl (n,[(s,())],x,(bif au s x then 1 else 0),ids,k,j,())):=fun s x ids k j=>by
  have e:IQ n [(s,())] x 0 ids k j=bif au s x then some (.inl (n,[(s,())],x,1,ids,k,j,())) else some (.inr (.inl (n,[(s,())],x,0,ids,k,j,()))):=rfl;cases hc:au s x with
  | true=>rw [hc] at e; exact aQ _ e (aJ _ rfl)
  | false=>rw [hc] at e; exact aJ _ e
 unfold Um
 match ids,hb with
 | [],_ => have h:Df n [] [] 0 0=some (.inl (n,[],[],0,0,())):=aJ _ rfl;exact (bn h).trans rfl
 | [a],hb =>
   have e:sC n [] [a] 1 0=some (.inl (n,[(aw a.1 n,())],[a],1,1,())):=by unfold sC;show Option.bind (Nw a.1 n) _=_;rw [qa a.1 n (ct (hb.2 a (by simp)))];show Option.bind (xG n [] (aw a.1 n) 0 [a] 1 0) _=_;rw [inn []]; rfl
   have h:Df n [] [a] 1 0=some (.inl (n,[(aw a.1 n,())],[a],1,1,())):=aQ _ e (aJ _ rfl);exact (bn h).trans rfl
 | [a,b],hb =>
   have e1:sC n [] [a,b] 2 0=some (.inl (n,[(aw a.1 n,())],[a,b],2,1,())):=by unfold sC;show Option.bind (Nw a.1 n) _=_;rw [qa a.1 n (ct (hb.2 a (by simp)))];show Option.bind (xG n [] (aw a.1 n) 0 [a,b] 2 0) _=_;rw [inn []]; rfl
   have e2:sC n [(aw a.1 n,())] [a,b] 2 1=some (.inl (n,nq n [a,b],[a,b],2,2,())):=by
    unfold sC;show Option.bind (Nw b.1 n) _=_;rw [qa b.1 n (ct (hb.2 b (by simp)))];show Option.bind (xG n [(aw a.1 n,())] (aw b.1 n) 0 [a,b] 2 1) _=_;rw [in1,show nq n [a,b]=bif au (aw b.1 n) (aw a.1 n) then [(aw b.1 n,()),(aw a.1 n,())] else bif ak (aw b.1 n) (aw a.1 n) then [(aw a.1 n,())] else [(aw a.1 n,()),(aw b.1 n,())] from rfl];cases hc:au (aw a.1 n) (aw b.1 n) with
    | true => have hlt:aw a.1 n < aw b.1 n:=of_decide_eq_true hc;rw [ay (show ¬ aw b.1 n < aw a.1 n by omega),show ak (aw b.1 n) (aw a.1 n)=false from beq_eq_false_iff_ne.2 (by omega)]; rfl
    | false =>
      have hge:¬ aw a.1 n < aw b.1 n:=of_decide_eq_false hc;dsimp only [Option.bind_some,cond_false,Sum.elim_inl];show cond (ak (aw a.1 n) (aw b.1 n)) _ _=_;by_cases he:aw a.1 n=aw b.1 n
      . rw [he,bq,ay (show ¬ aw b.1 n < aw b.1 n by omega)]; rfl
      . rw [show ak (aw a.1 n) (aw b.1 n)=false from beq_eq_false_iff_ne.2 he,aF (show aw b.1 n < aw a.1 n by omega)]; rfl
   have h:Df n [] [a,b] 2 0=some (.inl (n,nq n [a,b],[a,b],2,2,())):=aQ _ e1 (aQ _ e2 (aJ _ rfl));exact (bn h).trans rfl
 | _ :: _ :: _ :: _,hb=>exact absurd hb.1 (by simp)
def gI:j6:=(0,[],[],[],[],[],0,0,())
def xS (s:List UInt8):Bool:=cond (cond (bY s [48,49,48,48]) true (bY s [48,50,48,48])) true (bY s [48,50,50,48])
abbrev Fo:=List UInt8×List UInt8×List UInt8×List (Int×Unit)×Unit
def cQ:List Fo:=[([48,49,48,48],[48,48],[97,117,116,104],[(4,()),(14,()),(38,())],()),([48,49,48,48],[48,50],[109,111,114,101],[(4,()),(38,())],()),([48,50,50,48],[48,49],[112,97,114,116],[(4,()),(38,())],()),([48,50,50,48],[48,48],[102,105,110,97,108],[(4,()),(38,())],()),([48,50,50,48],[50,48],[102,114,101,101],[(38,())],()),([48,50,48,48],[52,48],[109,111,118,101],[(38,()),(103,())],()),([48,49,48,48],[51,49],[97,115,107],[],()),([48,50,48,48],[57,48],[115,119,101,101,112],[],())]
def BC (mti c:List UInt8) (r:Fo):Bool:=cond (bY r.1 mti) (bY r.2.1 (sub c 0 2)) false
def dX (mti c:List UInt8):Int:=1 + gh (BC mti c) 0 cQ
theorem sr (mti c:List UInt8):dX mti c=0∨dX mti c=1∨dX mti c=2∨dX mti c=3∨dX mti c=4∨dX mti c=5∨dX mti c=6∨dX mti c=7∨dX mti c=8:=by unfold dX;have:=tT (BC mti c) cQ 0;simp only [show cQ.length=8 from rfl] at this;omega
theorem JX (m:cu) (c:List UInt8) (hc:2<=c.length) (nm:List UInt8×Unit) (hn:nm=(c,())):Lk cQ m nm=some ((),((gh (BC m.1 c) 0 cQ,()),())):=by
 subst hn;have hcut:dI 0 2 c=true:=iU (i:=2) hc;have h:=aE (step:=cW oa) cQ (fun i (_:Unit)=>(cQ,(m,(c,()),()),ae cQ,((i:Nat):Int),())) (fun i x _=>bif BC m.1 c x then Sum.inr (.inr ((i:Int),())) else .inl ()) (fun _=> .inl (cQ,(m,(c,()),()),ae cQ,(cQ.length:Int),())) (a0:=()) (fun i x a hx=>by
  have hlt:=aj hx;have h8:cQ.length=8:=rfl;show oa cQ (m,(c,()),()) (ae cQ) (i:Int)=_;unfold oa OH BC;rw [aH hx,aC hx,aR _ hx,aP (by unfold aX; omega)];dsimp only [cond_true];rw [hcut];cases bY x.1 m.1 <;> cases bY x.2.1 (sub c 0 2) <;> rfl) (fun a=>by
  show oa cQ (m,(c,()),()) (ae cQ) (cQ.length:Int)=_;unfold oa;rw [ax rfl]; rfl)
 have hf:=mu (Y:=Sum ((List Fo)×(cu×(List UInt8×Unit)×Unit)×Int×Int×Unit) (Int×Unit)) (BC m.1 c) (fun n=> .inr (n,())) (.inl (cQ,(m,(c,()),()),ae cQ,(cQ.length:Int),())) (fun y=>match y with | .inl _ => -1 | .inr z=>z.1) (fun _=>rfl) rfl cQ 0;unfold Lk;refine (bn h).trans ?_;rw [<- hf];dsimp only [Option.bind_some];cases kl _ _ 0 cQ () <;> rfl
theorem Yj {i:Nat} {x:Fo} (hx:cQ[i]? = some x):EE (((i + 1:Nat)):Int)=some ((),((x.1,()),()))/\OY (((i + 1:Nat)):Int)=some ((),((x.2.1,()),())):=by
 have hlt:=aj hx;have h8:cQ.length=8:=rfl;have:i=0∨i=1∨i=2∨i=3∨i=4∨i=5∨i=6∨i=7:=by omega
 rcases this with h | h | h | h | h | h | h | h <;> subst h <;> cases hx <;> exact ⟨rfl,rfl⟩
theorem Kx (mti c:List UInt8) (hc:2<=c.length):GK mti c=some ((),((dX mti c,()),())):=by
 have hcut:dI 0 2 c=true:=iU (i:=2) hc;have h8:cQ.length=8:=rfl;have h:=aE (step:=fb wu) cQ (fun i (_:Unit)=>(mti,c,((i + 1:Nat):Int),())) (fun i x _=>bif BC mti c x then Sum.inr (.inr (((i + 1:Nat):Int),())) else .inl ()) (fun _=> .inl (mti,c,9,())) (a0:=()) (fun i x a hx=>by have hlt:=aj hx;show wu mti c ((i + 1:Nat):Int)=_;unfold wu BC;rw [(Yj hx).1,(Yj hx).2,show bz ((i + 1:Nat):Int) 8=true from decide_eq_true (by omega),aP (by unfold aX; omega)];dsimp only [cond_true,Option.bind_some];rw [hcut];cases bY x.1 mti <;> cases bY x.2.1 (sub c 0 2) <;> rfl) (fun a=>rfl);have hf:=mu (Y:=Sum (List UInt8×List UInt8×Int×Unit) (Int×Unit)) (BC mti c) (fun n=> .inr (1 + n,())) (.inl (mti,c,9,())) (fun y=>match y with | .inl _ => -1 | .inr z=>z.1 - 1) (fun n=>by show 1 + n - 1=n; omega) rfl cQ 0;rw [show (fun (i:Nat) (x:Fo) (_:Unit)=>bif BC mti c x then (Sum.inr (Sum.inr (((i + 1:Nat):Int),())):Sum Unit (Sum (List UInt8×List UInt8×Int×Unit) (Int×Unit))) else .inl ())=fun i x _=>bif BC mti c x then .inr (.inr (1 + (i:Int),())) else .inl () from by funext i x _;rw [show ((i + 1:Nat):Int)=1 + (i:Int) by omega]] at h;unfold GK;have h':IC mti c 1=_:=h;refine (bn h').trans ?_;unfold dX;rw [<- hf];dsimp only [Option.bind_some];have hneg:gh (BC mti c) 0 cQ = -1∨0<=gh (BC mti c) 0 cQ:=by
  rcases tT (BC mti c) cQ 0 with h | h
  . exact Or.inl h
  . exact Or.inr h.1
 cases hg:kl (fun (i:Nat) (x:Fo) (_:Unit)=>bif BC mti c x then (Sum.inr (Sum.inr (1 + (i:Int),())):Sum Unit (Sum (List UInt8×List UInt8×Int×Unit) (Int×Unit))) else .inl ()) (fun _=> .inl (mti,c,9,())) 0 cQ () with
 | inl y=>rfl
 | inr y => show some ((),((y.1,()),()))=some ((),((1 + (y.1 - 1),()),()));rw [show 1 + (y.1 - 1)=y.1 by omega]
def fv (m:cu) (no:Int):List UInt8:=(lO m no).getD []
def fs (m:cu) (no:Int):Bool:=(lO m no).isSome
theorem lg (m:cu) (no:Int):Cy (lO m no)=some ((),((fv m no,()),(fs m no,()),())):=by unfold Cy fv fs;cases lO m no <;> rfl
theorem sT {m:cu} {no:Int} (h:fs m no=false):fv m no=[]:=by
 unfold fs at h; unfold fv;cases hf:lO m no with
 | none=>rfl
 | some s=>rw [hf] at h; cases h
theorem DA {m:cu} {no:Int} {s:List UInt8} (h:lO m no=some s):∃ f∈m.2.1,f.1=no/\f.2.1=s:=by
 unfold lO at h;cases hf:m.2.1.find? fun f=>ak f.1 no with
 | none=>rw [hf] at h; cases h
 | some f => rw [hf] at h;refine ⟨f,List.mem_of_find?_eq_some hf,dW.1 (by have:=List.find?_some hf; exact this),?_⟩;cases h; rfl
theorem lG {m:cu} (hb:pG m) (no:Int):(fv m no).length<=1048576:=by
 unfold fv;cases h:lO m no with
 | none=>exact Nat.zero_le _
 | some s => obtain ⟨f,h1,_,rfl⟩:=DA h;exact hb.2.2 f h1
theorem JS {m:cu} (h:uH m=true) {no:Int} {s:List UInt8} (hf:lO m no=some s):iH no s=true:=by
 unfold uH at h;obtain ⟨f,h1,h2,h3⟩:=DA hf;obtain ⟨i,hi⟩:=List.mem_iff_getElem?.1 h1;cases hd:cond (aT m.1) (ak (ae m.1) 4) false with
 | false=>rw [hd] at h; cases h
 | true =>
   rw [hd] at h;have:=wx (fL m.2.1) h hi;unfold fL at this;rw [h2,h3] at this;cases hk:iH no s with
   | true=>rfl
   | false=>rw [hk] at this; cases this
theorem xo {m:cu} (h:uH m=true) {s:List UInt8} (hf:lO m 3=some s):2<=s.length:=by
 have:=JS h hf;have e:iH 3 s=cond (aT s) (ak (ae s) 6) false:=rfl;rw [e] at this;cases hd:aT s with
 | false=>rw [hd] at this; cases this
 | true => rw [hd] at this;have:=dW.1 (show ak (ae s) 6=true from this);have:(s.length:Int)=6:=this;omega
def Qj (s:List UInt8):Int:=match w9 s with | some n=>(n:Int) | none=>0
def Yf (s:List UInt8):Bool:=(w9 s).isSome
theorem yG (s:List UInt8):Ku (w9 s)=some ((),((Qj s,()),(Yf s,()),())):=by unfold Ku Qj Yf;cases w9 s <;> rfl
def iq (m:cu) (op:Int):j6:=(op,fv m 2,cond (ak op 6) (fv m 103) [],cond (cond (dk op 1 8) (au op 7) false) (rK (fv m 38)) [],fv m 11,m.1,cond (dk op 1 4) (Qj (fv m 4)) 0,cond (ak op 1) (Qj (fv m 14)) 0,())
def Jq (m:cu) (op:Int):Bool:=cond (cond (dk op 1 4) (fs m 4) true) (cond (ak op 1) (fs m 14) true) false
def Fm (m:cu) (op:Int):j6×Int:=cond (Jq m op) (cond (qh (iq m op)) (iq m op,0) (gI,1)) (gI,1)
def ke (m:cu):j6×Int:=cond (uH m) (cond (xS m.1) (match lO m 3 with | none=>(gI,1) | some c=>Fm m (dX m.1 c)) (gI,2)) (gI,1)
def Hi (p:j6×Int):Option (Unit×(j6×(Int×Unit)×Unit)):=some ((),(p.1,(p.2,()),()))
theorem BV {m:cu} (hb:pG m) (op:Int):IZ (iq m op):=by
 refine ⟨lG hb 2,?_,?_,lG hb 11,hb.1⟩
 . show (cond (ak op 6) (fv m 103) []).length<=_;cases ak op 6 with
   | true=>exact lG hb 103
   | false=>exact Nat.zero_le _
 . show (cond (cond (dk op 1 8) (au op 7) false) (rK (fv m 38)) []).length<=_;cases cond (dk op 1 8) (au op 7) false with
   | true=>exact Nat.le_trans (GV _) (lG hb 38)
   | false=>exact Nat.zero_le _
theorem WI (m:cu) (hb:pG m):JQ m=Hi (ke m):=by
 unfold JQ ke;rw [SO m hb];cases hm:uH m with
 | false=>rfl
 | true =>
 have hk:Ow m.1=some ((),((xS m.1,()),())):=rfl;dsimp only [Option.bind_some,Bool.not_true,cond_false];rw [hk];cases xS m.1 with
 | false=>rfl
 | true =>
 show Option.bind (jH m 3) _=_;rw [vX m 3 hb];cases h3:lO m 3 with
 | none=>rfl
 | some c =>
 show Option.bind (GK m.1 c) _=_;rw [Kx m.1 c (xo hm h3)];have f2:=(vX m 2 hb).trans (lg m 2);have f11:=(vX m 11 hb).trans (lg m 11);have f38:=(vX m 38 hb).trans (lg m 38);have f4:=(vX m 4 hb).trans (lg m 4);have f14:=(vX m 14 hb).trans (lg m 14);have f103:=(vX m 103 hb).trans (lg m 103);have b38:=OG (fv m 38) (ct (lG hb 38));have n4:=(C6 (fv m 4) (ct (lG hb 4))).trans (yG _);have n14:=(C6 (fv m 14) (ct (lG hb 14))).trans (yG _);dsimp only [Option.bind_some];rw [f2,f11];dsimp only [Option.bind_some];have hop:=sr m.1 c;generalize dX m.1 c=op at hop ⊢;have hq:=Ry (iq m op) (BV hb op);have hH:Fz op=some ((),((cond (dk op 1 8) (au op 7) false,()),())):=rfl;have hA:Ar op=some ((),((dk op 1 4,()),())):=rfl;unfold Fm;generalize qh (iq m op)=z at hq ⊢;rw [hH,hA,f38,f4,f14,f103];dsimp only [Option.bind_some];rw [b38,n4,n14];dsimp only [Option.bind_some];unfold Jq;unfold iq at hq ⊢;generalize cond (dk op 1 8) (au op 7) false=c1 at hq ⊢;generalize dk op 1 4=c2 at hq ⊢;generalize ak op 1=c3 at hq ⊢;generalize ak op 6=c4 at hq ⊢;cases c1 <;> cases c2 <;> cases c3 <;> cases c4 <;> dsimp only [cond_true,cond_false] at hq ⊢ <;> rw [hq] <;> cases fs m 4 <;> cases fs m 14 <;> cases z <;> rfl
theorem PB {m:cu} {op:Int} (h:qh (iq m op)=true):fs m 2=true/\fs m 11=true/\(cond (dk op 1 8) (au op 7) false=true->fs m 38=true)/\(ak op 6=true->fs m 103=true):=by
 unfold qh iq at h;simp only [Bool.and_eq_true] at h;obtain ⟨⟨⟨⟨⟨⟨⟨⟨h1,_⟩,h2⟩,h3⟩,_⟩,h4⟩,_⟩,_⟩,h5⟩:=h;refine ⟨?_,?_,fun hc => ?_,fun hc => ?_⟩
 . cases hf:fs m 2 with
   | true=>rfl
   | false=>rw [sT hf] at h2; cases h2
 . cases hf:fs m 11 with
   | true=>rfl
   | false=>rw [sT hf] at h3; cases h3
 . cases hf:fs m 38 with
   | true=>rfl
   | false => rw [hc,sT hf] at h4;rw [h1] at hc;rw [show au op 7=true from hc] at h4;cases h4
 . cases hf:fs m 103 with
   | true=>rfl
   | false=>rw [hc,sT hf] at h5; cases h5
def kV (op:Int):List cK:=cond (dk op 1 8) (gt ([],[],[],[],()) cQ (op - 1)).2.2.2.1 []
def Eo (m:cu) (op:Int):Bool:=fs m 2 && (fs m 11 && (kV op).all fun x=>fs m x.1)
def WU (op:Int):Prop:=op=0∨op=1∨op=2∨op=3∨op=4∨op=5∨op=6∨op=7∨op=8
theorem Hl (m:cu) (op:Int) (hop:WU op):Fm m op=bif Eo m op then (bif qh (iq m op) then (iq m op,0) else (gI,1)) else (gI,1):=by
 have hz:= @PB m op;unfold Fm;generalize qh (iq m op)=z at hz ⊢;generalize iq m op=q at hz ⊢;cases z with
 | false=>cases Eo m op <;> cases Jq m op <;> rfl
 | true =>
   obtain ⟨h1,h2,h3,h4⟩:=hz rfl;unfold Eo Jq;rw [h1,h2];rcases hop with h | h | h | h | h | h | h | h | h <;> subst h
   . rfl
   . have:=h3 rfl;show (bif cond (fs m 4) (fs m 14) false then _ else _)=bif true && (true && (fs m 4 && (fs m 14 && (fs m 38 && true)))) then _ else _;rw [this];cases fs m 4 <;> cases fs m 14 <;> rfl
   . have:=h3 rfl;show (bif cond (fs m 4) true false then _ else _)=bif true && (true && (fs m 4 && (fs m 38 && true))) then _ else _;rw [this];cases fs m 4 <;> rfl
   . have:=h3 rfl;show (bif cond (fs m 4) true false then _ else _)=bif true && (true && (fs m 4 && (fs m 38 && true))) then _ else _;rw [this];cases fs m 4 <;> rfl
   . have:=h3 rfl;show (bif cond (fs m 4) true false then _ else _)=bif true && (true && (fs m 4 && (fs m 38 && true))) then _ else _;rw [this];cases fs m 4 <;> rfl
   . have:=h3 rfl;show _=bif true && (true && (fs m 38 && true)) then _ else _;rw [this]; rfl
   . have:=h3 rfl;have h6:=h4 rfl;show _=bif true && (true && (fs m 38 && (fs m 103 && true))) then _ else _;rw [this,h6]; rfl
   . rfl
   . rfl
def Km (m:cu) (no:Int) (q:j6):j6 :=
 cond (ak no 2) (q.1,fv m no,q.2.2.1,q.2.2.2.1,q.2.2.2.2.1,q.2.2.2.2.2.1,q.2.2.2.2.2.2.1,q.2.2.2.2.2.2.2.1,())
  (cond (ak no 4) (q.1,q.2.1,q.2.2.1,q.2.2.2.1,q.2.2.2.2.1,q.2.2.2.2.2.1,Qj (fv m no),q.2.2.2.2.2.2.2.1,())
    (cond (ak no 11) (q.1,q.2.1,q.2.2.1,q.2.2.2.1,fv m no,q.2.2.2.2.2.1,q.2.2.2.2.2.2.1,q.2.2.2.2.2.2.2.1,())
      (cond (ak no 14) (q.1,q.2.1,q.2.2.1,q.2.2.2.1,q.2.2.2.2.1,q.2.2.2.2.2.1,q.2.2.2.2.2.2.1,Qj (fv m no),())
        (cond (ak no 38) (q.1,q.2.1,q.2.2.1,rK (fv m no),q.2.2.2.2.1,q.2.2.2.2.2.1,q.2.2.2.2.2.2.1,q.2.2.2.2.2.2.2.1,())
          (cond (ak no 103) (q.1,q.2.1,fv m no,q.2.2.2.1,q.2.2.2.2.1,q.2.2.2.2.2.1,q.2.2.2.2.2.2.1,q.2.2.2.2.2.2.2.1,()) q)))))
def GW (m:cu):List cK->j6->Option j6
 | [],q=>some q
 | x :: r,q=>bif fs m x.1 then GW m r (Km m x.1 q) else none
def Rj (xs:List cK) (n:Int) (m:cu):Option j6->Sum (List cK×Int×Int×cu×j6×j6×Unit) (Int×j6×Unit)
 | some q=> .inl (xs,n,n,m,gI,q,())
 | none=> .inr (1,gI,())
theorem Dt (m:cu) (ys:List cK) (n:Int):∀ (xs:List cK) (i:Nat) (q:j6),kl (fun _ x q=>bif fs m x.1 then Sum.inl (Km m x.1 q) else .inr (.inr (1,gI,()))) (fun q=> .inl (ys,n,n,m,gI,q,())) i xs q=Rj ys n m (GW m xs q)
 | [],_,_=>rfl
 | x :: r,i,q=>by
   rw [kl,GW];cases fs m x.1 with
   | false=>rfl
   | true=>exact Dt m ys n r (i + 1) _
theorem Kh (m:cu) (hb:pG m) (xs:List cK) (hx:xs.length<=10) (q0:j6):Gu xs (ae xs) 0 m gI q0=some (Rj xs (ae xs) m (GW m xs q0)):=by
 have h:=aE (step:=D1 oz) xs (fun i (q:j6)=>(xs,ae xs,((i:Nat):Int),m,gI,q,())) (fun _ x q=>bif fs m x.1 then Sum.inl (Km m x.1 q) else .inr (.inr (1,gI,()))) (fun q=> .inl (xs,ae xs,ae xs,m,gI,q,())) (a0:=q0) (fun i x q hx=>by
  have hlt:=aj hx;show oz xs (ae xs) (i:Int) m gI q=_;unfold oz;rw [aH hx,aC hx,aR _ hx,aP (by unfold aX; omega)];dsimp only [cond_true];rw [Nb m x.1 hb,lg];dsimp only [Option.bind_some];rw [(MV (fv m x.1) (ct (lG hb x.1))).trans (yG _),Oz (fv m x.1) (ct (lG hb x.1))];unfold Km;cases fs m x.1 with
  | false=>rfl
  | true=>cases ak x.1 2 <;> cases ak x.1 4 <;> cases ak x.1 11 <;> cases ak x.1 14 <;> cases ak x.1 38 <;> cases ak x.1 103 <;> rfl) (fun q=>by
  show oz xs (ae xs) (xs.length:Int) m gI q=_;unfold oz;rw [ax rfl]; rfl)
 rw [Dt] at h;exact h
theorem Kz (m:cu) (op:Int) (hop:WU op):GW m ((2,()) :: (11,()) :: kV op) (op,[],[],[],[],m.1,0,0,())=bif Eo m op then some (iq m op) else none:=by
 unfold Eo;rcases hop with h | h | h | h | h | h | h | h | h <;> subst h
 . show (bif fs m 2 then (bif fs m 11 then some (iq m 0) else none) else none)=bif fs m 2 && (fs m 11 && true) then _ else _;cases fs m 2 <;> cases fs m 11 <;> rfl
 . show (bif fs m 2 then (bif fs m 11 then (bif fs m 4 then (bif fs m 14 then (bif fs m 38 then some (iq m 1) else none) else none) else none) else none) else none)=bif fs m 2 && (fs m 11 && (fs m 4 && (fs m 14 && (fs m 38 && true)))) then _ else _;cases fs m 2 <;> cases fs m 11 <;> cases fs m 4 <;> cases fs m 14 <;> cases fs m 38 <;> rfl
 . show (bif fs m 2 then (bif fs m 11 then (bif fs m 4 then (bif fs m 38 then some (iq m 2) else none) else none) else none) else none)=bif fs m 2 && (fs m 11 && (fs m 4 && (fs m 38 && true))) then _ else _;cases fs m 2 <;> cases fs m 11 <;> cases fs m 4 <;> cases fs m 38 <;> rfl
 . show (bif fs m 2 then (bif fs m 11 then (bif fs m 4 then (bif fs m 38 then some (iq m 3) else none) else none) else none) else none)=bif fs m 2 && (fs m 11 && (fs m 4 && (fs m 38 && true))) then _ else _;cases fs m 2 <;> cases fs m 11 <;> cases fs m 4 <;> cases fs m 38 <;> rfl
 . show (bif fs m 2 then (bif fs m 11 then (bif fs m 4 then (bif fs m 38 then some (iq m 4) else none) else none) else none) else none)=bif fs m 2 && (fs m 11 && (fs m 4 && (fs m 38 && true))) then _ else _;cases fs m 2 <;> cases fs m 11 <;> cases fs m 4 <;> cases fs m 38 <;> rfl
 . show (bif fs m 2 then (bif fs m 11 then (bif fs m 38 then some (iq m 5) else none) else none) else none)=bif fs m 2 && (fs m 11 && (fs m 38 && true)) then _ else _;cases fs m 2 <;> cases fs m 11 <;> cases fs m 38 <;> rfl
 . show (bif fs m 2 then (bif fs m 11 then (bif fs m 38 then (bif fs m 103 then some (iq m 6) else none) else none) else none) else none)=bif fs m 2 && (fs m 11 && (fs m 38 && (fs m 103 && true))) then _ else _;cases fs m 2 <;> cases fs m 11 <;> cases fs m 38 <;> cases fs m 103 <;> rfl
 . show (bif fs m 2 then (bif fs m 11 then some (iq m 7) else none) else none)=bif fs m 2 && (fs m 11 && true) then _ else _;cases fs m 2 <;> cases fs m 11 <;> rfl
 . show (bif fs m 2 then (bif fs m 11 then some (iq m 8) else none) else none)=bif fs m 2 && (fs m 11 && true) then _ else _;cases fs m 2 <;> cases fs m 11 <;> rfl
theorem GS (op:Int) (hop:WU op):∃ a b c,za op=some ((),((a,b,c,kV op,()),()))/\(kV op).length<=3:=by rcases hop with h | h | h | h | h | h | h | h | h <;> subst h <;> exact ⟨_,_,_,rfl,by decide⟩
theorem Xs (m:cu) (hb:pG m):K2 m=Hi (ke m):=by
 unfold K2 ke;rw [Q1 m hb];cases hm:uH m with
 | false=>rfl
 | true =>
 have hk:Ok m.1=some ((),((xS m.1,()),())):=rfl;dsimp only [Option.bind_some,Bool.not_true,cond_false];rw [hk];cases xS m.1 with
 | false=>rfl
 | true =>
 show Option.bind (FF m 3) _=_;rw [Nb m 3 hb];cases h3:lO m 3 with
 | none=>rfl
 | some c =>
 have hr:KJ=some ((),((cQ,()),())):=rfl;unfold Cy;dsimp only [Option.bind_some,Bool.not_true,cond_false];rw [hr];dsimp only [Option.bind_some];refine (bn (JX m c (xo hm h3) (c,()) rfl)).trans ?_;have hop:=sr m.1 c;have hw:aq .i64 1 (gh (BC m.1 c) 0 cQ)=dX m.1 c:=by unfold dX at hop ⊢;exact bd (by omega) (by omega)
 dsimp only [Option.bind_some];rw [hw];generalize dX m.1 c=op at hop ⊢;obtain ⟨a1,a2,a3,hf,hfl⟩:=GS op hop;rw [hf];dsimp only [Option.bind_some];have hfit:cR 8 [((2:Int),()),(11,())] (kV op)=true:=Nat.ble_eq_true_of_le (by show (2 + (kV op).length) * 8<=140737488355328; omega);rw [hfit];refine (bn (Kh m hb ((2,()) :: (11,()) :: kV op) (by simp only [List.length_cons]; omega) (op,[],[],[],[],m.1,0,0,()))).trans ?_;rw [Kz m op hop];show _=Hi (Fm m op);rw [Hl m op hop];cases Eo m op with
 | false=>rfl
 | true => refine (bn (Sf (iq m op) (BV hb op))).trans ?_;cases qh (iq m op) <;> rfl
def BE (b:aS):List l4:=match jZ b with
 | (m,c)=>bif ak c 0 then (match ke m with | (q,d)=>bif ak d 0 then (bif ak q.1 6 && !(bY q.2.2.1 q.2.1) then (bif jU q.2.2.1 q.2.1 then [(q.2.2.1,()),(q.2.1,())] else [(q.2.1,()),(q.2.2.1,())]) else [(q.2.1,())]) else []) else []
theorem Dp {b:aS}:∀ {nos:aS} {a:Nat} {o l:List nJ} {e:Nat},a<=b.length->(∀ f∈o,f.2.1.length<=1048576)->kD b nos a o=some (l,e)->l.length=o.length + nos.length/\∀ f∈l,f.2.1.length<=1048576
 | [],_,_,_,_,_,ho,h=>by cases h;exact ⟨rfl,ho⟩
 | x :: r,a,o,l,e,ha,ho,h=>by
   rw [kD] at h;cases hg:nf b a x.1 with
   | none=>rw [hg] at h; cases h
   | some p =>
     rw [hg] at h;obtain ⟨_,h2,h3⟩:=rk ha hg;obtain ⟨k1,k2⟩:=Dp (nos:=r) h3 (fun f hf=>by
      rcases List.mem_append.1 hf with h | h
      . exact ho f h
      . rcases List.mem_singleton.1 h with rfl
        exact Nat.le_trans h2 (by omega)) h
     refine ⟨?_,k2⟩;rw [k1,List.length_append];simp only [List.length_cons,List.length_nil];omega
theorem ui (b:aS):pG (jZ b).1:=by
 have h0:pG ([],[],()):=⟨Nat.zero_le _,Nat.zero_le _,fun f hf=>by cases hf⟩;unfold jZ;cases hc:iO b 0 4 with
 | none=>exact h0
 | some mti =>
   cases hn:Al b with
   | none=>exact h0
   | some p =>
     obtain ⟨nos,a⟩:=p;obtain ⟨n1,n2⟩:=Bk hn;dsimp only;cases hf:kD b nos a [] with
     | none=>exact h0
     | some q =>
       obtain ⟨l,e⟩:=q;obtain ⟨k1,k2⟩:=Dp n2 (fun f hf=>by cases hf) hf;dsimp only;split
       . refine ⟨?_,?_,k2⟩
         . show mti.length<=_;rw [(dQ hc).2.1]; omega
         . show l.length<=_;rw [k1]; simp only [List.length_nil]; exact Nat.le_trans (Nat.le_of_eq (Nat.zero_add _)) (Nat.le_trans n1 (by omega))
       . exact h0
theorem LR {m:cu} (hb:pG m):IZ (ke m).1:=by
 have h0:IZ gI:=⟨Nat.zero_le _,Nat.zero_le _,Nat.zero_le _,Nat.zero_le _,Nat.zero_le _⟩;unfold ke Fm;cases uH m with
 | false=>exact h0
 | true =>
 cases xS m.1 with
 | false=>exact h0
 | true =>
 cases lO m 3 with
 | none=>exact h0
 | some c =>
 dsimp only [cond_true];cases Jq m (dX m.1 c) with
 | false=>exact h0
 | true =>
   dsimp only [cond_true];cases qh (iq m (dX m.1 c)) with
   | false=>exact h0
   | true=>exact BV hb _
theorem MM (b:aS):Ep (BE b):=by
 have h1:=LR (ui b);have h0:Ep []:=⟨Nat.zero_le _,fun x hx=>by cases hx⟩;unfold BE;generalize jZ b=p at h1 ⊢;obtain ⟨m,c⟩:=p;dsimp only at h1 ⊢;cases ak c 0 with
 | false=>exact h0
 | true =>
 generalize ke m=r at h1 ⊢;obtain ⟨q,d⟩:=r;dsimp only [cond_true] at h1 ⊢;have two:∀ x y:List UInt8,x.length<=1048576->y.length<=1048576->Ep [(x,()),(y,())]:=fun x y hx hy=>⟨Nat.le_refl _,fun z hz=>by
  rcases List.mem_cons.1 hz with rfl | hz
  . exact hx
  . rcases List.mem_singleton.1 hz with rfl
    exact hy⟩
 cases ak d 0 with
 | false=>exact h0
 | true =>
   dsimp only [cond_true];cases ak q.1 6 && !(bY q.2.2.1 q.2.1) with
   | false=>exact ⟨Nat.le_succ 1,fun z hz=>by rcases List.mem_singleton.1 hz with rfl; exact h1.1⟩
   | true =>
     dsimp only [cond_true];cases jU q.2.2.1 q.2.1 with
     | true=>exact two _ _ h1.2.1 h1.1
     | false=>exact two _ _ h1.1 h1.2.1
theorem Qt (b:aS) (hb:xH b):Uf b=some ((),((BE b,()),())):=by
 unfold Uf BE;rw [RD b hb];have hm:=ui b;unfold Fp;generalize jZ b=p at hm ⊢;obtain ⟨m,c⟩:=p;dsimp only [Option.bind_some] at hm ⊢;cases ak c 0 with
 | false=>rfl
 | true =>
   dsimp only [Bool.not_true,cond_false,cond_true];rw [WI m hm];unfold Hi;generalize ke m=r;obtain ⟨q,d⟩:=r;dsimp only [Option.bind_some];cases ak d 0 with
   | false=>rfl
   | true => dsimp only [Bool.not_true,cond_false,cond_true];cases ak q.1 6 <;> cases bY q.2.2.1 q.2.1 <;> cases jU q.2.2.1 q.2.1 <;> rfl
theorem Dh {a b:List UInt8}:bY a b=true↔a=b:=by simp [bY]
theorem Sv (b:aS) (hb:xH b):Ua b=some ((),((BE b,()),())):=by
 unfold Ua BE;rw [S4 b hb];have hm:=ui b;unfold Fp;generalize jZ b=p at hm ⊢;obtain ⟨m,c⟩:=p;dsimp only [Option.bind_some] at hm ⊢;rw [Xs m hm];unfold Hi;generalize ke m=r;obtain ⟨q,d⟩:=r;dsimp only [Option.bind_some];cases ak c 0 with
 | false=>rfl
 | true =>
 cases ak d 0 with
 | false=>rfl
 | true =>
 dsimp only [Bool.not_true,cond_false,cond_true];cases ak q.1 6 with
 | false => dsimp only [cond_false,Bool.false_and];rw [Kf]; rfl
 | true =>
   show Option.bind (AI [(q.2.1,()),(q.2.2.1,())]) _=_;rw [KT];unfold Qh;dsimp only [Option.bind_some,Bool.true_and];cases he:bY q.2.2.1 q.2.1 with
   | true => have e:=Dh.1 he;rw [e,yP];dsimp only [cond_false];rw [yR,eb]; rfl
   | false =>
     cases hc:jU q.2.2.1 q.2.1 with
     | true =>
       dsimp only [cond_true];rw [yR];have:bY q.2.1 q.2.2.1=false:=by
        cases h:bY q.2.1 q.2.2.1 with
        | false=>rfl
        | true=>rw [Dh.1 h,eb] at he; cases he
       dsimp only;rw [this]; rfl
     | false => dsimp only [cond_false];rw [yR];dsimp only;rw [he]; rfl
def mm (b:aS) (n:Int):List cK:=nq n (BE b)
abbrev cZ:=aS×Int×List cK×Int×Int×Int×Int×Int×aS×Unit
def sj (t:cZ):Prop:=xH t.1/\t.2.2.1.length<=1048576/\t.2.2.2.2.2.2.2.2.1.length<=1048576
def yc (a b:List cK):Bool:=cond (ak (ae a) (ae b)) (allI (fun i x=>ak x.1 (gt (0,()) b (i:Int)).1) 0 a) false
theorem Mp (a b:List cK) (hs:a.length<=1048576):Ud a b=some ((),((yc a b,()),())):=by
 unfold Ud yc;dsimp only;cases he:ak (ae a) (ae b) with
 | false=>rfl
 | true =>
   have hl:a.length=b.length:=by have:=dW.1 he; unfold ae at this; omega
   have h:=aE (step:=cW vc) a (fun i (_:Unit)=>(a,b,ae a,((i:Nat):Int),())) (fun i x _=>bif ak x.1 (gt (0,()) b (i:Int)).1 then Sum.inl () else .inr (.inr (false,()))) (fun _=> .inl (a,b,ae a,(a.length:Int),())) (a0:=()) (fun i x u hx=>by
    have hlt:=aj hx;show vc a b (ae a) (i:Int)=_;unfold vc;rw [aH hx,aC hx,aR _ hx,aP (by unfold aX; omega),jW (xs:=b) (by omega)];dsimp only [cond_true];show cond (!(ak x.1 (gt (0,()) b (i:Int)).1)) _ _=_;cases ak x.1 (gt (0,()) b (i:Int)).1 <;> rfl) (fun u=>by
    show vc a b (ae a) (a.length:Int)=_;unfold vc;rw [ax rfl]; rfl)
   rw [cD] at h;refine (bn h).trans ?_;dsimp only [cond_true];cases allI _ 0 a <;> rfl
theorem Q4 (a b:List cK) (hs:a.length<=1048576):Wo a b=some ((),((yc a b,()),())):=Mp a b hs
theorem Pp (t:cZ) (n:Int) (hb:sj t):UC t n=some ((),((mm t.1 n,()),())):=by unfold UC mm;rw [Qt _ hb.1];dsimp only [Option.bind_some];rw [OF _ n (MM t.1)]; rfl
theorem Qc (t:cZ) (n:Int) (hb:sj t):UP t n=some ((),((mm t.1 n,()),())):=by unfold UP mm;rw [Sv _ hb.1];dsimp only [Option.bind_some];rw [Pz _ n (MM t.1)]; rfl
def wb (t:cZ):Bool:=cond (ak t.2.1 1) (cond (bz 0 t.2.2.2.1) (au t.2.2.2.1 (ae t.2.2.1)) false) (cond (ak t.2.1 2) (cond (ak t.2.2.2.1 (ae t.2.2.1)) (au 0 (ae t.2.2.1)) false) (cond (ak t.2.1 3) (dk t.2.2.2.1 1 (ae t.2.2.1)) (ak t.2.2.2.1 0)))
def Kb (t:cZ):Bool:=cond (bz t.2.1 2) (cond (cond (cond (ak t.2.2.2.2.2.1 (-1)) (ak t.2.2.2.2.2.2.1 (-1)) false) (ak t.2.2.2.2.2.2.2.1 0) false) (ak (ae t.2.2.2.2.2.2.2.2.1) 0) false) (cond (cond (!cJ t.2.2.2.2.2.1) true (au t.2.2.2.2.2.1 t.2.2.2.2.1)) false (cond (ak t.2.1 5) (cond (cJ t.2.2.2.2.2.2.1) (bz t.2.2.2.2.2.1 t.2.2.2.2.2.2.1) false) (ak t.2.2.2.2.2.2.1 (-1))))
def kI (t:cZ) (n:Int):Bool:=cond (cond (cond (!dk n 1 5) true (au 300 (ae t.1))) true (au 200 (ae t.2.2.2.2.2.2.2.2.1))) false (cond (cJ t.2.2.2.2.1) (cond (cJ t.2.2.2.2.2.2.2.1) (cond (dk t.2.1 0 5) (cond (wb t) (cond (cond (ak t.2.1 0) (au 0 (ae t.2.2.1)) false) false (cond (cond (!(ak t.2.1 0)) (yc t.2.2.1 (mm t.1 n)) true) (Kb t) false)) false) false) false) false)
theorem PL (t:cZ) (n:Int) (hb:sj t):Uu t n=some ((),((kI t n,()),())):=by
 have hn:=Pp t n hb;have he:=Mp t.2.2.1 (mm t.1 n) hb.2.1;have hh:Uh t=some ((),((wb t,()),())):=by unfold Uh wb;dsimp only;rw [j3];cases ak t.2.1 1 <;> cases ak t.2.1 2 <;> cases ak t.2.1 3 <;> rfl
 unfold Uu;dsimp only;rw [j3,mc,mc,j3,hh,hn];dsimp only [Option.bind_some];rw [he,mc,mc];dsimp only [Option.bind_some];unfold kI Kb;generalize wb t=c1;generalize yc t.2.2.1 (mm t.1 n)=c2;generalize dk n 1 5=c3;generalize dk t.2.1 0 5=c4;generalize au 300 (ae t.1)=c5;generalize au 200 (ae t.2.2.2.2.2.2.2.2.1)=c6;generalize cJ t.2.2.2.2.1=c7;generalize cJ t.2.2.2.2.2.2.2.1=c8;generalize cJ t.2.2.2.2.2.1=c9;generalize cJ t.2.2.2.2.2.2.1=ca;generalize bz t.2.1 2=cb;generalize ak t.2.1 0=cc;generalize ak t.2.1 5=cd;generalize au 0 (ae t.2.2.1)=ce;cases c3 <;> first | rfl | skip
 cases c5 <;> first | rfl | skip
 cases c6 <;> first | rfl | skip
 cases c7 <;> first | rfl | skip
 cases c8 <;> first | rfl | skip
 cases c4 <;> first | rfl | skip
 cases c1 <;> first | rfl | skip
 cases cc <;> cases ce <;> cases c2 <;> first | rfl | skip
 all_goals (cases cb <;> first | rfl | skip)
 all_goals (cases c9 <;> first | rfl | skip)
 all_goals (cases au t.2.2.2.2.2.1 t.2.2.2.2.1 <;> cases cd <;> cases ca <;> rfl)
theorem MS {α:Type} {h:Int} {xs:List α} (hs:xs.length<=1048576):dk h 0 (aG .i64 (ae xs) 1)=cond (bz 0 h) (au h (ae xs)) false:=by
 unfold ae;rw [aO (by omega) (by omega)];unfold dk;have:bz h ((xs.length:Int) - 1)=au h (xs.length:Int):=by unfold bz au;exact decide_eq_decide.2 (by omega)
 rw [this]
theorem zN {pc:Int} (h:dk pc 0 5=true):pc=0∨pc=1∨pc=2∨pc=3∨pc=4∨pc=5:=by have:=fg.1 h;omega
theorem P8 (t:cZ) (n:Int) (hb:sj t):SG t n=some ((),((kI t n,()),())):=by
 obtain ⟨d,pc,st,held,inv,lin,res,at',rep,u⟩:=t;have hn:=Qc (d,pc,st,held,inv,lin,res,at',rep,u) n hb;have he:=Q4 st (mm d n) hb.2.1;have hl:= @MS _ held st hb.2.1;cases hpc:dk pc 0 5 with
 | false =>
   have hp:R8 pc=some ((),(([],()),())):=by unfold R8;rw [iF,hpc]; rfl
   unfold SG kI;dsimp only;rw [iF,hp];dsimp only [Option.bind_some];rw [hpc];cases dk n 1 5 <;> first | rfl | skip
   cases au 300 (ae d) <;> cases au 200 (ae rep) <;> cases cJ inv <;> cases cJ at' <;> rfl
 | true =>
   have hp:∃ nm,R8 pc=some ((),((nm,()),()))/\bY nm []=false:=by rcases zN hpc with h | h | h | h | h | h <;> subst h <;> exact ⟨_,rfl,rfl⟩
   obtain ⟨nm,hp,hne⟩:=hp;unfold SG kI wb Kb;dsimp only;rw [iF,hp];dsimp only [Option.bind_some];rw [hne,mC,mC,mC,mC,iF,iF,hn,hl,hpc];dsimp only [Option.bind_some];rw [he];dsimp only [Option.bind_some];generalize yc st (mm d n)=c2;generalize dk n 1 5=c3;generalize au 300 (ae d)=c5;generalize au 200 (ae rep)=c6;generalize cJ inv=c7;generalize cJ at'=c8;generalize cJ lin=c9;generalize cJ res=ca;generalize dk held 1 (ae st)=cg;generalize au 0 (ae st)=ce;generalize ak held (ae st)=ch;generalize bz 0 held=ci;generalize au held (ae st)=cj;generalize ak held 0=ck;cases c3 <;> first | rfl | skip
   cases c5 <;> first | rfl | skip
   cases c6 <;> first | rfl | skip
   cases c7 <;> first | rfl | skip
   cases c8 <;> first | rfl | skip
   clear hp hn he hl;rcases zN hpc with h | h | h | h | h | h <;> subst h
   . simp only [show ak (0:Int) 0=true from rfl,show ak (0:Int) 1=false from rfl,show ak (0:Int) 2=false from rfl,show ak (0:Int) 3=false from rfl,show au (0:Int) 3=true from rfl,show bz (0:Int) 2=true from rfl,cond_true,cond_false,Bool.not_true,Bool.not_false];cases ce <;> cases ck <;> rfl
   . simp only [show ak (1:Int) 0=false from rfl,show ak (1:Int) 1=true from rfl,show au (1:Int) 3=true from rfl,show bz (1:Int) 2=true from rfl,cond_true,cond_false,Bool.not_true,Bool.not_false];cases c2 <;> cases ci <;> cases cj <;> rfl
   . simp only [show ak (2:Int) 0=false from rfl,show ak (2:Int) 1=false from rfl,show ak (2:Int) 2=true from rfl,show au (2:Int) 3=true from rfl,show bz (2:Int) 2=true from rfl,cond_true,cond_false,Bool.not_true,Bool.not_false];cases c2 <;> cases ch <;> cases ce <;> rfl
   . simp only [show ak (3:Int) 0=false from rfl,show ak (3:Int) 1=false from rfl,show ak (3:Int) 2=false from rfl,show ak (3:Int) 3=true from rfl,show ak (3:Int) 5=false from rfl,show au (3:Int) 3=false from rfl,show bz (3:Int) 2=false from rfl,cond_true,cond_false,Bool.not_true,Bool.not_false];cases c2 <;> cases cg <;> cases c9 <;> cases au lin inv <;> rfl
   . simp only [show ak (4:Int) 0=false from rfl,show ak (4:Int) 1=false from rfl,show ak (4:Int) 2=false from rfl,show ak (4:Int) 3=false from rfl,show ak (4:Int) 5=false from rfl,show au (4:Int) 3=false from rfl,show bz (4:Int) 2=false from rfl,cond_true,cond_false,Bool.not_true,Bool.not_false];cases c2 <;> cases ck <;> cases c9 <;> cases au lin inv <;> rfl
   . simp only [show ak (5:Int) 0=false from rfl,show ak (5:Int) 1=false from rfl,show ak (5:Int) 2=false from rfl,show ak (5:Int) 3=false from rfl,show ak (5:Int) 5=true from rfl,show au (5:Int) 3=false from rfl,show bz (5:Int) 2=false from rfl,cond_true,cond_false,Bool.not_true,Bool.not_false];cases c2 <;> cases ck <;> cases c9 <;> cases au lin inv <;> cases ca <;> rfl
theorem zJ {α:Type} (p:α->Bool):∀ (xs:List α) (i:Nat),bz 0 (gh p i xs)=xs.any p
 | [],_=>rfl
 | x :: r,i=>by
   rw [gh,List.any_cons];cases p x with
   | true=>exact decide_eq_true (by show (0:Int)<=(i:Int); omega)
   | false=>exact zJ p r (i + 1)
theorem AZ (a b:Int):ak a b=ak b a:=by unfold ak;exact Bool.beq_comm
def Fv (v:Int) (xs:List cK):Bool:=xs.any fun y=>ak v y.1
theorem yS {α Y:Type} (p:α->Bool) (y:Y) (z:Y):∀ (xs:List α) (i:Nat),kl (fun _ x (_:Unit)=>bif p x then Sum.inr y else .inl ()) (fun _=>z) i xs ()=bif xs.any p then y else z
 | [],_=>rfl
 | x :: r,i=>by
   rw [kl,List.any_cons];cases p x with
   | true=>rfl
   | false=>exact yS p y z r (i + 1)
theorem NB (xs:List cK) (v:Int) (hs:xs.length<=1048576):N6 xs v=some ((),((Fv v xs,()),())):=by rw [wF xs v hs,zJ]; rfl
theorem RL (xs:List cK) (v:Int) (hs:xs.length<=1048576):Ul xs v=some ((),((Fv v xs,()),())):=by
 have h:=aE (step:=cW uX) xs (fun i (_:Unit)=>(v,xs,ae xs,((i:Nat):Int),())) (fun _ x _=>bif ak v x.1 then Sum.inr (.inr (true,())) else .inl ()) (fun _=> .inl (v,xs,ae xs,(xs.length:Int),())) (a0:=()) (fun i x u hx=>by
  have hlt:=aj hx;show uX v xs (ae xs) (i:Int)=_;unfold uX;rw [aH hx,aC hx,aR _ hx,aP (by unfold aX; omega),AZ x.1 v];cases ak v x.1 <;> rfl) (fun u=>by
  show uX v xs (ae xs) (xs.length:Int)=_;unfold uX;rw [ax rfl]; rfl)
 rw [yS] at h;unfold Ul;refine (bn h).trans ?_;unfold Fv;cases xs.any fun y=>ak v y.1 <;> rfl
def qK (t:cZ):Nat:=min t.2.2.2.1.toNat t.2.2.1.length
def EV (t:cZ) (k:Int):Bool:=Fv k (t.2.2.1.take (qK t))
theorem R7 (t:cZ) (k:Int) (hb:sj t):Uo t k=some ((),((EV t k,()),())):=by
 have hs:=hb.2.1;have hle:qK t<=t.2.2.1.length:=Nat.min_le_right _ _;have hl:(t.2.2.1.take (qK t)).length=qK t:=by rw [List.length_take]; omega
 have h:=aE (step:=fb uo) (t.2.2.1.take (qK t)) (fun i (_:Unit)=>(k,((i:Nat):Int),t,())) (fun _ x _=>bif ak k x.1 then Sum.inr (.inr (true,())) else .inl ()) (fun _=> .inl (k,((qK t:Nat):Int),t,())) (a0:=()) (fun i x u hx=>by
  have hlt:=aj hx;rw [hl] at hlt;rw [List.getElem?_take,if_pos hlt] at hx;have h1:i < t.2.2.2.1.toNat:=Nat.lt_of_lt_of_le hlt (Nat.min_le_left _ _);show uo k (i:Int) t=_;unfold uo;rw [aF (show (i:Int) < t.2.2.2.1 by omega),aH hx,aC hx,aR _ hx,aP (by unfold aX; omega),AZ x.1 k];cases ak k x.1 <;> rfl) (fun u=>by
  rw [hl];show uo k ((qK t:Nat):Int) t=_;unfold uo;have:cond (au ((qK t:Nat):Int) t.2.2.2.1) (au ((qK t:Nat):Int) (ae t.2.2.1)) false=false:=by
   unfold qK;rcases Nat.le_total t.2.2.2.1.toNat t.2.2.1.length with h | h
   . rw [Nat.min_eq_left h,ay (by omega)]; rfl
   . rw [Nat.min_eq_right h,ax rfl]; cases au _ _ <;> rfl
  rw [this]; rfl)
 rw [yS] at h;unfold Uo;refine (bn h).trans ?_;unfold EV Fv;cases List.any _ _ <;> rfl
theorem Rs (t:cZ) (k:Int) (hb:sj t):UM t k=some ((),((EV t k,()),())):=by
 have hs:=hb.2.1;have hle:qK t<=t.2.2.1.length:=Nat.min_le_right _ _;have hu:EO 0 (E6 t.2.2.2.1 (ae t.2.2.1))=((qK t:Nat):Int):=by unfold EO E6 qK ae;split <;> split <;> omega
 unfold UM;dsimp only;rw [hu,iU hle,qC,NB _ k (by rw [List.length_take]; omega)]; rfl
noncomputable def sH (l:List fO):List aN:=open Classical in if h:∃ M,lx dt M/\eo dt (fj l) M then Classical.choose h else []
theorem Cb {l:List fO} (hB:wU l):(sH l).length=(fj l).length/\(∀ x∈sH l,x∈fj l)/\lx dt (sH l)/\eo dt (fj l) (sH l)/\MP l=some ((),((sH l,()),()))/\Oc l=some ((),((sH l,()),())):=by
 obtain ⟨M,⟨m1,m2⟩,m3⟩:=AX l hB;obtain ⟨M',p0,p1,p2,p3,p4⟩:=FD l hB;have e0:M=M':=by have h:=m3.symm.trans p3;simp only [Option.some.injEq,Prod.mk.injEq,true_and,and_true] at h;exact h
 subst e0;have hex:∃ M,lx dt M/\eo dt (fj l) M:=⟨M,m1,m2⟩;have e:sH l=M:=by unfold sH;rw [dif_pos hex];exact pC fe (Classical.choose_spec hex).1 m1 ((Classical.choose_spec hex).2.symm.trans m2)
 rw [e];exact ⟨p0,p1,m1,m2,p3,p4⟩
theorem Nj {l:List fO} (hB:wU l):I4 (sH l):=by obtain ⟨h1,h2,_⟩:=Cb hB;refine ⟨by rw [h1]; exact hB.2.1,fun a ha => ?_⟩;have:=h2 a ha;unfold fj at this;obtain ⟨xs,hx,hm⟩:=List.mem_flatten.1 this;obtain ⟨s,hs,rfl⟩:=List.mem_map.1 hx;exact hB.2.2 s hs a hm
def qn (n k:Int) (xs:List aN) (i:Nat) (a:aN):Bool:=cond (ak (aw a.1 n) k) (cond (decide (0 < i)) (jU (gt d92 xs ((i:Int) - 1)).1 a.1) true) false
def BR (n k:Int) (xs:List aN):Bool:=allI (qn n k xs) 0 xs
def ja (n:Int) (k:Nat) (s:fO):Bool:=cond (dk s.1 (-1) 11) (BR n (k:Int) s.2.1) false
noncomputable def yp (l:List fO):Bool:=cond (dk (ae l) 1 5) (cond (allI (ja (ae l)) 0 l) (zM (sH l)) false) false
theorem Qs (l t11:List fO) (k t12 t13:Int) (s:fO) (hl:l.length<=1048576) (hs:s.2.1.length<=1048576) (hb:∀ a∈s.2.1,jo a):MY l k t11 t12 t13 s.2.1 (ae s.2.1) 0 s=some (bif BR (ae l) k s.2.1 then .inl (l,k,t11,t12,t13,s.2.1,ae s.2.1,(s.2.1.length:Int),s,()) else .inr (false,())):=by
 have h:=aE (step:=CN wm) s.2.1 (fun i (_:Unit)=>(l,k,t11,t12,t13,s.2.1,ae s.2.1,((i:Nat):Int),s,())) (fun i x _=>bif qn (ae l) k s.2.1 i x then Sum.inl () else .inr (.inr (false,()))) (fun _=> .inl (l,k,t11,t12,t13,s.2.1,ae s.2.1,(s.2.1.length:Int),s,())) (a0:=()) (fun i x u hx=>by
  have hlt:=aj hx;show wm l k t11 t12 t13 s.2.1 (ae s.2.1) (i:Int) s=_;unfold wm qn;rw [aH hx,aC hx,aR _ hx,qa x.1 (ae l) (ct (hb x (List.mem_of_getElem? hx)).1),aP (by unfold aX; omega)];dsimp only [cond_true,Option.bind_some];cases ak (aw x.1 (ae l)) k with
  | false=>rfl
  | true =>
    by_cases h0:0 < i
    . rw [aF (show (0:Int) < i by omega),aO (by omega) (by omega),il hx h0,decide_eq_true h0];dsimp only [cond_true,cond_false,Bool.not_true];cases jU (gt d92 s.2.1 ((i:Int) - 1)).1 x.1 <;> rfl
    . rw [ay (show ¬ (0:Int) < i by omega),decide_eq_false h0]; rfl) (fun u=>by
  show wm l k t11 t12 t13 s.2.1 (ae s.2.1) (s.2.1.length:Int) s=_;unfold wm;rw [ax rfl]; rfl)
 rw [cD] at h;refine Eq.trans h ?_;unfold BR;cases allI _ 0 s.2.1 <;> rfl
theorem T9 (l t11:List fO) (k t12 t13:Int) (s:fO) (hl:l.length<=1048576) (hs:s.2.1.length<=1048576) (hb:∀ a∈s.2.1,jo a):Nq l k t11 t12 t13 s.2.1 (ae s.2.1) 0 s=some (bif BR (ae l) k s.2.1 then .inl (l,k,t11,t12,t13,s.2.1,ae s.2.1,(s.2.1.length:Int),s,()) else .inr (false,())):=by
 have h:=aE (step:=CN uI) s.2.1 (fun i (_:Unit)=>(l,k,t11,t12,t13,s.2.1,ae s.2.1,((i:Nat):Int),s,())) (fun i x _=>bif qn (ae l) k s.2.1 i x then Sum.inl () else .inr (.inr (false,()))) (fun _=> .inl (l,k,t11,t12,t13,s.2.1,ae s.2.1,(s.2.1.length:Int),s,())) (a0:=()) (fun i x u hx=>by
  have hlt:=aj hx;show uI l k t11 t12 t13 s.2.1 (ae s.2.1) (i:Int) s=_;unfold uI qn;rw [aH hx,aC hx,aR _ hx,zQ x.1 (ae l) (ct (hb x (List.mem_of_getElem? hx)).1),aP (by unfold aX; omega)];dsimp only [cond_true,Option.bind_some];cases ak (aw x.1 (ae l)) k with
  | false=>rfl
  | true =>
    by_cases h0:0 < i
    . rw [aF (show (0:Int) < i by omega),aO (by omega) (by omega),il hx h0,decide_eq_true h0,sP];dsimp only [cond_true,cond_false,Bool.not_true];cases jU (gt d92 s.2.1 ((i:Int) - 1)).1 x.1 <;> rfl
    . rw [ay (show ¬ (0:Int) < i by omega),decide_eq_false h0]; rfl) (fun u=>by
  show uI l k t11 t12 t13 s.2.1 (ae s.2.1) (s.2.1.length:Int) s=_;unfold uI;rw [ax rfl]; rfl)
 rw [cD] at h;refine Eq.trans h ?_;unfold BR;cases allI _ 0 s.2.1 <;> rfl
theorem GA {l:List fO} (hB:wU l) {i:Nat} {s:fO} (h:l[i]? = some s):s.2.1.length<=1048576:=by have h1:=qS h;have h2:=xZ l (i + 1);rw [h1,List.length_append] at h2;have:=hB.2.1;omega
theorem SV (l:List fO) (hB:wU l):Ue l=some ((),((yp l,()),())):=by
 have hl:=hB.1;obtain ⟨_,_,_,_,hg,_⟩:=Cb hB;unfold Ue yp;dsimp only;rw [j3];cases dk (ae l) 1 5 with
 | false=>rfl
 | true =>
 have h:=aE (step:=cW uE) l (fun i (_:Unit)=>(l,l,ae l,((i:Nat):Int),())) (fun i x _=>bif ja (ae l) i x then Sum.inl () else .inr (.inr (false,()))) (fun _=> .inl (l,l,ae l,(l.length:Int),())) (a0:=()) (fun i x u hx=>by
  have hlt:=aj hx;show uE l l (ae l) (i:Int)=_;unfold uE ja;rw [aH hx,aC hx,aR _ hx];dsimp only [cond_true];rw [j3];dsimp only [Option.bind_some];cases dk x.1 (-1) 11 with
  | false=>rfl
  | true =>
    dsimp only [Bool.not_true,cond_false,cond_true];rw [Qs l l (i:Int) (ae l) (i:Int) x hl (GA hB hx) (hB.2.2 x (List.mem_of_getElem? hx))];cases BR (ae l) (i:Int) x.2.1 with
    | false=>rfl
    | true =>
      dsimp only [cond_true,Option.bind_some,Sum.elim_inl];rw [aP (by unfold aX; omega)]; rfl) (fun u=>by
  show uE l l (ae l) (l.length:Int)=_;unfold uE;rw [ax rfl]; rfl)
 rw [cD] at h;refine (bn h).trans ?_;cases allI (ja (ae l)) 0 l with
 | false=>rfl
 | true => show Option.bind (MP l) _=_;rw [hg];show Option.bind (RX (sH l,())) _=_;rw [Ov _ (Nj hB)]; rfl
theorem S7 (l:List fO) (hB:wU l):UN l=some ((),((yp l,()),())):=by
 have hl:=hB.1;obtain ⟨_,_,_,_,_,hg⟩:=Cb hB;unfold UN yp;have h:=aE (step:=cW uw) l (fun i (_:Unit)=>(l,l,ae l,((i:Nat):Int),())) (fun i x _=>bif ja (ae l) i x then Sum.inl () else .inr (.inr (false,()))) (fun _=> .inl (l,l,ae l,(l.length:Int),())) (a0:=()) (fun i x u hx=>by
  have hlt:=aj hx;show uw l l (ae l) (i:Int)=_;unfold uw ja;rw [aH hx,aC hx,aR _ hx];dsimp only [cond_true];rw [iF];dsimp only [Option.bind_some];cases dk x.1 (-1) 11 with
  | false=>rfl
  | true =>
    dsimp only [Bool.not_true,cond_false,cond_true];rw [T9 l l (i:Int) (ae l) (i:Int) x hl (GA hB hx) (hB.2.2 x (List.mem_of_getElem? hx))];cases BR (ae l) (i:Int) x.2.1 with
    | false=>rfl
    | true =>
      dsimp only [cond_true,Option.bind_some,Sum.elim_inl];rw [aP (by unfold aX; omega)]; rfl) (fun u=>by
  show uw l l (ae l) (l.length:Int)=_;unfold uw;rw [ax rfl]; rfl)
 rw [cD] at h;refine (bn h).trans ?_;cases allI (ja (ae l)) 0 l with
 | false => cases dk (ae l) 1 5 <;> rfl
 | true =>
   dsimp only [cond_true,Option.bind_some,Sum.elim_inl];rw [iF];dsimp only [Option.bind_some];cases dk (ae l) 1 5 with
   | false=>rfl
   | true => show Option.bind (Oc l) _=_;rw [hg];show Option.bind (Sa (sH l,())) _=_;rw [Pj _ (Nj hB)]; rfl
abbrev dU:=List fO×Int×Int×List cZ×Unit
def jz (w:dU):Prop:=wU w.1/\w.2.2.2.1.length<=1048576/\∀ t∈w.2.2.2.1,sj t
def ni (t:cZ):List cK:=[(t.2.2.2.2.1,()),(t.2.2.2.2.2.1,()),(t.2.2.2.2.2.2.1,())]
def jK (n:Int):List cK->List cK->Option (List cK)
 | [],o=>some o
 | x :: r,o=>bif ak x.1 (-1) then jK n r o else bif bz n x.1 then none else bif Fv x.1 o then none else jK n r (o ++ [x])
def Au (n:Int) (x:cK) (o:List cK) (y:Unit):Sum (List cK) Unit:=bif ak x.1 (-1) then .inl o else bif bz n x.1 then .inr y else bif Fv x.1 o then .inr y else .inl (o ++ [x])
theorem tk {Y:Type} (n:Int) (y:Y) (z:List cK->Y):∀ (xs:List cK) (i:Nat) (o:List cK),kl (fun _ x o=>match Au n x o () with | .inl o'=>Sum.inl o' | .inr _=> .inr y) z i xs o=match jK n xs o with | some o'=>z o' | none=>y
 | [],_,_=>rfl
 | x :: r,i,o=>by
   rw [kl,jK];unfold Au;cases ak x.1 (-1) with
   | true=>exact tk n y z r (i + 1) o
   | false =>
     cases bz n x.1 with
     | true=>rfl
     | false =>
       cases Fv x.1 o with
       | true=>rfl
       | false=>exact tk n y z r (i + 1) _
theorem py (n:Int):∀ (xs o o':List cK),jK n xs o=some o'->o'.length<=o.length + xs.length
 | [],o,o',h=>by cases h; exact Nat.le_refl _
 | x :: r,o,o',h=>by
   rw [jK] at h;cases h1:ak x.1 (-1) <;> rw [h1] at h
   . cases h2:bz n x.1 <;> rw [h2] at h
     . cases h3:Fv x.1 o <;> rw [h3] at h
       . have:=py n r _ _ h;rw [List.length_append] at this;simp only [List.length_cons,List.length_nil] at this ⊢;omega
       . cases h
     . cases h
   . have:=py n r _ _ h;simp only [List.length_cons];omega
theorem XS (n:Int) (o:List cK) (t11:List cZ) (t12 t13:Int) (xs:List cK) (hx:xs.length<=3) (ho:o.length<=1000):Mc n o t11 t12 t13 xs (ae xs) 0=some (match jK n xs o with | some o'=> .inl (n,o',t11,t12,t13,xs,ae xs,ae xs,()) | none=> .inr (false,())):=by
 have h:=a6 (step:=xM wG) xs (fun i (o:List cK)=>(n,o,t11,t12,t13,xs,ae xs,((i:Nat):Int),())) (fun _ x o=>match Au n x o () with | .inl o'=>Sum.inl o' | .inr _=> .inr (.inr (false,()))) (fun o=> .inl (n,o,t11,t12,t13,xs,ae xs,ae xs,())) (fun i o=>o.length<=1000 + i) (a0:=o) ho (fun i x o hx' ho'=>by
  have hlt:=aj hx';show wG n o t11 t12 t13 xs (ae xs) (i:Int)=_;unfold wG;rw [aH hx',aC hx',aR _ hx',aP (by unfold aX; omega)];dsimp only [cond_true];rw [RL o x.1 (by omega)];dsimp only [Option.bind_some];rw [Gq (by omega)];unfold Au;cases ak x.1 (-1) <;> cases bz n x.1 <;> cases Fv x.1 o <;> rfl) (fun i x o o' hx' ho' hf=>by
  unfold Au at hf;cases h1:ak x.1 (-1) <;> rw [h1] at hf
  . cases h2:bz n x.1 <;> rw [h2] at hf
    . cases h3:Fv x.1 o <;> rw [h3] at hf
      . cases hf;rw [List.length_append]; show o.length + 1<=_; omega
      . cases hf
    . cases hf
  . cases hf; omega) (fun o ho'=>by
  show wG n o t11 t12 t13 xs (ae xs) (xs.length:Int)=_;unfold wG;rw [ax rfl]; rfl)
 rw [tk] at h;refine Eq.trans h ?_;cases jK n xs o <;> rfl
theorem UX (n:Int) (o:List cK) (t36:List cZ) (t37 t38:Int) (xs:List cK) (w:dU) (hn:w.2.2.1=n) (hx:xs.length<=3) (ho:o.length<=1000):MZ o t36 t37 t38 xs (ae xs) 0 w=some (match jK n xs o with | some o'=> .inl (o',t36,t37,t38,xs,ae xs,ae xs,w,()) | none=> .inr (false,())):=by
 subst hn;have h:=a6 (step:=xM vQ) xs (fun i (o:List cK)=>(o,t36,t37,t38,xs,ae xs,((i:Nat):Int),w,())) (fun _ x o=>match Au w.2.2.1 x o () with | .inl o'=>Sum.inl o' | .inr _=> .inr (.inr (false,()))) (fun o=> .inl (o,t36,t37,t38,xs,ae xs,ae xs,w,())) (fun i o=>o.length<=1000 + i) (a0:=o) ho (fun i x o hx' ho'=>by
  have hlt:=aj hx';show vQ o t36 t37 t38 xs (ae xs) (i:Int) w=_;unfold vQ;rw [aH hx',aC hx',aR _ hx',aP (by unfold aX; omega)];dsimp only [cond_true];rw [NB o x.1 (by omega)];dsimp only [Option.bind_some];rw [Gq (by omega)];unfold Au;cases ak x.1 (-1) <;> cases bz w.2.2.1 x.1 <;> cases Fv x.1 o <;> rfl) (fun i x o o' hx' ho' hf=>by
  unfold Au at hf;cases h1:ak x.1 (-1) <;> rw [h1] at hf
  . cases h2:bz w.2.2.1 x.1 <;> rw [h2] at hf
    . cases h3:Fv x.1 o <;> rw [h3] at hf
      . cases hf;rw [List.length_append]; show o.length + 1<=_; omega
      . cases hf
    . cases hf
  . cases hf; omega) (fun o ho'=>by
  show vQ o t36 t37 t38 xs (ae xs) (xs.length:Int) w=_;unfold vQ;rw [ax rfl]; rfl)
 rw [tk] at h;refine Eq.trans h ?_;cases jK w.2.2.1 xs o <;> rfl
def jL (n:Int):List cZ->List cK->Option (List cK)
 | [],o=>some o
 | t :: r,o=>(jK n (ni t) o).bind (jL n r)
def zG (L now:Int) (t:cZ):Bool:=cond (kI t L) (!(au now t.2.2.2.2.2.2.2.1)) false
theorem C7 {Y:Type} (n:Int) (y:Y) (z:List cK->Y):∀ (xs:List cZ) (i:Nat) (o:List cK),kl (fun _ x o=>match jK n (ni x) o with | some o'=>Sum.inl o' | none=> .inr y) z i xs o=match jL n xs o with | some o'=>z o' | none=>y
 | [],_,_=>rfl
 | x :: r,i,o=>by
   rw [kl,jL];cases jK n (ni x) o with
   | none=>rfl
   | some o'=>exact C7 n y z r (i + 1) o'
theorem DH {Y:Type} (L now n:Int) (y:Y) (z:Y->Prop) (Z:List cK->Y) (hZ:∀ o,z (Z o)):∀ (xs:List cZ) (i:Nat) (o:List cK),(bif xs.all (zG L now) && (jL n xs o).isSome then z (kl (fun _ x o=>bif zG L now x then (match jK n (ni x) o with | some o'=>Sum.inl o' | none=> .inr y) else .inr y) Z i xs o) else kl (fun _ x o=>bif zG L now x then (match jK n (ni x) o with | some o'=>Sum.inl o' | none=> .inr y) else .inr y) Z i xs o=y:Prop)
 | [],_,o=>hZ o
 | x :: r,i,o=>by
   rw [kl,jL,List.all_cons];cases zG L now x with
   | false=>rfl
   | true =>
     cases jK n (ni x) o with
     | none=>rw [show (none:Option (List cK)).bind (jL n r)=none from rfl]; cases r.all (zG L now) <;> rfl
     | some o'=>exact DH L now n y z Z hZ r (i + 1) o'
theorem QS (n:Int) (ts:List cZ) (ht:ts.length<=12):Uz ts n=some ((),(((jL n ts []).isSome,()),())):=by
 have h:=a6 (step:=gi wE) ts (fun i (o:List cK)=>(n,o,ts,ae ts,((i:Nat):Int),())) (fun _ x o=>match jK n (ni x) o with | some o'=>Sum.inl o' | none=> .inr (.inr (false,()))) (fun o=> .inl (n,o,ts,ae ts,(ts.length:Int),())) (fun i o=>o.length<=3 * i) (a0:=[]) (Nat.le_refl _) (fun i x o hx ho=>by
  have hlt:=aj hx;show wE n o ts (ae ts) (i:Int)=_;unfold wE;rw [aH hx,aC hx,aR _ hx];dsimp only [cond_true];refine (bn (XS n o ts (ae ts) (i:Int) (ni x) (Nat.le_refl _) (by omega))).trans ?_;cases jK n (ni x) o with
  | none=>rfl
  | some o' =>
    dsimp only [Option.bind_some,Sum.elim_inl];rw [aP (by unfold aX; omega)] <;> rfl) (fun i x o o' hx ho hf=>by
  cases hs:jK n (ni x) o with
  | none=>rw [hs] at hf; cases hf
  | some o2 =>
    rw [hs] at hf;cases hf;have:=py n _ _ _ hs;have e:(ni x).length=3:=rfl;omega) (fun o ho=>by
  show wE n o ts (ae ts) (ts.length:Int)=_;unfold wE;rw [ax rfl]; rfl)
 rw [C7] at h;unfold Uz;refine (bn h).trans ?_;cases jL n ts [] <;> rfl
theorem zT (w:dU) (hb:jz w):On w.2.2.2.1 (ae w.2.2.2.1) 0 w=some (bif w.2.2.2.1.all (zG (ae w.1) w.2.1) then .inl (w.2.2.2.1,ae w.2.2.2.1,ae w.2.2.2.1,w,()) else .inr (false,())):=by
 have hl:=hb.2.1;have h:=aE (step:=cW BJ) w.2.2.2.1 (fun i (_:Unit)=>(w.2.2.2.1,ae w.2.2.2.1,((i:Nat):Int),w,())) (fun _ x _=>bif zG (ae w.1) w.2.1 x then Sum.inl () else .inr (.inr (false,()))) (fun _=> .inl (w.2.2.2.1,ae w.2.2.2.1,ae w.2.2.2.1,w,())) (a0:=()) (fun i x u hx=>by
  have hlt:=aj hx;show BJ w.2.2.2.1 (ae w.2.2.2.1) (i:Int) w=_;unfold BJ zG;rw [aH hx,aC hx,aR _ hx,aP (by unfold aX; omega)];dsimp only [cond_true];rw [PL x (ae w.1) (hb.2.2 x (List.mem_of_getElem? hx))];dsimp only [Option.bind_some];cases kI x (ae w.1) <;> cases au w.2.1 x.2.2.2.2.2.2.2.1 <;> rfl) (fun u=>by
  show BJ w.2.2.2.1 (ae w.2.2.2.1) (w.2.2.2.1.length:Int) w=_;unfold BJ;rw [ax rfl]; rfl)
 rw [fN] at h;refine Eq.trans h ?_;cases w.2.2.2.1.all (zG (ae w.1) w.2.1) <;> rfl
theorem AD (w:dU) (hb:jz w) (h12:w.2.2.2.1.length<=12):∃ y,Nt [] w.2.2.2.1 (ae w.2.2.2.1) 0 w=some y/\(bif w.2.2.2.1.all (zG (ae w.1) w.2.1) && (jL w.2.2.1 w.2.2.2.1 []).isSome then (∃ o,y= .inl (o,w.2.2.2.1,ae w.2.2.2.1,ae w.2.2.2.1,w,())) else y= .inr (false,()):Prop):=by
 have h:=a6 (step:=gi uC) w.2.2.2.1 (fun i (o:List cK)=>(o,w.2.2.2.1,ae w.2.2.2.1,((i:Nat):Int),w,())) (fun _ x o=>bif zG (ae w.1) w.2.1 x then (match jK w.2.2.1 (ni x) o with | some o'=>Sum.inl o' | none=> .inr (.inr (false,()))) else .inr (.inr (false,()))) (fun o=> .inl (o,w.2.2.2.1,ae w.2.2.2.1,ae w.2.2.2.1,w,())) (fun i o=>o.length<=3 * i) (a0:=[]) (Nat.le_refl _) (fun i x o hx ho=>by
  have hlt:=aj hx;show uC o w.2.2.2.1 (ae w.2.2.2.1) (i:Int) w=_;unfold uC zG;rw [aH hx,aC hx,aR _ hx];dsimp only [cond_true];rw [P8 x (ae w.1) (hb.2.2 x (List.mem_of_getElem? hx))];dsimp only [Option.bind_some];cases kI x (ae w.1) with
  | false=>rfl
  | true =>
  cases au w.2.1 x.2.2.2.2.2.2.2.1 with
  | true=>rfl
  | false =>
    dsimp only [Bool.not_true,Bool.not_false,cond_false,cond_true];refine (bn (UX w.2.2.1 o w.2.2.2.1 (ae w.2.2.2.1) (i:Int) (ni x) w rfl (Nat.le_refl _) (by omega))).trans ?_;cases jK w.2.2.1 (ni x) o with
    | none=>rfl
    | some o' =>
      dsimp only [Option.bind_some,Sum.elim_inl];rw [aP (by unfold aX; omega)] <;> rfl) (fun i x o o' hx ho hf=>by
  cases hk:zG (ae w.1) w.2.1 x with
  | false=>rw [hk] at hf; cases hf
  | true =>
    rw [hk] at hf;cases hs:jK w.2.2.1 (ni x) o with
    | none=>rw [hs] at hf; cases hf
    | some o2 =>
      rw [hs] at hf;cases hf;have:=py w.2.2.1 _ _ _ hs;have e:(ni x).length=3:=rfl;omega) (fun o ho=>by
  show uC o w.2.2.2.1 (ae w.2.2.2.1) (w.2.2.2.1.length:Int) w=_;unfold uC;rw [ax rfl]; rfl)
 exact ⟨_,h,DH (Y:=Sum (List cK×List cZ×Int×Int×dU×Unit) (Bool×Unit)) (ae w.1) w.2.1 w.2.2.1 (.inr (false,())) (fun y=>∃ o,y= .inl (o,w.2.2.2.1,ae w.2.2.2.1,ae w.2.2.2.1,w,())) _ (fun o=>⟨o,rfl⟩) w.2.2.2.1 0 []⟩
def gB (o k:Int) (i:Nat) (t:cZ):Bool:=P6 (EV t k) (ak o (i:Int))
def ea (ts:List cZ) (k:Nat) (s:fO):Bool:=cond (bz (ae ts) s.1) false (allI (gB s.1 (k:Int)) 0 ts)
theorem RQ (w:dU) (hb:jz w) (k t62:Int) (l:List fO) (s:fO):QZ k l t62 k w.2.2.2.1 (ae w.2.2.2.1) 0 w s=some (bif allI (gB s.1 k) 0 w.2.2.2.1 then .inl (k,l,t62,k,w.2.2.2.1,ae w.2.2.2.1,ae w.2.2.2.1,w,s,()) else .inr (false,())):=by
 have hl:=hb.2.1;have h:=aE (step:=CN B3) w.2.2.2.1 (fun i (_:Unit)=>(k,l,t62,k,w.2.2.2.1,ae w.2.2.2.1,((i:Nat):Int),w,s,())) (fun i x _=>bif gB s.1 k i x then Sum.inl () else .inr (.inr (false,()))) (fun _=> .inl (k,l,t62,k,w.2.2.2.1,ae w.2.2.2.1,ae w.2.2.2.1,w,s,())) (a0:=()) (fun i x u hx=>by
  have hlt:=aj hx;show B3 k l t62 k w.2.2.2.1 (ae w.2.2.2.1) (i:Int) w s=_;unfold B3 gB;rw [aH hx,aC hx,aR _ hx,aP (by unfold aX; omega),R7 x k (hb.2.2 x (List.mem_of_getElem? hx))];dsimp only [cond_true,Option.bind_some];cases P6 (EV x k) (ak s.1 (i:Int)) <;> rfl) (fun u=>by
  show B3 k l t62 k w.2.2.2.1 (ae w.2.2.2.1) (w.2.2.2.1.length:Int) w s=_;unfold B3;rw [ax rfl]; rfl)
 rw [cD] at h;refine Eq.trans h ?_;cases allI (gB s.1 k) 0 w.2.2.2.1 <;> rfl
theorem QW (w:dU) (hb:jz w) (k t62:Int) (l:List fO) (s:fO):MF k l t62 k w.2.2.2.1 (ae w.2.2.2.1) 0 w s=some (bif allI (gB s.1 k) 0 w.2.2.2.1 then .inl (k,l,t62,k,w.2.2.2.1,ae w.2.2.2.1,ae w.2.2.2.1,w,s,()) else .inr (false,())):=by
 have hl:=hb.2.1;have h:=aE (step:=CN vf) w.2.2.2.1 (fun i (_:Unit)=>(k,l,t62,k,w.2.2.2.1,ae w.2.2.2.1,((i:Nat):Int),w,s,())) (fun i x _=>bif gB s.1 k i x then Sum.inl () else .inr (.inr (false,()))) (fun _=> .inl (k,l,t62,k,w.2.2.2.1,ae w.2.2.2.1,ae w.2.2.2.1,w,s,())) (a0:=()) (fun i x u hx=>by
  have hlt:=aj hx;show vf k l t62 k w.2.2.2.1 (ae w.2.2.2.1) (i:Int) w s=_;unfold vf gB;rw [aH hx,aC hx,aR _ hx,aP (by unfold aX; omega),Rs x k (hb.2.2 x (List.mem_of_getElem? hx))];dsimp only [cond_true,Option.bind_some];cases P6 (EV x k) (ak s.1 (i:Int)) <;> rfl) (fun u=>by
  show vf k l t62 k w.2.2.2.1 (ae w.2.2.2.1) (w.2.2.2.1.length:Int) w s=_;unfold vf;rw [ax rfl]; rfl)
 rw [cD] at h;refine Eq.trans h ?_;cases allI (gB s.1 k) 0 w.2.2.2.1 <;> rfl
theorem OV (w:dU) (hb:jz w):Rf w.1 (ae w.1) 0 w=some (bif allI (ea w.2.2.2.1) 0 w.1 then .inl (w.1,ae w.1,ae w.1,w,()) else .inr (false,())):=by
 have hl:=hb.1.1;have h:=aE (step:=cW BF) w.1 (fun i (_:Unit)=>(w.1,ae w.1,((i:Nat):Int),w,())) (fun i x _=>bif ea w.2.2.2.1 i x then Sum.inl () else .inr (.inr (false,()))) (fun _=> .inl (w.1,ae w.1,ae w.1,w,())) (a0:=()) (fun i x u hx=>by
  have hlt:=aj hx;show BF w.1 (ae w.1) (i:Int) w=_;unfold BF ea;rw [aH hx,aC hx,aR _ hx];dsimp only [cond_true];cases bz (ae w.2.2.2.1) x.1 with
  | true=>rfl
  | false =>
    dsimp only [cond_false];rw [RQ w hb (i:Int) (ae w.1) w.1 x];cases allI (gB x.1 (i:Int)) 0 w.2.2.2.1 with
    | false=>rfl
    | true =>
      dsimp only [cond_true,Option.bind_some,Sum.elim_inl];rw [aP (by unfold aX; omega)] <;> rfl) (fun u=>by
  show BF w.1 (ae w.1) (w.1.length:Int) w=_;unfold BF;rw [ax rfl]; rfl)
 rw [cD] at h;refine Eq.trans h ?_;cases allI (ea w.2.2.2.1) 0 w.1 <;> rfl
theorem PE (w:dU) (hb:jz w):Md w.1 (ae w.1) 0 w=some (bif allI (ea w.2.2.2.1) 0 w.1 then .inl (w.1,ae w.1,ae w.1,w,()) else .inr (false,())):=by
 have hl:=hb.1.1;have h:=aE (step:=cW vp) w.1 (fun i (_:Unit)=>(w.1,ae w.1,((i:Nat):Int),w,())) (fun i x _=>bif ea w.2.2.2.1 i x then Sum.inl () else .inr (.inr (false,()))) (fun _=> .inl (w.1,ae w.1,ae w.1,w,())) (a0:=()) (fun i x u hx=>by
  have hlt:=aj hx;show vp w.1 (ae w.1) (i:Int) w=_;unfold vp ea;rw [aH hx,aC hx,aR _ hx];dsimp only [cond_true];cases bz (ae w.2.2.2.1) x.1 with
  | true=>rfl
  | false =>
    dsimp only [cond_false];rw [QW w hb (i:Int) (ae w.1) w.1 x];cases allI (gB x.1 (i:Int)) 0 w.2.2.2.1 with
    | false=>rfl
    | true =>
      dsimp only [cond_true,Option.bind_some,Sum.elim_inl];rw [aP (by unfold aX; omega)] <;> rfl) (fun u=>by
  show vp w.1 (ae w.1) (w.1.length:Int) w=_;unfold vp;rw [ax rfl]; rfl)
 rw [cD] at h;refine Eq.trans h ?_;cases allI (ea w.2.2.2.1) 0 w.1 <;> rfl
noncomputable def eM (w:dU):Bool:=cond (yp w.1) (cond (cJ w.2.1) (cond (cond (!cJ w.2.2.1) true (au 12 (ae w.2.2.2.1))) false (cond (w.2.2.2.1.all (zG (ae w.1) w.2.1) && (jL w.2.2.1 w.2.2.2.1 []).isSome) (allI (ea w.2.2.2.1) 0 w.1) false)) false) false
theorem Td (w:dU) (hb:jz w):g9 w=some ((),((eM w,()),())):=by
 unfold g9 eM;rw [SV w.1 hb.1,mc,mc];dsimp only [Option.bind_some];cases yp w.1 with
 | false=>rfl
 | true =>
 cases cJ w.2.1 with
 | false=>rfl
 | true =>
 cases cJ w.2.2.1 with
 | false=>rfl
 | true =>
 cases h12:au 12 (ae w.2.2.2.1) with
 | true=>rfl
 | false =>
 have hl:w.2.2.2.1.length<=12:=by have:=of_decide_eq_false h12;unfold ae at this;omega
 dsimp only [Bool.not_true,cond_false,cond_true];rw [QS w.2.2.1 w.2.2.2.1 hl];dsimp only [Option.bind_some];cases (jL w.2.2.1 w.2.2.2.1 []).isSome with
 | false=>rw [Bool.and_false]; rfl
 | true =>
 show Option.bind (On w.2.2.2.1 (ae w.2.2.2.1) 0 w) _=_;rw [zT w hb,Bool.and_true];cases w.2.2.2.1.all (zG (ae w.1) w.2.1) with
 | false=>rfl
 | true =>
 dsimp only [cond_true,Option.bind_some,Sum.elim_inl];rw [OV w hb];cases allI (ea w.2.2.2.1) 0 w.1 <;> rfl
theorem Rc (w:dU) (hb:jz w):g11 w=some ((),((eM w,()),())):=by
 unfold g11 eM;rw [S7 w.1 hb.1,mC,mC];dsimp only [Option.bind_some];cases yp w.1 with
 | false=>rfl
 | true =>
 cases cJ w.2.1 with
 | false=>rfl
 | true =>
 cases cJ w.2.2.1 with
 | false=>rfl
 | true =>
 cases h12:au 12 (ae w.2.2.2.1) with
 | true=>rfl
 | false =>
 have hl:w.2.2.2.1.length<=12:=by have:=of_decide_eq_false h12;unfold ae at this;omega
 dsimp only [Bool.not_true,cond_false,cond_true];obtain ⟨y,h1,h2⟩:=AD w hb hl;rw [h1];dsimp only [Option.bind_some];cases hc:w.2.2.2.1.all (zG (ae w.1) w.2.1) && (jL w.2.2.1 w.2.2.2.1 []).isSome with
 | false => rw [hc] at h2;have h2:y= .inr (false,()):=h2;rw [h2]; rfl
 | true => rw [hc] at h2;obtain ⟨o,rfl⟩:=h2;dsimp only [cond_true,Sum.elim_inl];rw [PE w hb];cases allI (ea w.2.2.2.1) 0 w.1 <;> rfl
def Yk:cZ:=([],0,[],0,0,0,0,0,[],())
def gm:fO:=(0,[],())
theorem K5 {a b:List cK} (h:yc a b=true):a=b:=by
 unfold yc at h;cases hl:ak (ae a) (ae b) with
 | false=>rw [hl] at h; cases h
 | true =>
   rw [hl] at h;have hlen:a.length=b.length:=by have:=dW.1 hl; unfold ae at this; omega
   refine List.ext_getElem? fun i => ?_
   by_cases hi:i < a.length
   . have hx:a[i]? = some (a[i]'hi):=List.getElem?_eq_getElem hi;have hy:b[i]? = some (b[i]'(by omega)):=List.getElem?_eq_getElem (by omega);have:=wx _ h hx;rw [Nat.zero_add,aR _ hy] at this;rw [hx,hy];exact congrArg some (Prod.ext (dW.1 this) rfl)
   . rw [List.getElem?_eq_none (by omega),List.getElem?_eq_none (by omega)]
theorem Ns (n:Int) (a b:l4):nq n [a,b]=bif au (aw b.1 n) (aw a.1 n) then [(aw b.1 n,()),(aw a.1 n,())] else bif ak (aw b.1 n) (aw a.1 n) then [(aw a.1 n,())] else [(aw a.1 n,()),(aw b.1 n,())]:=rfl
theorem Hp {n:Int} (hn:1<=n):∀ {ids:List l4} {x:cK},x∈nq n ids->0<=x.1/\x.1 < n
 | [],x,h=>by cases h
 | [a],x,h=>by
   rcases List.mem_singleton.1 h with rfl
   exact rr a.1 hn
 | [a,b],x,h=>by
   have ha:=rr a.1 hn;have hb:=rr b.1 hn;rw [Ns] at h;cases h1:au (aw b.1 n) (aw a.1 n) <;> rw [h1] at h
   . cases h2:ak (aw b.1 n) (aw a.1 n) <;> rw [h2] at h
     . rcases List.mem_cons.1 h with rfl | h
       . exact ha
       . rcases List.mem_singleton.1 h with rfl
         exact hb
     . rcases List.mem_singleton.1 h with rfl
       exact ha
   . rcases List.mem_cons.1 h with rfl | h
     . exact hb
     . rcases List.mem_singleton.1 h with rfl
       exact ha
 | _ :: _ :: _ :: _,x,h=>by cases h
theorem GY (n:Int):∀ (ids:List l4),(nq n ids).length<=2
 | []=>Nat.zero_le _
 | [a]=>by show 1<=2; omega
 | [a,b]=>by rw [Ns];cases au (aw b.1 n) (aw a.1 n) <;> cases ak (aw b.1 n) (aw a.1 n) <;> first | exact Nat.le_refl 2 | exact Nat.le_succ 1
 | _ :: _ :: _ :: _=>Nat.zero_le _
theorem Fu {t:cZ} {n:Int} (h:kI t n=true):(1<=n/\n<=5)/\(0<=t.2.1/\t.2.1<=5)/\wb t=true/\(t.2.1=0->t.2.2.1=[])/\(t.2.1≠0->t.2.2.1=mm t.1 n)/\Kb t=true/\cJ t.2.2.2.2.1=true/\cJ t.2.2.2.2.2.2.2.1=true/\t.1.length<=300/\t.2.2.2.2.2.2.2.2.1.length<=200:=by
 unfold kI at h;cases h1:dk n 1 5 with
 | false=>rw [h1] at h; cases h
 | true =>
 cases h2:au 300 (ae t.1) with
 | true=>rw [h1,h2] at h; cases h
 | false =>
 cases h3:au 200 (ae t.2.2.2.2.2.2.2.2.1) with
 | true=>rw [h1,h2,h3] at h; cases h
 | false =>
 rw [h1,h2,h3] at h;cases h4:cJ t.2.2.2.2.1 with
 | false=>rw [h4] at h; cases h
 | true =>
 cases h5:cJ t.2.2.2.2.2.2.2.1 with
 | false=>rw [h4,h5] at h; cases h
 | true =>
 cases h6:dk t.2.1 0 5 with
 | false=>rw [h4,h5,h6] at h; cases h
 | true =>
 cases h7:wb t with
 | false=>rw [h4,h5,h6,h7] at h; cases h
 | true =>
 rw [h4,h5,h6,h7] at h;cases h8:cond (ak t.2.1 0) (au 0 (ae t.2.2.1)) false with
 | true=>rw [h8] at h; cases h
 | false =>
 rw [h8] at h;cases h9:cond (!(ak t.2.1 0)) (yc t.2.2.1 (mm t.1 n)) true with
 | false=>rw [h9] at h; cases h
 | true =>
 rw [h9] at h;refine ⟨fg.1 h1,fg.1 h6,rfl,fun e => ?_,fun e => ?_,h,rfl,rfl,?_,?_⟩
 . rw [e] at h8;have:=of_decide_eq_false (show decide ((0:Int) < (t.2.2.1.length:Int))=false from h8);exact List.length_eq_zero_iff.1 (by omega)
 . rw [show ak t.2.1 0=false from beq_eq_false_iff_ne.2 e] at h9;exact K5 h9
 . have:=of_decide_eq_false (show decide ((300:Int) < (t.1.length:Int))=false from h2);omega
 . have:=of_decide_eq_false (show decide ((200:Int) < (t.2.2.2.2.2.2.2.2.1.length:Int))=false from h3);omega
theorem Jl {w:dU} (h:eM w=true):yp w.1=true/\cJ w.2.1=true/\cJ w.2.2.1=true/\w.2.2.2.1.length<=12/\(∀ t∈w.2.2.2.1,kI t (ae w.1)=true/\au w.2.1 t.2.2.2.2.2.2.2.1=false)/\(jL w.2.2.1 w.2.2.2.1 []).isSome=true/\allI (ea w.2.2.2.1) 0 w.1=true:=by
 unfold eM at h;cases h1:yp w.1 with
 | false=>rw [h1] at h; cases h
 | true =>
 cases h2:cJ w.2.1 with
 | false=>rw [h1,h2] at h; cases h
 | true =>
 cases h3:cJ w.2.2.1 with
 | false=>rw [h1,h2,h3] at h; cases h
 | true =>
 cases h4:au 12 (ae w.2.2.2.1) with
 | true=>rw [h1,h2,h3,h4] at h; cases h
 | false =>
 rw [h1,h2,h3,h4] at h;cases h5:w.2.2.2.1.all (zG (ae w.1) w.2.1) && (jL w.2.2.1 w.2.2.2.1 []).isSome with
 | false=>rw [h5] at h; cases h
 | true =>
 rw [h5] at h;have h6:=(Bool.and_eq_true _ _).mp h5;refine ⟨rfl,rfl,rfl,?_,fun t ht => ?_,h6.2,h⟩
 . have:=of_decide_eq_false (show decide ((12:Int) < (w.2.2.2.1.length:Int))=false from h4);omega
 . have:=List.all_eq_true.1 h6.1 t ht;unfold zG at this;cases h7:kI t (ae w.1) with
   | false=>rw [h7] at this; cases this
   | true =>
     rw [h7] at this;refine ⟨rfl,?_⟩;cases h8:au w.2.1 t.2.2.2.2.2.2.2.1 with
     | false=>rfl
     | true=>rw [h8] at this; cases this
def ia (t:cZ):Int:=cond (!(ak t.2.1 1)) (-1) (cond (dk t.2.2.2.1 0 (aG .i64 (ae t.2.2.1) 1)) (gt (0,()) t.2.2.1 t.2.2.2.1).1 (-1))
theorem zr {α:Type} {k:Int} {xs:List α} (hs:xs.length<=1048576) (h:dk k 0 (aG .i64 (ae xs) 1)=true):∃ (n:Nat) (x:α),k=n/\xs[n]? = some x:=by
 rw [MS hs] at h;cases h1:bz 0 k with
 | false=>rw [h1] at h; cases h
 | true => rw [h1] at h;have a1:(0:Int)<=k:=of_decide_eq_true h1;have a2:k < (xs.length:Int):=of_decide_eq_true h;exact ⟨k.toNat,xs[k.toNat]'(by omega),by omega,List.getElem?_eq_getElem (by omega)⟩
theorem Ii (t:cZ) (hb:t.2.2.1.length<=1048576):Uc t=some ((),((ia t,()),())):=by
 unfold Uc ia;rw [j3];cases ak t.2.1 1 with
 | false=>rfl
 | true =>
   dsimp only [Bool.not_true,cond_false,Option.bind_some];cases hi:dk t.2.2.2.1 0 (aG .i64 (ae t.2.2.1) 1) with
   | false=>rfl
   | true => obtain ⟨n,x,hk,hx⟩:=zr hb hi;rw [hk,aC hx]; rfl
theorem PI (t:cZ) (hb:t.2.2.1.length<=1048576):Wx t=some ((),((ia t,()),())):=Ii t hb
theorem J4 {t:cZ} {n:Int} (h:kI t n=true):ia t = -1∨(0<=ia t/\ia t < n):=by
 obtain ⟨h1,_,_,_,h5,_⟩:=Fu h;have hle:t.2.2.1.length<=2∨t.2.1=0:=by
  by_cases h0:t.2.1=0
  . exact Or.inr h0
  . rw [h5 h0]; exact Or.inl (GY _ _)
 unfold ia;cases he:ak t.2.1 1 with
 | false=>exact Or.inl rfl
 | true =>
   have e:=dW.1 he;have hne:t.2.1≠0:=by omega
   rcases hle with hl | hl
   rotate_left
   . exact absurd hl hne
   cases hi:dk t.2.2.2.1 0 (aG .i64 (ae t.2.2.1) 1) with
   | false=>exact Or.inl rfl
   | true => obtain ⟨k,x,hk,hx⟩:=zr (by omega) hi;rw [hk];dsimp only [cond_true];rw [aR _ hx];have:=List.mem_of_getElem? hx;rw [h5 hne] at this;exact Or.inr (Hp h1.1 this)
noncomputable def Dx (w:dU) (k:Int):Int:=cond (eM w) (cond (dk k 0 (aG .i64 (ae w.2.2.2.1) 1)) (cond (au (ia (gt Yk w.2.2.2.1 k)) 0) (-1) (gt gm w.1 (ia (gt Yk w.2.2.2.1 k))).1) (-1)) (-1)
theorem D0 {w:dU} (h:eM w=true) {t:cZ} (ht:t∈w.2.2.2.1) (h0:au (ia t) 0=false):a7 (ia t) w.1=true:=by
 have h0:¬ ia t < 0:=of_decide_eq_false h0;rcases J4 ((Jl h).2.2.2.2.1 t ht).1 with h1 | ⟨h1,h2⟩
 . omega
 . have h2:ia t < (w.1.length:Int):=h2;have:ia t=((ia t).toNat:Int):=by omega
   rw [this];exact jW (by omega)
theorem Oj (w:dU) (k:Int) (hb:jz w):g13 w k=some ((),((Dx w k,()),())):=by
 unfold g13 Dx;rw [Td w hb,j3];dsimp only [Option.bind_some];cases hw:eM w with
 | false=>rfl
 | true =>
   dsimp only [Bool.not_true,cond_false,cond_true];cases hi:dk k 0 (aG .i64 (ae w.2.2.2.1) 1) with
   | false=>rfl
   | true =>
     obtain ⟨n,t,rfl,hx⟩:=zr hb.2.1 hi;have ht:=List.mem_of_getElem? hx;dsimp only [Bool.not_true,cond_false,cond_true];rw [aC hx,aR _ hx,aR _ hx];dsimp only [cond_true];rw [Ii t (hb.2.2 t ht).2.1];dsimp only [Option.bind_some];cases h0:au (ia t) 0 with
     | true=>rfl
     | false=>rw [D0 hw ht h0]; rfl
theorem OX (w:dU) (k:Int) (hb:jz w):g14 w k=some ((),((Dx w k,()),())):=by
 unfold g14 Dx;rw [Rc w hb,iF];dsimp only [Option.bind_some];cases hi:dk k 0 (aG .i64 (ae w.2.2.2.1) 1) with
 | false=>cases eM w <;> rfl
 | true =>
   dsimp only [Bool.not_true,cond_false,cond_true];cases hw:eM w with
   | false=>rfl
   | true =>
     obtain ⟨n,t,rfl,hx⟩:=zr hb.2.1 hi;have ht:=List.mem_of_getElem? hx;dsimp only [Bool.not_true,cond_false,cond_true];rw [aC hx,aR _ hx,aR _ hx];dsimp only [cond_true];rw [PI t (hb.2.2 t ht).2.1];dsimp only [Option.bind_some];cases h0:au (ia t) 0 with
     | true=>rfl
     | false=>rw [D0 hw ht h0]; rfl
end Go.Av
