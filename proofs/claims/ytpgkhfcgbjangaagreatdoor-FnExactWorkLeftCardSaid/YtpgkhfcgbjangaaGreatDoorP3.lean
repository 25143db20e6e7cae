/- Part of a proof that the law FnExactWorkLeft answers true for every input: the printed functions of this program and their plain laws. No conditions beyond the statement. -/
import Derived.Test.YtpgkhfcgbjangaaGreatDoorQ3
set_option maxRecDepth 100000
set_option maxHeartbeats 4000000
namespace Go.Av
abbrev nM:=Int×List UInt8×Unit
abbrev cu:=List UInt8×List nM×Unit
def pW (m:cu):Prop:=m.1.length<=1048576/\m.2.1.length<=1048576/\∀ f∈m.2.1,f.2.1.length<=1048576
def fL (xs:List nM) (i:Nat) (x:nM):Bool:=cond (iH x.1 x.2.1) (cond (decide (0 < i)) (!(bz x.1 (gt (0,[],()) xs ((i:Int) - 1)).1)) true) false
def ug (m:cu):Bool:=cond (cond (aS m.1) (aj (ae m.1) 4) false) (allI (fL m.2.1) 0 m.2.1) false
theorem BN (m:cu) (hb:pW m):BG m.2.1 (ae m.2.1) 0 m=some (bif allI (fL m.2.1) 0 m.2.1 then .inl (m.2.1,ae m.2.1,(m.2.1.length:Int),m,()) else .inr (false,())):=by
 have hbig:aX=140737488355328:=rfl;obtain ⟨mti,xs,u⟩:=m;obtain ⟨_,hl,hf⟩:=hb;dsimp only at hl hf ⊢;have h:=aD (step:=cW nC) xs (fun i (_:Unit)=>(xs,ae xs,((i:Nat):Int),(mti,xs,()),())) (fun i x _=>bif fL xs i x then Sum.inl () else .inr (.inr (false,()))) (fun _=> .inl (xs,ae xs,(xs.length:Int),(mti,xs,()),())) (a0:=()) (fun i x a hx=>by
  have hlt:=ak hx;show nC xs (ae xs) (i:Int) (mti,xs,())=_;unfold nC fL;rw [aG hx,aC hx,aV _ hx];dsimp only [cond_true];rw [SY _ _ (cl (hf x (List.mem_of_getElem? hx))),aP (by omega)];dsimp only [Option.bind_some];cases iH x.1 x.2.1 with
  | false=>rfl
  | true =>
    by_cases h0:0 < i
    . rw [aF (show (0:Int) < i by omega),aN (by omega) (by omega),ie hx h0];dsimp only [cond_true,cond_false,Bool.not_true];have e:gt d178 xs ((i:Int) - 1)=gt (0,[],()) xs ((i:Int) - 1):=rfl;rw [e,decide_eq_true h0];cases bz x.1 (gt (0,[],()) xs ((i:Int) - 1)).1 <;> rfl
    . rw [az (show ¬ (0:Int) < i by omega),decide_eq_false h0]; rfl) (fun a=>by
  show nC xs (ae xs) (xs.length:Int) (mti,xs,())=_;unfold nC;rw [ax rfl]; rfl)
 rw [cC] at h;have h':BG xs (ae xs) 0 (mti,xs,())=_:=h;rw [h']
theorem QN (m:cu) (hb:pW m):J0 m=some ((),((ug m,()),())):=by
 unfold J0 ug;rw [fG _ (cl hb.1)];dsimp only [Option.bind_some];cases aS m.1 with
 | false=>rfl
 | true =>
 cases aj (ae m.1) 4 with
 | false=>rfl
 | true => refine (bn (BN m hb)).trans ?_;show _=some ((),((allI (fL m.2.1) 0 m.2.1,()),()));cases allI (fL m.2.1) 0 m.2.1 <;> rfl
theorem BL (m:cu) (hb:pW m):B5 m.2.1 (ae m.2.1) 0 m=some (bif allI (fL m.2.1) 0 m.2.1 then .inl (m.2.1,ae m.2.1,(m.2.1.length:Int),m,()) else .inr (false,())):=by
 have hbig:aX=140737488355328:=rfl;obtain ⟨mti,xs,u⟩:=m;obtain ⟨_,hl,hf⟩:=hb;dsimp only at hl hf ⊢;have h:=aD (step:=cW nO) xs (fun i (_:Unit)=>(xs,ae xs,((i:Nat):Int),(mti,xs,()),())) (fun i x _=>bif fL xs i x then Sum.inl () else .inr (.inr (false,()))) (fun _=> .inl (xs,ae xs,(xs.length:Int),(mti,xs,()),())) (a0:=()) (fun i x a hx=>by
  have hlt:=ak hx;show nO xs (ae xs) (i:Int) (mti,xs,())=_;unfold nO fL;rw [aG hx,aC hx,aV _ hx];dsimp only [cond_true];rw [G9 _ _ (cl (hf x (List.mem_of_getElem? hx))),aP (by omega)];dsimp only [Option.bind_some];cases iH x.1 x.2.1 with
  | false=>rfl
  | true =>
    by_cases h0:0 < i
    . rw [aF (show (0:Int) < i by omega),aN (by omega) (by omega),ie hx h0];dsimp only [cond_true,cond_false,Bool.not_true];have e:gt d178 xs ((i:Int) - 1)=gt (0,[],()) xs ((i:Int) - 1):=rfl;rw [e,decide_eq_true h0];cases bz x.1 (gt (0,[],()) xs ((i:Int) - 1)).1 <;> rfl
    . rw [az (show ¬ (0:Int) < i by omega),decide_eq_false h0]; rfl) (fun a=>by
  show nO xs (ae xs) (xs.length:Int) (mti,xs,())=_;unfold nO;rw [ax rfl]; rfl)
 rw [cC] at h;have h':B5 xs (ae xs) 0 (mti,xs,())=_:=h;rw [h']
theorem Fc (s:List UInt8) (n:Int) (hs:s.length<=aX):vc s n=some ((),((cond (aS s) (aj (ae s) n) false,()),())):=by unfold vc;rw [gF s hs]; rfl
theorem Tb (m:cu) (hb:pW m):Lp m=some ((),((ug m,()),())):=by
 unfold Lp ug;refine (bn (BL m hb)).trans ?_;cases allI (fL m.2.1) 0 m.2.1 with
 | true =>
   show Option.bind (vc m.1 4) _=_;rw [Fc m.1 4 (cl hb.1)];dsimp only [Option.bind_some];cases aS m.1 with
   | false=>rfl
   | true=>cases aj (ae m.1) 4 <;> rfl
 | false =>
   cases aS m.1 with
   | false=>rfl
   | true=>cases aj (ae m.1) 4 <;> rfl
def lN (m:cu) (no:Int):Option (List UInt8):=(m.2.1.find? fun f=>aj f.1 no).map (·.2.1)
def CP (o:Option (List UInt8)):Option (Unit×((List UInt8×Unit)×(Bool×Unit)×Unit)):=some ((),match o with | some s=>((s,()),(true,()),()) | none=>(([],()),(false,()),()))
theorem uA (m:cu) (no:Int) (hb:pW m):jK m no=CP (lN m no):=by
 have hbig:aX=140737488355328:=rfl;have hl:=hb.2.1;unfold jK;have h:=aD (step:=cW oU) m.2.1 (fun i (_:Unit)=>(no,m.2.1,ae m.2.1,((i:Nat):Int),())) (fun i x _=>bif aj x.1 no then .inr (.inr (x.2.1,true,())) else .inl ()) (fun _=> .inl (no,m.2.1,ae m.2.1,(m.2.1.length:Int),())) (a0:=()) (fun i x a hx=>by
  have hlt:=ak hx;show oU no m.2.1 (ae m.2.1) (i:Int)=_;unfold oU;rw [aG hx,aC hx,aV _ hx,aP (by omega)];dsimp only [cond_true];cases aj x.1 no <;> rfl) (fun a=>by
  show oU no m.2.1 (ae m.2.1) (m.2.1.length:Int)=_;unfold oU;rw [ax rfl]; rfl)
 rw [mV] at h;have h':F5 no m.2.1 (ae m.2.1) 0=_:=h;refine (bn h').trans ?_;unfold lN CP;cases m.2.1.find? _ <;> rfl
theorem Ma (m:cu) (no:Int) (hb:pW m):EC m no=CP (lN m no):=by
 have hbig:aX=140737488355328:=rfl;have hl:=hb.2.1;unfold EC;have h:=aD (step:=cW nV) m.2.1 (fun i (_:Unit)=>(no,m.2.1,ae m.2.1,((i:Nat):Int),())) (fun i x _=>bif aj x.1 no then .inr (.inr (x.2.1,true,())) else .inl ()) (fun _=> .inl (no,m.2.1,ae m.2.1,(m.2.1.length:Int),())) (a0:=()) (fun i x a hx=>by
  have hlt:=ak hx;show nV no m.2.1 (ae m.2.1) (i:Int)=_;unfold nV;rw [aG hx,aC hx,aV _ hx,aP (by omega)];dsimp only [cond_true];cases aj x.1 no <;> rfl) (fun a=>by
  show nV no m.2.1 (ae m.2.1) (m.2.1.length:Int)=_;unfold nV;rw [ax rfl]; rfl)
 rw [mV] at h;have h':Jp no m.2.1 (ae m.2.1) 0=_:=h;refine (bn h').trans ?_;unfold lN CP;cases m.2.1.find? _ <;> rfl
def kE (b:aR):aR->Nat->List nM->Option (List nM×Nat)
 | [],a,o=>some (o,a)
 | x :: r,a,o=>match nj b a x.1 with
   | some (s,e)=>kE b r e (o ++ [(x.1,s,())])
   | none=>none
def il (l:aR):aR:=l.map fun x=>(aq .i64 x.1 64,())
def sN (x:Int×Unit):Bool:= !(aj (bk x.1) 0)
def eH (l:aR):aR:=l.filter fun x=> !(aj x.1 1)
def fU (l:aR):Bool:=l.any fun x=>aj x.1 1
def zO (b:aR):Option (aR×Nat) :=
 if 10<=b.length then
  (bif fU (dR (er b 2 8)) then
    (if 18<=b.length/\dR (er b 10 8)≠[] then (bif (eH (dR (er b 2 8)) ++ il (dR (er b 10 8))).all sN then some (eH (dR (er b 2 8)) ++ il (dR (er b 10 8)),18) else none) else none)
  else (bif (eH (dR (er b 2 8))).all sN then some (eH (dR (er b 2 8)),10) else none))
 else none
def jX (b:aR):cu×Int:=match iG b 0 4 with
 | none=>(([],[],()),1)
 | some mti=>match zO b with
   | none=>(([],[],()),2)
   | some (nos,a)=>match kE b nos a [] with
     | none=>(([],[],()),3)
     | some (l,e)=>if e=b.length then ((mti,l,()),0) else (([],[],()),4)
def FC (p:cu×Int):Option (Unit×(cu×(Int×Unit)×Unit)):=some ((),(p.1,(p.2,()),()))
theorem Ry (b:aR) (hb:xX b) (h2:2<=b.length):I8 b=some ((),match zO b with | some p=>((p.1,()),((p.2:Int),()),(true,()),()) | none=>(([],()),(0,()),(false,()),())):=by
 have hbig:aX=140737488355328:=rfl;have hl:=hb.1;unfold I8 zO;have h0:CB b 2=_:=H4 b 2 hb h2;unfold np at h0;refine (bn h0).trans ?_;by_cases h10:10<=b.length;rotate_left
 . rw [if_neg h10,if_neg h10]; rfl
 rw [if_pos h10,if_pos h10];have k1:=kq (er b 2 8);generalize dR (er b 2 8)=lo at k1 ⊢;have hlow:GV b 10 [] false lo (ae lo) 0=some (.inl (b,10,eH lo,fU lo,lo,ae lo,(lo.length:Int),())):=by
  have h:=a6 (step:=Jy od) lo (fun i (o:aR×Bool)=>(b,10,o.1,o.2,lo,ae lo,((i:Nat):Int),())) (fun _ x o=>Sum.inl (bif aj x.1 1 then (o.1,true) else (o.1 ++ [x],o.2))) (fun o=> .inl (b,10,o.1,o.2,lo,ae lo,(lo.length:Int),())) (fun i o=>o.1.length<=i) (a0:=([],false)) (Nat.le_refl _) (fun i x o hx ho=>by
   have hlt:=ak hx;show od b 10 o.1 o.2 lo (ae lo) (i:Int)=_;unfold od;rw [aG hx,aC hx,aV _ hx,aP (by omega)];have:cQ 8 o.1 [x]=true:=Nat.ble_eq_true_of_le (by show (o.1.length + 1) * 8<=aX; omega);dsimp only [cond_true];rw [this];cases aj x.1 1 <;> rfl) (fun i x o o' hx ho hf=>by
   simp only [Sum.inl.injEq] at hf;rw [<- hf];cases aj x.1 1 with
   | true=>show o.1.length<=_; omega
   | false=>show (o.1 ++ [x]).length<=_; rw [List.length_append]; show o.1.length + 1<=_; omega) (fun o ho=>by
   show od b 10 o.1 o.2 lo (ae lo) (lo.length:Int)=_;unfold od;rw [ax rfl]; rfl)
  have hfold:∀ (l:aR) (o:aR×Bool),l.foldl (fun o x=>bif aj x.1 1 then (o.1,true) else (o.1 ++ [x],o.2)) o=(o.1 ++ eH l,o.2 || fU l):=fun l=>by
   induction l with
   | nil=>intro o; simp [eH,fU]
   | cons x r ih => intro o;rw [List.foldl_cons,ih];unfold eH fU;rw [List.filter_cons,List.any_cons];cases aj x.1 1 <;> simp
  rw [bC,hfold] at h;exact h
 have hchk:∀ (nos:aR) (a:Int),nos.length<=1000->Cj () a nos (ae nos) 0=some (bif nos.all sN then .inl ((),a,nos,ae nos,(nos.length:Int),()) else .inr ([],0,false,())):=fun nos a hn=>by
  have h:=aD (step:=ft oW) nos (fun i (_:Unit)=>((),a,nos,ae nos,((i:Nat):Int),())) (fun _ x _=>bif sN x then Sum.inl () else .inr (.inr ([],0,false,()))) (fun _=> .inl ((),a,nos,ae nos,(nos.length:Int),())) (a0:=()) (fun i x o hx=>by
   have hlt:=ak hx;show oW () a nos (ae nos) (i:Int)=_;unfold oW;rw [aG hx,aC hx,aV _ hx,aP (by omega),B9];dsimp only [cond_true,Option.bind_some];unfold sN;cases aj (bk x.1) 0 <;> rfl) (fun o=>by
   show oW () a nos (ae nos) (nos.length:Int)=_;unfold oW;rw [ax rfl]; rfl)
  rw [fM] at h;refine Eq.trans h ?_;cases nos.all sN <;> rfl
 have hlen:(eH lo).length<=64:=Nat.le_trans (List.length_filter_le _ _) k1;refine (bn hlow).trans ?_;show cond (fU lo) _ _=_;cases fU lo with
 | false => refine (bn (hchk (eH lo) 10 (by omega))).trans ?_;cases (eH lo).all sN <;> rfl
 | true =>
   have h1:CB b 10=_:=H4 b 10 hb h10;unfold np at h1;refine (bn h1).trans ?_;by_cases h18:18<=b.length;rotate_left
   . rw [if_neg h18,if_neg (fun h=>h18 h.1)]; rfl
   rw [if_pos h18];have k2:=kq (er b 10 8);have k3:= @F9 (er b 10 8);generalize dR (er b 10 8)=hi at k2 k3 ⊢;by_cases hne:hi=[]
   . rw [if_neg (fun h=>h.2 hne),hne]; rfl
   rw [if_pos ⟨h18,hne⟩];have he:aj (ae hi) 0=false:=beq_eq_false_iff_ne.2 (by
    show (hi.length:Int)≠0;cases hi with
    | nil=>exact absurd rfl hne
    | cons x r=>show ((r.length + 1:Nat):Int)≠0; omega)
   have hhi:Ip (eH lo) 18 hi (ae hi) 0=some (.inl (eH lo ++ il hi,18,hi,ae hi,(hi.length:Int),())):=by
    have h:=a6 (step:=ft nE) hi (fun i (o:aR)=>(o,18,hi,ae hi,((i:Nat):Int),())) (fun _ x o=>Sum.inl (o ++ [(aq .i64 x.1 64,())])) (fun o=> .inl (o,18,hi,ae hi,(hi.length:Int),())) (fun i o=>o.length=(eH lo).length + i) (a0:=eH lo) rfl (fun i x o hx ho=>by
     have hlt:=ak hx;show nE o 18 hi (ae hi) (i:Int)=_;unfold nE;rw [aG hx,aC hx,aV _ hx,aP (by omega)];have:cQ 8 o [(aq .i64 x.1 64,())]=true:=Nat.ble_eq_true_of_le (by show (o.length + 1) * 8<=aX; omega);rw [this]; rfl) (fun i x o o' hx ho hf=>by
     simp only [Sum.inl.injEq] at hf;rw [<- hf,List.length_append,ho]; rfl) (fun o ho=>by
     show nE o 18 hi (ae hi) (hi.length:Int)=_;unfold nE;rw [ax rfl]; rfl)
    have hfold:∀ (l o:aR),l.foldl (fun o x=>o ++ [(aq .i64 x.1 64,())]) o=o ++ il l:=fun l=>by
     induction l with
     | nil=>intro o; simp [il]
     | cons x r ih=>intro o; rw [List.foldl_cons,ih]; simp [il]
    rw [bC,hfold] at h;exact h
   show cond (cond (!true) true (aj (ae hi) 0)) _ _=_;rw [he];refine (bn hhi).trans ?_;have hla:(eH lo ++ il hi).length<=1000:=by rw [List.length_append]; unfold il; rw [List.length_map]; omega
   refine (bn (hchk (eH lo ++ il hi) 18 hla)).trans ?_;cases (eH lo ++ il hi).all sN <;> rfl
theorem tC {α A Y:Type} (p:α->Bool) (f:α->A->A) (y:Y) (z:A->Y):∀ (xs:List α) (i:Nat) (a:A),kK (fun _ x a=>bif p x then .inl (f x a) else .inr y) z i xs a=bif xs.all p then z (xs.foldl (fun a x=>f x a) a) else y
 | [],_,_=>rfl
 | x :: r,i,a=>by
   rw [kK,List.all_cons,List.foldl_cons];cases hp:p x with
   | true=>simp only [cond_true,Bool.true_and]; exact tC p f y z r (i + 1) _
   | false=>rfl
def Ir (x:Int×Unit) (o:aR×Bool):aR×Bool:=bif aj x.1 1 then (o.1,true) else (o.1 ++ [x],o.2)
theorem E6:∀ (l:aR) (o:aR×Bool),l.foldl (fun o x=>Ir x o) o=(o.1 ++ eH l,o.2 || fU l):=fun l=>by
 induction l with
 | nil=>intro o; simp [eH,fU]
 | cons x r ih => intro o;rw [List.foldl_cons,ih];unfold Ir eH fU;rw [List.filter_cons,List.any_cons];cases aj x.1 1 <;> simp
def IA (x:Int×Unit):Bool:=aj x.1 1 || sN x
theorem IG (l:aR):l.all IA=(eH l).all sN:=by
 induction l with
 | nil=>rfl
 | cons x r ih => unfold eH at ih ⊢;rw [List.all_cons,List.filter_cons,ih];unfold IA;cases h:aj x.1 1 <;> simp
theorem G4 {o:aR} {x:Int×Unit} (h:o.length<=1048576):cQ 8 o [x]=true:=Nat.ble_eq_true_of_le (by show (o.length + 1) * 8<=140737488355328; omega)
theorem RZ (b:aR) (mti:List UInt8) (at':Int) (lo:aR) (hl:lo.length<=64) (m0:cu):Hh b mti at' [] false lo (ae lo) 0 m0=some (bif (eH lo).all sN then .inl (b,mti,at',eH lo,fU lo,lo,ae lo,(lo.length:Int),m0,()) else .inr (2,([],[],()),())):=by
 have h:=a6 (step:=CC nF) lo (fun i (o:aR×Bool)=>(b,mti,at',o.1,o.2,lo,ae lo,((i:Nat):Int),m0,())) (fun _ x o=>bif IA x then Sum.inl (Ir x o) else .inr (.inr (2,([],[],()),()))) (fun o=> .inl (b,mti,at',o.1,o.2,lo,ae lo,(lo.length:Int),m0,())) (fun i o=>o.1.length<=i) (a0:=([],false)) (Nat.le_refl _) (fun i x o hx ho=>by
  have hlt:=ak hx;show nF b mti at' o.1 o.2 lo (ae lo) (i:Int) m0=_;unfold nF;rw [aG hx,aC hx,aV _ hx,aP (by unfold aX; omega)];dsimp only [cond_true];rw [yJ];dsimp only [Option.bind_some];rw [G4 (by omega)];unfold IA Ir sN;cases aj x.1 1 <;> cases aj (bk x.1) 0 <;> rfl) (fun i x o o' hx ho hf=>by
  unfold Ir at hf;cases hk:IA x <;> rw [hk] at hf
  . cases hf
  . cases hf;cases aj x.1 1 with
    | true=>show o.1.length<=_; omega
    | false=>show (o.1 ++ [x]).length<=_; rw [List.length_append]; show o.1.length + 1<=_; omega) (fun o ho=>by
  show nF b mti at' o.1 o.2 lo (ae lo) (lo.length:Int) m0=_;unfold nF;rw [ax rfl]; rfl)
 rw [tC,E6,IG] at h;refine Eq.trans h ?_;cases (eH lo).all sN <;> rfl
theorem G1 (l:aR):(il l).all sN=l.all fun x=>sN (aq .i64 x.1 64,()):=by unfold il; rw [List.all_map]; rfl
theorem EU:∀ (l o:aR),l.foldl (fun o x=>o ++ [(aq .i64 x.1 64,())]) o=o ++ il l:=fun l=>by
 induction l with
 | nil=>intro o; simp [il]
 | cons x r ih=>intro o; rw [List.foldl_cons,ih]; simp [il]
theorem NQ (b:aR) (mti:List UInt8) (at':Int) (o0 hi:aR) (h0:o0.length<=64) (hl:hi.length<=64) (m0:cu):HA b mti at' o0 hi (ae hi) 0 m0=some (bif (il hi).all sN then .inl (b,mti,at',o0 ++ il hi,hi,ae hi,(hi.length:Int),m0,()) else .inr (2,([],[],()),())):=by
 have h:=a6 (step:=xQ oC) hi (fun i (o:aR)=>(b,mti,at',o,hi,ae hi,((i:Nat):Int),m0,())) (fun _ x o=>bif sN (aq .i64 x.1 64,()) then Sum.inl (o ++ [(aq .i64 x.1 64,())]) else .inr (.inr (2,([],[],()),()))) (fun o=> .inl (b,mti,at',o,hi,ae hi,(hi.length:Int),m0,())) (fun i o=>o.length<=64 + i) (a0:=o0) h0 (fun i x o hx ho=>by
  have hlt:=ak hx;show oC b mti at' o hi (ae hi) (i:Int) m0=_;unfold oC;rw [aG hx,aC hx,aV _ hx,aP (by unfold aX; omega)];dsimp only [cond_true];rw [yJ];dsimp only [Option.bind_some];rw [G4 (by omega)];unfold sN;cases aj (bk (aq .i64 x.1 64)) 0 <;> rfl) (fun i x o o' hx ho hf=>by
  cases hk:sN (aq .i64 x.1 64,()) <;> rw [hk] at hf
  . cases hf
  . cases hf;rw [List.length_append]; show o.length + 1<=_; omega) (fun o ho=>by
  show oC b mti at' o hi (ae hi) (hi.length:Int) m0=_;unfold oC;rw [ax rfl]; rfl)
 rw [tC,EU,<- G1] at h;refine Eq.trans h ?_;cases (il hi).all sN <;> rfl
def OC (b:aR) (mti:List UInt8) (m0:cu) (nos:aR) (n:Int):Option (List nM×Nat)->Sum (aR×Int×aR×Int×Int×cu×cu×Unit) (Int×cu×Unit)
 | some (l,e)=> .inl (b,(e:Int),nos,n,n,m0,(mti,l,()),())
 | none=> .inr (3,([],[],()),())
theorem zv (b:aR) (mti:List UInt8) (m0:cu) (ns:aR) (n:Int):∀ (nos:aR) (i a:Nat) (o:List nM),kK (fun _ x (q:Nat×List nM)=>match nj b q.1 x.1 with | some (s,e)=>Sum.inl (e,q.2 ++ [(x.1,s,())]) | none=> .inr (.inr (3,([],[],()),()))) (fun q=> .inl (b,(q.1:Int),ns,n,n,m0,(mti,q.2,()),())) i nos (a,o)=OC b mti m0 ns n (kE b nos a o)
 | [],_,_,_=>rfl
 | x :: r,i,a,o=>by
   rw [kK,kE];cases nj b a x.1 with
   | none=>rfl
   | some p=>exact zv b mti m0 ns n r (i + 1) p.2 _
theorem Np {o:List nM} {x:nM} (h:o.length<=1048576):cQ 24 o [x]=true:=Nat.ble_eq_true_of_le (by show (o.length + 1) * 24<=140737488355328; omega)
theorem Pk (b:aR) (hb:xX b) (a:Nat) (ha:a<=b.length) (nos:aR) (hn:nos.length<=1000) (mti:List UInt8) (m0:cu):Iu b (a:Int) nos (ae nos) 0 m0 (mti,[],())=some (OC b mti m0 nos (ae nos) (kE b nos a [])):=by
 have h:=a6 (step:=Jy nZ) nos (fun i (q:Nat×List nM)=>(b,(q.1:Int),nos,ae nos,((i:Nat):Int),m0,(mti,q.2,()),())) (fun _ x q=>match nj b q.1 x.1 with | some (s,e)=>Sum.inl (e,q.2 ++ [(x.1,s,())]) | none=> .inr (.inr (3,([],[],()),()))) (fun q=> .inl (b,(q.1:Int),nos,ae nos,(nos.length:Int),m0,(mti,q.2,()),())) (fun i q=>q.1<=b.length/\q.2.length<=i) (a0:=(a,[])) ⟨ha,Nat.le_refl _⟩ (fun i x q hx hq=>by
  have hlt:=ak hx;show nZ b (q.1:Int) nos (ae nos) (i:Int) m0 (mti,q.2,())=_;unfold nZ;rw [aG hx,aC hx,aV _ hx,aP (by unfold aX; omega),Se b q.1 x.1 hb hq.1];unfold kV;cases nj b q.1 x.1 with
  | none=>rfl
  | some p =>
    dsimp only [cond_true,Option.bind_some,Bool.not_true,cond_false];rw [Np (Nat.le_trans hq.2 (by omega))]; rfl) (fun i x q q' hx hq hf=>by
  cases hg:nj b q.1 x.1 with
  | none=>rw [hg] at hf; cases hf
  | some p =>
    rw [hg] at hf;cases hf;refine ⟨(qW hq.1 hg).2.2,?_⟩;show (q.2 ++ [_]).length<=_;rw [List.length_append];exact Nat.succ_le_succ hq.2) (fun q hq=>by
  show nZ b (q.1:Int) nos (ae nos) (nos.length:Int) m0 (mti,q.2,())=_;unfold nZ;rw [ax rfl]; rfl)
 rw [show (fun (q:Nat×List nM)=>(Sum.inl (b,(q.1:Int),nos,ae nos,(nos.length:Int),m0,(mti,q.2,()),()):Sum (aR×Int×aR×Int×Int×cu×cu×Unit) (Int×cu×Unit)))=fun q=> .inl (b,(q.1:Int),nos,ae nos,ae nos,m0,(mti,q.2,()),()) from rfl,zv] at h;exact h
theorem NZ (b:aR) (hb:xX b) (a:Nat) (ha:a<=b.length) (nos:aR) (hn:nos.length<=1000) (mti:List UInt8) (m0:cu):zg b (a:Int) nos (ae nos) 0 m0 (mti,[],())=some (OC b mti m0 nos (ae nos) (kE b nos a [])):=by
 have h:=a6 (step:=Jy oM) nos (fun i (q:Nat×List nM)=>(b,(q.1:Int),nos,ae nos,((i:Nat):Int),m0,(mti,q.2,()),())) (fun _ x q=>match nj b q.1 x.1 with | some (s,e)=>Sum.inl (e,q.2 ++ [(x.1,s,())]) | none=> .inr (.inr (3,([],[],()),()))) (fun q=> .inl (b,(q.1:Int),nos,ae nos,(nos.length:Int),m0,(mti,q.2,()),())) (fun i q=>q.1<=b.length/\q.2.length<=i) (a0:=(a,[])) ⟨ha,Nat.le_refl _⟩ (fun i x q hx hq=>by
  have hlt:=ak hx;show oM b (q.1:Int) nos (ae nos) (i:Int) m0 (mti,q.2,())=_;unfold oM;rw [aG hx,aC hx,aV _ hx,aP (by unfold aX; omega),QU b q.1 x.1 hb hq.1];unfold kV;cases nj b q.1 x.1 with
  | none=>rfl
  | some p =>
    dsimp only [cond_true,Option.bind_some,Bool.not_true,cond_false];rw [Np (Nat.le_trans hq.2 (by omega))]; rfl) (fun i x q q' hx hq hf=>by
  cases hg:nj b q.1 x.1 with
  | none=>rw [hg] at hf; cases hf
  | some p =>
    rw [hg] at hf;cases hf;refine ⟨(qW hq.1 hg).2.2,?_⟩;show (q.2 ++ [_]).length<=_;rw [List.length_append];exact Nat.succ_le_succ hq.2) (fun q hq=>by
  show oM b (q.1:Int) nos (ae nos) (nos.length:Int) m0 (mti,q.2,())=_;unfold oM;rw [ax rfl]; rfl)
 rw [show (fun (q:Nat×List nM)=>(Sum.inl (b,(q.1:Int),nos,ae nos,(nos.length:Int),m0,(mti,q.2,()),()):Sum (aR×Int×aR×Int×Int×cu×cu×Unit) (Int×cu×Unit)))=fun q=> .inl (b,(q.1:Int),nos,ae nos,ae nos,m0,(mti,q.2,()),()) from rfl,zv] at h;exact h
theorem Ak {b:aR} {p:aR×Nat} (h:zO b=some p):p.1.length<=1000/\p.2<=b.length:=by
 have k1:=kq (er b 2 8);have k2:=kq (er b 10 8);have k3:(eH (dR (er b 2 8))).length<=64:=Nat.le_trans (List.length_filter_le _ _) k1;have k4:(il (dR (er b 10 8))).length<=64:=by unfold il; rw [List.length_map]; exact k2
 unfold zO at h;by_cases h10:10<=b.length;rotate_left
 . rw [if_neg h10] at h; cases h
 rw [if_pos h10] at h;cases hm:fU (dR (er b 2 8)) <;> rw [hm] at h
 . cases hk:(eH (dR (er b 2 8))).all sN <;> rw [hk] at h <;> cases h;exact ⟨by show (eH (dR (er b 2 8))).length<=_; omega,h10⟩
 . by_cases h18:18<=b.length/\dR (er b 10 8)≠[]
   . rw [cond_true,if_pos h18] at h;cases hk:(eH (dR (er b 2 8)) ++ il (dR (er b 10 8))).all sN <;> rw [hk] at h <;> cases h;refine ⟨?_,h18.1⟩;show (eH (dR (er b 2 8)) ++ il (dR (er b 10 8))).length<=_;rw [List.length_append]; omega
   . rw [cond_true,if_neg h18] at h; cases h
theorem T9 (b:aR) (hb:xX b):L9 b=FC (jX b):=by
 unfold L9 jX FC;have h0:tX b 0 4=xa (iG b 0 4) 2:=C1 b 0 4 hb (Nat.zero_le _) (by omega);rw [h0];cases hc:iG b 0 4 with
 | none=>rfl
 | some mti =>
   have h2:2<=b.length:=(dQ hc).2.2.2.2;show Option.bind (I8 b) _=_;rw [Ry b hb h2];cases hn:zO b with
   | none=>rfl
   | some p =>
     obtain ⟨n1,n2⟩:=Ak hn;obtain ⟨nos,a⟩:=p;refine (bn (Pk b hb a n2 nos n1 mti ([],[],()))).trans ?_;dsimp only;cases kE b nos a [] with
     | none=>rfl
     | some q =>
       obtain ⟨l,e⟩:=q;show cond (!(aj (e:Int) (b.length:Int))) _ _=_;dsimp only;by_cases he:e=b.length
       . rw [if_pos he,he,bq]; rfl
       . rw [if_neg he,show aj (e:Int) (b.length:Int)=false from beq_eq_false_iff_ne.2 (by omega)]; rfl
theorem Sq (b:aR) (hb:xX b):Ko b=FC (jX b):=by
 unfold Ko jX FC;have h0:yD b 0 4=xa (iG b 0 4) 2:=Jr b 0 4 hb (Nat.zero_le _) (by omega);rw [h0];cases hc:iG b 0 4 with
 | none=>rfl
 | some mti =>
   have h2:2<=b.length:=(dQ hc).2.2.2.2;have h1:zS b 2=np b 2:=I7 b 2 hb h2;show Option.bind (zS b 2) _=_;rw [h1];unfold np zO;have k1:=kq (er b 2 8);generalize hlo:dR (er b 2 8)=lo at k1 ⊢;have k3:(eH lo).length<=64:=Nat.le_trans (List.length_filter_le _ _) k1;have tail:∀ (nos:aR) (a:Nat),a<=b.length->nos.length<=1000->∀ m0:cu,(Option.bind (zg b (a:Int) nos (ae nos) 0 m0 (mti,[],())) (Sum.elim (fun y6=>cond (!(aj y6.2.1 (ae y6.1))) (some ((),(([],[],()),(4,()),()))) (some ((),(y6.2.2.2.2.2.2.1,(0,()),())))) (fun y6=>some ((),(y6.2.1,(y6.1,()),())))))=some ((),(match kE b nos a [] with | none=>(([],[],()),3) | some (l,e)=>if e=b.length then ((mti,l,()),0) else (([],[],()),4):cu×Int).1,((match kE b nos a [] with | none=>(([],[],()),3) | some (l,e)=>if e=b.length then ((mti,l,()),0) else (([],[],()),4):cu×Int).2,()),()):=fun nos a ha hn m0=>by
    rw [NZ b hb a ha nos hn mti m0];cases kE b nos a [] with
    | none=>rfl
    | some q =>
      obtain ⟨l,e⟩:=q;show cond (!(aj (e:Int) (b.length:Int))) _ _=_;dsimp only;by_cases he:e=b.length
      . rw [if_pos he,he,bq]; rfl
      . rw [if_neg he,show aj (e:Int) (b.length:Int)=false from beq_eq_false_iff_ne.2 (by omega)]; rfl
   by_cases h10:10<=b.length;rotate_left
   . rw [if_neg h10,if_neg (show ¬ 2 + 8<=b.length from h10)]; rfl
   rw [if_pos h10,if_pos (show 2 + 8<=b.length from h10)];refine (bn (RZ b mti 10 lo k1 ([],[],()))).trans ?_;cases hk:(eH lo).all sN with
   | false =>
     dsimp only [cond_false];cases fU lo with
     | false=>rfl
     | true =>
       dsimp only [cond_true];rw [List.all_append,hk];by_cases h18:18<=b.length/\dR (er b 10 8)≠[]
       . rw [if_pos h18]; rfl
       . rw [if_neg h18]; rfl
   | true =>
     dsimp only [cond_true];show cond (fU lo) _ _=_;cases fU lo with
     | false=>exact tail (eH lo) 10 h10 (by omega) _
     | true =>
       dsimp only [cond_true];have h3:zS b 10=np b 10:=I7 b 10 hb h10;refine (bn h3).trans ?_;unfold np;have k2:=kq (er b 10 8);generalize dR (er b 10 8)=hi at k2 ⊢;by_cases h18:18<=b.length;rotate_left
       . rw [if_neg (show ¬ 10 + 8<=b.length from h18),if_neg (fun h=>h18 h.1)]; rfl
       rw [if_pos (show 10 + 8<=b.length from h18)];by_cases hne:hi=[]
       . rw [if_neg (fun h=>h.2 hne),hne]; rfl
       rw [if_pos ⟨h18,hne⟩];have he:aj (ae hi) 0=false:=beq_eq_false_iff_ne.2 (by
        show (hi.length:Int)≠0;cases hi with
        | nil=>exact absurd rfl hne
        | cons x r=>show ((r.length + 1:Nat):Int)≠0; omega)
       show cond (cond (!true) true (aj (ae hi) 0)) _ _=_;rw [he];refine (bn (NQ b mti 18 (eH lo) hi k3 k2 ([],[],()))).trans ?_;rw [List.all_append,hk];cases (il hi).all sN with
       | false=>rfl
       | true=>exact tail (eH lo ++ il hi) 18 h18 (by rw [List.length_append]; unfold il; rw [List.length_map]; omega) _
abbrev jZ:=Int×(List UInt8)×(List UInt8)×(List UInt8)×(List UInt8)×(List UInt8)×Int×Int×Unit
theorem vV (xs:List (Int×Unit)) (v:Int) (hs:xs.length<=1048576):PQ xs v=some ((),((bz 0 (gh (fun y=>aj v y.1) 0 xs),()),())):=by
 have hbig:aX=140737488355328:=rfl;unfold PQ VV;have h:=aD (step:=cW wB) xs (fun i (_:Unit)=>(xs,v,ae xs,((i:Nat):Int),())) (fun i y _=>bif aj v y.1 then Sum.inr (.inr ((i:Int),())) else Sum.inl ()) (fun _=> .inl (xs,v,ae xs,(xs.length:Int),())) (a0:=()) (fun i y u hy=>by
  have hlt:=ak hy;show wB xs v (ae xs) (i:Int)=_;unfold wB;rw [aG hy,aC hy,aV _ hy,aP (by omega)];dsimp only [cond_true];cases aj v y.1 <;> rfl) (fun u=>by
  show wB xs v (ae xs) (xs.length:Int)=_;unfold wB;rw [ax rfl]; rfl)
 have h':M7 xs v (ae xs) 0=_:=h;rw [h'];have hf:=l4 (Y:=Sum ((List (Int×Unit))×Int×Int×Int×Unit) (Int×Unit)) (fun (y:Int×Unit)=>aj v y.1) (fun n=> .inr (n,())) (.inl (xs,v,ae xs,(xs.length:Int),())) (fun y=>match y with | .inl _ => -1 | .inr z=>z.1) (fun _=>rfl) rfl xs 0;rw [<- hf];dsimp only [Option.bind_some];cases kK _ _ 0 xs () <;> rfl
def Hb (op:Int):List UInt8:=gt ([],()) [([],()),([48,49,48,48],()),([48,49,48,48],()),([48,50,50,48],()),([48,50,50,48],()),([48,50,50,48],()),([48,50,48,48],()),([48,49,48,48],()),([48,50,48,48],())] op |>.1
def pT (q:jZ):Bool:=dF q.1 1 8 && bY q.2.2.2.2.2.1 (Hb q.1) && fo q.2.1 && aS q.2.2.2.2.1 && aj (ae q.2.2.2.2.1) 6 && (cond (au q.1 7) (gS q.2.2.2.1) (bY q.2.2.2.1 [])) && (cond (au q.1 5) (dF q.2.2.2.2.2.2.1 0 999999999999) (aj q.2.2.2.2.2.2.1 0)) && (cond (aj q.1 1) (dF q.2.2.2.2.2.2.2.1 0 9999) (aj q.2.2.2.2.2.2.2.1 0)) && (cond (aj q.1 6) (fo q.2.2.1) (bY q.2.2.1 []))
def GZ (q:jZ):Prop:=q.2.1.length<=1048576/\q.2.2.1.length<=1048576/\q.2.2.2.1.length<=1048576/\q.2.2.2.2.1.length<=1048576/\q.2.2.2.2.2.1.length<=1048576
theorem qc {op:Int} (h:dF op 1 8=true):op=1∨op=2∨op=3∨op=4∨op=5∨op=6∨op=7∨op=8:=by have:=fe.1 h;omega
theorem Ro (q:jZ) (hb:GZ q):ky q=some ((),((pT q,()),())):=by
 obtain ⟨op,acct,other,hold,trace,mti,amt,ttl,_⟩:=q;obtain ⟨b1,b2,b3,b4,b5⟩:=hb;cases hop:dF op 1 8 with
 | false => unfold ky AJ pT;rw [lx,hop]; rfl
 | true =>
   have k1:=vi acct (cl b1);have k2:=vi other (cl b2);have k3:=AE hold (cl b3);have k4:=fG trace (cl b4);have k5:AJ op=some ((),((true,()),())):=by unfold AJ; rw [lx,hop]; rfl
   have k6:FI op=some ((),((Hb op,()),())):=by unfold FI;rw [k5];rcases qc hop with h | h | h | h | h | h | h | h <;> subst h <;> rfl
   have k7:Fu op=some ((),((au op 7,()),())):=by unfold Fu; rw [k5]; rfl
   have k8:Ab op=some ((),((au op 5,()),())):=by unfold Ab;rw [lx];rcases qc hop with h | h | h | h | h | h | h | h <;> subst h <;> rfl
   have k9:=lx amt 0 999999999999;have k10:=lx ttl 0 9999;unfold ky pT;dsimp only;rw [k5,k6,k1,k4,k7,k8,k3,k9,k10,k2];dsimp only [Option.bind_some];rw [hop];cases bY mti (Hb op) <;> first | rfl | skip
   cases fo acct <;> first | rfl | skip
   cases aS trace <;> first | rfl | skip
   cases aj (ae trace) 6 <;> first | rfl | skip
   cases au op 7 <;> cases gS hold <;> cases bY hold [] <;> first | rfl | skip
   all_goals (cases au op 5 <;> cases dF amt 0 999999999999 <;> cases aj amt 0 <;> first | rfl | skip)
   all_goals (cases aj op 1 <;> cases dF ttl 0 9999 <;> cases aj ttl 0 <;> first | rfl | skip)
   all_goals (cases aj op 6 <;> cases fo other <;> rfl)
theorem PA {op:Int} (hop:dF op 1 8=true):j3 op 38=some ((),((au op 7,()),()))/\j3 op 4=some ((),((au op 5,()),()))/\j3 op 14=some ((),((aj op 1,()),()))/\j3 op 103=some ((),((aj op 6,()),())):=by unfold j3 yA;rw [jD,hop];rcases qc hop with h | h | h | h | h | h | h | h <;> subst h <;> refine ⟨?_,?_,?_,?_⟩ <;> (refine (congrArg (fun z=>Option.bind z fun y2=>some ((),(y2.2.1,()))) (vV _ _ ?_)).trans ?_) <;> first | rfl | decide
theorem Pq {op:Int} (hop:dF op 1 8=true):∃ (nm:List UInt8×List UInt8) (fs:List (Int×Unit)),yA op=some ((),((Hb op,nm.1,nm.2,fs,()),()))/\bY nm.2 []=false:=by unfold yA;rw [jD,hop];rcases qc hop with h | h | h | h | h | h | h | h <;> subst h <;> exact ⟨(_,_),_,rfl,rfl⟩
theorem QQ (q:jZ) (hb:GZ q):IH q=some ((),((pT q,()),())):=by
 obtain ⟨op,acct,other,hold,trace,mti,amt,ttl,_⟩:=q;obtain ⟨b1,b2,b3,b4,b5⟩:=hb;cases hop:dF op 1 8 with
 | false => unfold IH yA pT;rw [jD,hop]; rfl
 | true =>
   have k1:=tJ acct (cl b1);have k2:=tJ other (cl b2);have k3:=zM hold (cl b3);have k4:vc trace 6=some ((),((cond (aS trace) (aj (ae trace) 6) false,()),())):=by unfold vc; rw [gF trace (cl b4)]; rfl
   obtain ⟨nm,fs,k5,k6⟩:=Pq hop;obtain ⟨u1,u2,u3,u4⟩:=PA hop;have k9:=jD amt 0 999999999999;have k10:=jD ttl 0 9999;unfold IH pT;dsimp only;rw [k5,k1,k4,u1,u2,u3,u4,k3,k9,k10,k2];dsimp only [Option.bind_some];rw [hop,k6];cases bY mti (Hb op) <;> first | rfl | skip
   cases fo acct <;> first | rfl | skip
   cases aS trace <;> first | rfl | skip
   cases aj (ae trace) 6 <;> first | rfl | skip
   cases au op 7 <;> cases gS hold <;> cases bY hold [] <;> cases au op 5 <;> cases dF amt 0 999999999999 <;> cases aj amt 0 <;> cases aj op 1 <;> cases dF ttl 0 9999 <;> cases aj ttl 0 <;> cases aj op 6 <;> cases fo other <;> cases bY other [] <;> rfl
def lK (s:List UInt8):Nat->Nat
 | 0=>0
 | n + 1=>bif aj (dm s (n:Int)) 32 then lK s n else n + 1
def sf (s:List UInt8):List UInt8:=s.take (lK s s.length)
theorem zI (s:List UInt8):∀ n,lK s n<=n
 | 0=>Nat.le_refl _
 | n + 1=>by
   unfold lK;cases aj (dm s (n:Int)) 32 with
   | true=>exact Nat.le_succ_of_le (zI s n)
   | false=>exact Nat.le_refl _
theorem PJ (s:List UInt8) (hs:s.length<=aX):Lm s=some ((),((sf s,()),())):=by
 have hbig:aX=140737488355328:=rfl;have h:∀ n:Nat,n<=s.length->Gc s (n:Int)=some (.inl (s,((lK s n:Nat):Int),())):=fun n=>by
  induction n with
  | zero=>intro _; exact aJ _ rfl
  | succ n ih =>
    intro hn;have e:zo s ((n + 1:Nat):Int)=bif aj (dm s (n:Int)) 32 then some (.inl (s,(n:Int),())) else some (.inr (.inl (s,((n + 1:Nat):Int),()))):=by unfold zo;rw [aF (show (0:Int) < ((n + 1:Nat):Int) by omega),aN (by omega) (by omega),show ((n + 1:Nat):Int) - 1=(n:Int) by omega];dsimp only [cond_true];rw [ld (xs:=s) (by omega)];cases aj (dm s (n:Int)) 32 <;> rfl
    cases hc:aj (dm s (n:Int)) 32 with
    | true => rw [hc] at e;unfold lK;rw [hc];exact aQ _ e (ih (by omega))
    | false => rw [hc] at e;unfold lK;rw [hc];exact aJ _ e
 unfold Lm;refine (bn (h s.length (Nat.le_refl _))).trans ?_;show cond (dJ 0 ((lK s s.length:Nat):Int) s) (some ((),((sub s 0 ((lK s s.length:Nat):Int),()),()))) none=_;rw [iS (zI s s.length),qg]; rfl
theorem N7 (s:List UInt8) (hs:s.length<=aX):I6 s 32=some ((),((sf s,()),())):=by
 have hbig:aX=140737488355328:=rfl;have h:∀ n:Nat,n<=s.length->I4 (s.take n) 32=some (.inl (s.take (lK s n),32,())):=fun n=>by
  induction n with
  | zero=>intro _; exact aJ _ rfl
  | succ n ih =>
    intro hn;have hl:(s.take (n + 1)).length=n + 1:=by rw [List.length_take]; omega
    have hb:dm (s.take (n + 1)) (n:Int)=dm s (n:Int):=by have hx:s[n]? = some (s[n]'(by omega)):=List.getElem?_eq_getElem (by omega);rw [eE hx,eE (xs:=s.take (n + 1)) (x:=s[n]'(by omega)) (by rw [List.getElem?_take,if_pos (by omega)]; exact hx)]
    have e:yS (s.take (n + 1)) 32=bif aj (dm s (n:Int)) 32 then some (.inl (s.take n,32,())) else some (.inr (.inl (s.take (n + 1),32,()))):=by unfold yS;rw [show ae (s.take (n + 1))=((n + 1:Nat):Int) from congrArg Int.ofNat hl];dsimp only;rw [aF (show (0:Int) < ((n + 1:Nat):Int) by omega),aN (by omega) (by omega),show ((n + 1:Nat):Int) - 1=(n:Int) by omega,ld (xs:=s.take (n + 1)) (by omega),hb,iS (xs:=s.take (n + 1)) (i:=n) (by omega),qg,List.take_take,Nat.min_eq_left (Nat.le_succ n)];cases aj (dm s (n:Int)) 32 <;> rfl
    cases hc:aj (dm s (n:Int)) 32 with
    | true => rw [hc] at e;unfold lK;rw [hc];exact aQ _ e (ih (by omega))
    | false => rw [hc] at e;unfold lK;rw [hc];exact aJ _ e
 have h0:=h s.length (Nat.le_refl _);rw [List.take_length] at h0;unfold I6;refine (bn h0).trans rfl
theorem OV (s:List UInt8) (hs:s.length<=aX):KK s=some ((),((sf s,()),())):=by
 unfold KK Pc;cases he:bY s [] with
 | true =>
   have:s=[]:=by simpa [bY] using he
   subst this;rfl
 | false => have e:I6 s (dm [32] 0)=_:=N7 s hs;dsimp only;rw [e]; rfl
theorem Ig (s:List UInt8):(sf s).length<=s.length:=by unfold sf; rw [List.length_take]; exact Nat.min_le_right _ _
abbrev nh:=List UInt8×Unit
theorem O2 (a b:List UInt8):KB a b=some ((),((jO a b,()),())):=by unfold KB Lb;rw [eb]; rfl
theorem N9 (a b:Int):Ke a b=some ((),((au a b,()),())):=by unfold Ke LO;rw [bq]; rfl
theorem Mk:Eb 1=some ((),((1,()),())):=rfl
theorem MV:Eb 2=some ((),((2,()),())):=rfl
theorem L3 (x:nh):An [x]=some ((([x],()),()),()):=by have h:oH [x] 0 1 1=some (.inl ([x],0,1,1,())):=aJ _ rfl;unfold An;refine (bn Mk).trans ?_;show Option.bind (Option.bind (Option.bind (oH [x] 0 1 1) _) _) _=_;rw [h]; rfl
def P9 (x y:nh):List nh:=bif jO y.1 x.1 then [y,x] else [x,y]
theorem LM (x y:nh):An [x,y]=some (((P9 x y,()),()),()):=by
 have hi:uR [x,y] 0 2 1 1=some (.inl (P9 x y,0,2,1,(bif jO y.1 x.1 then 0 else 1),())):=by
  have e:u0 [x,y] 0 2 1 1=bif jO y.1 x.1 then some (.inl ([y,x],0,2,1,0,())) else some (.inr (.inl ([x,y],0,2,1,1,()))):=by unfold u0;dsimp only;rw [O2];rfl
  unfold P9;cases hc:jO y.1 x.1 with
  | true=>rw [hc] at e; exact aQ _ e (aJ _ rfl)
  | false=>rw [hc] at e; exact aJ _ e
 have h:oH [x,y] 0 2 1=some (.inl (P9 x y,0,2,2,())):=by
  have e:uP [x,y] 0 2 1=some (.inl (P9 x y,0,2,2,())):=by unfold uP;show Option.bind (uR [x,y] 0 2 1 1) _=_;rw [hi]; rfl
  exact aQ _ e (aJ _ rfl)
 unfold An;refine (bn MV).trans ?_;show Option.bind (Option.bind (Option.bind (oH [x,y] 0 2 1) _) _) _=_;rw [h]; rfl
theorem za (x y:nh):Eh [x,y]=some ((),((bif bY y.1 x.1 then [x] else [x,y],()),())):=by
 have e:zx [x,y] 1=bif bY y.1 x.1 then some (.inr (.inr ([x],()))) else some (.inl ([x,y],2,())):=rfl;have h:wI [x,y] 1=some (bif bY y.1 x.1 then .inr ([x],()) else .inl ([x,y],2,())):=by
  cases hc:bY y.1 x.1 with
  | true=>rw [hc] at e; exact aJ _ e
  | false=>rw [hc] at e; exact aQ _ e (aJ _ rfl)
 unfold Eh;show Option.bind (wI [x,y] 1) _=_;rw [h];cases bY y.1 x.1 <;> rfl
abbrev cM:=Int×Unit
theorem LU (x:cM):uJ [x]=some ((([x],()),()),()):=by have h:kW [x] 0 1 1=some (.inl ([x],0,1,1,())):=aJ _ rfl;unfold uJ;refine (bn Mk).trans ?_;show Option.bind (Option.bind (Option.bind (kW [x] 0 1 1) _) _) _=_;rw [h]; rfl
theorem J7:uJ []=some ((([],()),()),()):=by have h:kW [] 0 0 1=some (.inl ([],0,0,1,())):=aJ _ rfl;unfold uJ;refine (bn (show Eb 0=some ((),((0,()),())) from rfl)).trans ?_;show Option.bind (Option.bind (Option.bind (kW [] 0 0 1) _) _) _=_;rw [h]; rfl
def Qj (x y:cM):List cM:=bif au y.1 x.1 then [y,x] else [x,y]
theorem KE (x y:cM):uJ [x,y]=some (((Qj x y,()),()),()):=by
 have hi:vE [x,y] 0 2 1 1=some (.inl (Qj x y,0,2,1,(bif au y.1 x.1 then 0 else 1),())):=by
  have e:tM [x,y] 0 2 1 1=bif au y.1 x.1 then some (.inl ([y,x],0,2,1,0,())) else some (.inr (.inl ([x,y],0,2,1,1,()))):=by unfold tM;dsimp only;rw [N9];rfl
  unfold Qj;cases hc:au y.1 x.1 with
  | true=>rw [hc] at e; exact aQ _ e (aJ _ rfl)
  | false=>rw [hc] at e; exact aJ _ e
 have h:kW [x,y] 0 2 1=some (.inl (Qj x y,0,2,2,())):=by
  have e:wi [x,y] 0 2 1=some (.inl (Qj x y,0,2,2,())):=by unfold wi;show Option.bind (vE [x,y] 0 2 1 1) _=_;rw [hi]; rfl
  exact aQ _ e (aJ _ rfl)
 unfold uJ;refine (bn MV).trans ?_;show Option.bind (Option.bind (Option.bind (kW [x,y] 0 2 1) _) _) _=_;rw [h]; rfl
theorem DO (x y:cM):IF [x,y]=some ((),((bif aj y.1 x.1 then [x] else [x,y],()),())):=by
 have e:zh [x,y] 1=bif aj y.1 x.1 then some (.inr (.inr ([x],()))) else some (.inl ([x,y],2,())):=rfl;have h:wb [x,y] 1=some (bif aj y.1 x.1 then .inr ([x],()) else .inl ([x,y],2,())):=by
  cases hc:aj y.1 x.1 with
  | true=>rw [hc] at e; exact aJ _ e
  | false=>rw [hc] at e; exact aQ _ e (aJ _ rfl)
 unfold IF;show Option.bind (wb [x,y] 1) _=_;rw [h];cases aj y.1 x.1 <;> rfl
def qn (n:Int):List nh->List cM
 | [a]=>[(aw a.1 n,())]
 | [a,b]=>bif au (aw b.1 n) (aw a.1 n) then [(aw b.1 n,()),(aw a.1 n,())] else bif aj (aw b.1 n) (aw a.1 n) then [(aw a.1 n,())] else [(aw a.1 n,()),(aw b.1 n,())]
 | _=>[]
def E5 (l:List nh):Prop:=l.length<=2/\∀ x∈l,x.1.length<=1048576
theorem K4 (n:Int):∀ (ids:List nh) (h:E5 ids),MG n [] ids (ae ids) 0=some (.inl (n,ids.map (fun x=>(aw x.1 n,())),ids,ae ids,ae ids,())):=fun ids hb=>by
 have h:=a6 (step:=ft wD) ids (fun i (o:List cM)=>(n,o,ids,ae ids,((i:Nat):Int),())) (fun _ x o=>Sum.inl (o ++ [(aw x.1 n,())])) (fun o=> .inl (n,o,ids,ae ids,ae ids,())) (fun i o=>o.length=i) (a0:=[]) rfl (fun i x o hx ho=>by
  have hlt:=ak hx;have:=hb.1;show wD n o ids (ae ids) (i:Int)=_;unfold wD;rw [aG hx,aC hx,aV _ hx,aP (by unfold aX; omega),Ax x.1 n (cl (hb.2 x (List.mem_of_getElem? hx)))];dsimp only [cond_true,Option.bind_some];rw [G4 (by omega)]; rfl) (fun i x o o' hx ho hf=>by
  cases hf;rw [List.length_append,ho]; rfl) (fun o ho=>by
  show wD n o ids (ae ids) (ids.length:Int)=_;unfold wD;rw [ax rfl]; rfl)
 rw [bC] at h;refine Eq.trans h ?_;have:∀ (l:List nh) (o:List cM),l.foldl (fun o x=>o ++ [(aw x.1 n,())]) o=o ++ l.map (fun x=>(aw x.1 n,())):=fun l=>by
  induction l with
  | nil=>intro o; simp
  | cons x r ih=>intro o; rw [List.foldl_cons,ih]; simp
 rw [this]; rfl
theorem N6 (ids:List nh) (n:Int) (hb:E5 ids):Uq ids n=some ((),((qn n ids,()),())):=by
 unfold Uq;refine (bn (K4 n ids hb)).trans ?_
 match ids,hb with
 | [],_ => show Option.bind (uJ []) _=_;rw [J7]; rfl
 | [a],_ => show Option.bind (uJ [(aw a.1 n,())]) _=_;rw [LU]; rfl
 | [a,b],_ =>
   show Option.bind (uJ [(aw a.1 n,()),(aw b.1 n,())]) _=_;rw [KE];unfold Qj qn;dsimp only [Option.bind_some];cases hc:au (aw b.1 n) (aw a.1 n) with
   | true => dsimp only [cond_true];rw [DO];have hlt:aw b.1 n < aw a.1 n:=of_decide_eq_true hc;rw [show aj (aw a.1 n) (aw b.1 n)=false from beq_eq_false_iff_ne.2 (by omega)]; rfl
   | false => dsimp only [cond_false];rw [DO]; rfl
 | _ :: _ :: _ :: _,hb=>exact absurd hb.1 (by simp)
theorem Oh (ids:List nh) (n:Int) (hb:E5 ids):Ul ids n=some ((),((qn n ids,()),())):=by
 have inn:∀ (o:List cM) (x:Int) (ids:List nh) (k j:Int),xg n [] x 0 ids k j=some (.inl (n,[],x,0,ids,k,j,())):=fun o x ids k j=>aJ _ rfl
 have in1:∀ (s x:Int) (ids:List nh) (k j:Int),xg n [(s,())] x 0 ids k j=some (.inl (n,[(s,())],x,(bif au s x then 1 else 0),ids,k,j,())):=fun s x ids k j=>by
  have e:F2 n [(s,())] x 0 ids k j=bif au s x then some (.inl (n,[(s,())],x,1,ids,k,j,())) else some (.inr (.inl (n,[(s,())],x,0,ids,k,j,()))):=rfl;cases hc:au s x with
  | true=>rw [hc] at e; exact aQ _ e (aJ _ rfl)
  | false=>rw [hc] at e; exact aJ _ e
 unfold Ul
 match ids,hb with
 | [],_ => have h:Dg n [] [] 0 0=some (.inl (n,[],[],0,0,())):=aJ _ rfl;exact (bn h).trans rfl
 | [a],hb =>
   have e:so n [] [a] 1 0=some (.inl (n,[(aw a.1 n,())],[a],1,1,())):=by unfold so;show Option.bind (Nf a.1 n) _=_;rw [qy a.1 n (cl (hb.2 a (by simp)))];show Option.bind (xg n [] (aw a.1 n) 0 [a] 1 0) _=_;rw [inn []]; rfl
   have h:Dg n [] [a] 1 0=some (.inl (n,[(aw a.1 n,())],[a],1,1,())):=aQ _ e (aJ _ rfl);exact (bn h).trans rfl
 | [a,b],hb =>
   have e1:so n [] [a,b] 2 0=some (.inl (n,[(aw a.1 n,())],[a,b],2,1,())):=by unfold so;show Option.bind (Nf a.1 n) _=_;rw [qy a.1 n (cl (hb.2 a (by simp)))];show Option.bind (xg n [] (aw a.1 n) 0 [a,b] 2 0) _=_;rw [inn []]; rfl
   have e2:so n [(aw a.1 n,())] [a,b] 2 1=some (.inl (n,qn n [a,b],[a,b],2,2,())):=by
    unfold so;show Option.bind (Nf b.1 n) _=_;rw [qy b.1 n (cl (hb.2 b (by simp)))];show Option.bind (xg n [(aw a.1 n,())] (aw b.1 n) 0 [a,b] 2 1) _=_;rw [in1,show qn n [a,b]=bif au (aw b.1 n) (aw a.1 n) then [(aw b.1 n,()),(aw a.1 n,())] else bif aj (aw b.1 n) (aw a.1 n) then [(aw a.1 n,())] else [(aw a.1 n,()),(aw b.1 n,())] from rfl];cases hc:au (aw a.1 n) (aw b.1 n) with
    | true => have hlt:aw a.1 n < aw b.1 n:=of_decide_eq_true hc;rw [az (show ¬ aw b.1 n < aw a.1 n by omega),show aj (aw b.1 n) (aw a.1 n)=false from beq_eq_false_iff_ne.2 (by omega)]; rfl
    | false =>
      have hge:¬ aw a.1 n < aw b.1 n:=of_decide_eq_false hc;dsimp only [Option.bind_some,cond_false,Sum.elim_inl];show cond (aj (aw a.1 n) (aw b.1 n)) _ _=_;by_cases he:aw a.1 n=aw b.1 n
      . rw [he,bq,az (show ¬ aw b.1 n < aw b.1 n by omega)]; rfl
      . rw [show aj (aw a.1 n) (aw b.1 n)=false from beq_eq_false_iff_ne.2 he,aF (show aw b.1 n < aw a.1 n by omega)]; rfl
   have h:Dg n [] [a,b] 2 0=some (.inl (n,qn n [a,b],[a,b],2,2,())):=aQ _ e1 (aQ _ e2 (aJ _ rfl));exact (bn h).trans rfl
 | _ :: _ :: _ :: _,hb=>exact absurd hb.1 (by simp)
def gK:jZ:=(0,[],[],[],[],[],0,0,())
def xG (s:List UInt8):Bool:=cond (cond (bY s [48,49,48,48]) true (bY s [48,50,48,48])) true (bY s [48,50,50,48])
abbrev EN:=List UInt8×List UInt8×List UInt8×List (Int×Unit)×Unit
def cP:List EN:=[([48,49,48,48],[48,48],[97,117,116,104],[(4,()),(14,()),(38,())],()),([48,49,48,48],[48,50],[109,111,114,101],[(4,()),(38,())],()),([48,50,50,48],[48,49],[112,97,114,116],[(4,()),(38,())],()),([48,50,50,48],[48,48],[102,105,110,97,108],[(4,()),(38,())],()),([48,50,50,48],[50,48],[102,114,101,101],[(38,())],()),([48,50,48,48],[52,48],[109,111,118,101],[(38,()),(103,())],()),([48,49,48,48],[51,49],[97,115,107],[],()),([48,50,48,48],[57,48],[115,119,101,101,112],[],())]
def By (mti c:List UInt8) (r:EN):Bool:=cond (bY r.1 mti) (bY r.2.1 (sub c 0 2)) false
def dV (mti c:List UInt8):Int:=1 + gh (By mti c) 0 cP
theorem su (mti c:List UInt8):dV mti c=0∨dV mti c=1∨dV mti c=2∨dV mti c=3∨dV mti c=4∨dV mti c=5∨dV mti c=6∨dV mti c=7∨dV mti c=8:=by unfold dV;have:=uc (By mti c) cP 0;simp only [show cP.length=8 from rfl] at this;omega
theorem Lr (m:cu) (c:List UInt8) (hc:2<=c.length) (nm:List UInt8×Unit) (hn:nm=(c,())):JP cP m nm=some ((),((gh (By m.1 c) 0 cP,()),())):=by
 subst hn;have hcut:dJ 0 2 c=true:=iS (i:=2) hc;have h:=aD (step:=cW nA) cP (fun i (_:Unit)=>(cP,(m,(c,()),()),ae cP,((i:Nat):Int),())) (fun i x _=>bif By m.1 c x then Sum.inr (.inr ((i:Int),())) else .inl ()) (fun _=> .inl (cP,(m,(c,()),()),ae cP,(cP.length:Int),())) (a0:=()) (fun i x a hx=>by
  have hlt:=ak hx;have h8:cP.length=8:=rfl;show nA cP (m,(c,()),()) (ae cP) (i:Int)=_;unfold nA Pz By;rw [aG hx,aC hx,aV _ hx,aP (by unfold aX; omega)];dsimp only [cond_true];rw [hcut];cases bY x.1 m.1 <;> cases bY x.2.1 (sub c 0 2) <;> rfl) (fun a=>by
  show nA cP (m,(c,()),()) (ae cP) (cP.length:Int)=_;unfold nA;rw [ax rfl]; rfl)
 have hf:=l4 (Y:=Sum ((List EN)×(cu×(List UInt8×Unit)×Unit)×Int×Int×Unit) (Int×Unit)) (By m.1 c) (fun n=> .inr (n,())) (.inl (cP,(m,(c,()),()),ae cP,(cP.length:Int),())) (fun y=>match y with | .inl _ => -1 | .inr z=>z.1) (fun _=>rfl) rfl cP 0;unfold JP;refine (bn h).trans ?_;rw [<- hf];dsimp only [Option.bind_some];cases kK _ _ 0 cP () <;> rfl
theorem Yd {i:Nat} {x:EN} (hx:cP[i]? = some x):FI (((i + 1:Nat)):Int)=some ((),((x.1,()),()))/\Oi (((i + 1:Nat)):Int)=some ((),((x.2.1,()),())):=by
 have hlt:=ak hx;have h8:cP.length=8:=rfl;have:i=0∨i=1∨i=2∨i=3∨i=4∨i=5∨i=6∨i=7:=by omega
 rcases this with h | h | h | h | h | h | h | h <;> subst h <;> cases hx <;> exact ⟨rfl,rfl⟩
theorem LH (mti c:List UInt8) (hc:2<=c.length):GN mti c=some ((),((dV mti c,()),())):=by
 have hcut:dJ 0 2 c=true:=iS (i:=2) hc;have h8:cP.length=8:=rfl;have h:=aD (step:=fc uH) cP (fun i (_:Unit)=>(mti,c,((i + 1:Nat):Int),())) (fun i x _=>bif By mti c x then Sum.inr (.inr (((i + 1:Nat):Int),())) else .inl ()) (fun _=> .inl (mti,c,9,())) (a0:=()) (fun i x a hx=>by have hlt:=ak hx;show uH mti c ((i + 1:Nat):Int)=_;unfold uH By;rw [(Yd hx).1,(Yd hx).2,show bz ((i + 1:Nat):Int) 8=true from decide_eq_true (by omega),aP (by unfold aX; omega)];dsimp only [cond_true,Option.bind_some];rw [hcut];cases bY x.1 mti <;> cases bY x.2.1 (sub c 0 2) <;> rfl) (fun a=>rfl);have hf:=l4 (Y:=Sum (List UInt8×List UInt8×Int×Unit) (Int×Unit)) (By mti c) (fun n=> .inr (1 + n,())) (.inl (mti,c,9,())) (fun y=>match y with | .inl _ => -1 | .inr z=>z.1 - 1) (fun n=>by show 1 + n - 1=n; omega) rfl cP 0;rw [show (fun (i:Nat) (x:EN) (_:Unit)=>bif By mti c x then (Sum.inr (Sum.inr (((i + 1:Nat):Int),())):Sum Unit (Sum (List UInt8×List UInt8×Int×Unit) (Int×Unit))) else .inl ())=fun i x _=>bif By mti c x then .inr (.inr (1 + (i:Int),())) else .inl () from by funext i x _;rw [show ((i + 1:Nat):Int)=1 + (i:Int) by omega]] at h;unfold GN;have h':Ht mti c 1=_:=h;refine (bn h').trans ?_;unfold dV;rw [<- hf];dsimp only [Option.bind_some];have hneg:gh (By mti c) 0 cP = -1∨0<=gh (By mti c) 0 cP:=by
  rcases uc (By mti c) cP 0 with h | h
  . exact Or.inl h
  . exact Or.inr h.1
 cases hg:kK (fun (i:Nat) (x:EN) (_:Unit)=>bif By mti c x then (Sum.inr (Sum.inr (1 + (i:Int),())):Sum Unit (Sum (List UInt8×List UInt8×Int×Unit) (Int×Unit))) else .inl ()) (fun _=> .inl (mti,c,9,())) 0 cP () with
 | inl y=>rfl
 | inr y => show some ((),((y.1,()),()))=some ((),((1 + (y.1 - 1),()),()));rw [show 1 + (y.1 - 1)=y.1 by omega]
def fv (m:cu) (no:Int):List UInt8:=(lN m no).getD []
def fs (m:cu) (no:Int):Bool:=(lN m no).isSome
theorem la (m:cu) (no:Int):CP (lN m no)=some ((),((fv m no,()),(fs m no,()),())):=by unfold CP fv fs;cases lN m no <;> rfl
theorem tl {m:cu} {no:Int} (h:fs m no=false):fv m no=[]:=by
 unfold fs at h; unfold fv;cases hf:lN m no with
 | none=>rfl
 | some s=>rw [hf] at h; cases h
theorem C4 {m:cu} {no:Int} {s:List UInt8} (h:lN m no=some s):∃ f∈m.2.1,f.1=no/\f.2.1=s:=by
 unfold lN at h;cases hf:m.2.1.find? fun f=>aj f.1 no with
 | none=>rw [hf] at h; cases h
 | some f => rw [hf] at h;refine ⟨f,List.mem_of_find?_eq_some hf,dW.1 (by have:=List.find?_some hf; exact this),?_⟩;cases h; rfl
theorem lk {m:cu} (hb:pW m) (no:Int):(fv m no).length<=1048576:=by
 unfold fv;cases h:lN m no with
 | none=>exact Nat.zero_le _
 | some s => obtain ⟨f,h1,_,rfl⟩:=C4 h;exact hb.2.2 f h1
theorem JO {m:cu} (h:ug m=true) {no:Int} {s:List UInt8} (hf:lN m no=some s):iH no s=true:=by
 unfold ug at h;obtain ⟨f,h1,h2,h3⟩:=C4 hf;obtain ⟨i,hi⟩:=List.mem_iff_getElem?.1 h1;cases hd:cond (aS m.1) (aj (ae m.1) 4) false with
 | false=>rw [hd] at h; cases h
 | true =>
   rw [hd] at h;have:=tG (fL m.2.1) h hi;unfold fL at this;rw [h2,h3] at this;cases hk:iH no s with
   | true=>rfl
   | false=>rw [hk] at this; cases this
theorem xU {m:cu} (h:ug m=true) {s:List UInt8} (hf:lN m 3=some s):2<=s.length:=by
 have:=JO h hf;have e:iH 3 s=cond (aS s) (aj (ae s) 6) false:=rfl;rw [e] at this;cases hd:aS s with
 | false=>rw [hd] at this; cases this
 | true => rw [hd] at this;have:=dW.1 (show aj (ae s) 6=true from this);have:(s.length:Int)=6:=this;omega
def P8 (s:List UInt8):Int:=match wQ s with | some n=>(n:Int) | none=>0
def Yc (s:List UInt8):Bool:=(wQ s).isSome
theorem yk (s:List UInt8):LA (wQ s)=some ((),((P8 s,()),(Yc s,()),())):=by unfold LA P8 Yc;cases wQ s <;> rfl
def im (m:cu) (op:Int):jZ:=(op,fv m 2,cond (aj op 6) (fv m 103) [],cond (cond (dF op 1 8) (au op 7) false) (sf (fv m 38)) [],fv m 11,m.1,cond (dF op 1 4) (P8 (fv m 4)) 0,cond (aj op 1) (P8 (fv m 14)) 0,())
def Gf (m:cu) (op:Int):Bool:=cond (cond (dF op 1 4) (fs m 4) true) (cond (aj op 1) (fs m 14) true) false
def FB (m:cu) (op:Int):jZ×Int:=cond (Gf m op) (cond (pT (im m op)) (im m op,0) (gK,1)) (gK,1)
def j4 (m:cu):jZ×Int:=cond (ug m) (cond (xG m.1) (match lN m 3 with | none=>(gK,1) | some c=>FB m (dV m.1 c)) (gK,2)) (gK,1)
def IJ (p:jZ×Int):Option (Unit×(jZ×(Int×Unit)×Unit)):=some ((),(p.1,(p.2,()),()))
theorem CO {m:cu} (hb:pW m) (op:Int):GZ (im m op):=by
 refine ⟨lk hb 2,?_,?_,lk hb 11,hb.1⟩
 . show (cond (aj op 6) (fv m 103) []).length<=_;cases aj op 6 with
   | true=>exact lk hb 103
   | false=>exact Nat.zero_le _
 . show (cond (cond (dF op 1 8) (au op 7) false) (sf (fv m 38)) []).length<=_;cases cond (dF op 1 8) (au op 7) false with
   | true=>exact Nat.le_trans (Ig _) (lk hb 38)
   | false=>exact Nat.zero_le _
theorem Vv (m:cu) (hb:pW m):Kv m=IJ (j4 m):=by
 unfold Kv j4;rw [QN m hb];cases hm:ug m with
 | false=>rfl
 | true =>
 have hk:OU m.1=some ((),((xG m.1,()),())):=rfl;dsimp only [Option.bind_some,Bool.not_true,cond_false];rw [hk];cases xG m.1 with
 | false=>rfl
 | true =>
 show Option.bind (jK m 3) _=_;rw [uA m 3 hb];cases h3:lN m 3 with
 | none=>rfl
 | some c =>
 show Option.bind (GN m.1 c) _=_;rw [LH m.1 c (xU hm h3)];have f2:=(uA m 2 hb).trans (la m 2);have f11:=(uA m 11 hb).trans (la m 11);have f38:=(uA m 38 hb).trans (la m 38);have f4:=(uA m 4 hb).trans (la m 4);have f14:=(uA m 14 hb).trans (la m 14);have f103:=(uA m 103 hb).trans (la m 103);have b38:=PJ (fv m 38) (cl (lk hb 38));have n4:=(Dp (fv m 4) (cl (lk hb 4))).trans (yk _);have n14:=(Dp (fv m 14) (cl (lk hb 14))).trans (yk _);dsimp only [Option.bind_some];rw [f2,f11];dsimp only [Option.bind_some];have hop:=su m.1 c;generalize dV m.1 c=op at hop ⊢;have hq:=Ro (im m op) (CO hb op);have hH:Fu op=some ((),((cond (dF op 1 8) (au op 7) false,()),())):=rfl;have hA:Ab op=some ((),((dF op 1 4,()),())):=rfl;unfold FB;generalize pT (im m op)=z at hq ⊢;rw [hH,hA,f38,f4,f14,f103];dsimp only [Option.bind_some];rw [b38,n4,n14];dsimp only [Option.bind_some];unfold Gf;unfold im at hq ⊢;generalize cond (dF op 1 8) (au op 7) false=c1 at hq ⊢;generalize dF op 1 4=c2 at hq ⊢;generalize aj op 1=c3 at hq ⊢;generalize aj op 6=c4 at hq ⊢;cases c1 <;> cases c2 <;> cases c3 <;> cases c4 <;> dsimp only [cond_true,cond_false] at hq ⊢ <;> rw [hq] <;> cases fs m 4 <;> cases fs m 14 <;> cases z <;> rfl
theorem Pe {m:cu} {op:Int} (h:pT (im m op)=true):fs m 2=true/\fs m 11=true/\(cond (dF op 1 8) (au op 7) false=true->fs m 38=true)/\(aj op 6=true->fs m 103=true):=by
 unfold pT im at h;simp only [Bool.and_eq_true] at h;obtain ⟨⟨⟨⟨⟨⟨⟨⟨h1,_⟩,h2⟩,h3⟩,_⟩,h4⟩,_⟩,_⟩,h5⟩:=h;refine ⟨?_,?_,fun hc => ?_,fun hc => ?_⟩
 . cases hf:fs m 2 with
   | true=>rfl
   | false=>rw [tl hf] at h2; cases h2
 . cases hf:fs m 11 with
   | true=>rfl
   | false=>rw [tl hf] at h3; cases h3
 . cases hf:fs m 38 with
   | true=>rfl
   | false => rw [hc,tl hf] at h4;rw [h1] at hc;rw [show au op 7=true from hc] at h4;cases h4
 . cases hf:fs m 103 with
   | true=>rfl
   | false=>rw [hc,tl hf] at h5; cases h5
def lF (op:Int):List cM:=cond (dF op 1 8) (gt ([],[],[],[],()) cP (op - 1)).2.2.2.1 []
def FM (m:cu) (op:Int):Bool:=fs m 2 && (fs m 11 && (lF op).all fun x=>fs m x.1)
def XE (op:Int):Prop:=op=0∨op=1∨op=2∨op=3∨op=4∨op=5∨op=6∨op=7∨op=8
theorem Gw (m:cu) (op:Int) (hop:XE op):FB m op=bif FM m op then (bif pT (im m op) then (im m op,0) else (gK,1)) else (gK,1):=by
 have hz:= @Pe m op;unfold FB;generalize pT (im m op)=z at hz ⊢;generalize im m op=q at hz ⊢;cases z with
 | false=>cases FM m op <;> cases Gf m op <;> rfl
 | true =>
   obtain ⟨h1,h2,h3,h4⟩:=hz rfl;unfold FM Gf;rw [h1,h2];rcases hop with h | h | h | h | h | h | h | h | h <;> subst h
   . rfl
   . have:=h3 rfl;show (bif cond (fs m 4) (fs m 14) false then _ else _)=bif true && (true && (fs m 4 && (fs m 14 && (fs m 38 && true)))) then _ else _;rw [this];cases fs m 4 <;> cases fs m 14 <;> rfl
   . have:=h3 rfl;show (bif cond (fs m 4) true false then _ else _)=bif true && (true && (fs m 4 && (fs m 38 && true))) then _ else _;rw [this];cases fs m 4 <;> rfl
   . have:=h3 rfl;show (bif cond (fs m 4) true false then _ else _)=bif true && (true && (fs m 4 && (fs m 38 && true))) then _ else _;rw [this];cases fs m 4 <;> rfl
   . have:=h3 rfl;show (bif cond (fs m 4) true false then _ else _)=bif true && (true && (fs m 4 && (fs m 38 && true))) then _ else _;rw [this];cases fs m 4 <;> rfl
   . have:=h3 rfl;show _=bif true && (true && (fs m 38 && true)) then _ else _;rw [this]; rfl
   . have:=h3 rfl;have h6:=h4 rfl;show _=bif true && (true && (fs m 38 && (fs m 103 && true))) then _ else _;rw [this,h6]; rfl
   . rfl
   . rfl
def Lw (m:cu) (no:Int) (q:jZ):jZ :=
 cond (aj no 2) (q.1,fv m no,q.2.2.1,q.2.2.2.1,q.2.2.2.2.1,q.2.2.2.2.2.1,q.2.2.2.2.2.2.1,q.2.2.2.2.2.2.2.1,())
  (cond (aj no 4) (q.1,q.2.1,q.2.2.1,q.2.2.2.1,q.2.2.2.2.1,q.2.2.2.2.2.1,P8 (fv m no),q.2.2.2.2.2.2.2.1,())
    (cond (aj no 11) (q.1,q.2.1,q.2.2.1,q.2.2.2.1,fv m no,q.2.2.2.2.2.1,q.2.2.2.2.2.2.1,q.2.2.2.2.2.2.2.1,())
      (cond (aj no 14) (q.1,q.2.1,q.2.2.1,q.2.2.2.1,q.2.2.2.2.1,q.2.2.2.2.2.1,q.2.2.2.2.2.2.1,P8 (fv m no),())
        (cond (aj no 38) (q.1,q.2.1,q.2.2.1,sf (fv m no),q.2.2.2.2.1,q.2.2.2.2.2.1,q.2.2.2.2.2.2.1,q.2.2.2.2.2.2.2.1,())
          (cond (aj no 103) (q.1,q.2.1,fv m no,q.2.2.2.1,q.2.2.2.2.1,q.2.2.2.2.2.1,q.2.2.2.2.2.2.1,q.2.2.2.2.2.2.2.1,()) q)))))
def IY (m:cu):List cM->jZ->Option jZ
 | [],q=>some q
 | x :: r,q=>bif fs m x.1 then IY m r (Lw m x.1 q) else none
def SB (xs:List cM) (n:Int) (m:cu):Option jZ->Sum (List cM×Int×Int×cu×jZ×jZ×Unit) (Int×jZ×Unit)
 | some q=> .inl (xs,n,n,m,gK,q,())
 | none=> .inr (1,gK,())
theorem DK (m:cu) (ys:List cM) (n:Int):∀ (xs:List cM) (i:Nat) (q:jZ),kK (fun _ x q=>bif fs m x.1 then Sum.inl (Lw m x.1 q) else .inr (.inr (1,gK,()))) (fun q=> .inl (ys,n,n,m,gK,q,())) i xs q=SB ys n m (IY m xs q)
 | [],_,_=>rfl
 | x :: r,i,q=>by
   rw [kK,IY];cases fs m x.1 with
   | false=>rfl
   | true=>exact DK m ys n r (i + 1) _
theorem Lq (m:cu) (hb:pW m) (xs:List cM) (hx:xs.length<=10) (q0:jZ):GS xs (ae xs) 0 m gK q0=some (SB xs (ae xs) m (IY m xs q0)):=by
 have h:=aD (step:=DY ow) xs (fun i (q:jZ)=>(xs,ae xs,((i:Nat):Int),m,gK,q,())) (fun _ x q=>bif fs m x.1 then Sum.inl (Lw m x.1 q) else .inr (.inr (1,gK,()))) (fun q=> .inl (xs,ae xs,ae xs,m,gK,q,())) (a0:=q0) (fun i x q hx=>by
  have hlt:=ak hx;show ow xs (ae xs) (i:Int) m gK q=_;unfold ow;rw [aG hx,aC hx,aV _ hx,aP (by unfold aX; omega)];dsimp only [cond_true];rw [Ma m x.1 hb,la];dsimp only [Option.bind_some];rw [(MJ (fv m x.1) (cl (lk hb x.1))).trans (yk _),OV (fv m x.1) (cl (lk hb x.1))];unfold Lw;cases fs m x.1 with
  | false=>rfl
  | true=>cases aj x.1 2 <;> cases aj x.1 4 <;> cases aj x.1 11 <;> cases aj x.1 14 <;> cases aj x.1 38 <;> cases aj x.1 103 <;> rfl) (fun q=>by
  show ow xs (ae xs) (xs.length:Int) m gK q=_;unfold ow;rw [ax rfl]; rfl)
 rw [DK] at h;exact h
theorem LC (m:cu) (op:Int) (hop:XE op):IY m ((2,()) :: (11,()) :: lF op) (op,[],[],[],[],m.1,0,0,())=bif FM m op then some (im m op) else none:=by
 unfold FM;rcases hop with h | h | h | h | h | h | h | h | h <;> subst h
 . show (bif fs m 2 then (bif fs m 11 then some (im m 0) else none) else none)=bif fs m 2 && (fs m 11 && true) then _ else _;cases fs m 2 <;> cases fs m 11 <;> rfl
 . show (bif fs m 2 then (bif fs m 11 then (bif fs m 4 then (bif fs m 14 then (bif fs m 38 then some (im m 1) else none) else none) else none) else none) else none)=bif fs m 2 && (fs m 11 && (fs m 4 && (fs m 14 && (fs m 38 && true)))) then _ else _;cases fs m 2 <;> cases fs m 11 <;> cases fs m 4 <;> cases fs m 14 <;> cases fs m 38 <;> rfl
 . show (bif fs m 2 then (bif fs m 11 then (bif fs m 4 then (bif fs m 38 then some (im m 2) else none) else none) else none) else none)=bif fs m 2 && (fs m 11 && (fs m 4 && (fs m 38 && true))) then _ else _;cases fs m 2 <;> cases fs m 11 <;> cases fs m 4 <;> cases fs m 38 <;> rfl
 . show (bif fs m 2 then (bif fs m 11 then (bif fs m 4 then (bif fs m 38 then some (im m 3) else none) else none) else none) else none)=bif fs m 2 && (fs m 11 && (fs m 4 && (fs m 38 && true))) then _ else _;cases fs m 2 <;> cases fs m 11 <;> cases fs m 4 <;> cases fs m 38 <;> rfl
 . show (bif fs m 2 then (bif fs m 11 then (bif fs m 4 then (bif fs m 38 then some (im m 4) else none) else none) else none) else none)=bif fs m 2 && (fs m 11 && (fs m 4 && (fs m 38 && true))) then _ else _;cases fs m 2 <;> cases fs m 11 <;> cases fs m 4 <;> cases fs m 38 <;> rfl
 . show (bif fs m 2 then (bif fs m 11 then (bif fs m 38 then some (im m 5) else none) else none) else none)=bif fs m 2 && (fs m 11 && (fs m 38 && true)) then _ else _;cases fs m 2 <;> cases fs m 11 <;> cases fs m 38 <;> rfl
 . show (bif fs m 2 then (bif fs m 11 then (bif fs m 38 then (bif fs m 103 then some (im m 6) else none) else none) else none) else none)=bif fs m 2 && (fs m 11 && (fs m 38 && (fs m 103 && true))) then _ else _;cases fs m 2 <;> cases fs m 11 <;> cases fs m 38 <;> cases fs m 103 <;> rfl
 . show (bif fs m 2 then (bif fs m 11 then some (im m 7) else none) else none)=bif fs m 2 && (fs m 11 && true) then _ else _;cases fs m 2 <;> cases fs m 11 <;> rfl
 . show (bif fs m 2 then (bif fs m 11 then some (im m 8) else none) else none)=bif fs m 2 && (fs m 11 && true) then _ else _;cases fs m 2 <;> cases fs m 11 <;> rfl
theorem Ga (op:Int) (hop:XE op):∃ a b c,yA op=some ((),((a,b,c,lF op,()),()))/\(lF op).length<=3:=by rcases hop with h | h | h | h | h | h | h | h | h <;> subst h <;> exact ⟨_,_,_,rfl,by decide⟩
theorem VM (m:cu) (hb:pW m):KN m=IJ (j4 m):=by
 unfold KN j4;rw [Tb m hb];cases hm:ug m with
 | false=>rfl
 | true =>
 have hk:N0 m.1=some ((),((xG m.1,()),())):=rfl;dsimp only [Option.bind_some,Bool.not_true,cond_false];rw [hk];cases xG m.1 with
 | false=>rfl
 | true =>
 show Option.bind (EC m 3) _=_;rw [Ma m 3 hb];cases h3:lN m 3 with
 | none=>rfl
 | some c =>
 have hr:K5=some ((),((cP,()),())):=rfl;unfold CP;dsimp only [Option.bind_some,Bool.not_true,cond_false];rw [hr];dsimp only [Option.bind_some];refine (bn (Lr m c (xU hm h3) (c,()) rfl)).trans ?_;have hop:=su m.1 c;have hw:aq .i64 1 (gh (By m.1 c) 0 cP)=dV m.1 c:=by unfold dV at hop ⊢;exact bb (by omega) (by omega)
 dsimp only [Option.bind_some];rw [hw];generalize dV m.1 c=op at hop ⊢;obtain ⟨a1,a2,a3,hf,hfl⟩:=Ga op hop;rw [hf];dsimp only [Option.bind_some];have hfit:cQ 8 [((2:Int),()),(11,())] (lF op)=true:=Nat.ble_eq_true_of_le (by show (2 + (lF op).length) * 8<=140737488355328; omega);rw [hfit];refine (bn (Lq m hb ((2,()) :: (11,()) :: lF op) (by simp only [List.length_cons]; omega) (op,[],[],[],[],m.1,0,0,()))).trans ?_;rw [LC m op hop];show _=IJ (FB m op);rw [Gw m op hop];cases FM m op with
 | false=>rfl
 | true => refine (bn (QQ (im m op) (CO hb op))).trans ?_;cases pT (im m op) <;> rfl
def BH (b:aR):List nh:=match jX b with
 | (m,c)=>bif aj c 0 then (match j4 m with | (q,d)=>bif aj d 0 then (bif aj q.1 6 && !(bY q.2.2.1 q.2.1) then (bif jO q.2.2.1 q.2.1 then [(q.2.2.1,()),(q.2.1,())] else [(q.2.1,()),(q.2.2.1,())]) else [(q.2.1,())]) else []) else []
theorem D8 {b:aR}:∀ {nos:aR} {a:Nat} {o l:List nM} {e:Nat},a<=b.length->(∀ f∈o,f.2.1.length<=1048576)->kE b nos a o=some (l,e)->l.length=o.length + nos.length/\∀ f∈l,f.2.1.length<=1048576
 | [],_,_,_,_,_,ho,h=>by cases h;exact ⟨rfl,ho⟩
 | x :: r,a,o,l,e,ha,ho,h=>by
   rw [kE] at h;cases hg:nj b a x.1 with
   | none=>rw [hg] at h; cases h
   | some p =>
     rw [hg] at h;obtain ⟨_,h2,h3⟩:=qW ha hg;obtain ⟨k1,k2⟩:=D8 (nos:=r) h3 (fun f hf=>by
      rcases List.mem_append.1 hf with h | h
      . exact ho f h
      . rcases List.mem_singleton.1 h with rfl
        exact Nat.le_trans h2 (by omega)) h
     refine ⟨?_,k2⟩;rw [k1,List.length_append];simp only [List.length_cons,List.length_nil];omega
theorem vl (b:aR):pW (jX b).1:=by
 have h0:pW ([],[],()):=⟨Nat.zero_le _,Nat.zero_le _,fun f hf=>by cases hf⟩;unfold jX;cases hc:iG b 0 4 with
 | none=>exact h0
 | some mti =>
   cases hn:zO b with
   | none=>exact h0
   | some p =>
     obtain ⟨nos,a⟩:=p;obtain ⟨n1,n2⟩:=Ak hn;dsimp only;cases hf:kE b nos a [] with
     | none=>exact h0
     | some q =>
       obtain ⟨l,e⟩:=q;obtain ⟨k1,k2⟩:=D8 n2 (fun f hf=>by cases hf) hf;dsimp only;split
       . refine ⟨?_,?_,k2⟩
         . show mti.length<=_;rw [(dQ hc).2.1]; omega
         . show l.length<=_;rw [k1]; simp only [List.length_nil]; exact Nat.le_trans (Nat.le_of_eq (Nat.zero_add _)) (Nat.le_trans n1 (by omega))
       . exact h0
theorem KY {m:cu} (hb:pW m):GZ (j4 m).1:=by
 have h0:GZ gK:=⟨Nat.zero_le _,Nat.zero_le _,Nat.zero_le _,Nat.zero_le _,Nat.zero_le _⟩;unfold j4 FB;cases ug m with
 | false=>exact h0
 | true =>
 cases xG m.1 with
 | false=>exact h0
 | true =>
 cases lN m 3 with
 | none=>exact h0
 | some c =>
 dsimp only [cond_true];cases Gf m (dV m.1 c) with
 | false=>exact h0
 | true =>
   dsimp only [cond_true];cases pT (im m (dV m.1 c)) with
   | false=>exact h0
   | true=>exact CO hb _
theorem MH (b:aR):E5 (BH b):=by
 have h1:=KY (vl b);have h0:E5 []:=⟨Nat.zero_le _,fun x hx=>by cases hx⟩;unfold BH;generalize jX b=p at h1 ⊢;obtain ⟨m,c⟩:=p;dsimp only at h1 ⊢;cases aj c 0 with
 | false=>exact h0
 | true =>
 generalize j4 m=r at h1 ⊢;obtain ⟨q,d⟩:=r;dsimp only [cond_true] at h1 ⊢;have two:∀ x y:List UInt8,x.length<=1048576->y.length<=1048576->E5 [(x,()),(y,())]:=fun x y hx hy=>⟨Nat.le_refl _,fun z hz=>by
  rcases List.mem_cons.1 hz with rfl | hz
  . exact hx
  . rcases List.mem_singleton.1 hz with rfl
    exact hy⟩
 cases aj d 0 with
 | false=>exact h0
 | true =>
   dsimp only [cond_true];cases aj q.1 6 && !(bY q.2.2.1 q.2.1) with
   | false=>exact ⟨Nat.le_succ 1,fun z hz=>by rcases List.mem_singleton.1 hz with rfl; exact h1.1⟩
   | true =>
     dsimp only [cond_true];cases jO q.2.2.1 q.2.1 with
     | true=>exact two _ _ h1.2.1 h1.1
     | false=>exact two _ _ h1.1 h1.2.1
theorem Tu (b:aR) (hb:xX b):Up b=some ((),((BH b,()),())):=by
 unfold Up BH;rw [T9 b hb];have hm:=vl b;unfold FC;generalize jX b=p at hm ⊢;obtain ⟨m,c⟩:=p;dsimp only [Option.bind_some] at hm ⊢;cases aj c 0 with
 | false=>rfl
 | true =>
   dsimp only [Bool.not_true,cond_false,cond_true];rw [Vv m hm];unfold IJ;generalize j4 m=r;obtain ⟨q,d⟩:=r;dsimp only [Option.bind_some];cases aj d 0 with
   | false=>rfl
   | true => dsimp only [Bool.not_true,cond_false,cond_true];cases aj q.1 6 <;> cases bY q.2.2.1 q.2.1 <;> cases jO q.2.2.1 q.2.1 <;> rfl
theorem Dk {a b:List UInt8}:bY a b=true↔a=b:=by simp [bY]
theorem Rs (b:aR) (hb:xX b):Ui b=some ((),((BH b,()),())):=by
 unfold Ui BH;rw [Sq b hb];have hm:=vl b;unfold FC;generalize jX b=p at hm ⊢;obtain ⟨m,c⟩:=p;dsimp only [Option.bind_some] at hm ⊢;rw [VM m hm];unfold IJ;generalize j4 m=r;obtain ⟨q,d⟩:=r;dsimp only [Option.bind_some];cases aj c 0 with
 | false=>rfl
 | true =>
 cases aj d 0 with
 | false=>rfl
 | true =>
 dsimp only [Bool.not_true,cond_false,cond_true];cases aj q.1 6 with
 | false => dsimp only [cond_false,Bool.false_and];rw [L3]; rfl
 | true =>
   show Option.bind (An [(q.2.1,()),(q.2.2.1,())]) _=_;rw [LM];unfold P9;dsimp only [Option.bind_some,Bool.true_and];cases he:bY q.2.2.1 q.2.1 with
   | true => have e:=Dk.1 he;rw [e,yn];dsimp only [cond_false];rw [za,eb]; rfl
   | false =>
     cases hc:jO q.2.2.1 q.2.1 with
     | true =>
       dsimp only [cond_true];rw [za];have:bY q.2.1 q.2.2.1=false:=by
        cases h:bY q.2.1 q.2.2.1 with
        | false=>rfl
        | true=>rw [Dk.1 h,eb] at he; cases he
       dsimp only;rw [this]; rfl
     | false => dsimp only [cond_false];rw [za];dsimp only;rw [he]; rfl
def dU (b:aR) (n:Int):List cM:=qn n (BH b)
abbrev dy:=aR×Int×List cM×Int×Int×Int×Int×Int×aR×Unit
def nr (t:dy):Prop:=xX t.1/\t.2.2.1.length<=1048576/\t.2.2.2.2.2.2.2.2.1.length<=1048576
def ye (a b:List cM):Bool:=cond (aj (ae a) (ae b)) (allI (fun i x=>aj x.1 (gt (0,()) b (i:Int)).1) 0 a) false
theorem M6 (a b:List cM) (hs:a.length<=1048576):Uz a b=some ((),((ye a b,()),())):=by
 unfold Uz ye;dsimp only;cases he:aj (ae a) (ae b) with
 | false=>rfl
 | true =>
   have hl:a.length=b.length:=by have:=dW.1 he; unfold ae at this; omega
   have h:=aD (step:=cW uS) a (fun i (_:Unit)=>(a,b,ae a,((i:Nat):Int),())) (fun i x _=>bif aj x.1 (gt (0,()) b (i:Int)).1 then Sum.inl () else .inr (.inr (false,()))) (fun _=> .inl (a,b,ae a,(a.length:Int),())) (a0:=()) (fun i x u hx=>by
    have hlt:=ak hx;show uS a b (ae a) (i:Int)=_;unfold uS;rw [aG hx,aC hx,aV _ hx,aP (by unfold aX; omega),ld (xs:=b) (by omega)];dsimp only [cond_true];show cond (!(aj x.1 (gt (0,()) b (i:Int)).1)) _ _=_;cases aj x.1 (gt (0,()) b (i:Int)).1 <;> rfl) (fun u=>by
    show uS a b (ae a) (a.length:Int)=_;unfold uS;rw [ax rfl]; rfl)
   rw [cC] at h;refine (bn h).trans ?_;dsimp only [cond_true];cases allI _ 0 a <;> rfl
theorem TL (a b:List cM) (hs:a.length<=1048576):Vj a b=some ((),((ye a b,()),())):=M6 a b hs
theorem H2 (t:dy) (n:Int) (hb:nr t):Qk t n=some ((),((dU t.1 n,()),())):=by unfold Qk dU;rw [Tu _ hb.1];dsimp only [Option.bind_some];rw [Oh _ n (MH t.1)]; rfl
theorem Im (t:dy) (n:Int) (hb:nr t):Ua t n=some ((),((dU t.1 n,()),())):=by unfold Ua dU;rw [Rs _ hb.1];dsimp only [Option.bind_some];rw [N6 _ n (MH t.1)]; rfl
def sx (t:dy):Bool:=cond (aj t.2.1 1) (cond (bz 0 t.2.2.2.1) (au t.2.2.2.1 (ae t.2.2.1)) false) (cond (aj t.2.1 2) (cond (aj t.2.2.2.1 (ae t.2.2.1)) (au 0 (ae t.2.2.1)) false) (cond (aj t.2.1 3) (dF t.2.2.2.1 1 (ae t.2.2.1)) (aj t.2.2.2.1 0)))
def Lv (t:dy):Bool:=cond (bz t.2.1 2) (cond (cond (cond (aj t.2.2.2.2.2.1 (-1)) (aj t.2.2.2.2.2.2.1 (-1)) false) (aj t.2.2.2.2.2.2.2.1 0) false) (aj (ae t.2.2.2.2.2.2.2.2.1) 0) false) (cond (cond (!df t.2.2.2.2.2.1) true (au t.2.2.2.2.2.1 t.2.2.2.2.1)) false (cond (aj t.2.1 5) (cond (df t.2.2.2.2.2.2.1) (bz t.2.2.2.2.2.1 t.2.2.2.2.2.2.1) false) (aj t.2.2.2.2.2.2.1 (-1))))
def ki (t:dy) (n:Int):Bool:=cond (cond (cond (!dF n 1 5) true (au 300 (ae t.1))) true (au 200 (ae t.2.2.2.2.2.2.2.2.1))) false (cond (df t.2.2.2.2.1) (cond (df t.2.2.2.2.2.2.2.1) (cond (dF t.2.1 0 5) (cond (sx t) (cond (cond (aj t.2.1 0) (au 0 (ae t.2.2.1)) false) false (cond (cond (!(aj t.2.1 0)) (ye t.2.2.1 (dU t.1 n)) true) (Lv t) false)) false) false) false) false)
theorem GQ (t:dy) (n:Int) (hb:nr t):Ql t n=some ((),((ki t n,()),())):=by
 have hn:=H2 t n hb;have he:=M6 t.2.2.1 (dU t.1 n) hb.2.1;have hh:UU t=some ((),((sx t,()),())):=by unfold UU sx;dsimp only;rw [lx];cases aj t.2.1 1 <;> cases aj t.2.1 2 <;> cases aj t.2.1 3 <;> rfl
 unfold Ql;dsimp only;rw [lx,mx,mx,lx,hh,hn];dsimp only [Option.bind_some];rw [he,mx,mx];dsimp only [Option.bind_some];unfold ki Lv;generalize sx t=c1;generalize ye t.2.2.1 (dU t.1 n)=c2;generalize dF n 1 5=c3;generalize dF t.2.1 0 5=c4;generalize au 300 (ae t.1)=c5;generalize au 200 (ae t.2.2.2.2.2.2.2.2.1)=c6;generalize df t.2.2.2.2.1=c7;generalize df t.2.2.2.2.2.2.2.1=c8;generalize df t.2.2.2.2.2.1=c9;generalize df t.2.2.2.2.2.2.1=ca;generalize bz t.2.1 2=cb;generalize aj t.2.1 0=cc;generalize aj t.2.1 5=cd;generalize au 0 (ae t.2.2.1)=ce;cases c3 <;> first | rfl | skip
 cases c5 <;> first | rfl | skip
 cases c6 <;> first | rfl | skip
 cases c7 <;> first | rfl | skip
 cases c8 <;> first | rfl | skip
 cases c4 <;> first | rfl | skip
 cases c1 <;> first | rfl | skip
 cases cc <;> cases ce <;> cases c2 <;> first | rfl | skip
 all_goals (cases cb <;> first | rfl | skip)
 all_goals (cases c9 <;> first | rfl | skip)
 all_goals (cases au t.2.2.2.2.2.1 t.2.2.2.2.1 <;> cases cd <;> cases ca <;> rfl)
theorem Qm {α:Type} {h:Int} {xs:List α} (hs:xs.length<=1048576):dF h 0 (aH .i64 (ae xs) 1)=cond (bz 0 h) (au h (ae xs)) false:=by
 unfold ae;rw [aN (by omega) (by omega)];unfold dF;have:bz h ((xs.length:Int) - 1)=au h (xs.length:Int):=by unfold bz au;exact decide_eq_decide.2 (by omega)
 rw [this]
theorem Bs {pc:Int} (h:dF pc 0 5=true):pc=0∨pc=1∨pc=2∨pc=3∨pc=4∨pc=5:=by have:=fe.1 h;omega
theorem Jm (t:dy) (n:Int) (hb:nr t):Qi t n=some ((),((ki t n,()),())):=by
 obtain ⟨d,pc,st,held,inv,lin,res,at',rep,u⟩:=t;have hn:=Im (d,pc,st,held,inv,lin,res,at',rep,u) n hb;have he:=TL st (dU d n) hb.2.1;have hl:= @Qm _ held st hb.2.1;cases hpc:dF pc 0 5 with
 | false =>
   have hp:TN pc=some ((),(([],()),())):=by unfold TN;rw [jD,hpc]; rfl
   unfold Qi ki;dsimp only;rw [jD,hp];dsimp only [Option.bind_some];rw [hpc];cases dF n 1 5 <;> first | rfl | skip
   cases au 300 (ae d) <;> cases au 200 (ae rep) <;> cases df inv <;> cases df at' <;> rfl
 | true =>
   have hp:∃ nm,TN pc=some ((),((nm,()),()))/\bY nm []=false:=by rcases Bs hpc with h | h | h | h | h | h <;> subst h <;> exact ⟨_,rfl,rfl⟩
   obtain ⟨nm,hp,hne⟩:=hp;unfold Qi ki sx Lv;dsimp only;rw [jD,hp];dsimp only [Option.bind_some];rw [hne,mz,mz,mz,mz,jD,jD,hn,hl,hpc];dsimp only [Option.bind_some];rw [he];dsimp only [Option.bind_some];generalize ye st (dU d n)=c2;generalize dF n 1 5=c3;generalize au 300 (ae d)=c5;generalize au 200 (ae rep)=c6;generalize df inv=c7;generalize df at'=c8;generalize df lin=c9;generalize df res=ca;generalize dF held 1 (ae st)=cg;generalize au 0 (ae st)=ce;generalize aj held (ae st)=ch;generalize bz 0 held=ci;generalize au held (ae st)=cj;generalize aj held 0=ck;cases c3 <;> first | rfl | skip
   cases c5 <;> first | rfl | skip
   cases c6 <;> first | rfl | skip
   cases c7 <;> first | rfl | skip
   cases c8 <;> first | rfl | skip
   clear hp hn he hl;rcases Bs hpc with h | h | h | h | h | h <;> subst h
   . simp only [show aj (0:Int) 0=true from rfl,show aj (0:Int) 1=false from rfl,show aj (0:Int) 2=false from rfl,show aj (0:Int) 3=false from rfl,show au (0:Int) 3=true from rfl,show bz (0:Int) 2=true from rfl,cond_true,cond_false,Bool.not_true,Bool.not_false];cases ce <;> cases ck <;> rfl
   . simp only [show aj (1:Int) 0=false from rfl,show aj (1:Int) 1=true from rfl,show au (1:Int) 3=true from rfl,show bz (1:Int) 2=true from rfl,cond_true,cond_false,Bool.not_true,Bool.not_false];cases c2 <;> cases ci <;> cases cj <;> rfl
   . simp only [show aj (2:Int) 0=false from rfl,show aj (2:Int) 1=false from rfl,show aj (2:Int) 2=true from rfl,show au (2:Int) 3=true from rfl,show bz (2:Int) 2=true from rfl,cond_true,cond_false,Bool.not_true,Bool.not_false];cases c2 <;> cases ch <;> cases ce <;> rfl
   . simp only [show aj (3:Int) 0=false from rfl,show aj (3:Int) 1=false from rfl,show aj (3:Int) 2=false from rfl,show aj (3:Int) 3=true from rfl,show aj (3:Int) 5=false from rfl,show au (3:Int) 3=false from rfl,show bz (3:Int) 2=false from rfl,cond_true,cond_false,Bool.not_true,Bool.not_false];cases c2 <;> cases cg <;> cases c9 <;> cases au lin inv <;> rfl
   . simp only [show aj (4:Int) 0=false from rfl,show aj (4:Int) 1=false from rfl,show aj (4:Int) 2=false from rfl,show aj (4:Int) 3=false from rfl,show aj (4:Int) 5=false from rfl,show au (4:Int) 3=false from rfl,show bz (4:Int) 2=false from rfl,cond_true,cond_false,Bool.not_true,Bool.not_false];cases c2 <;> cases ck <;> cases c9 <;> cases au lin inv <;> rfl
   . simp only [show aj (5:Int) 0=false from rfl,show aj (5:Int) 1=false from rfl,show aj (5:Int) 2=false from rfl,show aj (5:Int) 3=false from rfl,show aj (5:Int) 5=true from rfl,show au (5:Int) 3=false from rfl,show bz (5:Int) 2=false from rfl,cond_true,cond_false,Bool.not_true,Bool.not_false];cases c2 <;> cases ck <;> cases c9 <;> cases au lin inv <;> cases ca <;> rfl
theorem zF {α:Type} (p:α->Bool):∀ (xs:List α) (i:Nat),bz 0 (gh p i xs)=xs.any p
 | [],_=>rfl
 | x :: r,i=>by
   rw [gh,List.any_cons];cases p x with
   | true=>exact decide_eq_true (by show (0:Int)<=(i:Int); omega)
   | false=>exact zF p r (i + 1)
theorem zG (a b:Int):aj a b=aj b a:=by unfold aj;exact Bool.beq_comm
def EY (v:Int) (xs:List cM):Bool:=xs.any fun y=>aj v y.1
theorem yB {α Y:Type} (p:α->Bool) (y:Y) (z:Y):∀ (xs:List α) (i:Nat),kK (fun _ x (_:Unit)=>bif p x then Sum.inr y else .inl ()) (fun _=>z) i xs ()=bif xs.any p then y else z
 | [],_=>rfl
 | x :: r,i=>by
   rw [kK,List.any_cons];cases p x with
   | true=>rfl
   | false=>exact yB p y z r (i + 1)
theorem Mr (xs:List cM) (v:Int) (hs:xs.length<=1048576):PQ xs v=some ((),((EY v xs,()),())):=by rw [vV xs v hs,zF]; rfl
theorem RL (xs:List cM) (v:Int) (hs:xs.length<=1048576):UP xs v=some ((),((EY v xs,()),())):=by
 have h:=aD (step:=cW wH) xs (fun i (_:Unit)=>(v,xs,ae xs,((i:Nat):Int),())) (fun _ x _=>bif aj v x.1 then Sum.inr (.inr (true,())) else .inl ()) (fun _=> .inl (v,xs,ae xs,(xs.length:Int),())) (a0:=()) (fun i x u hx=>by
  have hlt:=ak hx;show wH v xs (ae xs) (i:Int)=_;unfold wH;rw [aG hx,aC hx,aV _ hx,aP (by unfold aX; omega),zG x.1 v];cases aj v x.1 <;> rfl) (fun u=>by
  show wH v xs (ae xs) (xs.length:Int)=_;unfold wH;rw [ax rfl]; rfl)
 rw [yB] at h;unfold UP;refine (bn h).trans ?_;unfold EY;cases xs.any fun y=>aj v y.1 <;> rfl
def qK (t:dy):Nat:=min t.2.2.2.1.toNat t.2.2.1.length
def EP (t:dy) (k:Int):Bool:=EY k (t.2.2.1.take (qK t))
theorem Q6 (t:dy) (k:Int) (hb:nr t):Un t k=some ((),((EP t k,()),())):=by
 have hs:=hb.2.1;have hle:qK t<=t.2.2.1.length:=Nat.min_le_right _ _;have hl:(t.2.2.1.take (qK t)).length=qK t:=by rw [List.length_take]; omega
 have h:=aD (step:=fc uQ) (t.2.2.1.take (qK t)) (fun i (_:Unit)=>(k,((i:Nat):Int),t,())) (fun _ x _=>bif aj k x.1 then Sum.inr (.inr (true,())) else .inl ()) (fun _=> .inl (k,((qK t:Nat):Int),t,())) (a0:=()) (fun i x u hx=>by
  have hlt:=ak hx;rw [hl] at hlt;rw [List.getElem?_take,if_pos hlt] at hx;have h1:i < t.2.2.2.1.toNat:=Nat.lt_of_lt_of_le hlt (Nat.min_le_left _ _);show uQ k (i:Int) t=_;unfold uQ;rw [aF (show (i:Int) < t.2.2.2.1 by omega),aG hx,aC hx,aV _ hx,aP (by unfold aX; omega),zG x.1 k];cases aj k x.1 <;> rfl) (fun u=>by
  rw [hl];show uQ k ((qK t:Nat):Int) t=_;unfold uQ;have:cond (au ((qK t:Nat):Int) t.2.2.2.1) (au ((qK t:Nat):Int) (ae t.2.2.1)) false=false:=by
   unfold qK;rcases Nat.le_total t.2.2.2.1.toNat t.2.2.1.length with h | h
   . rw [Nat.min_eq_left h,az (by omega)]; rfl
   . rw [Nat.min_eq_right h,ax rfl]; cases au _ _ <;> rfl
  rw [this]; rfl)
 rw [yB] at h;unfold Un;refine (bn h).trans ?_;unfold EP EY;cases List.any _ _ <;> rfl
theorem Rf (t:dy) (k:Int) (hb:nr t):UT t k=some ((),((EP t k,()),())):=by
 have hs:=hb.2.1;have hle:qK t<=t.2.2.1.length:=Nat.min_le_right _ _;have hu:FD 0 (ES t.2.2.2.1 (ae t.2.2.1))=((qK t:Nat):Int):=by unfold FD ES qK ae;split <;> split <;> omega
 unfold UT;dsimp only;rw [hu,iS hle,qg,Mr _ k (by rw [List.length_take]; omega)]; rfl
noncomputable def sF (l:List fQ):List aO:=open Classical in if h:∃ M,lA dp M/\eh dp (fg l) M then Classical.choose h else []
theorem Cb {l:List fQ} (hB:xb l):(sF l).length=(fg l).length/\(∀ x∈sF l,x∈fg l)/\lA dp (sF l)/\eh dp (fg l) (sF l)/\NJ l=some ((),((sF l,()),()))/\PO l=some ((),((sF l,()),())):=by
 obtain ⟨M,⟨m1,m2⟩,m3⟩:=Bk l hB;obtain ⟨M',p0,p1,p2,p3,p4⟩:=EF l hB;have e0:M=M':=by have h:=m3.symm.trans p3;simp only [Option.some.injEq,Prod.mk.injEq,true_and,and_true] at h;exact h
 subst e0;have hex:∃ M,lA dp M/\eh dp (fg l) M:=⟨M,m1,m2⟩;have e:sF l=M:=by unfold sF;rw [dif_pos hex];exact qp fm (Classical.choose_spec hex).1 m1 ((Classical.choose_spec hex).2.symm.trans m2)
 rw [e];exact ⟨p0,p1,m1,m2,p3,p4⟩
theorem Mi {l:List fQ} (hB:xb l):Iv (sF l):=by obtain ⟨h1,h2,_⟩:=Cb hB;refine ⟨by rw [h1]; exact hB.2.1,fun a ha => ?_⟩;have:=h2 a ha;unfold fg at this;obtain ⟨xs,hx,hm⟩:=List.mem_flatten.1 this;obtain ⟨s,hs,rfl⟩:=List.mem_map.1 hx;exact hB.2.2 s hs a hm
def pF (n k:Int) (xs:List aO) (i:Nat) (a:aO):Bool:=cond (aj (aw a.1 n) k) (cond (decide (0 < i)) (jO (gt d92 xs ((i:Int) - 1)).1 a.1) true) false
def CL (n k:Int) (xs:List aO):Bool:=allI (pF n k xs) 0 xs
def jo (n:Int) (k:Nat) (s:fQ):Bool:=cond (dF s.1 (-1) 11) (CL n (k:Int) s.2.1) false
noncomputable def Cs (l:List fQ):Bool:=cond (dF (ae l) 1 5) (cond (allI (jo (ae l)) 0 l) (Bq (sF l)) false) false
theorem RY (l t11:List fQ) (k t12 t13:Int) (s:fQ) (hl:l.length<=1048576) (hs:s.2.1.length<=1048576) (hb:∀ a∈s.2.1,je a):M8 l k t11 t12 t13 s.2.1 (ae s.2.1) 0 s=some (bif CL (ae l) k s.2.1 then .inl (l,k,t11,t12,t13,s.2.1,ae s.2.1,(s.2.1.length:Int),s,()) else .inr (false,())):=by
 have h:=aD (step:=CC vL) s.2.1 (fun i (_:Unit)=>(l,k,t11,t12,t13,s.2.1,ae s.2.1,((i:Nat):Int),s,())) (fun i x _=>bif pF (ae l) k s.2.1 i x then Sum.inl () else .inr (.inr (false,()))) (fun _=> .inl (l,k,t11,t12,t13,s.2.1,ae s.2.1,(s.2.1.length:Int),s,())) (a0:=()) (fun i x u hx=>by
  have hlt:=ak hx;show vL l k t11 t12 t13 s.2.1 (ae s.2.1) (i:Int) s=_;unfold vL pF;rw [aG hx,aC hx,aV _ hx,qy x.1 (ae l) (cl (hb x (List.mem_of_getElem? hx)).1),aP (by unfold aX; omega)];dsimp only [cond_true,Option.bind_some];cases aj (aw x.1 (ae l)) k with
  | false=>rfl
  | true =>
    by_cases h0:0 < i
    . rw [aF (show (0:Int) < i by omega),aN (by omega) (by omega),ie hx h0,decide_eq_true h0];dsimp only [cond_true,cond_false,Bool.not_true];cases jO (gt d92 s.2.1 ((i:Int) - 1)).1 x.1 <;> rfl
    . rw [az (show ¬ (0:Int) < i by omega),decide_eq_false h0]; rfl) (fun u=>by
  show vL l k t11 t12 t13 s.2.1 (ae s.2.1) (s.2.1.length:Int) s=_;unfold vL;rw [ax rfl]; rfl)
 rw [cC] at h;refine Eq.trans h ?_;unfold CL;cases allI _ 0 s.2.1 <;> rfl
theorem Rb (l t11:List fQ) (k t12 t13:Int) (s:fQ) (hl:l.length<=1048576) (hs:s.2.1.length<=1048576) (hb:∀ a∈s.2.1,je a):Nn l k t11 t12 t13 s.2.1 (ae s.2.1) 0 s=some (bif CL (ae l) k s.2.1 then .inl (l,k,t11,t12,t13,s.2.1,ae s.2.1,(s.2.1.length:Int),s,()) else .inr (false,())):=by
 have h:=aD (step:=CC uw) s.2.1 (fun i (_:Unit)=>(l,k,t11,t12,t13,s.2.1,ae s.2.1,((i:Nat):Int),s,())) (fun i x _=>bif pF (ae l) k s.2.1 i x then Sum.inl () else .inr (.inr (false,()))) (fun _=> .inl (l,k,t11,t12,t13,s.2.1,ae s.2.1,(s.2.1.length:Int),s,())) (a0:=()) (fun i x u hx=>by
  have hlt:=ak hx;show uw l k t11 t12 t13 s.2.1 (ae s.2.1) (i:Int) s=_;unfold uw pF;rw [aG hx,aC hx,aV _ hx,Ax x.1 (ae l) (cl (hb x (List.mem_of_getElem? hx)).1),aP (by unfold aX; omega)];dsimp only [cond_true,Option.bind_some];cases aj (aw x.1 (ae l)) k with
  | false=>rfl
  | true =>
    by_cases h0:0 < i
    . rw [aF (show (0:Int) < i by omega),aN (by omega) (by omega),ie hx h0,decide_eq_true h0,tk];dsimp only [cond_true,cond_false,Bool.not_true];cases jO (gt d92 s.2.1 ((i:Int) - 1)).1 x.1 <;> rfl
    . rw [az (show ¬ (0:Int) < i by omega),decide_eq_false h0]; rfl) (fun u=>by
  show uw l k t11 t12 t13 s.2.1 (ae s.2.1) (s.2.1.length:Int) s=_;unfold uw;rw [ax rfl]; rfl)
 rw [cC] at h;refine Eq.trans h ?_;unfold CL;cases allI _ 0 s.2.1 <;> rfl
theorem H8 {l:List fQ} (hB:xb l) {i:Nat} {s:fQ} (h:l[i]? = some s):s.2.1.length<=1048576:=by have h1:=rG h;have h2:=yY l (i + 1);rw [h1,List.length_append] at h2;have:=hB.2.1;omega
theorem TJ (l:List fQ) (hB:xb l):UD l=some ((),((Cs l,()),())):=by
 have hl:=hB.1;obtain ⟨_,_,_,_,hg,_⟩:=Cb hB;unfold UD Cs;dsimp only;rw [lx];cases dF (ae l) 1 5 with
 | false=>rfl
 | true =>
 have h:=aD (step:=cW wu) l (fun i (_:Unit)=>(l,l,ae l,((i:Nat):Int),())) (fun i x _=>bif jo (ae l) i x then Sum.inl () else .inr (.inr (false,()))) (fun _=> .inl (l,l,ae l,(l.length:Int),())) (a0:=()) (fun i x u hx=>by
  have hlt:=ak hx;show wu l l (ae l) (i:Int)=_;unfold wu jo;rw [aG hx,aC hx,aV _ hx];dsimp only [cond_true];rw [lx];dsimp only [Option.bind_some];cases dF x.1 (-1) 11 with
  | false=>rfl
  | true =>
    dsimp only [Bool.not_true,cond_false,cond_true];rw [RY l l (i:Int) (ae l) (i:Int) x hl (H8 hB hx) (hB.2.2 x (List.mem_of_getElem? hx))];cases CL (ae l) (i:Int) x.2.1 with
    | false=>rfl
    | true =>
      dsimp only [cond_true,Option.bind_some,Sum.elim_inl];rw [aP (by unfold aX; omega)]; rfl) (fun u=>by
  show wu l l (ae l) (l.length:Int)=_;unfold wu;rw [ax rfl]; rfl)
 rw [cC] at h;refine (bn h).trans ?_;cases allI (jo (ae l)) 0 l with
 | false=>rfl
 | true => show Option.bind (NJ l) _=_;rw [hg];show Option.bind (RE (sF l,())) _=_;rw [NY _ (Mi hB)]; rfl
theorem Td (l:List fQ) (hB:xb l):UL l=some ((),((Cs l,()),())):=by
 have hl:=hB.1;obtain ⟨_,_,_,_,_,hg⟩:=Cb hB;unfold UL Cs;have h:=aD (step:=cW vX) l (fun i (_:Unit)=>(l,l,ae l,((i:Nat):Int),())) (fun i x _=>bif jo (ae l) i x then Sum.inl () else .inr (.inr (false,()))) (fun _=> .inl (l,l,ae l,(l.length:Int),())) (a0:=()) (fun i x u hx=>by
  have hlt:=ak hx;show vX l l (ae l) (i:Int)=_;unfold vX jo;rw [aG hx,aC hx,aV _ hx];dsimp only [cond_true];rw [jD];dsimp only [Option.bind_some];cases dF x.1 (-1) 11 with
  | false=>rfl
  | true =>
    dsimp only [Bool.not_true,cond_false,cond_true];rw [Rb l l (i:Int) (ae l) (i:Int) x hl (H8 hB hx) (hB.2.2 x (List.mem_of_getElem? hx))];cases CL (ae l) (i:Int) x.2.1 with
    | false=>rfl
    | true =>
      dsimp only [cond_true,Option.bind_some,Sum.elim_inl];rw [aP (by unfold aX; omega)]; rfl) (fun u=>by
  show vX l l (ae l) (l.length:Int)=_;unfold vX;rw [ax rfl]; rfl)
 rw [cC] at h;refine (bn h).trans ?_;cases allI (jo (ae l)) 0 l with
 | false => cases dF (ae l) 1 5 <;> rfl
 | true =>
   dsimp only [cond_true,Option.bind_some,Sum.elim_inl];rw [jD];dsimp only [Option.bind_some];cases dF (ae l) 1 5 with
   | false=>rfl
   | true => show Option.bind (PO l) _=_;rw [hg];show Option.bind (QJ (sF l,())) _=_;rw [Oa _ (Mi hB)]; rfl
abbrev eX:=List fQ×Int×Int×List dy×Unit
def jd (w:eX):Prop:=xb w.1/\w.2.2.2.1.length<=1048576/\∀ t∈w.2.2.2.1,nr t
def nb (t:dy):List cM:=[(t.2.2.2.2.1,()),(t.2.2.2.2.2.1,()),(t.2.2.2.2.2.2.1,())]
def jL (n:Int):List cM->List cM->Option (List cM)
 | [],o=>some o
 | x :: r,o=>bif aj x.1 (-1) then jL n r o else bif bz n x.1 then none else bif EY x.1 o then none else jL n r (o ++ [x])
def Bm (n:Int) (x:cM) (o:List cM) (y:Unit):Sum (List cM) Unit:=bif aj x.1 (-1) then .inl o else bif bz n x.1 then .inr y else bif EY x.1 o then .inr y else .inl (o ++ [x])
theorem sM {Y:Type} (n:Int) (y:Y) (z:List cM->Y):∀ (xs:List cM) (i:Nat) (o:List cM),kK (fun _ x o=>match Bm n x o () with | .inl o'=>Sum.inl o' | .inr _=> .inr y) z i xs o=match jL n xs o with | some o'=>z o' | none=>y
 | [],_,_=>rfl
 | x :: r,i,o=>by
   rw [kK,jL];unfold Bm;cases aj x.1 (-1) with
   | true=>exact sM n y z r (i + 1) o
   | false =>
     cases bz n x.1 with
     | true=>rfl
     | false =>
       cases EY x.1 o with
       | true=>rfl
       | false=>exact sM n y z r (i + 1) _
theorem qC (n:Int):∀ (xs o o':List cM),jL n xs o=some o'->o'.length<=o.length + xs.length
 | [],o,o',h=>by cases h; exact Nat.le_refl _
 | x :: r,o,o',h=>by
   rw [jL] at h;cases h1:aj x.1 (-1) <;> rw [h1] at h
   . cases h2:bz n x.1 <;> rw [h2] at h
     . cases h3:EY x.1 o <;> rw [h3] at h
       . have:=qC n r _ _ h;rw [List.length_append] at this;simp only [List.length_cons,List.length_nil] at this ⊢;omega
       . cases h
     . cases h
   . have:=qC n r _ _ h;simp only [List.length_cons];omega
theorem Xe (n:Int) (o:List cM) (t11:List dy) (t12 t13:Int) (xs:List cM) (hx:xs.length<=3) (ho:o.length<=1000):Mv n o t11 t12 t13 xs (ae xs) 0=some (match jL n xs o with | some o'=> .inl (n,o',t11,t12,t13,xs,ae xs,ae xs,()) | none=> .inr (false,())):=by
 have h:=a6 (step:=xQ ve) xs (fun i (o:List cM)=>(n,o,t11,t12,t13,xs,ae xs,((i:Nat):Int),())) (fun _ x o=>match Bm n x o () with | .inl o'=>Sum.inl o' | .inr _=> .inr (.inr (false,()))) (fun o=> .inl (n,o,t11,t12,t13,xs,ae xs,ae xs,())) (fun i o=>o.length<=1000 + i) (a0:=o) ho (fun i x o hx' ho'=>by
  have hlt:=ak hx';show ve n o t11 t12 t13 xs (ae xs) (i:Int)=_;unfold ve;rw [aG hx',aC hx',aV _ hx',aP (by unfold aX; omega)];dsimp only [cond_true];rw [RL o x.1 (by omega)];dsimp only [Option.bind_some];rw [G4 (by omega)];unfold Bm;cases aj x.1 (-1) <;> cases bz n x.1 <;> cases EY x.1 o <;> rfl) (fun i x o o' hx' ho' hf=>by
  unfold Bm at hf;cases h1:aj x.1 (-1) <;> rw [h1] at hf
  . cases h2:bz n x.1 <;> rw [h2] at hf
    . cases h3:EY x.1 o <;> rw [h3] at hf
      . cases hf;rw [List.length_append]; show o.length + 1<=_; omega
      . cases hf
    . cases hf
  . cases hf; omega) (fun o ho'=>by
  show ve n o t11 t12 t13 xs (ae xs) (xs.length:Int)=_;unfold ve;rw [ax rfl]; rfl)
 rw [sM] at h;refine Eq.trans h ?_;cases jL n xs o <;> rfl
theorem VA (n:Int) (o:List cM) (t36:List dy) (t37 t38:Int) (xs:List cM) (w:eX) (hn:w.2.2.1=n) (hx:xs.length<=3) (ho:o.length<=1000):MN o t36 t37 t38 xs (ae xs) 0 w=some (match jL n xs o with | some o'=> .inl (o',t36,t37,t38,xs,ae xs,ae xs,w,()) | none=> .inr (false,())):=by
 subst hn;have h:=a6 (step:=xQ uy) xs (fun i (o:List cM)=>(o,t36,t37,t38,xs,ae xs,((i:Nat):Int),w,())) (fun _ x o=>match Bm w.2.2.1 x o () with | .inl o'=>Sum.inl o' | .inr _=> .inr (.inr (false,()))) (fun o=> .inl (o,t36,t37,t38,xs,ae xs,ae xs,w,())) (fun i o=>o.length<=1000 + i) (a0:=o) ho (fun i x o hx' ho'=>by
  have hlt:=ak hx';show uy o t36 t37 t38 xs (ae xs) (i:Int) w=_;unfold uy;rw [aG hx',aC hx',aV _ hx',aP (by unfold aX; omega)];dsimp only [cond_true];rw [Mr o x.1 (by omega)];dsimp only [Option.bind_some];rw [G4 (by omega)];unfold Bm;cases aj x.1 (-1) <;> cases bz w.2.2.1 x.1 <;> cases EY x.1 o <;> rfl) (fun i x o o' hx' ho' hf=>by
  unfold Bm at hf;cases h1:aj x.1 (-1) <;> rw [h1] at hf
  . cases h2:bz w.2.2.1 x.1 <;> rw [h2] at hf
    . cases h3:EY x.1 o <;> rw [h3] at hf
      . cases hf;rw [List.length_append]; show o.length + 1<=_; omega
      . cases hf
    . cases hf
  . cases hf; omega) (fun o ho'=>by
  show uy o t36 t37 t38 xs (ae xs) (xs.length:Int) w=_;unfold uy;rw [ax rfl]; rfl)
 rw [sM] at h;refine Eq.trans h ?_;cases jL w.2.2.1 xs o <;> rfl
def lI (n:Int):List dy->List cM->Option (List cM)
 | [],o=>some o
 | t :: r,o=>(jL n (nb t) o).bind (lI n r)
def Bz (L now:Int) (t:dy):Bool:=cond (ki t L) (!(au now t.2.2.2.2.2.2.2.1)) false
theorem D6 {Y:Type} (n:Int) (y:Y) (z:List cM->Y):∀ (xs:List dy) (i:Nat) (o:List cM),kK (fun _ x o=>match jL n (nb x) o with | some o'=>Sum.inl o' | none=> .inr y) z i xs o=match lI n xs o with | some o'=>z o' | none=>y
 | [],_,_=>rfl
 | x :: r,i,o=>by
   rw [kK,lI];cases jL n (nb x) o with
   | none=>rfl
   | some o'=>exact D6 n y z r (i + 1) o'
theorem DH {Y:Type} (L now n:Int) (y:Y) (z:Y->Prop) (Z:List cM->Y) (hZ:∀ o,z (Z o)):∀ (xs:List dy) (i:Nat) (o:List cM),(bif xs.all (Bz L now) && (lI n xs o).isSome then z (kK (fun _ x o=>bif Bz L now x then (match jL n (nb x) o with | some o'=>Sum.inl o' | none=> .inr y) else .inr y) Z i xs o) else kK (fun _ x o=>bif Bz L now x then (match jL n (nb x) o with | some o'=>Sum.inl o' | none=> .inr y) else .inr y) Z i xs o=y:Prop)
 | [],_,o=>hZ o
 | x :: r,i,o=>by
   rw [kK,lI,List.all_cons];cases Bz L now x with
   | false=>rfl
   | true =>
     cases jL n (nb x) o with
     | none=>rw [show (none:Option (List cM)).bind (lI n r)=none from rfl]; cases r.all (Bz L now) <;> rfl
     | some o'=>exact DH L now n y z Z hZ r (i + 1) o'
theorem Rj (n:Int) (ts:List dy) (ht:ts.length<=12):Uu ts n=some ((),(((lI n ts []).isSome,()),())):=by
 have h:=a6 (step:=ft wh) ts (fun i (o:List cM)=>(n,o,ts,ae ts,((i:Nat):Int),())) (fun _ x o=>match jL n (nb x) o with | some o'=>Sum.inl o' | none=> .inr (.inr (false,()))) (fun o=> .inl (n,o,ts,ae ts,(ts.length:Int),())) (fun i o=>o.length<=3 * i) (a0:=[]) (Nat.le_refl _) (fun i x o hx ho=>by
  have hlt:=ak hx;show wh n o ts (ae ts) (i:Int)=_;unfold wh;rw [aG hx,aC hx,aV _ hx];dsimp only [cond_true];refine (bn (Xe n o ts (ae ts) (i:Int) (nb x) (Nat.le_refl _) (by omega))).trans ?_;cases jL n (nb x) o with
  | none=>rfl
  | some o' =>
    dsimp only [Option.bind_some,Sum.elim_inl];rw [aP (by unfold aX; omega)] <;> rfl) (fun i x o o' hx ho hf=>by
  cases hs:jL n (nb x) o with
  | none=>rw [hs] at hf; cases hf
  | some o2 =>
    rw [hs] at hf;cases hf;have:=qC n _ _ _ hs;have e:(nb x).length=3:=rfl;omega) (fun o ho=>by
  show wh n o ts (ae ts) (ts.length:Int)=_;unfold wh;rw [ax rfl]; rfl)
 rw [D6] at h;unfold Uu;refine (bn h).trans ?_;cases lI n ts [] <;> rfl
theorem Ar (w:eX) (hb:jd w):Oe w.2.2.2.1 (ae w.2.2.2.1) 0 w=some (bif w.2.2.2.1.all (Bz (ae w.1) w.2.1) then .inl (w.2.2.2.1,ae w.2.2.2.1,ae w.2.2.2.1,w,()) else .inr (false,())):=by
 have hl:=hb.2.1;have h:=aD (step:=cW Cg) w.2.2.2.1 (fun i (_:Unit)=>(w.2.2.2.1,ae w.2.2.2.1,((i:Nat):Int),w,())) (fun _ x _=>bif Bz (ae w.1) w.2.1 x then Sum.inl () else .inr (.inr (false,()))) (fun _=> .inl (w.2.2.2.1,ae w.2.2.2.1,ae w.2.2.2.1,w,())) (a0:=()) (fun i x u hx=>by
  have hlt:=ak hx;show Cg w.2.2.2.1 (ae w.2.2.2.1) (i:Int) w=_;unfold Cg Bz;rw [aG hx,aC hx,aV _ hx,aP (by unfold aX; omega)];dsimp only [cond_true];rw [GQ x (ae w.1) (hb.2.2 x (List.mem_of_getElem? hx))];dsimp only [Option.bind_some];cases ki x (ae w.1) <;> cases au w.2.1 x.2.2.2.2.2.2.2.1 <;> rfl) (fun u=>by
  show Cg w.2.2.2.1 (ae w.2.2.2.1) (w.2.2.2.1.length:Int) w=_;unfold Cg;rw [ax rfl]; rfl)
 rw [fM] at h;refine Eq.trans h ?_;cases w.2.2.2.1.all (Bz (ae w.1) w.2.1) <;> rfl
theorem Ay (w:eX) (hb:jd w) (h12:w.2.2.2.1.length<=12):∃ y,MZ [] w.2.2.2.1 (ae w.2.2.2.1) 0 w=some y/\(bif w.2.2.2.1.all (Bz (ae w.1) w.2.1) && (lI w.2.2.1 w.2.2.2.1 []).isSome then (∃ o,y= .inl (o,w.2.2.2.1,ae w.2.2.2.1,ae w.2.2.2.1,w,())) else y= .inr (false,()):Prop):=by
 have h:=a6 (step:=ft wA) w.2.2.2.1 (fun i (o:List cM)=>(o,w.2.2.2.1,ae w.2.2.2.1,((i:Nat):Int),w,())) (fun _ x o=>bif Bz (ae w.1) w.2.1 x then (match jL w.2.2.1 (nb x) o with | some o'=>Sum.inl o' | none=> .inr (.inr (false,()))) else .inr (.inr (false,()))) (fun o=> .inl (o,w.2.2.2.1,ae w.2.2.2.1,ae w.2.2.2.1,w,())) (fun i o=>o.length<=3 * i) (a0:=[]) (Nat.le_refl _) (fun i x o hx ho=>by
  have hlt:=ak hx;show wA o w.2.2.2.1 (ae w.2.2.2.1) (i:Int) w=_;unfold wA Bz;rw [aG hx,aC hx,aV _ hx];dsimp only [cond_true];rw [Jm x (ae w.1) (hb.2.2 x (List.mem_of_getElem? hx))];dsimp only [Option.bind_some];cases ki x (ae w.1) with
  | false=>rfl
  | true =>
  cases au w.2.1 x.2.2.2.2.2.2.2.1 with
  | true=>rfl
  | false =>
    dsimp only [Bool.not_true,Bool.not_false,cond_false,cond_true];refine (bn (VA w.2.2.1 o w.2.2.2.1 (ae w.2.2.2.1) (i:Int) (nb x) w rfl (Nat.le_refl _) (by omega))).trans ?_;cases jL w.2.2.1 (nb x) o with
    | none=>rfl
    | some o' =>
      dsimp only [Option.bind_some,Sum.elim_inl];rw [aP (by unfold aX; omega)] <;> rfl) (fun i x o o' hx ho hf=>by
  cases hk:Bz (ae w.1) w.2.1 x with
  | false=>rw [hk] at hf; cases hf
  | true =>
    rw [hk] at hf;cases hs:jL w.2.2.1 (nb x) o with
    | none=>rw [hs] at hf; cases hf
    | some o2 =>
      rw [hs] at hf;cases hf;have:=qC w.2.2.1 _ _ _ hs;have e:(nb x).length=3:=rfl;omega) (fun o ho=>by
  show wA o w.2.2.2.1 (ae w.2.2.2.1) (w.2.2.2.1.length:Int) w=_;unfold wA;rw [ax rfl]; rfl)
 exact ⟨_,h,DH (Y:=Sum (List cM×List dy×Int×Int×eX×Unit) (Bool×Unit)) (ae w.1) w.2.1 w.2.2.1 (.inr (false,())) (fun y=>∃ o,y= .inl (o,w.2.2.2.1,ae w.2.2.2.1,ae w.2.2.2.1,w,())) _ (fun o=>⟨o,rfl⟩) w.2.2.2.1 0 []⟩
def gq (o k:Int) (i:Nat) (t:dy):Bool:=ON (EP t k) (aj o (i:Int))
def eM (ts:List dy) (k:Nat) (s:fQ):Bool:=cond (bz (ae ts) s.1) false (allI (gq s.1 (k:Int)) 0 ts)
theorem To (w:eX) (hb:jd w) (k t62:Int) (l:List fQ) (s:fQ):RJ k l t62 k w.2.2.2.1 (ae w.2.2.2.1) 0 w s=some (bif allI (gq s.1 k) 0 w.2.2.2.1 then .inl (k,l,t62,k,w.2.2.2.1,ae w.2.2.2.1,ae w.2.2.2.1,w,s,()) else .inr (false,())):=by
 have hl:=hb.2.1;have h:=aD (step:=CC Cz) w.2.2.2.1 (fun i (_:Unit)=>(k,l,t62,k,w.2.2.2.1,ae w.2.2.2.1,((i:Nat):Int),w,s,())) (fun i x _=>bif gq s.1 k i x then Sum.inl () else .inr (.inr (false,()))) (fun _=> .inl (k,l,t62,k,w.2.2.2.1,ae w.2.2.2.1,ae w.2.2.2.1,w,s,())) (a0:=()) (fun i x u hx=>by
  have hlt:=ak hx;show Cz k l t62 k w.2.2.2.1 (ae w.2.2.2.1) (i:Int) w s=_;unfold Cz gq;rw [aG hx,aC hx,aV _ hx,aP (by unfold aX; omega),Q6 x k (hb.2.2 x (List.mem_of_getElem? hx))];dsimp only [cond_true,Option.bind_some];cases ON (EP x k) (aj s.1 (i:Int)) <;> rfl) (fun u=>by
  show Cz k l t62 k w.2.2.2.1 (ae w.2.2.2.1) (w.2.2.2.1.length:Int) w s=_;unfold Cz;rw [ax rfl]; rfl)
 rw [cC] at h;refine Eq.trans h ?_;cases allI (gq s.1 k) 0 w.2.2.2.1 <;> rfl
theorem Sp (w:eX) (hb:jd w) (k t62:Int) (l:List fQ) (s:fQ):M4 k l t62 k w.2.2.2.1 (ae w.2.2.2.1) 0 w s=some (bif allI (gq s.1 k) 0 w.2.2.2.1 then .inl (k,l,t62,k,w.2.2.2.1,ae w.2.2.2.1,ae w.2.2.2.1,w,s,()) else .inr (false,())):=by
 have hl:=hb.2.1;have h:=aD (step:=CC uN) w.2.2.2.1 (fun i (_:Unit)=>(k,l,t62,k,w.2.2.2.1,ae w.2.2.2.1,((i:Nat):Int),w,s,())) (fun i x _=>bif gq s.1 k i x then Sum.inl () else .inr (.inr (false,()))) (fun _=> .inl (k,l,t62,k,w.2.2.2.1,ae w.2.2.2.1,ae w.2.2.2.1,w,s,())) (a0:=()) (fun i x u hx=>by
  have hlt:=ak hx;show uN k l t62 k w.2.2.2.1 (ae w.2.2.2.1) (i:Int) w s=_;unfold uN gq;rw [aG hx,aC hx,aV _ hx,aP (by unfold aX; omega),Rf x k (hb.2.2 x (List.mem_of_getElem? hx))];dsimp only [cond_true,Option.bind_some];cases ON (EP x k) (aj s.1 (i:Int)) <;> rfl) (fun u=>by
  show uN k l t62 k w.2.2.2.1 (ae w.2.2.2.1) (w.2.2.2.1.length:Int) w s=_;unfold uN;rw [ax rfl]; rfl)
 rw [cC] at h;refine Eq.trans h ?_;cases allI (gq s.1 k) 0 w.2.2.2.1 <;> rfl
theorem PH (w:eX) (hb:jd w):Tx w.1 (ae w.1) 0 w=some (bif allI (eM w.2.2.2.1) 0 w.1 then .inl (w.1,ae w.1,ae w.1,w,()) else .inr (false,())):=by
 have hl:=hb.1.1;have h:=aD (step:=cW BZ) w.1 (fun i (_:Unit)=>(w.1,ae w.1,((i:Nat):Int),w,())) (fun i x _=>bif eM w.2.2.2.1 i x then Sum.inl () else .inr (.inr (false,()))) (fun _=> .inl (w.1,ae w.1,ae w.1,w,())) (a0:=()) (fun i x u hx=>by
  have hlt:=ak hx;show BZ w.1 (ae w.1) (i:Int) w=_;unfold BZ eM;rw [aG hx,aC hx,aV _ hx];dsimp only [cond_true];cases bz (ae w.2.2.2.1) x.1 with
  | true=>rfl
  | false =>
    dsimp only [cond_false];rw [To w hb (i:Int) (ae w.1) w.1 x];cases allI (gq x.1 (i:Int)) 0 w.2.2.2.1 with
    | false=>rfl
    | true =>
      dsimp only [cond_true,Option.bind_some,Sum.elim_inl];rw [aP (by unfold aX; omega)] <;> rfl) (fun u=>by
  show BZ w.1 (ae w.1) (w.1.length:Int) w=_;unfold BZ;rw [ax rfl]; rfl)
 rw [cC] at h;refine Eq.trans h ?_;cases allI (eM w.2.2.2.1) 0 w.1 <;> rfl
theorem PC (w:eX) (hb:jd w):MP w.1 (ae w.1) 0 w=some (bif allI (eM w.2.2.2.1) 0 w.1 then .inl (w.1,ae w.1,ae w.1,w,()) else .inr (false,())):=by
 have hl:=hb.1.1;have h:=aD (step:=cW tz) w.1 (fun i (_:Unit)=>(w.1,ae w.1,((i:Nat):Int),w,())) (fun i x _=>bif eM w.2.2.2.1 i x then Sum.inl () else .inr (.inr (false,()))) (fun _=> .inl (w.1,ae w.1,ae w.1,w,())) (a0:=()) (fun i x u hx=>by
  have hlt:=ak hx;show tz w.1 (ae w.1) (i:Int) w=_;unfold tz eM;rw [aG hx,aC hx,aV _ hx];dsimp only [cond_true];cases bz (ae w.2.2.2.1) x.1 with
  | true=>rfl
  | false =>
    dsimp only [cond_false];rw [Sp w hb (i:Int) (ae w.1) w.1 x];cases allI (gq x.1 (i:Int)) 0 w.2.2.2.1 with
    | false=>rfl
    | true =>
      dsimp only [cond_true,Option.bind_some,Sum.elim_inl];rw [aP (by unfold aX; omega)] <;> rfl) (fun u=>by
  show tz w.1 (ae w.1) (w.1.length:Int) w=_;unfold tz;rw [ax rfl]; rfl)
 rw [cC] at h;refine Eq.trans h ?_;cases allI (eM w.2.2.2.1) 0 w.1 <;> rfl
noncomputable def iX (w:eX):Bool:=cond (Cs w.1) (cond (df w.2.1) (cond (cond (!df w.2.2.1) true (au 12 (ae w.2.2.2.1))) false (cond (w.2.2.2.1.all (Bz (ae w.1) w.2.1) && (lI w.2.2.1 w.2.2.2.1 []).isSome) (allI (eM w.2.2.2.1) 0 w.1) false)) false) false
theorem Sm (w:eX) (hb:jd w):g9 w=some ((),((iX w,()),())):=by
 unfold g9 iX;rw [TJ w.1 hb.1,mx,mx];dsimp only [Option.bind_some];cases Cs w.1 with
 | false=>rfl
 | true =>
 cases df w.2.1 with
 | false=>rfl
 | true =>
 cases df w.2.2.1 with
 | false=>rfl
 | true =>
 cases h12:au 12 (ae w.2.2.2.1) with
 | true=>rfl
 | false =>
 have hl:w.2.2.2.1.length<=12:=by have:=of_decide_eq_false h12;unfold ae at this;omega
 dsimp only [Bool.not_true,cond_false,cond_true];rw [Rj w.2.2.1 w.2.2.2.1 hl];dsimp only [Option.bind_some];cases (lI w.2.2.1 w.2.2.2.1 []).isSome with
 | false=>rw [Bool.and_false]; rfl
 | true =>
 show Option.bind (Oe w.2.2.2.1 (ae w.2.2.2.1) 0 w) _=_;rw [Ar w hb,Bool.and_true];cases w.2.2.2.1.all (Bz (ae w.1) w.2.1) with
 | false=>rfl
 | true =>
 dsimp only [cond_true,Option.bind_some,Sum.elim_inl];rw [PH w hb];cases allI (eM w.2.2.2.1) 0 w.1 <;> rfl
theorem Rk (w:eX) (hb:jd w):g11 w=some ((),((iX w,()),())):=by
 unfold g11 iX;rw [Td w.1 hb.1,mz,mz];dsimp only [Option.bind_some];cases Cs w.1 with
 | false=>rfl
 | true =>
 cases df w.2.1 with
 | false=>rfl
 | true =>
 cases df w.2.2.1 with
 | false=>rfl
 | true =>
 cases h12:au 12 (ae w.2.2.2.1) with
 | true=>rfl
 | false =>
 have hl:w.2.2.2.1.length<=12:=by have:=of_decide_eq_false h12;unfold ae at this;omega
 dsimp only [Bool.not_true,cond_false,cond_true];obtain ⟨y,h1,h2⟩:=Ay w hb hl;rw [h1];dsimp only [Option.bind_some];cases hc:w.2.2.2.1.all (Bz (ae w.1) w.2.1) && (lI w.2.2.1 w.2.2.2.1 []).isSome with
 | false => rw [hc] at h2;have h2:y= .inr (false,()):=h2;rw [h2]; rfl
 | true => rw [hc] at h2;obtain ⟨o,rfl⟩:=h2;dsimp only [cond_true,Sum.elim_inl];rw [PC w hb];cases allI (eM w.2.2.2.1) 0 w.1 <;> rfl
def gr:fQ:=(0,[],())
theorem LN {a b:List cM} (h:ye a b=true):a=b:=by
 unfold ye at h;cases hl:aj (ae a) (ae b) with
 | false=>rw [hl] at h; cases h
 | true =>
   rw [hl] at h;have hlen:a.length=b.length:=by have:=dW.1 hl; unfold ae at this; omega
   refine List.ext_getElem? fun i => ?_
   by_cases hi:i < a.length
   . have hx:a[i]? = some (a[i]'hi):=List.getElem?_eq_getElem hi;have hy:b[i]? = some (b[i]'(by omega)):=List.getElem?_eq_getElem (by omega);have:=tG _ h hx;rw [Nat.zero_add,aV _ hy] at this;rw [hx,hy];exact congrArg some (Prod.ext (dW.1 this) rfl)
   . rw [List.getElem?_eq_none (by omega),List.getElem?_eq_none (by omega)]
theorem Tn (n:Int) (a b:nh):qn n [a,b]=bif au (aw b.1 n) (aw a.1 n) then [(aw b.1 n,()),(aw a.1 n,())] else bif aj (aw b.1 n) (aw a.1 n) then [(aw a.1 n,())] else [(aw a.1 n,()),(aw b.1 n,())]:=rfl
theorem Ji (n:Int):∀ (ids:List nh),(qn n ids).length<=2
 | []=>Nat.zero_le _
 | [a]=>by show 1<=2; omega
 | [a,b]=>by rw [Tn];cases au (aw b.1 n) (aw a.1 n) <;> cases aj (aw b.1 n) (aw a.1 n) <;> first | exact Nat.le_refl 2 | exact Nat.le_succ 1
 | _ :: _ :: _ :: _=>Nat.zero_le _
theorem Ev {t:dy} {n:Int} (h:ki t n=true):(1<=n/\n<=5)/\(0<=t.2.1/\t.2.1<=5)/\sx t=true/\(t.2.1=0->t.2.2.1=[])/\(t.2.1≠0->t.2.2.1=dU t.1 n)/\Lv t=true/\df t.2.2.2.2.1=true/\df t.2.2.2.2.2.2.2.1=true/\t.1.length<=300/\t.2.2.2.2.2.2.2.2.1.length<=200:=by
 unfold ki at h;cases h1:dF n 1 5 with
 | false=>rw [h1] at h; cases h
 | true =>
 cases h2:au 300 (ae t.1) with
 | true=>rw [h1,h2] at h; cases h
 | false =>
 cases h3:au 200 (ae t.2.2.2.2.2.2.2.2.1) with
 | true=>rw [h1,h2,h3] at h; cases h
 | false =>
 rw [h1,h2,h3] at h;cases h4:df t.2.2.2.2.1 with
 | false=>rw [h4] at h; cases h
 | true =>
 cases h5:df t.2.2.2.2.2.2.2.1 with
 | false=>rw [h4,h5] at h; cases h
 | true =>
 cases h6:dF t.2.1 0 5 with
 | false=>rw [h4,h5,h6] at h; cases h
 | true =>
 cases h7:sx t with
 | false=>rw [h4,h5,h6,h7] at h; cases h
 | true =>
 rw [h4,h5,h6,h7] at h;cases h8:cond (aj t.2.1 0) (au 0 (ae t.2.2.1)) false with
 | true=>rw [h8] at h; cases h
 | false =>
 rw [h8] at h;cases h9:cond (!(aj t.2.1 0)) (ye t.2.2.1 (dU t.1 n)) true with
 | false=>rw [h9] at h; cases h
 | true =>
 rw [h9] at h;refine ⟨fe.1 h1,fe.1 h6,rfl,fun e => ?_,fun e => ?_,h,rfl,rfl,?_,?_⟩
 . rw [e] at h8;have:=of_decide_eq_false (show decide ((0:Int) < (t.2.2.1.length:Int))=false from h8);exact List.length_eq_zero_iff.1 (by omega)
 . rw [show aj t.2.1 0=false from beq_eq_false_iff_ne.2 e] at h9;exact LN h9
 . have:=of_decide_eq_false (show decide ((300:Int) < (t.1.length:Int))=false from h2);omega
 . have:=of_decide_eq_false (show decide ((200:Int) < (t.2.2.2.2.2.2.2.2.1.length:Int))=false from h3);omega
def ph (t:dy) (n:Int):Int:=cond (ki t n) (cond (aj t.2.1 0) (cond (aj (ae (dU t.1 n)) 0) 2 (aq .i64 3 (iq .i64 2 (ae (dU t.1 n))))) (cond (aj t.2.1 1) (aH .i64 (aq .i64 (aq .i64 2 (ae (dU t.1 n))) (ae (dU t.1 n))) t.2.2.2.1) (cond (aj t.2.1 2) (aq .i64 2 (ae (dU t.1 n))) (cond (aj t.2.1 3) (aq .i64 1 t.2.2.2.1) (cond (aj t.2.1 4) 1 0))))) 0
theorem Ls (t:dy) (n:Int) (hb:nr t):UB t n=some ((),((ph t n,()),())):=by unfold UB ph;rw [GQ t n hb,H2 t n hb];dsimp only [Option.bind_some];cases ki t n <;> cases aj t.2.1 0 <;> cases aj t.2.1 1 <;> cases aj t.2.1 2 <;> cases aj t.2.1 3 <;> cases aj t.2.1 4 <;> cases aj (ae (dU t.1 n)) 0 <;> rfl
theorem La (t:dy) (n:Int) (hb:nr t):UW t n=some ((),((ph t n,()),())):=by
 unfold UW ph;rw [Jm t n hb,Im t n hb];dsimp only [Option.bind_some];cases ht:ki t n with
 | false=>rfl
 | true =>
   cases h1:aj t.2.1 1 with
   | false=>cases aj t.2.1 0 <;> cases aj t.2.1 2 <;> cases aj t.2.1 3 <;> cases aj t.2.1 4 <;> cases aj (ae (dU t.1 n)) 0 <;> rfl
   | true =>
     have e:=dW.1 h1;obtain ⟨_,_,h3,_,h5,_⟩:=Ev ht;have hs:=h5 (by omega);have hl:(dU t.1 n).length<=2:=Ji _ _;have hh:cond (bz 0 t.2.2.2.1) (au t.2.2.2.1 (ae t.2.2.1)) false=true:=by unfold sx at h3;rw [h1] at h3;exact h3
     have hr:0<=t.2.2.2.1/\t.2.2.2.1 < ((dU t.1 n).length:Int):=by
      cases h6:bz 0 t.2.2.2.1 with
      | false=>rw [h6] at hh; cases hh
      | true => rw [h6] at hh;have a2:t.2.2.2.1 < (t.2.2.1.length:Int):=of_decide_eq_true hh;rw [hs] at a2;exact ⟨of_decide_eq_true h6,a2⟩
     have aux:∀ l h:Int,0<=h->h < l->l<=2->aq .i64 (aq .i64 2 l) (aH .i64 l h)=aH .i64 (aq .i64 (aq .i64 2 l) l) h:=fun l h h1 h2 h3=>by rw [aN (a:=l) (b:=h) (by omega) (by omega),bb (a:=2) (b:=l) (by omega) (by omega),bb (a:=2 + l) (b:=l) (by omega) (by omega),bb (a:=2 + l) (b:=l - h) (by omega) (by omega),aN (by omega) (by omega)];omega
     have ee:aq .i64 (aq .i64 2 (ae (dU t.1 n))) (aH .i64 (ae (dU t.1 n)) t.2.2.2.1)=aH .i64 (aq .i64 (aq .i64 2 (ae (dU t.1 n))) (ae (dU t.1 n))) t.2.2.2.1:=aux _ _ hr.1 hr.2 (by show ((dU t.1 n).length:Int)<=2; omega);dsimp only [Bool.not_true,cond_false,cond_true];rw [ee];cases aj t.2.1 0 <;> cases aj (ae (dU t.1 n)) 0 <;> rfl
noncomputable def DR (w:eX):Int:=cond (iX w) (w.2.2.2.1.foldl (fun a t=>aq .i64 a (ph t (ae w.1))) 0) 0
theorem Pm (w:eX) (hb:jd w):g20 w=some ((),((DR w,()),())):=by
 unfold g20 DR;rw [Sm w hb];dsimp only [Option.bind_some];cases iX w with
 | false=>rfl
 | true =>
   have hl:=hb.2.1;have h:=aD (step:=ft wy) w.2.2.2.1 (fun i (a:Int)=>(a,w.2.2.2.1,ae w.2.2.2.1,((i:Nat):Int),w,())) (fun _ x a=>Sum.inl (aq .i64 a (ph x (ae w.1)))) (fun a=> .inl (a,w.2.2.2.1,ae w.2.2.2.1,ae w.2.2.2.1,w,())) (a0:=0) (fun i x a hx=>by
    have hlt:=ak hx;show wy a w.2.2.2.1 (ae w.2.2.2.1) (i:Int) w=_;unfold wy;rw [aG hx,aC hx,aV _ hx,aP (by unfold aX; omega),Ls x (ae w.1) (hb.2.2 x (List.mem_of_getElem? hx))]; rfl) (fun a=>by
    show wy a w.2.2.2.1 (ae w.2.2.2.1) (w.2.2.2.1.length:Int) w=_;unfold wy;rw [ax rfl]; rfl)
   rw [bC] at h;exact (bn h).trans rfl
theorem PN (w:eX) (hb:jd w):g21 w=some ((),((DR w,()),())):=by
 unfold g21 DR;rw [Rk w hb];dsimp only [Option.bind_some];cases iX w with
 | false=>rfl
 | true =>
   have hl:=hb.2.1;have h:=aD (step:=ft uW) w.2.2.2.1 (fun i (a:Int)=>(a,w.2.2.2.1,ae w.2.2.2.1,((i:Nat):Int),w,())) (fun _ x a=>Sum.inl (aq .i64 a (ph x (ae w.1)))) (fun a=> .inl (a,w.2.2.2.1,ae w.2.2.2.1,ae w.2.2.2.1,w,())) (a0:=0) (fun i x a hx=>by
    have hlt:=ak hx;show uW a w.2.2.2.1 (ae w.2.2.2.1) (i:Int) w=_;unfold uW;rw [aG hx,aC hx,aV _ hx,aP (by unfold aX; omega),La x (ae w.1) (hb.2.2 x (List.mem_of_getElem? hx))]; rfl) (fun a=>by
    show uW a w.2.2.2.1 (ae w.2.2.2.1) (w.2.2.2.1.length:Int) w=_;unfold uW;rw [ax rfl]; rfl)
   rw [bC] at h;exact (bn h).trans rfl
end Go.Av
