/- Part of a proof that the law FnExactRestripe answers true for every input: the printed functions of this program and their plain laws. No conditions beyond the statement. -/
import Derived.Test.YtbgoaopannojjaaGreatDoorP1
import Derived.Test.YtbgoaopannojjaaGreatDoorFw4
set_option maxRecDepth 100000
set_option maxHeartbeats 4000000
namespace Go.Av
theorem Im:∀ (n:Nat) (t:Int) (s:List UInt8),0<=t->t < 10 ^ n->n<=18->s.length + n<=1000->∃ t' s',KE t s=some (.inl (t',s',()))/\s'.length<=s.length + n:=by
 intro n;have hbig:aT=140737488355328:=rfl;induction n with
 | zero =>
   intro t s h0 h1 h3 h2;refine ⟨t,s,?_,by omega⟩;have:t=0:=by simp at h1; omega
   subst this;exact aN _ (by show nq 0 s=_; unfold nq; rfl)
 | succ n ih =>
   intro t s h0 h1 h3 h2;by_cases ht:0 < t
   . have hp:t < 10 ^ n * 10:=by rw [Int.pow_succ] at h1; exact h1
     have hle:(10:Int) ^ n<=10 ^ 18:=by
      have hn:n<=18:=by omega
      exact_mod_cast (afh (by decide) hn:10 ^ n<=10 ^ 18)
     have hle':(10:Int) ^ n<=1000000000000000000:=hle;have hq:mA .i64 t 10=t / 10:=by unfold mA;rw [afe h0];exact IntWalk.i64_in _ (by omega)
     have hc:(strOf [((bI .u8 (aj .i64 48 (fX t 10))),())]).length=1:=rfl;have hc2:(QY (strOf [((bI .u8 (aj .i64 48 (fX t 10))),())]) s).length=1 + s.length:=by rw [<- hc]; exact ac4
     obtain ⟨t',s',e1,e2⟩:=ih (t / 10) (QY (strOf [((bI .u8 (aj .i64 48 (fX t 10))),())]) s) (by omega) (by omega) (by omega) (by omega);refine ⟨t',s',aV _ (x':=(t / 10,QY (strOf [((bI .u8 (aj .i64 48 (fX t 10))),())]) s,())) ?_ e1,by omega⟩;show nq t s=_;unfold nq;have hf:GM (strOf [((bI .u8 (aj .i64 48 (fX t 10))),())]) s=true:=adn (by omega);dsimp only;rw [aJ ht,hq,hf];rfl
   . refine ⟨t,s,?_,by omega⟩;exact aN _ (by show nq t s=_; unfold nq; rw [ay ht]; rfl)
noncomputable def mt (k:Int):List UInt8:=match sY k with | some y=>y.2.1.1 | none=>[]
theorem text {k:Int} (h1:1<=k) (h2:k<=99999999999999999):sY k=some ((),((mt k,()),())):=by
 have hbig:aT=140737488355328:=rfl;obtain ⟨t',s',e1,e2⟩:=Im 17 k [] (by omega) (by omega) (by decide) (by simp);have hr:sY k=some ((),((QY [109] s',()),())):=by unfold sY;have hf:GM [109] s'=true:=adn (by simp at e2 ⊢; omega);have hle:bL k 0=false:=adD (by omega);rw [hle,e1];dsimp only [cond_false,Option.bind_some,Sum.elim_inl];rw [hf]; rfl
 have hm:mt k=QY [109] s':=by unfold mt; rw [hr]
 rw [hm]; exact hr
def bw (x:((List UInt8)×Int×Int×Unit)):Nat:=x.1.length
def vT (x:((List UInt8)×Int×Int×Unit)):Prop:=x.1.length<=aT
theorem TU (x:((List UInt8)×Int×Int×Unit)) (left:Int) (h0:0<=left) (h1:left<=1048576) (hb:vT x):NF x left=some ((),((Dy left (bw x),()),())):=by
 have hw:bw x=x.1.length:=rfl;unfold NF
 try dsimp only
 by_cases q0:((x.1.length:Nat):Int)<=left;rotate_left
 . rw [dJ (s:=x.1) (left:=left) (by omega) (by omega) hb]; rw [aJ (by omega),bb (by omega)]; rfl
 rw [dJ (s:=x.1) (left:=left) (by omega) (by omega) hb]; rw [ay (by omega)]; dsimp only [cond_false];rw [bE (by omega)];have e:(left - ((x.1.length:Nat):Int))=left - ((bw x:Nat):Int):=by omega
 rw [e]
theorem Sh (x:((List UInt8)×Int×Int×Unit)) (h:bw x<=1048576):O1 x=some ((),(x,())):=by have hw:bw x=x.1.length:=rfl;unfold O1;rfl
theorem TD (x:((List UInt8)×Int×Int×Unit)) (h:bw x<=1099511627776):Pc x x=some ((),((true,()),())):=by have hw:bw x=x.1.length:=rfl;unfold Pc;simp only [bk,da,adL,adm,adq,beq_self_eq_true]
def bc (x:((List UInt8)×Int×Int×Unit)):Nat:=1 + 1 + 1
noncomputable def gB (x:((List UInt8)×Int×Int×Unit)) (k:Int):((List UInt8)×Int×Int×Unit):=(mt k,(k + 1),((k + 1) + 1),())
theorem H8 (x:((List UInt8)×Int×Int×Unit)):bc x<=100 * (bw x + 1):=by
 have hw:bw x=x.1.length:=rfl;have hc:bc x=1 + 1 + 1:=rfl
 try dsimp only at *
 omega
theorem sE (x:(List R3)) (left:Int) (h0:0<=left) (h1:left<=1048576) (hb:x.length<=aT):H9 x left=some ((),((Dy left x.length,()),())):=by
 unfold H9;dsimp only;by_cases q:((x.length:Nat):Int)<=left
 . rw [dJ (s:=x) (left:=left) (by omega) (by omega) hb,ay (by omega),bE q]; rfl
 . rw [dJ (s:=x) (left:=left) (by omega) (by omega) hb,aJ (by omega),bb q]; rfl
theorem ED (xs:List R3) (h:xs.length<=1048576):G7 xs=some ((),((xs,()),())):=by
 have hb:aT=140737488355328:=rfl;unfold G7;dsimp only;rw [qf (by decide) (by omega),ke]
 have h:=aF (step:=fun (x:(List R3)×(List R3)×Int×Unit)=>qB x.1 x.2.1 x.2.2.1) xs (fun i (a:List R3)=>(xs,a ++ List.replicate (xs.length - i) d3,((i:Nat):Int),())) (fun _ x (a:List R3)=>Sum.inl (a ++ [x]))
  (fun a=> .inl (xs,a,(xs.length:Int),())) (fun i a=>a.length=i) (a0:=[]) rfl (fun i x a hx ha=>by
    have hlt:=ai hx;show qB xs (a ++ List.replicate (xs.length - i) d3) (i:Int)=_;unfold qB;obtain ⟨q,hq⟩:∃ q,xs.length - i=q + 1:=⟨xs.length - i - 1,by omega⟩;have hq':xs.length - (i + 1)=q:=by omega
    rw [hq,aeQ,aC hx,az hx,eV ha,aS _ hx,eR ha,aK (by omega),hq'];dsimp only [cond_true];rw [adB]; rfl) (fun i x a a' hx ha hf=>by
    simp only [ads] at hf;rw [<- hf,ac4,ha]; rfl) (fun a ha=>by
    show qB xs (a ++ List.replicate (xs.length - xs.length) d3) (xs.length:Int)=_;unfold qB;rw [au rfl,aeh,aeR,adE]; rfl)
 rw [gf] at h;have h':Js xs (List.replicate xs.length d3) 0=_:=h;rw [h']; rfl
theorem Ee (xs:List R3) (h:xs.length<=1099511627776):Hb xs xs=some ((),((true,()),())):=by
 have hb:aT=140737488355328:=rfl;unfold Hb;rw [bk];have h:=aI (step:=fun (x:(List R3)×(List R3)×Int×Unit)=>qu x.1 x.2.1 x.2.2.1) xs (fun i (_:Unit)=>(xs,xs,((i:Nat):Int),())) (fun _ x _=>Sum.inl ()) (fun _=> .inl (xs,xs,(xs.length:Int),())) (a0:=()) (fun i x a hx=>by
  have hlt:=ai hx;show qu xs xs (i:Int)=_;unfold qu;rw [aC hx,az hx,aS _ hx,bk,aK (by omega)]; rfl) (fun a=>by
  show qu xs xs (xs.length:Int)=_;unfold qu;rw [au rfl]; rfl)
 rw [cr (fun _ a=>a)] at h;have h':Kz xs xs 0=_:=h;rw [h']; rfl
def mkInt (x:Int×Unit) (k:Int):Int×Unit:=(k,())
theorem yF (xs:List R3) (k:Int) (h1:1<=k) (h2:k + ((cL (fun _=>1) xs:Nat):Int)<=1099511627776):Uj xs k=some (((fQ mkInt (fun _=>1) xs k,()),()),((k + ((cL (fun _=>1) xs:Nat):Int),()),())):=by
 have hb:aT=140737488355328:=rfl;have hlen:xs.length<=1099511627776:=by rw [kJ] at h2; omega
 unfold Uj
 have h:=aF (step:=fun (x:(List R3)×Int×Int×Unit)=>vu x.1 x.2.1 x.2.2.1) xs (fun i (a:List R3×Int)=>(a.1 ++ xs.drop i,a.2,((i:Nat):Int),())) (fun _ x (a:List R3×Int)=>Sum.inl (a.1 ++ [mkInt x a.2],a.2 + ((1:Nat):Int)))
  (fun a=> .inl (a.1,a.2,(xs.length:Int),())) (fun i a=>a.1.length=i/\1<=a.2/\a.2 + ((cL (fun _=>1) (xs.drop i):Nat):Int)<=1099511627776) (a0:=([],k)) ⟨rfl,h1,h2⟩ (fun i x a hx ha=>by
    have hlt:=ai hx;obtain ⟨hd,ha1,ha2⟩:=ha;rw [cX _ hx] at ha2;have a1:aj .i64 a.2 1=a.2 + 1:=aA (by omega) (by omega);show vu (a.1 ++ xs.drop i) a.2 (i:Int)=_;unfold vu;rw [iW hx,lZ hd,eV hd,eR hd,aK (by omega),a1];dsimp only [cond_true];rw [adB]; rfl) (fun i x a a' hx ha hf=>by
    obtain ⟨hd,ha1,ha2⟩:=ha;rw [cX _ hx] at ha2;simp only [ads] at hf;subst hf;refine ⟨by rw [ac4,hd]; rfl,?_,?_⟩
    . show 1<=a.2 + ((1:Nat):Int); omega
    . show a.2 + ((1:Nat):Int) + _<=_; omega) (fun a ha=>by
    show vu (a.1 ++ xs.drop xs.length) a.2 (xs.length:Int)=_;unfold vu;rw [aeI,adE,au ha.1]; rfl)
 rw [mR mkInt (fun _=>1)] at h;have h':Q4 xs k 0=_:=h;rw [h']; rfl
theorem yj (xs:List R3) (k:Int) (h1:1<=k) (h2:k + ((cL (fun _=>1) xs:Nat):Int)<=1099511627776):Ul (fQ mkInt (fun _=>1) xs k) k=some ((),((k + ((cL (fun _=>1) xs:Nat):Int),()),())):=by
 have hb:aT=140737488355328:=rfl;have hlen:xs.length<=1099511627776:=by rw [kJ] at h2; omega
 unfold Ul
 have h:=aF (step:=fun (x:(List R3)×Int×Int×Unit)=>wz x.1 x.2.1 x.2.2.1) xs (fun i (a:Int)=>(fQ mkInt (fun _=>1) xs k,a,((i:Nat):Int),())) (fun _ x (a:Int)=>Sum.inl (a + ((1:Nat):Int)))
  (fun a=> .inl (fQ mkInt (fun _=>1) xs k,a,(xs.length:Int),())) (fun i a=>a=k + ((cL (fun _=>1) (xs.take i):Nat):Int)) (a0:=k) (by simp [cL]) (fun i x a hx ha=>by
    have hlt:=ai hx;have hs:=jO (fun _=>1) xs i;have hy:=iQ mkInt (fun _=>1) xs k i x hx;rw [cX _ hx] at hs;rw [<- ha] at hy;have a1:aj .i64 a 1=a + 1:=aA (by omega) (by omega);show wz (fQ mkInt (fun _=>1) xs k) a (i:Int)=_;unfold wz;rw [aC hy,az hy,aS _ hy,aK (by omega),a1];simp only [mkInt,bk,adL,ac6,adm]; rfl) (fun i x a a' hx ha hf=>by
    simp only [ads] at hf;rw [lS _ hx];omega) (fun a ha=>by
    show wz (fQ mkInt (fun _=>1) xs k) a (xs.length:Int)=_;unfold wz;rw [au (ky _ _ _ _)]; rfl)
 rw [kn (fun _=>1)] at h;have h':P1 (fQ mkInt (fun _=>1) xs k) k 0=_:=h;rw [h']; rfl
def fe (x:(Int×Int×(List R3)×(List R3)×Unit)):Nat:=x.2.2.1.length + x.2.2.2.1.length
def Mz (x:(Int×Int×(List R3)×(List R3)×Unit)):Prop:=x.2.2.1.length<=aT/\x.2.2.2.1.length<=aT
theorem JP (x:(Int×Int×(List R3)×(List R3)×Unit)) (left:Int) (h0:0<=left) (h1:left<=1048576) (hb:Mz x):NX x left=some ((),((Dy left (fe x),()),())):=by
 have hw:fe x=x.2.2.1.length + x.2.2.2.1.length:=rfl;unfold NX
 try dsimp only
 by_cases q0:((x.2.2.1.length:Nat):Int)<=left;rotate_left
 . rw [sE x.2.2.1 left (by omega) (by omega) (hb.1),bb q0,bb (by omega)]; rfl
 rw [sE x.2.2.1 left (by omega) (by omega) (hb.1),bE q0]; dsimp only [Option.bind_some]; rw [ay (by omega)]; dsimp only [cond_false];by_cases q1:((x.2.2.2.1.length:Nat):Int)<=(left - ((x.2.2.1.length:Nat):Int));rotate_left
 . rw [sE x.2.2.2.1 (left - ((x.2.2.1.length:Nat):Int)) (by omega) (by omega) (hb.2),bb q1,bb (by omega)]; rfl
 rw [sE x.2.2.2.1 (left - ((x.2.2.1.length:Nat):Int)) (by omega) (by omega) (hb.2),bE q1]; dsimp only [Option.bind_some]; rw [ay (by omega)]; dsimp only [cond_false];rw [bE (by omega)];have e:((left - ((x.2.2.1.length:Nat):Int)) - ((x.2.2.2.1.length:Nat):Int))=left - ((fe x:Nat):Int):=by omega
 rw [e]
theorem toRing (x:(Int×Int×(List R3)×(List R3)×Unit)) (h:fe x<=1048576):Nq x=some ((),(x,())):=by have hw:fe x=x.2.2.1.length + x.2.2.2.1.length:=rfl;unfold Nq;rw [ED x.2.2.1 (by omega)];rw [ED x.2.2.2.1 (by omega)];rfl
theorem Ti (x:(Int×Int×(List R3)×(List R3)×Unit)) (h:fe x<=1099511627776):NJ x x=some ((),((true,()),())):=by have hw:fe x=x.2.2.1.length + x.2.2.2.1.length:=rfl;unfold NJ;simp only [bk,da,adL,adm,adq,beq_self_eq_true,Ee x.2.2.1 (by omega),Ee x.2.2.2.1 (by omega)]
theorem nV (x:(List R5)) (left:Int) (h0:0<=left) (h1:left<=1048576) (hb:x.length<=aT):Gz x left=some ((),((Dy left x.length,()),())):=by
 unfold Gz;dsimp only;by_cases q:((x.length:Nat):Int)<=left
 . rw [dJ (s:=x) (left:=left) (by omega) (by omega) hb,ay (by omega),bE q]; rfl
 . rw [dJ (s:=x) (left:=left) (by omega) (by omega) hb,aJ (by omega),bb q]; rfl
theorem A0 (xs:List R5) (h:xs.length<=1048576):g17 xs=some ((),((xs,()),())):=by
 have hb:aT=140737488355328:=rfl;unfold g17;dsimp only;rw [qf (by decide) (by omega),ke]
 have h:=aF (step:=fun (x:(List R5)×(List R5)×Int×Unit)=>vH x.1 x.2.1 x.2.2.1) xs (fun i (a:List R5)=>(xs,a ++ List.replicate (xs.length - i) d5,((i:Nat):Int),())) (fun _ x (a:List R5)=>Sum.inl (a ++ [x]))
  (fun a=> .inl (xs,a,(xs.length:Int),())) (fun i a=>a.length=i) (a0:=[]) rfl (fun i x a hx ha=>by
    have hlt:=ai hx;show vH xs (a ++ List.replicate (xs.length - i) d5) (i:Int)=_;unfold vH;obtain ⟨q,hq⟩:∃ q,xs.length - i=q + 1:=⟨xs.length - i - 1,by omega⟩;have hq':xs.length - (i + 1)=q:=by omega
    rw [hq,aeQ,aC hx,az hx,eV ha,aS _ hx,eR ha,aK (by omega),hq'];dsimp only [cond_true];rw [adB]; rfl) (fun i x a a' hx ha hf=>by
    simp only [ads] at hf;rw [<- hf,ac4,ha]; rfl) (fun a ha=>by
    show vH xs (a ++ List.replicate (xs.length - xs.length) d5) (xs.length:Int)=_;unfold vH;rw [au rfl,aeh,aeR,adE]; rfl)
 rw [gf] at h;have h':Qo xs (List.replicate xs.length d5) 0=_:=h;rw [h']; rfl
theorem AW (xs:List R5) (h:xs.length<=1099511627776):g19 xs xs=some ((),((true,()),())):=by
 have hb:aT=140737488355328:=rfl;unfold g19;rw [bk];have h:=aI (step:=fun (x:(List R5)×(List R5)×Int×Unit)=>wG x.1 x.2.1 x.2.2.1) xs (fun i (_:Unit)=>(xs,xs,((i:Nat):Int),())) (fun _ x _=>Sum.inl ()) (fun _=> .inl (xs,xs,(xs.length:Int),())) (a0:=()) (fun i x a hx=>by
  have hlt:=ai hx;show wG xs xs (i:Int)=_;unfold wG;rw [aC hx,az hx,aS _ hx,bk,aK (by omega)]; rfl) (fun a=>by
  show wG xs xs (xs.length:Int)=_;unfold wG;rw [au rfl]; rfl)
 rw [cr (fun _ a=>a)] at h;have h':QK xs xs 0=_:=h;rw [h']; rfl
def ik (x:Int×Unit) (k:Int):Int×Unit:=(bI .u8 k,())
theorem sF (xs:List R5) (k:Int) (h1:1<=k) (h2:k + ((cL (fun _=>1) xs:Nat):Int)<=1099511627776):g20 xs k=some (((fQ ik (fun _=>1) xs k,()),()),((k + ((cL (fun _=>1) xs:Nat):Int),()),())):=by
 have hb:aT=140737488355328:=rfl;have hlen:xs.length<=1099511627776:=by rw [kJ] at h2; omega
 unfold g20
 have h:=aF (step:=fun (x:(List R5)×Int×Int×Unit)=>yy x.1 x.2.1 x.2.2.1) xs (fun i (a:List R5×Int)=>(a.1 ++ xs.drop i,a.2,((i:Nat):Int),())) (fun _ x (a:List R5×Int)=>Sum.inl (a.1 ++ [ik x a.2],a.2 + ((1:Nat):Int)))
  (fun a=> .inl (a.1,a.2,(xs.length:Int),())) (fun i a=>a.1.length=i/\1<=a.2/\a.2 + ((cL (fun _=>1) (xs.drop i):Nat):Int)<=1099511627776) (a0:=([],k)) ⟨rfl,h1,h2⟩ (fun i x a hx ha=>by
    have hlt:=ai hx;obtain ⟨hd,ha1,ha2⟩:=ha;rw [cX _ hx] at ha2;have a1:aj .i64 a.2 1=a.2 + 1:=aA (by omega) (by omega);show yy (a.1 ++ xs.drop i) a.2 (i:Int)=_;unfold yy;rw [iW hx,lZ hd,eV hd,eR hd,aK (by omega),a1];dsimp only [cond_true];rw [adB]; rfl) (fun i x a a' hx ha hf=>by
    obtain ⟨hd,ha1,ha2⟩:=ha;rw [cX _ hx] at ha2;simp only [ads] at hf;subst hf;refine ⟨by rw [ac4,hd]; rfl,?_,?_⟩
    . show 1<=a.2 + ((1:Nat):Int); omega
    . show a.2 + ((1:Nat):Int) + _<=_; omega) (fun a ha=>by
    show yy (a.1 ++ xs.drop xs.length) a.2 (xs.length:Int)=_;unfold yy;rw [aeI,adE,au ha.1]; rfl)
 rw [mR ik (fun _=>1)] at h;have h':Rr xs k 0=_:=h;rw [h']; rfl
theorem tJ (xs:List R5) (k:Int) (h1:1<=k) (h2:k + ((cL (fun _=>1) xs:Nat):Int)<=1099511627776):Ud (fQ ik (fun _=>1) xs k) k=some ((),((k + ((cL (fun _=>1) xs:Nat):Int),()),())):=by
 have hb:aT=140737488355328:=rfl;have hlen:xs.length<=1099511627776:=by rw [kJ] at h2; omega
 unfold Ud
 have h:=aF (step:=fun (x:(List R5)×Int×Int×Unit)=>xh x.1 x.2.1 x.2.2.1) xs (fun i (a:Int)=>(fQ ik (fun _=>1) xs k,a,((i:Nat):Int),())) (fun _ x (a:Int)=>Sum.inl (a + ((1:Nat):Int)))
  (fun a=> .inl (fQ ik (fun _=>1) xs k,a,(xs.length:Int),())) (fun i a=>a=k + ((cL (fun _=>1) (xs.take i):Nat):Int)) (a0:=k) (by simp [cL]) (fun i x a hx ha=>by
    have hlt:=ai hx;have hs:=jO (fun _=>1) xs i;have hy:=iQ ik (fun _=>1) xs k i x hx;rw [cX _ hx] at hs;rw [<- ha] at hy;have a1:aj .i64 a 1=a + 1:=aA (by omega) (by omega);show xh (fQ ik (fun _=>1) xs k) a (i:Int)=_;unfold xh;rw [aC hy,az hy,aS _ hy,aK (by omega),a1];simp only [ik,bk,adL,ac6,adm]; rfl) (fun i x a a' hx ha hf=>by
    simp only [ads] at hf;rw [lS _ hx];omega) (fun a ha=>by
    show xh (fQ ik (fun _=>1) xs k) a (xs.length:Int)=_;unfold xh;rw [au (ky _ _ _ _)]; rfl)
 rw [kn (fun _=>1)] at h;have h':PI (fQ ik (fun _=>1) xs k) k 0=_:=h;rw [h']; rfl
def bH (x:((List UInt8)×(List UInt8)×(List R5)×Unit)):Nat:=x.1.length + x.2.1.length + x.2.2.1.length
def xZ (x:((List UInt8)×(List UInt8)×(List R5)×Unit)):Prop:=x.1.length<=aT/\x.2.1.length<=aT/\x.2.2.1.length<=aT
def Ju (x:((List UInt8)×(List UInt8)×(List R5)×Unit)):Prop:=(∀ y∈x.2.2.1,mq .u8 y.1)
theorem TM (x:((List UInt8)×(List UInt8)×(List R5)×Unit)) (left:Int) (h0:0<=left) (h1:left<=1048576) (hb:xZ x):Nx x left=some ((),((Dy left (bH x),()),())):=by
 have hw:bH x=x.1.length + x.2.1.length + x.2.2.1.length:=rfl;unfold Nx
 try dsimp only
 by_cases q0:((x.1.length:Nat):Int)<=left;rotate_left
 . rw [dJ (s:=x.1) (left:=left) (by omega) (by omega) hb.1]; rw [aJ (by omega),bb (by omega)]; rfl
 rw [dJ (s:=x.1) (left:=left) (by omega) (by omega) hb.1]; rw [ay (by omega)]; dsimp only [cond_false];by_cases q1:((x.2.1.length:Nat):Int)<=(left - ((x.1.length:Nat):Int));rotate_left
 . rw [dJ (s:=x.2.1) (left:=(left - ((x.1.length:Nat):Int))) (by omega) (by omega) hb.2.1]; rw [aJ (by omega),bb (by omega)]; rfl
 rw [dJ (s:=x.2.1) (left:=(left - ((x.1.length:Nat):Int))) (by omega) (by omega) hb.2.1]; rw [ay (by omega)]; dsimp only [cond_false];by_cases q2:((x.2.2.1.length:Nat):Int)<=((left - ((x.1.length:Nat):Int)) - ((x.2.1.length:Nat):Int));rotate_left
 . rw [nV x.2.2.1 ((left - ((x.1.length:Nat):Int)) - ((x.2.1.length:Nat):Int)) (by omega) (by omega) (hb.2.2),bb q2,bb (by omega)]; rfl
 rw [nV x.2.2.1 ((left - ((x.1.length:Nat):Int)) - ((x.2.1.length:Nat):Int)) (by omega) (by omega) (hb.2.2),bE q2]; dsimp only [Option.bind_some]; rw [ay (by omega)]; dsimp only [cond_false];rw [bE (by omega)];have e:(((left - ((x.1.length:Nat):Int)) - ((x.2.1.length:Nat):Int)) - ((x.2.2.1.length:Nat):Int))=left - ((bH x:Nat):Int):=by omega
 rw [e]
theorem SH (x:((List UInt8)×(List UInt8)×(List R5)×Unit)) (h:bH x<=1048576):NP x=some ((),(x,())):=by have hw:bH x=x.1.length + x.2.1.length + x.2.2.1.length:=rfl;unfold NP;rw [A0 x.2.2.1 (by omega)];rfl
theorem S0 (x:((List UInt8)×(List UInt8)×(List R5)×Unit)) (h:bH x<=1099511627776):Py x x=some ((),((true,()),())):=by have hw:bH x=x.1.length + x.2.1.length + x.2.2.1.length:=rfl;unfold Py;simp only [bk,da,adL,adm,adq,beq_self_eq_true,AW x.2.2.1 (by omega)]
def bV (x:((List UInt8)×(List UInt8)×(List R5)×Unit)):Nat:=1 + 1 + cL (fun _=>1) x.2.2.1
noncomputable def gz (x:((List UInt8)×(List UInt8)×(List R5)×Unit)) (k:Int):((List UInt8)×(List UInt8)×(List R5)×Unit):=(mt k,mt (k + 1),fQ ik (fun _=>1) x.2.2.1 ((k + 1) + 1),())
theorem GK (x:((List UInt8)×(List UInt8)×(List R5)×Unit)):bV x<=100 * (bH x + 1):=by
 have hw:bH x=x.1.length + x.2.1.length + x.2.2.1.length:=rfl;have hc:bV x=1 + 1 + cL (fun _=>1) x.2.2.1:=rfl;have h2:=kJ x.2.2.1
 try dsimp only at *
 omega
theorem zY (xs:List na) (hb:xs.length<=aT/\∀ y∈xs,vT y) (a:Int) (h0:0<=a) (h1:a<=1048576):Jh xs a 0=some (if ((cL bw xs:Nat):Int)<=a then .inl (xs,a - (cL bw xs:Nat),(xs.length:Int),()) else .inr (-1,())):=by
 have h:=aF (step:=fun (x:(List na)×Int×Int×Unit)=>qi x.1 x.2.1 x.2.2.1) xs (fun i (a:Int)=>(xs,a,((i:Nat):Int),())) (fun _ x (a:Int)=>bif decide ((bw x:Int)<=a) then Sum.inl (a - bw x) else .inr (.inr (-1,())))
  (fun a=> .inl (xs,a,(xs.length:Int),())) (fun _ a=>0<=a/\a<=1048576) (a0:=a) ⟨h0,h1⟩ (fun i x a hx ha=>by
    have hmem:=ade hx;have hlt:=ai hx;show qi xs a (i:Int)=_;unfold qi;rw [aC hx,az hx,aS _ hx,TU x a ha.1 ha.2 (hb.2 x hmem),aK (by omega)];dsimp only [cond_true,Option.bind_some];by_cases q:((bw x:Nat):Int)<=a
    . rw [bE q,ay (by omega),ada q]; rfl
    . rw [bb q,adD q]; rfl) (fun i x a a' hx ha hf=>by
    by_cases q:((bw x:Nat):Int)<=a
    . rw [ada q] at hf;simp only [ac6,ads] at hf;omega
    . rw [adD q] at hf;simp at hf) (fun a ha=>by
    show qi xs a (xs.length:Int)=_;unfold qi;rw [au rfl]; rfl)
 rw [sT _ _ _ _ _ _ h0] at h;refine aeJ h ?_;split <;> rfl
theorem F5 (xs:List na) (left:Int) (h0:0<=left) (h1:left<=1048576) (hb:xs.length<=aT/\∀ y∈xs,vT y):OL xs left=some ((),((Dy left (wL bw xs),()),())):=by
 have hw:wL bw xs=xs.length + cL bw xs:=rfl;unfold OL;dsimp only;rw [dJ (s:=xs) (left:=left) (by omega) (by omega) hb.1];by_cases q:((xs.length:Nat):Int)<=left
 . rw [ay (by omega)];dsimp only [cond_false];rw [zY xs hb _ (by omega) (by omega)];by_cases q2:((cL bw xs:Nat):Int)<=left - (xs.length:Int)
   . rw [if_pos q2,bE (by omega)];dsimp only [Option.bind_some,Sum.elim_inl];have e:left - (xs.length:Int) - (cL bw xs:Nat)=left - ((wL bw xs:Nat):Int):=by omega
     rw [e]
   . rw [if_neg q2,bb (by omega)]; rfl
 . rw [aJ (by omega),bb (by omega)]; rfl
theorem M0 (xs:List na) (h:wL bw xs<=1048576):Pe xs=some ((),((xs,()),())):=by
 have hb:aT=140737488355328:=rfl;have hw:wL bw xs=xs.length + cL bw xs:=rfl;unfold Pe;dsimp only;rw [qf (by decide) (by omega),ke]
 have h:=aF (step:=fun (x:(List na)×(List gD)×Int×Unit)=>qz x.1 x.2.1 x.2.2.1) xs (fun i (a:List na)=>(xs,a ++ List.replicate (xs.length - i) d95,((i:Nat):Int),())) (fun _ x (a:List na)=>Sum.inl (a ++ [x]))
  (fun a=> .inl (xs,a,(xs.length:Int),())) (fun i a=>a.length=i) (a0:=[]) rfl (fun i x a hx ha=>by
    have hlt:=ai hx;have hcm:=dD bw hx;show qz xs (a ++ List.replicate (xs.length - i) d95) (i:Int)=_;unfold qz;obtain ⟨q,hq⟩:∃ q,xs.length - i=q + 1:=⟨xs.length - i - 1,by omega⟩;have hq':xs.length - (i + 1)=q:=by omega
    rw [hq,aeQ,aC hx,az hx,aS _ hx,Sh x (by omega)];dsimp only [cond_true,Option.bind_some];simp only [eV ha,kT _ ha,eR ha,aK (show i<=aT by omega),hq',ac6,adB,aeX]) (fun i x a a' hx ha hf=>by
    simp only [ads] at hf;rw [<- hf,ac4,ha]; rfl) (fun a ha=>by
    show qz xs (a ++ List.replicate (xs.length - xs.length) d95) (xs.length:Int)=_;unfold qz;rw [au rfl,aeh,aeR,adE]; rfl)
 rw [gf] at h;have h':J4 xs (List.replicate xs.length d95) 0=_:=h;rw [h']; rfl
theorem Oo (xs:List gD) (h:wL bw xs<=1099511627776):N7 xs xs=some ((),((true,()),())):=by
 have hb:aT=140737488355328:=rfl;have hw:wL bw xs=xs.length + cL bw xs:=rfl;unfold N7;rw [bk];have h:=aI (step:=fun (x:(List gD)×(List gD)×Int×Unit)=>oH x.1 x.2.1 x.2.2.1) xs (fun i (_:Unit)=>(xs,xs,((i:Nat):Int),())) (fun _ x _=>Sum.inl ()) (fun _=> .inl (xs,xs,(xs.length:Int),())) (a0:=()) (fun i x a hx=>by
  have hlt:=ai hx;have hcm:=dD bw hx;show oH xs xs (i:Int)=_;unfold oH;rw [aC hx,az hx,aS _ hx,TD x (by omega),aK (by omega)]; rfl) (fun a=>by
  show oH xs xs (xs.length:Int)=_;unfold oH;rw [au rfl]; rfl)
 rw [cr (fun _ a=>a)] at h;have h':K0 xs xs 0=_:=h;rw [h']; rfl
theorem HX (xs:List gD) (k:Int) (h1:1<=k) (h2:k + ((cL bc xs:Nat):Int)<=1099511627776) (h3:wL bw xs<=1099511627776):Pw xs k=some (((fQ gB bc xs k,()),()),((k + ((cL bc xs:Nat):Int),()),())):=by
 have hb:aT=140737488355328:=rfl;have hwl:wL bw xs=xs.length + cL bw xs:=rfl;unfold Pw
 have h:=aF (step:=fun (x:(List gD)×Int×Int×Unit)=>pF x.1 x.2.1 x.2.2.1) xs (fun i (a:List gD×Int)=>(a.1 ++ xs.drop i,a.2,((i:Nat):Int),())) (fun _ x (a:List gD×Int)=>Sum.inl (a.1 ++ [gB x a.2],a.2 + ((bc x:Nat):Int)))
  (fun a=> .inl (a.1,a.2,(xs.length:Int),())) (fun i a=>a.1.length=i/\1<=a.2/\a.2 + ((cL bc (xs.drop i):Nat):Int)<=1099511627776) (a0:=([],k)) ⟨rfl,h1,h2⟩ (fun i x a hx ha=>by
    have hlt:=ai hx;have hcm:=dD bw hx;obtain ⟨hd,ha1,ha2⟩:=ha;rw [cX _ hx] at ha2;have hc:bc x=1 + 1 + 1:=rfl;have hw:bw x=x.1.length:=rfl;have a0:aj .i64 a.2 1=a.2 + 1:=aA (by omega) (by omega);have a1:aj .i64 (a.2 + 1) 1=(a.2 + 1) + 1:=aA (by omega) (by omega);have a2:aj .i64 ((a.2 + 1) + 1) 1=((a.2 + 1) + 1) + 1:=aA (by omega) (by omega);show pF (a.1 ++ xs.drop i) a.2 (i:Int)=_;unfold pF;have e:(((a.2 + 1) + 1) + 1)=a.2 + ((bc x:Nat):Int):=by omega
    simp only [iW hx,lZ hd,eV hd,eR hd,kT _ hd,aK (show i<=aT by omega),ac6,adq,a0,text (k:=a.2) (by omega) (by omega),a1,a2];rw [e,adB]; rfl) (fun i x a a' hx ha hf=>by
    obtain ⟨hd,ha1,ha2⟩:=ha;rw [cX _ hx] at ha2;simp only [ads] at hf;subst hf;refine ⟨by rw [ac4,hd]; rfl,?_,?_⟩
    . show 1<=a.2 + ((bc x:Nat):Int); omega
    . show a.2 + ((bc x:Nat):Int) + _<=_; omega) (fun a ha=>by
    show pF (a.1 ++ xs.drop xs.length) a.2 (xs.length:Int)=_;unfold pF;rw [aeI,adE,au ha.1]; rfl)
 rw [mR gB bc] at h;have h':K5 xs k 0=_:=h;rw [h']; rfl
theorem Gv (xs:List gD) (k:Int) (h1:1<=k) (h2:k + ((cL bc xs:Nat):Int)<=1099511627776) (h3:wL bw xs<=1099511627776):NA (fQ gB bc xs k) k=some ((),((k + ((cL bc xs:Nat):Int),()),())):=by
 have hb:aT=140737488355328:=rfl;have hwl:wL bw xs=xs.length + cL bw xs:=rfl;unfold NA
 have h:=aF (step:=fun (x:(List gD)×Int×Int×Unit)=>pM x.1 x.2.1 x.2.2.1) xs (fun i (a:Int)=>(fQ gB bc xs k,a,((i:Nat):Int),())) (fun _ x (a:Int)=>Sum.inl (a + ((bc x:Nat):Int)))
  (fun a=> .inl (fQ gB bc xs k,a,(xs.length:Int),())) (fun i a=>a=k + ((cL bc (xs.take i):Nat):Int)) (a0:=k) (by simp [cL]) (fun i x a hx ha=>by
    have hlt:=ai hx;have hcm:=dD bw hx;have hs:=jO bc xs i;have hy:=iQ gB bc xs k i x hx;rw [cX _ hx] at hs;rw [<- ha] at hy;have hc:bc x=1 + 1 + 1:=rfl;have hw:bw x=x.1.length:=rfl;have a0:aj .i64 a 1=a + 1:=aA (by omega) (by omega);have a1:aj .i64 (a + 1) 1=(a + 1) + 1:=aA (by omega) (by omega);have a2:aj .i64 ((a + 1) + 1) 1=((a + 1) + 1) + 1:=aA (by omega) (by omega);show pM (fQ gB bc xs k) a (i:Int)=_;unfold pM;have e:(((a + 1) + 1) + 1)=a + ((bc x:Nat):Int):=by omega
    simp only [aC hy,az hy,aS _ hy,aK (show i<=aT by omega),gB,ac6,adm,adq,da,bk,adL,a0,text (k:=a) (by omega) (by omega),a1,a2];rw [e]) (fun i x a a' hx ha hf=>by
    simp only [ads] at hf;rw [lS _ hx];omega) (fun a ha=>by
    show pM (fQ gB bc xs k) a (xs.length:Int)=_;unfold pM;rw [au (ky _ _ _ _)]; rfl)
 rw [kn bc] at h;have h':Le (fQ gB bc xs k) k 0=_:=h;rw [h']; rfl
theorem AK (xs:List mh) (hb:xs.length<=aT/\∀ y∈xs,xZ y) (a:Int) (h0:0<=a) (h1:a<=1048576):IN xs a 0=some (if ((cL bH xs:Nat):Int)<=a then .inl (xs,a - (cL bH xs:Nat),(xs.length:Int),()) else .inr (-1,())):=by
 have h:=aF (step:=fun (x:(List mh)×Int×Int×Unit)=>pC x.1 x.2.1 x.2.2.1) xs (fun i (a:Int)=>(xs,a,((i:Nat):Int),())) (fun _ x (a:Int)=>bif decide ((bH x:Int)<=a) then Sum.inl (a - bH x) else .inr (.inr (-1,())))
  (fun a=> .inl (xs,a,(xs.length:Int),())) (fun _ a=>0<=a/\a<=1048576) (a0:=a) ⟨h0,h1⟩ (fun i x a hx ha=>by
    have hmem:=ade hx;have hlt:=ai hx;show pC xs a (i:Int)=_;unfold pC;rw [aC hx,az hx,aS _ hx,TM x a ha.1 ha.2 (hb.2 x hmem),aK (by omega)];dsimp only [cond_true,Option.bind_some];by_cases q:((bH x:Nat):Int)<=a
    . rw [bE q,ay (by omega),ada q]; rfl
    . rw [bb q,adD q]; rfl) (fun i x a a' hx ha hf=>by
    by_cases q:((bH x:Nat):Int)<=a
    . rw [ada q] at hf;simp only [ac6,ads] at hf;omega
    . rw [adD q] at hf;simp at hf) (fun a ha=>by
    show pC xs a (xs.length:Int)=_;unfold pC;rw [au rfl]; rfl)
 rw [sT _ _ _ _ _ _ h0] at h;refine aeJ h ?_;split <;> rfl
theorem Fk (xs:List mh) (left:Int) (h0:0<=left) (h1:left<=1048576) (hb:xs.length<=aT/\∀ y∈xs,xZ y):Ny xs left=some ((),((Dy left (wL bH xs),()),())):=by
 have hw:wL bH xs=xs.length + cL bH xs:=rfl;unfold Ny;dsimp only;rw [dJ (s:=xs) (left:=left) (by omega) (by omega) hb.1];by_cases q:((xs.length:Nat):Int)<=left
 . rw [ay (by omega)];dsimp only [cond_false];rw [AK xs hb _ (by omega) (by omega)];by_cases q2:((cL bH xs:Nat):Int)<=left - (xs.length:Int)
   . rw [if_pos q2,bE (by omega)];dsimp only [Option.bind_some,Sum.elim_inl];have e:left - (xs.length:Int) - (cL bH xs:Nat)=left - ((wL bH xs:Nat):Int):=by omega
     rw [e]
   . rw [if_neg q2,bb (by omega)]; rfl
 . rw [aJ (by omega),bb (by omega)]; rfl
theorem MO (xs:List mh) (h:wL bH xs<=1048576):Pp xs=some ((),((xs,()),())):=by
 have hb:aT=140737488355328:=rfl;have hw:wL bH xs=xs.length + cL bH xs:=rfl;unfold Pp;dsimp only;rw [qf (by decide) (by omega),ke]
 have h:=aF (step:=fun (x:(List mh)×(List cD)×Int×Unit)=>pT x.1 x.2.1 x.2.2.1) xs (fun i (a:List mh)=>(xs,a ++ List.replicate (xs.length - i) d166,((i:Nat):Int),())) (fun _ x (a:List mh)=>Sum.inl (a ++ [x]))
  (fun a=> .inl (xs,a,(xs.length:Int),())) (fun i a=>a.length=i) (a0:=[]) rfl (fun i x a hx ha=>by
    have hlt:=ai hx;have hcm:=dD bH hx;show pT xs (a ++ List.replicate (xs.length - i) d166) (i:Int)=_;unfold pT;obtain ⟨q,hq⟩:∃ q,xs.length - i=q + 1:=⟨xs.length - i - 1,by omega⟩;have hq':xs.length - (i + 1)=q:=by omega
    rw [hq,aeQ,aC hx,az hx,aS _ hx,SH x (by omega)];dsimp only [cond_true,Option.bind_some];simp only [eV ha,kT _ ha,eR ha,aK (show i<=aT by omega),hq',ac6,adB,aeX]) (fun i x a a' hx ha hf=>by
    simp only [ads] at hf;rw [<- hf,ac4,ha]; rfl) (fun a ha=>by
    show pT xs (a ++ List.replicate (xs.length - xs.length) d166) (xs.length:Int)=_;unfold pT;rw [au rfl,aeh,aeR,adE]; rfl)
 rw [gf] at h;have h':Je xs (List.replicate xs.length d166) 0=_:=h;rw [h']; rfl
theorem Nr (xs:List cD) (h:wL bH xs<=1099511627776):NO xs xs=some ((),((true,()),())):=by
 have hb:aT=140737488355328:=rfl;have hw:wL bH xs=xs.length + cL bH xs:=rfl;unfold NO;rw [bk];have h:=aI (step:=fun (x:(List cD)×(List cD)×Int×Unit)=>qb x.1 x.2.1 x.2.2.1) xs (fun i (_:Unit)=>(xs,xs,((i:Nat):Int),())) (fun _ x _=>Sum.inl ()) (fun _=> .inl (xs,xs,(xs.length:Int),())) (a0:=()) (fun i x a hx=>by
  have hlt:=ai hx;have hcm:=dD bH hx;show qb xs xs (i:Int)=_;unfold qb;rw [aC hx,az hx,aS _ hx,S0 x (by omega),aK (by omega)]; rfl) (fun a=>by
  show qb xs xs (xs.length:Int)=_;unfold qb;rw [au rfl]; rfl)
 rw [cr (fun _ a=>a)] at h;have h':Lt xs xs 0=_:=h;rw [h']; rfl
theorem Gy (xs:List cD) (k:Int) (h1:1<=k) (h2:k + ((cL bV xs:Nat):Int)<=1099511627776) (h3:wL bH xs<=1099511627776):NS xs k=some (((fQ gz bV xs k,()),()),((k + ((cL bV xs:Nat):Int),()),())):=by
 have hb:aT=140737488355328:=rfl;have hwl:wL bH xs=xs.length + cL bH xs:=rfl;unfold NS
 have h:=aF (step:=fun (x:(List cD)×Int×Int×Unit)=>o7 x.1 x.2.1 x.2.2.1) xs (fun i (a:List cD×Int)=>(a.1 ++ xs.drop i,a.2,((i:Nat):Int),())) (fun _ x (a:List cD×Int)=>Sum.inl (a.1 ++ [gz x a.2],a.2 + ((bV x:Nat):Int)))
  (fun a=> .inl (a.1,a.2,(xs.length:Int),())) (fun i a=>a.1.length=i/\1<=a.2/\a.2 + ((cL bV (xs.drop i):Nat):Int)<=1099511627776) (a0:=([],k)) ⟨rfl,h1,h2⟩ (fun i x a hx ha=>by
    have hlt:=ai hx;have hcm:=dD bH hx;obtain ⟨hd,ha1,ha2⟩:=ha;rw [cX _ hx] at ha2;have hc:bV x=1 + 1 + cL (fun _=>1) x.2.2.1:=rfl;have hw:bH x=x.1.length + x.2.1.length + x.2.2.1.length:=rfl;have a0:aj .i64 a.2 1=a.2 + 1:=aA (by omega) (by omega);have a1:aj .i64 (a.2 + 1) 1=(a.2 + 1) + 1:=aA (by omega) (by omega);have m2:=sF x.2.2.1 ((a.2 + 1) + 1) (by omega) (by omega);show o7 (a.1 ++ xs.drop i) a.2 (i:Int)=_;unfold o7;have e:(((a.2 + 1) + 1) + ((cL (fun _=>1) x.2.2.1:Nat):Int))=a.2 + ((bV x:Nat):Int):=by omega
    simp only [iW hx,lZ hd,eV hd,eR hd,kT _ hd,aK (show i<=aT by omega),ac6,adq,a0,text (k:=a.2) (by omega) (by omega),a1,text (k:=(a.2 + 1)) (by omega) (by omega),m2];rw [e,adB]; rfl) (fun i x a a' hx ha hf=>by
    obtain ⟨hd,ha1,ha2⟩:=ha;rw [cX _ hx] at ha2;simp only [ads] at hf;subst hf;refine ⟨by rw [ac4,hd]; rfl,?_,?_⟩
    . show 1<=a.2 + ((bV x:Nat):Int); omega
    . show a.2 + ((bV x:Nat):Int) + _<=_; omega) (fun a ha=>by
    show o7 (a.1 ++ xs.drop xs.length) a.2 (xs.length:Int)=_;unfold o7;rw [aeI,adE,au ha.1]; rfl)
 rw [mR gz bV] at h;have h':J3 xs k 0=_:=h;rw [h']; rfl
theorem Ht (xs:List cD) (k:Int) (h1:1<=k) (h2:k + ((cL bV xs:Nat):Int)<=1099511627776) (h3:wL bH xs<=1099511627776):NR (fQ gz bV xs k) k=some ((),((k + ((cL bV xs:Nat):Int),()),())):=by
 have hb:aT=140737488355328:=rfl;have hwl:wL bH xs=xs.length + cL bH xs:=rfl;unfold NR
 have h:=aF (step:=fun (x:(List cD)×Int×Int×Unit)=>pq x.1 x.2.1 x.2.2.1) xs (fun i (a:Int)=>(fQ gz bV xs k,a,((i:Nat):Int),())) (fun _ x (a:Int)=>Sum.inl (a + ((bV x:Nat):Int)))
  (fun a=> .inl (fQ gz bV xs k,a,(xs.length:Int),())) (fun i a=>a=k + ((cL bV (xs.take i):Nat):Int)) (a0:=k) (by simp [cL]) (fun i x a hx ha=>by
    have hlt:=ai hx;have hcm:=dD bH hx;have hs:=jO bV xs i;have hy:=iQ gz bV xs k i x hx;rw [cX _ hx] at hs;rw [<- ha] at hy;have hc:bV x=1 + 1 + cL (fun _=>1) x.2.2.1:=rfl;have hw:bH x=x.1.length + x.2.1.length + x.2.2.1.length:=rfl;have a0:aj .i64 a 1=a + 1:=aA (by omega) (by omega);have a1:aj .i64 (a + 1) 1=(a + 1) + 1:=aA (by omega) (by omega);have m2:=tJ x.2.2.1 ((a + 1) + 1) (by omega) (by omega);have n2:aw (((a + 1) + 1) + ((cL (fun _=>1) x.2.2.1:Nat):Int)) 0=false:=ay (by omega);show pq (fQ gz bV xs k) a (i:Int)=_;unfold pq;have e:(((a + 1) + 1) + ((cL (fun _=>1) x.2.2.1:Nat):Int))=a + ((bV x:Nat):Int):=by omega
    simp only [aC hy,az hy,aS _ hy,aK (show i<=aT by omega),gz,ac6,adm,adq,da,bk,adL,a0,text (k:=a) (by omega) (by omega),a1,text (k:=(a + 1)) (by omega) (by omega),m2,n2];rw [e]) (fun i x a a' hx ha hf=>by
    simp only [ads] at hf;rw [lS _ hx];omega) (fun a ha=>by
    show pq (fQ gz bV xs k) a (xs.length:Int)=_;unfold pq;rw [au (ky _ _ _ _)]; rfl)
 rw [kn bV] at h;have h':Jj (fQ gz bV xs k) k 0=_:=h;rw [h']; rfl
def bh (x:((List UInt8)×Int×Int×Int×Int×(List gD)×Int×Int×(List R3)×(List R3)×(List cD)×Unit)):Nat:=x.1.length + wL bw x.2.2.2.2.2.1 + fe (x.2.2.2.2.2.2.1,x.2.2.2.2.2.2.2.1,x.2.2.2.2.2.2.2.2.1,x.2.2.2.2.2.2.2.2.2.1,()) + wL bH x.2.2.2.2.2.2.2.2.2.2.1
def xB (x:((List UInt8)×Int×Int×Int×Int×(List gD)×Int×Int×(List R3)×(List R3)×(List cD)×Unit)):Prop:=x.1.length<=aT/\(x.2.2.2.2.2.1.length<=aT/\∀ y∈x.2.2.2.2.2.1,vT y)/\Mz (x.2.2.2.2.2.2.1,x.2.2.2.2.2.2.2.1,x.2.2.2.2.2.2.2.2.1,x.2.2.2.2.2.2.2.2.2.1,())/\(x.2.2.2.2.2.2.2.2.2.2.1.length<=aT/\∀ y∈x.2.2.2.2.2.2.2.2.2.2.1,xZ y)
def Ks (x:((List UInt8)×Int×Int×Int×Int×(List gD)×Int×Int×(List R3)×(List R3)×(List cD)×Unit)):Prop:=(∀ y∈x.2.2.2.2.2.2.2.2.2.2.1,Ju y)
theorem Sj (x:((List UInt8)×Int×Int×Int×Int×(List gD)×Int×Int×(List R3)×(List R3)×(List cD)×Unit)) (left:Int) (h0:0<=left) (h1:left<=1048576) (hb:xB x):Nn x left=some ((),((Dy left (bh x),()),())):=by
 have hw:bh x=x.1.length + wL bw x.2.2.2.2.2.1 + fe (x.2.2.2.2.2.2.1,x.2.2.2.2.2.2.2.1,x.2.2.2.2.2.2.2.2.1,x.2.2.2.2.2.2.2.2.2.1,()) + wL bH x.2.2.2.2.2.2.2.2.2.2.1:=rfl;unfold Nn
 try dsimp only
 by_cases q0:((x.1.length:Nat):Int)<=left;rotate_left
 . rw [dJ (s:=x.1) (left:=left) (by omega) (by omega) hb.1]; rw [aJ (by omega),bb (by omega)]; rfl
 rw [dJ (s:=x.1) (left:=left) (by omega) (by omega) hb.1]; rw [ay (by omega)]; dsimp only [cond_false];by_cases q1:((wL bw x.2.2.2.2.2.1:Nat):Int)<=(left - ((x.1.length:Nat):Int));rotate_left
 . rw [F5 x.2.2.2.2.2.1 (left - ((x.1.length:Nat):Int)) (by omega) (by omega) (hb.2.1),bb q1,bb (by omega)]; rfl
 rw [F5 x.2.2.2.2.2.1 (left - ((x.1.length:Nat):Int)) (by omega) (by omega) (hb.2.1),bE q1]; dsimp only [Option.bind_some]; rw [ay (by omega)]; dsimp only [cond_false];by_cases q2:((fe (x.2.2.2.2.2.2.1,x.2.2.2.2.2.2.2.1,x.2.2.2.2.2.2.2.2.1,x.2.2.2.2.2.2.2.2.2.1,()):Nat):Int)<=((left - ((x.1.length:Nat):Int)) - ((wL bw x.2.2.2.2.2.1:Nat):Int));rotate_left
 . rw [JP (x.2.2.2.2.2.2.1,x.2.2.2.2.2.2.2.1,x.2.2.2.2.2.2.2.2.1,x.2.2.2.2.2.2.2.2.2.1,()) ((left - ((x.1.length:Nat):Int)) - ((wL bw x.2.2.2.2.2.1:Nat):Int)) (by omega) (by omega) (hb.2.2.1),bb q2,bb (by omega)]; rfl
 rw [JP (x.2.2.2.2.2.2.1,x.2.2.2.2.2.2.2.1,x.2.2.2.2.2.2.2.2.1,x.2.2.2.2.2.2.2.2.2.1,()) ((left - ((x.1.length:Nat):Int)) - ((wL bw x.2.2.2.2.2.1:Nat):Int)) (by omega) (by omega) (hb.2.2.1),bE q2]; dsimp only [Option.bind_some]; rw [ay (by omega)]; dsimp only [cond_false];by_cases q3:((wL bH x.2.2.2.2.2.2.2.2.2.2.1:Nat):Int)<=(((left - ((x.1.length:Nat):Int)) - ((wL bw x.2.2.2.2.2.1:Nat):Int)) - ((fe (x.2.2.2.2.2.2.1,x.2.2.2.2.2.2.2.1,x.2.2.2.2.2.2.2.2.1,x.2.2.2.2.2.2.2.2.2.1,()):Nat):Int));rotate_left
 . rw [Fk x.2.2.2.2.2.2.2.2.2.2.1 (((left - ((x.1.length:Nat):Int)) - ((wL bw x.2.2.2.2.2.1:Nat):Int)) - ((fe (x.2.2.2.2.2.2.1,x.2.2.2.2.2.2.2.1,x.2.2.2.2.2.2.2.2.1,x.2.2.2.2.2.2.2.2.2.1,()):Nat):Int)) (by omega) (by omega) (hb.2.2.2),bb q3,bb (by omega)]; rfl
 rw [Fk x.2.2.2.2.2.2.2.2.2.2.1 (((left - ((x.1.length:Nat):Int)) - ((wL bw x.2.2.2.2.2.1:Nat):Int)) - ((fe (x.2.2.2.2.2.2.1,x.2.2.2.2.2.2.2.1,x.2.2.2.2.2.2.2.2.1,x.2.2.2.2.2.2.2.2.2.1,()):Nat):Int)) (by omega) (by omega) (hb.2.2.2),bE q3]; dsimp only [Option.bind_some]; rw [ay (by omega)]; dsimp only [cond_false];rw [bE (by omega)];have e:((((left - ((x.1.length:Nat):Int)) - ((wL bw x.2.2.2.2.2.1:Nat):Int)) - ((fe (x.2.2.2.2.2.2.1,x.2.2.2.2.2.2.2.1,x.2.2.2.2.2.2.2.2.1,x.2.2.2.2.2.2.2.2.2.1,()):Nat):Int)) - ((wL bH x.2.2.2.2.2.2.2.2.2.2.1:Nat):Int))=left - ((bh x:Nat):Int):=by omega
 rw [e]
theorem Sk (x:((List UInt8)×Int×Int×Int×Int×(List gD)×Int×Int×(List R3)×(List R3)×(List cD)×Unit)) (h:bh x<=1048576):Oy x=some ((),(x,())):=by have hw:bh x=x.1.length + wL bw x.2.2.2.2.2.1 + fe (x.2.2.2.2.2.2.1,x.2.2.2.2.2.2.2.1,x.2.2.2.2.2.2.2.2.1,x.2.2.2.2.2.2.2.2.2.1,()) + wL bH x.2.2.2.2.2.2.2.2.2.2.1:=rfl;unfold Oy;rw [M0 x.2.2.2.2.2.1 (by omega)];rw [toRing (x.2.2.2.2.2.2.1,x.2.2.2.2.2.2.2.1,x.2.2.2.2.2.2.2.2.1,x.2.2.2.2.2.2.2.2.2.1,()) (by omega)];rw [MO x.2.2.2.2.2.2.2.2.2.2.1 (by omega)];rfl
theorem RN (x:((List UInt8)×Int×Int×Int×Int×(List gD)×Int×Int×(List R3)×(List R3)×(List cD)×Unit)) (h:bh x<=1099511627776):OR x x=some ((),((true,()),())):=by have hw:bh x=x.1.length + wL bw x.2.2.2.2.2.1 + fe (x.2.2.2.2.2.2.1,x.2.2.2.2.2.2.2.1,x.2.2.2.2.2.2.2.2.1,x.2.2.2.2.2.2.2.2.2.1,()) + wL bH x.2.2.2.2.2.2.2.2.2.2.1:=rfl;unfold OR;simp only [bk,da,adL,adm,adq,beq_self_eq_true,Oo x.2.2.2.2.2.1 (by omega),Ti (x.2.2.2.2.2.2.1,x.2.2.2.2.2.2.2.1,x.2.2.2.2.2.2.2.2.1,x.2.2.2.2.2.2.2.2.2.1,()) (by omega),Nr x.2.2.2.2.2.2.2.2.2.2.1 (by omega)]
def bW (x:((List UInt8)×Int×Int×Int×Int×(List gD)×Int×Int×(List R3)×(List R3)×(List cD)×Unit)):Nat:=1 + 1 + 1 + 1 + 1 + cL bc x.2.2.2.2.2.1 + 1 + 1 + cL (fun _=>1) x.2.2.2.2.2.2.2.2.1 + cL (fun _=>1) x.2.2.2.2.2.2.2.2.2.1 + cL bV x.2.2.2.2.2.2.2.2.2.2.1
noncomputable def gA (x:((List UInt8)×Int×Int×Int×Int×(List gD)×Int×Int×(List R3)×(List R3)×(List cD)×Unit)) (k:Int):((List UInt8)×Int×Int×Int×Int×(List gD)×Int×Int×(List R3)×(List R3)×(List cD)×Unit):=(mt k,(k + 1),((k + 1) + 1),(((k + 1) + 1) + 1),((((k + 1) + 1) + 1) + 1),fQ gB bc x.2.2.2.2.2.1 (((((k + 1) + 1) + 1) + 1) + 1),((((((k + 1) + 1) + 1) + 1) + 1) + ((cL bc x.2.2.2.2.2.1:Nat):Int)),(((((((k + 1) + 1) + 1) + 1) + 1) + ((cL bc x.2.2.2.2.2.1:Nat):Int)) + 1),fQ mkInt (fun _=>1) x.2.2.2.2.2.2.2.2.1 ((((((((k + 1) + 1) + 1) + 1) + 1) + ((cL bc x.2.2.2.2.2.1:Nat):Int)) + 1) + 1),fQ mkInt (fun _=>1) x.2.2.2.2.2.2.2.2.2.1 (((((((((k + 1) + 1) + 1) + 1) + 1) + ((cL bc x.2.2.2.2.2.1:Nat):Int)) + 1) + 1) + ((cL (fun _=>1) x.2.2.2.2.2.2.2.2.1:Nat):Int)),fQ gz bV x.2.2.2.2.2.2.2.2.2.2.1 ((((((((((k + 1) + 1) + 1) + 1) + 1) + ((cL bc x.2.2.2.2.2.1:Nat):Int)) + 1) + 1) + ((cL (fun _=>1) x.2.2.2.2.2.2.2.2.1:Nat):Int)) + ((cL (fun _=>1) x.2.2.2.2.2.2.2.2.2.1:Nat):Int)),())
theorem Gw (x:((List UInt8)×Int×Int×Int×Int×(List gD)×Int×Int×(List R3)×(List R3)×(List cD)×Unit)):bW x<=100 * (bh x + 1):=by
 have hw:bh x=x.1.length + wL bw x.2.2.2.2.2.1 + fe (x.2.2.2.2.2.2.1,x.2.2.2.2.2.2.2.1,x.2.2.2.2.2.2.2.2.1,x.2.2.2.2.2.2.2.2.2.1,()) + wL bH x.2.2.2.2.2.2.2.2.2.2.1:=rfl;have hc:bW x=1 + 1 + 1 + 1 + 1 + cL bc x.2.2.2.2.2.1 + 1 + 1 + cL (fun _=>1) x.2.2.2.2.2.2.2.2.1 + cL (fun _=>1) x.2.2.2.2.2.2.2.2.2.1 + cL bV x.2.2.2.2.2.2.2.2.2.2.1:=rfl;have hw6:fe (x.2.2.2.2.2.2.1,x.2.2.2.2.2.2.2.1,x.2.2.2.2.2.2.2.2.1,x.2.2.2.2.2.2.2.2.2.1,())=(x.2.2.2.2.2.2.1,x.2.2.2.2.2.2.2.1,x.2.2.2.2.2.2.2.2.1,x.2.2.2.2.2.2.2.2.2.1,()).2.2.1.length + (x.2.2.2.2.2.2.1,x.2.2.2.2.2.2.2.1,x.2.2.2.2.2.2.2.2.1,x.2.2.2.2.2.2.2.2.2.1,()).2.2.2.1.length:=rfl;have h5:=zb H8 x.2.2.2.2.2.1;have h8:=kJ x.2.2.2.2.2.2.2.2.1;have h9:=kJ x.2.2.2.2.2.2.2.2.2.1;have h10:=zb GK x.2.2.2.2.2.2.2.2.2.2.1
 try dsimp only at *
 omega
theorem Am (xs:List ia) (hb:xs.length<=aT/\∀ y∈xs,xB y) (a:Int) (h0:0<=a) (h1:a<=1048576):KP xs a 0=some (if ((cL bh xs:Nat):Int)<=a then .inl (xs,a - (cL bh xs:Nat),(xs.length:Int),()) else .inr (-1,())):=by
 have h:=aF (step:=fun (x:(List ia)×Int×Int×Unit)=>qq x.1 x.2.1 x.2.2.1) xs (fun i (a:Int)=>(xs,a,((i:Nat):Int),())) (fun _ x (a:Int)=>bif decide ((bh x:Int)<=a) then Sum.inl (a - bh x) else .inr (.inr (-1,())))
  (fun a=> .inl (xs,a,(xs.length:Int),())) (fun _ a=>0<=a/\a<=1048576) (a0:=a) ⟨h0,h1⟩ (fun i x a hx ha=>by
    have hmem:=ade hx;have hlt:=ai hx;show qq xs a (i:Int)=_;unfold qq;rw [aC hx,az hx,aS _ hx,Sj x a ha.1 ha.2 (hb.2 x hmem),aK (by omega)];dsimp only [cond_true,Option.bind_some];by_cases q:((bh x:Nat):Int)<=a
    . rw [bE q,ay (by omega),ada q]; rfl
    . rw [bb q,adD q]; rfl) (fun i x a a' hx ha hf=>by
    by_cases q:((bh x:Nat):Int)<=a
    . rw [ada q] at hf;simp only [ac6,ads] at hf;omega
    . rw [adD q] at hf;simp at hf) (fun a ha=>by
    show qq xs a (xs.length:Int)=_;unfold qq;rw [au rfl]; rfl)
 rw [sT _ _ _ _ _ _ h0] at h;refine aeJ h ?_;split <;> rfl
theorem FF (xs:List ia) (left:Int) (h0:0<=left) (h1:left<=1048576) (hb:xs.length<=aT/\∀ y∈xs,xB y):ND xs left=some ((),((Dy left (wL bh xs),()),())):=by
 have hw:wL bh xs=xs.length + cL bh xs:=rfl;unfold ND;dsimp only;rw [dJ (s:=xs) (left:=left) (by omega) (by omega) hb.1];by_cases q:((xs.length:Nat):Int)<=left
 . rw [ay (by omega)];dsimp only [cond_false];rw [Am xs hb _ (by omega) (by omega)];by_cases q2:((cL bh xs:Nat):Int)<=left - (xs.length:Int)
   . rw [if_pos q2,bE (by omega)];dsimp only [Option.bind_some,Sum.elim_inl];have e:left - (xs.length:Int) - (cL bh xs:Nat)=left - ((wL bh xs:Nat):Int):=by omega
     rw [e]
   . rw [if_neg q2,bb (by omega)]; rfl
 . rw [aJ (by omega),bb (by omega)]; rfl
theorem Ol (xs:List ia) (h:wL bh xs<=1048576):Nb xs=some ((),((xs,()),())):=by
 have hb:aT=140737488355328:=rfl;have hw:wL bh xs=xs.length + cL bh xs:=rfl;unfold Nb;dsimp only;rw [qf (by decide) (by omega),ke]
 have h:=aF (step:=fun (x:(List ia)×(List de)×Int×Unit)=>qo x.1 x.2.1 x.2.2.1) xs (fun i (a:List ia)=>(xs,a ++ List.replicate (xs.length - i) d59,((i:Nat):Int),())) (fun _ x (a:List ia)=>Sum.inl (a ++ [x]))
  (fun a=> .inl (xs,a,(xs.length:Int),())) (fun i a=>a.length=i) (a0:=[]) rfl (fun i x a hx ha=>by
    have hlt:=ai hx;have hcm:=dD bh hx;show qo xs (a ++ List.replicate (xs.length - i) d59) (i:Int)=_;unfold qo;obtain ⟨q,hq⟩:∃ q,xs.length - i=q + 1:=⟨xs.length - i - 1,by omega⟩;have hq':xs.length - (i + 1)=q:=by omega
    rw [hq,aeQ,aC hx,az hx,aS _ hx,Sk x (by omega)];dsimp only [cond_true,Option.bind_some];simp only [eV ha,kT _ ha,eR ha,aK (show i<=aT by omega),hq',ac6,adB,aeX]) (fun i x a a' hx ha hf=>by
    simp only [ads] at hf;rw [<- hf,ac4,ha]; rfl) (fun a ha=>by
    show qo xs (a ++ List.replicate (xs.length - xs.length) d59) (xs.length:Int)=_;unfold qo;rw [au rfl,aeh,aeR,adE]; rfl)
 rw [gf] at h;have h':Jm xs (List.replicate xs.length d59) 0=_:=h;rw [h']; rfl
theorem Oj (xs:List de) (h:wL bh xs<=1099511627776):M5 xs xs=some ((),((true,()),())):=by
 have hb:aT=140737488355328:=rfl;have hw:wL bh xs=xs.length + cL bh xs:=rfl;unfold M5;rw [bk];have h:=aI (step:=fun (x:(List de)×(List de)×Int×Unit)=>qv x.1 x.2.1 x.2.2.1) xs (fun i (_:Unit)=>(xs,xs,((i:Nat):Int),())) (fun _ x _=>Sum.inl ()) (fun _=> .inl (xs,xs,(xs.length:Int),())) (a0:=()) (fun i x a hx=>by
  have hlt:=ai hx;have hcm:=dD bh hx;show qv xs xs (i:Int)=_;unfold qv;rw [aC hx,az hx,aS _ hx,RN x (by omega),aK (by omega)]; rfl) (fun a=>by
  show qv xs xs (xs.length:Int)=_;unfold qv;rw [au rfl]; rfl)
 rw [cr (fun _ a=>a)] at h;have h':JS xs xs 0=_:=h;rw [h']; rfl
theorem It (xs:List de) (k:Int) (h1:1<=k) (h2:k + ((cL bW xs:Nat):Int)<=1099511627776) (h3:wL bh xs<=1099511627776):YV xs k=some (((fQ gA bW xs k,()),()),((k + ((cL bW xs:Nat):Int),()),())):=by
 have hb:aT=140737488355328:=rfl;have hwl:wL bh xs=xs.length + cL bh xs:=rfl;unfold YV
 have h:=aF (step:=fun (x:(List de)×Int×Int×Unit)=>xP x.1 x.2.1 x.2.2.1) xs (fun i (a:List de×Int)=>(a.1 ++ xs.drop i,a.2,((i:Nat):Int),())) (fun _ x (a:List de×Int)=>Sum.inl (a.1 ++ [gA x a.2],a.2 + ((bW x:Nat):Int)))
  (fun a=> .inl (a.1,a.2,(xs.length:Int),())) (fun i a=>a.1.length=i/\1<=a.2/\a.2 + ((cL bW (xs.drop i):Nat):Int)<=1099511627776) (a0:=([],k)) ⟨rfl,h1,h2⟩ (fun i x a hx ha=>by
    have hlt:=ai hx;have hcm:=dD bh hx;obtain ⟨hd,ha1,ha2⟩:=ha;rw [cX _ hx] at ha2;have hc:bW x=1 + 1 + 1 + 1 + 1 + cL bc x.2.2.2.2.2.1 + 1 + 1 + cL (fun _=>1) x.2.2.2.2.2.2.2.2.1 + cL (fun _=>1) x.2.2.2.2.2.2.2.2.2.1 + cL bV x.2.2.2.2.2.2.2.2.2.2.1:=rfl;have hw:bh x=x.1.length + wL bw x.2.2.2.2.2.1 + fe (x.2.2.2.2.2.2.1,x.2.2.2.2.2.2.2.1,x.2.2.2.2.2.2.2.2.1,x.2.2.2.2.2.2.2.2.2.1,()) + wL bH x.2.2.2.2.2.2.2.2.2.2.1:=rfl;have hw6:fe (x.2.2.2.2.2.2.1,x.2.2.2.2.2.2.2.1,x.2.2.2.2.2.2.2.2.1,x.2.2.2.2.2.2.2.2.2.1,())=(x.2.2.2.2.2.2.1,x.2.2.2.2.2.2.2.1,x.2.2.2.2.2.2.2.2.1,x.2.2.2.2.2.2.2.2.2.1,()).2.2.1.length + (x.2.2.2.2.2.2.1,x.2.2.2.2.2.2.2.1,x.2.2.2.2.2.2.2.2.1,x.2.2.2.2.2.2.2.2.2.1,()).2.2.2.1.length:=rfl;have a0:aj .i64 a.2 1=a.2 + 1:=aA (by omega) (by omega);have a1:aj .i64 (a.2 + 1) 1=(a.2 + 1) + 1:=aA (by omega) (by omega);have a2:aj .i64 ((a.2 + 1) + 1) 1=((a.2 + 1) + 1) + 1:=aA (by omega) (by omega);have a3:aj .i64 (((a.2 + 1) + 1) + 1) 1=(((a.2 + 1) + 1) + 1) + 1:=aA (by omega) (by omega);have a4:aj .i64 ((((a.2 + 1) + 1) + 1) + 1) 1=((((a.2 + 1) + 1) + 1) + 1) + 1:=aA (by omega) (by omega);have m5:=HX x.2.2.2.2.2.1 (((((a.2 + 1) + 1) + 1) + 1) + 1) (by omega) (by omega) (by omega);have a6:aj .i64 ((((((a.2 + 1) + 1) + 1) + 1) + 1) + ((cL bc x.2.2.2.2.2.1:Nat):Int)) 1=((((((a.2 + 1) + 1) + 1) + 1) + 1) + ((cL bc x.2.2.2.2.2.1:Nat):Int)) + 1:=aA (by omega) (by omega);have a7:aj .i64 (((((((a.2 + 1) + 1) + 1) + 1) + 1) + ((cL bc x.2.2.2.2.2.1:Nat):Int)) + 1) 1=(((((((a.2 + 1) + 1) + 1) + 1) + 1) + ((cL bc x.2.2.2.2.2.1:Nat):Int)) + 1) + 1:=aA (by omega) (by omega);have m8:=yF x.2.2.2.2.2.2.2.2.1 ((((((((a.2 + 1) + 1) + 1) + 1) + 1) + ((cL bc x.2.2.2.2.2.1:Nat):Int)) + 1) + 1) (by omega) (by omega);have m9:=yF x.2.2.2.2.2.2.2.2.2.1 (((((((((a.2 + 1) + 1) + 1) + 1) + 1) + ((cL bc x.2.2.2.2.2.1:Nat):Int)) + 1) + 1) + ((cL (fun _=>1) x.2.2.2.2.2.2.2.2.1:Nat):Int)) (by omega) (by omega);have m10:=Gy x.2.2.2.2.2.2.2.2.2.2.1 ((((((((((a.2 + 1) + 1) + 1) + 1) + 1) + ((cL bc x.2.2.2.2.2.1:Nat):Int)) + 1) + 1) + ((cL (fun _=>1) x.2.2.2.2.2.2.2.2.1:Nat):Int)) + ((cL (fun _=>1) x.2.2.2.2.2.2.2.2.2.1:Nat):Int)) (by omega) (by omega) (by omega);show xP (a.1 ++ xs.drop i) a.2 (i:Int)=_;unfold xP;have e:(((((((((((a.2 + 1) + 1) + 1) + 1) + 1) + ((cL bc x.2.2.2.2.2.1:Nat):Int)) + 1) + 1) + ((cL (fun _=>1) x.2.2.2.2.2.2.2.2.1:Nat):Int)) + ((cL (fun _=>1) x.2.2.2.2.2.2.2.2.2.1:Nat):Int)) + ((cL bV x.2.2.2.2.2.2.2.2.2.2.1:Nat):Int))=a.2 + ((bW x:Nat):Int):=by omega
    simp only [iW hx,lZ hd,eV hd,eR hd,kT _ hd,aK (show i<=aT by omega),ac6,adq,a0,text (k:=a.2) (by omega) (by omega),a1,a2,a3,a4,m5,a6,a7,m8,m9,m10];rw [e,adB]; rfl) (fun i x a a' hx ha hf=>by
    obtain ⟨hd,ha1,ha2⟩:=ha;rw [cX _ hx] at ha2;simp only [ads] at hf;subst hf;refine ⟨by rw [ac4,hd]; rfl,?_,?_⟩
    . show 1<=a.2 + ((bW x:Nat):Int); omega
    . show a.2 + ((bW x:Nat):Int) + _<=_; omega) (fun a ha=>by
    show xP (a.1 ++ xs.drop xs.length) a.2 (xs.length:Int)=_;unfold xP;rw [aeI,adE,au ha.1]; rfl)
 rw [mR gA bW] at h;have h':Qz xs k 0=_:=h;rw [h']; rfl
theorem HT (xs:List de) (k:Int) (h1:1<=k) (h2:k + ((cL bW xs:Nat):Int)<=1099511627776) (h3:wL bh xs<=1099511627776):Zm (fQ gA bW xs k) k=some ((),((k + ((cL bW xs:Nat):Int),()),())):=by
 have hb:aT=140737488355328:=rfl;have hwl:wL bh xs=xs.length + cL bh xs:=rfl;unfold Zm
 have h:=aF (step:=fun (x:(List de)×Int×Int×Unit)=>wS x.1 x.2.1 x.2.2.1) xs (fun i (a:Int)=>(fQ gA bW xs k,a,((i:Nat):Int),())) (fun _ x (a:Int)=>Sum.inl (a + ((bW x:Nat):Int)))
  (fun a=> .inl (fQ gA bW xs k,a,(xs.length:Int),())) (fun i a=>a=k + ((cL bW (xs.take i):Nat):Int)) (a0:=k) (by simp [cL]) (fun i x a hx ha=>by
    have hlt:=ai hx;have hcm:=dD bh hx;have hs:=jO bW xs i;have hy:=iQ gA bW xs k i x hx;rw [cX _ hx] at hs;rw [<- ha] at hy;have hc:bW x=1 + 1 + 1 + 1 + 1 + cL bc x.2.2.2.2.2.1 + 1 + 1 + cL (fun _=>1) x.2.2.2.2.2.2.2.2.1 + cL (fun _=>1) x.2.2.2.2.2.2.2.2.2.1 + cL bV x.2.2.2.2.2.2.2.2.2.2.1:=rfl;have hw:bh x=x.1.length + wL bw x.2.2.2.2.2.1 + fe (x.2.2.2.2.2.2.1,x.2.2.2.2.2.2.2.1,x.2.2.2.2.2.2.2.2.1,x.2.2.2.2.2.2.2.2.2.1,()) + wL bH x.2.2.2.2.2.2.2.2.2.2.1:=rfl;have hw6:fe (x.2.2.2.2.2.2.1,x.2.2.2.2.2.2.2.1,x.2.2.2.2.2.2.2.2.1,x.2.2.2.2.2.2.2.2.2.1,())=(x.2.2.2.2.2.2.1,x.2.2.2.2.2.2.2.1,x.2.2.2.2.2.2.2.2.1,x.2.2.2.2.2.2.2.2.2.1,()).2.2.1.length + (x.2.2.2.2.2.2.1,x.2.2.2.2.2.2.2.1,x.2.2.2.2.2.2.2.2.1,x.2.2.2.2.2.2.2.2.2.1,()).2.2.2.1.length:=rfl;have a0:aj .i64 a 1=a + 1:=aA (by omega) (by omega);have a1:aj .i64 (a + 1) 1=(a + 1) + 1:=aA (by omega) (by omega);have a2:aj .i64 ((a + 1) + 1) 1=((a + 1) + 1) + 1:=aA (by omega) (by omega);have a3:aj .i64 (((a + 1) + 1) + 1) 1=(((a + 1) + 1) + 1) + 1:=aA (by omega) (by omega);have a4:aj .i64 ((((a + 1) + 1) + 1) + 1) 1=((((a + 1) + 1) + 1) + 1) + 1:=aA (by omega) (by omega);have m5:=Gv x.2.2.2.2.2.1 (((((a + 1) + 1) + 1) + 1) + 1) (by omega) (by omega) (by omega);have n5:aw ((((((a + 1) + 1) + 1) + 1) + 1) + ((cL bc x.2.2.2.2.2.1:Nat):Int)) 0=false:=ay (by omega);have a6:aj .i64 ((((((a + 1) + 1) + 1) + 1) + 1) + ((cL bc x.2.2.2.2.2.1:Nat):Int)) 1=((((((a + 1) + 1) + 1) + 1) + 1) + ((cL bc x.2.2.2.2.2.1:Nat):Int)) + 1:=aA (by omega) (by omega);have a7:aj .i64 (((((((a + 1) + 1) + 1) + 1) + 1) + ((cL bc x.2.2.2.2.2.1:Nat):Int)) + 1) 1=(((((((a + 1) + 1) + 1) + 1) + 1) + ((cL bc x.2.2.2.2.2.1:Nat):Int)) + 1) + 1:=aA (by omega) (by omega);have m8:=yj x.2.2.2.2.2.2.2.2.1 ((((((((a + 1) + 1) + 1) + 1) + 1) + ((cL bc x.2.2.2.2.2.1:Nat):Int)) + 1) + 1) (by omega) (by omega);have n8:aw (((((((((a + 1) + 1) + 1) + 1) + 1) + ((cL bc x.2.2.2.2.2.1:Nat):Int)) + 1) + 1) + ((cL (fun _=>1) x.2.2.2.2.2.2.2.2.1:Nat):Int)) 0=false:=ay (by omega);have m9:=yj x.2.2.2.2.2.2.2.2.2.1 (((((((((a + 1) + 1) + 1) + 1) + 1) + ((cL bc x.2.2.2.2.2.1:Nat):Int)) + 1) + 1) + ((cL (fun _=>1) x.2.2.2.2.2.2.2.2.1:Nat):Int)) (by omega) (by omega);have n9:aw ((((((((((a + 1) + 1) + 1) + 1) + 1) + ((cL bc x.2.2.2.2.2.1:Nat):Int)) + 1) + 1) + ((cL (fun _=>1) x.2.2.2.2.2.2.2.2.1:Nat):Int)) + ((cL (fun _=>1) x.2.2.2.2.2.2.2.2.2.1:Nat):Int)) 0=false:=ay (by omega);have m10:=Ht x.2.2.2.2.2.2.2.2.2.2.1 ((((((((((a + 1) + 1) + 1) + 1) + 1) + ((cL bc x.2.2.2.2.2.1:Nat):Int)) + 1) + 1) + ((cL (fun _=>1) x.2.2.2.2.2.2.2.2.1:Nat):Int)) + ((cL (fun _=>1) x.2.2.2.2.2.2.2.2.2.1:Nat):Int)) (by omega) (by omega) (by omega);have n10:aw (((((((((((a + 1) + 1) + 1) + 1) + 1) + ((cL bc x.2.2.2.2.2.1:Nat):Int)) + 1) + 1) + ((cL (fun _=>1) x.2.2.2.2.2.2.2.2.1:Nat):Int)) + ((cL (fun _=>1) x.2.2.2.2.2.2.2.2.2.1:Nat):Int)) + ((cL bV x.2.2.2.2.2.2.2.2.2.2.1:Nat):Int)) 0=false:=ay (by omega);show wS (fQ gA bW xs k) a (i:Int)=_;unfold wS;have e:(((((((((((a + 1) + 1) + 1) + 1) + 1) + ((cL bc x.2.2.2.2.2.1:Nat):Int)) + 1) + 1) + ((cL (fun _=>1) x.2.2.2.2.2.2.2.2.1:Nat):Int)) + ((cL (fun _=>1) x.2.2.2.2.2.2.2.2.2.1:Nat):Int)) + ((cL bV x.2.2.2.2.2.2.2.2.2.2.1:Nat):Int))=a + ((bW x:Nat):Int):=by omega
    simp only [aC hy,az hy,aS _ hy,aK (show i<=aT by omega),gA,ac6,adm,adq,da,bk,adL,a0,text (k:=a) (by omega) (by omega),a1,a2,a3,a4,m5,n5,a6,a7,m8,n8,m9,n9,m10,n10];rw [e]) (fun i x a a' hx ha hf=>by
    simp only [ads] at hf;rw [lS _ hx];omega) (fun a ha=>by
    show wS (fQ gA bW xs k) a (xs.length:Int)=_;unfold wS;rw [au (ky _ _ _ _)]; rfl)
 rw [kn bW] at h;have h':PM (fQ gA bW xs k) k 0=_:=h;rw [h']; rfl
def aH (x:(Int×(List ia)×Unit)):Nat:=wL bh x.2.1
def mL (x:(Int×(List ia)×Unit)):Prop:=(x.2.1.length<=aT/\∀ y∈x.2.1,xB y)
def CX (x:(Int×(List ia)×Unit)):Prop:=(∀ y∈x.2.1,Ks y)
theorem L8 (x:(Int×(List ia)×Unit)) (left:Int) (h0:0<=left) (h1:left<=1048576) (hb:mL x):YA x left=some ((),((Dy left (aH x),()),())):=by
 have hw:aH x=wL bh x.2.1:=rfl;unfold YA
 try dsimp only
 by_cases q0:((wL bh x.2.1:Nat):Int)<=left;rotate_left
 . rw [FF x.2.1 left (by omega) (by omega) (hb),bb q0,bb (by omega)]; rfl
 rw [FF x.2.1 left (by omega) (by omega) (hb),bE q0]; dsimp only [Option.bind_some]; rw [ay (by omega)]; dsimp only [cond_false];rw [bE (by omega)];have e:(left - ((wL bh x.2.1:Nat):Int))=left - ((aH x:Nat):Int):=by omega
 rw [e]
theorem KO (x:(Int×(List ia)×Unit)) (h:aH x<=1048576):Zi x=some ((),(x,())):=by have hw:aH x=wL bh x.2.1:=rfl;unfold Zi;rw [Ol x.2.1 (by omega)];rfl
theorem JF (x:(Int×(List ia)×Unit)) (h:aH x<=1099511627776):YD x x=some ((),((true,()),())):=by have hw:aH x=wL bh x.2.1:=rfl;unfold YD;simp only [bk,da,adL,adm,adq,beq_self_eq_true,Oj x.2.1 (by omega)]
def a8 (x:(Int×(List ia)×Unit)):Nat:=1 + cL bW x.2.1
noncomputable def dH (x:(Int×(List ia)×Unit)) (k:Int):(Int×(List ia)×Unit):=(k,fQ gA bW x.2.1 (k + 1),())
theorem C8 (x:(Int×(List ia)×Unit)):a8 x<=100 * (aH x + 1):=by
 have hw:aH x=wL bh x.2.1:=rfl;have hc:a8 x=1 + cL bW x.2.1:=rfl;have h1:=zb Gw x.2.1
 try dsimp only at *
 omega
def bf (x:((List R5)×Int×(List R3)×Int×Int×Int×Int×Int×(List R5)×Unit)):Nat:=x.1.length + x.2.2.1.length + x.2.2.2.2.2.2.2.2.1.length
def xQ (x:((List R5)×Int×(List R3)×Int×Int×Int×Int×Int×(List R5)×Unit)):Prop:=x.1.length<=aT/\x.2.2.1.length<=aT/\x.2.2.2.2.2.2.2.2.1.length<=aT
def Ep (x:((List R5)×Int×(List R3)×Int×Int×Int×Int×Int×(List R5)×Unit)):Prop:=(∀ y∈x.1,mq .u8 y.1)/\(∀ y∈x.2.2.2.2.2.2.2.2.1,mq .u8 y.1)
theorem Rz (x:((List R5)×Int×(List R3)×Int×Int×Int×Int×Int×(List R5)×Unit)) (left:Int) (h0:0<=left) (h1:left<=1048576) (hb:xQ x):Y4 x left=some ((),((Dy left (bf x),()),())):=by
 have hw:bf x=x.1.length + x.2.2.1.length + x.2.2.2.2.2.2.2.2.1.length:=rfl;unfold Y4
 try dsimp only
 by_cases q0:((x.1.length:Nat):Int)<=left;rotate_left
 . rw [nV x.1 left (by omega) (by omega) (hb.1),bb q0,bb (by omega)]; rfl
 rw [nV x.1 left (by omega) (by omega) (hb.1),bE q0]; dsimp only [Option.bind_some]; rw [ay (by omega)]; dsimp only [cond_false];by_cases q1:((x.2.2.1.length:Nat):Int)<=(left - ((x.1.length:Nat):Int));rotate_left
 . rw [sE x.2.2.1 (left - ((x.1.length:Nat):Int)) (by omega) (by omega) (hb.2.1),bb q1,bb (by omega)]; rfl
 rw [sE x.2.2.1 (left - ((x.1.length:Nat):Int)) (by omega) (by omega) (hb.2.1),bE q1]; dsimp only [Option.bind_some]; rw [ay (by omega)]; dsimp only [cond_false];by_cases q2:((x.2.2.2.2.2.2.2.2.1.length:Nat):Int)<=((left - ((x.1.length:Nat):Int)) - ((x.2.2.1.length:Nat):Int));rotate_left
 . rw [nV x.2.2.2.2.2.2.2.2.1 ((left - ((x.1.length:Nat):Int)) - ((x.2.2.1.length:Nat):Int)) (by omega) (by omega) (hb.2.2),bb q2,bb (by omega)]; rfl
 rw [nV x.2.2.2.2.2.2.2.2.1 ((left - ((x.1.length:Nat):Int)) - ((x.2.2.1.length:Nat):Int)) (by omega) (by omega) (hb.2.2),bE q2]; dsimp only [Option.bind_some]; rw [ay (by omega)]; dsimp only [cond_false];rw [bE (by omega)];have e:(((left - ((x.1.length:Nat):Int)) - ((x.2.2.1.length:Nat):Int)) - ((x.2.2.2.2.2.2.2.2.1.length:Nat):Int))=left - ((bf x:Nat):Int):=by omega
 rw [e]
theorem toTask (x:((List R5)×Int×(List R3)×Int×Int×Int×Int×Int×(List R5)×Unit)) (h:bf x<=1048576):YZ x=some ((),(x,())):=by have hw:bf x=x.1.length + x.2.2.1.length + x.2.2.2.2.2.2.2.2.1.length:=rfl;unfold YZ;rw [A0 x.1 (by omega)];rw [ED x.2.2.1 (by omega)];rw [A0 x.2.2.2.2.2.2.2.2.1 (by omega)];rfl
theorem SV (x:((List R5)×Int×(List R3)×Int×Int×Int×Int×Int×(List R5)×Unit)) (h:bf x<=1099511627776):YG x x=some ((),((true,()),())):=by have hw:bf x=x.1.length + x.2.2.1.length + x.2.2.2.2.2.2.2.2.1.length:=rfl;unfold YG;simp only [bk,da,adL,adm,adq,beq_self_eq_true,AW x.1 (by omega),Ee x.2.2.1 (by omega),AW x.2.2.2.2.2.2.2.2.1 (by omega)]
def bX (x:((List R5)×Int×(List R3)×Int×Int×Int×Int×Int×(List R5)×Unit)):Nat:=cL (fun _=>1) x.1 + 1 + cL (fun _=>1) x.2.2.1 + 1 + 1 + 1 + 1 + 1 + cL (fun _=>1) x.2.2.2.2.2.2.2.2.1
noncomputable def gv (x:((List R5)×Int×(List R3)×Int×Int×Int×Int×Int×(List R5)×Unit)) (k:Int):((List R5)×Int×(List R3)×Int×Int×Int×Int×Int×(List R5)×Unit):=(fQ ik (fun _=>1) x.1 k,(k + ((cL (fun _=>1) x.1:Nat):Int)),fQ mkInt (fun _=>1) x.2.2.1 ((k + ((cL (fun _=>1) x.1:Nat):Int)) + 1),(((k + ((cL (fun _=>1) x.1:Nat):Int)) + 1) + ((cL (fun _=>1) x.2.2.1:Nat):Int)),((((k + ((cL (fun _=>1) x.1:Nat):Int)) + 1) + ((cL (fun _=>1) x.2.2.1:Nat):Int)) + 1),(((((k + ((cL (fun _=>1) x.1:Nat):Int)) + 1) + ((cL (fun _=>1) x.2.2.1:Nat):Int)) + 1) + 1),((((((k + ((cL (fun _=>1) x.1:Nat):Int)) + 1) + ((cL (fun _=>1) x.2.2.1:Nat):Int)) + 1) + 1) + 1),(((((((k + ((cL (fun _=>1) x.1:Nat):Int)) + 1) + ((cL (fun _=>1) x.2.2.1:Nat):Int)) + 1) + 1) + 1) + 1),fQ ik (fun _=>1) x.2.2.2.2.2.2.2.2.1 ((((((((k + ((cL (fun _=>1) x.1:Nat):Int)) + 1) + ((cL (fun _=>1) x.2.2.1:Nat):Int)) + 1) + 1) + 1) + 1) + 1),())
theorem GL (x:((List R5)×Int×(List R3)×Int×Int×Int×Int×Int×(List R5)×Unit)):bX x<=100 * (bf x + 1):=by
 have hw:bf x=x.1.length + x.2.2.1.length + x.2.2.2.2.2.2.2.2.1.length:=rfl;have hc:bX x=cL (fun _=>1) x.1 + 1 + cL (fun _=>1) x.2.2.1 + 1 + 1 + 1 + 1 + 1 + cL (fun _=>1) x.2.2.2.2.2.2.2.2.1:=rfl;have h0:=kJ x.1;have h2:=kJ x.2.2.1;have h8:=kJ x.2.2.2.2.2.2.2.2.1
 try dsimp only at *
 omega
theorem xg (xs:List qp) (hb:xs.length<=aT/\∀ y∈xs,mL y) (a:Int) (h0:0<=a) (h1:a<=1048576):PZ xs a 0=some (if ((cL aH xs:Nat):Int)<=a then .inl (xs,a - (cL aH xs:Nat),(xs.length:Int),()) else .inr (-1,())):=by
 have h:=aF (step:=fun (x:(List qp)×Int×Int×Unit)=>yw x.1 x.2.1 x.2.2.1) xs (fun i (a:Int)=>(xs,a,((i:Nat):Int),())) (fun _ x (a:Int)=>bif decide ((aH x:Int)<=a) then Sum.inl (a - aH x) else .inr (.inr (-1,())))
  (fun a=> .inl (xs,a,(xs.length:Int),())) (fun _ a=>0<=a/\a<=1048576) (a0:=a) ⟨h0,h1⟩ (fun i x a hx ha=>by
    have hmem:=ade hx;have hlt:=ai hx;show yw xs a (i:Int)=_;unfold yw;rw [aC hx,az hx,aS _ hx,L8 x a ha.1 ha.2 (hb.2 x hmem),aK (by omega)];dsimp only [cond_true,Option.bind_some];by_cases q:((aH x:Nat):Int)<=a
    . rw [bE q,ay (by omega),ada q]; rfl
    . rw [bb q,adD q]; rfl) (fun i x a a' hx ha hf=>by
    by_cases q:((aH x:Nat):Int)<=a
    . rw [ada q] at hf;simp only [ac6,ads] at hf;omega
    . rw [adD q] at hf;simp at hf) (fun a ha=>by
    show yw xs a (xs.length:Int)=_;unfold yw;rw [au rfl]; rfl)
 rw [sT _ _ _ _ _ _ h0] at h;refine aeJ h ?_;split <;> rfl
theorem za (xs:List qp) (left:Int) (h0:0<=left) (h1:left<=1048576) (hb:xs.length<=aT/\∀ y∈xs,mL y):g23 xs left=some ((),((Dy left (wL aH xs),()),())):=by
 have hw:wL aH xs=xs.length + cL aH xs:=rfl;unfold g23;dsimp only;rw [dJ (s:=xs) (left:=left) (by omega) (by omega) hb.1];by_cases q:((xs.length:Nat):Int)<=left
 . rw [ay (by omega)];dsimp only [cond_false];rw [xg xs hb _ (by omega) (by omega)];by_cases q2:((cL aH xs:Nat):Int)<=left - (xs.length:Int)
   . rw [if_pos q2,bE (by omega)];dsimp only [Option.bind_some,Sum.elim_inl];have e:left - (xs.length:Int) - (cL aH xs:Nat)=left - ((wL aH xs:Nat):Int):=by omega
     rw [e]
   . rw [if_neg q2,bb (by omega)]; rfl
 . rw [aJ (by omega),bb (by omega)]; rfl
theorem Ie (xs:List qp) (h:wL aH xs<=1048576):YE xs=some ((),((xs,()),())):=by
 have hb:aT=140737488355328:=rfl;have hw:wL aH xs=xs.length + cL aH xs:=rfl;unfold YE;dsimp only;rw [qf (by decide) (by omega),ke]
 have h:=aF (step:=fun (x:(List qp)×(List dy)×Int×Unit)=>wX x.1 x.2.1 x.2.2.1) xs (fun i (a:List qp)=>(xs,a ++ List.replicate (xs.length - i) d89,((i:Nat):Int),())) (fun _ x (a:List qp)=>Sum.inl (a ++ [x]))
  (fun a=> .inl (xs,a,(xs.length:Int),())) (fun i a=>a.length=i) (a0:=[]) rfl (fun i x a hx ha=>by
    have hlt:=ai hx;have hcm:=dD aH hx;show wX xs (a ++ List.replicate (xs.length - i) d89) (i:Int)=_;unfold wX;obtain ⟨q,hq⟩:∃ q,xs.length - i=q + 1:=⟨xs.length - i - 1,by omega⟩;have hq':xs.length - (i + 1)=q:=by omega
    rw [hq,aeQ,aC hx,az hx,aS _ hx,KO x (by omega)];dsimp only [cond_true,Option.bind_some];simp only [eV ha,kT _ ha,eR ha,aK (show i<=aT by omega),hq',ac6,adB,aeX]) (fun i x a a' hx ha hf=>by
    simp only [ads] at hf;rw [<- hf,ac4,ha]; rfl) (fun a ha=>by
    show wX xs (a ++ List.replicate (xs.length - xs.length) d89) (xs.length:Int)=_;unfold wX;rw [au rfl,aeh,aeR,adE]; rfl)
 rw [gf] at h;have h':Qr xs (List.replicate xs.length d89) 0=_:=h;rw [h']; rfl
theorem HB (xs:List dy) (h:wL aH xs<=1099511627776):Zj xs xs=some ((),((true,()),())):=by
 have hb:aT=140737488355328:=rfl;have hw:wL aH xs=xs.length + cL aH xs:=rfl;unfold Zj;rw [bk];have h:=aI (step:=fun (x:(List dy)×(List dy)×Int×Unit)=>we x.1 x.2.1 x.2.2.1) xs (fun i (_:Unit)=>(xs,xs,((i:Nat):Int),())) (fun _ x _=>Sum.inl ()) (fun _=> .inl (xs,xs,(xs.length:Int),())) (a0:=()) (fun i x a hx=>by
  have hlt:=ai hx;have hcm:=dD aH hx;show we xs xs (i:Int)=_;unfold we;rw [aC hx,az hx,aS _ hx,JF x (by omega),aK (by omega)]; rfl) (fun a=>by
  show we xs xs (xs.length:Int)=_;unfold we;rw [au rfl]; rfl)
 rw [cr (fun _ a=>a)] at h;have h':Qu xs xs 0=_:=h;rw [h']; rfl
theorem Dl (xs:List dy) (k:Int) (h1:1<=k) (h2:k + ((cL a8 xs:Nat):Int)<=1099511627776) (h3:wL aH xs<=1099511627776):Y6 xs k=some (((fQ dH a8 xs k,()),()),((k + ((cL a8 xs:Nat):Int),()),())):=by
 have hb:aT=140737488355328:=rfl;have hwl:wL aH xs=xs.length + cL aH xs:=rfl;unfold Y6
 have h:=aF (step:=fun (x:(List dy)×Int×Int×Unit)=>vl x.1 x.2.1 x.2.2.1) xs (fun i (a:List dy×Int)=>(a.1 ++ xs.drop i,a.2,((i:Nat):Int),())) (fun _ x (a:List dy×Int)=>Sum.inl (a.1 ++ [dH x a.2],a.2 + ((a8 x:Nat):Int)))
  (fun a=> .inl (a.1,a.2,(xs.length:Int),())) (fun i a=>a.1.length=i/\1<=a.2/\a.2 + ((cL a8 (xs.drop i):Nat):Int)<=1099511627776) (a0:=([],k)) ⟨rfl,h1,h2⟩ (fun i x a hx ha=>by
    have hlt:=ai hx;have hcm:=dD aH hx;obtain ⟨hd,ha1,ha2⟩:=ha;rw [cX _ hx] at ha2;have hc:a8 x=1 + cL bW x.2.1:=rfl;have hw:aH x=wL bh x.2.1:=rfl;have a0:aj .i64 a.2 1=a.2 + 1:=aA (by omega) (by omega);have m1:=It x.2.1 (a.2 + 1) (by omega) (by omega) (by omega);show vl (a.1 ++ xs.drop i) a.2 (i:Int)=_;unfold vl;have e:((a.2 + 1) + ((cL bW x.2.1:Nat):Int))=a.2 + ((a8 x:Nat):Int):=by omega
    simp only [iW hx,lZ hd,eV hd,eR hd,kT _ hd,aK (show i<=aT by omega),ac6,adq,a0,m1];rw [e,adB]; rfl) (fun i x a a' hx ha hf=>by
    obtain ⟨hd,ha1,ha2⟩:=ha;rw [cX _ hx] at ha2;simp only [ads] at hf;subst hf;refine ⟨by rw [ac4,hd]; rfl,?_,?_⟩
    . show 1<=a.2 + ((a8 x:Nat):Int); omega
    . show a.2 + ((a8 x:Nat):Int) + _<=_; omega) (fun a ha=>by
    show vl (a.1 ++ xs.drop xs.length) a.2 (xs.length:Int)=_;unfold vl;rw [aeI,adE,au ha.1]; rfl)
 rw [mR dH a8] at h;have h':Q5 xs k 0=_:=h;rw [h']; rfl
theorem Ca (xs:List dy) (k:Int) (h1:1<=k) (h2:k + ((cL a8 xs:Nat):Int)<=1099511627776) (h3:wL aH xs<=1099511627776):Yx (fQ dH a8 xs k) k=some ((),((k + ((cL a8 xs:Nat):Int),()),())):=by
 have hb:aT=140737488355328:=rfl;have hwl:wL aH xs=xs.length + cL aH xs:=rfl;unfold Yx
 have h:=aF (step:=fun (x:(List dy)×Int×Int×Unit)=>wm x.1 x.2.1 x.2.2.1) xs (fun i (a:Int)=>(fQ dH a8 xs k,a,((i:Nat):Int),())) (fun _ x (a:Int)=>Sum.inl (a + ((a8 x:Nat):Int)))
  (fun a=> .inl (fQ dH a8 xs k,a,(xs.length:Int),())) (fun i a=>a=k + ((cL a8 (xs.take i):Nat):Int)) (a0:=k) (by simp [cL]) (fun i x a hx ha=>by
    have hlt:=ai hx;have hcm:=dD aH hx;have hs:=jO a8 xs i;have hy:=iQ dH a8 xs k i x hx;rw [cX _ hx] at hs;rw [<- ha] at hy;have hc:a8 x=1 + cL bW x.2.1:=rfl;have hw:aH x=wL bh x.2.1:=rfl;have a0:aj .i64 a 1=a + 1:=aA (by omega) (by omega);have m1:=HT x.2.1 (a + 1) (by omega) (by omega) (by omega);have n1:aw ((a + 1) + ((cL bW x.2.1:Nat):Int)) 0=false:=ay (by omega);show wm (fQ dH a8 xs k) a (i:Int)=_;unfold wm;have e:((a + 1) + ((cL bW x.2.1:Nat):Int))=a + ((a8 x:Nat):Int):=by omega
    simp only [aC hy,az hy,aS _ hy,aK (show i<=aT by omega),dH,ac6,adm,adq,da,bk,adL,a0,m1,n1];rw [e]) (fun i x a a' hx ha hf=>by
    simp only [ads] at hf;rw [lS _ hx];omega) (fun a ha=>by
    show wm (fQ dH a8 xs k) a (xs.length:Int)=_;unfold wm;rw [au (ky _ _ _ _)]; rfl)
 rw [kn a8] at h;have h':QB (fQ dH a8 xs k) k 0=_:=h;rw [h']; rfl
theorem Bx (xs:List od) (hb:xs.length<=aT/\∀ y∈xs,xQ y) (a:Int) (h0:0<=a) (h1:a<=1048576):QD xs a 0=some (if ((cL bf xs:Nat):Int)<=a then .inl (xs,a - (cL bf xs:Nat),(xs.length:Int),()) else .inr (-1,())):=by
 have h:=aF (step:=fun (x:(List od)×Int×Int×Unit)=>vI x.1 x.2.1 x.2.2.1) xs (fun i (a:Int)=>(xs,a,((i:Nat):Int),())) (fun _ x (a:Int)=>bif decide ((bf x:Int)<=a) then Sum.inl (a - bf x) else .inr (.inr (-1,())))
  (fun a=> .inl (xs,a,(xs.length:Int),())) (fun _ a=>0<=a/\a<=1048576) (a0:=a) ⟨h0,h1⟩ (fun i x a hx ha=>by
    have hmem:=ade hx;have hlt:=ai hx;show vI xs a (i:Int)=_;unfold vI;rw [aC hx,az hx,aS _ hx,Rz x a ha.1 ha.2 (hb.2 x hmem),aK (by omega)];dsimp only [cond_true,Option.bind_some];by_cases q:((bf x:Nat):Int)<=a
    . rw [bE q,ay (by omega),ada q]; rfl
    . rw [bb q,adD q]; rfl) (fun i x a a' hx ha hf=>by
    by_cases q:((bf x:Nat):Int)<=a
    . rw [ada q] at hf;simp only [ac6,ads] at hf;omega
    . rw [adD q] at hf;simp at hf) (fun a ha=>by
    show vI xs a (xs.length:Int)=_;unfold vI;rw [au rfl]; rfl)
 rw [sT _ _ _ _ _ _ h0] at h;refine aeJ h ?_;split <;> rfl
theorem Gb (xs:List od) (left:Int) (h0:0<=left) (h1:left<=1048576) (hb:xs.length<=aT/\∀ y∈xs,xQ y):g24 xs left=some ((),((Dy left (wL bf xs),()),())):=by
 have hw:wL bf xs=xs.length + cL bf xs:=rfl;unfold g24;dsimp only;rw [dJ (s:=xs) (left:=left) (by omega) (by omega) hb.1];by_cases q:((xs.length:Nat):Int)<=left
 . rw [ay (by omega)];dsimp only [cond_false];rw [Bx xs hb _ (by omega) (by omega)];by_cases q2:((cL bf xs:Nat):Int)<=left - (xs.length:Int)
   . rw [if_pos q2,bE (by omega)];dsimp only [Option.bind_some,Sum.elim_inl];have e:left - (xs.length:Int) - (cL bf xs:Nat)=left - ((wL bf xs:Nat):Int):=by omega
     rw [e]
   . rw [if_neg q2,bb (by omega)]; rfl
 . rw [aJ (by omega),bb (by omega)]; rfl
theorem OF (xs:List od) (h:wL bf xs<=1048576):YY xs=some ((),((xs,()),())):=by
 have hb:aT=140737488355328:=rfl;have hw:wL bf xs=xs.length + cL bf xs:=rfl;unfold YY;dsimp only;rw [qf (by decide) (by omega),ke]
 have h:=aF (step:=fun (x:(List od)×(List fj)×Int×Unit)=>yp x.1 x.2.1 x.2.2.1) xs (fun i (a:List od)=>(xs,a ++ List.replicate (xs.length - i) d62,((i:Nat):Int),())) (fun _ x (a:List od)=>Sum.inl (a ++ [x]))
  (fun a=> .inl (xs,a,(xs.length:Int),())) (fun i a=>a.length=i) (a0:=[]) rfl (fun i x a hx ha=>by
    have hlt:=ai hx;have hcm:=dD bf hx;show yp xs (a ++ List.replicate (xs.length - i) d62) (i:Int)=_;unfold yp;obtain ⟨q,hq⟩:∃ q,xs.length - i=q + 1:=⟨xs.length - i - 1,by omega⟩;have hq':xs.length - (i + 1)=q:=by omega
    rw [hq,aeQ,aC hx,az hx,aS _ hx,toTask x (by omega)];dsimp only [cond_true,Option.bind_some];simp only [eV ha,kT _ ha,eR ha,aK (show i<=aT by omega),hq',ac6,adB,aeX]) (fun i x a a' hx ha hf=>by
    simp only [ads] at hf;rw [<- hf,ac4,ha]; rfl) (fun a ha=>by
    show yp xs (a ++ List.replicate (xs.length - xs.length) d62) (xs.length:Int)=_;unfold yp;rw [au rfl,aeh,aeR,adE]; rfl)
 rw [gf] at h;have h':Rh xs (List.replicate xs.length d62) 0=_:=h;rw [h']; rfl
theorem Of (xs:List fj) (h:wL bf xs<=1099511627776):YX xs xs=some ((),((true,()),())):=by
 have hb:aT=140737488355328:=rfl;have hw:wL bf xs=xs.length + cL bf xs:=rfl;unfold YX;rw [bk];have h:=aI (step:=fun (x:(List fj)×(List fj)×Int×Unit)=>xX x.1 x.2.1 x.2.2.1) xs (fun i (_:Unit)=>(xs,xs,((i:Nat):Int),())) (fun _ x _=>Sum.inl ()) (fun _=> .inl (xs,xs,(xs.length:Int),())) (a0:=()) (fun i x a hx=>by
  have hlt:=ai hx;have hcm:=dD bf hx;show xX xs xs (i:Int)=_;unfold xX;rw [aC hx,az hx,aS _ hx,SV x (by omega),aK (by omega)]; rfl) (fun a=>by
  show xX xs xs (xs.length:Int)=_;unfold xX;rw [au rfl]; rfl)
 rw [cr (fun _ a=>a)] at h;have h':PJ xs xs 0=_:=h;rw [h']; rfl
theorem G5 (xs:List fj) (k:Int) (h1:1<=k) (h2:k + ((cL bX xs:Nat):Int)<=1099511627776) (h3:wL bf xs<=1099511627776):YU xs k=some (((fQ gv bX xs k,()),()),((k + ((cL bX xs:Nat):Int),()),())):=by
 have hb:aT=140737488355328:=rfl;have hwl:wL bf xs=xs.length + cL bf xs:=rfl;unfold YU
 have h:=aF (step:=fun (x:(List fj)×Int×Int×Unit)=>wE x.1 x.2.1 x.2.2.1) xs (fun i (a:List fj×Int)=>(a.1 ++ xs.drop i,a.2,((i:Nat):Int),())) (fun _ x (a:List fj×Int)=>Sum.inl (a.1 ++ [gv x a.2],a.2 + ((bX x:Nat):Int)))
  (fun a=> .inl (a.1,a.2,(xs.length:Int),())) (fun i a=>a.1.length=i/\1<=a.2/\a.2 + ((cL bX (xs.drop i):Nat):Int)<=1099511627776) (a0:=([],k)) ⟨rfl,h1,h2⟩ (fun i x a hx ha=>by
    have hlt:=ai hx;have hcm:=dD bf hx;obtain ⟨hd,ha1,ha2⟩:=ha;rw [cX _ hx] at ha2;have hc:bX x=cL (fun _=>1) x.1 + 1 + cL (fun _=>1) x.2.2.1 + 1 + 1 + 1 + 1 + 1 + cL (fun _=>1) x.2.2.2.2.2.2.2.2.1:=rfl;have hw:bf x=x.1.length + x.2.2.1.length + x.2.2.2.2.2.2.2.2.1.length:=rfl;have m0:=sF x.1 a.2 (by omega) (by omega);have a1:aj .i64 (a.2 + ((cL (fun _=>1) x.1:Nat):Int)) 1=(a.2 + ((cL (fun _=>1) x.1:Nat):Int)) + 1:=aA (by omega) (by omega);have m2:=yF x.2.2.1 ((a.2 + ((cL (fun _=>1) x.1:Nat):Int)) + 1) (by omega) (by omega);have a3:aj .i64 (((a.2 + ((cL (fun _=>1) x.1:Nat):Int)) + 1) + ((cL (fun _=>1) x.2.2.1:Nat):Int)) 1=(((a.2 + ((cL (fun _=>1) x.1:Nat):Int)) + 1) + ((cL (fun _=>1) x.2.2.1:Nat):Int)) + 1:=aA (by omega) (by omega);have a4:aj .i64 ((((a.2 + ((cL (fun _=>1) x.1:Nat):Int)) + 1) + ((cL (fun _=>1) x.2.2.1:Nat):Int)) + 1) 1=((((a.2 + ((cL (fun _=>1) x.1:Nat):Int)) + 1) + ((cL (fun _=>1) x.2.2.1:Nat):Int)) + 1) + 1:=aA (by omega) (by omega);have a5:aj .i64 (((((a.2 + ((cL (fun _=>1) x.1:Nat):Int)) + 1) + ((cL (fun _=>1) x.2.2.1:Nat):Int)) + 1) + 1) 1=(((((a.2 + ((cL (fun _=>1) x.1:Nat):Int)) + 1) + ((cL (fun _=>1) x.2.2.1:Nat):Int)) + 1) + 1) + 1:=aA (by omega) (by omega);have a6:aj .i64 ((((((a.2 + ((cL (fun _=>1) x.1:Nat):Int)) + 1) + ((cL (fun _=>1) x.2.2.1:Nat):Int)) + 1) + 1) + 1) 1=((((((a.2 + ((cL (fun _=>1) x.1:Nat):Int)) + 1) + ((cL (fun _=>1) x.2.2.1:Nat):Int)) + 1) + 1) + 1) + 1:=aA (by omega) (by omega);have a7:aj .i64 (((((((a.2 + ((cL (fun _=>1) x.1:Nat):Int)) + 1) + ((cL (fun _=>1) x.2.2.1:Nat):Int)) + 1) + 1) + 1) + 1) 1=(((((((a.2 + ((cL (fun _=>1) x.1:Nat):Int)) + 1) + ((cL (fun _=>1) x.2.2.1:Nat):Int)) + 1) + 1) + 1) + 1) + 1:=aA (by omega) (by omega);have m8:=sF x.2.2.2.2.2.2.2.2.1 ((((((((a.2 + ((cL (fun _=>1) x.1:Nat):Int)) + 1) + ((cL (fun _=>1) x.2.2.1:Nat):Int)) + 1) + 1) + 1) + 1) + 1) (by omega) (by omega);show wE (a.1 ++ xs.drop i) a.2 (i:Int)=_;unfold wE;have e:(((((((((a.2 + ((cL (fun _=>1) x.1:Nat):Int)) + 1) + ((cL (fun _=>1) x.2.2.1:Nat):Int)) + 1) + 1) + 1) + 1) + 1) + ((cL (fun _=>1) x.2.2.2.2.2.2.2.2.1:Nat):Int))=a.2 + ((bX x:Nat):Int):=by omega
    simp only [iW hx,lZ hd,eV hd,eR hd,kT _ hd,aK (show i<=aT by omega),ac6,adq,m0,a1,m2,a3,a4,a5,a6,a7,m8];rw [e,adB]; rfl) (fun i x a a' hx ha hf=>by
    obtain ⟨hd,ha1,ha2⟩:=ha;rw [cX _ hx] at ha2;simp only [ads] at hf;subst hf;refine ⟨by rw [ac4,hd]; rfl,?_,?_⟩
    . show 1<=a.2 + ((bX x:Nat):Int); omega
    . show a.2 + ((bX x:Nat):Int) + _<=_; omega) (fun a ha=>by
    show wE (a.1 ++ xs.drop xs.length) a.2 (xs.length:Int)=_;unfold wE;rw [aeI,adE,au ha.1]; rfl)
 rw [mR gv bX] at h;have h':Qa xs k 0=_:=h;rw [h']; rfl
theorem HV (xs:List fj) (k:Int) (h1:1<=k) (h2:k + ((cL bX xs:Nat):Int)<=1099511627776) (h3:wL bf xs<=1099511627776):Zl (fQ gv bX xs k) k=some ((),((k + ((cL bX xs:Nat):Int),()),())):=by
 have hb:aT=140737488355328:=rfl;have hwl:wL bf xs=xs.length + cL bf xs:=rfl;unfold Zl
 have h:=aF (step:=fun (x:(List fj)×Int×Int×Unit)=>xv x.1 x.2.1 x.2.2.1) xs (fun i (a:Int)=>(fQ gv bX xs k,a,((i:Nat):Int),())) (fun _ x (a:Int)=>Sum.inl (a + ((bX x:Nat):Int)))
  (fun a=> .inl (fQ gv bX xs k,a,(xs.length:Int),())) (fun i a=>a=k + ((cL bX (xs.take i):Nat):Int)) (a0:=k) (by simp [cL]) (fun i x a hx ha=>by
    have hlt:=ai hx;have hcm:=dD bf hx;have hs:=jO bX xs i;have hy:=iQ gv bX xs k i x hx;rw [cX _ hx] at hs;rw [<- ha] at hy;have hc:bX x=cL (fun _=>1) x.1 + 1 + cL (fun _=>1) x.2.2.1 + 1 + 1 + 1 + 1 + 1 + cL (fun _=>1) x.2.2.2.2.2.2.2.2.1:=rfl;have hw:bf x=x.1.length + x.2.2.1.length + x.2.2.2.2.2.2.2.2.1.length:=rfl;have m0:=tJ x.1 a (by omega) (by omega);have n0:aw (a + ((cL (fun _=>1) x.1:Nat):Int)) 0=false:=ay (by omega);have a1:aj .i64 (a + ((cL (fun _=>1) x.1:Nat):Int)) 1=(a + ((cL (fun _=>1) x.1:Nat):Int)) + 1:=aA (by omega) (by omega);have m2:=yj x.2.2.1 ((a + ((cL (fun _=>1) x.1:Nat):Int)) + 1) (by omega) (by omega);have n2:aw (((a + ((cL (fun _=>1) x.1:Nat):Int)) + 1) + ((cL (fun _=>1) x.2.2.1:Nat):Int)) 0=false:=ay (by omega);have a3:aj .i64 (((a + ((cL (fun _=>1) x.1:Nat):Int)) + 1) + ((cL (fun _=>1) x.2.2.1:Nat):Int)) 1=(((a + ((cL (fun _=>1) x.1:Nat):Int)) + 1) + ((cL (fun _=>1) x.2.2.1:Nat):Int)) + 1:=aA (by omega) (by omega);have a4:aj .i64 ((((a + ((cL (fun _=>1) x.1:Nat):Int)) + 1) + ((cL (fun _=>1) x.2.2.1:Nat):Int)) + 1) 1=((((a + ((cL (fun _=>1) x.1:Nat):Int)) + 1) + ((cL (fun _=>1) x.2.2.1:Nat):Int)) + 1) + 1:=aA (by omega) (by omega);have a5:aj .i64 (((((a + ((cL (fun _=>1) x.1:Nat):Int)) + 1) + ((cL (fun _=>1) x.2.2.1:Nat):Int)) + 1) + 1) 1=(((((a + ((cL (fun _=>1) x.1:Nat):Int)) + 1) + ((cL (fun _=>1) x.2.2.1:Nat):Int)) + 1) + 1) + 1:=aA (by omega) (by omega);have a6:aj .i64 ((((((a + ((cL (fun _=>1) x.1:Nat):Int)) + 1) + ((cL (fun _=>1) x.2.2.1:Nat):Int)) + 1) + 1) + 1) 1=((((((a + ((cL (fun _=>1) x.1:Nat):Int)) + 1) + ((cL (fun _=>1) x.2.2.1:Nat):Int)) + 1) + 1) + 1) + 1:=aA (by omega) (by omega);have a7:aj .i64 (((((((a + ((cL (fun _=>1) x.1:Nat):Int)) + 1) + ((cL (fun _=>1) x.2.2.1:Nat):Int)) + 1) + 1) + 1) + 1) 1=(((((((a + ((cL (fun _=>1) x.1:Nat):Int)) + 1) + ((cL (fun _=>1) x.2.2.1:Nat):Int)) + 1) + 1) + 1) + 1) + 1:=aA (by omega) (by omega);have m8:=tJ x.2.2.2.2.2.2.2.2.1 ((((((((a + ((cL (fun _=>1) x.1:Nat):Int)) + 1) + ((cL (fun _=>1) x.2.2.1:Nat):Int)) + 1) + 1) + 1) + 1) + 1) (by omega) (by omega);have n8:aw (((((((((a + ((cL (fun _=>1) x.1:Nat):Int)) + 1) + ((cL (fun _=>1) x.2.2.1:Nat):Int)) + 1) + 1) + 1) + 1) + 1) + ((cL (fun _=>1) x.2.2.2.2.2.2.2.2.1:Nat):Int)) 0=false:=ay (by omega);show xv (fQ gv bX xs k) a (i:Int)=_;unfold xv;have e:(((((((((a + ((cL (fun _=>1) x.1:Nat):Int)) + 1) + ((cL (fun _=>1) x.2.2.1:Nat):Int)) + 1) + 1) + 1) + 1) + 1) + ((cL (fun _=>1) x.2.2.2.2.2.2.2.2.1:Nat):Int))=a + ((bX x:Nat):Int):=by omega
    simp only [aC hy,az hy,aS _ hy,aK (show i<=aT by omega),gv,ac6,adm,adq,da,bk,adL,m0,n0,a1,m2,n2,a3,a4,a5,a6,a7,m8,n8];rw [e]) (fun i x a a' hx ha hf=>by
    simp only [ads] at hf;rw [lS _ hx];omega) (fun a ha=>by
    show xv (fQ gv bX xs k) a (xs.length:Int)=_;unfold xv;rw [au (ky _ _ _ _)]; rfl)
 rw [kn bX] at h;have h':Rb (fQ gv bX xs k) k 0=_:=h;rw [h']; rfl
def eE (x:((List qp)×Int×Int×(List od)×Unit)):Nat:=wL aH x.1 + wL bf x.2.2.2.1
def AU (x:((List qp)×Int×Int×(List od)×Unit)):Prop:=(x.1.length<=aT/\∀ y∈x.1,mL y)/\(x.2.2.2.1.length<=aT/\∀ y∈x.2.2.2.1,xQ y)
def AL (x:((List qp)×Int×Int×(List od)×Unit)):Prop:=(∀ y∈x.1,CX y)/\(∀ y∈x.2.2.2.1,Ep y)
theorem Pv (x:((List qp)×Int×Int×(List od)×Unit)) (left:Int) (h0:0<=left) (h1:left<=1048576) (hb:AU x):g7 x left=some ((),((Dy left (eE x),()),())):=by
 have hw:eE x=wL aH x.1 + wL bf x.2.2.2.1:=rfl;unfold g7
 try dsimp only
 by_cases q0:((wL aH x.1:Nat):Int)<=left;rotate_left
 . rw [za x.1 left (by omega) (by omega) (hb.1),bb q0,bb (by omega)]; rfl
 rw [za x.1 left (by omega) (by omega) (hb.1),bE q0]; dsimp only [Option.bind_some]; rw [ay (by omega)]; dsimp only [cond_false];by_cases q1:((wL bf x.2.2.2.1:Nat):Int)<=(left - ((wL aH x.1:Nat):Int));rotate_left
 . rw [Gb x.2.2.2.1 (left - ((wL aH x.1:Nat):Int)) (by omega) (by omega) (hb.2),bb q1,bb (by omega)]; rfl
 rw [Gb x.2.2.2.1 (left - ((wL aH x.1:Nat):Int)) (by omega) (by omega) (hb.2),bE q1]; dsimp only [Option.bind_some]; rw [ay (by omega)]; dsimp only [cond_false];rw [bE (by omega)];have e:((left - ((wL aH x.1:Nat):Int)) - ((wL bf x.2.2.2.1:Nat):Int))=left - ((eE x:Nat):Int):=by omega
 rw [e]
theorem MY (x:((List qp)×Int×Int×(List od)×Unit)) (h:eE x<=1048576):g9 x=some ((),(x,())):=by have hw:eE x=wL aH x.1 + wL bf x.2.2.2.1:=rfl;unfold g9;rw [Ie x.1 (by omega)];rw [OF x.2.2.2.1 (by omega)];rfl
theorem Fw (x:((List qp)×Int×Int×(List od)×Unit)) (h:eE x<=1099511627776):g11 x x=some ((),((true,()),())):=by have hw:eE x=wL aH x.1 + wL bf x.2.2.2.1:=rfl;unfold g11;simp only [bk,da,adL,adm,adq,beq_self_eq_true,HB x.1 (by omega),Of x.2.2.2.1 (by omega)]
def jk (x:((List qp)×Int×Int×(List od)×Unit)):Nat:=cL a8 x.1 + cL bX x.2.2.2.1
noncomputable def rK (x:((List qp)×Int×Int×(List od)×Unit)) (k:Int):((List qp)×Int×Int×(List od)×Unit):=(fQ dH a8 x.1 k,x.2.1,x.2.2.1,fQ gv bX x.2.2.2.1 (k + ((cL a8 x.1:Nat):Int)),())
theorem zM (x:((List qp)×Int×Int×(List od)×Unit)):jk x<=100 * eE x:=by have hw:eE x=wL aH x.1 + wL bf x.2.2.2.1:=rfl;have hc:jk x=cL a8 x.1 + cL bX x.2.2.2.1:=rfl;have h0:=zb C8 x.1;have h3:=zb GL x.2.2.2.1;omega
theorem yZ (x:((List qp)×Int×Int×(List od)×Unit)) (k:Int) (h1:1<=k) (h2:k + ((jk x:Nat):Int)<=1099511627776) (h3:eE x<=1099511627776):g14 x k=some ((rK x k,()),((k + ((jk x:Nat):Int),()),())):=by
 have hb:aT=140737488355328:=rfl;have hw:eE x=wL aH x.1 + wL bf x.2.2.2.1:=rfl;have hc:jk x=cL a8 x.1 + cL bX x.2.2.2.1:=rfl;have m0:=Dl x.1 k (by omega) (by omega) (by omega);have m1:=G5 x.2.2.2.1 (k + ((cL a8 x.1:Nat):Int)) (by omega) (by omega) (by omega);unfold g14;have e:((k + ((cL a8 x.1:Nat):Int)) + ((cL bX x.2.2.2.1:Nat):Int))=k + ((jk x:Nat):Int):=by omega
 rw [m0]; dsimp only [Option.bind_some,cond_false];rw [m1]; dsimp only [Option.bind_some,cond_false];rw [e]
 try rfl
theorem Hk (x:((List qp)×Int×Int×(List od)×Unit)) (k:Int) (h1:1<=k) (h2:k + ((jk x:Nat):Int)<=1099511627776) (h3:eE x<=1099511627776):g15 (rK x k) k=some ((),((k + ((jk x:Nat):Int),()),())):=by
 have hb:aT=140737488355328:=rfl;have hw:eE x=wL aH x.1 + wL bf x.2.2.2.1:=rfl;have hc:jk x=cL a8 x.1 + cL bX x.2.2.2.1:=rfl;have m0:=Ca x.1 k (by omega) (by omega) (by omega);have n0:aw (k + ((cL a8 x.1:Nat):Int)) 0=false:=ay (by omega);have m1:=HV x.2.2.2.1 (k + ((cL a8 x.1:Nat):Int)) (by omega) (by omega) (by omega);have n1:aw ((k + ((cL a8 x.1:Nat):Int)) + ((cL bX x.2.2.2.1:Nat):Int)) 0=false:=ay (by omega);unfold g15;have e:((k + ((cL a8 x.1:Nat):Int)) + ((cL bX x.2.2.2.1:Nat):Int))=k + ((jk x:Nat):Int):=by omega
 unfold rK;dsimp only;rw [m0]; dsimp only [Option.bind_some,cond_false];rw [n0]; dsimp only [Option.bind_some,cond_false];rw [m1]; dsimp only [Option.bind_some,cond_false];rw [n1]; dsimp only [Option.bind_some,cond_false];rw [e]
end Go.Av
