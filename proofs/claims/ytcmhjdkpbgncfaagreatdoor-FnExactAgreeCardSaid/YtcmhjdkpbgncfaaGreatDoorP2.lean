/- FnExactAgree, a part. -/
import Derived.Test.YtcmhjdkpbgncfaaGreatDoorP1
import Derived.Test.YtcmhjdkpbgncfaaGreatDoorFw4
set_option maxRecDepth 100000
set_option maxHeartbeats 4000000
namespace Go.Av
def cF(x:lf):Nat:=x.1.length
def xj(x:lf):Prop:=x.1.length<=bG
theorem Up(x:lf)(left:Int)(h0:0<=left)(h1:left<=1048576)(hb:xj x):RA x left=zR (Gn left (cF x)):=by
 have hw:cF x=x.1.length:=rfl;unfold RA
 try dsimp only
 by_cases q0:((x.1.length:Nat):Int)<=left;rotate_left
 . rw[eZ (s:=x.1) (left:=left) (by omega) (by omega) hb]; rw[aO (by omega),bt (by omega)];try rfl
 rw[eZ (s:=x.1) (left:=left) (by omega) (by omega) hb]; rw[aJ (by omega)]; dsimp only[oF];rw[cu (by omega)];have e:(left-((x.1.length:Nat):Int))=left-((cF x:Nat):Int):=by omega
 rw[e]
theorem U8(x:lf)(h:cF x<=1048576):Ru x=some ((),(x,())):=by have hw:cF x=x.1.length:=rfl;unfold Ru;rfl
theorem VF(x:lf)(h:cF x<=1099511627776):PZ x x=zR true:=by have hw:cF x=x.1.length:=rfl;unfold PZ;simp only[bX,jN,oN,oF,oB,beq_self_eq_true]
theorem AI(x:(List R3))(left:Int)(h0:0<=left)(h1:left<=1048576)(hb:x.length<=bG):Lc x left=zR (Gn left x.length):=by
 unfold Lc;dsimp only;by_cases q:((x.length:Nat):Int)<=left
 . rw[eZ (s:=x) (left:=left) (by omega) (by omega) hb,aJ (by omega),cu q];try rfl
 . rw[eZ (s:=x) (left:=left) (by omega) (by omega) hb,aO (by omega),bt q];try rfl
theorem Mf(xs:List R3)(h:xs.length<=1048576):g30 xs=zR xs:=by
 have hb:=bb;unfold g30;dsimp only;rw[qZ (by decide) (by omega),lj]
 have h:=aY (step:=fun(x:(List R3)×(List R3)×Int×Unit)=>xg x.1 x.2.1 x.2.2.1) xs (fun i (a:List R3)=>(xs,a++List.replicate (xs.length-i) d3,((i:Nat):Int),())) (fun _ x (a:List R3)=>Sum.inl (a++[x]))
  (fun a=> .inl (xs,a,(xs.length:Int),())) (fun i a=>a.length=i) (a0:=[]) rfl (fun i x a hx ha=>by
    have hlt:=ai hx;show xg xs (a++List.replicate (xs.length-i) d3) (i:Int)=_;unfold xg;obtain⟨q,hq⟩:∃ q,xs.length-i=q+1:=⟨xs.length-i-1,by omega⟩;have hq':xs.length-(i+1)=q:=by omega
    rw[hq,af5,aI hx,az hx,jb ha,aH _ hx,gw ha,aS (by omega),hq'];dsimp only[oT];rw[aeV];try rfl) (fun i x a a' hx ha hf=>by
    simp only[aeO]at hf;rw[<- hf,aep,ha];try rfl) (fun a ha=>by
    show xg xs (a++List.replicate (xs.length-xs.length) d3) (xs.length:Int)=_;unfold xg;rw[aA rfl,af7,af6,afp];try rfl)
 rw[kK]at h;have h':TW xs (List.replicate xs.length d3) 0=_:=h;rw[h'];try rfl
theorem N4(xs:List R3)(h:xs.length<=1099511627776):g32 xs xs=zR true:=by
 have hb:=bb;unfold g32;rw[bX];have h:=aL (step:=fun(x:(List R3)×(List R3)×Int×Unit)=>wD x.1 x.2.1 x.2.2.1) xs (fun i (_:Unit)=>(xs,xs,((i:Nat):Int),())) (fun _ x _=>Sum.inl ()) (fun _=> .inl (xs,xs,(xs.length:Int),())) (a0:=()) (fun i x a hx=>by
  have hlt:=ai hx;show wD xs xs (i:Int)=_;unfold wD;rw[aI hx,az hx,aH _ hx,bX,aS (by omega)];try rfl) (fun a=>by
  show wD xs xs (xs.length:Int)=_;unfold wD;rw[aA rfl];try rfl)
 rw[bH (fun _ a=>a)]at h;have h':SB xs xs 0=_:=h;rw[h'];try rfl
def jf(x:(Int×Int×(List R3)×(List R3)×Unit)):Nat:=x.2.2.1.length+x.2.2.2.1.length
def KI(x:(Int×Int×(List R3)×(List R3)×Unit)):Prop:=x.2.2.1.length<=bG/\x.2.2.2.1.length<=bG
theorem Ke(x:(Int×Int×(List R3)×(List R3)×Unit))(left:Int)(h0:0<=left)(h1:left<=1048576)(hb:KI x):Px x left=zR (Gn left (jf x)):=by
 have hw:jf x=x.2.2.1.length+x.2.2.2.1.length:=rfl;unfold Px
 try dsimp only
 by_cases q0:((x.2.2.1.length:Nat):Int)<=left;rotate_left
 . rw[AI x.2.2.1 left (by omega) (by omega) (hb.1),bt q0,bt (by omega)];try rfl
 rw[AI x.2.2.1 left (by omega) (by omega) (hb.1),cu q0]; dsimp only[oB]; rw[aJ (by omega)]; dsimp only[oF];by_cases q1:((x.2.2.2.1.length:Nat):Int)<=(left-((x.2.2.1.length:Nat):Int));rotate_left
 . rw[AI x.2.2.2.1 (left-((x.2.2.1.length:Nat):Int)) (by omega) (by omega) (hb.2),bt q1,bt (by omega)];try rfl
 rw[AI x.2.2.2.1 (left-((x.2.2.1.length:Nat):Int)) (by omega) (by omega) (hb.2),cu q1]; dsimp only[oB]; rw[aJ (by omega)]; dsimp only[oF];rw[cu (by omega)];have e:((left-((x.2.2.1.length:Nat):Int))-((x.2.2.2.1.length:Nat):Int))=left-((jf x:Nat):Int):=by omega
 rw[e]
theorem toRing(x:(Int×Int×(List R3)×(List R3)×Unit))(h:jf x<=1048576):PD x=some ((),(x,())):=by have hw:jf x=x.2.2.1.length+x.2.2.2.1.length:=rfl;unfold PD;rw[Mf x.2.2.1 (by omega)];rw[Mf x.2.2.2.1 (by omega)];try rfl
theorem UI(x:(Int×Int×(List R3)×(List R3)×Unit))(h:jf x<=1099511627776):QV x x=zR true:=by have hw:jf x=x.2.2.1.length+x.2.2.2.1.length:=rfl;unfold QV;simp only[bX,jN,oN,oF,oB,beq_self_eq_true,N4 x.2.2.1 (by omega),N4 x.2.2.2.1 (by omega)]
theorem oX(x:(List R5))(left:Int)(h0:0<=left)(h1:left<=1048576)(hb:x.length<=bG):Xc x left=zR (Gn left x.length):=by
 unfold Xc;dsimp only;by_cases q:((x.length:Nat):Int)<=left
 . rw[eZ (s:=x) (left:=left) (by omega) (by omega) hb,aJ (by omega),cu q];try rfl
 . rw[eZ (s:=x) (left:=left) (by omega) (by omega) hb,aO (by omega),bt q];try rfl
theorem Ax(xs:List R5)(h:xs.length<=1048576):g16 xs=zR xs:=by
 have hb:=bb;unfold g16;dsimp only;rw[qZ (by decide) (by omega),lj]
 have h:=aY (step:=fun(x:(List R5)×(List R5)×Int×Unit)=>wo x.1 x.2.1 x.2.2.1) xs (fun i (a:List R5)=>(xs,a++List.replicate (xs.length-i) d5,((i:Nat):Int),())) (fun _ x (a:List R5)=>Sum.inl (a++[x]))
  (fun a=> .inl (xs,a,(xs.length:Int),())) (fun i a=>a.length=i) (a0:=[]) rfl (fun i x a hx ha=>by
    have hlt:=ai hx;show wo xs (a++List.replicate (xs.length-i) d5) (i:Int)=_;unfold wo;obtain⟨q,hq⟩:∃ q,xs.length-i=q+1:=⟨xs.length-i-1,by omega⟩;have hq':xs.length-(i+1)=q:=by omega
    rw[hq,af5,aI hx,az hx,jb ha,aH _ hx,gw ha,aS (by omega),hq'];dsimp only[oT];rw[aeV];try rfl) (fun i x a a' hx ha hf=>by
    simp only[aeO]at hf;rw[<- hf,aep,ha];try rfl) (fun a ha=>by
    show wo xs (a++List.replicate (xs.length-xs.length) d5) (xs.length:Int)=_;unfold wo;rw[aA rfl,af7,af6,afp];try rfl)
 rw[kK]at h;have h':TH xs (List.replicate xs.length d5) 0=_:=h;rw[h'];try rfl
theorem Ap(xs:List R5)(h:xs.length<=1099511627776):g18 xs xs=zR true:=by
 have hb:=bb;unfold g18;rw[bX];have h:=aL (step:=fun(x:(List R5)×(List R5)×Int×Unit)=>xC x.1 x.2.1 x.2.2.1) xs (fun i (_:Unit)=>(xs,xs,((i:Nat):Int),())) (fun _ x _=>Sum.inl ()) (fun _=> .inl (xs,xs,(xs.length:Int),())) (a0:=()) (fun i x a hx=>by
  have hlt:=ai hx;show xC xs xs (i:Int)=_;unfold xC;rw[aI hx,az hx,aH _ hx,bX,aS (by omega)];try rfl) (fun a=>by
  show xC xs xs (xs.length:Int)=_;unfold xC;rw[aA rfl];try rfl)
 rw[bH (fun _ a=>a)]at h;have h':Td xs xs 0=_:=h;rw[h'];try rfl
def dh(x:js):Nat:=x.1.length+x.2.1.length+x.2.2.1.length
def xQ(x:js):Prop:=x.1.length<=bG/\x.2.1.length<=bG/\x.2.2.1.length<=bG
def Oo(x:js):Prop:=(∀ y∈x.2.2.1,nB .u8 y.1)
theorem WR(x:js)(left:Int)(h0:0<=left)(h1:left<=1048576)(hb:xQ x):OO x left=zR (Gn left (dh x)):=by
 have hw:dh x=x.1.length+x.2.1.length+x.2.2.1.length:=rfl;unfold OO
 try dsimp only
 by_cases q0:((x.1.length:Nat):Int)<=left;rotate_left
 . rw[eZ (s:=x.1) (left:=left) (by omega) (by omega) hb.1]; rw[aO (by omega),bt (by omega)];try rfl
 rw[eZ (s:=x.1) (left:=left) (by omega) (by omega) hb.1]; rw[aJ (by omega)]; dsimp only[oF];by_cases q1:((x.2.1.length:Nat):Int)<=(left-((x.1.length:Nat):Int));rotate_left
 . rw[eZ (s:=x.2.1) (left:=(left-((x.1.length:Nat):Int))) (by omega) (by omega) hb.2.1]; rw[aO (by omega),bt (by omega)];try rfl
 rw[eZ (s:=x.2.1) (left:=(left-((x.1.length:Nat):Int))) (by omega) (by omega) hb.2.1]; rw[aJ (by omega)]; dsimp only[oF];by_cases q2:((x.2.2.1.length:Nat):Int)<=((left-((x.1.length:Nat):Int))-((x.2.1.length:Nat):Int));rotate_left
 . rw[oX x.2.2.1 ((left-((x.1.length:Nat):Int))-((x.2.1.length:Nat):Int)) (by omega) (by omega) (hb.2.2),bt q2,bt (by omega)];try rfl
 rw[oX x.2.2.1 ((left-((x.1.length:Nat):Int))-((x.2.1.length:Nat):Int)) (by omega) (by omega) (hb.2.2),cu q2]; dsimp only[oB]; rw[aJ (by omega)]; dsimp only[oF];rw[cu (by omega)];have e:(((left-((x.1.length:Nat):Int))-((x.2.1.length:Nat):Int))-((x.2.2.1.length:Nat):Int))=left-((dh x:Nat):Int):=by omega
 rw[e]
theorem Uq(x:js)(h:dh x<=1048576):O7 x=some ((),(x,())):=by have hw:dh x=x.1.length+x.2.1.length+x.2.2.1.length:=rfl;unfold O7;rw[Ax x.2.2.1 (by omega)];try rfl
theorem Wc(x:js)(h:dh x<=1099511627776):Rz x x=zR true:=by have hw:dh x=x.1.length+x.2.1.length+x.2.2.1.length:=rfl;unfold Rz;simp only[bX,jN,oN,oF,oB,beq_self_eq_true,Ap x.2.2.1 (by omega)]
theorem AX(xs:List lf)(hb:xs.length<=bG/\∀ y∈xs,xj y)(a:Int)(h0:0<=a)(h1:a<=1048576):N8 xs a 0=some (if ((cL cF xs:Nat):Int)<=a then .inl (xs,a-(cL cF xs:Nat),(xs.length:Int),())else .inr (-1,())):=by
 have h:=aY (step:=fun(x:(List lf)×Int×Int×Unit)=>qb x.1 x.2.1 x.2.2.1) xs (fun i (a:Int)=>(xs,a,((i:Nat):Int),())) (fun _ x (a:Int)=>bif decide ((cF x:Int)<=a)then Sum.inl (a-cF x)else .inr (.inr (-1,())))
  (fun a=> .inl (xs,a,(xs.length:Int),())) (fun _ a=>0<=a/\a<=1048576) (a0:=a) ⟨h0,h1⟩ (fun i x a hx ha=>by
    have hmem:=aet hx;have hlt:=ai hx;show qb xs a (i:Int)=_;unfold qb;rw[aI hx,az hx,aH _ hx,Up x a ha.1 ha.2 (hb.2 x hmem),aS (by omega)];dsimp only[oT,oB];by_cases q:((cF x:Nat):Int)<=a
    . rw[cu q,aJ (by omega),aes q];try rfl
    . rw[bt q,aeL q];try rfl) (fun i x a a' hx ha hf=>by
    by_cases q:((cF x:Nat):Int)<=a
    . rw[aes q]at hf;simp only[oT,aeO]at hf;omega
    . rw[aeL q]at hf;simp at hf) (fun a ha=>by
    show qb xs a (xs.length:Int)=_;unfold qb;rw[aA rfl];try rfl)
 rw[wy _ _ _ _ _ _ h0]at h;refine ag9 h ?_;split <;> rfl
theorem Gi(xs:List lf)(left:Int)(h0:0<=left)(h1:left<=1048576)(hb:xs.length<=bG/\∀ y∈xs,xj y):Pr xs left=zR (Gn left (wL cF xs)):=by
 have hw:wL cF xs=xs.length+cL cF xs:=rfl;unfold Pr;dsimp only;rw[eZ (s:=xs) (left:=left) (by omega) (by omega) hb.1];by_cases q:((xs.length:Nat):Int)<=left
 . rw[aJ (by omega)];dsimp only[oF];rw[AX xs hb _ (by omega) (by omega)];by_cases q2:((cL cF xs:Nat):Int)<=left-(xs.length:Int)
   . rw[if_pos q2,cu (by omega)];dsimp only[oB,oL];have e:left-(xs.length:Int)-(cL cF xs:Nat)=left-((wL cF xs:Nat):Int):=by omega
     rw[e]
   . rw[if_neg q2,bt (by omega)];try rfl
 . rw[aO (by omega),bt (by omega)];try rfl
theorem OP(xs:List lf)(h:wL cF xs<=1048576):Pm xs=zR xs:=by
 have hb:=bb;have hw:wL cF xs=xs.length+cL cF xs:=rfl;unfold Pm;dsimp only;rw[qZ (by decide) (by omega),lj]
 have h:=aY (step:=fun(x:(List lf)×(List bm)×Int×Unit)=>ri x.1 x.2.1 x.2.2.1) xs (fun i (a:List lf)=>(xs,a++List.replicate (xs.length-i) d192,((i:Nat):Int),())) (fun _ x (a:List lf)=>Sum.inl (a++[x]))
  (fun a=> .inl (xs,a,(xs.length:Int),())) (fun i a=>a.length=i) (a0:=[]) rfl (fun i x a hx ha=>by
    have hlt:=ai hx;have hcm:=lW cF hx;show ri xs (a++List.replicate (xs.length-i) d192) (i:Int)=_;unfold ri;obtain⟨q,hq⟩:∃ q,xs.length-i=q+1:=⟨xs.length-i-1,by omega⟩;have hq':xs.length-(i+1)=q:=by omega
    rw[hq,af5,aI hx,az hx,aH _ hx,U8 x (by omega)];dsimp only[oT,oB];simp only[jb ha,tw _ ha,gw ha,aS (show i<=bG by omega),hq',oT,aeV,agp]) (fun i x a a' hx ha hf=>by
    simp only[aeO]at hf;rw[<- hf,aep,ha];try rfl) (fun a ha=>by
    show ri xs (a++List.replicate (xs.length-xs.length) d192) (xs.length:Int)=_;unfold ri;rw[aA rfl,af7,af6,afp];try rfl)
 rw[kK]at h;have h':Nu xs (List.replicate xs.length d192) 0=_:=h;rw[h'];try rfl
theorem P3(xs:List bm)(h:wL cF xs<=1099511627776):PX xs xs=zR true:=by
 have hb:=bb;have hw:wL cF xs=xs.length+cL cF xs:=rfl;unfold PX;rw[bX];have h:=aL (step:=fun(x:(List bm)×(List bm)×Int×Unit)=>pR x.1 x.2.1 x.2.2.1) xs (fun i (_:Unit)=>(xs,xs,((i:Nat):Int),())) (fun _ x _=>Sum.inl ()) (fun _=> .inl (xs,xs,(xs.length:Int),())) (a0:=()) (fun i x a hx=>by
  have hlt:=ai hx;have hcm:=lW cF hx;show pR xs xs (i:Int)=_;unfold pR;rw[aI hx,az hx,aH _ hx,VF x (by omega),aS (by omega)];try rfl) (fun a=>by
  show pR xs xs (xs.length:Int)=_;unfold pR;rw[aA rfl];try rfl)
 rw[bH (fun _ a=>a)]at h;have h':Mn xs xs 0=_:=h;rw[h'];try rfl
theorem AR(xs:List js)(hb:xs.length<=bG/\∀ y∈xs,xQ y)(a:Int)(h0:0<=a)(h1:a<=1048576):LA xs a 0=some (if ((cL dh xs:Nat):Int)<=a then .inl (xs,a-(cL dh xs:Nat),(xs.length:Int),())else .inr (-1,())):=by
 have h:=aY (step:=fun(x:(List js)×Int×Int×Unit)=>qQ x.1 x.2.1 x.2.2.1) xs (fun i (a:Int)=>(xs,a,((i:Nat):Int),())) (fun _ x (a:Int)=>bif decide ((dh x:Int)<=a)then Sum.inl (a-dh x)else .inr (.inr (-1,())))
  (fun a=> .inl (xs,a,(xs.length:Int),())) (fun _ a=>0<=a/\a<=1048576) (a0:=a) ⟨h0,h1⟩ (fun i x a hx ha=>by
    have hmem:=aet hx;have hlt:=ai hx;show qQ xs a (i:Int)=_;unfold qQ;rw[aI hx,az hx,aH _ hx,WR x a ha.1 ha.2 (hb.2 x hmem),aS (by omega)];dsimp only[oT,oB];by_cases q:((dh x:Nat):Int)<=a
    . rw[cu q,aJ (by omega),aes q];try rfl
    . rw[bt q,aeL q];try rfl) (fun i x a a' hx ha hf=>by
    by_cases q:((dh x:Nat):Int)<=a
    . rw[aes q]at hf;simp only[oT,aeO]at hf;omega
    . rw[aeL q]at hf;simp at hf) (fun a ha=>by
    show qQ xs a (xs.length:Int)=_;unfold qQ;rw[aA rfl];try rfl)
 rw[wy _ _ _ _ _ _ h0]at h;refine ag9 h ?_;split <;> rfl
theorem F5(xs:List js)(left:Int)(h0:0<=left)(h1:left<=1048576)(hb:xs.length<=bG/\∀ y∈xs,xQ y):Qi xs left=zR (Gn left (wL dh xs)):=by
 have hw:wL dh xs=xs.length+cL dh xs:=rfl;unfold Qi;dsimp only;rw[eZ (s:=xs) (left:=left) (by omega) (by omega) hb.1];by_cases q:((xs.length:Nat):Int)<=left
 . rw[aJ (by omega)];dsimp only[oF];rw[AR xs hb _ (by omega) (by omega)];by_cases q2:((cL dh xs:Nat):Int)<=left-(xs.length:Int)
   . rw[if_pos q2,cu (by omega)];dsimp only[oB,oL];have e:left-(xs.length:Int)-(cL dh xs:Nat)=left-((wL dh xs:Nat):Int):=by omega
     rw[e]
   . rw[if_neg q2,bt (by omega)];try rfl
 . rw[aO (by omega),bt (by omega)];try rfl
theorem OQ(xs:List js)(h:wL dh xs<=1048576):Rq xs=zR xs:=by
 have hb:=bb;have hw:wL dh xs=xs.length+cL dh xs:=rfl;unfold Rq;dsimp only;rw[qZ (by decide) (by omega),lj]
 have h:=aY (step:=fun(x:(List js)×(List bW)×Int×Unit)=>qf x.1 x.2.1 x.2.2.1) xs (fun i (a:List js)=>(xs,a++List.replicate (xs.length-i) d100,((i:Nat):Int),())) (fun _ x (a:List js)=>Sum.inl (a++[x]))
  (fun a=> .inl (xs,a,(xs.length:Int),())) (fun i a=>a.length=i) (a0:=[]) rfl (fun i x a hx ha=>by
    have hlt:=ai hx;have hcm:=lW dh hx;show qf xs (a++List.replicate (xs.length-i) d100) (i:Int)=_;unfold qf;obtain⟨q,hq⟩:∃ q,xs.length-i=q+1:=⟨xs.length-i-1,by omega⟩;have hq':xs.length-(i+1)=q:=by omega
    rw[hq,af5,aI hx,az hx,aH _ hx,Uq x (by omega)];dsimp only[oT,oB];simp only[jb ha,tw _ ha,gw ha,aS (show i<=bG by omega),hq',oT,aeV,agp]) (fun i x a a' hx ha hf=>by
    simp only[aeO]at hf;rw[<- hf,aep,ha];try rfl) (fun a ha=>by
    show qf xs (a++List.replicate (xs.length-xs.length) d100) (xs.length:Int)=_;unfold qf;rw[aA rfl,af7,af6,afp];try rfl)
 rw[kK]at h;have h':K9 xs (List.replicate xs.length d100) 0=_:=h;rw[h'];try rfl
theorem PG(xs:List bW)(h:wL dh xs<=1099511627776):PB xs xs=zR true:=by
 have hb:=bb;have hw:wL dh xs=xs.length+cL dh xs:=rfl;unfold PB;rw[bX];have h:=aL (step:=fun(x:(List bW)×(List bW)×Int×Unit)=>qN x.1 x.2.1 x.2.2.1) xs (fun i (_:Unit)=>(xs,xs,((i:Nat):Int),())) (fun _ x _=>Sum.inl ()) (fun _=> .inl (xs,xs,(xs.length:Int),())) (a0:=()) (fun i x a hx=>by
  have hlt:=ai hx;have hcm:=lW dh hx;show qN xs xs (i:Int)=_;unfold qN;rw[aI hx,az hx,aH _ hx,Wc x (by omega),aS (by omega)];try rfl) (fun a=>by
  show qN xs xs (xs.length:Int)=_;unfold qN;rw[aA rfl];try rfl)
 rw[bH (fun _ a=>a)]at h;have h':M0 xs xs 0=_:=h;rw[h'];try rfl
def cY(x:iI):Nat:=x.1.length+wL cF x.2.2.2.2.2.1+jf (x.2.2.2.2.2.2.1,x.2.2.2.2.2.2.2.1,x.2.2.2.2.2.2.2.2.1,x.2.2.2.2.2.2.2.2.2.1,())+wL dh x.2.2.2.2.2.2.2.2.2.2.1
def xl(x:iI):Prop:=x.1.length<=bG/\(x.2.2.2.2.2.1.length<=bG/\∀ y∈x.2.2.2.2.2.1,xj y)/\KI (x.2.2.2.2.2.2.1,x.2.2.2.2.2.2.2.1,x.2.2.2.2.2.2.2.2.1,x.2.2.2.2.2.2.2.2.2.1,())/\(x.2.2.2.2.2.2.2.2.2.2.1.length<=bG/\∀ y∈x.2.2.2.2.2.2.2.2.2.2.1,xQ y)
def L4(x:iI):Prop:=(∀ y∈x.2.2.2.2.2.2.2.2.2.2.1,Oo y)
theorem UU(x:iI)(left:Int)(h0:0<=left)(h1:left<=1048576)(hb:xl x):g73 x left=zR (Gn left (cY x)):=by
 have hw:cY x=x.1.length+wL cF x.2.2.2.2.2.1+jf (x.2.2.2.2.2.2.1,x.2.2.2.2.2.2.2.1,x.2.2.2.2.2.2.2.2.1,x.2.2.2.2.2.2.2.2.2.1,())+wL dh x.2.2.2.2.2.2.2.2.2.2.1:=rfl;unfold g73
 try dsimp only
 by_cases q0:((x.1.length:Nat):Int)<=left;rotate_left
 . rw[eZ (s:=x.1) (left:=left) (by omega) (by omega) hb.1]; rw[aO (by omega),bt (by omega)];try rfl
 rw[eZ (s:=x.1) (left:=left) (by omega) (by omega) hb.1]; rw[aJ (by omega)]; dsimp only[oF];by_cases q1:((wL cF x.2.2.2.2.2.1:Nat):Int)<=(left-((x.1.length:Nat):Int));rotate_left
 . rw[Gi x.2.2.2.2.2.1 (left-((x.1.length:Nat):Int)) (by omega) (by omega) (hb.2.1),bt q1,bt (by omega)];try rfl
 rw[Gi x.2.2.2.2.2.1 (left-((x.1.length:Nat):Int)) (by omega) (by omega) (hb.2.1),cu q1]; dsimp only[oB]; rw[aJ (by omega)]; dsimp only[oF];by_cases q2:((jf (x.2.2.2.2.2.2.1,x.2.2.2.2.2.2.2.1,x.2.2.2.2.2.2.2.2.1,x.2.2.2.2.2.2.2.2.2.1,()):Nat):Int)<=((left-((x.1.length:Nat):Int))-((wL cF x.2.2.2.2.2.1:Nat):Int));rotate_left
 . rw[Ke (x.2.2.2.2.2.2.1,x.2.2.2.2.2.2.2.1,x.2.2.2.2.2.2.2.2.1,x.2.2.2.2.2.2.2.2.2.1,()) ((left-((x.1.length:Nat):Int))-((wL cF x.2.2.2.2.2.1:Nat):Int)) (by omega) (by omega) (hb.2.2.1),bt q2,bt (by omega)];try rfl
 rw[Ke (x.2.2.2.2.2.2.1,x.2.2.2.2.2.2.2.1,x.2.2.2.2.2.2.2.2.1,x.2.2.2.2.2.2.2.2.2.1,()) ((left-((x.1.length:Nat):Int))-((wL cF x.2.2.2.2.2.1:Nat):Int)) (by omega) (by omega) (hb.2.2.1),cu q2]; dsimp only[oB]; rw[aJ (by omega)]; dsimp only[oF];by_cases q3:((wL dh x.2.2.2.2.2.2.2.2.2.2.1:Nat):Int)<=(((left-((x.1.length:Nat):Int))-((wL cF x.2.2.2.2.2.1:Nat):Int))-((jf (x.2.2.2.2.2.2.1,x.2.2.2.2.2.2.2.1,x.2.2.2.2.2.2.2.2.1,x.2.2.2.2.2.2.2.2.2.1,()):Nat):Int));rotate_left
 . rw[F5 x.2.2.2.2.2.2.2.2.2.2.1 (((left-((x.1.length:Nat):Int))-((wL cF x.2.2.2.2.2.1:Nat):Int))-((jf (x.2.2.2.2.2.2.1,x.2.2.2.2.2.2.2.1,x.2.2.2.2.2.2.2.2.1,x.2.2.2.2.2.2.2.2.2.1,()):Nat):Int)) (by omega) (by omega) (hb.2.2.2),bt q3,bt (by omega)];try rfl
 rw[F5 x.2.2.2.2.2.2.2.2.2.2.1 (((left-((x.1.length:Nat):Int))-((wL cF x.2.2.2.2.2.1:Nat):Int))-((jf (x.2.2.2.2.2.2.1,x.2.2.2.2.2.2.2.1,x.2.2.2.2.2.2.2.2.1,x.2.2.2.2.2.2.2.2.2.1,()):Nat):Int)) (by omega) (by omega) (hb.2.2.2),cu q3]; dsimp only[oB]; rw[aJ (by omega)]; dsimp only[oF];rw[cu (by omega)];have e:((((left-((x.1.length:Nat):Int))-((wL cF x.2.2.2.2.2.1:Nat):Int))-((jf (x.2.2.2.2.2.2.1,x.2.2.2.2.2.2.2.1,x.2.2.2.2.2.2.2.2.1,x.2.2.2.2.2.2.2.2.2.1,()):Nat):Int))-((wL dh x.2.2.2.2.2.2.2.2.2.2.1:Nat):Int))=left-((cY x:Nat):Int):=by omega
 rw[e]
theorem UW(x:iI)(h:cY x<=1048576):g75 x=some ((),(x,())):=by have hw:cY x=x.1.length+wL cF x.2.2.2.2.2.1+jf (x.2.2.2.2.2.2.1,x.2.2.2.2.2.2.2.1,x.2.2.2.2.2.2.2.2.1,x.2.2.2.2.2.2.2.2.2.1,())+wL dh x.2.2.2.2.2.2.2.2.2.2.1:=rfl;unfold g75;rw[OP x.2.2.2.2.2.1 (by omega)];rw[toRing (x.2.2.2.2.2.2.1,x.2.2.2.2.2.2.2.1,x.2.2.2.2.2.2.2.2.1,x.2.2.2.2.2.2.2.2.2.1,()) (by omega)];rw[OQ x.2.2.2.2.2.2.2.2.2.2.1 (by omega)];try rfl
theorem WG(x:iI)(h:cY x<=1099511627776):g76 x x=zR true:=by have hw:cY x=x.1.length+wL cF x.2.2.2.2.2.1+jf (x.2.2.2.2.2.2.1,x.2.2.2.2.2.2.2.1,x.2.2.2.2.2.2.2.2.1,x.2.2.2.2.2.2.2.2.2.1,())+wL dh x.2.2.2.2.2.2.2.2.2.2.1:=rfl;unfold g76;simp only[bX,jN,oN,oF,oB,beq_self_eq_true,P3 x.2.2.2.2.2.1 (by omega),UI (x.2.2.2.2.2.2.1,x.2.2.2.2.2.2.2.1,x.2.2.2.2.2.2.2.2.1,x.2.2.2.2.2.2.2.2.2.1,()) (by omega),PG x.2.2.2.2.2.2.2.2.2.2.1 (by omega)]
theorem AD(xs:List jW)(hb:xs.length<=bG/\∀ y∈xs,xl y)(a:Int)(h0:0<=a)(h1:a<=1048576):SH xs a 0=some (if ((cL cY xs:Nat):Int)<=a then .inl (xs,a-(cL cY xs:Nat),(xs.length:Int),())else .inr (-1,())):=by
 have h:=aY (step:=fun(x:(List jW)×Int×Int×Unit)=>wg x.1 x.2.1 x.2.2.1) xs (fun i (a:Int)=>(xs,a,((i:Nat):Int),())) (fun _ x (a:Int)=>bif decide ((cY x:Int)<=a)then Sum.inl (a-cY x)else .inr (.inr (-1,())))
  (fun a=> .inl (xs,a,(xs.length:Int),())) (fun _ a=>0<=a/\a<=1048576) (a0:=a) ⟨h0,h1⟩ (fun i x a hx ha=>by
    have hmem:=aet hx;have hlt:=ai hx;show wg xs a (i:Int)=_;unfold wg;rw[aI hx,az hx,aH _ hx,UU x a ha.1 ha.2 (hb.2 x hmem),aS (by omega)];dsimp only[oT,oB];by_cases q:((cY x:Nat):Int)<=a
    . rw[cu q,aJ (by omega),aes q];try rfl
    . rw[bt q,aeL q];try rfl) (fun i x a a' hx ha hf=>by
    by_cases q:((cY x:Nat):Int)<=a
    . rw[aes q]at hf;simp only[oT,aeO]at hf;omega
    . rw[aeL q]at hf;simp at hf) (fun a ha=>by
    show wg xs a (xs.length:Int)=_;unfold wg;rw[aA rfl];try rfl)
 rw[wy _ _ _ _ _ _ h0]at h;refine ag9 h ?_;split <;> rfl
theorem Gr(xs:List jW)(left:Int)(h0:0<=left)(h1:left<=1048576)(hb:xs.length<=bG/\∀ y∈xs,xl y):g34 xs left=zR (Gn left (wL cY xs)):=by
 have hw:wL cY xs=xs.length+cL cY xs:=rfl;unfold g34;dsimp only;rw[eZ (s:=xs) (left:=left) (by omega) (by omega) hb.1];by_cases q:((xs.length:Nat):Int)<=left
 . rw[aJ (by omega)];dsimp only[oF];rw[AD xs hb _ (by omega) (by omega)];by_cases q2:((cL cY xs:Nat):Int)<=left-(xs.length:Int)
   . rw[if_pos q2,cu (by omega)];dsimp only[oB,oL];have e:left-(xs.length:Int)-(cL cY xs:Nat)=left-((wL cY xs:Nat):Int):=by omega
     rw[e]
   . rw[if_neg q2,bt (by omega)];try rfl
 . rw[aO (by omega),bt (by omega)];try rfl
theorem Pl(xs:List jW)(h:wL cY xs<=1048576):g36 xs=zR xs:=by
 have hb:=bb;have hw:wL cY xs=xs.length+cL cY xs:=rfl;unfold g36;dsimp only;rw[qZ (by decide) (by omega),lj]
 have h:=aY (step:=fun(x:(List jW)×(List iI)×Int×Unit)=>x8 x.1 x.2.1 x.2.2.1) xs (fun i (a:List jW)=>(xs,a++List.replicate (xs.length-i) d94,((i:Nat):Int),())) (fun _ x (a:List jW)=>Sum.inl (a++[x]))
  (fun a=> .inl (xs,a,(xs.length:Int),())) (fun i a=>a.length=i) (a0:=[]) rfl (fun i x a hx ha=>by
    have hlt:=ai hx;have hcm:=lW cY hx;show x8 xs (a++List.replicate (xs.length-i) d94) (i:Int)=_;unfold x8;obtain⟨q,hq⟩:∃ q,xs.length-i=q+1:=⟨xs.length-i-1,by omega⟩;have hq':xs.length-(i+1)=q:=by omega
    rw[hq,af5,aI hx,az hx,aH _ hx,UW x (by omega)];dsimp only[oT,oB];simp only[jb ha,tw _ ha,gw ha,aS (show i<=bG by omega),hq',oT,aeV,agp]) (fun i x a a' hx ha hf=>by
    simp only[aeO]at hf;rw[<- hf,aep,ha];try rfl) (fun a ha=>by
    show x8 xs (a++List.replicate (xs.length-xs.length) d94) (xs.length:Int)=_;unfold x8;rw[aA rfl,af7,af6,afp];try rfl)
 rw[kK]at h;have h':RJ xs (List.replicate xs.length d94) 0=_:=h;rw[h'];try rfl
theorem QK(xs:List iI)(h:wL cY xs<=1099511627776):g39 xs xs=zR true:=by
 have hb:=bb;have hw:wL cY xs=xs.length+cL cY xs:=rfl;unfold g39;rw[bX];have h:=aL (step:=fun(x:(List iI)×(List iI)×Int×Unit)=>v8 x.1 x.2.1 x.2.2.1) xs (fun i (_:Unit)=>(xs,xs,((i:Nat):Int),())) (fun _ x _=>Sum.inl ()) (fun _=> .inl (xs,xs,(xs.length:Int),())) (a0:=()) (fun i x a hx=>by
  have hlt:=ai hx;have hcm:=lW cY hx;show v8 xs xs (i:Int)=_;unfold v8;rw[aI hx,az hx,aH _ hx,WG x (by omega),aS (by omega)];try rfl) (fun a=>by
  show v8 xs xs (xs.length:Int)=_;unfold v8;rw[aA rfl];try rfl)
 rw[bH (fun _ a=>a)]at h;have h':Sa xs xs 0=_:=h;rw[h'];try rfl
def pA(x:((List jW)×Unit)):Nat:=wL cY x.1
def Ey(x:((List jW)×Unit)):Prop:=(x.1.length<=bG/\∀ y∈x.1,xl y)
def N3(x:((List jW)×Unit)):Prop:=(∀ y∈x.1,L4 y)
theorem V6(x:((List jW)×Unit))(left:Int)(h0:0<=left)(h1:left<=1048576)(hb:Ey x):g7 x left=zR (Gn left (pA x)):=by
 have hw:pA x=wL cY x.1:=rfl;unfold g7
 try dsimp only
 by_cases q0:((wL cY x.1:Nat):Int)<=left;rotate_left
 . rw[Gr x.1 left (by omega) (by omega) (hb),bt q0,bt (by omega)];try rfl
 rw[Gr x.1 left (by omega) (by omega) (hb),cu q0]; dsimp only[oB]; rw[aJ (by omega)]; dsimp only[oF];rw[cu (by omega)];have e:(left-((wL cY x.1:Nat):Int))=left-((pA x:Nat):Int):=by omega
 rw[e]
theorem UN(x:((List jW)×Unit))(h:pA x<=1048576):g10 x=some ((),(x,())):=by have hw:pA x=wL cY x.1:=rfl;unfold g10;rw[Pl x.1 (by omega)];try rfl
theorem UE(x:((List jW)×Unit))(h:pA x<=1099511627776):g13 x x=zR true:=by have hw:pA x=wL cY x.1:=rfl;unfold g13;simp only[bX,jN,oN,oF,oB,beq_self_eq_true,QK x.1 (by omega)]
def dt(x:vL):Nat:=x.2.1.length+x.2.2.1.length
def xa(x:vL):Prop:=x.2.1.length<=bG/\x.2.2.1.length<=bG
def Fk(x:vL):Prop:=(∀ y∈x.2.1,nB .u8 y.1)/\(∀ y∈x.2.2.1,nB .u8 y.1)
theorem Ul(x:vL)(left:Int)(h0:0<=left)(h1:left<=1048576)(hb:xa x):g35 x left=zR (Gn left (dt x)):=by
 have hw:dt x=x.2.1.length+x.2.2.1.length:=rfl;unfold g35
 try dsimp only
 by_cases q0:((x.2.1.length:Nat):Int)<=left;rotate_left
 . rw[oX x.2.1 left (by omega) (by omega) (hb.1),bt q0,bt (by omega)];try rfl
 rw[oX x.2.1 left (by omega) (by omega) (hb.1),cu q0]; dsimp only[oB]; rw[aJ (by omega)]; dsimp only[oF];by_cases q1:((x.2.2.1.length:Nat):Int)<=(left-((x.2.1.length:Nat):Int));rotate_left
 . rw[oX x.2.2.1 (left-((x.2.1.length:Nat):Int)) (by omega) (by omega) (hb.2),bt q1,bt (by omega)];try rfl
 rw[oX x.2.2.1 (left-((x.2.1.length:Nat):Int)) (by omega) (by omega) (hb.2),cu q1]; dsimp only[oB]; rw[aJ (by omega)]; dsimp only[oF];rw[cu (by omega)];have e:((left-((x.2.1.length:Nat):Int))-((x.2.2.1.length:Nat):Int))=left-((dt x:Nat):Int):=by omega
 rw[e]
theorem Vq(x:vL)(h:dt x<=1048576):g37 x=some ((),(x,())):=by have hw:dt x=x.2.1.length+x.2.2.1.length:=rfl;unfold g37;rw[Ax x.2.1 (by omega)];rw[Ax x.2.2.1 (by omega)];try rfl
theorem Vp(x:vL)(h:dt x<=1099511627776):g40 x x=zR true:=by have hw:dt x=x.2.1.length+x.2.2.1.length:=rfl;unfold g40;simp only[bX,jN,oN,oF,oB,beq_self_eq_true,Ap x.2.1 (by omega),Ap x.2.2.1 (by omega)]
theorem AW(xs:List vL)(hb:xs.length<=bG/\∀ y∈xs,xa y)(a:Int)(h0:0<=a)(h1:a<=1048576):abd xs a 0=some (if ((cL dt xs:Nat):Int)<=a then .inl (xs,a-(cL dt xs:Nat),(xs.length:Int),())else .inr (-1,())):=by
 have h:=aY (step:=fun(x:(List vL)×Int×Int×Unit)=>F2 x.1 x.2.1 x.2.2.1) xs (fun i (a:Int)=>(xs,a,((i:Nat):Int),())) (fun _ x (a:Int)=>bif decide ((dt x:Int)<=a)then Sum.inl (a-dt x)else .inr (.inr (-1,())))
  (fun a=> .inl (xs,a,(xs.length:Int),())) (fun _ a=>0<=a/\a<=1048576) (a0:=a) ⟨h0,h1⟩ (fun i x a hx ha=>by
    have hmem:=aet hx;have hlt:=ai hx;show F2 xs a (i:Int)=_;unfold F2;rw[aI hx,az hx,aH _ hx,Ul x a ha.1 ha.2 (hb.2 x hmem),aS (by omega)];dsimp only[oT,oB];by_cases q:((dt x:Nat):Int)<=a
    . rw[cu q,aJ (by omega),aes q];try rfl
    . rw[bt q,aeL q];try rfl) (fun i x a a' hx ha hf=>by
    by_cases q:((dt x:Nat):Int)<=a
    . rw[aes q]at hf;simp only[oT,aeO]at hf;omega
    . rw[aeL q]at hf;simp at hf) (fun a ha=>by
    show F2 xs a (xs.length:Int)=_;unfold F2;rw[aA rfl];try rfl)
 rw[wy _ _ _ _ _ _ h0]at h;refine ag9 h ?_;split <;> rfl
theorem Qn(xs:List vL)(left:Int)(h0:0<=left)(h1:left<=1048576)(hb:xs.length<=bG/\∀ y∈xs,xa y):g8 xs left=zR (Gn left (wL dt xs)):=by
 have hw:wL dt xs=xs.length+cL dt xs:=rfl;unfold g8;dsimp only;rw[eZ (s:=xs) (left:=left) (by omega) (by omega) hb.1];by_cases q:((xs.length:Nat):Int)<=left
 . rw[aJ (by omega)];dsimp only[oF];rw[AW xs hb _ (by omega) (by omega)];by_cases q2:((cL dt xs:Nat):Int)<=left-(xs.length:Int)
   . rw[if_pos q2,cu (by omega)];dsimp only[oB,oL];have e:left-(xs.length:Int)-(cL dt xs:Nat)=left-((wL dt xs:Nat):Int):=by omega
     rw[e]
   . rw[if_neg q2,bt (by omega)];try rfl
 . rw[aO (by omega),bt (by omega)];try rfl
theorem Rr(xs:List vL)(h:wL dt xs<=1048576):g11 xs=zR xs:=by
 have hb:=bb;have hw:wL dt xs=xs.length+cL dt xs:=rfl;unfold g11;dsimp only;rw[qZ (by decide) (by omega),lj]
 have h:=aY (step:=fun(x:(List vL)×(List vn)×Int×Unit)=>wB x.1 x.2.1 x.2.2.1) xs (fun i (a:List vL)=>(xs,a++List.replicate (xs.length-i) d62,((i:Nat):Int),())) (fun _ x (a:List vL)=>Sum.inl (a++[x]))
  (fun a=> .inl (xs,a,(xs.length:Int),())) (fun i a=>a.length=i) (a0:=[]) rfl (fun i x a hx ha=>by
    have hlt:=ai hx;have hcm:=lW dt hx;show wB xs (a++List.replicate (xs.length-i) d62) (i:Int)=_;unfold wB;obtain⟨q,hq⟩:∃ q,xs.length-i=q+1:=⟨xs.length-i-1,by omega⟩;have hq':xs.length-(i+1)=q:=by omega
    rw[hq,af5,aI hx,az hx,aH _ hx,Vq x (by omega)];dsimp only[oT,oB];simp only[jb ha,tw _ ha,gw ha,aS (show i<=bG by omega),hq',oT,aeV,agp]) (fun i x a a' hx ha hf=>by
    simp only[aeO]at hf;rw[<- hf,aep,ha];try rfl) (fun a ha=>by
    show wB xs (a++List.replicate (xs.length-xs.length) d62) (xs.length:Int)=_;unfold wB;rw[aA rfl,af7,af6,afp];try rfl)
 rw[kK]at h;have h':SR xs (List.replicate xs.length d62) 0=_:=h;rw[h'];try rfl
theorem OT(xs:List vn)(h:wL dt xs<=1099511627776):g14 xs xs=zR true:=by
 have hb:=bb;have hw:wL dt xs=xs.length+cL dt xs:=rfl;unfold g14;rw[bX];have h:=aL (step:=fun(x:(List vn)×(List vn)×Int×Unit)=>xd x.1 x.2.1 x.2.2.1) xs (fun i (_:Unit)=>(xs,xs,((i:Nat):Int),())) (fun _ x _=>Sum.inl ()) (fun _=> .inl (xs,xs,(xs.length:Int),())) (a0:=()) (fun i x a hx=>by
  have hlt:=ai hx;have hcm:=lW dt hx;show xd xs xs (i:Int)=_;unfold xd;rw[aI hx,az hx,aH _ hx,Vp x (by omega),aS (by omega)];try rfl) (fun a=>by
  show xd xs xs (xs.length:Int)=_;unfold xd;rw[aA rfl];try rfl)
 rw[bH (fun _ a=>a)]at h;have h':Sx xs xs 0=_:=h;rw[h'];try rfl
end Go.Av
