/- FnExactRunSwept, a part. -/
import Derived.Test.YtcmhjdkpbgncfaaGreatDoorP2
import Derived.Test.YtcmhjdkpbgncfaaGreatDoorP3
set_option maxRecDepth 100000
set_option maxHeartbeats 4000000
namespace Go.Av
theorem Qi{a:ax}(h:aI a<=1048576):bK a:=by
 have hw:aI a=a.1.length+wL aZ a.2.2.2.2.2.1+dD (dt a)+wL bz a.2.2.2.2.2.2.2.2.2.2.1:=rfl;have hr:dD (dt a)=a.2.2.2.2.2.2.2.2.1.length+a.2.2.2.2.2.2.2.2.2.1.length:=rfl;have h1:=oh aZ a.2.2.2.2.2.1;have h2:=oh bz a.2.2.2.2.2.2.2.2.2.2.1;refine⟨by omega,⟨by omega,fun y hy=>?_⟩,⟨?_,?_⟩,by omega,fun y hy=>?_⟩
 . have:=om aZ hy;have e:aZ y=y.1.length:=rfl;omega
 . show a.2.2.2.2.2.2.2.2.1.length<=_;omega
 . show a.2.2.2.2.2.2.2.2.2.1.length<=_;omega
 . have:=om bz hy;have e:bz y=y.1.length+y.2.1.length+y.2.2.1.length:=rfl;omega
theorem na(a:ax)(now:Int):aI (aC a now)<=aI a:=by
 unfold aC;have hw:aI a=a.1.length+wL aZ a.2.2.2.2.2.1+dD (dt a)+wL bz a.2.2.2.2.2.2.2.2.2.2.1:=rfl;cases bp a with
 | false=>exact oR _
 | true=>
   cases bh now with
   | false=>exact oR _
   | true=>have:=rC aZ (gD now) a.2.2.2.2.2.1;show a.1.length+wL aZ (a.2.2.2.2.2.1.filter (gD now))+dD (dt a)+wL bz a.2.2.2.2.2.2.2.2.2.2.1<=_;omega
theorem ZZ(xs:List aP)(h:aP):wL aZ (eW xs h).1<=wL aZ xs+1+h.1.length:=by
 have h0:wL aZ ([]:List aP)=0:=rfl;unfold eW;cases di xs with
 | false=>simp only[oF];omega
 | true=>
   cases di (jW xs h)with
   | false=>simp only[oT,oF];omega
   | true=>
     simp only[oT];have e1:cL aZ (jW xs h)=cL aZ (xs.takeWhile (nw h))+(aZ h+cL aZ ((xs.dropWhile (nw h)).filter (cj h.1))):=by unfold jW cL;simp only[ao5,ao6,amS,anC]
     have e2:=wi aZ (cj h.1) (xs.dropWhile (nw h));have e3:cL aZ xs=cL aZ (xs.takeWhile (nw h))+cL aZ (xs.dropWhile (nw h)):=by
      have:xs=xs.takeWhile (nw h)++xs.dropWhile (nw h):=ao0.symm
      conv=>lhs;rw[this]
      simp only[cL,ao5,ao6]
     have e4:=Lw xs h;have e5:aZ h=h.1.length:=rfl;show(jW xs h).length+cL aZ (jW xs h)<=(xs.length+cL aZ xs)+1+h.1.length;omega
theorem ac2(a:ax)(id:S8)(bJ nA now:Int):aI (lP a id bJ nA now).1<=aI a+1+id.length:=by
 have h0:aI aK<=aI a:=amp (aol rfl) (amv _);have hs:=na a now;unfold lP;generalize aC a now=s at hs ⊢;cases cond (bp a) (cond (bh now) (bm id) false) false with
 | false=>simp only[oF];omega
 | true=>
 cases de bJ 1 9007199254740992 with
 | false=>simp only[oT,oF];omega
 | true=>
 cases(cond (!de nA 1 9999) true (aE 1000000000 (ak .i64 now nA)))with
 | true=>simp only[oT,oF];omega
 | false=>
 cases cl 0 (az s.2.2.2.2.2.1 id)with
 | true=>simp only[oT,oF];omega
 | false=>
 cases aj (ae s.2.2.2.2.2.1) 4 with
 | true=>simp only[oT,oF];omega
 | false=>
 cases aj (ik s bJ now) 0 with
 | false=>simp only[oT,oF];omega
 | true=>simp only[oT,oF];have hw:aI s=s.1.length+wL aZ s.2.2.2.2.2.1+dD (dt s)+wL bz s.2.2.2.2.2.2.2.2.2.2.1:=rfl;have hl:=qM (dt s) now bJ;have e1:=ZZ s.2.2.2.2.2.1 (id,bJ,ak .i64 now nA,());have e2:dD (dt s)=(dt s).2.2.1.length+(dt s).2.2.2.1.length:=rfl;show s.1.length+wL aZ (eW s.2.2.2.2.2.1 (id,bJ,ak .i64 now nA,())).1+((dv (dt s) now bJ).2.2.1.length+(dv (dt s) now bJ).2.2.2.1.length)+wL bz s.2.2.2.2.2.2.2.2.2.2.1<=_;simp only at e1;omega
theorem ac9(a:ax)(id:S8)(bJ now:Int):aI (lM a id bJ now).1<=aI a:=by
 have h0:aI aK<=aI a:=amp (aol rfl) (amv _);have hs:=na a now;unfold lM;cases cond (bp a) (cond (bh now) (bm id) false) false with
 | false=>exact h0
 | true=>
   cases de bJ 1 9007199254740992 with
   | false=>exact h0
   | true=>
     generalize aC a now=s at hs ⊢;by_cases ln:az s.2.2.2.2.2.1 id<0
     . rw[aR ln];exact h0
     . rw[aF ln];cases aj (ik s bJ now) 0 with
       | false=>exact h0
       | true=>have hw:aI s=s.1.length+wL aZ s.2.2.2.2.2.1+dD (dt s)+wL bz s.2.2.2.2.2.2.2.2.2.2.1:=rfl;have hl:=qM (dt s) now bJ;have e1:=Sz aZ (xs:=s.2.2.2.2.2.1) (k:=az s.2.2.2.2.2.1 id) (y:=((gt ([],0,0,()) s.2.2.2.2.2.1 (az s.2.2.2.2.2.1 id)).1,ak .i64 (gt ([],0,0,()) s.2.2.2.2.2.1 (az s.2.2.2.2.2.1 id)).2.1 bJ,(gt ([],0,0,()) s.2.2.2.2.2.1 (az s.2.2.2.2.2.1 id)).2.2.1,())) ([],0,0,()) (jP ln) rfl;have e2:dD (dt s)=(dt s).2.2.1.length+(dt s).2.2.2.1.length:=rfl;show s.1.length+wL aZ (cZ s.2.2.2.2.2.1 (az s.2.2.2.2.2.1 id) _)+((dv (dt s) now bJ).2.2.1.length+(dv (dt s) now bJ).2.2.2.1.length)+wL bz s.2.2.2.2.2.2.2.2.2.2.1<=_;rw[e1];omega
theorem Hi(a:ax)(l:List aP){n:Nat}(h:wL aZ l<=wL aZ a.2.2.2.2.2.1+n):aI (JK a l)<=aI a+n:=by have hw:aI a=a.1.length+wL aZ a.2.2.2.2.2.1+dD (dt a)+wL bz a.2.2.2.2.2.2.2.2.2.2.1:=rfl;show a.1.length+wL aZ l+dD (dt a)+wL bz a.2.2.2.2.2.2.2.2.2.2.1<=_;omega
theorem acG(a b:ax)(id:S8)(now:Int)(hb:bK a):aI (gu a b id now).1<=aI a/\aI (gu a b id now).2.1<=aI b+1+1048576:=by
 have h0:aI aK=0:=rfl;have hs:=na a now;have ht:=na b now;have eD:=dR now hb;unfold gu;generalize aC a now=s at hs eD ⊢;generalize aC b now=t at ht ⊢;cases cond (bp a) (cond (bh now) (bm id) false) false with
 | false=>simp only[oF];omega
 | true=>
 cases bp b with
 | false=>simp only[oT,oF];omega
 | true=>
 cases bF a.1 b.1 with
 | true=>simp only[oT,oF];omega
 | false=>
 cases aE (az s.2.2.2.2.2.1 id) 0 with
 | true=>simp only[oT,oF];omega
 | false=>
 cases cl 0 (az t.2.2.2.2.2.1 id)with
 | true=>simp only[oT,oF];omega
 | false=>
 cases aj (ae t.2.2.2.2.2.1) 4 with
 | true=>simp only[oT,oF];omega
 | false=>
 cases aE (hY t now) (gt pZ s.2.2.2.2.2.1 (az s.2.2.2.2.2.1 id)).2.1 with
 | true=>simp only[oT,oF];omega
 | false=>simp only[oT,oF];have hg:=Hz (k:=az s.2.2.2.2.2.1 id) eD.2.1.2;have e1:=ZZ t.2.2.2.2.2.1 (gt pZ s.2.2.2.2.2.1 (az s.2.2.2.2.2.1 id));have w1:=Hi s (s.2.2.2.2.2.1.filter (cj id)) (n:=0) (rC aZ (cj id) s.2.2.2.2.2.1);have w2:=Hi t (eW t.2.2.2.2.2.1 (gt pZ s.2.2.2.2.2.1 (az s.2.2.2.2.2.1 id))).1 (n:=1+1048576) (by omega);omega
theorem ER(a:ax)(p:Int)(l:List aP)(h:wL aZ l<=wL aZ a.2.2.2.2.2.1):aI (LX a p l)<=aI a:=by have hw:aI a=a.1.length+wL aZ a.2.2.2.2.2.1+dD (dt a)+wL bz a.2.2.2.2.2.2.2.2.2.2.1:=rfl;show a.1.length+wL aZ l+dD (dt a)+wL bz a.2.2.2.2.2.2.2.2.2.2.1<=_;omega
theorem ahB(a:ax)(id:S8)(bJ:Int)(last:Bool)(now:Int):aI (pq a id bJ last now).1<=aI a:=by
 have h0:aI aK<=aI a:=amp (aol rfl) (amv _);have hs:=na a now;unfold pq;generalize aC a now=s at hs ⊢;have hf:=ER s (ak .i64 s.2.2.1 bJ) _ (rC aZ (cj id) s.2.2.2.2.2.1);cases cond (bp a) (cond (bh now) (bm id) false) false <;> first | exact h0 | skip
 cases de bJ 1 9007199254740992 <;> first | exact h0 | skip
 by_cases ln:az s.2.2.2.2.2.1 id<0
 . rw[aR ln];exact h0
 rw[aF ln];have e1:=fun v=>Sz aZ (xs:=s.2.2.2.2.2.1) (k:=az s.2.2.2.2.2.1 id) (y:=((gt pZ s.2.2.2.2.2.1 (az s.2.2.2.2.2.1 id)).1,v,(gt pZ s.2.2.2.2.2.1 (az s.2.2.2.2.2.1 id)).2.2.1,())) pZ (jP ln) rfl
 cases aE (gt pZ s.2.2.2.2.2.1 (az s.2.2.2.2.2.1 id)).2.1 bJ <;> first | exact h0 | skip
 dsimp only[oT,oF];cases(cond last true (aj bJ (gt pZ s.2.2.2.2.2.1 (az s.2.2.2.2.2.1 id)).2.1))
 . exact amp (ER s _ _ (aol (e1 _))) hs
 . exact amp hf hs
theorem aa9(a:ax)(id:S8)(now:Int):aI (lO a id now).1<=aI a:=by
 have h0:aI aK<=aI a:=amp (aol rfl) (amv _);have hs:=na a now;unfold lO;generalize aC a now=s at hs ⊢;have hf:=ER s s.2.2.1 _ (rC aZ (cj id) s.2.2.2.2.2.1);cases cond (bp a) (cond (bh now) (bm id) false) false <;> first | exact h0 | skip
 cases aE (az s.2.2.2.2.2.1 id) 0 <;> first | exact h0 | skip
 exact amp hf hs
theorem Wr(a:ax)(now:Int):aI (iT a now).1<=aI a:=by
 have h0:aI aK<=aI a:=amp (aol rfl) (amv _);have hs:=na a now;unfold iT;cases bp a <;> first | exact h0 | skip
 cases bh now <;> first | exact h0 | exact hs
theorem afc(a b:ax)(q:fx)(now:Int)(hb:bK a)(hi:q.2.2.2.1.length<=1048576):aI (mQ a b q now).1<=aI a+1048577/\aI (mQ a b q now).2.1<=aI b+1048577:=by
 have w1:=ac2 a q.2.2.2.1 q.2.2.2.2.2.2.1 q.2.2.2.2.2.2.2.1 now;have w2:=ac9 a q.2.2.2.1 q.2.2.2.2.2.2.1 now;have w3:=fun l=>ahB a q.2.2.2.1 q.2.2.2.2.2.2.1 l now
 have w4:=aa9 a q.2.2.2.1 now;have w5:=acG a b q.2.2.2.1 now hb;have w6:=Wr a now;unfold mQ;cases aj q.1 1 with
 | true=>simp only[oT];omega
 | false=>
 cases aj q.1 2 with
 | true=>simp only[oT,oF];omega
 | false=>
 cases aj q.1 3 with
 | true=>have:=w3 (aj q.1 4);simp only[oT,oF];omega
 | false=>
 cases aj q.1 4 with
 | true=>have:=w3 true;simp only[oT,oF];omega
 | false=>
 cases aj q.1 5 with
 | true=>simp only[oT,oF];omega
 | false=>
 cases aj q.1 6 with
 | true=>simp only[oT,oF];omega
 | false=>cases aj q.1 7 <;> simp only[oT,oF] <;> omega
theorem LQ(w:ax->Nat)(y:ax):∀(xs:List ax) (i:Nat),((xs.set i y).map w).sum<=(xs.map w).sum+w y
 | [],i=>by simp
 | x::r,0=>by simp only[List.set_cons_zero,amS,anC];omega
 | x::r,i+1=>by have:=LQ w y r i;simp only[apb,amS,anC];omega
theorem KN(xs:List ax)(k:Int)(y:ax):wL aI (cZ xs k y)<=wL aI xs+aI y:=by have:=LQ aI y xs k.toNat;show(xs.set k.toNat y).length+((xs.set k.toNat y).map aI).sum<=xs.length+(xs.map aI).sum+aI y;rw[ans];omega
theorem abT(xs:List ax)(k:Int):aI (gt aK xs k)<=wL aI xs:=by
 have h0:aI aK=0:=rfl;show aI (xs.getD k.toNat aK)<=_;cases h:xs[k.toNat]? with
 | none=>simp only[List.getD,h,Option.getD_none];omega
 | some y=>simp only[List.getD,h,anF];exact om aI (amo h)
theorem aeO{xs:List ax}(hb:dE xs)(k:Int):bK (gt aK xs k):=by
 show bK (xs.getD k.toNat aK);cases h:xs[k.toNat]? with
 | none=>simp only[List.getD,h,Option.getD_none];exact ff
 | some y=>simp only[List.getD,h,anF];exact hb.2 y (amo h)
theorem adt(b:List ax)(q:fx)(now:Int)(hb:dE b)(hi:q.2.2.2.1.length<=1048576):wL aI (dm b q now).1<=3 * wL aI b+2097154:=by
 have h0:wL aI ([]:List ax)=0:=rfl;unfold dm;cases jh b with
 | false=>simp only[oF];omega
 | true=>
 cases kZ q with
 | false=>simp only[oT,oF];omega
 | true=>
 cases bh now with
 | false=>simp only[oT,oF];omega
 | true=>
 simp only[oT];have g1:=abT b (ar b q.2.1);have g2:=abT b (ar b q.2.2.1);cases aj q.1 6 with
 | true=>
   simp only[oT];have ho:=afc (gt aK b (ar b q.2.1)) (gt aK b (ar b q.2.2.1)) q now (aeO hb _) hi;generalize mQ (gt aK b (ar b q.2.1)) (gt aK b (ar b q.2.2.1)) q now=r at ho ⊢;cases(cond (aE (ar b q.2.1) 0) true (aE (ar b q.2.2.1) 0))with
   | true=>simp only[oT];omega
   | false=>
   simp only[oF];cases aj r.2.2.1 0 with
   | false=>simp only[oF];omega
   | true=>simp only[oT];have s1:=KN b (ar b q.2.2.1) r.2.1;have s2:=KN (cZ b (ar b q.2.2.1) r.2.1) (ar b q.2.1) r.1;omega
 | false=>
   simp only[oF];have ho:=afc (gt aK b (ar b q.2.1)) (gt aK b (ar b q.2.1)) q now (aeO hb _) hi;generalize mQ (gt aK b (ar b q.2.1)) (gt aK b (ar b q.2.1)) q now=r at ho ⊢;cases aE (ar b q.2.1) 0 with
   | true=>simp only[oT];omega
   | false=>
   simp only[oF];cases aj r.2.2.1 0 with
   | false=>simp only[oF];omega
   | true=>simp only[oT];have s2:=KN b (ar b q.2.1) r.1;omega
theorem VQ(a:ax)(l:List dk):aI (Ku a l)<=aI a+wL bz l:=by have hw:aI a=a.1.length+wL aZ a.2.2.2.2.2.1+dD (dt a)+wL bz a.2.2.2.2.2.2.2.2.2.2.1:=rfl;show a.1.length+wL aZ a.2.2.2.2.2.1+dD (dt a)+wL bz l<=_;omega
theorem VN(a:ax):wL bz (slotsOf a)<=aI a:=by have hw:aI a=a.1.length+wL aZ a.2.2.2.2.2.1+dD (dt a)+wL bz a.2.2.2.2.2.2.2.2.2.2.1:=rfl;show wL bz a.2.2.2.2.2.2.2.2.2.2.1<=_;omega
theorem X7(b:List ax)(m:bw)(q:fx)(now:Int)(hb:dE b)(hq:E2 q):wL aI (ui b m q now).1<=9 * wL aI b+9000000/\(ui b m q now).2.length<=180:=by
 have hd:wL aI (bN b q now)<=3 * wL aI b+2097154:=by
  unfold bN;cases aj (dm b q now).2.1 0 with
  | true=>exact adt b q now hb hq.2.2.1
  | false=>show wL aI b<=_;omega
 have hr:=KB m (dm b q now).2.1 q.2.2.2.1 (dm b q now).2.2;have hg:=abT (bN b q now) (ar b q.2.1);have hs:=VN (gt aK (bN b q now) (ar b q.2.1));refine⟨?_,hr⟩;have h1:=KN (bN b q now) (ar b q.2.1) (Ku (gt aK (bN b q now) (ar b q.2.1)) (slotsOf (gt aK (bN b q now) (ar b q.2.1))++[e8 b m q now]));have h2:=VQ (gt aK (bN b q now) (ar b q.2.1)) (slotsOf (gt aK (bN b q now) (ar b q.2.1))++[e8 b m q now]);have h3:wL bz (slotsOf (gt aK (bN b q now) (ar b q.2.1))++[e8 b m q now])=wL bz (slotsOf (gt aK (bN b q now) (ar b q.2.1)))+1+bz (e8 b m q now):=by unfold wL;rw[amj,ao5,ao6,anY];show _+1+(_+(bz (e8 b m q now)+0))=_;omega
 have h4:bz (e8 b m q now)=q.2.2.2.2.1.length+q.2.2.2.2.2.1.length+(uo m (dm b q now).2.1 q.2.2.2.1 (dm b q now).2.2).length:=rfl;have q1:=hq.2.2.2.1;have q2:=hq.2.2.2.2;show wL aI (cZ (bN b q now) (ar b q.2.1) (Ku (gt aK (bN b q now) (ar b q.2.1)) (slotsOf (gt aK (bN b q now) (ar b q.2.1))++[e8 b m q now])))<=_;omega
theorem K2{α:Type}{w:α->Nat}{n c:Nat}{xs:List α}(h:xs.length<=n)(hc:∀ y∈xs,w y<=c):wL w xs<=n+n * c:=by
 have:∀ xs:List α,(∀ y∈xs,w y<=c)->(xs.map w).sum<=xs.length * c:=by
  intro xs;induction xs with
  | nil=>intro _;exact amv _
  | cons x r ih=>
    intro h;have h1:=h x (ams.2 (.inl rfl));have h2:=ih fun y hy=>h y (amy _ hy)
    rw[amS,anC,amw,amV,aoI];omega
 have h1:=this xs hc;have h2:xs.length * c<=n * c:=amL c h;unfold wL;omega
theorem Qv{α:Type}{w:α->Nat}{f:α->α}(h:∀ x,w (f x)<=w x):∀ xs:List α,wL w (xs.map f)<=wL w xs
 | []=>oR _
 | x::r=>by have h1:=h x;have h2:=Qv h r;unfold wL at h2 ⊢;simp only[amS,anC,amw]at h2 ⊢;omega
theorem IB{a:ax}(h:bp a=true):aI a<=1400:=by
 have hw:aI a=a.1.length+wL aZ a.2.2.2.2.2.1+dD (dt a)+wL bz a.2.2.2.2.2.2.2.2.2.2.1:=rfl;have hr:dD (dt a)=a.2.2.2.2.2.2.2.2.1.length+a.2.2.2.2.2.2.2.2.2.1.length:=rfl;unfold bp ft di gU eG at h;simp only[anM,ami]at h;obtain⟨h1,_,_,_,_,h6,h7,h8,_⟩:=h;have h1:ae a.1<=19:=anf h1.1;unfold ae at h1;have hh:wL aZ a.2.2.2.2.2.1<=4+4 * 6:=by
  have h4:ae a.2.2.2.2.2.1<=4:=anf h6.2;unfold ae at h4;refine K2 (by omega) fun y hy=>?_
  obtain⟨i,hi⟩:=anL.1 hy;have:=gH _ h6.1 hi;unfold fC mH bm at this;simp only[anM,ami]at this;have h3:=bB.1 this.1.1.2;unfold ae at h3;show y.1.length<=6;omega
 have h3:1<=ae a.2.2.2.2.2.2.2.2.1/\ae a.2.2.2.2.2.2.2.2.1<=8:=bB.1 h7.2.1;have h4:ae a.2.2.2.2.2.2.2.2.2.1=ae a.2.2.2.2.2.2.2.2.1:=bt.1 h7.2.2.1;unfold ae at h3 h4;have hs:wL bz a.2.2.2.2.2.2.2.2.2.2.1<=6+6 * 210:=by
  have h4:ae a.2.2.2.2.2.2.2.2.2.2.1<=6:=anf h8.2;unfold ae at h4;refine K2 (by omega) fun y hy=>?_
  obtain⟨i,hi⟩:=anL.1 hy;have:=gH _ h8.1 hi;unfold dq ll at this;simp only[anM,ami]at this;obtain⟨⟨⟨_,e1⟩,⟨_,e2⟩,e3⟩,_⟩:=this;have e1:=bt.1 e1;have e2:=bt.1 e2;have e3:=bB.1 e3;unfold ae at e1 e2 e3;show y.1.length+y.2.1.length+y.2.2.1.length<=210;omega
 omega
theorem JO{b:List ax}(h:jh b=true):wL aI b<=6+6 * 1400:=by
 have h6:ae b<=6:=by unfold jh at h;simp only[anM,ami]at h;exact anf h.2
 unfold ae at h6;refine K2 (by omega) fun y hy=>?_
 obtain⟨i,hi⟩:=anL.1 hy;exact IB (sK h hi)
theorem K0{b:List ax}(x:aJ)(now:Int)(hb:dE b)(hw:wL aI b<=9100000):wL aI (iI b x now).1<=9100000/\(iI b x now).2.length<=200:=by
 rcases HB b x now with ⟨h,h2⟩ | ⟨m,q,h1,h2,h3,h4⟩
 . rw[h];exact⟨hw,h2⟩
 . have:=X7 b m q now hb h2;have hs:=JO h1;rw[h4];omega
theorem Xc(s:List gA)(i:Nat)(e:qu){b:List ax}(hb:dE b)(hw:wL aI b<=9100000):wL aI (pO s i e b).1<=9100000/\(pO s i e b).2.length<=200:=by
 unfold pO;cases SR s i with
 | false=>exact K0 _ _ hb hw
 | true=>exact K0 _ _ (vF _ hb) (amp (Qv (fun a=>na a e.1) b) hw)
theorem adB(s:List gA)(l:List qu)(b:List ax)(hb:dE b)(hw:wL aI b<=9100000):dE (runM s l b).1/\wL aI (runM s l b).1<=9100000/\(runM s l b).2.length=l.length/\∀ r∈(runM s l b).2,r.1.length<=200:=by
 have:=CO (Nv s) (fun i a=>dE a.1/\wL aI a.1<=9100000/\a.2.length=i/\∀ r∈a.2,r.1.length<=200) l 0 (b,[]) ⟨hb,hw,rfl,fun r hr=>by simp at hr⟩ fun j e a _ h=>by
  have h2:=Xc s (0+j) e h.1 h.2.1;refine⟨DH s _ e h.1,h2.1,?_,fun r hr=>?_⟩
  . show(a.2++[((pO s (0+j) e a.1).2,())]).length=_;rw[amj,h.2.2.1];try rfl
  . rcases anE.1 hr with hr | hr
    . exact h.2.2.2 r hr
    . rw[aom.1 hr];exact h2.2
 rw[amt]at this;exact this
theorem XV{l:List qu}(h:wL dn l<=1048576)(hy:∀ e∈l,IN e):S3 l:=by have h1:=oh dn l;refine⟨by omega,fun e he=>⟨?_,fun z hz=>(hy e he).1 z hz⟩⟩;have h2:=om dn he;have h3:dn e=e.2.1.length+e.2.2.1.length:=rfl;omega
theorem EA(x:List ax×Unit)(l:List qu)(s:List gA)(hb:IX x)(hl:l.length<=bQ/\∀ y∈l,Bz y)(hs0:s.length<=bQ)(hy:P4 x)(hyd:∀ y∈l,IN y):g6 x l s=zR true:=by
 have bo:=bl;obtain⟨b,u⟩:=x;unfold g6;by_cases E8:s.length<=1048576;rotate_left
 . rw[aR (by unfold ae;omega)];try rfl
 rw[aF (by unfold ae;omega)];dsimp only[oF];rw[abY (b,()) 1048576 (by decide) (by decide) hb];dsimp only[oF,oB];by_cases hw:((lf (b,()):Nat):Int)<=1048576;rotate_left
 . rw[bL hw];try rfl
 rw[cV hw,aF (by omega)];dsimp only[oF];rw[Xg l _ (by omega) (by omega) hl];dsimp only[oB];by_cases Pl:((wL dn l:Nat):Int)<=1048576-((lf (b,()):Nat):Int);rotate_left
 . rw[bL Pl];try rfl
 rw[cV Pl,aF (by omega)];dsimp only[oF];have Ml:lf (b,())<=1048576:=by omega
 have Mk:wL dn l<=1048576:=by omega
 have hw2:wL aI b<=1048576:=Ml;have hln:=oh aI b;have Dq:dE b:=⟨by omega,fun a ha=>Qi (amp (om aI ha) hw2)⟩;have hdB:=XV Mk hyd;have hs:=Wq b l s Dq hdB E8;have hm:=WE b l s Dq hdB E8;have hww:=adB s l b Dq (by omega);generalize (runM s l b).1=M at hs hm hww;generalize (runM s l b).2=r at hs hm hww;have hMw:lf (M,())<=9100000:=hww.2.1;have hrl:=hww.2.2.1;have hll:=oh dn l;have hrw:wL gM r<=1048576+1048576 * 200:=K2 (by omega) hww.2.2.2;have c1:=Gr (M,());have c2:=Gr (b,());have c3:=Dn JS r;have c4:=Dn MK l;have m1:=FV (b,()) 1 (by decide) (by omega) (by omega);have m2:=Ow l (1+((kV (b,()):Nat):Int)) (by omega) (by omega) (by omega);have m7:=Bb s (1+((kV (b,()):Nat):Int)+((cL j7 l:Nat):Int)) (by omega) (by rw[mJ];omega);have m3:=FV (M,()) 1 (by decide) (by omega) (by omega);have m4:=I6 r (1+((kV (M,()):Nat):Int)) (by omega) (by omega) (by omega);have m5:=Sp (M,()) 1 (by decide) (by omega) (by omega);have m6:=JR r (1+((kV (M,()):Nat):Int)) (by omega) (by omega) (by omega);have e1:=P2 (M,()) (by omega);have e2:=P2 (b,()) (by omega);have e3:=Xi l (by omega);have e5:=IT s (by omega);have e4:=QS r (by omega);have n1:aE (1+((kV (b,()):Nat):Int)+((cL j7 l:Nat):Int)+((cL (fun _=>1) s:Nat):Int)) 0=false:=aF (by omega);have n2:aE (1+((kV (M,()):Nat):Int)) 0=false:=aF (by omega);have n3:aE (1+((kV (M,()):Nat):Int)+((cL cM r:Nat):Int)) 0=false:=aF (by omega);simp only[oF,oT,oB,abU (b,()) Ml,XY l Mk,Jz s E8,hs,hm,e1,e2,e3,e4,e5,m7,m1,m2,m3,m4,m5,m6,n1,n2,n3,bX,oN]
end Go.Av
