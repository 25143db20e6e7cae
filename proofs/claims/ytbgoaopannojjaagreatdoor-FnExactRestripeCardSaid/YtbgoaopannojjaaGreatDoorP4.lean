/- Part of a proof that the law FnExactRestripe answers true for every input: the printed functions of this program and their plain laws. No conditions beyond the statement. -/
import Derived.Test.YtbgoaopannojjaaGreatDoorP2
import Derived.Test.YtbgoaopannojjaaGreatDoorP3
set_option maxRecDepth 100000
set_option maxHeartbeats 4000000
namespace Go.Av
theorem La {a:aL} (h:bh a<=1048576):jq a:=by
 have hw:bh a=a.1.length + wL bw a.2.2.2.2.2.1 + fe (yH a) + wL bH a.2.2.2.2.2.2.2.2.2.2.1:=rfl;have hr:fe (yH a)=a.2.2.2.2.2.2.2.2.1.length + a.2.2.2.2.2.2.2.2.2.1.length:=rfl;have h1:=nJ bw a.2.2.2.2.2.1;have h2:=nJ bH a.2.2.2.2.2.2.2.2.2.2.1;refine ⟨by omega,⟨by omega,fun y hy => ?_⟩,⟨?_,?_⟩,by omega,fun y hy => ?_⟩
 . have:=lx bw hy;have e:bw y=y.1.length:=rfl;omega
 . show a.2.2.2.2.2.2.2.2.1.length<=_; omega
 . show a.2.2.2.2.2.2.2.2.2.1.length<=_; omega
 . have:=lx bH hy;have e:bH y=y.1.length + y.2.1.length + y.2.2.1.length:=rfl;omega
theorem AD:∀ l:List ep,wL bh (eQ l)=(l.map aH).sum
 | []=>rfl
 | s :: l=>by
   have ih:=AD l;have e:eQ (s :: l)=s.2.1 ++ eQ l:=by simp [eQ]
   have e2:aH s=s.2.1.length + (s.2.1.map bh).sum:=rfl;rw [e,ad4,afo,<- ih,e2];show (s.2.1 ++ eQ l).length + ((s.2.1 ++ eQ l).map bh).sum=s.2.1.length + (s.2.1.map bh).sum + ((eQ l).length + ((eQ l).map bh).sum);rw [ac4,afU,List.sum_append];omega
theorem Nc {l:List ep} (h:wL aH l<=1048576):pj l:=by have hws:wL aH l=l.length + (l.map aH).sum:=rfl;have hA:=AD l;have hAl:=nJ bh (eQ l);exact ⟨by omega,by omega,fun s hs a ha=>La (by have h1:=lx aH hs;have h2:=lx bh ha;have e:aH s=wL bh s.2.1:=rfl;omega)⟩
theorem aa5 {x:Int} (h:mq .u8 x):0<=x/\x<=255:=h
theorem LY {t:cK} (h:bf t<=1048576) (hy:Ep t):my t:=by have e:bf t=t.1.length + t.2.2.1.length + t.2.2.2.2.2.2.2.2.1.length:=rfl;exact ⟨⟨by omega,fun x hx=>aa5 (hy.1 x hx)⟩,by omega,by omega⟩
theorem G4 {w:dj} (h:eE w<=1048576) (hy:AL w):gF w:=by have hwe:eE w=wL aH w.1 + wL bf w.2.2.2.1:=rfl;have hl:=nJ bf w.2.2.2.1;exact ⟨Nc (by omega),by omega,fun t ht=>LY (by have:=lx bf ht;omega) (hy.2 t ht)⟩
theorem K3 (c:Bool):Jg c c=true:=by cases c <;> rfl
theorem B6 {α:Type} {lt:α->α->Bool} (h:K8 lt):∀ {xs ys:List α},eL lt xs ys->xs.Perm ys
 | [],ys,hs=>by rw [adl.1 hs.1.symm]
 | x :: xs,ys,hs=>by
   have h0:=hs.2 x;rw [aep (xD h x)] at h0;obtain ⟨A,B,rfl,h1,_,h3⟩:=List.filter_eq_cons_iff.1 h0.symm;refine ((B6 h (ys:=A ++ B) ⟨by have:=hs.1; simp only [ac9,ac4] at this ⊢; omega,fun z => ?_⟩).cons x).trans List.perm_middle.symm;have hz:=hs.2 z;rw [afD] at hz ⊢;by_cases hzx:eqv lt z x=true
   . have hA:A.filter (eqv lt z)=[]:=List.filter_eq_nil_iff.2 fun a ha hh=>h1 a ha (yV h (BJ hzx) hh)
     rw [aep hzx,aep hzx,hA,aee] at hz;rw [hA,aee];exact (afI hz).2
   . rw [afm hzx,afm hzx] at hz;exact hz
theorem WK (n:Int) (a b:nZ):rG n [a,b]=bif aw (ax b.1 n) (ax a.1 n) then [(ax b.1 n,()),(ax a.1 n,())] else bif aq (ax b.1 n) (ax a.1 n) then [(ax a.1 n,())] else [(ax a.1 n,()),(ax b.1 n,())]:=rfl
theorem KK (n:Int):∀ (ids:List nZ),(rG n ids).length<=2
 | []=>adM _
 | [a]=>by show 1<=2; omega
 | [a,b]=>by rw [WK];cases aw (ax b.1 n) (ax a.1 n) <;> cases aq (ax b.1 n) (ax a.1 n) <;> first | exact ac7 2 | exact afi 1
 | _ :: _ :: _ :: _=>adM _
theorem Kp (b:aY) (n:Int):(mu b n).length<=2:=KK n (Cw b)
theorem Kq (f:Nat->Nat) (B:Nat) (h:∀ k,f k<=B):∀ l:List Nat,(l.map f).sum<=l.length * B
 | []=>by simp
 | k :: r=>by have h1:=h k;have h2:=Kq f B h r;rw [ad4,afo,ac9,adR];omega
theorem acL (n:Nat) (m:Int) (b:List aL):wL aH (sp n m b)<=n + n * wL bh b:=by
 have e:(sp n m b).map aH=(List.range n).map fun (k:Nat)=>wL bh (b.filter (fun a=>aq (ax a.1 m) (k:Int))):=by unfold sp;rw [List.map_map];rfl
 have h:=Kq (fun (k:Nat)=>wL bh (b.filter (fun a=>aq (ax a.1 m) (k:Int)))) (wL bh b) (fun k=>GQ bh _ b) (List.range n);rw [afH] at h;show (sp n m b).length + ((sp n m b).map aH).sum<=_;rw [Ai,e];omega
theorem Ly (b:List aL) (n:Int):wL aH (iM b n)<=5 + 5 * wL bh b:=by
 have h0:wL aH ([]:List kr)=0:=rfl;unfold iM;cases qM b with
 | false=>simp only [adm]; omega
 | true =>
 cases hn:dC n 1 5 with
 | false=>simp only [ac6,adm]; omega
 | true =>
   obtain ⟨n1,n2⟩:=fb.1 hn;have h:=acL n.toNat n b;have h5:n.toNat<=5:=by omega
   have:=adz (wL bh b) h5;simp only [ac6];omega
theorem Xh {l:List ep} (hB:pj l):wL bh (kI l)<=wL aH l:=by obtain ⟨g1,g2,g3,g4,_⟩:=tE hB;have hp:=B6 fx g4;have hA:=AD l;have e1:wL bh (kI l)=(kI l).length + ((kI l).map bh).sum:=rfl;have e2:wL bh (eQ l)=(eQ l).length + ((eQ l).map bh).sum:=rfl;have e3:wL aH l=l.length + (l.map aH).sum:=rfl;have:=(hp.map bh).sum_nat;omega
theorem FU (n:Int):∀ ts:List cK,wL bf (ts.map (hE n))<=3 * wL bf ts
 | []=>adM _
 | t :: ts=>by
   have ih:=FU n ts;have hn:=Kp t.1 n;have e1:wL bf ((t :: ts).map (hE n))=wL bf (ts.map (hE n)) + 1 + bf (hE n t):=by show (ts.map (hE n)).length + 1 + (bf (hE n t) + ((ts.map (hE n)).map bf).sum)=(ts.map (hE n)).length + ((ts.map (hE n)).map bf).sum + 1 + bf (hE n t);omega
   have e2:wL bf (t :: ts)=wL bf ts + 1 + bf t:=by show ts.length + 1 + (bf t + (ts.map bf).sum)=ts.length + (ts.map bf).sum + 1 + bf t;omega
   have e3:bf (hE n t)=t.1.length + (mu t.1 n).length + t.2.2.2.2.2.2.2.2.1.length:=rfl;have e4:bf t=t.1.length + t.2.2.1.length + t.2.2.2.2.2.2.2.2.1.length:=rfl;omega
theorem Vj (w:dj) (n:Int) (hB:pj w.1):eE (yL w n).1<=5 + 5 * eE w:=by
 unfold yL;cases je w <;> first | exact adM _ | skip
 cases um w <;> first | exact adM _ | skip
 cases dC n 1 5 <;> first | exact adM _ | skip
 have h1:=Ly (kI w.1) n;have h2:=Xh hB;have h3:=FU n w.2.2.2.1;show wL aH (iM (kI w.1) n) + wL bf (w.2.2.2.1.map (hE n))<=5 + 5 * (wL aH w.1 + wL bf w.2.2.2.1);omega
theorem Bl (x:dj) (n:Int) (hb:AU x) (hy:AL x):g6 x n=some ((),((true,()),())):=by
 unfold g6;rw [Pv x 1048576 (by decide) (by decide) hb];dsimp only [cond_false,Option.bind_some];by_cases hw:((eE x:Nat):Int)<=1048576;rotate_left
 . rw [bb hw]; rfl
 have hw':eE x<=1048576:=by omega
 have hB:=G4 hw' hy;have hs:=Xu x n hB;have hm:=Vq x n hB;have hqw:=Vj x n hB.1;generalize (yL x n).1=q at hs hm hqw;generalize (yL x n).2=c at hs hm;have c1:=zM x;have c2:=zM q;have m1:=yZ x 1 (by decide) (by omega) (by omega);have m2:=yZ q 1 (by decide) (by omega) (by omega);have m3:=Hk q 1 (by decide) (by omega) (by omega);have m3':g15 ((rK q 1).1,q.2.1,q.2.2.1,(rK q 1).2.2.2.1,()) 1=_:=m3;have e1:=Fw q (by omega);have e2:=Fw x (by omega);have n1:aw (1 + ((jk x:Nat):Int)) 0=false:=ay (by omega);have n2:aw (1 + ((jk q:Nat):Int)) 0=false:=ay (by omega);have ec:=K3 c;rw [bE hw,ay (by omega)];simp only [adm,ac6,adq,MY x hw',hs,hm,e1,e2,m1,m2,m3',n1,n2,ec,bk,adL]
end Go.Av
