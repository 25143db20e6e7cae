/- Part of a proof that the law FnExactArrive answers true for every input: the printed functions of this program and their plain laws. No conditions beyond the statement. -/
import Derived.Test.YtbgoaopannojjaaGreatDoorP2
import Derived.Test.YtbgoaopannojjaaGreatDoorP3
set_option maxRecDepth 100000
set_option maxHeartbeats 4000000
namespace Go.Av
theorem HR {a:aO} (h:bp a<=1048576):iX a:=by
 have hw:bp a=a.1.length + wL bq a.2.2.2.2.2.1 + eH (ye a) + wL bF a.2.2.2.2.2.2.2.2.2.2.1:=rfl;have hr:eH (ye a)=a.2.2.2.2.2.2.2.2.1.length + a.2.2.2.2.2.2.2.2.2.1.length:=rfl;have h1:=nj bq a.2.2.2.2.2.1;have h2:=nj bF a.2.2.2.2.2.2.2.2.2.2.1;refine ⟨by omega,⟨by omega,fun y hy => ?_⟩,⟨?_,?_⟩,by omega,fun y hy => ?_⟩
 . have:=kS bq hy;have e:bq y=y.1.length:=rfl;omega
 . show a.2.2.2.2.2.2.2.2.1.length<=_; omega
 . show a.2.2.2.2.2.2.2.2.2.1.length<=_; omega
 . have:=kS bF hy;have e:bF y=y.1.length + y.2.1.length + y.2.2.1.length:=rfl;omega
theorem EU:∀ l:List er,wL bp (fD l)=(l.map aN).sum
 | []=>rfl
 | s :: l=>by
   have ih:=EU l;have e:fD (s :: l)=s.2.1 ++ fD l:=by simp [fD]
   have e2:aN s=s.2.1.length + (s.2.1.map bp).sum:=rfl;rw [e,List.map_cons,List.sum_cons,<- ih,e2];show (s.2.1 ++ fD l).length + ((s.2.1 ++ fD l).map bp).sum=s.2.1.length + (s.2.1.map bp).sum + ((fD l).length + ((fD l).map bp).sum);rw [List.length_append,List.map_append,List.sum_append];omega
theorem No {l:List er} (h:wL aN l<=1048576):sy l:=by have hws:wL aN l=l.length + (l.map aN).sum:=rfl;have hA:=EU l;have hAl:=nj bp (fD l);exact ⟨by omega,by omega,fun s hs a ha=>HR (by have h1:=kS aN hs;have h2:=kS bp ha;have e:aN s=wL bp s.2.1:=rfl;omega)⟩
theorem X7 {x:Int} (h:lJ .u8 x):0<=x/\x<=255:=h
theorem KZ {t:cR} (h:bm t<=1048576) (hy:De t):nR t:=by have e:bm t=t.1.length + t.2.2.1.length + t.2.2.2.2.2.2.2.2.1.length:=rfl;exact ⟨⟨by omega,fun x hx=>X7 (hy.1 x hx)⟩,by omega,by omega⟩
theorem GZ {w:dy} (h:eo w<=1048576) (hy:zn w):ij w:=by have hwe:eo w=wL aN w.1 + wL bm w.2.2.2.1:=rfl;have hl:=nj bm w.2.2.2.1;exact ⟨No (by omega),by omega,fun t ht=>KZ (by have:=kS bm ht;omega) (hy.2 t ht)⟩
theorem J8 (c:Bool):Kw c c=true:=by cases c <;> rfl
theorem VY (w:dy) (d:aW) (hd:d.length<=1048576):eo (il w d).1<=eo w + 1048577:=by
 have ht:bm (kh d w.2.2.1).1<=d.length:=by
  unfold kh;cases au 300 (ae d) <;> first | exact Nat.zero_le _ | skip
  cases dv w.2.2.1 <;> first | exact Nat.zero_le _ | exact Nat.le_refl _
 unfold il;cases cond (cond (cond (!iH w) true (!(kh d w.2.2.1).2)) true (aq w.2.2.1 1000000000)) true (aq (ae w.2.2.2.1) 12) with
 | true=>exact Nat.zero_le _
 | false =>
   have e:∀ t:cR,wL bm (w.2.2.2.1 ++ [t])=wL bm w.2.2.2.1 + 1 + bm t:=fun t=>by unfold wL;rw [List.length_append,List.map_append,List.sum_append,List.length_singleton];show _ + 1 + (_ + (bm t + 0))=_;omega
   show wL aN w.1 + wL bm (w.2.2.2.1 ++ [(kh d w.2.2.1).1])<=wL aN w.1 + wL bm w.2.2.2.1 + 1048577;rw [e];omega
theorem Dk (x:dy) (d:aW) (hb:zq x) (hdb:d.length<=aT) (hy:zn x) (hyd:∀ y∈d,lJ .u8 y.1):g5 x d=some ((),((true,()),())):=by
 unfold g5;by_cases hd:d.length<=1048576;rotate_left
 . rw [aF (by unfold ae; omega)]; rfl
 rw [ax (by unfold ae; omega),MI x 1048576 (by decide) (by decide) hb];dsimp only [cond_false,Option.bind_some];by_cases hw:((eo x:Nat):Int)<=1048576;rotate_left
 . rw [a8 hw]; rfl
 have hw':eo x<=1048576:=by omega
 have hB:=GZ hw' hy;have hs:=Wu x d hB hd;have hm:=Vi x d hB hd;have hqw:=VY x d hd;generalize (il x d).1=q at hs hm hqw;generalize (il x d).2=c at hs hm;have c1:=yY x;have c2:=yY q;have m1:=yM x 1 (by decide) (by omega) (by omega);have m2:=yM q 1 (by decide) (by omega) (by omega);have m3:=F5 q 1 (by decide) (by omega) (by omega);have m3':g15 ((rF q 1).1,q.2.1,q.2.2.1,(rF q 1).2.2.2.1,()) 1=_:=m3;have m4:=nB d (1 + ((ig x:Nat):Int)) (by omega) (by rw [jK]; omega);have e1:=ER q (by omega);have e2:=ER x (by omega);have e3:=uE d (by omega);have n1:au (1 + ((ig x:Nat):Int) + ((cL (fun _=>1) d:Nat):Int)) 0=false:=ax (by omega);have n2:au (1 + ((ig q:Nat):Int)) 0=false:=ax (by omega);have ec:=J8 c;rw [bD hw,ax (by omega)];simp only [cond_false,cond_true,Option.bind_some,Mi x hw',uh d hd,hs,hm,e1,e2,e3,m1,m2,m3',m4,n1,n2,ec,bg,Bool.not_true]
end Go.Av
