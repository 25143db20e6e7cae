/- Part of a proof that the law FnExactPass answers true for every input: the printed functions of this program and their plain laws. No conditions beyond the statement. -/
import Derived.Test.YtbgoaopannojjaaGreatDoorP2
import Derived.Test.YtbgoaopannojjaaGreatDoorP3
set_option maxRecDepth 100000
set_option maxHeartbeats 4000000
namespace Go.Av
theorem JE {a:aO} (h:bo a<=1048576):iW a:=by
 have hw:bo a=a.1.length + wL bp a.2.2.2.2.2.1 + eF (xY a) + wL bF a.2.2.2.2.2.2.2.2.2.2.1:=rfl;have hr:eF (xY a)=a.2.2.2.2.2.2.2.2.1.length + a.2.2.2.2.2.2.2.2.2.1.length:=rfl;have h1:=nk bp a.2.2.2.2.2.1;have h2:=nk bF a.2.2.2.2.2.2.2.2.2.2.1;refine ⟨by omega,⟨by omega,fun y hy => ?_⟩,⟨?_,?_⟩,by omega,fun y hy => ?_⟩
 . have:=lk bp hy;have e:bp y=y.1.length:=rfl;omega
 . show a.2.2.2.2.2.2.2.2.1.length<=_; omega
 . show a.2.2.2.2.2.2.2.2.2.1.length<=_; omega
 . have:=lk bF hy;have e:bF y=y.1.length + y.2.1.length + y.2.2.1.length:=rfl;omega
theorem Ee:∀ l:List er,wL bo (fz l)=(l.map aN).sum
 | []=>rfl
 | s :: l=>by
   have ih:=Ee l;have e:fz (s :: l)=s.2.1 ++ fz l:=by simp [fz]
   have e2:aN s=s.2.1.length + (s.2.1.map bo).sum:=rfl;rw [e,List.map_cons,List.sum_cons,<- ih,e2];show (s.2.1 ++ fz l).length + ((s.2.1 ++ fz l).map bo).sum=s.2.1.length + (s.2.1.map bo).sum + ((fz l).length + ((fz l).map bo).sum);rw [List.length_append,List.map_append,List.sum_append];omega
theorem Mc {l:List er} (h:wL aN l<=1048576):si l:=by have hws:wL aN l=l.length + (l.map aN).sum:=rfl;have hA:=Ee l;have hAl:=nk bo (fz l);exact ⟨by omega,by omega,fun s hs a ha=>JE (by have h1:=lk aN hs;have h2:=lk bo ha;have e:aN s=wL bo s.2.1:=rfl;omega)⟩
theorem aaB {x:Int} (h:l3 .u8 x):0<=x/\x<=255:=h
theorem HI {t:dq} (h:bD t<=1048576) (hy:De t):nN t:=by have e:bD t=t.1.length + t.2.2.1.length + t.2.2.2.2.2.2.2.2.1.length:=rfl;exact ⟨⟨by omega,fun x hx=>aaB (hy.1 x hx)⟩,by omega,by omega⟩
theorem G1 {w:dv} (h:eh w<=1048576) (hy:zd w):ic w:=by have hwe:eh w=wL aN w.1 + wL bD w.2.2.2.1:=rfl;have hl:=nk bD w.2.2.2.1;exact ⟨Mc (by omega),by omega,fun t ht=>HI (by have:=lk bD ht;omega) (hy.2 t ht)⟩
theorem Jb (c:Bool):Jk c c=true:=by cases c <;> rfl
theorem QA (w:dv) (n:Int):eh (nQ w n).1<=eh w:=by
 unfold nQ;cases cond (!iN w) true (aq w.2.2.1 1000000000) <;> first | exact Nat.zero_le _ | skip
 cases cond (!dI n 1 1000) true (au 1000000000 (ai .i64 w.2.1 n)) <;> first | exact Nat.zero_le _ | exact Nat.le_refl _
theorem KP (x:dv) (n:Int) (hb:zR x) (hy:zd x):g4 x n=some ((),((true,()),())):=by
 unfold g4;rw [MO x 1048576 (by decide) (by decide) hb];dsimp only [cond_false,Option.bind_some];by_cases hw:((eh x:Nat):Int)<=1048576;rotate_left
 . rw [a8 hw]; rfl
 have hw':eh x<=1048576:=by omega
 have hB:=G1 hw' hy;have hs:=Q5 x n hB;have hm:=SM x n hB;have hqw:=QA x n;generalize (nQ x n).1=q at hs hm hqw;generalize (nQ x n).2=c at hs hm;have c1:=yR x;have c2:=yR q;have m1:=yu x 1 (by decide) (by omega) (by omega);have m2:=yu q 1 (by decide) (by omega) (by omega);have m3:=GD q 1 (by decide) (by omega) (by omega);have m3':g15 ((qg q 1).1,q.2.1,q.2.2.1,(qg q 1).2.2.2.1,()) 1=_:=m3;have e1:=Ex q (by omega);have e2:=Ex x (by omega);have n1:au (1 + ((iP x:Nat):Int)) 0=false:=ax (by omega);have n2:au (1 + ((iP q:Nat):Int)) 0=false:=ax (by omega);have ec:=Jb c;rw [bC hw,ax (by omega)];simp only [cond_false,cond_true,Option.bind_some,L9 x hw',hs,hm,e1,e2,m1,m2,m3',n1,n2,ec,bg,Bool.not_true]
end Go.Av
