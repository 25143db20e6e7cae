/- Part of a proof that the law FnExactWorkLeft answers true for every input: the printed functions of this program and their plain laws. No conditions beyond the statement. -/
import Derived.Test.YtpgkhfcgbjangaaGreatDoorP2
import Derived.Test.YtpgkhfcgbjangaaGreatDoorP3
set_option maxRecDepth 100000
set_option maxHeartbeats 4000000
namespace Go.Av
theorem G2 {a:aO} (h:bU a<=1048576):je a:=by
 have hw:bU a=a.1.length + wL bT a.2.2.2.2.2.1 + gI (wZ a) + wL cE a.2.2.2.2.2.2.2.2.2.2.1:=rfl;have hr:gI (wZ a)=a.2.2.2.2.2.2.2.2.1.length + a.2.2.2.2.2.2.2.2.2.1.length:=rfl;have h1:=mI bT a.2.2.2.2.2.1;have h2:=mI cE a.2.2.2.2.2.2.2.2.2.2.1;refine ⟨by omega,⟨by omega,fun y hy => ?_⟩,⟨?_,?_⟩,by omega,fun y hy => ?_⟩
 . have:=kt bT hy;have e:bT y=y.1.length:=rfl;omega
 . show a.2.2.2.2.2.2.2.2.1.length<=_; omega
 . show a.2.2.2.2.2.2.2.2.2.1.length<=_; omega
 . have:=kt cE hy;have e:cE y=y.1.length + y.2.1.length + y.2.2.1.length:=rfl;omega
theorem DA:∀ l:List fQ,wL bU (fg l)=(l.map aY).sum
 | []=>rfl
 | s :: l=>by
   have ih:=DA l;have e:fg (s :: l)=s.2.1 ++ fg l:=by simp [fg]
   have e2:aY s=s.2.1.length + (s.2.1.map bU).sum:=rfl;rw [e,List.map_cons,List.sum_cons,<- ih,e2];show (s.2.1 ++ fg l).length + ((s.2.1 ++ fg l).map bU).sum=s.2.1.length + (s.2.1.map bU).sum + ((fg l).length + ((fg l).map bU).sum);rw [List.length_append,List.map_append,List.sum_append];omega
theorem LR {l:List fQ} (h:wL aY l<=1048576):xb l:=by have hws:wL aY l=l.length + (l.map aY).sum:=rfl;have hA:=DA l;have hAl:=mI bU (fg l);exact ⟨by omega,by omega,fun s hs a ha=>G2 (by have h1:=kt aY hs;have h2:=kt bU ha;have e:aY s=wL bU s.2.1:=rfl;omega)⟩
theorem WS {x:Int} (h:lJ .u8 x):0<=x/\x<=255:=h
theorem IS {t:dy} (h:cz t<=1048576) (hy:BC t):nr t:=by have e:cz t=t.1.length + t.2.2.1.length + t.2.2.2.2.2.2.2.2.1.length:=rfl;exact ⟨⟨by omega,fun x hx=>WS (hy.1 x hx)⟩,by omega,by omega⟩
theorem Ft {w:eX} (h:ja w<=1048576) (hy:zC w):jd w:=by have hwe:ja w=wL aY w.1 + wL cz w.2.2.2.1:=rfl;have hl:=mI cz w.2.2.2.1;exact ⟨LR (by omega),by omega,fun t ht=>IS (by have:=kt cz ht;omega) (hy.2 t ht)⟩
theorem yN (x:eX) (hb:zk x) (hy:zC x):g6 x=some ((),((true,()),())):=by
 unfold g6;rw [KS x 1048576 (by decide) (by decide) hb];dsimp only [cond_false,Option.bind_some];by_cases hw:((ja x:Nat):Int)<=1048576;rotate_left
 . rw [aU hw]; rfl
 have hw':ja x<=1048576:=by omega
 have hB:=Ft hw' hy;rw [bp hw,az (by omega),Ky x hw'];dsimp only [cond_false,Option.bind_some];rw [Pm x hB,PN x hB];dsimp only [Option.bind_some];rw [bq,Lf x (by omega)]; rfl
end Go.Av
