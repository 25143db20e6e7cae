/- Part of a proof that the law FnExactWorldShow answers true for every input: the printed functions of this program and their plain laws. No conditions beyond the statement. -/
import Derived.Test.YtbgoaopannojjaaGreatDoorP2
import Derived.Test.YtbgoaopannojjaaGreatDoorP3
set_option maxRecDepth 100000
set_option maxHeartbeats 4000000
namespace Go.Av
theorem KG {a:aH} (h:bV a<=1048576):gB a:=by
 have hw:bV a=a.1.length + wL bW a.2.2.2.2.2.1 + gO (xL a) + wL cG a.2.2.2.2.2.2.2.2.2.2.1:=rfl;have hr:gO (xL a)=a.2.2.2.2.2.2.2.2.1.length + a.2.2.2.2.2.2.2.2.2.1.length:=rfl;have h1:=nf bW a.2.2.2.2.2.1;have h2:=nf cG a.2.2.2.2.2.2.2.2.2.2.1;refine ⟨by omega,⟨by omega,fun y hy => ?_⟩,⟨?_,?_⟩,by omega,fun y hy => ?_⟩
 . have:=kW bW hy;have e:bW y=y.1.length:=rfl;omega
 . show a.2.2.2.2.2.2.2.2.1.length<=_; omega
 . show a.2.2.2.2.2.2.2.2.2.1.length<=_; omega
 . have:=kW cG hy;have e:cG y=y.1.length + y.2.1.length + y.2.2.1.length:=rfl;omega
theorem Ey:∀ l:List gp,wL bV (fj l)=(l.map a6).sum
 | []=>rfl
 | s :: l=>by
   have ih:=Ey l;have e:fj (s :: l)=s.2.1 ++ fj l:=by simp [fj]
   have e2:a6 s=s.2.1.length + (s.2.1.map bV).sum:=rfl;rw [e,ads,List.sum_cons,<- ih,e2];show (s.2.1 ++ fj l).length + ((s.2.1 ++ fj l).map bV).sum=s.2.1.length + (s.2.1.map bV).sum + ((fj l).length + ((fj l).map bV).sum);rw [ab7,List.map_append,List.sum_append];omega
theorem Ob {l:List gp} (h:wL a6 l<=1048576):xR l:=by have hws:wL a6 l=l.length + (l.map a6).sum:=rfl;have hA:=Ey l;have hAl:=nf bV (fj l);exact ⟨by omega,by omega,fun s hs a ha=>KG (by have h1:=kW a6 hs;have h2:=kW bV ha;have e:a6 s=wL bV s.2.1:=rfl;omega)⟩
theorem UH {x:Int} (h:kZ .u8 x):0<=x/\x<=255:=h
theorem H2 {t:cH} (h:cD t<=1048576) (hy:Dk t):sQ t:=by have e:cD t=t.1.length + t.2.2.1.length + t.2.2.2.2.2.2.2.2.1.length:=rfl;exact ⟨⟨by omega,fun x hx=>UH (hy.1 x hx)⟩,by omega,by omega⟩
theorem GJ {w:dM} (h:jD w<=1048576) (hy:yZ w):jf w:=by have hwe:jD w=wL a6 w.1 + wL cD w.2.2.2.1:=rfl;have hl:=nf cD w.2.2.2.1;exact ⟨Ob (by omega),by omega,fun t ht=>H2 (by have:=kW cD ht;omega) (hy.2 t ht)⟩
theorem xT (x:dM) (hb:zr x) (hy:yZ x):g3 x=some ((),((true,()),())):=by
 unfold g3;rw [Oz x 1048576 (by decide) (by decide) hb];dsimp only [cond_false,Option.bind_some];by_cases hw:((jD x:Nat):Int)<=1048576;rotate_left
 . rw [aY hw]; rfl
 have hw':jD x<=1048576:=by omega
 have hB:=GJ hw' hy;have hr:∀ t∈x.2.2.2.1,qx t.2.2.2.2.2.2.2.2.1:=fun t ht=>⟨(hB.2.2 t ht).2.2,fun z hz=>UH ((hy.2 t ht).2 z hz)⟩
 rw [bp hw,ay (by omega),Of x hw'];dsimp only [cond_false,Option.bind_some];rw [UB x hB hr,TK x hB hr];dsimp only [Option.bind_some];rw [dT,LJ x (by omega)]; rfl
end Go.Av
