/- Part of a proof that the law FnExactWaitsOn answers true for every input: the printed functions of this program and their plain laws. No conditions beyond the statement. -/
import Derived.Test.YtpgkhfcgbjangaaGreatDoorP2
import Derived.Test.YtpgkhfcgbjangaaGreatDoorP3
set_option maxRecDepth 100000
set_option maxHeartbeats 4000000
namespace Go.Av
theorem Hd {a:aN} (h:bU a<=1048576):jo a:=by
 have hw:bU a=a.1.length + wL bT a.2.2.2.2.2.1 + gK (wZ a) + wL cE a.2.2.2.2.2.2.2.2.2.2.1:=rfl;have hr:gK (wZ a)=a.2.2.2.2.2.2.2.2.1.length + a.2.2.2.2.2.2.2.2.2.1.length:=rfl;have h1:=mW bT a.2.2.2.2.2.1;have h2:=mW cE a.2.2.2.2.2.2.2.2.2.2.1;refine ⟨by omega,⟨by omega,fun y hy => ?_⟩,⟨?_,?_⟩,by omega,fun y hy => ?_⟩
 . have:=kB bT hy;have e:bT y=y.1.length:=rfl;omega
 . show a.2.2.2.2.2.2.2.2.1.length<=_; omega
 . show a.2.2.2.2.2.2.2.2.2.1.length<=_; omega
 . have:=kB cE hy;have e:cE y=y.1.length + y.2.1.length + y.2.2.1.length:=rfl;omega
theorem Ea:∀ l:List fO,wL bU (fj l)=(l.map aY).sum
 | []=>rfl
 | s :: l=>by
   have ih:=Ea l;have e:fj (s :: l)=s.2.1 ++ fj l:=by simp [fj]
   have e2:aY s=s.2.1.length + (s.2.1.map bU).sum:=rfl;rw [e,List.map_cons,List.sum_cons,<- ih,e2];show (s.2.1 ++ fj l).length + ((s.2.1 ++ fj l).map bU).sum=s.2.1.length + (s.2.1.map bU).sum + ((fj l).length + ((fj l).map bU).sum);rw [List.length_append,List.map_append,List.sum_append];omega
theorem LJ {l:List fO} (h:wL aY l<=1048576):wU l:=by have hws:wL aY l=l.length + (l.map aY).sum:=rfl;have hA:=Ea l;have hAl:=mW bU (fj l);exact ⟨by omega,by omega,fun s hs a ha=>Hd (by have h1:=kB aY hs;have h2:=kB bU ha;have e:aY s=wL bU s.2.1:=rfl;omega)⟩
theorem Wa {x:Int} (h:lK .u8 x):0<=x/\x<=255:=h
theorem GR {t:cZ} (h:cz t<=1048576) (hy:Cr t):sj t:=by have e:cz t=t.1.length + t.2.2.1.length + t.2.2.2.2.2.2.2.2.1.length:=rfl;exact ⟨⟨by omega,fun x hx=>Wa (hy.1 x hx)⟩,by omega,by omega⟩
theorem Ey {w:dU} (h:ju w<=1048576) (hy:zi w):jz w:=by have hwe:ju w=wL aY w.1 + wL cz w.2.2.2.1:=rfl;have hl:=mW cz w.2.2.2.1;exact ⟨LJ (by omega),by omega,fun t ht=>GR (by have:=kB cz ht;omega) (hy.2 t ht)⟩
theorem AA (x:dU) (k:Int) (hb:yQ x) (hy:zi x):g4 x k=some ((),((true,()),())):=by
 unfold g4;rw [J5 x 1048576 (by decide) (by decide) hb];dsimp only [cond_false,Option.bind_some];by_cases hw:((ju x:Nat):Int)<=1048576;rotate_left
 . rw [aV hw]; rfl
 have hw':ju x<=1048576:=by omega
 have hB:=Ey hw' hy;rw [bp hw,ay (by omega),LN x hw'];dsimp only [cond_false,Option.bind_some];rw [Oj x k hB,OX x k hB];dsimp only [Option.bind_some];rw [bq,Ld x (by omega)]; rfl
end Go.Av
