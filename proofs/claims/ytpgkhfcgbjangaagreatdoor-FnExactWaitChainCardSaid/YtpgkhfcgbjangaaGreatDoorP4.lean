/- Part of a proof that the law FnExactWaitChain answers true for every input: the printed functions of this program and their plain laws. No conditions beyond the statement. -/
import Derived.Test.YtpgkhfcgbjangaaGreatDoorP2
import Derived.Test.YtpgkhfcgbjangaaGreatDoorP3
set_option maxRecDepth 100000
set_option maxHeartbeats 4000000
namespace Go.Av
theorem JS {a:aQ} (h:bC a<=1048576):jE a:=by
 have hw:bC a=a.1.length + wL bE a.2.2.2.2.2.1 + fL (xE a) + wL bS a.2.2.2.2.2.2.2.2.2.2.1:=rfl;have hr:fL (xE a)=a.2.2.2.2.2.2.2.2.1.length + a.2.2.2.2.2.2.2.2.2.1.length:=rfl;have h1:=nf bE a.2.2.2.2.2.1;have h2:=nf bS a.2.2.2.2.2.2.2.2.2.2.1;refine ⟨by omega,⟨by omega,fun y hy => ?_⟩,⟨?_,?_⟩,by omega,fun y hy => ?_⟩
 . have:=la bE hy;have e:bE y=y.1.length:=rfl;omega
 . show a.2.2.2.2.2.2.2.2.1.length<=_; omega
 . show a.2.2.2.2.2.2.2.2.2.1.length<=_; omega
 . have:=la bS hy;have e:bS y=y.1.length + y.2.1.length + y.2.2.1.length:=rfl;omega
theorem DW:∀ l:List gn,wL bC (fE l)=(l.map aS).sum
 | []=>rfl
 | s :: l=>by
   have ih:=DW l;have e:fE (s :: l)=s.2.1 ++ fE l:=by simp [fE]
   have e2:aS s=s.2.1.length + (s.2.1.map bC).sum:=rfl;rw [e,List.map_cons,List.sum_cons,<- ih,e2];show (s.2.1 ++ fE l).length + ((s.2.1 ++ fE l).map bC).sum=s.2.1.length + (s.2.1.map bC).sum + ((fE l).length + ((fE l).map bC).sum);rw [List.length_append,List.map_append,List.sum_append];omega
theorem MP {l:List gn} (h:wL aS l<=1048576):xF l:=by have hws:wL aS l=l.length + (l.map aS).sum:=rfl;have hA:=DW l;have hAl:=nf bC (fE l);exact ⟨by omega,by omega,fun s hs a ha=>JS (by have h1:=la aS hs;have h2:=la bC ha;have e:aS s=wL bC s.2.1:=rfl;omega)⟩
theorem X8 {x:Int} (h:l4 .u8 x):0<=x/\x<=255:=h
theorem IU {t:dn} (h:bL t<=1048576) (hy:C5 t):tr t:=by have e:bL t=t.1.length + t.2.2.1.length + t.2.2.2.2.2.2.2.2.1.length:=rfl;exact ⟨⟨by omega,fun x hx=>X8 (hy.1 x hx)⟩,by omega,by omega⟩
theorem FZ {w:du} (h:gm w<=1048576) (hy:zQ w):hD w:=by have hwe:gm w=wL aS w.1 + wL bL w.2.2.2.1:=rfl;have hl:=nf bL w.2.2.2.1;exact ⟨MP (by omega),by omega,fun t ht=>IU (by have:=la bL ht;omega) (hy.2 t ht)⟩
theorem xC (x:du) (k:Int) (hb:zc x) (hy:zQ x):g7 x k=some ((),((true,()),())):=by
 unfold g7;rw [M9 x 1048576 (by decide) (by decide) hb];dsimp only [cond_false,Option.bind_some];by_cases hw:((gm x:Nat):Int)<=1048576;rotate_left
 . rw [a8 hw]; rfl
 have hw':gm x<=1048576:=by omega
 have hB:=FZ hw' hy;have hs:=LQ x k hB;have hm:=M3 x k hB;have hl:=xU x 12 k;generalize iM x 12 k=q at hs hm hl;have c1:=FV x;have m1:=GN x 1 (by decide) (by omega) (by omega);have m2:=qP q 1 (by decide) (by rw [jy]; omega);have m3:=HV q 1 (by decide) (by rw [jy]; omega);have e1:=zY q (by omega);have e2:=MU x (by omega);have n1:au (1 + ((ow x:Nat):Int)) 0=false:=ay (by omega);have n2:au (1 + ((cL (fun _=>1) q:Nat):Int)) 0=false:=ay (by omega);rw [bu hw,ay (by omega)];simp only [cond_false,cond_true,Option.bind_some,L4 x hw',hs,hm,e1,e2,m1,m2,m3,n1,n2,bq,Bool.not_true]
end Go.Av
