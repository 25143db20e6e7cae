/- Part of a proof that the law FnExactWaitsOn answers true for every input: the printed functions of this program and their plain laws. No conditions beyond the statement. -/
import Derived.Test.YtpgkhfcgbjangaaGreatDoorP2
import Derived.Test.YtpgkhfcgbjangaaGreatDoorP3
set_option maxRecDepth 100000
set_option maxHeartbeats 4000000
namespace Go.Av
theorem acctB_of {a:AcctT} (h:wAcct a<=1048576):AcctB a:=by
 have hw:wAcct a=a.1.length + wL wHold a.2.2.2.2.2.1 + wRing (rgOf a) + wL wSlot a.2.2.2.2.2.2.2.2.2.2.1:=rfl;have hr:wRing (rgOf a)=a.2.2.2.2.2.2.2.2.1.length + a.2.2.2.2.2.2.2.2.2.1.length:=rfl;have h1:=len_le_wL wHold a.2.2.2.2.2.1;have h2:=len_le_wL wSlot a.2.2.2.2.2.2.2.2.2.2.1;refine ⟨by omega,⟨by omega,fun y hy => ?_⟩,⟨?_,?_⟩,by omega,fun y hy => ?_⟩
 . have:=mem_le_wL wHold hy;have e:wHold y=y.1.length:=rfl;omega
 . show a.2.2.2.2.2.2.2.2.1.length<=_; omega
 . show a.2.2.2.2.2.2.2.2.2.1.length<=_; omega
 . have:=mem_le_wL wSlot hy;have e:wSlot y=y.1.length + y.2.1.length + y.2.2.1.length:=rfl;omega
theorem allA_w':∀ l:List StrT,wL wAcct (allA l)=(l.map wStripe).sum
 | []=>rfl
 | s :: l=>by
   have ih:=allA_w' l;have e:allA (s :: l)=s.2.1 ++ allA l:=by simp [allA]
   have e2:wStripe s=s.2.1.length + (s.2.1.map wAcct).sum:=rfl;rw [e,List.map_cons,List.sum_cons,<- ih,e2];show (s.2.1 ++ allA l).length + ((s.2.1 ++ allA l).map wAcct).sum=s.2.1.length + (s.2.1.map wAcct).sum + ((allA l).length + ((allA l).map wAcct).sum);rw [List.length_append,List.map_append,List.sum_append];omega
theorem gatB_of {l:List StrT} (h:wL wStripe l<=1048576):GatB l:=by have hws:wL wStripe l=l.length + (l.map wStripe).sum:=rfl;have hA:=allA_w' l;have hAl:=len_le_wL wAcct (allA l);exact ⟨by omega,by omega,fun s hs a ha=>acctB_of (by have h1:=mem_le_wL wStripe hs;have h2:=mem_le_wL wAcct ha;have e:wStripe s=wL wAcct s.2.1:=rfl;omega)⟩
theorem u8_r {x:Int} (h:inR .u8 x):0<=x/\x<=255:=h
theorem taskB_of {t:TaskT} (h:wTask t<=1048576) (hy:byTask t):TaskB t:=by have e:wTask t=t.1.length + t.2.2.1.length + t.2.2.2.2.2.2.2.2.1.length:=rfl;exact ⟨⟨by omega,fun x hx=>u8_r (hy.1 x hx)⟩,by omega,by omega⟩
theorem worldB_of {w:WorldT} (h:wWorld w<=1048576) (hy:byWorld w):WorldB w:=by have hwe:wWorld w=wL wStripe w.1 + wL wTask w.2.2.2.1:=rfl;have hl:=len_le_wL wTask w.2.2.2.1;exact ⟨gatB_of (by omega),by omega,fun t ht=>taskB_of (by have:=mem_le_wL wTask ht;omega) (hy.2 t ht)⟩
theorem waitson_law (x:WorldT) (k:Int) (hb:bgWorld x) (hy:byWorld x):g4 x k=some ((),((true,()),())):=by
 unfold g4;rw [szWorld x 1048576 (by decide) (by decide) hb];dsimp only [cond_false,Option.bind_some];by_cases hw:((wWorld x:Nat):Int)<=1048576;rotate_left
 . rw [szR_neg hw]; rfl
 have hw':wWorld x<=1048576:=by omega
 have hB:=worldB_of hw' hy;rw [szR_pos hw,ltI_no (by omega),toWorld x hw'];dsimp only [cond_false,Option.bind_some];rw [wait_s x k hB,wait_i x k hB];dsimp only [Option.bind_some];rw [eqI_refl,eqWorld x (by omega)]; rfl
end Go.Av
