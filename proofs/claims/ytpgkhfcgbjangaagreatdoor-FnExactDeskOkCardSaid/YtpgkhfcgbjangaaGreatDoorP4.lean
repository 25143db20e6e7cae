/- Part of a proof that the law FnExactDeskOk answers true for every input: the printed functions of this program and their plain laws. No conditions beyond the statement. -/
import Derived.Test.YtpgkhfcgbjangaaGreatDoorP2
import Derived.Test.YtpgkhfcgbjangaaGreatDoorP3
set_option maxRecDepth 100000
set_option maxHeartbeats 4000000
namespace Go.Av
theorem Aj {a:aN} (h:bw a<=1048576):ju a:=by
 have hw:bw a=a.1.length + wL bU a.2.2.2.2.2.1 + gM (wX a) + wL cD a.2.2.2.2.2.2.2.2.2.2.1:=rfl;have hr:gM (wX a)=a.2.2.2.2.2.2.2.2.1.length + a.2.2.2.2.2.2.2.2.2.1.length:=rfl;have h1:=kn bU a.2.2.2.2.2.1;have h2:=kn cD a.2.2.2.2.2.2.2.2.2.2.1;refine ⟨by omega,⟨by omega,fun y hy => ?_⟩,⟨?_,?_⟩,by omega,fun y hy => ?_⟩
 . have:=iR bU hy;have e:bU y=y.1.length:=rfl;omega
 . show a.2.2.2.2.2.2.2.2.1.length<=_; omega
 . show a.2.2.2.2.2.2.2.2.2.1.length<=_; omega
 . have:=iR cD hy;have e:cD y=y.1.length + y.2.1.length + y.2.2.1.length:=rfl;omega
theorem Ea:∀ l:List fX,wL bw (fj l)=(l.map aY).sum
 | []=>rfl
 | s :: l=>by
   have ih:=Ea l;have e:fj (s :: l)=s.2.1 ++ fj l:=by simp [fj]
   have e2:aY s=s.2.1.length + (s.2.1.map bw).sum:=rfl;rw [e,List.map_cons,List.sum_cons,<- ih,e2];show (s.2.1 ++ fj l).length + ((s.2.1 ++ fj l).map bw).sum=s.2.1.length + (s.2.1.map bw).sum + ((fj l).length + ((fj l).map bw).sum);rw [List.length_append,List.map_append,List.sum_append];omega
theorem JV {l:List fX} (h:wL aY l<=1048576):wU l:=by have hws:wL aY l=l.length + (l.map aY).sum:=rfl;have hA:=Ea l;have hAl:=kn bw (fj l);exact ⟨by omega,by omega,fun s hs a ha=>Aj (by have h1:=iR aY hs;have h2:=iR bw ha;have e:aY s=wL bw s.2.1:=rfl;omega)⟩
theorem Vv {x:Int} (h:lI .u8 x):0<=x/\x<=255:=h
theorem GL {t:dV} (h:cw t<=1048576) (hy:Cm t):rV t:=by have e:cw t=t.1.length + t.2.2.1.length + t.2.2.2.2.2.2.2.2.1.length:=rfl;exact ⟨⟨by omega,fun x hx=>Vv (hy.1 x hx)⟩,by omega,by omega⟩
theorem ER {w:gy} (h:ft w<=1048576) (hy:DI w):jX w:=by have hwe:ft w=wL aY w.1 + wL cw w.2.2.2.1:=rfl;have hl:=kn cw w.2.2.2.1;exact ⟨JV (by omega),by omega,fun t ht=>GL (by have:=iR cw ht;omega) (hy.2 t ht)⟩
theorem Gn (c:Bool):Ls c c=true:=by cases c <;> rfl
abbrev ui:=List aN×Int×List fX×Int×Int×List dV×Unit
def dW (d:ui):gy:=(d.2.2.1,d.2.2.2.1,d.2.2.2.2.1,d.2.2.2.2.2.1,())
def GS (d:ui):Prop:=DK d.1/\jX (dW d)
noncomputable def J0 (d:ui):Bool:=cond (rL d.1) (cond (me (dW d)) (ak (ae d.2.2.1) d.2.1) false) false
theorem Q2 (d:ui) (hb:GS d):g16 d=some ((),((J0 d,()),())):=by
 unfold g16 J0;rw [Hz _ hb.1];dsimp only [Option.bind_some];cases rL d.1 with
 | false=>rfl
 | true=>exact (bn (Sr (dW d) hb.2)).trans rfl
theorem Q4 (d:ui) (hb:GS d):g18 d=some ((),((J0 d,()),())):=by
 unfold g18 J0;rw [Hf _ hb.1];dsimp only [Option.bind_some];cases rL d.1 with
 | false=>rfl
 | true=>exact (bn (S4 (dW d) hb.2)).trans rfl
theorem IW {d:ui} (h:mr d<=1048576) (hy:BN d):GS d:=by have e:mr d=gL (d.1,()) + ft (dW d):=rfl;have e1:gL (d.1,())=wL bw d.1:=rfl;have hl:=kn bw d.1;exact ⟨⟨by omega,fun a ha=>Aj (by have:=iR bw ha;omega)⟩,ER (by omega) hy.2⟩
theorem CW (x:ui) (hb:CE x) (hy:BN x):g5 x=some ((),((true,()),())):=by
 unfold g5;rw [Og x 1048576 (by decide) (by decide) hb];dsimp only [cond_false,Option.bind_some];by_cases hw:((mr x:Nat):Int)<=1048576;rotate_left
 . rw [aP hw]; rfl
 have hw':mr x<=1048576:=by omega
 have hB:=IW hw' hy;rw [bd hw,ax (by omega),PI x hw'];dsimp only [cond_false,Option.bind_some];rw [Q2 x hB,Q4 x hB];dsimp only [Option.bind_some];rw [Gn,O9 x (by omega)]; rfl
end Go.Av
