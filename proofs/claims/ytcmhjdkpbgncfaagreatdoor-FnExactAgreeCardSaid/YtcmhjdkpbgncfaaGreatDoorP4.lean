/- FnExactAgree, a part. -/
import Derived.Test.YtcmhjdkpbgncfaaGreatDoorP2
import Derived.Test.YtcmhjdkpbgncfaaGreatDoorP3
set_option maxRecDepth 100000
set_option maxHeartbeats 4000000
namespace Go.Av
theorem Ns{a:ar}(h:cY a<=1048576):bA a:=by
 have hw:cY a=a.1.length+wL cF a.2.2.2.2.2.1+jf (fI a)+wL dh a.2.2.2.2.2.2.2.2.2.2.1:=rfl;have hr:jf (fI a)=a.2.2.2.2.2.2.2.2.1.length+a.2.2.2.2.2.2.2.2.2.1.length:=rfl;have h1:=oK cF a.2.2.2.2.2.1;have h2:=oK dh a.2.2.2.2.2.2.2.2.2.2.1;refine⟨by omega,⟨by omega,fun y hy => ?_⟩,⟨?_,?_⟩,by omega,fun y hy => ?_⟩
 . have:=mG cF hy;have e:cF y=y.1.length:=rfl;omega
 . show a.2.2.2.2.2.2.2.2.1.length<=_; omega
 . show a.2.2.2.2.2.2.2.2.2.1.length<=_; omega
 . have:=mG dh hy;have e:dh y=y.1.length+y.2.1.length+y.2.2.1.length:=rfl;omega
theorem Qx{l:List kX}(h:wL dt l<=1048576)(hy:∀ e∈l,Fk e):Ac l:=by have h1:=oK dt l;refine⟨by omega,fun e he=>⟨?_,fun z hz=>(hy e he).1 z hz⟩⟩;have h2:=mG dt he;have h3:dt e=e.2.1.length+e.2.2.1.length:=rfl;omega
theorem Im(x:List ar×Unit)(l:List kX)(hb:Ey x)(hl:l.length<=bG/\∀ y∈l,xa y)(hy:N3 x)(hyd:∀ y∈l,Fk y):g3 x l=zR true:=by
 have hbig:=bb;obtain⟨b,u⟩:=x;unfold g3;rw[V6 (b,()) 1048576 (by decide) (by decide) hb];dsimp only[oF,oB];by_cases hw:((pA (b,()):Nat):Int)<=1048576;rotate_left
 . rw[bt hw];try rfl
 rw[cu hw,aJ (by omega)];dsimp only[oF];rw[Qn l _ (by omega) (by omega) hl];dsimp only[oB];by_cases hwl:((wL dt l:Nat):Int)<=1048576-((pA (b,()):Nat):Int);rotate_left
 . rw[bt hwl];try rfl
 rw[cu hwl,aJ (by omega)];dsimp only[oF];have hw':pA (b,())<=1048576:=by omega
 have hl':wL dt l<=1048576:=by omega
 have hw2:wL cY b<=1048576:=hw';have hln:=oK cY b;have hbb:dF b:=⟨by omega,fun a ha=>Ns (aeA (mG cY ha) hw2)⟩;have hdB:=Qx hl' hyd;have hr:ny b:=fun a ha z hz y hy'=>hy a ha z hz y hy'
 have hd:∀ e∈l,jP e.2.2.1/\e.2.2.1.length<=1048576:=fun e he=>⟨fun z hz=>(hyd e he).2 z hz,by have h2:=mG dt he;have h3:dt e=e.2.1.length+e.2.2.1.length:=rfl;omega⟩
 have hs:=QB b l hbb hdB hr hd;have hm:=PV b l hbb hdB hr hd;have e2:=UE (b,()) (by omega);have e3:=OT l (by omega);simp only[oF,oT,oB,UN (b,()) hw',Rr l hl',hs,hm,e2,e3,bX,eqB,beq_self_eq_true,oN]
end Go.Av
