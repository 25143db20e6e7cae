/- FnExactRunSwept, a part. -/
import Derived.Test.YtcmhjdkpbgncfaaGreatDoorFw3
import Derived.Lib.Overlaps
import Derived.Lib.AppendZerosOnto
import Derived.IntWalk
import Derived.ChangeArms
import Derived.SizedLaws
import Derived.Carry
import Derived.HandedShaped
import Derived.ProofKit
import Derived.Shelf.Strconv.Itoa3
import Derived.Shelf.Strings.Repeat
import Derived.Lib.ItoaLen
import Derived.Lib.AppendIntMem
import Derived.Shelf.Strconv.AtoiAll
import Derived.LaidMore
import Derived.SevenTiedAt
import Derived.MakeChecks
import Derived.Stop.LaidErr
import Derived.Shelf.Vars
namespace Go.Av
open Go.RowKit (Below)
section
variable{P:Program}{E:En}{cx:Cx P}
theorem Bj(hT:cH P E){st:St}{a:Act}{w:World}(h:Good cx E st a w){id t0 t3 t4 ty Yp:Nat}{e e' HV:Nat}{fl:List (Nat×Nat)}{ks:List K}{xs:T (.sl e ks)}{o1 o2:Oper}
 (d1:o1.dst=some t3)(p1:o1.op= .move (.tmp t0))(g1:o1.guard=none)(d2:o2.dst=some t4)(p2:o2.op= .binOp .eql ty (.tmp t3) (.const (.slice none 0 0)) Yp)(g2:o2.guard=none)
 (b3:E.dB t3=true)(b4:E.dB t4=true)(iy:E.ti ty=some ⟨false,[.sl e ks],e',HV,fl⟩)(h0:st.tv t0=some (.v (.d (.sl e ks) xs))) :
 (Code.region id #[o1,o2] false).wp P (fun ex a' w'=>ex= .normal/\∃ b:Bool,(b=true->aW xs=[])/\Good cx E ((st.ba t3 (.v (.d (.sl e ks) xs),none)).ba t4 (.v (.d .bool b),none)) a' w') a w:=by
 obtain⟨hn,dh,Z,g,hr⟩:=h;refine wp_region ?_;show wpOps P #[o1,o2] _ [0,1] a w;rw[wpOps_cons];refine kg (i:=0) rfl g1 ?_;obtain⟨Vc,Cm⟩:=qB hr hn dh d1 (dh.dst b3) (.inl p1) (tv:= .v (.d (.sl e ks) xs)) h0;refine Cm _ _ fun Z1 O7 a1 w1 hr1 Uz=>?_
 rw[wpOps_cons];refine kg (i:=1) rfl g2 ?_;have ht3:look (st.ba t3 (.v (.d (.sl e ks) xs),none)).tm t3=some (.v (.d (.sl e ks) xs)):=by rw[cC,if_pos rfl]
 have hv:=(hr1.tm t3 _ ht3).2;obtain⟨a0,c0,e1,e2,e3,e4,_⟩:=(show RO Z1 w1 (.sl e ks) xs (a1.tmps.getD t3 undef)from hv);obtain⟨dd,hu,mW⟩:=(hT ty _ iy).desc;have Ye:∃ q,P.underlying ty=some (.slice q):=by cases dd <;> simp[jE]at mW;exact⟨_,hu⟩
 obtain⟨q,Ye⟩:=Ye;have au:(execOp a1.eval o2).run P w1= .ok (.value (.bool a0.isNone)) w1:=by
  have hev:a1.eval (.tmp t3)= .slice a0 (aW xs).length c0:=e1;have hg:(eqGuard .eql ty (.tmp t3) (.const (.slice none 0 0)) (.slice a0 (aW xs).length c0) (.slice none 0 0)).run P w1= .ok () w1:=by unfold eqGuard;simp
  have he:(Op.equal ty (.slice a0 (aW xs).length c0) (.slice none 0 0)).run P w1= .ok a0.isNone w1:=by show(Op.equalIn (9999+1) ty _ _).run P w1=_;unfold Op.equalIn;cases a0 <;> simp[amM Ye]
  obtain⟨v,e1',e2'⟩:∃ v,((do eqGuard .eql ty (.tmp t3) (.const (.slice none 0 0)) (a1.eval (.tmp t3)) (a1.eval (.const (.slice none 0 0)));binOp .eql ty (a1.eval (.tmp t3)) (a1.eval (.const (.slice none 0 0)))):Sem Value).run P w1= .ok v w1/\v= .bool a0.isNone:=by have alI:a1.eval (.const (.slice none 0 0))= .slice none 0 0:=rfl;rw[hev,alI];exact⟨.bool a0.isNone,by simp[hg,binOp,he],rfl⟩
  subst e2';simp only[execOp,p2,amJ,e1',amu];rfl
 have hq:=cK (o:=o2) hr1 d2 (Uz.dst b4) au (tv:= .v (.d .bool a0.isNone)) (show RO Z1 w1 .bool _ _ from rfl);refine hq _ _ fun Z2 Yc v2 w2 Fs=>?_
 refine⟨rfl,a0.isNone,fun hb=>?_,fun t tv ht=>?_,Uz.put _ _,Z2,Yc,Fs⟩
 . have:a0=none:=by cases a0 <;> simp_all
   have:=e4 this;exact am2.1 (by omega)
 . rw[cC]at ht;split at ht
   . simp only[amh]at ht;subst ht;exact fun h=>h
   . exact Vc t tv ht
theorem Jf (hT:cH P E) (eF:dQ P E) (hm:P.follows .mixedOrders = true) {f:Nat} {fn:Func} {c0 cc c3:Code} {id:Nat} {o1 o2:Oper} (hf:P.funcs[f]? = some fn) (iw:(fn.name == "runtime.NumGoroutine") = false) (hb:fn.body = some (.seq c0 (.seq (.seq (.region id #[o1, o2] false) cc) c3))) (Mj:E.nt = fn.ntmps)
 (Il:dS P E c0) (hlc:dS P E cc) (hl3:dS P E c3) {t0 t3 t4 ty Yp e e' HV:Nat} {fl:List (Nat×Nat)} {ks:List K}
 (d1:o1.dst=some t3) (p1:o1.op= .move (.tmp t0)) (g1:o1.guard=none) (d2:o2.dst=some t4) (p2:o2.op= .binOp .eql ty (.tmp t3) (.const (.slice none 0 0)) Yp) (g2:o2.guard=none)
 (b3:E.dB t3=true) (b4:E.dB t4=true) (iy:E.ti ty=some ⟨false,[.sl e ks],e',HV,fl⟩)
 {s:Su} (ca:PT s.ps->St) (xs:PT s.ps->T (.sl e ks)) (h0:∀ x,(da E c0 (start s.ps x)).run=some (.qP (ca x))) (h1:∀ x,(ca x).tv t0=some (.v (.d (.sl e ks) (xs x))))
 (hs:∀ x y,s.v7 x=some y->∀ b,(b=true->aW (xs x)=[])->∃ z,(nh s.ps=true->z=y.1)/\((da E (.seq cc c3) (((ca x).ba t3 (.v (.d (.sl e ks) (xs x)),none)).ba t4 (.v (.d .bool b),none))).bind (Gi E fn.results.toList s.ps s.rs s.fresh)).run=some (z,y.2)):lV P f s:=by
 have hW:=xl hT eF;refine Da hT hf iw hb Mj fun x y hy=>?_
 refine⟨y.1,fun _=>rfl,fun cx a w hg=>?_⟩;refine wp_seq (wp_mono (cr hT eF hW hm (x4 E) c0 _ _ _ _ Il hg (h0 x)) fun ex a1 w1 hq=>?_);cases ex <;> first | exact hq.elim | skip
 refine wp_seq (wp_seq (wp_mono (Bj hT hq d1 p1 g1 d2 p2 g2 b3 b4 iy (h1 x)) fun ex a2 w2 Cl=>?_));obtain⟨rfl,b,yQ,Pb⟩:=Cl;obtain⟨z,hz,au⟩:=hs x y hy b yQ;rw[Tr.run_bind]at au;cases ho:(da E (.seq cc c3) (((ca x).ba t3 (.v (.d (.sl e ks) (xs x)),none)).ba t4 (.v (.d .bool b),none))).run with
 | none=>rw[ho]at au;simp at au
 | some ou=>
   rw[ho]at au;simp only[oB]at au;have Km:(Gi E fn.results.toList s.ps s.rs s.fresh ou).run=some (y.1,y.2):=by
    cases hh:nh s.ps with
    | true=>rw[<- hz hh];exact au
    | false=>rw[Ao _ hh y.1 z];exact au
   simp only[da]at ho;rw[Tr.run_bind]at ho;cases hc:(da E cc (((ca x).ba t3 (.v (.d (.sl e ks) (xs x)),none)).ba t4 (.v (.d .bool b),none))).run with
   | none=>rw[hc]at ho;simp at ho
   | some oc=>
     rw[hc]at ho;simp only[oB]at ho;refine wp_mono (cr hT eF hW hm (x4 E) cc _ _ _ _ hlc Pb hc) fun ex a3 w3 UA=>?_
     cases oc with
     | qP ay=>
       cases ex <;> first | exact UA.elim | skip
       exact wp_mono (cr hT eF hW hm (x4 E) c3 _ _ _ _ hl3 UA ho) fun ex a4 w4 hq4=>⟨ou,hq4,Km⟩
     | ext E7 ay=>simp only[Tr.run,amh]at ho;subst ho;cases ex <;> first | exact UA.elim | exact⟨_,UA,Km⟩
     | ret ay=>simp only[Tr.run,amh]at ho;subst ho;cases ex <;> first | exact UA.elim | exact⟨_,UA,Km⟩
end
def WY(st:St)(t:Nat)(e:TypeId)(ks:List K):Option (List (Tl ks)):=match look st.tm t with
 | some (.bc r j s m e' bZ x)=>(match st.cell r j with
   | some c=>bif Nat.beq c.s s&&Nat.beq c.m m then gJ (.sl e' bZ) (.sl e ks) x else none
   | none=>none)
 | some (.v .nil)=>some []
 | _=>none
def Tw(o:Ou)(t:Nat)(e:TypeId)(ks:List K):Option (List (Tl ks)):=match o with
 | .ret st=>WY st t e ks
 | .qP st=>WY st t e ks
 | .ext _ _=>none
section
variable{P:Program}{E:En}
theorem afw (hT:cH P E) (eF:dQ P E) (hm:P.follows .mixedOrders = true) {f:Nat} {fn:Func} {c0 cc c3:Code} {id t:Nat} {o1 o2:Oper} (hf:P.funcs[f]? = some fn) (iw:(fn.name == "runtime.NumGoroutine") = false) (hb:fn.body = some (.seq c0 (.seq (.seq (.region id #[o1, o2] false) cc) c3))) (Mj:E.nt = fn.ntmps) (Up:fn.results = #[.tmp t])
 (Il:dS P E c0)(hlc:dS P E cc)(hl3:dS P E c3){t0 t3 t4 ty Yp e' HV:Nat}{fl:List (Nat×Nat)}
 (d1:o1.dst=some t3)(p1:o1.op= .move (.tmp t0))(g1:o1.guard=none)(d2:o2.dst=some t4)(p2:o2.op= .binOp .eql ty (.tmp t3) (.const (.slice none 0 0)) Yp)(g2:o2.guard=none)
 (b3:E.dB t3=true)(b4:E.dB t4=true){s:Sc}(iy:E.ti ty=some ⟨false,[.sl s.e s.ks],e',HV,fl⟩)
 (ca:List (Tl s.ks)->St)(h0:∀ x,(da E c0 (start [.c false [.sl s.e s.ks]] ((x,()),()))).run=some (.qP (ca x)))(h1:∀ x,(ca x).tv t0=some (.v (.d (.sl s.e s.ks) x)))
 (hs:∀(x:List (Tl s.ks)) (b:Bool),((da E (.seq cc c3) (((ca x).ba t3 (.v (.d (.sl s.e s.ks) x),none)).ba t4 (.v (.d .bool b),none))).bind fun ou=>Tr.cu (Tw ou t s.e s.ks) .ret).run=cond b (some []) (cond (bk s.HV ([]:List (Tl s.ks)) x) (some x) none)):Je P f s:=by
 have hW:=xl hT eF;intro w Z v x yR ur hZ iV;rw[MuLone.run_callFunc_enter hf iw hb];show Calls P f #[v] w _;have cF:ej Z w (fun _ _=>False) [.c false [.sl s.e s.ks]] ((x,()),()) #[v].toList 0:=⟨⟨[v],rfl,ur,trivial⟩,trivial⟩;refine calls_of_wp hf hb ?_;have dh:fn.ntmps<=((#[v]:Array Value)++Array.replicate (fn.ntmps-(#[v]:Array Value).size) undef).size:=by simp;omega
 have lF:∀ j u,(#[v]:Array Value).toList[j]? = some u->0+j<((#[v]:Array Value)++Array.replicate (fn.ntmps-(#[v]:Array Value).size) undef).size/\((#[v]:Array Value)++Array.replicate (fn.ntmps-(#[v]:Array Value).size) undef).getD (0+j) undef=u:=fun j u hj=>by
  rw[aml]at hj;have aV:j<(#[v]:Array Value).size:=by
   rcases amz j (#[v]:Array Value).size with h | h
   . exact h
   . simp[amC h]at hj
  rw[amt];refine⟨by simp at aV ⊢;omega,?_⟩;rw[amr,ane aV,hj];rfl
 obtain⟨g,eQ,_⟩:=iE (cx:=⟨w,fun b=>∃ i,(fun(_ _:Nat)=>False) i b,Z,fun _=>none,yR,fun _ _ _ ⟨_,h⟩=>h⟩) (F:=fun _ _=>False) (a:={ tmps:= #[v]++Array.replicate (fn.ntmps-(#[v]:Array Value).size) undef,defers:=[] }) rfl (fun t v ht=>by cases ht) rfl hZ (fun _ _ h=>h.elim) (fun _ _ _ h=>h.elim) _ _ _ 0 0 cF lF;have Uo:Good ⟨w,fun b=>∃ i,(fun(_ _:Nat)=>False) i b,Z,fun _=>none,yR,fun _ _ _ ⟨_,h⟩=>h⟩ E (start [.c false [.sl s.e s.ks]] ((x,()),())) { tmps:= #[v]++Array.replicate (fn.ntmps-(#[v]:Array Value).size) undef,defers:=[] } w:=
  ⟨fun t tv ht=>fy _ _ 0 t tv (ja _ _ _ ht),⟨by rw[Mj];exact dh,fun t v ht=>by cases ht⟩,Z,g,eQ⟩
 have fin:∀(st:St) (a:Act) (w':World),Good ⟨w,fun b=>∃ i,(fun(_ _:Nat)=>False) i b,Z,fun _=>none,yR,fun _ _ _ ⟨_,h⟩=>h⟩ E st a w'->WY st t s.e s.ks=some x ->
  a.defers=[]/\∃ v,(results fn a.tmps).run P w'= .ok v w'/\∃(Z':Nat->Prop) (H:Nat->Nat->Prop),CK w w' (fun _ _=>False) Z Z' H/\Sh Z' (H 0) w' s.ks x v:=by
  intro st a w' ⟨h1,h2,Z',g',h3⟩ hr;have hv:(results fn a.tmps).run P w'= .ok (a.tmps.getD t undef) w':=by unfold results;simp only[Up];simp
  have ahY:∀ H:Nat->Nat->Prop,(∀ n b,H n b->n=0/\∃ r j,g'.fp r j b)->CK w w' (fun _ _=>False) Z Z' H:=fun H hH=>
   { os:=h3.os,tape:=h3.tape,output:=h3.output,size:=h3.size,block:=fun b hb _=>h3.block b hb (fun⟨_,h⟩=>h),z:=fun b hb=>h3.z0 b hb (hZ b hb),cq:=fun b hb=>h3.cq b hb
     fp:=fun n b hb=>by obtain⟨_,r,j,hh⟩:=hH n b hb;obtain⟨q1,q2,q3,_⟩:=h3.fp _ _ _ hh;exact⟨q1,q3,q2⟩
     cS:=fun n m b hn hm=>(hH n b hn).1.trans (hH m b hm).1.symm }
  refine⟨h3.defers,_,hv,Z',?_⟩;unfold WY at hr;split at hr
  . rename_i r j s0 m e0 gn x0 ht;split at hr
    . rename_i c hc;cases hb:Nat.beq c.s s0&&Nat.beq c.m m with
      | false=>rw[hb]at hr;cases hr
      | true=>rw[hb]at hr;have hr:gJ (.sl e0 gn) (.sl s.e s.ks) x0=some x:=hr;simp only[ami]at hb;obtain⟨e1,hr⟩:=cN hr;cases e1;subst hr;obtain⟨c',c1,_,_,c4⟩:=(h3.tm t _ ht).2;rw[hc]at c1;cases c1;exact⟨fun n b=>n=0/\g'.fp r j b,ahY _ fun n b hb=>⟨hb.1,r,j,hb.2⟩,Sh.mono (oR _) (fun b hb _=>⟨hb,rfl⟩) (fun b hb _=>⟨⟨rfl,hb⟩,rfl⟩) (c4 (beq_eq hb.1) (beq_eq hb.2))⟩
    . simp at hr
  . rename_i ht;cases hr;have e1:a.tmps.getD t undef= .slice none 0 0:=(h3.tm t _ ht).2;rw[e1];exact⟨fun _ _=>False,ahY _ fun _ _ h=>h.elim,none,0,rfl,oR _,amv _,fun _=>rfl,fun a' ha=>by cases ha⟩
  . simp at hr
 refine wp_seq (wp_mono (cr hT eF hW hm (x4 E) c0 _ _ _ _ Il Uo (h0 x)) fun ex a1 w1 hq=>?_);cases ex <;> first | exact hq.elim | skip
 refine wp_seq (wp_seq (wp_mono (Bj hT hq d1 p1 g1 d2 p2 g2 b3 b4 iy (h1 x)) fun ex a2 w2 Cl=>?_));obtain⟨rfl,b,yQ,Pb⟩:=Cl;have au:cond b (some []) (cond (bk s.HV ([]:List (Tl s.ks)) x) (some x) none)=some x:=by
  cases b with
  | true=>have hx:x=[]:=yQ rfl;rw[hx];rfl
  | false=>
    have:bk s.HV ([]:List (Tl s.ks)) x=true:=amq (by simpa using iV)
    rw[this];rfl
 rw[<- hs x b,Tr.run_bind]at au;obtain⟨ou,ho,Ie⟩:∃ ou,(da E (.seq cc c3) (((ca x).ba t3 (.v (.d (.sl s.e s.ks) x),none)).ba t4 (.v (.d .bool b),none))).run=some ou/\Tw ou t s.e s.ks=some x:=by obtain⟨ou,h1,h2⟩:=anA.1 au;obtain⟨y,h3,h4⟩:=Tr.ai h2;cases h4;exact⟨ou,h1,h3⟩
 simp only[da]at ho;rw[Tr.run_bind]at ho;cases hc:(da E cc (((ca x).ba t3 (.v (.d (.sl s.e s.ks) x),none)).ba t4 (.v (.d .bool b),none))).run with
 | none=>rw[hc]at ho;simp at ho
 | some oc=>
   rw[hc]at ho;simp only[oB]at ho;refine wp_mono (cr hT eF hW hm (x4 E) cc _ _ _ _ hlc Pb hc) fun ex a3 w3 UA=>?_
   cases oc with
   | qP ay=>
     cases ex <;> first | exact UA.elim | skip
     refine wp_mono (cr hT eF hW hm (x4 E) c3 _ _ _ _ hl3 UA ho) fun ex a4 w4 hq4=>?_
     cases ou with
     | ext id st=>simp[Tw]at Ie
     | qP st=>cases ex <;> first | exact hq4.elim | exact fin st a4 w4 hq4 Ie
     | ret st=>cases ex <;> first | exact hq4.elim | exact fin st a4 w4 hq4 Ie
   | ext E7 ay=>simp only[Tr.run,amh]at ho;subst ho;simp[Tw]at Ie
   | ret ay=>simp only[Tr.run,amh]at ho;subst ho;cases ex <;> first | exact UA.elim | exact fin ay a3 w3 UA Ie
end
def UW{α:Type}(d:α)(xs:List α)(n:Nat):List α:=xs.take n++List.replicate (xs.length-n) d
theorem Lg{α:Type}(d:α)(xs:List α)(n:Nat)(h:n<=xs.length):(UW d xs n).length=xs.length:=by simp[UW];omega
theorem WV{α:Type}(d:α)(xs:List α)(n:Nat)(h:n<=xs.length)(i:Nat)(x:α)(hx:(UW d xs n)[i]? = some x):(i<n/\xs[i]? = some x)∨(n<=i/\i<xs.length/\x=d):=by
 unfold UW at hx;rw[List.getElem?_append]at hx;simp only[am9,ao1 h]at hx;split at hx
 . rename_i hi;rw[anp]at hx;rw[if_pos hi]at hx;exact .inl ⟨hi,hx⟩
 . rename_i hi;rw[aoS]at hx;split at hx
   . rename_i h2;simp only[amh]at hx;exact .inr ⟨by omega,by omega,hx.symm⟩
   . simp at hx
theorem kf:∀(vs:List Value) (b o:Nat) (w:World) (i:Nat),(w.setCells b o vs).heap[i]? = if b=i then (w.heap[i]?).map (fun | .cells c el fr=> .cells (setFrom c o vs) el fr | x=>x)else w.heap[i]?
 | [],b,o,w,i=>by
   show w.heap[i]? = _;split
   . cases h:w.heap[i]? with
     | none=>rfl
     | some x=>cases x <;> rfl
   . rfl
 | v::r,b,o,w,i=>by
   show((w.setCell ⟨b,o,none⟩ v).setCells b (o+1) r).heap[i]? = _;rw[kf r b (o+1) _ i];simp only[eb];by_cases e:b=i
   . rw[if_pos e,if_pos e,if_pos e];cases h:w.heap[i]? with
     | none=>rfl
     | some x=>cases x <;> rfl
   . rw[if_neg e,if_neg e,if_neg e]
theorem xD:∀(vs:List Value) (b o:Nat) (w:World),(w.setCells b o vs).os=w.os/\(w.setCells b o vs).tape=w.tape/\(w.setCells b o vs).output=w.output/\(w.setCells b o vs).heap.size=w.heap.size
 | [],_,_,_=>⟨rfl,rfl,rfl,rfl⟩
 | v::r,b,o,w=>by obtain⟨h1,h2,h3,h4⟩:=xD r b (o+1) (w.setCell ⟨b,o,none⟩ v);exact⟨h1,h2,h3,h4.trans (by simp[World.setCell])⟩
theorem vI{z:Array Value}{ks:List K}(hz:z.toList=ks.map zV)(n:Nat)(j:Nat)(hj:j<n * ks.length):(Builtin.zeroCells z n).toList[j]? = (ks.map zV)[j % ks.length]? :=by
 have hl:z.size=ks.length:=by rw[<- amT,hz];simp
 have Kg:0<ks.length:=by
  rcases aob ks.length with h | h
  . rw[h]at hj;simp at hj
  . exact h
 unfold Builtin.zeroCells;rw[aml];simp only[Array.getElem?_map,hl];have:(Array.range (n * ks.length))[j]? = some j:=by simp[hj]
 rw[this];have hm:j % ks.length<ks.length:=Nat.mod_lt _ Kg;simp only[amI];rw[<- hz,aml];rw[Array.getElem!_eq_getD];simp[amr,hl,hm]
section
variable{P:Program}{E:En}{cx:Cx P}{w w':World}
theorem Ob{e:TypeId}{ks:List K}{xs:T (.sl e ks)}{b o l cap:Nat}{F:Nat->Prop}(h:dG w (.sl e ks) xs (.slice (some ⟨b,o,none⟩) l cap) F){n:Nat}(hn:n<=(aW xs).length){zs:List Value}(hz:∀ j,j<((aW xs).length-n) * ks.length->zs[j]? = (ks.map zV)[j % ks.length]?)(hzl:zs.length=((aW xs).length-n) * ks.length)(hF:∀ q,F q->q<w.heap.size) :
 F b/\(∃ cs el fr,w.heap[b]? = some (.cells cs el fr)/\(∀ q,q<cs.size->¬ (fr.1<=q/\q<fr.2))/\o+n * ks.length+zs.length<=cs.size)/\dG (w.setCells b (o+n * ks.length) zs) (.sl e ks) (UW (jv ks) (aW xs) n) (.slice (some ⟨b,o,none⟩) l cap) F:=by
 obtain⟨a',c0,h1,h2,h3,h4,h5⟩:=h;simp only[anj]at h1;obtain⟨rfl,rfl,rfl⟩:=h1;obtain⟨b',o',cs,el,fr,g1,g2,g3,g4,g5,G,g6,g7,g8⟩:=h5 _ rfl;simp only[anJ,anQ]at g1;obtain⟨rfl,rfl⟩:=g1;have hlen:(aW (e:=e) (ks:=ks) (UW (jv ks) (aW xs) n)).length=(aW xs).length:=Lg _ _ _ hn;have iV:o+n * ks.length+zs.length<=cs.size:=by rw[hzl,Nat.sub_mul];have O9:(aW xs).length * ks.length<=cap * ks.length:=amL _ h2;have h3':n * ks.length<=(aW xs).length * ks.length:=amL _ hn;omega
 refine⟨g2,⟨cs,el,fr,g3,fun q hq=>g4 q (Nat.lt_add_right _ hq),iV⟩,_,cap,by rw[hlen],by rw[hlen];exact h2,by rw[hlen];exact h3,h4,fun a'' H8=>?_⟩;simp only[amh]at H8;subst H8;refine⟨b,o,setFrom cs (o+n * ks.length) zs,el,fr,rfl,g2,?_,?_,?_,fun i j q=>i<n/\G i j q,fun i j q hq=>g6 i j q hq.2,fun i j i' j' q hq wb=>g7 i j i' j' q hq.2 wb.2,fun i x hx=>?_⟩
 . rw[kf,if_pos rfl,g3];rfl
 . intro q hq;rw[cX]at hq;exact g4 q hq
 . rw[cX];exact g5
 . rcases WV _ _ _ hn i x hx with ⟨hi,lQ⟩ | ⟨hi,Dp,rfl⟩
   ·
    have vS:=g8 i x lQ;have aV:o+i * ks.length+ks.length<=o+n * ks.length:=by have:(i+1) * ks.length<=n * ks.length:=amL _ hi;rw[amV]at this;omega
    have key:∀(bZ:List K) (y:Tl bZ) (j p:Nat),p+bZ.length<=o+n * ks.length->gx w bZ y j (G i) cs p->gx (w.setCells b (o+n * ks.length) zs) bZ y j (fun j q=>i<n/\G i j q) (setFrom cs (o+n * ks.length) zs) p:=by
     intro bZ;induction bZ with
     | nil=>intro y j p _ _;trivial
     | cons k bZ ih=>
       intro y j p hp ⟨⟨v,q1,q2⟩,q3⟩;simp only[amw]at hp;refine⟨⟨v,?_,dG.frame k _ v (G i j) _ (fun q hq=>⟨hi,hq⟩) (fun q hq ama=>?_) q2⟩,ih y.2 (j+1) (p+1) (by omega) q3⟩
       . rw[du _ _ _ _ iV,if_neg (by omega)];exact q1
       . rw[kf,if_neg (fun e=>(g6 i j q hq).2 e.symm)]
    exact key ks x 0 _ (by omega) vS
   . refine ri ks 0 _ _ fun c v hc=>?_
     have xx:c<ks.length:=by
      rcases amz c ks.length with hh | hh
      . exact hh
      . rw[amA (by simpa using hh)]at hc;simp at hc
     have vV:(i-n) * ks.length+c<((aW xs).length-n) * ks.length:=by have:(i-n+1) * ks.length<=((aW xs).length-n) * ks.length:=amL _ (by omega);rw[amV]at this;omega
     have alJ:o+i * ks.length+c=o+n * ks.length+((i-n) * ks.length+c):=by
      have:i * ks.length=n * ks.length+(i-n) * ks.length:=by rw[<- amV];congr 1;omega
      omega
     rw[du _ _ _ _ iV,if_pos (by rw[hzl];omega),alJ,am6,hz _ vV,aoN,Nat.mul_add_mod,aoE xx];exact hc
end
def nI{α:Type}(d:α)(xs:List α)(n:Int):List α:=UW d xs n.toNat
def wM(ta tb tc t0 tI:Nat)(tks:List K)(st:St):Tr St:=match st.tv t0,st.tv tI with
 | some (.v (.ref r j s)),some (.v (.d (.int k) n))=>(match st.cell r j with
   | some ⟨s',m,.own (.sl e ks) xs⟩=>bif Nat.beq s' s&&K.mm ks tks then .need (jS n (aW xs).length (aW xs).length)
      (.ret ((((st.ba ta (.v (.ref r j s),none)).ba tb (.v (.d (.int k) n),none)).ba tc (.v .dead,none)).setCell r j ⟨s',m+1,.own (.sl e ks) (nI (jv ks) (aW xs) n)⟩))else .fail
   | _=> .fail)
 | _,_=> .fail
section
variable{P:Program}{E:En}{cx:Cx P}
theorem CR(hT:cH P E){rid ta tb tc t0 tI ty:Nat}{te:TI}{o1 o2 o3 o4:Oper}{c:Call}(hty:E.sl ty=some te)
 (d1:o1.dst=some ta)(p1:o1.op= .move (.tmp t0))(g1:o1.guard=none)(d2:o2.dst=some tb)(p2:o2.op= .move (.tmp tI))(g2:o2.guard=none)
 (d3:o3.dst=some tc)(p3:o3.op= .slice ty (.tmp ta) (some (.tmp tb)) none none)(g3:o3.guard=none)
 (d4:o4.dst=none)(p4:o4.op= .call c)(g4:o4.guard=none)(fe:c.callee= .builtin .clear)(cF:c.args.toList=[.tmp tc])(yN:c.argTypes.toList=[ty])
 (b1:E.dB ta=true)(b2:E.dB tb=true)(b3:E.dB tc=true)(n1:Nat.beq ta tI=false)(n2:Nat.beq ta tb=false) :
 dA P E (.region rid #[o1,o2,o3,o4] false) (wM ta tb tc t0 tI te.ks):=by
 intro cx a w st ay h au;unfold wM at au;split at au
 . rename_i r j s k n alK UB;split at au
   . rename_i s' m e ks xs bD;cases hb:Nat.beq s' s&&K.mm ks te.ks with
     | false=>rw[hb]at au;simp[Tr.run]at au
     | true=>
       rw[hb]at au;simp only[oT]at au;simp only[ami]at hb;obtain⟨hk,au⟩:=Tr.bT au;simp only[Tr.run,amh]at au;subst au;have es:=beq_eq hb.1;subst es;have ad6:=K.la _ _ hb.2;subst ad6;obtain⟨hn,dh,Z,g,hr⟩:=h;obtain⟨k0,k1,k2⟩:=jM hk;refine wp_region ?_;show wpOps P #[o1,o2,o3,o4] _ [0,1,2,3] a w;rw[wpOps_cons];refine kg (i:=0) rfl g1 ?_;obtain⟨Vc,Cm⟩:=qB hr hn dh d1 (dh.dst b1) (.inl p1) (tv:= .v (.ref r j s')) alK;refine Cm _ _ fun Z1 gg1 a1 w1 hr1 Uz=>?_
       rw[wpOps_cons];refine kg (i:=1) rfl g2 ?_;have htI:(st.ba ta (.v (.ref r j s'),none)).get (.tmp tI)=some (.v (.d (.int k) n)):=by
        show(st.ba ta (.v (.ref r j s'),none)).tv tI=_;unfold St.tv at UB ⊢;rw[cC,if_neg (ant n1)];split at UB
        . rename_i q want y gg l hq;cases Cl:look st.tm q with
          | none=>rw[Cl]at UB;simp at UB
          | some tq=>exact absurd trivial (hn tI _ hq)
        . exact UB
       obtain⟨hn2,hw2⟩:=qB hr1 Vc Uz d2 (Uz.dst b2) (.inl p2) htI;refine hw2 _ _ fun Z2 Yq a2 w2 Fs UC=>?_
       rw[wpOps_cons];refine kg (i:=2) rfl g3 ?_;have OX:((st.ba ta (.v (.ref r j s'),none)).ba tb (.v (.d (.int k) n),none)).cell r j=some ⟨s',m,.own (.sl e te.ks) xs⟩:=bD;have hta:look ((st.ba ta (.v (.ref r j s'),none)).ba tb (.v (.d (.int k) n),none)).tm ta=some (.v (.ref r j s')):=by rw[cC,if_neg (fun e=>(ant n2) e.symm),cC,if_pos rfl]
       have htb:look ((st.ba ta (.v (.ref r j s'),none)).ba tb (.v (.d (.int k) n),none)).tm tb=some (.v (.d (.int k) n)):=by rw[cC,if_pos rfl]
       have va:a2.eval (.tmp ta)=Yq.cv r j:=by obtain⟨c1,q1,_,q3⟩:=(Fs.tm ta _ hta).2;rw[OX]at q1;cases q1;exact q3 rfl
       have kn:dG w2 (.sl e te.ks) xs (Yq.cv r j) (Yq.fp r j):=Fs.cell r j _ OX;have ahZ:=kn;obtain⟨aa,cap,v1,v2,v3,v4,v5⟩:=ahZ;obtain⟨tt,kss,t1,t2,t3,t4,hu⟩:=j5 hT hty;have hs:=fun w=>dz (hT _ te t4) (P:=P) w
       have hlh:o6 ((st.ba ta (.v (.ref r j s'),none)).ba tb (.v (.d (.int k) n),none)) (some (.tmp tb)) none (aW xs).length=some (n,((aW xs).length:Int)):=by
        have:((st.ba ta (.v (.ref r j s'),none)).ba tb (.v (.d (.int k) n),none)).get (.tmp tb)=some (.v (.d (.int k) n)):=by show St.tv _ tb=_;unfold St.tv;rw[htb]
        simp only[o6,this,TV.int?,AV.int?];rfl
       have ad7:(execOp a2.eval o3).run P w2= .ok (.value (.slice (if cap=n.toNat then aa else aa.map (·.add (n.toNat * te.ks.length))) ((aW xs).length-n.toNat) (cap-n.toNat))) w2:=by have:=C6 hu hs (aa:=aa) (sO (P:=P) Fs hn2.cons.cons true hlh hk v2);simp only[aoo]at this;simp only[execOp,p3,va,v1,aoo,amJ,this,amu];rfl
       unfold Oper.wp;rw[ad7,anl,d3];generalize ah0:(Value.slice (if cap=n.toNat then aa else aa.map (·.add (n.toNat * te.ks.length))) ((aW xs).length-n.toNat) (cap-n.toNat))=v38;have hr3:=Fs.nS (d:=tc) (tv:= .v .dead) (v:=v38) (UC.dst b3) trivial;have alL:Fit cx E (a2.put (some tc) v38):=UC.put _ _;rw[wpOps_cons];refine kg (i:=3) rfl g4 ?_;have htc:(a2.put (some tc) v38).eval (.tmp tc)=v38:=by have:=(UC.dst b3).1;simp[Act.put,Act.eval,amr,this]
       have hgF:∀ q,Yq.fp r j q->q<w2.heap.size:=fun q hq=>(Fs.fp r j q hq).1
       have ad8:∃ w4,(execOp (a2.put (some tc) v38).eval o4).run P w2= .ok (.value (.tuple #[])) w4/\w4.os=w2.os/\w4.tape=w2.tape/\w4.output=w2.output/\w4.heap.size=w2.heap.size/\(∀ b,¬ Yq.fp r j b->w4.heap[b]? = w2.heap[b]?)/\dG w4 (.sl e te.ks) (nI (jv te.ks) (aW xs) n) (Yq.cv r j) (Yq.fp r j):=by
        have iv:c.args = #[.tmp tc]:=by rw[<- anh (xs:=c.args),cF]
        have Kh:c.argTypes[0]? = some ty:=by rw[<- aml,yN];rfl
        have fin:∀ w4,(Builtin.clear_ c.argTypes o4.type #[v38]).run P w2= .ok (.tuple #[]) w4->(execOp (a2.put (some tc) v38).eval o4).run P w2= .ok (.value (.tuple #[])) w4:=fun w4 hh=>by simp only[execOp,p4,resolve,fe,iv,anZ,amS,aok,amJ,amR,amu,invoke,builtin,htc,hh]
        rcases aob ((aW xs).length-n.toNat)with hz | Kg
        . refine⟨w2,fin w2 ?_,rfl,rfl,rfl,rfl,fun _ _=>rfl,?_⟩
          . rw[<- ah0,hz];simp only[Builtin.clear_,Kh,amU,amn,amJ,amM hu,amu];cases hq:(if cap=n.toNat then aa else aa.map (·.add (n.toNat * te.ks.length))) <;> simp
          . have he:nI (jv te.ks) (aW xs) n=aW xs:=by
             unfold nI UW;rw[hz,anU (by omega)];simp
            rw[he];exact kn
        . have haa:∃ b o,aa=some ⟨b,o,none⟩:=by
           cases aa with
           | none=>have:=v4 rfl;omega
           | some a'=>obtain⟨b,o,_,_,_,e1,_⟩:=v5 a' rfl;exact⟨b,o,by rw[e1]⟩
          obtain⟨b,o,rfl⟩:=haa;obtain⟨z,yO,Mi⟩:=uV (hT _ te t4) (P:=P) w2;have aa1:=kn;rw[v1]at aa1;have hzl:(Builtin.zeroCells z.cells ((aW xs).length-n.toNat)).toList.length=((aW xs).length-n.toNat) * te.ks.length:=by rw[amT,size_zeroCells,<- amT (xs:=z.cells),Mi];simp
          obtain⟨c1,⟨cs,el,fr,c2,c3,c4⟩,c5⟩:=Ob aa1 (n:=n.toNat) (by omega) (zs:=(Builtin.zeroCells z.cells ((aW xs).length-n.toNat)).toList) (fun j hj=>vI Mi _ j hj) hzl hgF;have ON:∀ v∈(Builtin.zeroCells z.cells ((aW xs).length-n.toNat)).toList,v.oneCell'=true:=fun v hv=>by
           obtain⟨i,hi,hv⟩:=List.getElem_of_mem hv;rw[hzl]at hi;have h1:=vI Mi _ i hi;rw[amm (by rw[hzl];exact hi),hv,amX]at h1;cases hk0:te.ks[i % te.ks.length]? with
           | none=>rw[hk0]at h1;simp at h1
           | some k0=>rw[hk0]at h1;simp only[amI,amh]at h1;rw[h1];cases k0 <;> rfl
          have BS:=run_storeCells_cells (P:=P) b (o+n.toNat * te.ks.length) (Builtin.zeroCells z.cells ((aW xs).length-n.toNat)).toList 0 w2 (fun j hj=>by
           simp only[World.cell?,amN,c2];simp;omega) (fun j hj=>by
           simp only[World.frozen?,amN,c2];simp only[aoC,aoj];have:=c3 (o+n.toNat * te.ks.length+j) (by omega);by_cases h:fr.1<=o+n.toNat * te.ks.length+j
           . exact .inr fun h'=>this ⟨h,h'⟩
           . exact .inl h) ON
          rw[amN]at BS;obtain⟨w1',w2',w3',w4'⟩:=xD (Builtin.zeroCells z.cells ((aW xs).length-n.toNat)).toList b (o+n.toNat * te.ks.length) w2;refine⟨_,fin _ ?_,w1',w2',w3',w4',fun b' cz=>?_,by rw[v1];exact c5⟩
          . rw[<- ah0];have cY:cap≠n.toNat:=by omega
            obtain⟨q,hq⟩:∃ q,(aW xs).length-n.toNat=q+1:=⟨(aW xs).length-n.toNat-1,by omega⟩;simp only[if_neg cY,amI,gO,Builtin.clear_,Kh,amU,amn,amJ,amM hu,amu,hq];rw[hq]at BS;simp only[yO,amJ,amu,BS,amR]
          . rw[kf,if_neg];intro e;subst e;exact cz c1
       obtain⟨w4,q1,q2,q3,q4,q5,q6,q7⟩:=ad8;unfold Oper.wp;rw[q1,anl,d4];have Uy:=je (g:=Yq) (F:=fun _ _=>False) (G:=fun _ _=>False) (st:=((st.ba ta (.v (.ref r j s'),none)).ba tb (.v (.d (.int k) n),none)).ba tc (.v .dead,none)) [(r,j,(⟨s',m+1,.own (.sl e te.ks) (nI (jv te.ks) (aW xs) n)⟩:RC))] 0;have xx:(nI (jv te.ks) (aW xs) n).length=(aW xs).length:=Lg _ _ _ (by omega)
       obtain⟨hR,_⟩:=hr3.vz Uy q2 q3 q4 (aol q5.symm)
        (fun r1 j1 p hp=>by
          obtain⟨i,e1,e2⟩:=fA _ 0 r1 j1 p hp;cases i with
          | succ i=>simp at e1
          | zero=>simp only[amn,amh,amO]at e1;obtain⟨rfl,rfl,e3⟩:=e1;rw[<- e3];refine⟨_,OX,rfl,ani _,e,te.ks,xs,_,rfl,rfl,xx,?_⟩;rw[e2];exact dG.frame _ _ _ _ _ (fun b hb=> .inl ⟨hb,fun h=>h⟩) (fun _ _ _=>rfl) q7)
        (fun r1 j1 p hp b hb=>by
          obtain⟨i,e1,e2⟩:=fA _ 0 r1 j1 p hp;rw[e2]at hb;rcases hb with ⟨hb,_⟩ | hb
          . exact⟨by rw[q5];exact(Fs.fp _ _ _ hb).1,.inl ⟨r1,j1,p,hp,hb⟩,(Fs.fp _ _ _ hb).2.2.1⟩
          . exact hb.elim)
        (fun r1 j1 p r2 j2 p' b hp hp' hb cz=>by
          obtain⟨i,e1,e2⟩:=fA _ 0 r1 j1 p hp;obtain⟨i',e1',e2'⟩:=fA _ 0 r2 j2 p' hp';rw[e2]at hb;rw[e2']at cz;rcases hb with ⟨hb,_⟩ | hb
          . rcases cz with ⟨cz,_⟩ | cz
            . exact Fs.cS _ _ _ _ b hb cz
            . exact cz.elim
          . exact hb.elim)
        (fun b hb BO=>q6 b fun hh=>by obtain⟨p0,BZ⟩:=wk (g:=Yq) (F:=fun _ _=>False) (G:=fun _ _=>False) [(r,j,(⟨s',m+1,.own (.sl e te.ks) (nI (jv te.ks) (aW xs) n)⟩:RC))] 0 0 r j _ rfl;exact BO r j p0 BZ hh)
       refine⟨fun t tv ht=>?_,alL,Z2,_,hR⟩;have ht:look (((st.ba ta (.v (.ref r j s'),none)).ba tb (.v (.d (.int k) n),none)).ba tc (.v .dead,none)).tm t=some tv:=by rw[fH]at ht;exact ht
       rw[cC]at ht;split at ht
       . simp only[amh]at ht;subst ht;exact fun h=>h
       . exact hn2 t tv ht
   . simp[Tr.run]at au
 . simp[Tr.run]at au
end
section
variable{P:Program}{w w':World}
theorem rb{dT sT ty elem:TypeId}{te:TI}(hu:P.underlying dT=some (.slice elem))(r8:rH P elem te){b o dLen dCap b2 o2 sLen sCap n:Nat}{cs:List Value}(hm:Nat.min sLen dLen=n)(hn:cs.length=n * te.ks.length)
 (ah1:∀ j v,cs[j]? = some v->w.cell? ⟨b2,o2+j,none⟩=some v)(hc:∀ j,j<cs.length->(w.cell? ⟨b,o+j,none⟩).isSome=true)(hf:∀ j,j<cs.length->w.frozen? ⟨b,o+j,none⟩=false)(h1:∀ v∈cs,v.oneCell'=true) :
 (Builtin.copy_ #[dT,sT] ty #[.slice (some ⟨b,o,none⟩) dLen dCap,.slice (some ⟨b2,o2,none⟩) sLen sCap]).run P w= .ok (goInt n) (w.setCells b o cs):=by
 have hl:=run_loadCells_list (P:=P) w ⟨b2,o2,none⟩ cs (fun j v hj=>by rw[gO];exact ah1 j v hj);have mS:=run_storeCells_cells (P:=P) b o cs 0 w (by simpa using hc) (by simpa using hf) h1;rw[amN]at mS;have hfc:(Builtin.firstCells te.ks.length n (.slice (some ⟨b2,o2,none⟩) sLen sCap)).run P w= .ok cs.toArray w:=run_firstCells_some (P:=P) w _ _ ⟨b2,o2,none⟩ _ _ _ hn fun j v hj=>by rw[gO];exact ah1 j v hj
 simp only[Builtin.copy_,amU,amn,am7,amJ,amM hu,amu,Builtin.lenOf,amR,hm,dz r8,hfc,mS]
theorem yr{e:TypeId}{ks:List K}{xs ys:List (Tl ks)}{i:Nat}(hi:i<=xs.length){G H:Nat->Nat->Nat->Prop}{F FH F':Nat->Prop}{b0 b1 o o1 b o' cap:Nat}{cs cs1 fT:Array Value}{el:TypeId}{fr:Nat×Nat}
 (Mq:∀ i j b,G i j b->F b/\b≠b0)(hG2:∀ i j i' j' b,G i j b->G i' j' b->i=i'/\j=j')(hx:∀ i x,xs[i]? = some x->gx w ks x 0 (G i) cs (o+i * ks.length))
 (hH1:∀ i j b,H i j b->FH b/\b≠b1)(hH2:∀ i j i' j' b,H i j b->H i' j' b->i=i'/\j=j')(hy:∀ i y,ys[i]? = some y->gx w ks y 0 (H i) cs1 (o1+i * ks.length))(hFF:∀ q,FH q->¬ F q)
 (hb:w'.heap[b]? = some (.cells fT el fr))(yP:∀ q,q<fT.size+YK ks->¬ (fr.1<=q/\q<fr.2))(hF'b:F' b)(Iq:∀ q,F q->F' q)(ad1:∀ q,FH q->F' q)(hGb:∀ i j q,G i j q->q≠b)(Ym:∀ i j q,H i j q->q≠b)
 (qR:∀ q,q<w.heap.size->q≠b->(F q->q≠b0)->w'.heap[q]? = w.heap[q]?)
 (hA:∀ q,q<i * ks.length->fT[o'+q]? = cs[o+q]?)(hB:∀ q,q<ys.length * ks.length->fT[o'+i * ks.length+q]? = cs1[o1+q]?)(hC:∀ q,q<(xs.length-i) * ks.length->fT[o'+(i+ys.length) * ks.length+q]? = cs[o+i * ks.length+q]?)
 (vR:xs.length+ys.length<=cap)(dh:o'+cap * ks.length<=fT.size)(bo:xs.length+ys.length<=bQ) :
 dG w' (.sl e ks) (xs.take i++ys++xs.drop i) (.slice (some ⟨b,o',none⟩) (xs.length+ys.length) cap) F':=by
 have hlen:(aW (e:=e) (ks:=ks) (xs.take i++ys++xs.drop i)).length=xs.length+ys.length:=by show(xs.take i++ys++xs.drop i).length=_;simp;omega
 refine⟨_,cap,by rw[hlen],by rw[hlen];exact vR,by rw[hlen];exact bo,by simp,fun a' rX=>?_⟩;simp only[amh]at rX;subst rX;refine⟨b,o',fT,el,fr,rfl,hF'b,hb,yP,dh,fun j=>if j<i then G j else if j<i+ys.length then H (j-i)else G (j-ys.length),fun j c q hq=>?_,fun j c j' c' q h1 h2=>?_,fun j x hj=>?_⟩
 . dsimp only at hq;split at hq
   . exact⟨Iq q (Mq _ _ _ hq).1,hGb _ _ q hq⟩
   . split at hq
     . exact⟨ad1 q (hH1 _ _ _ hq).1,Ym _ _ q hq⟩
     . exact⟨Iq q (Mq _ _ _ hq).1,hGb _ _ q hq⟩
 . have hGH:∀ a c a' c',G a c q->H a' c' q->False:=fun a c a' c' h1 h2=>hFF q (hH1 _ _ _ h2).1 (Mq _ _ _ h1).1
   dsimp only at h1 h2;split at h1 <;> split at h2
   . exact hG2 _ _ _ _ _ h1 h2
   . split at h2
     . exact(hGH _ _ _ _ h1 h2).elim
     . obtain⟨e1,e2⟩:=hG2 _ _ _ _ _ h1 h2;exact⟨by omega,e2⟩
   . split at h1
     . exact(hGH _ _ _ _ h2 h1).elim
     . obtain⟨e1,e2⟩:=hG2 _ _ _ _ _ h1 h2;exact⟨by omega,e2⟩
   . split at h1 <;> split at h2
     . obtain⟨e1,e2⟩:=hH2 _ _ _ _ _ h1 h2;exact⟨by omega,e2⟩
     . exact(hGH _ _ _ _ h2 h1).elim
     . exact(hGH _ _ _ _ h1 h2).elim
     . obtain⟨e1,e2⟩:=hG2 _ _ _ _ _ h1 h2;exact⟨by omega,e2⟩
 . have BP:(xs.take i++ys++xs.drop i)[j]? = some x:=hj;have UD:∀ a c q,G a c q->q<w.heap.size->w'.heap[q]? = w.heap[q]? :=fun a c q hq aV=>qR q aV (hGb _ _ q hq) (fun _=>(Mq _ _ _ hq).2)
   have ad9:∀ a c q,H a c q->q<w.heap.size->w'.heap[q]? = w.heap[q]? :=fun a c q hq aV=>qR q aV (Ym _ _ q hq) (fun hf=>(hFF q (hH1 _ _ _ hq).1 hf).elim)
   have iy:(xs.take i).length=i:=by simp;omega
   by_cases c1:j<i
   . rw[amH,am0 (by omega),anp]at BP;simp only[c1,if_true]at BP;refine kD ks x 0 (G j) _ cs fT _ _ (fun q hq=>?_) (fun c q hq=>by simpa[c1]using hq) (fun c q hq aV=>UD _ c q hq aV) (hx j x BP);have:=hA (j * ks.length+q) (nK c1 hq);rw[anm,anm];exact this
   . by_cases c2:j<i+ys.length
     . rw[amH,amY (by omega),iy,am0 (by omega)]at BP;refine kD ks x 0 (H (j-i)) _ cs1 fT _ _ (fun q hq=>?_) (fun c q hq=>by simpa[c1,c2]using hq) (fun c q hq aV=>ad9 _ c q hq aV) (hy _ x BP);have:=hB ((j-i) * ks.length+q) (nK (by omega) hq);rw[anm o1,<- this];have e1:j * ks.length=i * ks.length+(j-i) * ks.length:=by rw[<- amV];congr 1;omega
       congr 1;omega
     . rw[amH,amY (by omega),iy,amY (by omega),anq]at BP;rw[show i+(j-i-ys.length)=j-ys.length by omega]at BP;have nQ:j-ys.length<xs.length:=by
        rcases amz (j-ys.length) xs.length with hh | hh
        . exact hh
        . simp[amA hh]at BP
       refine kD ks x 0 (G (j-ys.length)) _ cs fT _ _ (fun q hq=>?_) (fun c q hq=>by simpa[c1,c2]using hq) (fun c q hq aV=>UD _ c q hq aV) (hx _ x BP);have:=hC ((j-ys.length-i) * ks.length+q) (nK (by omega) hq);have e1:j * ks.length=(i+ys.length) * ks.length+(j-ys.length-i) * ks.length:=by rw[<- amV];congr 1;omega
       have e2:(j-ys.length) * ks.length=i * ks.length+(j-ys.length-i) * ks.length:=by rw[<- amV];congr 1;omega
       rw[show o'+j * ks.length+q=o'+(i+ys.length) * ks.length+((j-ys.length-i) * ks.length+q)by omega,this];congr 1;omega
theorem C3{e:TypeId}{ks:List K}{z:List (Tl ks)}{aa:Addr}{n c:Nat}{F:Nat->Prop}(ho:dG w (.sl e ks) z (.slice (some aa) n c) F) :
 n=z.length/\n<=c/\n<=bQ/\∃ b o cs el fr,aa=⟨b,o,none⟩/\F b/\w.heap[b]? = some (.cells cs el fr)/\(∀ q,q<cs.size+YK ks->¬ (fr.1<=q/\q<fr.2))/\o+c * ks.length<=cs.size /\
  ∃ G:Nat->Nat->Nat->Prop,(∀ i j b',G i j b'->F b'/\b'≠b)/\(∀ i j i' j' b',G i j b'->G i' j' b'->i=i'/\j=j')/\(∀ i x,z[i]? = some x->gx w ks x 0 (G i) cs (o+i * ks.length)) /\
   ∀ q,q<n * ks.length->∃ v,cs[o+q]? = some v/\v.oneCell'=true:=by
 obtain⟨a,c',e1,h2,h3,h4,h5⟩:=ho;simp only[anj]at e1;obtain⟨rfl,rfl,rfl⟩:=e1;obtain⟨b,o,cs,el,fr,rfl,k2,k3,k4,k5,G,k6,k7,k8⟩:=h5 _ rfl;refine⟨rfl,h2,h3,b,o,cs,el,fr,rfl,k2,k3,k4,k5,G,k6,k7,k8,fun q hq=>?_⟩;obtain⟨q1,q2,q3⟩:=rr hq;obtain⟨v,f1,f2⟩:=Ae ks _ 0 _ (q % ks.length) (k8 _ _ (amm q1)) q2;rw[anm,<- q3]at f1;exact⟨v,f1,f2⟩
def cut(cs:Array Value)(o n:Nat):List Value:=(List.range n).map fun q=>cs.getD (o+q) undef
theorem qW(cs:Array Value)(o n:Nat):(cut cs o n).length=n:=by simp[cut]
theorem uK{cs:Array Value}{o n:Nat}(h:∀ q,q<n->∃ v,cs[o+q]? = some v/\v.oneCell'=true){q:Nat}(hq:q<n):(cut cs o n)[q]? = cs[o+q]? :=by obtain⟨v,h1,_⟩:=h q hq;simp[cut,hq,amr,h1]
theorem KD{cs:Array Value}{o n:Nat}(h:∀ q,q<n->∃ v,cs[o+q]? = some v/\v.oneCell'=true):∀ u∈cut cs o n,u.oneCell'=true:=fun u hu=>by obtain⟨q,hq,rfl⟩:=an9.1 hu;obtain⟨v,h1,h2⟩:=h q (anu.1 hq);rw[amr,h1];exact h2
theorem vn{cs:Array Value}{b o n:Nat}{el:TypeId}{fr:Nat×Nat}(hb:w.heap[b]? = some (.cells cs el fr))(h:∀ q,q<n->∃ v,cs[o+q]? = some v/\v.oneCell'=true)(j:Nat)(v:Value)(hj:(cut cs o n)[j]? = some v):w.cell? ⟨b,o+j,none⟩=some v:=by
 have nQ:j<n:=by
  rcases amz j n with hh | hh
  . exact hh
  . rw[amA (by rw[qW];exact hh)]at hj;simp at hj
 rw[uK h nQ]at hj;simp only[World.cell?,hb];exact hj
theorem qV{cs:Array Value}{b j:Nat}{el:TypeId}{fr:Nat×Nat}(hb:w.heap[b]? = some (.cells cs el fr))(hj:j<cs.size):(w.cell? ⟨b,j,none⟩).isSome=true:=by simp[World.cell?,hb,hj]
theorem lZ{cs:Array Value}{b j:Nat}{el:TypeId}{fr:Nat×Nat}(hb:w.heap[b]? = some (.cells cs el fr))(hj:¬ (fr.1<=j/\j<fr.2)):w.frozen? ⟨b,j,none⟩=false:=by
 simp only[World.frozen?,hb];simp only[aoC,aoj];by_cases h:fr.1<=j
 . exact .inr fun h'=>hj ⟨h,h'⟩
 . exact .inl h
end
structure KU (P:Program) (f T ov k:Nat):Prop where
 zero:∀(a:Option Addr) (n c i:Nat) (a2:Option Addr) (m c2:Nat) (w:World),i<=n->n<=c->(m:Int)=0 ->
  Calls P f #[.slice a n c,.int .i64 i,.slice a2 m c2] w fun e w'=>e= .returned (.slice a n c)/\w'=w
 last:∀(a:Option Addr) (n c:Nat) (a2:Option Addr) (m c2:Nat) (w w':World) (v':Value),n<=c->¬ ((m:Int)=0) ->
  (Builtin.append_ #[T,T] T #[.slice a n c,.slice a2 m c2]).run P w= .ok v' w' ->
  Calls P f #[.slice a n c,.int .i64 n,.slice a2 m c2] w fun e w1=>e= .returned v'/\w1=w'
 room:∀(b o n c i:Nat) (a2:Option Addr) (m c2:Nat) (w:World),i<n->n+m<=c->n+m<=140737488355328->0<m->∀(W1 W2:World),
  (∀ lb cb,(callFunc ov #[.slice a2 m c2,.slice (some ⟨b,o+(i+m) * k,none⟩) lb cb]).run P w= .ok (.value (.bool false)) w) ->
  (∀ ty dc sc,(Builtin.copy_ #[T,T] ty #[.slice (some ⟨b,o+(i+m) * k,none⟩) (n+m-(i+m)) dc,.slice (some ⟨b,o+i * k,none⟩) (n+m-i) sc]).run P w.drew= .ok (goInt (n-i:Nat)) W1) ->
  (∀ ty dc,(Builtin.copy_ #[T,T] ty #[.slice (some ⟨b,o+i * k,none⟩) (n+m-i) dc,.slice a2 m c2]).run P W1= .ok (goInt m) W2) ->
  Calls P f #[.slice (some ⟨b,o,none⟩) n c,.int .i64 i,.slice a2 m c2] w fun e w1=>e= .returned (.slice (some ⟨b,o,none⟩) (n+m) c)/\w1=W2
 grow:∀(b o n c i:Nat) (a2:Option Addr) (m c2:Nat) (w:World),i<n->n<=c->c<n+m->n+m<=140737488355328->0<m->∀(W1 W2 W3:World) (N G:Nat),n+m<=G->G<=9223372036854775807 ->
  (∀ ty,(Builtin.append_ #[T,3] ty #[.slice (some ⟨b,o,none⟩) i c,.int .i64 ((n:Int)+(m:Int)-(i:Int))]).run P w= .ok (.slice (some ⟨N,0,none⟩) (n+m) G) W1) ->
  (∀ ty dc,(Builtin.copy_ #[T,T] ty #[.slice (some ⟨N,i * k,none⟩) (n+m-i) dc,.slice a2 m c2]).run P W1= .ok (goInt m) W2) ->
  (∀ ty dc sc,(Builtin.copy_ #[T,T] ty #[.slice (some ⟨N,(i+m) * k,none⟩) (n+m-(i+m)) dc,.slice (some ⟨b,o+i * k,none⟩) (n-i) sc]).run P W2.drew= .ok (goInt (n-i:Nat)) W3) ->
  Calls P f #[.slice (some ⟨b,o,none⟩) n c,.int .i64 i,.slice a2 m c2] w fun e w1=>e= .returned (.slice (some ⟨N,0,none⟩) (n+m) G)/\w1=W3
def TK{α:Type}(sz:Nat)(xs:List α)(i:Int)(ys:List α):Option (Unit×(List α×Unit)×Unit):=
 cond (cl 0 i&&cl i xs.length&&Nat.ble ((xs.length+ys.length) * sz) bQ) (zR (xs.take i.toNat++ys++xs.drop i.toNat)) none
section
variable{P:Program}{w w':World}
theorem OF {f T ov:Nat} {e:TypeId} {te:TI} {fn fo:Func} {c:Code} {tR:TypeId} (hf:P.funcs[f]? = some fn) (iw:(fn.name == "runtime.NumGoroutine") = false) (hb:fn.body = some c)
 (hT:P.underlying T=some (.slice e))(h3:P.underlying 3=some (.int .i64))(r8:rH P e te)(hk:YK te.ks=1)(hkp:Nat.blt 0 te.ks.length=true)(v8:Nat.blt 0 te.bytes=true)
 (ho:P.funcs[ov]? = some fo) (Io:(fo.name == "runtime.NumGoroutine") = false) (hob:fo.body.isNone = true) (hox:Extern.findNext fo = none) (hoe:Extern.find fo = some (Extern.SlicesOverlaps.overlaps #[T, T] #[tR]))
 (W:KU P f T ov te.ks.length){s:Su}(hs:s=⟨[.mv (.sl e te.ks),.c false [.int .i64],.mv (.sl e te.ks)],[(false,[.sl e te.ks])],true,.inl fun x=>TK te.bytes x.1 x.2.1.1 x.2.2.1⟩):lV P f s:=by
 subst hs;intro w Z F args x y _ cF hZ hF hd hy;rw[MuLone.run_callFunc_enter hf iw hb];show Calls P f args w _;have hkp:0<te.ks.length:=ann (amE hkp);have v8:0<te.bytes:=ann (amE v8);obtain⟨xs,⟨i0,_⟩,ys,_⟩:=x;change List (Tl te.ks)at xs;change List (Tl te.ks)at ys;change Int at i0;have iv:∃ v0 v1 v2,args = #[v0,v1,v2]/\dG w (.sl e te.ks) xs v0 (F 0)/\v1= .int .i64 i0/\dG w (.sl e te.ks) ys v2 (F 1):=by
  obtain⟨l⟩:=args
  match l,cF with
  | [v0,v1,v2],⟨h1,⟨cs,e1,e2⟩,h2,_⟩=>refine⟨v0,v1,v2,rfl,h1,?_,h2⟩;have e1:cs=[v1]:=e1;subst e1;exact e2.1.1
 obtain⟨v0,v1,v2,rfl,hxs,rfl,hys⟩:=iv;have hy:TK te.bytes (α:=Tl te.ks) xs i0 ys=some y:=hy;unfold TK at hy;cases ko:cl 0 i0&&cl i0 xs.length&&Nat.ble ((xs.length+ys.length) * te.bytes) bQ with
 | false=>rw[ko]at hy;simp at hy
 | true=>
 rw[ko]at hy;have hy:=am5 hy;subst hy;simp only[ami,cl,anH]at ko;obtain⟨⟨Ds,kL⟩,bo⟩:=ko;have bo:=amE bo;obtain⟨i,rfl⟩:=Int.eq_ofNat_of_zero_le Ds;have kL:i<=xs.length:=by omega
 have U6:xs.length+ys.length<=bQ:=amp (anP _ v8) bo;have al8:=bl;have h01:∀ q,F 1 q->¬ F 0 q:=fun q h1 h0=>by have:=hd 0 1 q h0 h1;omega
 have fin:∀(v:Value) (w1:World) (F':Nat->Prop),w1.os=w.os->w1.tape=w.tape->w1.output=w.output->w.heap.size<=w1.heap.size->(∀ b,b<w.heap.size->¬ F 0 b->w1.heap[b]? = w.heap[b]?)->(∀ b,F' b->b<w1.heap.size/\(F 0 b∨F 1 b∨w.heap.size<=b)) ->
  dG w1 (.sl e te.ks) (xs.take i++ys++xs.drop i) v F' ->
  ∃(Z':Nat->Prop) (H:Nat->Nat->Prop) (vs:List Value),v=A2 vs/\CK w w1 F Z Z' H/\xm Z' w1 (fun i=>H (2 * i)) [.mv (.sl e te.ks),.c false [.int .i64],.mv (.sl e te.ks)] () [v0,.int .i64 i,v2] 0 /\
   mT true Z' w1 (fun j=>H (2 * j+1)) [(false,[.sl e te.ks])] ((xs.take i++ys++xs.drop i,()),()) vs 0:=by
  intro v w1 F' g1 g2 g3 g4 g5 g6 g7;refine⟨Z,fun n b=>n=1/\F' b,[v],rfl,⟨g1,g2,g3,g4,fun b hb hn=>g5 b hb (hn 0),fun b h=>h,fun b h=>⟨amG (hZ b h) g4,.inl h⟩,fun n b h=>?_,fun n m b h1 h2=>h1.1.trans h2.1.symm⟩,trivial,⟨[v],rfl,?_,trivial⟩,trivial⟩
  . obtain⟨_,h⟩:=h;obtain⟨h1,h2⟩:=g6 b h;refine⟨h1,fun hz=>?_,?_⟩
    . rcases h2 with h2 | h2 | h2
      . exact(hF 0 b h2).2 hz
      . exact(hF 1 b h2).2 hz
      . have:=hZ b hz;omega
    . rcases h2 with h2 | h2 | h2
      . exact .inl ⟨0,h2⟩
      . exact .inl ⟨1,h2⟩
      . exact .inr h2
  . exact dG.frame _ _ _ _ _ (fun b hb=>⟨rfl,hb⟩) (fun _ _ _=>rfl) g7
 have goal:Calls P f #[v0,.int .i64 i,v2] w fun en w1=>∃ v F',en= .returned v/\w1.os=w.os/\w1.tape=w.tape/\w1.output=w.output/\w.heap.size<=w1.heap.size/\(∀ b,b<w.heap.size->¬ F 0 b->w1.heap[b]? = w.heap[b]?)/\(∀ b,F' b->b<w1.heap.size/\(F 0 b∨F 1 b∨w.heap.size<=b)) /\
  dG w1 (.sl e te.ks) (xs.take i++ys++xs.drop i) v F':=by
  by_cases hm0:ys=[]
  . subst hm0;obtain⟨a0,c0,rfl,q1,q2,q3,q4⟩:=(show dG w (.sl e te.ks) xs v0 (F 0)from hxs);obtain⟨a2,c2,rfl,r1,r2,r3,r4⟩:=hys;refine(W.zero a0 xs.length c0 i a2 0 c2 w kL q1 rfl).mono fun en w1 ⟨h1,h2⟩=>?_
    subst h2;refine⟨_,F 0,h1,rfl,rfl,rfl,oR _,fun _ _ _=>rfl,fun b hb=>⟨(hF 0 b hb).1,.inl hb⟩,?_⟩;rw[amZ,aod];exact hxs
  . have hm:0<ys.length:=ao7.2 hm0;have alM:=hys;obtain⟨a2,c2,rfl,r1,r2,r3,r4⟩:=alM;cases a2 with
    | none=>have:=r3 rfl;have r1:ys.length<=c2:=r1;omega
    | some aa2=>
    obtain⟨e1,e2,e3,b2,o2,Vf,el2,fr2,rfl,f1,f2,f3,f4,H,f5,f6,f7,f8⟩:=C3 hys;have l6:b2<w.heap.size:=(hF 1 b2 f1).1;have alN:∀ q,F 0 q->q≠b2:=fun q hq he=>h01 b2 f1 (he ▸ hq)
    obtain⟨k,nN⟩:∃ k,k=te.ks.length:=⟨_,rfl⟩;obtain⟨VS,hVS⟩:∃ VS,VS=cut Vf o2 (ys.length * k):=⟨_,rfl⟩;replace f8:∀ q,q<ys.length * k->∃ v,Vf[o2+q]? = some v/\v.oneCell'=true:=by rw[nN];exact f8
    replace e2:ys.length<=c2:=e2;have v1:VS.length=ys.length * k:=by rw[hVS,qW]
    have v2:∀ q,q<ys.length * k->VS[q]? = Vf[o2+q]? :=fun q hq=>by rw[hVS,uK f8 hq]
    have v3:∀ u∈VS,u.oneCell'=true:=by rw[hVS];exact KD f8
    have v4:∀ w1:World,w1.heap[b2]? = w.heap[b2]? -> ∀(j:Nat) (u:Value),VS[j]? = some u->w1.cell? ⟨b2,o2+j,none⟩=some u:=fun w1 Cm j u hj=>by rw[hVS]at hj;exact vn (Cm.trans f2) f8 j u hj
    have v5:∀ w1:World,w1.heap[b2]? = w.heap[b2]? -> (Builtin.firstCells te.ks.length ys.length (.slice (some ⟨b2,o2,none⟩) ys.length c2)).run P w1= .ok VS.toArray w1:=fun w1 Cm=>
     run_firstCells_some (P:=P) w1 _ _ ⟨b2,o2,none⟩ _ _ _ (by rw[v1,nN]) fun j u hj=>by rw[gO];exact v4 w1 Cm j u hj
    have v6:(Builtin.lenOf (.slice (some ⟨b2,o2,none⟩) ys.length c2)).run P w= .ok ys.length w:=rfl
    have growLast:∀(a0:Option Addr) (c0 b0 o:Nat) (cs:Array Value) (G:Nat->Nat->Nat->Prop),i=xs.length->v0= .slice a0 xs.length c0->xs.length<=c0->c0<xs.length+ys.length->(∀ i j b',G i j b'->F 0 b'/\b'≠b0)->(∀ i j i' j' b',G i j b'->G i' j' b'->i=i'/\j=j')->(∀ i x,xs[i]? = some x->gx w te.ks x 0 (G i) cs (o+i * te.ks.length)) ->
     (∀ q,q<xs.length * k->∃ v,cs[o+q]? = some v/\v.oneCell'=true)->(Builtin.firstCells te.ks.length xs.length (.slice a0 xs.length c0)).run P w.drew= .ok (cut cs o (xs.length * k)).toArray w.drew ->
     Calls P f #[v0,.int .i64 i,.slice (some ⟨b2,o2,none⟩) ys.length c2] w fun en w1=>∃ v F',en= .returned v/\w1.os=w.os/\w1.tape=w.tape/\w1.output=w.output/\w.heap.size<=w1.heap.size/\(∀ b,b<w.heap.size->¬ F 0 b->w1.heap[b]? = w.heap[b]?)/\(∀ b,F' b->b<w1.heap.size/\(F 0 b∨F 1 b∨w.heap.size<=b)) /\
      dG w1 (.sl e te.ks) (xs.take i++ys++xs.drop i) v F':=by
     intro a0 c0 b0 o cs G hie hv0 Ip aV p5 p6 p7 p8 hfo;subst hie;subst hv0;obtain⟨zs,z1,z2⟩:=pB (P:=P) (w:=w) (ty:=T) (ats:= #[T,T]) hT r8 hT (fun _ hh=>by simp at hh) rfl rfl v6 hfo (v5 w.drew rfl) aV v8 (amp (oR _) bo);refine(W.last a0 xs.length c0 (some ⟨b2,o2,none⟩) ys.length c2 w _ _ Ip (by omega) z2).mono fun en w1 ⟨h1,h2⟩=>?_
     subst h2;have Mh:=grownCap_ge w (xs.length+ys.length) c0 e;have jn:(w.drew.alloc (.cells ((cut cs o (xs.length * k)).toArray++VS.toArray++zs) e (0,0))).heap=w.heap.push (.cells ((cut cs o (xs.length * k)).toArray++VS.toArray++zs) e (0,0)):=rfl;have jU:(w.drew.alloc (.cells ((cut cs o (xs.length * k)).toArray++VS.toArray++zs) e (0,0))).heap.size=w.heap.size+1:=by rw[jn,anN]
     have hold:∀ q,q<w.heap.size->(w.drew.alloc (.cells ((cut cs o (xs.length * k)).toArray++VS.toArray++zs) e (0,0))).heap[q]? = w.heap[q]? :=fun q hq=>by rw[jn,amW,if_neg (by omega)]
     have xx:(cut cs o (xs.length * k)).toArray.size=xs.length * k:=by simp[qW]
     have hvl:VS.toArray.size=ys.length * k:=by simp[v1]
     refine⟨_,fun q=>F 0 q∨F 1 q∨q=w.heap.size,h1,rfl,rfl,rfl,by rw[jU];omega,fun q hq _=>hold q hq,fun q hq=>?_,?_⟩
     . rw[jU];rcases hq with hq | hq | hq
       . exact⟨by have:=(hF 0 q hq).1;omega,.inl hq⟩
       . exact⟨by have:=(hF 1 q hq).1;omega,.inr (.inl hq)⟩
       . exact⟨by omega,.inr (.inr (by omega))⟩
     . refine yr (w:=w) (i:=xs.length) (oR _) (G:=G) (H:=H) (F:=F 0) (FH:=F 1) (b0:=b0) (b1:=b2) (o:=o) (o1:=o2) (cs:=cs) (cs1:=Vf) (fT:=(cut cs o (xs.length * k)).toArray++VS.toArray++zs) (el:=e) (fr:=(0,0)) p5 p6 p7 f5 f6 f7 h01
        (by rw[jn,amW,if_pos rfl]) (fun q _ hh=>by simp at hh) (.inr (.inr rfl)) (fun q hq=> .inl hq) (fun q hq=> .inr (.inl hq)) (fun a c q hq he=>by have:=(hF 0 q (p5 _ _ _ hq).1).1;omega) (fun a c q hq he=>by have:=(hF 1 q (f5 _ _ _ hq).1).1;omega)
        (fun q hq _ _=>hold q hq) (fun q hq=>?_) (fun q hq=>?_) (fun q hq=>?_) Mh ?_ U6
       . rw[<- nN]at hq;rw[amt,an0,ane (by rw[xx];exact hq),amU,uK p8 hq]
       . rw[<- nN]at hq ⊢;rw[amt,an0,aoD (by rw[xx];omega),xx,am6,ane (by rw[hvl];exact hq),amU,v2 q hq]
       . simp at hq
       . rw[aor,aor,xx,hvl,z1,<- nN,<- amV,<- amV];refine aol ?_;rw[amt];congr 1;omega
    have alO:=hxs;obtain⟨a0,c0,rfl,q1,q2,q3,_⟩:=(show dG w (.sl e te.ks) xs v0 (F 0)from alO);have q1:xs.length<=c0:=q1;cases a0 with
    | none=>have Ip:=q3 rfl;subst Ip;obtain rfl:xs=[]:=am2.1 (by omega);exact growLast none 0 w.heap.size 0 #[] (fun _ _ _=>False) (by simpa using kL) rfl (oR _) (by simpa using hm) (fun _ _ _ h=>h.elim) (fun _ _ _ _ _ h=>h.elim) (fun i x hx=>by simp at hx) (fun q hq=>by simp at hq) (by rw[show cut #[] 0 (([]:List (Tl te.ks)).length * k)=[]by simp[cut]];exact run_firstCells_none (P:=P) w.drew _ _ _ _)
    | some aa=>
      obtain⟨_,_,_,b,o,cs,el,fr,rfl,k1,k2,k3,k4,G,k5,k6,k7,k8⟩:=C3 hxs;replace k8:∀ q,q<xs.length * k->∃ v,cs[o+q]? = some v/\v.oneCell'=true:=by rw[nN];exact k8
      have hbw:b<w.heap.size:=(hF 0 b k1).1;have ah2:b2≠b:=fun he=>alN b k1 he.symm
      have Un:(aW (e:=e) (ks:=te.ks) xs).length=xs.length:=rfl;rw[Un];by_cases Dp:i=xs.length
      . by_cases iV:xs.length+ys.length<=c0
        . subst Dp;have Is:∀ j,j<VS.length->o+xs.length * te.ks.length+j<cs.size:=fun j hj=>by
           rw[v1,nN]at hj;have:=amL te.ks.length iV;rw[amV]at this;omega
          have z2:=qI (P:=P) (w:=w) (ty:=T) (ats:= #[T,T]) (t:=T) (t2:=T) (b:=b) (o:=o) hT r8 hT (fun _ hh=>by simp at hh) rfl rfl v6 (v5 w rfl) iV v3 fun j hj=>⟨cs,el,fr,k2,Is j hj,k3 _ (by have:=Is j hj;omega)⟩
          refine(W.last (some ⟨b,o,none⟩) xs.length c0 (some ⟨b2,o2,none⟩) ys.length c2 w _ _ q1 (by omega) z2).mono fun en w1 ⟨h1,h2⟩=>?_
          subst h2;obtain⟨g1,g2,g3,g4,g5,g6⟩:=eI b VS (o+xs.length * te.ks.length) w cs el fr k2;have lF:∀ q,(setFrom cs (o+xs.length * te.ks.length) VS)[q]? = if o+xs.length * te.ks.length<=q/\q<o+xs.length * te.ks.length+VS.length then VS[q-(o+xs.length * te.ks.length)]? else cs[q]? :=fun q=>du _ _ _ _ (by
           have:0<VS.length:=by rw[v1,nN];exact Nat.mul_pos hm hkp
           have:=Is (VS.length-1) (by omega);omega)
          refine⟨_,fun q=>F 0 q∨F 1 q,h1,g4,g5,g6,by rw[g3];exact oR _,fun q hq hn=>g2 q (fun he=>hn (he ▸ k1)),fun q hq=>?_,?_⟩
          . rw[g3];rcases hq with hq | hq
            . exact⟨(hF 0 q hq).1,.inl hq⟩
            . exact⟨(hF 1 q hq).1,.inr (.inl hq)⟩
          . refine yr (w:=w) (i:=xs.length) (oR _) (G:=G) (H:=H) (F:=F 0) (FH:=F 1) (b0:=b) (b1:=b2) (o:=o) (o1:=o2) (cs:=cs) (cs1:=Vf) k5 k6 k7 f5 f6 f7 h01 g1 (fun q hq=>k3 q (by rw[cX]at hq;exact hq)) (.inl k1) (fun q hq=> .inl hq) (fun q hq=> .inr hq) (fun a c q hq=>(k5 _ _ _ hq).2) (fun a c q hq he=>h01 q (f5 _ _ _ hq).1 (he ▸ k1))
             (fun q hq cY _=>g2 q cY) (fun q hq=>?_) (fun q hq=>?_) (fun q hq=>?_) iV (by rw[cX];exact k4) U6
            . rw[lF,if_neg (by omega)]
            . rw[lF,if_pos ⟨by omega,by rw[v1,nN];omega⟩,am6,v2 q (by rw[nN];exact hq)]
            . simp at hq
        . refine growLast (some ⟨b,o,none⟩) c0 b o cs G Dp rfl q1 (by omega) k5 k6 k7 k8 (run_firstCells_some (P:=P) w.drew _ _ ⟨b,o,none⟩ _ _ _ (by rw[qW,nN]) fun j u hj=>?_);rw[gO];exact vn (w:=w.drew) k2 k8 j u hj
      . have Dp:i<xs.length:=by omega
        have k9:∀ q,q<(xs.length-i) * k->∃ v,cs[o+i * k+q]? = some v/\v.oneCell'=true:=fun q hq=>by
         have:=k8 (i * k+q) (by
          have:xs.length * k=i * k+(xs.length-i) * k:=by rw[<- amV];congr 1;omega
          omega)
         rwa [<- anm]at this
        obtain⟨C1,hC1⟩:∃ C1,C1=cut cs (o+i * k) ((xs.length-i) * k):=⟨_,rfl⟩;have c1:C1.length=(xs.length-i) * k:=by rw[hC1,qW]
        have c2':∀ q,q<(xs.length-i) * k->C1[q]? = cs[o+i * k+q]? :=fun q hq=>by rw[hC1,uK k9 hq]
        have c3:∀ u∈C1,u.oneCell'=true:=by rw[hC1];exact KD k9
        have c4:∀ w1:World,w1.heap[b]? = w.heap[b]? -> ∀(j:Nat) (u:Value),C1[j]? = some u->w1.cell? ⟨b,o+i * k+j,none⟩=some u:=fun w1 Cm j u hj=>by rw[hC1]at hj;exact vn (Cm.trans k2) k9 j u hj
        have em:xs.length * k=i * k+(xs.length-i) * k:=by rw[<- amV];congr 1;omega
        have en:(i+ys.length) * k=i * k+ys.length * k:=amV ..
        by_cases iV:xs.length+ys.length<=c0
        ·
         have hmk:ys.length * k<=(c0-xs.length) * k:=amL _ (by omega);have eck:c0 * k=xs.length * k+(c0-xs.length) * k:=by rw[<- amV];congr 1;omega
         rw[<- nN]at k4;have hov:∀ lb cb,(callFunc ov #[.slice (some ⟨b2,o2,none⟩) ys.length c2,.slice (some ⟨b,o+(i+ys.length) * te.ks.length,none⟩) lb cb]).run P w= .ok (.value (.bool false)) w:=fun lb cb=>by
          have hsa:w.shape? b2=some (el2,Vf.size):=by simp[World.shape?,f2]
          have eD:w.shape? b=some (el,cs.size):=by simp[World.shape?,k2]
          have Ck:0<ys.length * k:=Nat.mul_pos hm (nN ▸ hkp);have yo:0<(xs.length-i) * k:=Nat.mul_pos (by omega) (nN ▸ hkp);have h4:ys.length * k<=c2 * k:=amL _ e2;rw[<- nN]at f4;have alP:=Lib.run_overlaps_apart (P:=P) w T tR e hT te.ks.length (dz r8) ⟨b2,o2,none⟩ ⟨b,o+(i+ys.length) * te.ks.length,none⟩ ys.length c2 lb cb ah2 el2 el Vf.size cs.size hsa eD (by omega) (lZ f2 (f3 o2 (by omega))) (lZ f2 (f3 Vf.size (by rw[hk];omega)));rw[run_callFunc_extern ho Io hob hox hoe,alP];rfl
         have Fj:∀ ty dc sc,(Builtin.copy_ #[T,T] ty #[.slice (some ⟨b,o+(i+ys.length) * te.ks.length,none⟩) (xs.length+ys.length-(i+ys.length)) dc,.slice (some ⟨b,o+i * te.ks.length,none⟩) (xs.length+ys.length-i) sc]).run P w.drew= .ok (goInt (xs.length-i:Nat)) (w.drew.setCells b (o+(i+ys.length) * te.ks.length) C1):=fun ty dc sc=>by
          refine rb (w:=w.drew) hT r8 (by simp only[Nat.min_def];split <;> omega) (by rw[c1,nN]) (fun j u hj=>?_) (fun j hj=>?_) (fun j hj=>?_) c3
          . rw[<- nN];exact c4 w.drew rfl j u hj
          . rw[c1]at hj;rw[<- nN];exact qV (w:=w.drew) k2 (by omega)
          . rw[c1]at hj;rw[<- nN];exact lZ (w:=w.drew) k2 (k3 _ (by omega))
         obtain⟨g1,g2,g3,g4,g5,g6⟩:=eI b C1 (o+(i+ys.length) * te.ks.length) w.drew cs el fr k2;obtain⟨W1,hW1⟩:∃ W1,W1=w.drew.setCells b (o+(i+ys.length) * te.ks.length) C1:=⟨_,rfl⟩;rw[<- hW1]at g1 g2 g3 g4 g5 g6 Fj;obtain⟨D1,hD1⟩:∃ D1,D1=setFrom cs (o+(i+ys.length) * te.ks.length) C1:=⟨_,rfl⟩;have d1s:D1.size=cs.size:=by rw[hD1,cX]
         have d1:∀ q,D1[q]? = if o+(i+ys.length) * k<=q/\q<o+(i+ys.length) * k+C1.length then C1[q-(o+(i+ys.length) * k)]? else cs[q]? :=fun q=>by rw[hD1,<- nN];exact du _ _ _ _ (by rw[c1];omega)
         rw[<- hD1]at g1;have Ko:∀ ty dc,(Builtin.copy_ #[T,T] ty #[.slice (some ⟨b,o+i * te.ks.length,none⟩) (xs.length+ys.length-i) dc,.slice (some ⟨b2,o2,none⟩) ys.length c2]).run P W1= .ok (goInt ys.length) (W1.setCells b (o+i * te.ks.length) VS):=fun ty dc=>by
          refine rb (w:=W1) hT r8 (by simp only[Nat.min_def];split <;> omega) (by rw[v1,nN]) (fun j u hj=>v4 W1 (g2 b2 ah2) j u hj) (fun j hj=>?_) (fun j hj=>?_) v3
          . rw[v1]at hj;rw[<- nN];exact qV (w:=W1) g1 (by omega)
          . rw[v1]at hj;rw[<- nN];exact lZ (w:=W1) g1 (k3 _ (by omega))
         obtain⟨m1,m2,m3,m4,m5,m6⟩:=eI b VS (o+i * te.ks.length) W1 D1 el fr g1;obtain⟨D2,hD2⟩:∃ D2,D2=setFrom D1 (o+i * te.ks.length) VS:=⟨_,rfl⟩;have d2s:D2.size=cs.size:=by rw[hD2,cX,d1s]
         have d2:∀ q,D2[q]? = if o+i * k<=q/\q<o+i * k+VS.length then VS[q-(o+i * k)]? else D1[q]? :=fun q=>by rw[hD2,<- nN];exact du _ _ _ _ (by rw[v1];omega)
         rw[<- hD2]at m1;refine(W.room b o xs.length c0 i (some ⟨b2,o2,none⟩) ys.length c2 w Dp iV (by omega) hm W1 _ hov Fj Ko).mono fun en w1 ⟨h1,h2⟩=>?_
         subst h2;have hold:∀ q,q≠b->(W1.setCells b (o+i * te.ks.length) VS).heap[q]? = w.heap[q]? :=fun q hq=>(m2 q hq).trans (g2 q hq)
         have jU:(W1.setCells b (o+i * te.ks.length) VS).heap.size=w.heap.size:=m3.trans g3;refine⟨_,fun q=>F 0 q∨F 1 q,h1,m4.trans g4,m5.trans g5,m6.trans g6,by rw[jU];exact oR _,fun q hq hn=>hold q (fun he=>hn (he ▸ k1)),fun q hq=>?_,?_⟩
         . rw[jU];rcases hq with hq | hq
           . exact⟨(hF 0 q hq).1,.inl hq⟩
           . exact⟨(hF 1 q hq).1,.inr (.inl hq)⟩
         . refine yr (w:=w) (i:=i) kL (G:=G) (H:=H) (F:=F 0) (FH:=F 1) (b0:=b) (b1:=b2) (o:=o) (o1:=o2) (cs:=cs) (cs1:=Vf) k5 k6 k7 f5 f6 f7 h01 m1 (fun q hq=>k3 q (by rw[d2s]at hq;exact hq)) (.inl k1) (fun q hq=> .inl hq) (fun q hq=> .inr hq) (fun a c q hq=>(k5 _ _ _ hq).2) (fun a c q hq he=>h01 q (f5 _ _ _ hq).1 (he ▸ k1))
            (fun q hq cY _=>hold q cY) (fun q hq=>?_) (fun q hq=>?_) (fun q hq=>?_) iV (by rw[d2s,<- nN];exact k4) U6
           . rw[<- nN]at hq;rw[d2,if_neg (by omega),d1,if_neg (by omega)]
           . rw[<- nN]at hq ⊢;rw[d2,if_pos ⟨by omega,by rw[v1];omega⟩,am6,v2 q hq]
           . rw[<- nN]at hq ⊢;rw[d2,if_neg (by rw[v1];omega),d1,if_pos ⟨by omega,by rw[c1];omega⟩,am6,c2' q hq]
        ·
         obtain⟨ii,i1,i2,i3,z,i4,i5⟩:=r8.info;have mR:z.cells.size=k:=by rw[nN,<- amT,i5];simp
         have k10:∀ q,q<i * k->∃ v,cs[o+q]? = some v/\v.oneCell'=true:=fun q hq=>k8 q (by omega)
         obtain⟨O1,hO1⟩:∃ O1,O1=cut cs o (i * k):=⟨_,rfl⟩;have o1l:O1.length=i * k:=by rw[hO1,qW]
         have o1g:∀ q,q<i * k->O1[q]? = cs[o+q]? :=fun q hq=>by rw[hO1,uK k10 hq]
         have ah3:(Builtin.firstCells ii.size i (.slice (some ⟨b,o,none⟩) i c0)).run P w.drew= .ok O1.toArray w.drew:=run_firstCells_some (P:=P) w.drew _ _ ⟨b,o,none⟩ _ _ _ (by rw[o1l,i2,nN]) fun j u hj=>by rw[gO];rw[hO1]at hj;exact vn (w:=w.drew) k2 k10 j u hj
         have ein:i+(xs.length+ys.length-i)=xs.length+ys.length:=by omega
         have Dq:(xs.length+ys.length) * te.bytes<=140737488355328:=bo;have yO:=Lib.run_append_grow_zeros (P:=P) w T 3 T e ii z .i64 .i64 hT h3 i1 i4 (some ⟨b,o,none⟩) i c0 O1 ah3 (xs.length+ys.length-i) (by omega) (by rw[i2];exact hkp) (by omega) (by omega) (by rw[i3];have:(xs.length+ys.length-i) * te.bytes<=(xs.length+ys.length) * te.bytes:=amL _ (by omega);omega) (by rw[ein,i3];have:=growslice_fits (need:=xs.length+ys.length) (old:=c0) (bytes:=te.bytes) (by omega) Dq;omega);rw[ein]at yO;have ah4:(xs.length:Int)+(ys.length:Int)-(i:Int)=((xs.length+ys.length-i:Nat):Int):=by omega
         rw[<- ah4]at yO;obtain⟨G1,Mq⟩:∃ G1,G1=grownCap w (xs.length+ys.length) c0 e:=⟨_,rfl⟩;have Mh:xs.length+ys.length<=G1:=by rw[Mq];exact grownCap_ge w _ _ _
         have ah5:G1<=9223372036854775807:=by have:=grownCap_le_maxLen w (xs.length+ys.length) c0 e (by unfold maxLen;omega);rw[<- Mq]at this;unfold maxLen at this;omega
         rw[<- Mq]at yO;obtain⟨ROW,aea⟩:∃ ROW,ROW=O1.toArray++Builtin.zeroCells z.cells (xs.length+ys.length-i)++Builtin.zeroCells z.cells (G1-(xs.length+ys.length)):=⟨_,rfl⟩;rw[<- aea]at yO;have hRs:ROW.size=G1 * k:=by rw[aea,aor,aor,size_zeroCells,size_zeroCells,mR];simp only[apf,o1l];rw[<- amV,<- amV];congr 1;omega
         have hRg:∀ q,q<i * k->ROW[q]? = cs[o+q]? :=fun q hq=>by rw[aea,an0,ane (by simpa[o1l]using hq),amU,o1g q hq]
         have hGk:(xs.length+ys.length) * k<=G1 * k:=amL _ Mh;rw[amV]at hGk;obtain⟨W1,hW1⟩:∃ W1,W1=w.drew.alloc (.cells ROW e):=⟨_,rfl⟩;rw[<- hW1]at yO;have a1:W1.heap=w.heap.push (.cells ROW e (0,0)):=by rw[hW1];rfl
         have a2:W1.heap[w.heap.size]? = some (.cells ROW e (0,0)):=by rw[a1,amW,if_pos rfl]
         have a3:∀ q,q<w.heap.size->W1.heap[q]? = w.heap[q]? :=fun q hq=>by rw[a1,amW,if_neg (by omega)]
         have a4:W1.heap.size=w.heap.size+1:=by rw[a1,anN]
         have a5:W1.os=w.os/\W1.tape=w.tape/\W1.output=w.output:=by rw[hW1];exact⟨rfl,rfl,rfl⟩
         have Fj:∀ ty dc,(Builtin.copy_ #[T,T] ty #[.slice (some ⟨w.heap.size,i * te.ks.length,none⟩) (xs.length+ys.length-i) dc,.slice (some ⟨b2,o2,none⟩) ys.length c2]).run P W1= .ok (goInt ys.length) (W1.setCells w.heap.size (i * te.ks.length) VS):=fun ty dc=>by
          refine rb (w:=W1) hT r8 (by simp only[Nat.min_def];split <;> omega) (by rw[v1,nN]) (fun j u hj=>v4 W1 (a3 b2 l6) j u hj) (fun j hj=>?_) (fun j hj=>?_) v3
          . rw[v1]at hj;rw[<- nN];exact qV (w:=W1) a2 (by omega)
          . exact lZ (w:=W1) a2 (by simp)
         obtain⟨g1,g2,g3,g4,g5,g6⟩:=eI w.heap.size VS (i * te.ks.length) W1 ROW e (0,0) a2;obtain⟨W2,hW2⟩:∃ W2,W2=W1.setCells w.heap.size (i * te.ks.length) VS:=⟨_,rfl⟩;rw[<- hW2]at g1 g2 g3 g4 g5 g6 Fj;obtain⟨D1,hD1⟩:∃ D1,D1=setFrom ROW (i * te.ks.length) VS:=⟨_,rfl⟩;have d1s:D1.size=ROW.size:=by rw[hD1,cX]
         have d1:∀ q,D1[q]? = if i * k<=q/\q<i * k+VS.length then VS[q-i * k]? else ROW[q]? :=fun q=>by rw[hD1,<- nN];exact du _ _ _ _ (by rw[v1];omega)
         rw[<- hD1]at g1;have Ko:∀ ty dc sc,(Builtin.copy_ #[T,T] ty #[.slice (some ⟨w.heap.size,(i+ys.length) * te.ks.length,none⟩) (xs.length+ys.length-(i+ys.length)) dc,.slice (some ⟨b,o+i * te.ks.length,none⟩) (xs.length-i) sc]).run P W2.drew= .ok (goInt (xs.length-i:Nat)) (W2.drew.setCells w.heap.size ((i+ys.length) * te.ks.length) C1):=fun ty dc sc=>by
          refine rb (w:=W2.drew) hT r8 (by simp only[Nat.min_def];split <;> omega) (by rw[c1,nN]) (fun j u hj=>?_) (fun j hj=>?_) (fun j hj=>?_) c3
          . rw[<- nN];exact c4 W2.drew ((g2 b (by omega)).trans (a3 b hbw)) j u hj
          . rw[c1]at hj;rw[<- nN];exact qV (w:=W2.drew) g1 (by omega)
          . exact lZ (w:=W2.drew) g1 (by simp)
         obtain⟨m1,m2,m3,m4,m5,m6⟩:=eI w.heap.size C1 ((i+ys.length) * te.ks.length) W2.drew D1 e (0,0) g1;obtain⟨D2,hD2⟩:∃ D2,D2=setFrom D1 ((i+ys.length) * te.ks.length) C1:=⟨_,rfl⟩;have d2s:D2.size=ROW.size:=by rw[hD2,cX,d1s]
         have d2:∀ q,D2[q]? = if (i+ys.length) * k<=q/\q<(i+ys.length) * k+C1.length then C1[q-(i+ys.length) * k]? else D1[q]? :=fun q=>by rw[hD2,<- nN];exact du _ _ _ _ (by rw[c1];omega)
         rw[<- hD2]at m1;refine(W.grow b o xs.length c0 i (some ⟨b2,o2,none⟩) ys.length c2 w Dp q1 (by omega) (by omega) hm W1 W2 _ w.heap.size G1 Mh ah5 (fun ty=>yO) Fj Ko).mono fun en w1 ⟨h1,h2⟩=>?_
         subst h2;have hold:∀ q,q<w.heap.size->(W2.drew.setCells w.heap.size ((i+ys.length) * te.ks.length) C1).heap[q]? = w.heap[q]? :=fun q hq=>(m2 q (by omega)).trans ((g2 q (by omega)).trans (a3 q hq))
         have jU:(W2.drew.setCells w.heap.size ((i+ys.length) * te.ks.length) C1).heap.size=w.heap.size+1:=m3.trans (g3.trans a4);refine⟨_,fun q=>F 0 q∨F 1 q∨q=w.heap.size,h1,m4.trans (g4.trans a5.1),m5.trans (g5.trans a5.2.1),m6.trans (g6.trans a5.2.2),by rw[jU];omega,fun q hq hn=>hold q hq,fun q hq=>?_,?_⟩
         . rw[jU];rcases hq with hq | hq | hq
           . exact⟨by have:=(hF 0 q hq).1;omega,.inl hq⟩
           . exact⟨by have:=(hF 1 q hq).1;omega,.inr (.inl hq)⟩
           . exact⟨by omega,.inr (.inr (by omega))⟩
         . refine yr (w:=w) (i:=i) kL (G:=G) (H:=H) (F:=F 0) (FH:=F 1) (b0:=b) (b1:=b2) (o:=o) (o1:=o2) (o':=0) (cs:=cs) (cs1:=Vf) k5 k6 k7 f5 f6 f7 h01 m1 (fun q _ hh=>by simp at hh) (.inr (.inr rfl)) (fun q hq=> .inl hq) (fun q hq=> .inr (.inl hq)) (fun a c q hq he=>by have:=(hF 0 q (k5 _ _ _ hq).1).1;omega) (fun a c q hq he=>by have:=(hF 1 q (f5 _ _ _ hq).1).1;omega)
            (fun q hq _ _=>hold q hq) (fun q hq=>?_) (fun q hq=>?_) (fun q hq=>?_) Mh (by rw[d2s,hRs,<- nN];omega) U6
           . rw[<- nN]at hq;rw[amt,d2,if_neg (by omega),d1,if_neg (by omega),hRg q hq]
           . rw[<- nN]at hq ⊢;rw[amt,d2,if_neg (by omega),d1,if_pos ⟨by omega,by rw[v1];omega⟩,am6,v2 q hq]
           . rw[<- nN]at hq ⊢;rw[amt,d2,if_pos ⟨by omega,by rw[c1];omega⟩,am6,c2' q hq]
 refine goal.mono fun en w1 ⟨v,F',h0,h1,h2,h3,h4,h5,h6,h7⟩=>?_
 subst h0;exact fin v w1 F' h1 h2 h3 h4 h5 h6 h7
end
section
variable{P:Program}{E:En}{ops:Array Oper}{P:Program}{cx:Cx P}{Q:Exit->Act->World->Prop}
theorem Qh(Mm:kh ops.toList 0=true){i:Nat}{J:Nat->Bool}{base:St}{bsF:Bd}{G:Nat->St}(hi:i<ops.size)
 (oS:∀ j,j<i->su P E ops (bM ops.toList []) base bsF 0 j)
 (ah6:∀ j,j<i->J j=false->((bM ops.toList []).getD i 0).testBit j=true)
 (aeb:∀ k,i<k->k<ops.size->∀ j,j<=i->((bM ops.toList []).getD k 0).testBit j=true)
 (BS:∀(S:Nat) (a:Act) (w:World) (Z:Nat->Prop) (g:Gh) (next:Act->World->Prop),(∀ j,j<i->J j=false->S.testBit j=true)->(∀ j,i<=j->S.testBit j=false)->Rel cx Z g (view base S bsF) a w->Fit cx E a ->
   (∀ Z' g' a' w',Rel cx Z' g' (G S) a' w'->Fit cx E a'->next a' w')->wpOp P ops Q i next a w)
 (ah7:∀(S j:Nat) (a:Act) (w:World) (Z:Nat->Prop) (g:Gh) (next:Act->World->Prop),(∀ j,j<i->J j=false->S.testBit j=true)->(∀ j,i<=j->S.testBit j=false)->j<i->J j=true->S.testBit j=false ->
   (∀ b,((bM ops.toList []).getD j 0).testBit b=true->b<i->S.testBit b=true)->Rel cx Z g (G S) a w->Fit cx E a ->
   (∀ Z' g' a' w',Rel cx Z' g' (G (S ||| 2 ^ j)) a' w'->Fit cx E a'->next a' w')->wpOp P ops Q j next a w)
 (Ie:∀(fuel:Nat) (listed:Array Bool) (S:Nat) (a:Act) (w:World) (Z:Nat->Prop) (g:Gh),listed.size=ops.size->(∀ k,k<ops.size->listed.getD k false=decide (k<=i))->LH ops.size (2 ^ (i+1)-1)<=fuel->(∀ j,S.testBit j=decide (j<i))->Rel cx Z g (G S) a w->Fit cx E a->wpAny P .any ops Q fuel listed a w) :
 ∀(fuel:Nat) (listed:Array Bool) (S:Nat) (B:Bool) (a:Act) (w:World) (Z:Nat->Prop) (g:Gh),listed.size=ops.size->(∀ k,k<ops.size->listed.getD k false=(S ||| (bif B then 2 ^ i else 0)).testBit k)->(∀ k,i<=k->S.testBit k=false)->LH ops.size (S ||| (bif B then 2 ^ i else 0))<=fuel ->
  (∀ k,(S ||| (bif B then 2 ^ i else 0)).testBit k=true->∀ b,((bM ops.toList []).getD k 0).testBit b=true->(S ||| (bif B then 2 ^ i else 0)).testBit b=true)->(B=true->∀ j,j<i->J j=false->S.testBit j=true) ->
  Rel cx Z g (bif B then G S else view base S bsF) a w->Fit cx E a->wpAny P .any ops Q fuel listed a w:=by
 have hlen:(bM ops.toList []).length=ops.size:=by rw[qU];simp
 intro fuel;induction fuel with
 | zero=>
   intro listed S B a w Z g uA hS BM rY xx hBJ h dh;have gm:=DD _ _ (Nat.le_zero.1 rY);have hB:B=true:=by
    cases B with
    | true=>rfl
    | false=>have:=gm i hi;simp only[oF,Nat.or_zero]at this;rw[BM i (oR _)]at this;simp at this
   subst hB;simp only[oT]at gm h hS rY;have hT:∀ j,j<i->S.testBit j=true:=fun j hj=>by have:=gm j (by omega);rw[aY]at this;simpa[show ¬ i=j by omega]using this
   have lG:∀ j,S.testBit j=decide (j<i):=fun j=>by
    by_cases hj:j<i
    . simp[hj,hT j hj]
    . simp[hj,BM j (by omega)]
   refine Ie 0 listed S a w Z g uA (fun k hk=>?_) ?_ lG h dh
   . rw[hS k hk,aY,lG];by_cases e:i=k
     . simp[e]
     . simp[e];omega
   . have e:S ||| 2 ^ i=2 ^ (i+1)-1:=by
      apply ao3;intro k;rw[aY,fB,lG];by_cases e:i=k
      . simp[e]
      . simp[e];omega
     rw[<- e];exact rY
 | succ fuel ih=>
   intro listed S B a w Z g uA hS BM rY xx hBJ h dh;have BN:∀ j,j∈Region.ready .any ops listed->j<ops.size/\(S ||| (bif B then 2 ^ i else 0)).testBit j=false/\∀ b,((bM ops.toList []).getD j 0).testBit b=true->(S ||| (bif B then 2 ^ i else 0)).testBit b=true:=by
    intro j hj;obtain⟨hj0,o,ho,he⟩:=mem_ready.1 hj;have aV:j<ops.size:=(amK.1 ho).1;refine⟨aV,?_,fun b lG=>?_⟩
    . rw[<- hS j aV];simp[amr,uA,aV]at hj0 ⊢;exact hj0
    . obtain⟨e,h1,h2,h3⟩:=rq ops.toList [] j o b (by rw[aml];exact ho) (by simpa using lG);have hl:=he e (aou.1 h1) h2;have Io:e.on<ops.size:=by
       rcases amz e.on ops.size with hh | hh
       . exact hh
       . simp[amr,uA,hh]at hl
      rw[hS _ Io]at hl;rcases h3 with h3 | ⟨_,h3⟩
      . rw[<- h3];exact hl
      . exact xx _ hl b h3
   have rZ:∀ k,k<ops.size->(S ||| (bif B then 2 ^ i else 0)).testBit k=false->∃ j,j∈Region.ready .any ops listed:=by
    intro k;induction k using Nat.strongRecOn with
    | _ k ihk=>
      intro hk hkS;obtain⟨o,ho⟩:∃ o,ops[k]? = some o:=⟨ops[k],by simp[hk]⟩;by_cases gm:∀ e∈o.after,Region.binds .any e=true->listed.getD e.on false=true
      . refine⟨k,mem_ready.2 ⟨?_,o,ho,gm⟩⟩;have:=hS k hk;rw[hkS]at this;simp[amr,uA,hk]at this ⊢;exact this
      . have hex:∃ e,e∈o.after/\Region.binds .any e=true/\¬ listed.getD e.on false=true:=by
         apply anX;intro cY;apply gm;intro e he vW;apply anX;intro B0;exact cY ⟨e,he,vW,B0⟩
        obtain⟨e,he,vW,B0⟩:=hex;have Io:=lU ops.toList 0 Mm k o (by rw[aml];exact ho) e (aou.2 he) vW;rw[amt]at Io;have Uj:e.on<ops.size:=Nat.lt_trans Io hk;refine ihk e.on Io Uj ?_;rw[<- hS _ Uj];simpa using B0
   have OP:∀ j (S':Nat),(∀ k,S'.testBit k=((S ||| (bif B then 2 ^ i else 0)) ||| 2 ^ j).testBit k)->j<ops.size->(∀ k,k<ops.size->(listed.setIfInBounds j true).getD k false=S'.testBit k):=by
    intro j S' hS' hj k hk;rw[hS',aY,<- hS k hk];by_cases Ki:j=k
    . subst Ki;simp[amr,uA,hj]
    . simp[amr,aow Ki,Ki]
   have OQ:∀ j (S':Nat),S'=(S ||| (bif B then 2 ^ i else 0)) ||| 2 ^ j->j<ops.size->(S ||| (bif B then 2 ^ i else 0)).testBit j=false->LH ops.size S'<=fuel:=by intro j S' hS' hj Uk;subst hS';have:=Ei ops.size j _ Uk;rw[if_pos hj]at this;omega
   have OR:∀ j,j∈Region.ready .any ops listed->∀ S',S'=(S ||| (bif B then 2 ^ i else 0)) ||| 2 ^ j->∀ k,S'.testBit k=true->∀ b,((bM ops.toList []).getD k 0).testBit b=true->S'.testBit b=true:=by
    intro j hj S' hS' k hk b lG;subst hS';rw[aY]at hk ⊢;by_cases Ki:j=k
    . subst Ki;rw[(BN j hj).2.2 b lG];rfl
    . have hk:(S ||| (bif B then 2 ^ i else 0)).testBit k=true:=by simpa[Ki]using hk
      rw[xx k hk b lG];rfl
   have Ms:∀ k,k<i->(S ||| (bif B then 2 ^ i else 0)).testBit k=S.testBit k:=fun k hk=>by
    cases B with
    | false=>simp
    | true=>rw[oT,aY];simp[show ¬ i=k by omega]
   have Yf:(S ||| (bif B then 2 ^ i else 0)).testBit i=B:=by
    cases B with
    | false=>simpa using BM i (oR _)
    | true=>rw[oT,aY];simp
   by_cases vX:B=true/\∀ j,j<i->S.testBit j=true
   . obtain⟨rfl,hT⟩:=vX;have lG:∀ j,S.testBit j=decide (j<i):=fun j=>by
      by_cases hj:j<i
      . simp[hj,hT j hj]
      . simp[hj,BM j (by omega)]
     refine Ie (fuel+1) listed S a w Z g uA (fun k hk=>?_) ?_ lG h dh
     . rw[hS k hk,oT,aY,lG];by_cases e:i=k
       . simp[e]
       . simp[e];omega
     . have e:S ||| 2 ^ i=2 ^ (i+1)-1:=by
        apply ao3;intro k;rw[aY,fB,lG];by_cases e:i=k
        . simp[e]
        . simp[e];omega
       rw[<- e];exact rY
   . have ah8:∃ k,k<ops.size/\(S ||| (bif B then 2 ^ i else 0)).testBit k=false:=by
      cases B with
      | false=>exact⟨i,hi,Yf⟩
      | true=>
        apply anX;intro cY;apply vX;refine⟨rfl,fun j hj=>?_⟩;rw[<- Ms j hj];cases hb:(S ||| (bif true then 2 ^ i else 0)).testBit j with
        | true=>rfl
        | false=>exact absurd ⟨j,by omega,hb⟩ cY
     refine⟨fun hr=>?_,fun j hj=>?_⟩
     . obtain⟨k,hk,hkS⟩:=ah8;obtain⟨j,hj⟩:=rZ k hk hkS;rw[hr]at hj;simp at hj
     . obtain⟨H3,Mn,Ul⟩:=BN j hj;rcases aoV j i with Im | Im | Im
       ·
        have Uk:S.testBit j=false:=by rw[<- Ms j Im];exact Mn
        have hS'hi:∀ k,i<=k->(S ||| 2 ^ j).testBit k=false:=fun k hk=>by rw[aY,BM k hk];simp;omega
        have heq:(S ||| 2 ^ j) ||| (bif B then 2 ^ i else 0)=(S ||| (bif B then 2 ^ i else 0)) ||| 2 ^ j:=by rw[Nat.or_assoc,Nat.or_comm (2 ^ j),<- Nat.or_assoc]
        cases B with
        | false=>
          simp only[oF,Nat.or_zero]at *
          have lF:∀(x:Nat),(bM ops.toList []).getD j x=(bM ops.toList []).getD j 0:=fun x=>by
           have nQ:j<(bM ops.toList []).length:=by rw[hlen];exact H3
           simp[List.getD,nQ]
          refine oS j Im cx S a w Z g _ Q (fun i' _ _ lG=>Ul i' (by rw[<- lF cW];exact lG)) Uk h dh fun Z' g' a' w' hr xw=>?_
          exact ih (listed.setIfInBounds j true) (S ||| 2 ^ j) false a' w' Z' g' (by simp[uA]) (fun k hk=>by simpa using OP j (S ||| 2 ^ j) (fun _=>rfl) H3 k hk) hS'hi (by simpa using OQ j _ rfl H3 Mn) (by simpa using OR j hj _ rfl) (fun hh=>by simp at hh) hr xw
        | true=>
          have hJj:J j=true:=by
           cases hb:J j with
           | true=>rfl
           | false=>rw[hBJ rfl j Im hb]at Uk;simp at Uk
          refine ah7 S j a w Z g _ (hBJ rfl) BM Im hJj Uk (fun b hb hbi=>by rw[<- Ms b hbi];exact Ul b hb) h dh fun Z' g' a' w' hr xw=>?_
          refine ih (listed.setIfInBounds j true) (S ||| 2 ^ j) true a' w' Z' g' (by simp[uA]) (OP j _ (fun k=>by rw[heq]) H3) hS'hi (OQ j _ heq H3 Mn) (OR j hj _ heq) (fun _ k hk hJ=>?_) hr xw;rw[aY,hBJ rfl k hk hJ];rfl
       ·
        subst Im;have hB:B=false:=by rw[<- Yf];exact Mn
        subst hB;simp only[oF,Nat.or_zero]at *
        have hSJ:∀ k,k<j->J k=false->S.testBit k=true:=fun k hk hJ=>Ul k (ah6 k hk hJ)
        refine BS S a w Z g _ hSJ BM h dh fun Z' g' a' w' hr xw=>?_
        exact ih (listed.setIfInBounds j true) S true a' w' Z' g' (by simp[uA]) (OP j _ (fun _=>rfl) H3) BM (OQ j _ rfl H3 Mn) (OR j hj _ rfl) (fun _=>hSJ) hr xw
       ·
        exfalso;apply vX;have gm:=aeb j Im H3;refine⟨by rw[<- Yf];exact Ul i (gm i (oR _)),fun k hk=>?_⟩;rw[<- Ms k hk];exact Ul k (gm k (aoB hk))
end
def St.aQ(st:St)(tm:List (Nat×TV)):St:=⟨tm,st.rt⟩
section
variable{st:St}{tm:List (Nat×TV)}
theorem eX(r j:Nat)(c:RC):(st.aQ tm).setCell r j c=(st.setCell r j c).aQ tm:=by unfold St.setCell St.aQ;cases look st.rt r <;> rfl
theorem fm(r j:Nat):(st.aQ tm).cell r j=st.cell r j:=rfl
theorem xO(a:AV):(st.aQ tm).read a=st.read a:=by cases a <;> rfl
theorem qH(a:AV):(st.aQ tm).live a=st.live a:=by
 cases a with
 | rp dep e ks xs i c=>cases dep <;> rfl
 | _=>rfl
theorem cT(k:K)(a:AV):(st.aQ tm).bI k a=st.bI k a:=by cases a <;> cases k <;> first | rfl | (simp only[St.bI,xO])
theorem Ha(a:AV):(st.aQ tm).take a=(st.take a).map fun p=>(p.1.aQ tm,p.2):=by
 cases a with
 | ref r j s=>
   simp only[St.take,fm];split
   . rename_i s' m k x hc;cases Nat.beq s' s <;> simp[eX]
   . rfl
 | cut r j s n=>
   simp only[St.take,fm];split
   . rename_i s' m e ks x hc;cases Nat.beq s' s <;> simp[eX]
   . rfl
 | _=>rfl
theorem fF(k:K)(a:AV):(st.aQ tm).cU k a=(st.cU k a).map fun p=>(p.1.aQ tm,p.2):=by
 have key:(match (st.aQ tm).take a with | some (ay,⟨k',x⟩)=>(match gJ k' k x with | some y=>some (ay,y) | none=>none) | none=>none)=((match st.take a with | some (ay,⟨k',x⟩)=>(match gJ k' k x with | some y=>some (ay,y) | none=>none) | none=>none):Option (St×T k)).map fun p=>(p.1.aQ tm,p.2):=by
  rw[Ha];cases st.take a with
  | none=>rfl
  | some q=>obtain⟨s1,k1,x1⟩:=q;simp only[amI];cases gJ k1 k x1 <;> rfl
 cases a <;> cases k <;> first | rfl | exact key
theorem Gw(a:AV):(st.aQ tm).kG a=st.kG a:=by cases a <;> first | rfl | (simp only[St.kG,xO,qH])
theorem qC(r j:Nat)(v:RV):(st.aQ tm).bump r j v=(st.bump r j v).map (fun s:St=>s.aQ tm):=by unfold St.bump;rw[fm];cases st.cell r j <;> simp[eX]
end
theorem km{tm:List (Nat×TV)}{r:Nat}:∀(ks:List K) (l:List AV) (j:Nat) (st:St),(st.aQ tm).dp r j ks l=(st.dp r j ks l).map (fun s:St=>s.aQ tm)
 | [],[],_,_=>rfl
 | [],_::_,_,_=>by simp[St.dp]
 | _::_,[],_,_=>by simp[St.dp]
 | k::ks,a::l,j,st=>by
   have tb:∀(av:AV),(match (st.aQ tm).cU k av with | some (ay,x)=>(match ay.bump r j (.own k x)with | some ay=>ay.dp r (j+1) ks l | none=>none) | none=>none)=(match st.cU k av with | some (ay,x)=>(match ay.bump r j (.own k x)with | some ay=>ay.dp r (j+1) ks l | none=>none) | none=>none).map (fun s:St=>s.aQ tm):=fun av=>by
    rw[fF];cases st.cU k av with
    | none=>rfl
    | some q=>
      simp only[amI,qC];cases q.1.bump r j (.own k q.2)with
      | none=>rfl
      | some s=>exact km ks l (j+1) s
   have td:(match (st.aQ tm).kG a with | some c=>(match (st.aQ tm).bump r j c.v with | some ay=>ay.dp r (j+1) ks l | none=>none) | none=>none)=(match st.kG a with | some c=>(match st.bump r j c.v with | some ay=>ay.dp r (j+1) ks l | none=>none) | none=>none).map (fun s:St=>s.aQ tm):=by
    rw[Gw];cases st.kG a with
    | none=>rfl
    | some c=>
      simp only[qC];cases st.bump r j c.v with
      | none=>rfl
      | some s=>exact km ks l (j+1) s
   cases a with
   | ref r2 j2 s2=>
     simp only[St.dp];cases hb:Nat.beq r r2&&Nat.beq j j2 with
     | true=>
       simp only[oT,fm];cases st.cell r j with
       | none=>rfl
       | some c=>
         simp only;cases Nat.beq c.s s2 with
         | false=>rfl
         | true=>exact km ks l (j+1) st
     | false=>simp only[oF];exact tb _
   | cut r2 j2 s2 n=>simp only[St.dp];exact tb _
   | nil=>
     simp only[St.dp];cases k with
     | sl e bZ=>
       simp only[qC];cases st.bump r j (.own (.sl e bZ) ([]:List (Tl bZ)))with
       | none=>rfl
       | some s=>exact km ks l (j+1) s
     | _=>rfl
   | _=>simp only[St.dp];exact td
theorem qb{tm:List (Nat×TV)}{r j s i m0:Nat}:∀(ks:List K) (l:List AV) (c:Nat) (st:St),(st.aQ tm).kJ r j s i m0 c ks l=(st.kJ r j s i m0 c ks l).map (fun s:St=>s.aQ tm)
 | [],[],_,_=>rfl
 | [],_::_,_,_=>by simp[St.kJ]
 | _::_,[],_,_=>by simp[St.kJ]
 | k::ks,a::l,c,st=>by
   have fin:∀(q:Option (St×T k)),(match q.map (fun p:St×T k=>(p.1.aQ tm,p.2))with
    | some (ay,x)=>(match ay.cell r j with
      | some ⟨s',m,.own (.sl e gn) xs⟩=>bif Nat.beq s' s then (match setAt gn (hE xs i) c k x with
        | some y=>(ay.setCell r j ⟨s',m+1,.own (.sl e gn) (List.set (aW xs) i y)⟩).kJ r j s i m0 (c+1) ks l
        | none=>none)else none
      | _=>none)
    | none=>none)=(match q with
    | some (ay,x)=>(match ay.cell r j with
      | some ⟨s',m,.own (.sl e gn) xs⟩=>bif Nat.beq s' s then (match setAt gn (hE xs i) c k x with
        | some y=>(ay.setCell r j ⟨s',m+1,.own (.sl e gn) (List.set (aW xs) i y)⟩).kJ r j s i m0 (c+1) ks l
        | none=>none)else none
      | _=>none)
    | none=>none).map (fun s:St=>s.aQ tm):=fun q=>by
    cases q with
    | none=>rfl
    | some q=>
      simp only[amI,fm];split
      . rename_i s' m e gn xs hc;cases Nat.beq s' s with
        | false=>rfl
        | true=>
          simp only[oT];cases setAt gn (hE xs i) c k q.2 with
          | none=>rfl
          | some y=>simp only[eX];exact qb ks l (c+1) _
      . rfl
   have eD:(st.aQ tm).oK r j s m0 c a=st.oK r j s m0 c a:=rfl;cases Ft:st.oK r j s m0 c a with
   | true=>unfold St.kJ;rw[eD,Ft];exact qb ks l (c+1) st
   | false=>
   unfold St.kJ;rw[eD,Ft];simp only[oF];cases k with
   | sl e0 gn=>simp only;rw[fF];exact fin _
   | int _=>
     simp only;rw[cT];cases st.bI _ a with
     | none=>rfl
     | some x=>
       cases hf:a.bV with
       | false=>rfl
       | true=>exact fin (some (st,x))
   | bool=>
     simp only;rw[cT];cases st.bI _ a with
     | none=>rfl
     | some x=>
       cases hf:a.bV with
       | false=>rfl
       | true=>exact fin (some (st,x))
   | str=>
     simp only;rw[cT];cases st.bI _ a with
     | none=>rfl
     | some x=>
       cases hf:a.bV with
       | false=>rfl
       | true=>exact fin (some (st,x))
theorem pD{tm:List (Nat×TV)}{r j s i m0:Nat}{gn:List K}{z0:Tl gn}:∀(ks:List K) (l:List AV) (c:Nat) (st:St),(st.aQ tm).gZ r j s i m0 gn z0 c ks l=(st.gZ r j s i m0 gn z0 c ks l).map (fun q:St×Tl ks=>(q.1.aQ tm,q.2))
 | [],[],_,_=>rfl
 | [],_::_,_,_=>by simp[St.gZ]
 | _::_,[],_,_=>by simp[St.gZ]
 | k::ks,a::l,c,st=>by
   have eD:(st.aQ tm).oK r j s m0 c a=st.oK r j s m0 c a:=rfl;have hmo:(st.aQ tm).Hy r j=st.Hy r j:=rfl;unfold St.gZ;rw[eD,hmo];cases Ft:st.oK r j s m0 c a with
   | true=>
     simp only[oT];rw[pD ks l (c+1) st];cases cellAt gn z0 c with
     | none=>rfl
     | some z=>
       simp only;cases gJ z.1 k z.2 with
       | none=>rfl
       | some x=>cases st.gZ r j s i m0 gn z0 (c+1) ks l <;> rfl
   | false=>
   simp only[oF]
   have fin:∀(q:Option (St×T k)),(match q.map (fun p:St×T k=>(p.1.aQ tm,p.2))with
    | some (ay,x)=>(match ay.cell r j with
      | some ⟨s',m,.own (.sl e Kk) xs⟩=>bif Nat.beq s' s&&Nat.beq m (st.Hy r j)then (match setAt Kk (hE xs i) c k x with
        | some y=>(match (ay.setCell r j ⟨s',m+1,.own (.sl e Kk) (List.set (aW xs) i y)⟩).gZ r j s i m0 gn z0 (c+1) ks l with | some q=>some (q.1,(x,q.2)) | none=>none)
        | none=>none)else none
      | _=>none)
    | none=>(none:Option (St×Tl (k::ks))))=(match q with
    | some (ay,x)=>(match ay.cell r j with
      | some ⟨s',m,.own (.sl e Kk) xs⟩=>bif Nat.beq s' s&&Nat.beq m (st.Hy r j)then (match setAt Kk (hE xs i) c k x with
        | some y=>(match (ay.setCell r j ⟨s',m+1,.own (.sl e Kk) (List.set (aW xs) i y)⟩).gZ r j s i m0 gn z0 (c+1) ks l with | some q=>some (q.1,(x,q.2)) | none=>none)
        | none=>none)else none
      | _=>none)
    | none=>none).map (fun q:St×Tl (k::ks)=>(q.1.aQ tm,q.2)):=fun q=>by
    cases q with
    | none=>rfl
    | some q=>
      simp only[amI,fm];split
      . rename_i s' m e Kk xs hc;cases Nat.beq s' s&&Nat.beq m (st.Hy r j)with
        | false=>rfl
        | true=>
          simp only[oT];cases setAt Kk (hE xs i) c k q.2 with
          | none=>rfl
          | some y=>simp only[eX];rw[pD ks l (c+1) _];cases(q.1.setCell r j ⟨s',m+1,.own (.sl e Kk) (List.set (aW xs) i y)⟩).gZ r j s i m0 gn z0 (c+1) ks l <;> rfl
      . rfl
   cases k with
   | sl e0 Kk=>simp only;rw[fF];exact fin _
   | int _=>
     simp only;rw[cT];cases st.bI _ a with
     | none=>rfl
     | some x=>
       cases hf:a.bV with
       | false=>rfl
       | true=>exact fin (some (st,x))
   | bool=>
     simp only;rw[cT];cases st.bI _ a with
     | none=>rfl
     | some x=>
       cases hf:a.bV with
       | false=>rfl
       | true=>exact fin (some (st,x))
   | str=>
     simp only;rw[cT];cases st.bI _ a with
     | none=>rfl
     | some x=>
       cases hf:a.bV with
       | false=>rfl
       | true=>exact fin (some (st,x))
theorem Ed{tm:List (Nat×TV)}{st:St}{r j s i:Nat}{ks:List K}{l:List AV}:(st.aQ tm).xA r j s i ks l=(st.xA r j s i ks l).map (fun s:St=>s.aQ tm):=by
 unfold St.xA;rw[fm];split
 . rename_i s0 m e gn xs hc;rw[pD];cases st.gZ r j s i m gn (hE xs i) 0 ks l with
   | none=>rfl
   | some q=>
     simp only[amI,fm];cases By ks gn q.2 with
     | none=>rfl
     | some y=>
       cases q.1.cell r j with
       | none=>rfl
       | some c1=>
         simp only;cases Nat.blt m c1.m with
         | false=>rfl
         | true=>simp only[oT,eX];rfl
 . rfl
theorem DK{tm:List (Nat×TV)}{st:St}{ks:List K}{l:List AV}{a:AV}:(st.aQ tm).store ks l a=(st.store ks l a).map (fun s:St=>s.aQ tm):=by
 cases a with
 | ptr r j=>exact km ks l j st
 | pel r j s i c=>
   simp only[St.store,qH];cases st.live (.pel r j s i c)with
   | false=>rfl
   | true=>
     simp only[oT];cases Nat.beq c 0&&Nat.ble 8 l.length with
     | false=>exact qb ks l c st
     | true=>exact Ed
 | _=>rfl
theorem AK{st ay:St}{r j:Nat}{v:RV}(h:st.bump r j v=some ay):cA st ay:=by
 unfold St.bump at h;split at h
 . rename_i c hc;simp only[amh]at h;subst h;exact cA.set hc (aog _) (ani _)
 . simp at h
theorem nX{r:Nat}:∀(ks:List K) (l:List AV) (j:Nat) (st ay:St),st.dp r j ks l=some ay->cA st ay
 | [],[],_,st,ay,h=>by simp[St.dp]at h;subst h;exact cA.refl _
 | [],_::_,_,st,ay,h=>by simp[St.dp]at h
 | _::_,[],_,st,ay,h=>by simp[St.dp]at h
 | k::ks,a::l,j,st,ay,h=>by
   have tk:∀(a:AV),(match st.cU k a with | some (ca,x)=>(match ca.bump r j (.own k x)with | some ca=>ca.dp r (j+1) ks l | none=>none) | none=>none)=some ay->cA st ay:=fun a h=>by
    split at h
    . rename_i ca x hx;split at h
      . rename_i Yj h2;exact(im hx).trans ((AK h2).trans (nX ks l _ _ _ h))
      . simp at h
    . simp at h
   cases a with
   | ref r2 j2 s2=>
     simp only[St.dp]at h;cases hb:Nat.beq r r2&&Nat.beq j j2 with
     | true=>
       rw[hb]at h;simp only[oT]at h;split at h
       . obtain⟨_,h⟩:=ly h;exact nX ks l _ _ _ h
       . simp at h
     | false=>rw[hb]at h;exact tk _ h
   | cut r2 j2 s2 n=>simp only[St.dp]at h;exact tk _ h
   | nil=>
     simp only[St.dp]at h;split at h
     . split at h
       . rename_i Yj h2;exact(AK h2).trans (nX _ l _ _ _ h)
       . simp at h
     . simp at h
   | _=>
     simp only[St.dp]at h;split at h
     . split at h
       . rename_i Yj h2;exact(AK h2).trans (nX ks l _ _ _ h)
       . simp at h
     . simp at h
theorem zG{r j s i m0:Nat}:∀(ks:List K) (l:List AV) (c:Nat) (st ay:St),st.kJ r j s i m0 c ks l=some ay->cA st ay
 | [],[],_,st,ay,h=>by simp[St.kJ]at h;subst h;exact cA.refl _
 | [],_::_,_,st,ay,h=>by simp[St.kJ]at h
 | _::_,[],_,st,ay,h=>by simp[St.kJ]at h
 | k::ks,a::l,c,st,ay,h=>by
   simp only[St.kJ]at h;cases Ft:st.oK r j s m0 c a with
   | true=>rw[Ft]at h;exact zG ks l _ _ _ h
   | false=>
   rw[Ft]at h;simp only[oF]at h;split at h
   . rename_i ca x hx;have h1:cA st ca:=by
      split at hx
      . exact im hx
      . split at hx
        . obtain⟨_,hx⟩:=ly hx;simp only[amh,amO]at hx;obtain⟨rfl,_⟩:=hx;exact cA.refl _
        . simp at hx
     split at h
     . rename_i hc;obtain⟨_,h⟩:=ly h;split at h
       . refine h1.trans (cA.trans (cA.set hc ?_ ?_) (zG ks l _ _ _ h))
         . exact oR _
         . exact ani _
       . simp at h
     . simp at h
   . simp at h
theorem wW{r j s i m0:Nat}{gn:List K}{z0:Tl gn}:∀(ks:List K) (l:List AV) (c:Nat) (st:St) (q:St×Tl ks),st.gZ r j s i m0 gn z0 c ks l=some q->cA st q.1
 | [],[],_,st,q,h=>by simp[St.gZ]at h;subst h;exact cA.refl _
 | [],_::_,_,st,q,h=>by simp[St.gZ]at h
 | _::_,[],_,st,q,h=>by simp[St.gZ]at h
 | k::ks,a::l,c,st,q,h=>by
   unfold St.gZ at h;cases Ft:st.oK r j s m0 c a with
   | true=>
     rw[Ft]at h;simp only[oT]at h;split at h
     . split at h
       . rename_i x q' hx Kn;simp only[amh]at h;subst h;exact wW ks l (c+1) st q' Kn
       . simp at h
     . simp at h
   | false=>
   rw[Ft]at h;simp only[oF]at h;split at h
   . rename_i ca x hx;have h1:cA st ca:=by
      split at hx
      . exact im hx
      . split at hx
        . obtain⟨_,hx⟩:=ly hx;simp only[amh,amO]at hx;obtain⟨rfl,_⟩:=hx;exact cA.refl _
        . simp at hx
     split at h
     . rename_i hc;obtain⟨_,h⟩:=ly h;split at h
       . split at h
         . rename_i q' Kn;simp only[amh]at h;subst h;refine h1.trans (cA.trans (cA.set hc ?_ ?_) (wW ks l _ _ q' Kn))
           . exact oR _
           . exact ani _
         . simp at h
       . simp at h
     . simp at h
   . simp at h
theorem Om{st ay:St}{r j s i:Nat}{ks:List K}{l:List AV}(h:st.xA r j s i ks l=some ay):cA st ay:=by
 unfold St.xA at h;split at h
 . rename_i s0 m e gn xs hc;split at h
   . rename_i q hq;split at h
     . rename_i y c1 hy yp;obtain⟨hb,h⟩:=ly h;simp only[amh]at h;subst h;have hv:=wW ks l 0 st q hq;have aV:m<c1.m:=ann (amE hb);intro r' j' c hcc;obtain⟨c',k1,k2,k3,k4⟩:=hv r' j' c hcc;rw[dI];by_cases hh:r=r'/\j=j'
       . obtain⟨rfl,rfl⟩:=hh;rw[if_pos ⟨rfl,rfl⟩,k1];rw[k1]at yp;cases yp;rw[hc]at hcc;cases hcc;exact⟨_,rfl,k2,k3,fun _ e=>by simp only at e;omega⟩
       . rw[if_neg hh];exact⟨c',k1,k2,k3,k4⟩
     . simp at h
   . simp at h
 . simp at h
theorem My{st ay:St}{ks:List K}{l:List AV}{a:AV}(h:st.store ks l a=some ay):cA st ay:=by
 unfold St.store at h;split at h
 . exact nX _ _ _ _ _ h
 . obtain⟨_,h⟩:=ly h;revert h;generalize (Nat.beq _ 0&&Nat.ble 8 l.length)=b;cases b with
   | true=>exact fun h=>Om h
   | false=>exact fun h=>zG _ _ _ _ _ h
 . simp at h
theorem Cb{E:En}{v ca:St}{t:Nat}{a x:Operand}(h:(Cc E v none (.store t a x)).run=some ca):cA v ca:=by
 unfold Cc at h;obtain⟨ti,h1,h⟩:=Tr.ai h;obtain⟨ta,h2,h⟩:=Tr.ai h;obtain⟨av,h3,h⟩:=Tr.ai h;obtain⟨tx,h4,h⟩:=Tr.ai h;obtain⟨p,h5,h⟩:=Tr.ai h;cases hb:p.2.all v.live&&Nat.beq p.2.length ti.ks.length with
 | false=>rw[hb]at h;simp[Tr.run]at h
 | true=>rw[hb]at h;simp only[oT]at h;obtain⟨_,h⟩:=Tr.bT h;obtain⟨s1,h6,h⟩:=Tr.ai h;simp only[Tr.run,amh]at h;subst h;exact My h6
def rm(st ay:St)(r:Nat):Nat->Nat->Bool
 | _,0=>true
 | j,n+1=>(match st.cell r j,ay.cell r j with | some c,some c'=>Nat.beq c'.s c.s&&Nat.beq c'.m c.m | _,_=>false)&&rm st ay r (j+1) n
theorem Lb{st ay:St}(hv:cA st ay){r:Nat}:∀(n j:Nat),rm st ay r j n=true->ay.dV r j n=st.dV r j n
 | 0,_,_=>rfl
 | n+1,j,h=>by
   simp only[rm,ami]at h;obtain⟨h1,h2⟩:=h;split at h1
   . rename_i c c' hc xv;simp only[ami]at h1;obtain⟨c2,e1,_,_,e4⟩:=hv r j c hc;rw[xv]at e1;cases e1;have e:=e4 (beq_eq h1.1) (beq_eq h1.2);subst e;have:ay.kH r j=st.kH r j:=by simp only[St.kH,hc,xv]
     simp only[St.dV,this,Lb hv n (j+1) h2]
   . simp at h1
section
variable{E:En}{base:St}{ops:List Oper}{ns:List Nat}
theorem Cw(hnf:∀ i,j6 ns i=false)(hg:bO ops=false):∀(l:List Oper) (i:Nat) (bs:Bd) (v:St),(∀ o∈l,o.guard=none)->eJ E.CJ base bs->(∀ e∈bs,e.1<i)->(fS E true ops ns l i base bs).run=some v ->
 ∃ kU,eJ E.CJ base kU/\v=aG base kU/\(∀ e∈bs,e∈kU)/\∀ k o,l[k]? = some o->∃ d p mask Vg,o.dst=some d/\(i+k,d,p)∈kU/\(∀ e∈Vg,e∈kU)/\(yU E (view base mask Vg) d o.op).run=some p
 | [],i,bs,v,_,hb,_,h=>by simp only[fS,Tr.run,amh,hg,lz,oF]at h;exact⟨bs,hb,h.symm,fun e he=>he,fun k o hk=>by simp at hk⟩
 | o::r,i,bs,v,p9,hb,hi,h=>by
   have hgo:=p9 o (amD ..);unfold fS at h;simp only[hgo]at h;split at h
   . rename_i d hd;have key:∀(t:Tr (TV×Option Rt)),t=Ai E (ns.getD i cW) o d base bs (true&& !j6 ns i)->(t.bind fun p=>fS E true ops ns r (i+1) base ((i,d,p)::bs)).run=some v->∃ kU,eJ E.CJ base kU/\v=aG base kU/\(∀ e∈bs,e∈kU)/\∀ k o',(o::r)[k]? = some o'->∃ d p mask Vg,o'.dst=some d/\(i+k,d,p)∈kU/\(∀ e∈Vg,e∈kU)/\(yU E (view base mask Vg) d o'.op).run=some p:=by
      intro t ht h;rw[Tr.run_bind]at h;cases hp:t.run with
      | none=>rw[hp]at h;simp at h
      | some p=>
        rw[hp]at h;simp only[oB]at h;rw[ht]at hp;unfold Ai at hp;cases ha:(qx o.op&& !(true&& !j6 ns i))with
        | true=>rw[ha]at hp;simp[Tr.run]at hp
        | false=>
          rw[ha]at hp;simp only[oF]at hp;cases hc:E.dB d&&pR base d&&base.free d&& !lL d bs with
          | false=>rw[hc]at hp;simp[Tr.run]at hp
          | true=>
            rw[hc]at hp;simp only[oT]at hp;have cz:eJ E.CJ base ((i,d,p)::bs):=eJ.yx (fun h=>h) hb hc fun e he=>Nat.ne_of_lt (hi e he)
            obtain⟨kU,g1,g2,g3,g4⟩:=Cw hnf hg r (i+1) ((i,d,p)::bs) v (fun o' jY=>p9 o' (amy _ jY)) cz (fun e he=>by
             rcases ams.1 he with he | he
             . subst he;exact ani _
             . exact ape (hi e he)) h
            refine⟨kU,g1,g2,fun e he=>g3 e (amy _ he),fun k o' hk=>?_⟩;cases k with
            | zero=>simp only[amn,amh]at hk;subst hk;exact⟨d,p,_,bs,hd,g3 _ (amD ..),fun e he=>g3 e (amy _ he),hp⟩
            | succ k=>obtain⟨d',p',m',b0,q1,q2,q3,q4⟩:=g4 k o' (by simpa using hk);exact⟨d',p',m',b0,q1,by rw[show i+(k+1)=i+1+k by omega];exact q2,q3,q4⟩
     split at h
     . simp[hnf,Tr.run]at h
     . exact key _ rfl h
   . simp[hnf,Tr.run]at h
end
theorem aao{st ay:St}(h:ay.rt=st.rt){r:Nat}:∀(n j:Nat),ay.dV r j n=st.dV r j n
 | 0,_=>rfl
 | n+1,j=>by
   have:ay.kH r j=st.kH r j:=by unfold St.kH St.cell;rw[h]
   simp only[St.dV,this,aao h n (j+1)]
theorem w9{base:St}{m:Nat}:∀ {bs:Bd} {t:Nat} {tv:TV},look (view base m bs).tm t=some tv->(∃ i p,(i,t,p)∈bs/\p.1=tv)∨look base.tm t=some tv
 | [],t,tv,h=> .inr h
 | (i0,t0,p0)::r,t,tv,h=>by
   unfold view at h;cases hb:m.testBit i0 with
   | false=>
     rw[hb]at h;rcases w9 (bs:=r) h with ⟨i,p,h1,h2⟩ | h1
     . exact .inl ⟨i,p,amy _ h1,h2⟩
     . exact .inr h1
   | true=>
     rw[hb]at h;simp only[oT]at h;rw[cC]at h;split at h
     . rename_i he;subst he;simp only[amh]at h;exact .inl ⟨i0,p0,amD ..,h⟩
     . rcases w9 (bs:=r) h with ⟨i,p,h1,h2⟩ | h1
       . exact .inl ⟨i,p,amy _ h1,h2⟩
       . exact .inr h1
theorem Rh{l:List Nat}(hl:0<l.length)(i:Nat):j6 (l++[0]) i=false:=by
 cases hf:j6 (l++[0]) i with
 | false=>rfl
 | true=>
   exfalso;unfold j6 at hf;simp only[ami,amB,anu]at hf;rcases amz i l.length with h | h
   . have:=hf.2 (l.length-i-1) (by rw[amj];simp;omega);rw[show i+1+(l.length-i-1)=l.length by omega]at this;simp[List.getD]at this
   . have:=hf.1 0 (by omega);have e:(l++[0]).getD i 0=0:=by
      rw[List.getD];rcases amz i (l++[0]).length with h2 | h2
      . have:i=l.length:=by rw[amj]at h2;simp at h2;omega
        subst this;simp
      . rw[amA h2];rfl
     rw[e]at this;simp at this
section
variable{tm:List (Nat×TV)}
theorem qe{st:St}:∀(ks:List K) (l:List AV),(st.aQ tm).readAll ks l=st.readAll ks l
 | [],[]=>rfl
 | [],_::_=>rfl
 | _::_,[]=>rfl
 | k::ks,a::l=>by simp only[St.readAll,cT,qe ks l]
theorem uG{fr:Bool}:∀(ks:List K) (l:List AV) (st:St) (q:St×Tl ks),jV st fr ks l=some q->jV (st.aQ tm) fr ks l=some (q.1.aQ tm,q.2)/\cA st q.1
 | [],[],st,q,h=>by cases h;exact⟨rfl,cA.refl _⟩
 | [],_::_,_,_,h=>by simp[jV]at h
 | k::ks,[],_,_,h=>by cases k <;> simp[jV]at h
 | .sl e bZ::ks,a::l,st,q,h=>by
   unfold jV at h ⊢;split at h
   . rename_i ca x hx;split at h
     . rename_i y hy;cases h;obtain⟨i1,i2⟩:=uG ks l ca y hy;have hx2:(bif fr then (st.aQ tm).cU (.sl e bZ) a else bif a.bV||AZ ((st.aQ tm).bI (.sl e bZ) a)then (match (st.aQ tm).bI (.sl e bZ) a with | some x=>some (st.aQ tm,x) | none=>none)else none)=some (ca.aQ tm,x)/\cA st ca:=by
        cases fr with
        | true=>have hx:st.cU (.sl e bZ) a=some (ca,x):=hx;exact⟨by show(st.aQ tm).cU (.sl e bZ) a=_;rw[fF,hx];rfl,im hx⟩
        | false=>
          simp only[oF,cT]at hx ⊢;cases hb:a.bV||AZ (st.bI (.sl e bZ) a)with
          | false=>rw[hb]at hx;simp at hx
          | true=>
            rw[hb]at hx;simp only[oT]at hx ⊢;cases hr:st.bI (.sl e bZ) a with
            | none=>rw[hr]at hx;simp at hx
            | some z=>rw[hr]at hx;cases hx;exact⟨rfl,cA.refl _⟩
       refine⟨?_,hx2.2.trans i2⟩;split
       . rename_i s2 x2 h2;have e:=h2.symm.trans hx2.1;cases e;rw[i1]
       . rename_i h2;have e:=h2.symm.trans hx2.1;cases e
     . simp at h
   . simp at h
 | .int k::ks,a::l,st,q,h=>by
   unfold jV at h ⊢;rw[cT];split at h
   . rename_i x y hx hf hy;cases h;obtain⟨i1,i2⟩:=uG ks l st y hy;rw[hx,hf,i1];exact⟨rfl,i2⟩
   . simp at h
 | .bool::ks,a::l,st,q,h=>by
   unfold jV at h ⊢;rw[cT];split at h
   . rename_i x y hx hf hy;cases h;obtain⟨i1,i2⟩:=uG ks l st y hy;rw[hx,hf,i1];exact⟨rfl,i2⟩
   . simp at h
 | .str::ks,a::l,st,q,h=>by
   unfold jV at h ⊢;rw[cT];split at h
   . rename_i x y hx hf hy;cases h;obtain⟨i1,i2⟩:=uG ks l st y hy;rw[hx,hf,i1];exact⟨rfl,i2⟩
   . simp at h
theorem Ly{st:St}{e:TypeId}{ks:List K}{y:TV}{q:St×List (Tl ks)}(h:st.news e ks y=some q):(st.aQ tm).news e ks y=some (q.1.aQ tm,q.2)/\cA st q.1:=by
 have src:∀ b:AV,(match st.source (.sl e ks) ks b with | some (ay,z)=>some (ay,aW z) | none=>none)=some q->(match (st.aQ tm).source (.sl e ks) ks b with | some (ay,z)=>some (ay,aW z) | none=>none)=some (q.1.aQ tm,q.2)/\cA st q.1:=fun b h=>by
  unfold St.source at h ⊢;cases hf:flat ks with
  | true=>
    rw[hf]at h;simp only[oT,cT]at h ⊢;cases hr:st.bI (.sl e ks) b with
    | none=>rw[hr]at h;simp at h
    | some z=>rw[hr]at h;cases h;exact⟨rfl,cA.refl _⟩
  | false=>
    rw[hf]at h;simp only[oF,fF]at h ⊢;cases hr:st.cU (.sl e ks) b with
    | none=>rw[hr]at h;simp at h
    | some z=>rw[hr]at h;cases h;exact⟨rfl,im hr⟩
 cases y with
 | v av=>
   cases av with
   | d k s=>
     cases k with
     | str=>
       simp only[St.news]at h ⊢;split at h
       . rename_i z hz;cases h;exact⟨rfl,cA.refl _⟩
       . simp at h
     | _=>exact src _ h
   | qO r n=>
     simp only[St.news]at h ⊢;cases hb:Nat.beq n 1 with
     | false=>rw[hb]at h;simp at h
     | true=>
       rw[hb]at h;simp only[oT]at h ⊢;show(match look st.rt r with | some ⟨true,l⟩=>(match jV (st.aQ tm) true ks (l.map wT)with | some (ay,x)=>some (ay,[x]) | none=>none) | _=>none)=_/\_;split at h
       . rename_i l hl;rw[hl];split at h
         . rename_i ca x hx;cases h;obtain⟨i1,i2⟩:=uG (tm:=tm) ks _ st _ hx;dsimp only;rw[i1];exact⟨rfl,i2⟩
         . simp at h
       . simp at h
   | _=>exact src _ h
 | _=>simp[St.news]at h
theorem w7{st:St}{d:Nat}{tv:TV}{R:Rt}(h:st.free d=true):cA st (st.ba d (tv,some R)):=fun r j c hc=>by
 have cY:d≠r:=fun e=>by
  subst e;unfold St.free at h;unfold St.cell at hc;cases hl:look st.rt d with
  | none=>rw[hl]at hc;simp at hc
  | some R=>rw[hl]at h;simp at h
 refine⟨c,?_,oR _,oR _,fun _ _=>rfl⟩;show(match look ((d,R)::st.rt) r with | some R=>R.cells[j]? | none=>none)=_;rw[aN,if_neg cY];exact hc
structure WTm (E:En) (v ca:St) (d:Nat) (tv:TV) (F:St->Tr St):Prop where
 eq:ca=⟨(d,tv)::v.tm,ca.rt⟩
 may:¬ tv.iL
 ver:cA v ca
 all:∀ tm,(F (v.aQ tm)).run=some ⟨(d,tv)::tm,ca.rt⟩
theorem MW{E:En}{v ca:St}{d e:Nat}{te:TI}{x y:TV}(h:(v.append d e te x y).run=some ca):∃ tv,WTm E v ca d tv fun s=>s.append d e te x y:=by
 unfold St.append at h;obtain⟨a,h1,h⟩:=Tr.ai h;obtain⟨p,h2,h⟩:=Tr.ai h;obtain⟨q,h3,h⟩:=Tr.ai h;cases hb:q.1.free d&&Nat.blt 0 te.bytes with
 | false=>rw[hb]at h;simp[Tr.run]at h
 | true=>
   rw[hb]at h;simp only[oT]at h;obtain⟨hn,h⟩:=Tr.bT h;simp only[Tr.run,amh]at h;subst h;have e2:∀ tm,(v.aQ tm).cU (.sl e te.ks) a=some (p.1.aQ tm,p.2):=fun tm=>by rw[fF,h2];rfl
   have e3:∀ tm,(p.1.aQ tm).news e te.ks y=some (q.1.aQ tm,q.2):=fun tm=>(Ly h3).1
   have hp:p.1=p.1.aQ v.tm:=by have:=e2 v.tm;rw[show v.aQ v.tm=v from rfl,h2]at this;exact amP (fun o=>(o.getD (v,[]):St×T (.sl e te.ks)).1) this
   have hq:q.1.tm=v.tm:=by have:=e3 v.tm;rw[<- hp,h3]at this;exact amP (fun o=>(o.getD (v,[]):St×List (Tl te.ks)).1.tm) this
   have yP:q.1.free d=true:=by simp only[ami]at hb;exact hb.1
   refine⟨.v (.ref d 0 0),by rw[<- hq];rfl,fun h=>h,((im h2).trans (Ly (tm:=v.tm) h3).2).trans (w7 yP),fun tm=>?_⟩;have e4:((q.1.aQ tm).free d&&Nat.blt 0 te.bytes)=true:=hb;simp only[St.append,h1,Tr.cu,e2,e3,e4,oT,hn,Tr.need,Tr.run];rfl
theorem IL{E:En}{v ca:St}{d e:Nat}{te:TI}{x y:TV}(h:(v.oX d e te x y).run=some ca):∃ tv,WTm E v ca d tv fun s=>s.oX d e te x y:=by
 unfold St.oX at h;obtain⟨p,h2,h⟩:=Tr.ai h;obtain⟨ys,h3,h⟩:=Tr.ai h;cases hb:p.1.free d&&Nat.blt 0 te.bytes with
 | false=>rw[hb]at h;simp[Tr.run]at h
 | true=>
   rw[hb]at h;simp only[oT]at h;obtain⟨hn,h⟩:=Tr.bT h;simp only[Tr.run,amh]at h;subst h;have e2v:(∀ tm,(v.aQ tm).Ht e te.ks x=some (p.1.aQ tm,p.2))/\cA v p.1:=by
    unfold St.Ht at h2 ⊢;cases x with
    | bc r j s m e' bZ x'=>
      simp only[fm]at h2 ⊢;split at h2
      . rename_i c hc;cases l6:Nat.beq c.s s&&Nat.beq c.m m with
        | false=>rw[l6]at h2;simp at h2
        | true=>
          rw[l6]at h2;simp only[oT]at h2;split at h2
          . rename_i z hz;cases h2;refine⟨fun tm=>?_,cA.set hc (aog _) (ani _)⟩;simp only[hc,l6,oT,hz,eX]
          . simp at h2
      . simp at h2
    | v a=>have h2:v.cU (.sl e te.ks) a=some p:=h2;exact⟨fun tm=>by show(v.aQ tm).cU (.sl e te.ks) a=_;rw[fF,h2];rfl,im h2⟩
    | _=>simp at h2
   have e3:∀ tm,(p.1.aQ tm).F3 e te.ks y=some ys:=fun tm=>by
    rw[<- h3];unfold St.F3;cases y with
    | v a=>
      cases a with
      | qO r n=>simp only[qe];rfl
      | _=>rfl
    | _=>rfl
   have hp:p.1.tm=v.tm:=by have:=e2v.1 v.tm;rw[show v.aQ v.tm=v from rfl,h2]at this;exact amP (fun o=>(o.getD (v,[]):St×T (.sl e te.ks)).1.tm) this
   have yP:p.1.free d=true:=by simp only[ami]at hb;exact hb.1
   refine⟨.bc d 0 0 0 e te.ks (cat te.ks (aW p.2) ys),by rw[<- hp];rfl,fun h=>h,e2v.2.trans (w7 yP),fun tm=>?_⟩;have e4:((p.1.aQ tm).free d&&Nat.blt 0 te.bytes)=true:=hb;simp only[St.oX,Tr.cu,e2v.1,e3,e4,oT,hn,Tr.need,Tr.run];rfl
theorem IY{E:En}{v ca:St}{d e:Nat}{te:TI}{n:Int}(h:(v.pK d e te n).run=some ca):∃ tv,WTm E v ca d tv fun s=>s.pK d e te n:=by
 unfold St.pK at h;cases hb:v.free d&&Nat.blt 0 te.bytes with
 | false=>rw[hb]at h;simp[Tr.run]at h
 | true=>
   rw[hb]at h;simp only[oT]at h;obtain⟨hn,h⟩:=Tr.bT h;simp only[Tr.run,amh]at h;subst h;have yP:v.free d=true:=by simp only[ami]at hb;exact hb.1
   refine⟨.v (.ref d 0 0),rfl,fun h=>h,w7 yP,fun tm=>?_⟩;have e4:((v.aQ tm).free d&&Nat.blt 0 te.bytes)=true:=hb;simp only[St.pK,e4,oT,hn,Tr.need,Tr.run];rfl
theorem B3{E:En}{v ca:St}{d:Nat}{c:Call}{x y:Operand}(hc:c.callee= .builtin .append)(ha:c.args.toList=[x,y])(h:(Cc E v (some d) (.call c)).run=some ca) :
 ∃ tv,ca=⟨(d,tv)::v.tm,ca.rt⟩/\¬ tv.iL/\cA v ca/\∀ tm,(v.aQ tm).get x=v.get x->(v.aQ tm).get y=v.get y->(Cc E (v.aQ tm) (some d) (.call c)).run=some ⟨(d,tv)::tm,ca.rt⟩:=by
 unfold Cc at h ⊢;simp only[hc,ha]at h ⊢;split at h
 . rename_i d' t t2 ts hd yN;cases hd;obtain⟨ti,h1,h⟩:=Tr.ai h;obtain⟨te,h2,h⟩:=Tr.ai h;obtain⟨tx,h3,h⟩:=Tr.ai h;obtain⟨ty,h4,h⟩:=Tr.ai h;have B1:∀ tm,(v.aQ tm).S1 te.ks tx ty=v.S1 te.ks tx ty:=fun tm=>rfl
   cases hb:E.str t2||(E.sl t2).isSome with
   | false=>
     rw[hb]at h;simp only[oF]at h;cases l6:E.i64 t2&&fX tx with
     | false=>rw[l6]at h;simp[Tr.run]at h
     | true=>rw[l6]at h;simp only[oT]at h;obtain⟨p,h5,h⟩:=Tr.ai h;obtain⟨tv,k⟩:=IY (E:=E) h;exact⟨tv,k.eq,k.may,k.ver,fun tm e1 e2=>by simp only[h1,h2,e1,e2,h3,h4,Tr.cu,hb,l6,oF,oT,h5];exact k.all tm⟩
   | true=>
     rw[hb]at h;simp only[oT]at h;cases hs:v.S1 te.ks tx ty with
     | true=>rw[hs]at h;obtain⟨tv,k⟩:=IL (E:=E) h;exact⟨tv,k.eq,k.may,k.ver,fun tm e1 e2=>by simp only[h1,h2,e1,e2,h3,h4,Tr.cu,hb,oT,B1,hs];exact k.all tm⟩
     | false=>rw[hs]at h;obtain⟨tv,k⟩:=MW (E:=E) h;exact⟨tv,k.eq,k.may,k.ver,fun tm e1 e2=>by simp only[h1,h2,e1,e2,h3,h4,Tr.cu,hb,oT,B1,hs];exact k.all tm⟩
 . simp[Tr.run]at h
end
def od(l:List Oper)(J:List Nat)(nd:Nat)(t:Nat):Bool:=J.all fun j=>nd.testBit j||(match my l j with | some d=> !Nat.beq d t | none=>true)
def opK(l:List Oper)(J:List Nat):Operand->Bool
 | .tmp t=>od l J 0 t
 | _=>true
def Jp:AV->TV->Bool
 | .ptr r j,.v (.ptr r' j')=>Nat.beq r r'&&Nat.beq j j'
 | .ref r j s,.v (.ref r' j' s')=>Nat.beq r r'&&(Nat.beq j j'&&Nat.beq s s')
 | _,_=>false
theorem MD{b:AV}{tv:TV}(h:Jp b tv=true):tv= .v b:=by
 unfold Jp at h;split at h
 . simp only[ami]at h;rw[beq_eq h.1,beq_eq h.2]
 . simp only[ami]at h;rw[beq_eq h.1,beq_eq h.2.1,beq_eq h.2.2]
 . simp at h
def RR(tv:TV):Tr (TV×Option Rt)->Bool
 | .ret (.v b,none)=>Jp b tv
 | _=>false
def abF(l:List Oper)(i j d:Nat):Bool:=(List.range i).all fun k=>Nat.beq k j||(match my l k with | some d'=> !Nat.beq d' d | none=>true)
theorem PG(E:En)(st:St)(d:Nat)(t:TypeId)(x:Operand):yU E st d (.load t x)=Tr.cu (E.ti t) fun ti=>Tr.cu (st.get x) fun tv=>Tr.cu tv.Ii fun a=>Tr.cu (st.load ti.ks.length a) fun l=>Tr.cu (iH ti.agg l) fun tv=> .ret (tv,none):=rfl
def SM(E:En)(l:List Oper)(ns J:List Nat)(v ca:St)(j:Nat)(op:Op):Bool:=match op with
 | .load t (.tmp B)=>(match look v.tm B,E.ti t with
   | some (.v (.ptr r j0)),some ti=>od l J (ns.getD j 0) B&&rm v ca r j0 ti.ks.length
   | _,_=>false)
 | _=>false
def E5(E:En)(l:List Oper)(ns:List Nat)(i:Nat)(J:List Nat)(st v ca:St)(j:Nat):Bool:=match l[j]? with
 | some o=>(match o.dst with
   | some d=>pR st d&&ca.free d&&abF l i j d&&(match look v.tm d with
     | some tv=>SM E l ns J v ca j o.op||RR tv (yU E ⟨v.tm.filter (fun p=>od l J (ns.getD j 0) p.1),ca.rt⟩ d o.op)
     | none=>false)
   | none=>false)
 | none=>false
def RJ(v:St)(l:List Oper)(J:List Nat):Bool:=J.all fun j=>match my l j with | some d=>v.free d | none=>true
def KY(l:List Oper)(J:List Nat)(v:St)(op:Op)(dst:Option Nat):Bool:=match op,dst with
 | .store t a x,none=>opK l J a&&opK l J x
 | .call c,some d=>(match c.callee,c.args.toList with
   | .builtin .append,[x,y]=>opK l J x&&(opK l J y&&(pR v d&&od l J 0 d))
   | _,_=>false)
 | _,_=>false
def ot(E:En)(ops:Array Oper)(i:Nat)(J:List Nat)(st:St):Tr St:=
 bif kh ops.toList 0&&(!bO ops.toList&&(!bO (ops.toList.take i)&&(Nat.blt i ops.toList.length&&((List.range i).all (fun j=>jb J j||((bM ops.toList []).getD i 0).testBit j)&&(List.range (ops.toList.length-i-1)).all (fun k=>(List.range (i+1)).all fun j=>((bM ops.toList []).getD (i+1+k) 0).testBit j)))))then
  (fS E true (ops.toList.take i) (bM ops.toList []++[0]) (ops.toList.take i) 0 st []).bind fun v=>match ops.toList[i]? with
    | some o=>bif yc E o.dst&&(KY ops.toList J v o.op o.dst&&RJ v ops.toList J)then
       (Cc E v o.dst o.op).bind fun ca=>bif J.all (E5 E ops.toList (bM ops.toList []) i J st v ca)then fS E true ops.toList (bM ops.toList []) (ops.toList.drop (i+1)) (i+1) ca []else .fail
       else .fail
    | none=> .fail
 else .fail
def opsOf(c:Code):Array Oper:=match c with | .region _ ops _=>ops | _=> #[]
theorem uP{E:En}{v ca:St}{t:Nat}{a x:Operand}{tm:List (Nat×TV)}(h:(Cc E v none (.store t a x)).run=some ca)(ha:(v.aQ tm).get a=v.get a)(hx:(v.aQ tm).get x=v.get x):(Cc E (v.aQ tm) none (.store t a x)).run=some (ca.aQ tm):=by
 unfold Cc at h ⊢;obtain⟨ti,h1,h⟩:=Tr.ai h;obtain⟨ta,h2,h⟩:=Tr.ai h;obtain⟨av,h3,h⟩:=Tr.ai h;obtain⟨tx,h4,h⟩:=Tr.ai h;obtain⟨p,h5,h⟩:=Tr.ai h;have hl:(v.aQ tm).live=v.live:=funext fun a=>qH a
 simp only[ha,hx,h1,h2,h3,h4,h5,Tr.cu,hl];cases hb:p.2.all v.live&&Nat.beq p.2.length ti.ks.length with
 | false=>rw[hb]at h;simp[Tr.run]at h
 | true=>rw[hb]at h;simp only[oT]at h ⊢;obtain⟨hn,h⟩:=Tr.bT h;obtain⟨s1,h6,h⟩:=Tr.ai h;simp only[Tr.run,amh]at h;subst h;have Ph:(v.aQ tm).LY av p.2=true:=hn;rw[DK,h6,Ph];rfl
theorem JH{E:En}{l:List Oper}{J:List Nat}{v ca:St}{op:Op}{dst:Option Nat}(hw:KY l J v op dst=true)(h:(Cc E v dst op).run=some ca) :
 ∃ pre:List (Nat×TV),ca=⟨pre++v.tm,ca.rt⟩/\(∀ t tv,look pre t=some tv->¬ tv.iL/\look v.tm t=none/\od l J 0 t=true)/\cA v ca /\
  ∀ tm,(∀ x,opK l J x=true->(v.aQ tm).get x=v.get x)->(Cc E (v.aQ tm) dst op).run=some ⟨pre++tm,ca.rt⟩:=by
 unfold KY at hw;split at hw
 . simp only[ami]at hw;refine⟨[],?_,fun t tv ht=>by simp[look]at ht,Cb h,fun tm hx=>uP h (hx _ hw.1) (hx _ hw.2)⟩;have:=uP (tm:=v.tm) h rfl rfl;rw[show v.aQ v.tm=v from rfl,h]at this;exact am5 this
 . split at hw
   . rename_i hc ha;simp only[ami]at hw;obtain⟨h1,h2,h3,h4⟩:=hw;obtain⟨tv,k1,k2,k3,k4⟩:=B3 hc ha h;refine⟨[(_,tv)],k1,fun t kq ht=>?_,k3,fun tm hx=>k4 tm (hx _ h1) (hx _ h2)⟩;rw[aN]at ht;split at ht
     . rename_i e;cases ht;subst e;refine⟨k2,?_,h4⟩;unfold pR at h3;split at h3
       . assumption
       . simp at h3
     . simp[look]at ht
   . simp at hw
 . simp at hw
theorem uE:∀(l l':List (Nat×TV)) (t:Nat),look (l++l') t=match look l t with | some x=>some x | none=>look l' t
 | [],_,_=>rfl
 | (m,x)::r,l',t=>by
   rw[List.cons_append,aN,aN];split
   . rfl
   . exact uE r l' t
theorem GR{base:St}{S S':Nat}:∀ {bs:Bd},(∀ i t p,(i,t,p)∈bs->p.2=none∨(S.testBit i=true/\S'.testBit i=true))->(view base S bs).rt=(view base S' bs).rt
 | [],_=>rfl
 | (i,t,p)::r,h=>by
   have ih:=GR (base:=base) (S:=S) (S':=S') (bs:=r) fun i t p hm=>h i t p (amy _ hm)
   unfold view;rcases h i t p (amD ..)with hp | ⟨h1,h2⟩
   . cases S.testBit i <;> cases S'.testBit i <;> simp only[oT,oF] <;> (try unfold St.ba) <;> (try rw[hp]) <;> exact ih
   . rw[h1,h2];simp only[oT];unfold St.ba;cases p.2 <;> simp only[ih]
theorem AG{base:St}{m:Nat}:∀ {bs:Bd} {t:Nat} {R:Rt},look (view base m bs).rt t=some R->(∃ i p,(i,t,p)∈bs/\p.2=some R)∨look base.rt t=some R
 | [],t,R,h=> .inr h
 | (i,t',p)::r,t,R,h=>by
   unfold view at h;have rest:look (view base m r).rt t=some R->(∃ i' p',(i',t,p')∈(i,t',p)::r/\p'.2=some R)∨look base.rt t=some R:=fun h=>by
    rcases AG h with ⟨i',p',h1,h2⟩ | h1
    . exact .inl ⟨i',p',amy _ h1,h2⟩
    . exact .inr h1
   cases hm:m.testBit i with
   | false=>rw[hm]at h;exact rest h
   | true=>
     rw[hm]at h;simp only[oT]at h;unfold St.ba at h;cases hp:p.2 with
     | none=>rw[hp]at h;exact rest h
     | some R'=>
       rw[hp]at h;simp only[aN]at h;split at h
       . rename_i e;subst e;cases h;exact .inl ⟨i,p,amD ..,hp⟩
       . exact rest h
theorem zr{st:St}(h:cJ st)(t:Nat):st.tv t=look st.tm t:=by
 unfold St.tv;split
 . rename_i q want y gg l hq;exact absurd trivial (h t _ hq)
 . rfl
theorem py(f:Nat->Bool):∀(l:List (Nat×TV)) (t:Nat),look (l.filter fun p=>f p.1) t=if f t then look l t else none
 | [],t=>by simp[look]
 | (m,x)::r,t=>by
   rw[ana];have ih:=py f r t;cases hm:f m with
   | true=>
     simp only[if_true];rw[aN,aN];by_cases e:m=t
     . subst e;simp[hm]
     . rw[if_neg e,if_neg e,ih]
   | false=>
     simp only[am1,anz];rw[ih,aN];by_cases e:m=t
     . subst e;simp[hm]
     . rw[if_neg e]
theorem oJ:∀ {l:List Nat} {n:Nat},jb l n=true->n∈l
 | [],n,h=>by simp[jb]at h
 | x::r,n,h=>by
   simp only[jb,anv]at h;rcases h with h | h
   . rw[beq_eq h];exact amD ..
   . exact amy _ (oJ h)
theorem yu{l:List Oper}(h:bO l=false){i:Nat}{o:Oper}(ho:l[i]? = some o):o.guard=none:=by
 unfold bO at h;rw[List.any_eq_false]at h;have:=h o (amo ho);cases hg:o.guard with
 | none=>rfl
 | some g=>rw[hg]at this;simp at this
section
variable{P:Program}{E:En}
theorem Nt{ops ah9:Array Oper}{Q:Exit->Act->World->Prop}{j:Nat}{o:Oper}(h:ops[j]? = some o)(h':ah9[j]? = some o)(hg:o.guard=none){K:Act->World->Prop}{a:Act}{w:World}(hw:wpOp P ah9 Q j K a w):wpOp P ops Q j K a w:=by
 unfold wpOp at hw ⊢;have e:∀(ops:Array Oper),Region.wanted o (yielded ops a.tmps)=true:=fun ops=>by simp[Region.wanted,hg]
 simp only[h,h',e]at hw ⊢;exact hw
theorem GP(hT:cH P E)(eF:dQ P E){ops:Array Oper}{i:Nat}{J:List Nat}{cx:Cx P}{a:Act}{w:World}{st ay:St}(h:Good cx E st a w)(au:(ot E ops i J st).run=some ay):wpAny P .any ops (QO cx E (.qP ay)) ops.size (Array.replicate ops.size false) a { w with drawn:=w.drawn+1 }:=by
 have hW:sk P E:=xl hT eF;unfold ot at au;generalize hc:(kh ops.toList 0&&(!bO ops.toList&&(!bO (ops.toList.take i)&&(Nat.blt i ops.toList.length&&((List.range i).all (fun j=>jb J j||((bM ops.toList []).getD i 0).testBit j)&&(List.range (ops.toList.length-i-1)).all (fun k=>(List.range (i+1)).all fun j=>((bM ops.toList []).getD (i+1+k) 0).testBit j))))))=c at au;cases c with
 | false=>simp[Tr.run]at au
 | true=>
 simp only[oT]at au;simp only[ami,am4,amB,anu,anv]at hc;obtain⟨Mm,Va,Yr,alQ,aec,Uv⟩:=hc;have hi:i<ops.size:=by have:=ann (amE alQ);simpa using this
 rw[Tr.run_bind]at au;cases hv:(fS E true (ops.toList.take i) (bM ops.toList []++[0]) (ops.toList.take i) 0 st []).run with
 | none=>rw[hv]at au;simp at au
 | some v=>
 rw[hv]at au;simp only[oB]at au;split at au;rotate_left
 . simp[Tr.run]at au
 rename_i o ho;generalize hc:(yc E o.dst&&(KY ops.toList J v o.op o.dst&&RJ v ops.toList J))=c at au;cases c with
 | false=>simp[Tr.run]at au
 | true=>
 simp only[oT]at au;simp only[ami]at hc;obtain⟨U9,hlw,hnr⟩:=hc;rw[Tr.run_bind]at au;cases aed:(Cc E v o.dst o.op).run with
 | none=>rw[aed]at au;simp at au
 | some ca=>
 rw[aed]at au;simp only[oB]at au;generalize hc:J.all (E5 E ops.toList (bM ops.toList []) i J st v ca)=c at au;cases c with
 | false=>simp[Tr.run]at au
 | true=>
 simp only[oT]at au;have aee:=amB.1 hc;obtain⟨pre,aa3,UE,Uq,Fq⟩:=JH hlw aed;obtain⟨hn,dh,Z,g,hr⟩:=h;have hlen:(bM ops.toList []).length=ops.size:=by rw[qU];simp
 have Mt:(ops.toList.take i).toArray.toList=ops.toList.take i:=by simp
 have UF:(ops.toList.take i).toArray.size=i:=by simp;omega
 have aa4:∀ j,j<i->(ops.toList.take i).toArray[j]? = ops[j]? :=fun j hj=>by rw[<- aml,Mt,anp,if_pos hj,aml]
 rw[aml]at ho;have alR:=mw (P:=P) (E:=E) (ops:=(ops.toList.take i).toArray) (ns:=bM ops.toList []++[0]) (i0:=0) hT eF (dr:=true) hn (ops.toList.take i) 0 (by simp) (amv _) (oR _) [] v ⟨trivial,hn.MB,fun e he=>by simp at he,fun _ _ _ _ he=>by simp at he⟩ (by rw[Mt];exact hv);obtain⟨i1,bsF,k1,k2,k3,k4,k5,k6,k7,k8⟩:=alR;replace k5:=k5 (by rw[Mt];exact Yr);have hk8:i1=i/\v=aG st bsF:=by
  rcases k8 with ⟨e1,e2⟩ | ⟨o',Kl,e1,_,e3,_⟩
  . rw[Mt,Yr]at e2;exact⟨e1.trans UF,e2⟩
  . exfalso;have Ud:i1<i:=by
     have:=(amK.1 e1).1;rw[UF]at this;exact this
    have hf:=e3 rfl;unfold j6 at hf;simp only[ami,amB,anu]at hf;have:=hf.2 (ops.size-i1-1) (by rw[amj,hlen];simp;omega);rw[show i1+1+(ops.size-i1-1)=(bM ops.toList []).length by rw[hlen];omega]at this;simp[List.getD]at this
 obtain⟨e1,rfl⟩:=hk8;subst e1;have vV:∀ e∈bsF,e.1<i1:=fun e he=>(k4 e he).2.1
 have UG:∀ e∈bsF,my ops.toList e.1=some e.2.1:=fun e he=>by obtain⟨_,h2,o',h3,h4⟩:=k4 e he;rw[aa4 _ h2]at h3;unfold my;rw[aml,h3];exact h4
 have aa5:∀ i' t p,(i',t,p)∈bsF->jb J i'=true->p.2=none:=fun i' t' p hp hJ=>by
  cases Ck:p.2 with
  | none=>rfl
  | some R=>
    exfalso;have:=amB.1 hnr i' (oJ hJ);rw[UG _ hp]at this;simp only[St.free]at this;have hl:look (aG st bsF).rt t'=some R:=by rw[jC st (bitsOf bsF) bsF (fun i t p h=>eZ h),jt _ k2];exact .inl ⟨i',p,hp,eZ hp,Ck⟩
    rw[hl]at this;simp at this
 have hNV:∀ S,cJ (view st S bsF):=fun S t tv ht=>by
  rw[e9 _ k2]at ht;rcases ht with ⟨i',p,h1,_,rfl⟩ | h1
  . exact k5 i' t p h1
  . exact hn t tv h1
 have hNA:cJ (aG st bsF):=fun t tv ht=>by
  rw[ct k2]at ht;rcases ht with ⟨i',p,h1,rfl⟩ | h1
  . exact k5 i' t p h1
  . exact hn t tv h1
 have hvw:∀ S,(∀ j,j<i1->jb J j=false->S.testBit j=true)->view st S bsF=(aG st bsF).aQ (view st S bsF).tm:=fun S hS=>by
  unfold St.aQ;have:(aG st bsF).rt=(view st S bsF).rt:=by
   rw[jC st (bitsOf bsF) bsF (fun i t p h=>eZ h)];refine GR fun i t p h=>?_
   cases hJ:jb J i with
   | true=>exact .inl (aa5 i t p h hJ)
   | false=>exact .inr ⟨eZ h,hS i (vV _ h) hJ⟩
  rw[this]
 have mO:∀ S nd t,(∀ j,j<i1->jb J j=false->S.testBit j=true)->(∀ b,nd.testBit b=true->b<i1->S.testBit b=true)->od ops.toList J nd t=true->look (view st S bsF).tm t=look (aG st bsF).tm t:=fun S nd t hS hnd hk=>by
  apply Option.ext;intro tv;show look _ t=some tv↔look _ t=some tv;rw[e9 _ k2,ct k2];constructor
  . rintro(⟨i',p,h1,_,h3⟩ | h1)
    . exact .inl ⟨i',p,h1,h3⟩
    . exact .inr h1
  . rintro(⟨i',p,h1,h3⟩ | h1)
    . refine .inl ⟨i',p,h1,?_,h3⟩;have wa:=vV _ h1;cases hJ:jb J i' with
      | false=>exact hS i' wa hJ
      | true=>
        have:=amB.1 hk i' (oJ hJ);rw[UG _ h1]at this;simp only[anv,am4]at this;rcases this with h | h
        . exact hnd i' h wa
        . exact absurd rfl (ant h)
    . exact .inr h1
 have lF:∀ S (x:Operand),(∀ j,j<i1->jb J j=false->S.testBit j=true)->opK ops.toList J x=true->((aG st bsF).aQ (view st S bsF).tm).get x=(aG st bsF).get x:=fun S x hS hk=>by
  rw[<- hvw S hS];cases x with
  | tmp t=>show(view st S bsF).tv t=(aG st bsF).tv t;rw[zr (hNV S),zr hNA];exact mO S 0 t hS (fun b hb=>by simp at hb) hk
  | _=>rfl
 have aia:∀ S,cJ ⟨pre++(view st S bsF).tm,ca.rt⟩:=fun S t tv ht=>by
  have ht:look (pre++(view st S bsF).tm) t=some tv:=ht;rw[uE]at ht;split at ht
  . rename_i x hx;cases ht;exact(UE t _ hx).1
  . exact hNV S t tv ht
 have alS:∀ x,(bM ops.toList []++[0]).getD x cW=(bM ops.toList []++[0]).getD x cW:=fun _=>rfl
 refine Qh (P:=P) (E:=E) (cx:=cx) (Q:=QO cx E (.qP ay)) (i:=i1) (J:=jb J) (base:=st) (bsF:=bsF) (G:=fun S=>⟨pre++(view st S bsF).tm,ca.rt⟩) Mm hi ?_ ?_ ?_ ?_ ?_ ?_ ops.size (Array.replicate ops.size false) 0 false a _ Z g (by simp) (fun k hk=>?_) (fun k _=>anR k) ?_ (fun k hk=>?_) (fun hh=>by simp at hh) ?_ dh
 ·
  intro j hj cx S a w Z g next Q hS Uk hr dh rZ;have jY:∃ o',ops[j]? = some o':=⟨ops[j]'(by omega),by simp⟩;obtain⟨o',jY⟩:=jY;refine Nt jY (by rw[aa4 j hj];exact jY) (yu Va (by rw[aml];exact jY)) ?_;refine k7 j (amv _) hj cx S a w Z g next Q (fun k h1 h2 h3=>hS k h1 h2 ?_) Uk hr dh rZ;have nQ:j<(bM ops.toList []).length:=by rw[hlen];omega
  rw[List.getD,am0 nQ]at h3;exact h3
 . intro j hj hJ;rcases aec j hj with h | h
   . rw[hJ]at h;simp at h
   . exact h
 . intro k hik hk j hj;have:=Uv (k-i1-1) (by simp;omega) j (by omega);rw[show i1+1+(k-i1-1)=k by omega]at this;exact this
 ·
  intro S a w Z g next hS BM hr dh rZ;have hSt:(Cc E (view st S bsF) o.dst o.op).run=some ⟨pre++(view st S bsF).tm,ca.rt⟩:=by
   have:=Fq (view st S bsF).tm fun x hx=>lF S x hS hx
   rw[<- hvw S hS]at this;exact this
  refine kg ho (yu Va (by rw[aml];exact ho)) ?_;obtain⟨_,Ml⟩:=hW cx Z g _ a w o _ hr (hNV S) dh U9 hSt;exact Ml _ _ rZ
 ·
  intro S j a w Z g next hS BM hj hJ Uk hnd hr dh rZ;have hl:=aee j (oJ hJ);unfold E5 at hl;split at hl;rotate_left
  . simp at hl
  rename_i o' jY;rw[aml]at jY;split at hl;rotate_left
  . simp at hl
  rename_i d hd;simp only[ami]at hl;obtain⟨⟨⟨l1,l2⟩,l3⟩,l4⟩:=hl;split at l4;rotate_left
  . simp at l4
  rename_i tv oW;have alT:∃ p,(j,d,p)∈bsF/\p.1=tv:=by
   rw[ct k2]at oW;rcases oW with ⟨i',p,h1,h3⟩ | h1
   . have wa:=vV _ h1;have:=amB.1 l3 i' (anu.2 wa);rw[UG _ h1]at this;simp only[anv,am4]at this;rcases this with h | h
     . rw[beq_eq h]at h1;exact⟨p,h1,h3⟩
     . exact absurd rfl (ant h)
   . unfold pR at l1;rw[h1]at l1;simp at l1
  obtain⟨p,hp,hpt⟩:=alT;have Ck:=aa5 _ _ _ hp hJ;have hq:(yU E ⟨(aG st bsF).tm.filter (fun p=>od ops.toList J ((bM ops.toList []).getD j 0) p.1),ca.rt⟩ d o'.op).run=some (tv,none):=by
   rw[anv]at l4;rcases l4 with l4 | l4
   rotate_left
   . unfold RR at l4;split at l4;rotate_left
     . simp at l4
     rename_i b hq;rw[hq,MD l4];rfl
   unfold SM at l4;split at l4;rotate_left
   . simp at l4
   rename_i t' B aib;split at l4;rotate_left
   . simp at l4
   rename_i r j0 ti hB iy;simp only[ami]at l4;obtain⟨hkB,qR⟩:=l4;obtain⟨kU,g1,g2,_,g4⟩:=Cw (E:=E) (base:=st) (Rh (l:=bM ops.toList []) (by rw[hlen];omega)) Yr (ops.toList.take i1) 0 [] _ (fun o ho=>by obtain⟨k,hk⟩:=ao4 ho;exact yu Yr hk) trivial (fun e he=>by simp at he) hv;have hgj:(ops.toList.take i1)[j]? = some o':=by rw[anp,if_pos hj,aml];exact jY
   obtain⟨d2,p2,mask,Vg,q1,q2,q3,q4⟩:=g4 j o' hgj;rw[hd]at q1;cases q1;have alU:tv=p2.1:=by have:=(ct g1 d p2.1).2 (.inl ⟨_,_,q2,rfl⟩);rw[<- g2,oW]at this;exact am5 this
   have UH:∀ t' kq,look (view st mask Vg).tm t'=some kq->look (aG st bsF).tm t'=some kq:=fun t' kq h=>by
    rw[g2,ct g1];rcases w9 h with ⟨i',p,h1,h2⟩ | h1
    . exact .inl ⟨i',p,q3 _ h1,h2⟩
    . exact .inr h1
   have hnw:cJ (view st mask Vg):=fun t' kq h=>hNA t' kq (UH t' kq h)
   rw[aib]at q4;unfold yU at q4;obtain⟨ti2,r1,q4⟩:=Tr.ai q4;rw[iy]at r1;cases r1;obtain⟨tvB,r2,q5⟩:=Tr.ai q4;obtain⟨aB,r3,q6⟩:=Tr.ai q5;obtain⟨lB,r4,q7⟩:=Tr.ai q6;obtain⟨tvR,r5,q8⟩:=Tr.ai q7;simp only[Tr.run,amh]at q8;have r2:(view st mask Vg).tv B=some tvB:=r2;rw[zr hnw]at r2;have:=UH _ _ r2;rw[hB]at this;cases this;simp only[TV.Ii,amh]at r3;subst r3;have hld:ca.dV r j0 ti.ks.length=some lB:=by
    rw[Lb Uq _ _ qR];have hx:Ext (view st mask Vg) (aG st bsF):=⟨UH,fun r' R' h=>by
     rw[g2,jC st (bitsOf kU) kU (fun i t p h=>eZ h),jt _ g1];rcases AG h with ⟨i',p,h1,h2⟩ | h1
     . exact .inl ⟨i',p,q3 _ h1,eZ (q3 _ h1),h2⟩
     . exact .inr h1⟩
    exact hx.dV r4
   have aic:(St.mk ((aG st bsF).tm.filter (fun p=>od ops.toList J ((bM ops.toList []).getD j 0) p.1)) ca.rt).get (.tmp B)=some (.v (.ptr r j0)):=by
    show St.tv _ B=_;unfold St.tv;have:look ((aG st bsF).tm.filter (fun p=>od ops.toList J ((bM ops.toList []).getD j 0) p.1)) B=some (.v (.ptr r j0)):=by rw[py,if_pos hkB];exact hB
    rw[this]
   subst q8;rw[aib,alU];rw[PG,iy];simp only[Tr.cu,aic,TV.Ii,St.load];have alV:(St.mk ((aG st bsF).tm.filter (fun p=>od ops.toList J ((bM ops.toList []).getD j 0) p.1)) ca.rt).dV r j0 ti.ks.length=some lB:=by rw[aao (st:=ca) (ay:=St.mk ((aG st bsF).tm.filter (fun p=>od ops.toList J ((bM ops.toList []).getD j 0) p.1)) ca.rt) rfl];exact hld
   rw[alV];simp only[r5,Tr.run]
  have cE:kR cx a d:=dh.dst (k2.mem hp).1;have oV:St.free ⟨pre++(view st S bsF).tm,ca.rt⟩ d=true:=l2;have alW:Ext ⟨(aG st bsF).tm.filter (fun p=>od ops.toList J ((bM ops.toList []).getD j 0) p.1),ca.rt⟩ ⟨pre++(view st S bsF).tm,ca.rt⟩:=by
   refine⟨fun t' kq ym=>?_,fun r R hR=>hR⟩;have ym:look ((aG st bsF).tm.filter (fun p=>od ops.toList J ((bM ops.toList []).getD j 0) p.1)) t'=some kq:=ym;rw[py]at ym;split at ym
   . rename_i hk;show look (pre++(view st S bsF).tm) t'=some kq;rw[uE];split
     . rename_i x hx;rw[(UE t' _ hx).2.1]at ym;cases ym
     . rw[mO S _ t' hS hnd hk];exact ym
   . simp at ym
  unfold wpOp;have aid:Region.wanted o' (yielded ops a.tmps)=true:=by simp[Region.wanted,yu Va (by rw[aml];exact jY)]
  simp only[jY,aid,if_true];refine .inl ?_;refine Ct hT eF alW hr (aia S).cons hd cE oV (p:=(tv,none)) hq _ _ fun Z' g' v' w' nO=>rZ Z' g' _ w' ?_ (dh.put _ _)
  refine nO.swap (fun r=>rfl) fun t' kq ym=>?_
  have key:look (St.ba ⟨pre++(view st S bsF).tm,ca.rt⟩ d (tv,none)).tm t'=some kq:=by
   rw[cC];have ym:look (pre++(view st (S ||| 2 ^ j) bsF).tm) t'=some kq:=ym;show(if d=t' then some tv else look (pre++(view st S bsF).tm) t')=some kq;rw[uE]at ym ⊢;cases hpx:look pre t' with
   | some x=>
     rw[hpx]at ym;have hk:=amB.1 (UE t' x hpx).2.2 j (oJ hJ);unfold my at hk;rw[aml,jY]at hk;simp only[hd,anv,am4]at hk;have cY:d≠t':=by
      rcases hk with hk | hk
      . simp at hk
      . exact ant hk
     rw[if_neg cY];exact ym
   | none=>
   rw[hpx]at ym;have ym:look (view st (S ||| 2 ^ j) bsF).tm t'=some kq:=ym;rw[e9 _ k2]at ym;have old:¬ d=t'->(∃ i p,(i,t',p)∈bsF/\S.testBit i=true/\p.1=kq)∨look st.tm t'=some kq->(if d=t' then some tv else look (view st S bsF).tm t')=some kq:=fun hdt hh=>by rw[if_neg hdt];exact(e9 _ k2 _ _).2 hh
   rcases ym with ⟨i',p',h1,h2,h3⟩ | h1
   . by_cases Dr:j=i'
     . obtain⟨_,e2,e3⟩:=k2.uniq hp h1 (.inl Dr);subst e2;subst e3;rw[if_pos rfl,<- hpt,h3]
     . refine old (fun e=>Dr (k2.uniq hp h1 (.inr e)).1) (.inl ⟨i',p',h1,?_,h3⟩);rw[aY]at h2;simpa[Dr]using h2
   . exact old (fun e=>by subst e;rw[(k2.mem hp).2.1]at h1;simp at h1) (.inr h1)
  exact nO.tm t' kq key
 ·
  intro fuel listed S a w Z g uA hl rY hS hr dh;have hS':view st S bsF=aG st bsF:=(mD fun e he=>by rw[hS];simpa using vV e he).symm;have hr:Rel cx Z g ca a w:=by rw[aa3];have hr:Rel cx Z g ⟨pre++(view st S bsF).tm,ca.rt⟩ a w:=hr;rw[hS']at hr;exact hr
  have Vc:cJ ca:=by have:=aia (2 ^ i1-1);rw[(mD (S:=2 ^ i1-1) fun e he=>by rw[fB];simpa using vV e he).symm]at this;rw[aa3];exact this
  obtain⟨i2,bs2,m1,m2,m3,m4,m5,m6,m7,m8⟩:=mw (ops:=ops) (ns:=bM ops.toList []) (i0:=i1+1) hT eF Vc _ (i1+1) rfl hi (oR _) [] ay ⟨trivial,Vc.MB,fun e he=>by simp at he,fun _ _ _ _ he=>by simp at he⟩ au;refine EY (cx:=cx) (Q:=QO cx E (.qP ay)) hT eF hW Mm (stF:=ay) (fun Z g a w hr hn hs=>⟨hn,hs,Z,g,hr⟩) fuel listed (2 ^ (i1+1)-1) (i1+1) i2 ca bs2 a w Z g uA (fun k hk=>?_) rY (fun k hk=>by rw[fB];simpa using hk) (fun k hk=>by rw[fB];simp;omega) (fun k hk b hb=>?_) m1 Vc m2 (fun e he=>⟨(m4 e he).1,(m4 e he).2.1⟩) m5 m7 m8 ?_ dh
  . rw[hl k hk,fB];by_cases hh:k<=i1
    . simp[hh];omega
    . simp[hh];omega
  . rw[fB]at hk ⊢;simp only[anH]at hk ⊢;have Ic:b<k:=by
     revert b;induction k using Nat.strongRecOn with
     | _ k ihk=>
       intro b hb;have Kf:k<ops.size:=by omega
       obtain⟨e,h1,h2,h3⟩:=rq ops.toList [] k ops[k] b (by rw[aml];simp[Kf]) (by simpa using hb);have Io:=lU ops.toList 0 Mm k ops[k] (by rw[aml];simp[Kf]) e h1 h2;rw[amt]at Io;rcases h3 with h3 | ⟨_,h3⟩
       . omega
       . have:=ihk e.on Io (by omega) b h3;omega
    omega
  . rw[kA fun e he=>by rw[fB];have:=(m4 e he).1;simp;omega];exact hr
 . simp[amr,hk]
 . simp only[oF,Nat.or_zero];rw[vb];exact oR _
 . simp at hk
 . simp only[oF];rw[kA fun e _=>anR _];exact hr.world rfl rfl rfl rfl
theorem PI(hT:cH P E)(eF:dQ P E)(hm:P.follows .mixedOrders=true){id:Nat}{ops:Array Oper}{i:Nat}{J:List Nat}:dA P E (.region id ops true) (ot E ops i J):=
 fun _ _ _ _ _ h au=>wp_region_any hm (GP hT eF h au)
theorem yI(hT:cH P E)(eF:dQ P E)(hm:P.follows .mixedOrders=true){c:Code}{id:Nat}{i:Nat}{J:List Nat}(h:c= .region id (opsOf c) true):dA P E c (ot E (opsOf c) i J):=by intro cx a w st ay hg hr;rw[h];exact PI hT eF hm cx a w st ay hg hr
theorem eK{E0:En}{c:Code}{F:St->Tr St}(hn:E.nt=E0.nt)(hp:E.pins=E0.pins)(h:dA P E0 c F):dA P E c F:=by
 have hf:∀(cx:Cx P) (a:Act),Fit cx E a↔Fit cx E0 a:=fun cx a=>by unfold Fit;rw[hn,hp]
 have hg:∀(cx:Cx P) (st:St) (a:Act) (w:World),Good cx E st a w↔Good cx E0 st a w:=fun cx st a w=>by unfold Good;rw[hf]
 intro cx a w st ay p9 hr;refine wp_mono (h cx a w st ay ((hg _ _ _ _).1 p9) hr) fun e a' w' hq=>?_
 cases e <;> first | exact hq.elim | exact(hg _ _ _ _).2 hq
end
def DI(o:Oper):Bool:=match o.op,o.guard,o.dst with | .extract (.tmp _) _,none,some _=>true | .move (.tmp _),none,some _=>true | _,_,_=>false
def Fy(ex:List (Nat×Nat))(i:Nat):List Edge:=(ex.filter fun p=>Nat.beq p.1 i).map fun p=>⟨p.2,.data⟩
def vL(ex:List (Nat×Nat)):List Oper->Nat->List Oper
 | [],_=>[]
 | o::r,i=>{ o with after:=o.after++(Fy ex i).toArray }::vL ex r (i+1)
theorem Hd(ex:List (Nat×Nat)):∀(l:List Oper) (i k:Nat),(vL ex l i)[k]? = (l[k]?).map fun o=>{ o with after:=o.after++(Fy ex (i+k)).toArray }
 | [],_,_=>by simp[vL]
 | o::r,i,0=>by simp[vL]
 | o::r,i,k+1=>by rw[vL,am7,Hd ex r (i+1) k,am7,show i+1+k=i+(k+1)by omega]
theorem GV(ex:List (Nat×Nat)):∀(l:List Oper) (i:Nat),(vL ex l i).length=l.length
 | [],_=>rfl
 | o::r,i=>by simp[vL,GV ex r]
def qq(ex:List (Nat×Nat))(ops:Array Oper):Array Oper:=(vL ex ops.toList 0).toArray
theorem vd(ex:List (Nat×Nat))(ops:Array Oper)(k:Nat):(qq ex ops)[k]? = (ops[k]?).map fun o=>{ o with after:=o.after++(Fy ex k).toArray }:=by rw[qq,amU,Hd,aml,amt]
theorem CP(ex:List (Nat×Nat))(ops:Array Oper):(qq ex ops).size=ops.size:=by simp[qq,GV]
def qY(ops:Array Oper)(ex:List (Nat×Nat)):Bool:=
 Region.noSelect ops&&ex.all fun p=>(match ops[p.2]?,ops[p.1]? with
  | some oj,some oi=>DI oj&&(Fy ex p.2).isEmpty&&(oj.after.toList.all fun e=> !eV e||oi.after.toList.any fun e'=>eV e'&&Nat.beq e'.on e.on) &&
     (List.range ops.size).all fun k=>Nat.beq k p.2||(match ops[k]? with | some ok=>(ok.after.toList.any fun e=>eV e&&Nat.beq e.on p.2)||((oj.after.toList.any fun e=>eV e&&Nat.beq e.on k)||oj.apart ops ok) | none=>true)
  | _,_=>false)
section
variable{P:Program}{ops:Array Oper}{Q:Exit->Act->World->Prop}
theorem Ey(ex:List (Nat×Nat))(ops:Array Oper)(tmps:Array Value):yielded (qq ex ops) tmps=yielded ops tmps:=by funext g;unfold yielded;rw[vd];cases ops[g]? <;> rfl
theorem Df{ex:List (Nat×Nat)}{k:Nat}{K:Act->World->Prop}{a:Act}{w:World}(h:wpOp P (qq ex ops) Q k K a w):wpOp P ops Q k K a w:=by
 unfold wpOp at h ⊢;rw[vd,Ey]at h;cases ho:ops[k]? with
 | none=>rw[ho]at h;exact h
 | some o=>rw[ho]at h;exact h
theorem HC{o:Oper}(hp:DI o=true)(hL:¬ LetsOut Q)(hQ:∀ c a w,¬ Q (.panic c) a w){k:Nat}(ho:ops[k]? = some o){K:Act->World->Prop}{a:Act}{w:World}(h:wpOp P ops Q k K a w) :
 ∃ v,Yields P ops o v a/\K (a.put o.dst v) w:=by
 unfold DI at hp;split at hp
 . rename_i t i d h1 h2 h3;have hw:Region.wanted o (yielded ops a.tmps)=true:=by simp[Region.wanted,h2]
   unfold wpOp at h;rw[ho]at h;simp only[hw,if_true]at h;have h:=h.resolve_right fun h=>hL h.2
   unfold Oper.wp at h;have he:∀ w,(execOp a.eval o).run P w=(match a.eval (.tmp t)with | .tuple vs=>(match vs[i]? with | some v=>Result.ok (.value v) w | none=>(execOp a.eval o).run P w) | _=>(execOp a.eval o).run P w):=fun w=>by
    split
    . rename_i vs hv;split
      . rename_i v hi;simp[execOp,h1,hv,Instr.extract,hi]
      . rfl
    . rfl
   cases hv:a.eval (.tmp t)with
   | tuple vs=>
     cases hi:vs[i]? with
     | some v=>refine⟨v,.inl ⟨hw,fun w=>by rw[he w,hv];simp only[hi]⟩,?_⟩;rw[he w,hv]at h;simp only[hi,Oper.upon]at h;exact h
     | none=>exfalso;simp[execOp,h1,hv,Instr.extract,hi,Oper.upon]at h
   | _=>exfalso;simp[execOp,h1,hv,Instr.extract,Oper.upon]at h
 . rename_i t d h1 h2 h3;have hw:Region.wanted o (yielded ops a.tmps)=true:=by simp[Region.wanted,h2]
   unfold wpOp at h;rw[ho]at h;simp only[hw,if_true]at h;have h:=h.resolve_right fun h=>hL h.2
   have he:∀ w,(execOp a.eval o).run P w= .ok (.value (a.eval (.tmp t))) w:=fun w=>by simp[execOp,h1]
   refine⟨a.eval (.tmp t),.inl ⟨hw,he⟩,?_⟩;unfold Oper.wp at h;rw[he w,anl]at h;exact h
 . simp at hp
theorem Te{ex:List (Nat×Nat)}{k:Nat}{e:Edge}(h:e∈Fy ex k):∃ p,p∈ex/\p.1=k/\e.on=p.2:=by unfold Fy at h;obtain⟨p,hp,rfl⟩:=an9.1 h;obtain⟨h1,h2⟩:=anw.1 hp;exact⟨p,h1,beq_eq h2,rfl⟩
theorem zb{ex:List (Nat×Nat)}{p:Nat×Nat}(h:p∈ex):(⟨p.2,.data⟩:Edge)∈Fy ex p.1:=
 an9.2 ⟨p,anw.2 ⟨h,Nat.beq_refl _⟩,rfl⟩
theorem mN{ex:List (Nat×Nat)}{listed:Array Bool}{k:Nat}:k∈Region.ready .any (qq ex ops) listed↔k∈Region.ready .any ops listed/\∀ p∈ex,p.1=k->listed.getD p.2 false=true:=by
 rw[mem_ready,mem_ready];constructor
 . rintro⟨h0,o',jY,gm⟩;rw[vd]at jY;cases ho:ops[k]? with
   | none=>rw[ho]at jY;simp at jY
   | some o=>rw[ho]at jY;simp only[amI,amh]at jY;subst jY;refine⟨⟨h0,o,rfl,fun e he hb=>gm e (by simp[he]) hb⟩,fun p hp hk=>?_⟩;subst hk;exact gm ⟨p.2,.data⟩ (by simp[zb hp]) rfl
 . rintro⟨⟨h0,o,ho,gm⟩,hex⟩;refine⟨h0,_,by rw[vd,ho];rfl,fun e he hb=>?_⟩;simp only[Array.mem_append,List.mem_toArray]at he;rcases he with he | he
   . exact gm e he hb
   . obtain⟨p,hp,h1,h2⟩:=Te he;rw[h2];exact hex p hp h1
theorem hoist{ex:List (Nat×Nat)}(Fk:qY ops ex=true)(hL:¬ LetsOut Q)(hQ:∀ c a w,¬ Q (.panic c) a w) :
 ∀(fuel:Nat) (listed:Array Bool) (a:Act) (w:World),listed.size=ops.size->wpAny P .any (qq ex ops) Q fuel listed a w->wpAny P .any ops Q fuel listed a w:=by
 unfold qY at Fk;simp only[ami]at Fk;obtain⟨hns,Fk⟩:=Fk;have alX:=Region.noSelect_spec hns
 have facts:∀ p∈ex,∃ oj oi,ops[p.2]? = some oj/\ops[p.1]? = some oi/\DI oj=true/\Fy ex p.2=[]/\(∀ e∈oj.after,eV e=true->∃ e'∈oi.after,eV e'=true/\e'.on=e.on) /\
  ∀ k ok,ops[k]? = some ok->k≠p.2->(∀ e∈ok.after,Region.binds .any e=true->e.on≠p.2)->(∃ e∈oj.after,eV e=true/\e.on=k)∨oj.apart ops ok=true:=by
  intro p hp;have h:=amB.1 Fk p hp;cases h2:ops[p.2]? with
  | none=>rw[h2]at h;simp at h
  | some oj=>
    cases h1:ops[p.1]? with
    | none=>rw[h2,h1]at h;simp at h
    | some oi=>
      rw[h2,h1]at h;simp only[ami]at h;obtain⟨⟨⟨g1,g2⟩,g3⟩,g4⟩:=h;refine⟨oj,oi,rfl,rfl,g1,List.isEmpty_iff.1 g2,fun e he hb=>?_,fun k ok hk cY BO=>?_⟩
      . have:=amB.1 g3 e (by simpa using he);rw[hb]at this;simp only[oN,Bool.false_or]at this;obtain⟨e',he',h'⟩:=aoZ.1 this;simp only[ami]at h';exact⟨e',by simpa using he',h'.1,beq_eq h'.2⟩
      . have aV:k<ops.size:=(amK.1 hk).1;have:=amB.1 g4 k (anu.2 aV);rw[hk]at this;simp only[anv]at this;rcases this with h | h | h | h
        . exact absurd (beq_eq h) cY
        . obtain⟨e',he',h'⟩:=aoZ.1 h;simp only[ami]at h';exact absurd (beq_eq h'.2) (BO e' (by simpa using he') h'.1)
        . obtain⟨e',he',h'⟩:=aoZ.1 h;simp only[ami]at h';exact .inl ⟨e',by simpa using he',h'.1,beq_eq h'.2⟩
        . exact .inr h
 have hR:∀(listed:Array Bool),listed.size=ops.size->∀ k,k∈Region.ready .any ops listed->∀ p∈ex,p.1=k->listed.getD p.2 false≠true->p.2∈Region.ready .any (qq ex ops) listed/\p.2∈Region.ready .any ops listed:=by
  intro listed uA k hk p hp hpk UI;obtain⟨oj,oi,h2,h1,g1,g2,g3,g4⟩:=facts p hp;obtain⟨_,o,ho,gm⟩:=mem_ready.1 hk;rw[<- hpk,h1]at ho;cases ho;have aV:p.2<listed.size:=by rw[uA];exact(amK.1 h2).1
  have hr:p.2∈Region.ready .any ops listed:=by
   refine mem_ready.2 ⟨?_,oj,h2,fun e he hb=>?_⟩
   . simp only[amr,aot aV,anF]at UI ⊢;simpa using UI
   . obtain⟨e',he',cz,h'⟩:=g3 e he hb;rw[<- h'];exact gm e' he' cz
  refine⟨mN.2 ⟨hr,fun q hq hqk=>?_⟩,hr⟩;have:=zb hq;rw[hqk,g2]at this;simp at this
 intro fuel;induction fuel with
 | zero=>
   intro listed a w uA H;refine⟨aoz.2 fun k hk=>?_,H.2⟩;by_cases gm:∀ p∈ex,p.1=k->listed.getD p.2 false=true
   . have:=mN.2 ⟨hk,gm⟩;rw[H.1]at this;simp at this
   . simp only[Classical.not_forall]at gm;obtain⟨p,hp,hpk,UI⟩:=gm;have:=(hR listed uA k hk p hp hpk UI).1;rw[H.1]at this;simp at this
 | succ fuel ih=>
   intro listed a w uA H;by_cases hex:∃ p,p∈ex/\p.2∈Region.ready .any ops listed
   . obtain⟨p,hp,hr⟩:=hex;obtain⟨oj,oi,h2,h1,g1,g2,g3,g4⟩:=facts p hp;have Fs:p.2∈Region.ready .any (qq ex ops) listed:=mN.2 ⟨hr,fun q hq hqk=>by
      have:=zb hq;rw[hqk,g2]at this;simp at this⟩
     obtain⟨v,hy,hK⟩:=HC g1 hL hQ h2 (Df (H.2 p.2 Fs));refine wpAny_first h2 alX (fun c a w h=>(hQ _ _ _ h).elim) fuel listed a w (fun k ok hk cY UI BO=>(g4 k ok hk cY BO).resolve_left fun⟨e,he,hb,hek⟩=>?_) hr hy (ih _ _ _ (by simpa using uA) hK);obtain⟨_,o,ho,gm⟩:=mem_ready.1 hr;rw[h2]at ho;cases ho;have h5:=gm e he hb;rw[hek]at h5;have aV:k<listed.size:=by rw[uA];exact(amK.1 hk).1
     simp only[amr,aot aV,anF]at UI h5;rw[h5]at UI;simp at UI
   . have Ur:∀ k,k∈Region.ready .any ops listed->k∈Region.ready .any (qq ex ops) listed:=fun k hk=>by
      refine mN.2 ⟨hk,fun p hp hpk=>?_⟩;by_cases UI:listed.getD p.2 false=true
      . exact UI
      . exact absurd ⟨p,hp,(hR listed uA k hk p hp hpk UI).2⟩ hex
     refine⟨fun h0=>H.1 (aoz.2 fun k hk=>?_),fun k hk=>?_⟩
     . have:=(mN.1 hk).1;rw[h0]at this;simp at this
     . exact wpOp_mono (fun a' w' h=>ih _ a' w' (by simpa using uA) h) (Df (H.2 k (Ur k hk)))
end
section
variable{P:Program}{E:En}
def iq(E:En)(ops:Array Oper)(ex:List (Nat×Nat))(st:St):Tr St:=
 bif qY ops ex&&kh (vL ex ops.toList 0) 0 then fS E true (vL ex ops.toList 0) (bM (vL ex ops.toList 0) []) (vL ex ops.toList 0) 0 st []else .fail
theorem Ot(hT:cH P E)(eF:dQ P E)(hm:P.follows .mixedOrders=true){id:Nat}{ops:Array Oper}{ex:List (Nat×Nat)}:dA P E (.region id ops true) (iq E ops ex):=by
 intro cx a w st ay h au;have hW:=xl hT eF;unfold iq at au;cases hc:qY ops ex&&kh (vL ex ops.toList 0) 0 with
 | false=>rw[hc]at au;simp[Tr.run]at au
 | true=>
   rw[hc]at au;simp only[oT]at au;simp only[ami]at hc;obtain⟨Fk,Mm⟩:=hc;obtain⟨h1,h2,Z,g,h3⟩:=h;refine wp_region_any hm ?_;refine hoist Fk (fun⟨a,w,hq⟩=>hq) (fun c a w hq=>hq) ops.size _ a _ (by simp) ?_;have e1:(qq ex ops).toList=vL ex ops.toList 0:=by simp[qq]
   have hs:=CP ex ops;rw[<- e1]at au Mm;obtain⟨i1,bsF,k1,k2,k3,k4,k5,k6,k7,k8⟩:=mw (ops:=qq ex ops) (ns:=bM (qq ex ops).toList []) (i0:=0) hT eF h1 _ 0 rfl (amv _) (oR _) [] ay ⟨trivial,h1.MB,fun e he=>by simp at he,fun _ _ _ _ he=>by simp at he⟩ au;refine EY (ops:=qq ex ops) (cx:=cx) (Q:=QO cx E (.qP ay)) hT eF hW Mm (stF:=ay) (fun Z g a w hr hn hs=>⟨hn,hs,Z,g,hr⟩) ops.size (Array.replicate ops.size false) 0 0 i1 st bsF a _ Z g (by simp[hs]) (fun k hk=>?_) (by rw[hs,vb];exact oR _) (fun k hk=>by omega) (fun k _=>anR k) (fun k hk=>by rw[anR]at hk;simp at hk) k1 h1 k2 (fun e he=>⟨(k4 e he).1,(k4 e he).2.1⟩) k5 k7 k8 ?_ h2
   . rw[anR];rw[hs]at hk;simp[amr,hk]
   . rw[kA fun e _=>anR _];exact h3.world rfl rfl rfl rfl
theorem me(hT:cH P E)(eF:dQ P E)(hm:P.follows .mixedOrders=true){c:Code}{id:Nat}{ex:List (Nat×Nat)}(h:c= .region id (opsOf c) true):dA P E c (iq E (opsOf c) ex):=by rw[h];exact Ot hT eF hm
def hlT(E:En)(ops:Array Oper)(ex:List (Nat×Nat))(i:Nat)(J:List Nat)(st:St):Tr St:=bif qY ops ex then ot E (qq ex ops) i J st else .fail
theorem ab8(hT:cH P E)(eF:dQ P E)(hm:P.follows .mixedOrders=true){id:Nat}{ops:Array Oper}{ex:List (Nat×Nat)}{i:Nat}{J:List Nat}:dA P E (.region id ops true) (hlT E ops ex i J):=by
 intro cx a w st ay h au;unfold hlT at au;cases Fk:qY ops ex with
 | false=>rw[Fk]at au;simp[Tr.run]at au
 | true=>rw[Fk]at au;refine wp_region_any hm ?_;refine hoist Fk (fun⟨a,w,hq⟩=>hq) (fun c a w hq=>hq) ops.size _ a _ (by simp) ?_;have:=GP hT eF h au;rwa [CP]at this
theorem aaA(hT:cH P E)(eF:dQ P E)(hm:P.follows .mixedOrders=true){c:Code}{id:Nat}{ex:List (Nat×Nat)}{i:Nat}{J:List Nat}(h:c= .region id (opsOf c) true):dA P E c (hlT E (opsOf c) ex i J):=by rw[h];exact ab8 hT eF hm
end
section
variable{P:Program}{E:En}{ops:Array Oper}{P:Program}{cx:Cx P}{Q:Exit->Act->World->Prop}
end
section
variable{P:Program}{w w':World}
end
section
variable{P:Program}{E:En}{cx:Cx P}{Z:Nat->Prop}{g:Gh}{st v:St}{a:Act}{w:World}
theorem Ce{a:Act}{d:Nat}{v:Value}(hd:d<a.tmps.size):(a.put (some d) v).eval (.tmp d)=v:=by simp[Act.put,Act.eval,amr,hd]
end
section
variable{P:Program}{E:En}
end
def JW(v:Value):Prop:=∃ k n,v= .int k n
def yK(ints:List Nat)(o:Oper)(d:Nat):Bool:=match o.op,o.guard,o.dst with | .move (.tmp b),none,some d'=>jb ints b&&Nat.beq d' d | _,_,_=>false
def L5(l:List Oper)(ints:List Nat):Bool:=(List.range l.length).all fun i=>match my l i with | some d=> !jb ints d&&(List.range l.length).all fun k=>Nat.beq k i||(match my l k with | some d'=> !Nat.beq d' d | none=>true) | none=>true
def wv(ops:Array Oper)(ints:List Nat)(listed:Array Bool)(a:Act):Prop:=
 (∀(k:Nat) (o:Oper) (d:Nat),ops[k]? = some o->o.dst=some d->d<a.tmps.size)/\(∀ b∈ints,JW (a.eval (.tmp b)))/\∀(k:Nat) (o:Oper) (d:Nat),ops[k]? = some o->yK ints o d=true->listed.getD k false=true->JW (a.eval (.tmp d))
theorem Lm:∀ {l:List Nat} {n:Nat},n∈l->jb l n=true
 | x::r,n,h=>by
   simp only[jb,anv];rcases ams.1 h with h | h
   . subst h;exact .inl (Nat.beq_refl _)
   . exact .inr (Lm h)
section
variable{P:Program}{ops:Array Oper}{Q:Exit->Act->World->Prop}{ints:List Nat}
theorem Ek(h:L5 ops.toList ints=true){k:Nat}{o:Oper}{d:Nat}(ho:ops[k]? = some o)(hd:o.dst=some d):(∀ b∈ints,b≠d)/\∀(k':Nat) (o':Oper),ops[k']? = some o'->o'.dst=some d->k'=k:=by
 have hk:k<ops.toList.length:=by rw[amT];exact(amK.1 ho).1
 have h1:=amB.1 h k (anu.2 hk);have e:my ops.toList k=some d:=by unfold my;rw[aml,ho];exact hd
 rw[e]at h1;simp only[ami,am4]at h1;refine⟨fun b hb Pf=>?_,fun k' o' jY Pj=>?_⟩
 . subst Pf;have:jb ints b=true:=Lm hb;rw[h1.1]at this;simp at this
 . have Fg:k'<ops.toList.length:=by rw[amT];exact(amK.1 jY).1
   have h2:=amB.1 h1.2 k' (anu.2 Fg);have e':my ops.toList k'=some d:=by unfold my;rw[aml,jY];exact Pj
   rw[e']at h2;simp only[anv,am4]at h2;rcases h2 with h2 | h2
   . exact beq_eq h2
   . exact absurd rfl (ant h2)
theorem vi{o:Oper}{d:Nat}(h:yK ints o d=true):∃ b,o.op= .move (.tmp b)/\o.guard=none/\o.dst=some d/\b∈ints:=by
 unfold yK at h;split at h
 . rename_i b d' h1 h2 h3;simp only[ami]at h;have:=beq_eq h.2;subst this;exact⟨b,h1,h2,h3,oJ h.1⟩
 . simp at h
theorem xQ(a:Act)(l:List Deferred)(x:Operand):({ a with defers:=l }:Act).eval x=a.eval x:=by cases x <;> rfl
theorem wv.put(nM:L5 ops.toList ints=true){k:Nat}{o:Oper}(ho:ops[k]? = some o){listed:Array Bool}{a:Act}(hI:wv ops ints listed a){v:Value}(hv:∀ d,yK ints o d=true->JW v):wv ops ints (listed.setIfInBounds k true) (a.put o.dst v):=by
 cases hd:o.dst with
 | none=>
   refine⟨hI.1,fun b hb=>hI.2.1 b hb,fun k' o' d' jY hm hl=>?_⟩;have cY:k≠k':=fun e=>by subst e;rw[ho]at jY;cases jY;obtain⟨_,_,_,h3,_⟩:=vi hm;rw[hd]at h3;simp at h3
   rw[getD_set_ne false cY]at hl;exact hI.2.2 k' o' d' jY hm hl
 | some d=>
   obtain⟨n1,n2⟩:=Ek nM ho hd;have hev:∀ t,t≠d->(a.put (some d) v).eval (.tmp t)=a.eval (.tmp t):=fun t ht=>Act.eval_put fun d' e e2=>by cases e;cases e2;exact ht rfl
   refine⟨fun k' o' d' jY Pj=>by rw[vg];exact hI.1 k' o' d' jY Pj,fun b hb=>by rw[hev b (n1 b hb)];exact hI.2.1 b hb,fun k' o' d' jY hm hl=>?_⟩;obtain⟨b',_,_,h3,_⟩:=vi hm;by_cases e:d'=d
   . subst e;have:=n2 k' o' jY h3;subst this;rw[ho]at jY;cases jY;rw[Ce (hI.1 _ _ _ ho hd)];exact hv _ hm
   . rw[hev d' e];have cY:k≠k':=fun e2=>by
      subst e2;rw[ho]at jY;cases jY;rw[hd]at h3;cases h3;exact e rfl
     rw[getD_set_ne false cY]at hl;exact hI.2.2 k' o' d' jY hm hl
theorem wv.defers{listed:Array Bool}{a:Act}{l:List Deferred}(hI:wv ops ints listed a):wv ops ints listed { a with defers:=l }:=
 ⟨hI.1,fun b hb=>by rw[xQ];exact hI.2.1 b hb,fun k o d ho hm hl=>by rw[xQ];exact hI.2.2 k o d ho hm hl⟩
end
section
variable{w:World}
end
section
variable{P:Program}{E:En}{cx:Cx P}{Z:Nat->Prop}{g:Gh}{st v:St}{a:Act}{w:World}
end
section
variable{P:Program}{E:En}
end
theorem lV.zero{P:Program}{f:Nat}{s:Su}(h:∀ x,s.v7 x=none):lV P f s:=fun w Z F args x y _ _ _ _ _ hy=>by rw[h x]at hy;simp at hy
def Su.ro(s:Su):Su:=⟨s.ps,s.rs,false,s.f⟩
theorem lk{Z:Nat->Prop}{w:World}{F G:Nat->Nat->Prop}:∀(ps:List PK) (x:PT ps) (vs:List Value) (n m:Nat),jz ps=true->ej Z w F ps x vs n->ej Z w G ps x vs m
 | [],_,[],_,_,_,_=>trivial
 | [],_,_::_,_,_,_,h=>h.elim
 | .c _ _::ps,x,v::vs,n,m,hq,h=>⟨h.1,lk ps x.2 vs n m hq h.2⟩
 | .pt _::ps,x,v::vs,n,m,hq,h=>⟨h.1,lk ps x.2 vs n m hq h.2⟩
 | .nil::ps,x,v::vs,n,m,hq,h=>⟨h.1,lk ps x vs n m hq h.2⟩
 | .fn _ _::ps,x,v::vs,n,m,hq,h=>⟨h.1,lk ps x.2 vs n m hq h.2⟩
 | .io _ _::_,_,_,_,_,hq,_=>by simp[jz]at hq
 | .mv _::_,_,_,_,_,hq,_=>by simp[jz]at hq
 | .c _ _::_,_,[],_,_,_,h=>h.elim
 | .pt _::_,_,[],_,_,_,h=>h.elim
 | .nil::_,_,[],_,_,_,h=>h.elim
 | .fn _ _::_,_,[],_,_,_,h=>h.elim
theorem oQ{Z Z':Nat->Prop}{w w':World}{G:Nat->Nat->Prop}{F:Nat->Nat->Prop}:∀(ps:List PK) (x:PT ps) (y:uy ps) (vs:List Value) (n m:Nat),jz ps=true->ej Z w F ps x vs n->xm Z' w' G ps y vs m
 | [],_,_,[],_,_,_,_=>trivial
 | [],_,_,_::_,_,_,_,h=>h.elim
 | .c _ _::ps,x,y,v::vs,n,m,hq,h=>oQ ps x.2 y vs n m hq h.2
 | .pt _::ps,x,y,v::vs,n,m,hq,h=>oQ ps x.2 y vs n m hq h.2
 | .nil::ps,x,y,v::vs,n,m,hq,h=>oQ ps x y vs n m hq h.2
 | .fn _ _::ps,x,y,v::vs,n,m,hq,h=>oQ ps x.2 y vs n m hq h.2
 | .io _ _::_,_,_,_,_,_,hq,_=>by simp[jz]at hq
 | .mv _::_,_,_,_,_,_,hq,_=>by simp[jz]at hq
 | .c _ _::_,_,_,[],_,_,_,h=>h.elim
 | .pt _::_,_,_,[],_,_,_,h=>h.elim
 | .nil::_,_,_,[],_,_,_,h=>h.elim
 | .fn _ _::_,_,_,[],_,_,_,h=>h.elim
theorem il{Z Z':Nat->Prop}{w:World}{H H':Nat->Nat->Prop}(hz:∀ n b,H n b->Z' b):∀(ks:List K) (x:Tl ks) (cs:List Value) (j j':Nat),bb true Z w H ks x cs j->bb false Z' w H' ks x cs j'
 | [],_,[],_,_,_=>trivial
 | [],_,_::_,_,_,h=>h.elim
 | .sl e bZ::ks,x,v::vs,j,j',h=>⟨dG.ro (.sl e bZ) x.1 v (H j) (fun b hb=>hz j b hb) h.1,il hz ks x.2 vs (j+1) j' h.2⟩
 | .int k::ks,x,v::vs,j,j',h=>⟨gL (k:= .int k) rfl h.1,il hz ks x.2 vs j j' h.2⟩
 | .bool::ks,x,v::vs,j,j',h=>⟨gL (k:= .bool) rfl h.1,il hz ks x.2 vs j j' h.2⟩
 | .str::ks,x,v::vs,j,j',h=>⟨gL (k:= .str) rfl h.1,il hz ks x.2 vs j j' h.2⟩
 | .sl _ _::_,_,[],_,_,h=>h.elim
 | .int _::_,_,[],_,_,h=>h.elim
 | .bool::_,_,[],_,_,h=>h.elim
 | .str::_,_,[],_,_,h=>h.elim
theorem zm{Z Z':Nat->Prop}{w:World}{H H':Nat->Nat->Prop}(hz:∀ n b,H n b->Z' b):∀(rs:List (Bool×List K)) (y:CT rs) (vs:List Value) (j j':Nat),mT true Z w H rs y vs j->mT false Z' w H' rs y vs j'
 | [],_,[],_,_,_=>trivial
 | [],_,_::_,_,_,h=>h.elim
 | (gg,ks)::rs,y,v::vs,j,j',h=>by obtain⟨⟨cs,e1,e2⟩,h2⟩:=h;exact⟨⟨cs,e1,il hz ks y.1 cs j j' e2⟩,zm hz rs y.2 vs _ _ h2⟩
 | _::_,_,[],_,_,h=>h.elim
theorem Su.adD(s:Su)(x:PT s.ps):s.ro.v7 x=s.v7 x:=by obtain⟨ps,rs,fr,f⟩:=s;cases f <;> rfl
theorem lV.ro{P:Program}{f:Nat}{s:Su}(hq:jz s.ps=true)(hf:s.fresh=true)(h:lV P f s):lV P f s.ro:=by
 intro w Z F args x y yR cF hZ hF hd hy;have hy:s.v7 x=some y:=(s.adD x).symm.trans hy;have h1:=h w Z (fun _ _=>False) args x y yR (lk s.ps x args.toList 0 0 hq cF) hZ (fun _ _ h=>h.elim) (fun _ _ _ h=>h.elim) hy;rw[hf]at h1;refine EI.mono h1 fun v w' ⟨Z',H,vs,e,ha,_,hr⟩=>?_
 have nM:∀ n b,H n b->b<w'.heap.size/\w.heap.size<=b:=fun n b hb=>by
  obtain⟨q1,_,q3⟩:=ha.fp n b hb;rcases q3 with ⟨_,q3⟩ | q3
  . exact q3.elim
  . exact⟨q1,q3⟩
 refine⟨fun b=>Z' b∨∃ n,H n b,fun _ _=>False,vs,e,?_,oQ s.ps x y.1 args.toList 0 0 hq cF,zm (fun n b hb=> .inr ⟨_,hb⟩) _ _ _ _ _ hr⟩
 exact { os:=ha.os,tape:=ha.tape,output:=ha.output,size:=ha.size
         block:=fun b hb _=>ha.block b hb fun _ h=>h
         z:=fun b hb=> .inl (ha.z b hb)
         cq:=fun b hb=>by
          rcases hb with hb | ⟨n,hb⟩
          . exact ha.cq b hb
          . exact⟨(nM n b hb).1,.inr (nM n b hb).2⟩
         fp:=fun n b h=>h.elim
         cS:=fun n m b h=>h.elim }
section
variable{P:Program}{w:World}{E:En}
end
section
variable{P:Program}{E:En}{cx:Cx P}{Z:Nat->Prop}{g:Gh}{st v:St}{a:Act}{w:World}
theorem cJ.bind{st:St}(h:cJ st){d:Nat}{b:AV}{R:Option Rt}:cJ (st.ba d (.v b,R)):=fun t tv ht=>by
 rw[cC]at ht;split at ht
 . simp only[amh]at ht;subst ht;exact fun h=>h
 . exact h t tv ht
end
section
variable{α A X Y:Type}
def kO(f:Nat->α->A->Sum A Y)(z:A->Y):Nat->List α->A->Y
 | _,[],a=>z a
 | i,x::r,a=>match f i x a with
   | .inl a'=>kO f z (i+1) r a'
   | .inr y=>y
theorem qw{step:X->Option (Sum X Y)}(xs:List α)(S:Nat->A->X)(f:Nat->α->A->Sum A Y)(z:A->Y)(I:Nat->A->Prop)
 (hs:∀ i x a,xs[i]? = some x->I i a->step (S i a)=some (match f i x a with | .inl a'=> .inl (S (i+1) a') | .inr y=> .inr y))
 (hI:∀ i x a a',xs[i]? = some x->I i a->f i x a= .inl a'->I (i+1) a')
 (he:∀ a,I xs.length a->step (S xs.length a)=some (.inr (z a))) :
 ∀(ys:List α) (i:Nat) (a:A),i+ys.length=xs.length->ys=xs.drop i->I i a->aq step (S i a)=some (kO f z i ys a)
 | [],i,a,hl,hy,h=>by
   have:i=xs.length:=by simpa using hl
   subst this;exact dK step (he a h)
 | x::r,i,a,hl,hy,h=>by
   have hx:xs[i]? = some x:=by have:=amP (·[0]?) hy;simp only[amn,anq,amN]at this;exact this.symm
   have hr:r=xs.drop (i+1):=by have:=amP List.tail hy;simpa using this
   have mS:=hs i x a hx h;cases hf:f i x a with
   | inl a'=>rw[hf]at mS;refine ez step mS ?_;rw[kO,hf];exact qw xs S f z I hs hI he r (i+1) a' (by simp only[amw]at hl;omega) hr (hI i x a a' hx h hf)
   | inr y=>rw[hf]at mS;rw[kO,hf];exact dK step mS
theorem aO{step:X->Option (Sum X Y)}(xs:List α)(S:Nat->A->X)(f:Nat->α->A->Sum A Y)(z:A->Y)(I:Nat->A->Prop){a0:A}(h0:I 0 a0)
 (hs:∀ i x a,xs[i]? = some x->I i a->step (S i a)=some (match f i x a with | .inl a'=> .inl (S (i+1) a') | .inr y=> .inr y))
 (hI:∀ i x a a',xs[i]? = some x->I i a->f i x a= .inl a'->I (i+1) a')
 (he:∀ a,I xs.length a->step (S xs.length a)=some (.inr (z a))):aq step (S 0 a0)=some (kO f z 0 xs a0):=
 qw xs S f z I hs hI he xs 0 a0 (by simp) (by simp) h0
theorem aT{step:X->Option (Sum X Y)}(xs:List α)(S:Nat->A->X)(f:Nat->α->A->Sum A Y)(z:A->Y){a0:A}
 (hs:∀ i x a,xs[i]? = some x->step (S i a)=some (match f i x a with | .inl a'=> .inl (S (i+1) a') | .inr y=> .inr y))
 (he:∀ a,step (S xs.length a)=some (.inr (z a))):aq step (S 0 a0)=some (kO f z 0 xs a0):=
 aO xs S f z (fun _ _=>True) trivial (fun i x a h _=>hs i x a h) (fun _ _ _ _ _ _ _=>trivial) fun a _=>he a
theorem oI{step:X->Option (Sum X Y)}(xs:List α)(S:Nat->A->X)(z:A->Y)(I:Nat->A->Prop)
 (hs:∀ i x a,xs[i]? = some x->I i a->∃ a',step (S i a)=some (.inl (S (i+1) a'))/\I (i+1) a')
 (he:∀ a,I xs.length a->step (S xs.length a)=some (.inr (z a))):∀(n k:Nat) (a:A),k+n=xs.length->I k a->∃ a',I xs.length a'/\aq step (S k a)=some (z a')
 | 0,k,a,hk,h=>by rw[amN]at hk;subst hk;exact⟨a,h,dK step (he a h)⟩
 | n+1,k,a,hk,h=>by have hx:xs[k]? = some (xs[k]'(by omega)):=amm (by omega);obtain⟨a1,h1,h2⟩:=hs k _ a hx h;obtain⟨a',h3,h4⟩:=oI xs S z I hs he n (k+1) a1 (by omega) h2;exact⟨a',h3,ez step h1 h4⟩
theorem j4(p:α->Bool)(y:Y)(z:Unit->Y):∀(xs:List α) (i:Nat),kO (fun _ x _=>bif p x then .inl ()else .inr y) z i xs ()=bif xs.all p then z ()else y
 | [],_=>rfl
 | x::r,i=>by
   rw[kO,anc];cases hp:p x with
   | true=>simp only[oT,aoh];exact j4 p y z r (i+1)
   | false=>rfl
def allI(p:Nat->α->Bool):Nat->List α->Bool
 | _,[]=>true
 | i,x::r=>p i x&&allI p (i+1) r
theorem kj(p:Nat->α->Bool)(y:Y)(z:Unit->Y):∀(xs:List α) (i:Nat),kO (fun i x _=>bif p i x then .inl ()else .inr y) z i xs ()=bif allI p i xs then z ()else y
 | [],_=>rfl
 | x::r,i=>by
   rw[kO,allI];cases hp:p i x with
   | true=>simp only[oT,aoh];exact kj p y z r (i+1)
   | false=>rfl
theorem gH(p:Nat->α->Bool):∀ {xs:List α} {k:Nat},allI p k xs=true->∀ {i:Nat} {x:α},xs[i]? = some x->p (k+i) x=true
 | [],k,_,i,x,hx=>by simp at hx
 | y::r,k,h,i,x,hx=>by
   simp only[allI,ami]at h;cases i with
   | zero=>simp only[amn,amh]at hx;subst hx;exact h.1
   | succ i=>have:=gH p h.2 (i:=i) (x:=x) (by simpa using hx);rwa [show k+1+i=k+(i+1)by omega]at this
theorem bS(f:α->A->A)(z:A->Y):∀(xs:List α) (i:Nat) (a:A),kO (fun _ x a=> .inl (f x a)) z i xs a=z (xs.foldl (fun a x=>f x a) a)
 | [],_,_=>rfl
 | x::r,i,a=>by rw[kO,anb];exact bS f z r (i+1) _
end
theorem bn{α β:Type}{a b:Option α}{f:α->Option β}(h:a=b):Option.bind a f=Option.bind b f:=h ▸ rfl
section
variable{α:Type}
theorem aU{i:Nat}(h:i<=bQ):ak .i64 (i:Int) 1=((i+1:Nat):Int):=by unfold ak;rw[IntWalk.i64_in _ (by have:bQ=140737488355328:=rfl;omega)];omega
theorem bd{a b:Int}(h1 : -4611686018427387904<=a+b)(h2:a+b<=4611686018427387904):ak .i64 a b=a+b:=by unfold ak;rw[IntWalk.i64_in _ (by omega)]
theorem bG{a b:Int}(h1 : -4611686018427387904<=a-b)(h2:a-b<=4611686018427387904):bf .i64 a b=a-b:=by unfold bf;rw[IntWalk.i64_in _ (by omega)]
theorem ah{xs:List α}{i:Nat}{x:α}(h:xs[i]? = some x):i<xs.length:=(amQ.1 h).1
theorem aL{xs:List α}{i:Nat}{x:α}(h:xs[i]? = some x):aE (i:Int) (ae xs)=true:=by have:=ah h;unfold aE ae;exact amk (by omega)
theorem aA{xs:List α}{n:Nat}(h:xs.length=n):aE (n:Int) (ae xs)=false:=by unfold aE ae;exact amF (by omega)
theorem aF{a b:Int}(h:¬ a<b):aE a b=false:=amF h
theorem aR{a b:Int}(h:a<b):aE a b=true:=amk h
theorem aD{xs:List α}{i:Nat}{x:α}(h:xs[i]? = some x):aX (i:Int) xs=true:=by have:=ah h;unfold aX pQ cl aE;rw[amk (by omega),amk (by omega)];rfl
theorem ig{xs:List α}{i:Nat}(h:i<xs.length):aX (i:Int) xs=true:=by unfold aX pQ cl aE;rw[amk (by omega),amk (by omega)];rfl
theorem aM{xs:List α}{i:Nat}{x:α}(d:α)(h:xs[i]? = some x):gt d xs (i:Int)=x:=by simp[gt,List.getD,h]
theorem fV{xs:S8}{i:Nat}{x:UInt8}(h:xs[i]? = some x):fh xs (i:Int)=(x.toNat:Int):=by simp[fh,FT,List.getD,h]
theorem bX(n:Int):aj n n=true:=by simp[aj]
theorem gF(s:S8):bF s s=true:=by simp[bF]
theorem tG{xs:List α}{b:Nat}(hb:0<b)(h:xs.length * b<=bQ):WS b (ae xs)=true:=by
 have h1:((xs.length:Int) * (b:Int))<=(bQ:Int):=by exact_mod_cast h
 unfold WS ae cl;rw[amk (Int.natCast_nonneg _),amk h1];exact amq hb
theorem mK{β:Type}{xs:List α}(d:β):xh d (ae xs)=List.replicate xs.length d:=by simp[xh,ae]
theorem mc(d:α){done:List α}{y:α}{r:List α}{i:Nat}(h:done.length=i):gt d (done++y::r) (i:Int)=y:=by subst h;simp[gt,List.getD]
theorem et{done:List α}{x y:α}{r:List α}{i:Nat}(h:done.length=i):cZ (done++x::r) (i:Int) y=done++y::r:=by subst h;simp[cZ,List.set_append]
theorem fb{done:List α}{y:α}{r:List α}{i:Nat}(h:done.length=i):aX (i:Int) (done++y::r)=true:=by apply ig;simp;omega
theorem pc{done:List α}{y:α}{r:List α}{i:Nat}(h:done.length=i):aE (i:Int) (ae (done++y::r))=true:=by unfold aE ae;exact amk (by simp only[amj,amw];omega)
theorem iX{xs:List α}{i:Nat}{x:α}(h:xs[i]? = some x):xs.drop i=x::xs.drop (i+1):=by have hl:=ah h;rw[aos hl];congr 1;rw[amm hl]at h;exact am5 h
end
def Ma(left:Int)(n:Nat):Int:=if (n:Int)<=left then left-n else -1
theorem cV{left:Int}{n:Nat}(h:(n:Int)<=left):Ma left n=left-n:=if_pos h
theorem bL{left:Int}{n:Nat}(h:¬ (n:Int)<=left):Ma left n = -1:=if_neg h
theorem fW{α:Type}{left:Int}{s:List α}(h0:0<=left)(h1:left<=1048576)(hs:s.length<=bQ):bf .i64 left (ae s)=left-(s.length:Int):=by have:bQ=140737488355328:=rfl;exact bG (by unfold ae;omega) (by unfold ae;omega)
def wL{α:Type}(w:α->Nat)(xs:List α):Nat:=xs.length+(xs.map w).sum
def cL{α:Type}(c:α->Nat)(xs:List α):Nat:=(xs.map c).sum
theorem zH{α Y:Type}(w:α->Nat)(y:Y)(z:Int->Y):∀(xs:List α) (i:Nat) (a:Int),0<=a->kO (fun _ x (a:Int)=>bif decide ((w x:Int)<=a)then Sum.inl (a-w x)else .inr y) z i xs a=if ((cL w xs:Nat):Int)<=a then z (a-(cL w xs:Nat))else y
 | [],_,a,h=>by simp[kO,cL,h]
 | x::r,i,a,h=>by
   rw[kO];by_cases hx:(w x:Int)<=a
   . simp only[hx,decide_true,oT];rw[zH w y z r (i+1) (a-w x) (by omega)];have e:((cL w (x::r):Nat):Int)=w x+(cL w r:Nat):=by simp[cL]
     rw[e];by_cases h2:((cL w r:Nat):Int)<=a-w x
     . rw[if_pos h2,if_pos (by omega)];congr 1;omega
     . rw[if_neg h2,if_neg (by omega)]
   . simp only[hx,decide_false,oF];rw[if_neg];have e:((cL w (x::r):Nat):Int)=w x+(cL w r:Nat):=by simp[cL]
     rw[e];omega
theorem ew{α:Type}(c:α->Nat){xs:List α}{i:Nat}{x:α}(h:xs[i]? = some x):cL c (xs.drop i)=c x+cL c (xs.drop (i+1)):=by rw[iX h];simp[cL]
theorem gf{α:Type}(c:α->Nat):∀ {xs:List α} {i:Nat} {x:α},xs[i]? = some x->c x<=cL c xs
 | [],i,x,h=>by simp at h
 | y::r,0,x,h=>by simp at h;subst h;simp[cL]
 | y::r,i+1,x,h=>by have:=gf c (xs:=r) (i:=i) (x:=x) (by simpa using h);simp only[cL,amS,anC]at this ⊢;omega
theorem Dn{α:Type}{c w:α->Nat}(h:∀ x,c x<=100 * (w x+1)):∀(xs:List α),cL c xs<=100 * wL w xs
 | []=>by simp[cL]
 | x::r=>by have h1:=h x;have h2:=Dn h r;simp only[cL,wL,amS,anC,amw]at h2 ⊢;omega
theorem wi{α:Type}(c:α->Nat)(p:α->Bool):∀(xs:List α),cL c (xs.filter p)<=cL c xs
 | []=>oR _
 | x::r=>by
   have ih:=wi c p r;rw[ana];simp only[cL,amS,anC]at ih ⊢;split
   . simp only[amS,anC];omega
   . omega
theorem Ta{α:Type}(c:α->Nat)(y:α):∀(xs:List α) (i:Nat) (x:α),xs[i]? = some x->c y=c x->cL c (xs.set i y)=cL c xs
 | [],i,x,h,_=>by simp at h
 | z::r,0,x,h,hc=>by simp only[amn,amh]at h;subst h;simp[cL,hc]
 | z::r,i+1,x,h,hc=>by have:=Ta c y r i x (by simpa using h) hc;simp only[cL,apb,amS,anC]at this ⊢;omega
theorem rC{α:Type}(w:α->Nat)(p:α->Bool)(xs:List α):wL w (xs.filter p)<=wL w xs:=
 Nat.add_le_add (am8 _ _) (wi w p xs)
theorem Sz{α:Type}(w:α->Nat){xs:List α}{k:Int}{y:α}(d:α)(hk:aX k xs=true)(hw:w y=w (gt d xs k)):wL w (cZ xs k y)=wL w xs:=by
 have h0:0<=k/\k<xs.length:=by unfold aX pQ cl aE at hk;simpa using hk
 have hx:xs[k.toNat]? = some (gt d xs k):=by unfold gt;rw[ank,amm (by omega)];rfl
 have h1:(cZ xs k y).length=xs.length:=by simp[cZ]
 have h2:=Ta w y xs k.toNat _ hx hw;show(cZ xs k y).length+cL w (xs.set k.toNat y)=xs.length+cL w xs;rw[h1,h2]
theorem oh{α:Type}(w:α->Nat)(xs:List α):xs.length<=wL w xs:=Nat.le_add_right _ _
theorem om{α:Type}(w:α->Nat){xs:List α}{y:α}(h:y∈xs):w y<=wL w xs:=by obtain⟨i,hi⟩:=ao4 h;exact amp (gf w hi) (Nat.le_add_left _ _)
def jX{α:Type}(m:α->Int->α)(c:α->Nat):List α->Int->List α
 | [],_=>[]
 | x::r,k=>m x k::jX m c r (k+c x)
theorem qt{α Y:Type}(m:α->Int->α)(c:α->Nat)(z:List α×Int->Y):∀(xs:List α) (i:Nat) (d:List α) (k:Int),kO (fun _ x (a:List α×Int)=>Sum.inl (a.1++[m x a.2],a.2+c x)) z i xs (d,k)=z (d++jX m c xs k,k+(cL c xs:Nat))
 | [],_,d,k=>by simp[kO,jX,cL]
 | x::r,i,d,k=>by
   rw[kO];simp only;rw[qt m c z r (i+1)];congr 1;have e:((cL c (x::r):Nat):Int)=c x+(cL c r:Nat):=by simp[cL]
   rw[e];simp only[jX,amH,aoe,amO,true_and];omega
theorem ph{α:Type}(m:α->Int->α)(c:α->Nat):∀(xs:List α) (k:Int),(jX m c xs k).length=xs.length
 | [],_=>rfl
 | x::r,k=>by simp[jX,ph m c r]
theorem mI{α:Type}(m:α->Int->α)(c:α->Nat):∀(xs:List α) (k:Int) (i:Nat) (x:α),xs[i]? = some x->(jX m c xs k)[i]? = some (m x (k+(cL c (xs.take i):Nat)))
 | [],k,i,x,h=>by simp at h
 | y::r,k,0,x,h=>by simp only[amn,amh]at h;subst h;simp[jX,cL]
 | y::r,k,i+1,x,h=>by simp only[am7]at h;have:=mI m c r (k+c y) i x h;simp only[jX,am7,this,amh];congr 1;simp[cL];omega
theorem pg{α Y:Type}(c:α->Nat)(z:Int->Y):∀(xs:List α) (i:Nat) (k:Int),kO (fun _ x (a:Int)=>Sum.inl (a+(c x:Nat))) z i xs k=z (k+(cL c xs:Nat))
 | [],_,k=>by simp[kO,cL]
 | x::r,i,k=>by rw[kO];simp only;rw[pg c z r (i+1)];congr 1;simp[cL];omega
theorem rj{α:Type}(c:α->Nat){xs:List α}{i:Nat}{x:α}(h:xs[i]? = some x):cL c (xs.take (i+1))=cL c (xs.take i)+c x:=by rw[anI,h];simp[cL]
theorem ow{α:Type}(c:α->Nat)(xs:List α)(i:Nat):cL c xs=cL c (xs.take i)+cL c (xs.drop i):=by
 have:xs=xs.take i++xs.drop i:=(aod i xs).symm
 conv=>lhs;rw[this]
 simp only[cL,ao5,ao6]
theorem mJ{α:Type}(xs:List α):cL (fun _=>1) xs=xs.length:=by
 induction xs with
 | nil=>rfl
 | cons x r ih=>simp only[cL,amS,anC,amw]at ih ⊢;omega
theorem mh{α Y:Type}(z:List α->Y):∀(xs:List α) (i:Nat) (d:List α),kO (fun _ x (a:List α)=>Sum.inl (a++[x])) z i xs d=z (d++xs)
 | [],_,d=>by simp[kO]
 | x::r,i,d=>by rw[kO];simp only;rw[mh z r (i+1)];simp
mutual
def BgK:(k:K)->T k->Prop
 | .int k,x=>pT k x
 | .bool,_=>True
 | .str,s=>List.length (α:=UInt8) s<=bQ
 | .sl e ks,xs=>(aW (e:=e) (ks:=ks) xs).length<=bQ/\∀ y∈aW (e:=e) (ks:=ks) xs,BV ks y
def BV:(ks:List K)->Tl ks->Prop
 | [],_=>True
 | k::ks,x=>BgK k x.1/\BV ks x.2
end
def flB(E:En)(rd:Nat->Bool):List (Nat×Nat)->List K->Nat->Bool
 | [],[],_=>true
 | (o,u)::r,ks,off=>Nat.beq o off&&(rd u&&match E.ti u with
   | some tu=>K.mm (ks.take tu.ks.length) tu.ks&&(Nat.ble tu.ks.length ks.length&&flB E rd r (ks.drop tu.ks.length) (off+tu.ks.length))
   | none=>false)
 | _,_,_=>false
def U1(E:En):Nat->Nat->Bool
 | 0,_=>false
 | n+1,t=>match E.ti t with
   | some ti=>(match ti.agg with
     | true=>flB E (U1 E n) ti.pV ti.ks 0
     | false=>(match ti.ks with
       | [.sl e ks]=>(match E.ti e with | some te=>K.mm ks te.ks&&(Nat.blt 0 te.bytes&&(Nat.blt 0 te.ks.length&&U1 E n e)) | none=>false)
       | _=>true))
   | none=>false
section
variable{H:Type}{enc:TypeId×Value->H}{P:Program}{w:World}{spare:Nat->Bool}{held:Bool}{E:En}
theorem Cs(w:World):∀(ks:List K) (x:Tl ks) (cs:List Value) (b o:Nat),tT (iR w) w ks x cs->(∀ j v,cs[j]? = some v->w.cell? ⟨b,o+j,none⟩=some v)->rR (iR w) w ks x b o
 | [],_,_,_,_,_,_=>trivial
 | k::ks,x,[],b,o,h,_=>h.elim
 | k::ks,x,v::vs,b,o,h,hc=>⟨⟨v,hc 0 v rfl,h.1⟩,Cs w ks x.2 vs b (o+1) h.2 fun j u hu=>by have:=hc (j+1) u (by simpa using hu);rwa [show o+1+j=o+(j+1)by omega]⟩
theorem KX(w:World){Z:Nat->Prop}:∀(a b:List K) (cs fT:List Value) (x:Tl a) (y:Tl b),tT Z w a x cs->BV a x->tT Z w b y fT->BV b y->∃ z:Tl (a++b),tT Z w (a++b) z (cs++fT)/\BV (a++b) z
 | [],b,[],fT,_,y,_,_,h,hb=>⟨y,h,hb⟩
 | [],b,_::_,fT,_,y,h,_,_,_=>h.elim
 | k::a,b,[],fT,x,y,h,_,_,_=>h.elim
 | k::a,b,v::vs,fT,x,y,h,hx,h',hb=>by obtain⟨z,h1,h2⟩:=KX w a b vs fT x.2 y h.2 hx.2 h' hb;exact⟨(x.1,z),⟨h.1,h1⟩,⟨hx.1,h2⟩⟩
theorem xX{α:Type}(p:Nat->α->Prop):∀(n:Nat),(∀ i,i<n->∃ x,p i x)->∃ xs:List α,xs.length=n/\∀ i x,xs[i]? = some x->p i x
 | 0,_=>⟨[],rfl,fun i x h=>by simp at h⟩
 | n+1,h=>by
   obtain⟨xs,h1,h2⟩:=xX p n fun i hi=>h i (by omega)
   obtain⟨x,hx⟩:=h n (by omega);refine⟨xs++[x],by simp[h1],fun i y hy=>?_⟩;by_cases hi:i<n
   . rw[am0 (by omega)]at hy;exact h2 i y hy
   . rw[amY (by omega),h1]at hy;cases hk:i-n with
     | zero=>rw[hk]at hy;simp only[amn,amh]at hy;subst hy;rwa [show i=n by omega]
     | succ k=>rw[hk]at hy;simp at hy
theorem wH{base:Nat}{a:Addr}{n:Nat}{cs:List Value}(h:w.cells? base a n=some cs):cs.length=n/\∀ j v,cs[j]? = some v->w.cell? (a.add j)=some v:=by
 unfold World.cells? at h;split at h
 . refine⟨by simpa using mapM_some_length h,fun j v hj=>?_⟩;have nQ:j<n:=by
    have:=(amQ.1 hj).1;have h2:cs.length=n:=by simpa using mapM_some_length h
    omega
   have:=mapM_some_get h j j (by simp[nQ]);rw[this,hj]
 . simp at h
theorem Dg{a:Addr}{v:Value}(h:w.cell? a=some v):a.spot=none/\a.block<w.heap.size:=by
 unfold World.cell? at h;split at h
 . rename_i c _ _ hb;split at h
   . simp at h
   . rename_i hs;refine⟨by simpa using hs,?_⟩;rcases amz a.block w.heap.size with hh | hh
     . exact hh
     . rw[amC hh]at hb;simp at hb
 . simp at h
theorem qv{e:TypeId}:∀(l:List (DataW H)) {d:DataW H},d∈l->∀ n∈d.weights P e,n∈DataW.weightsAll P e l
 | [],_,h,_,_=>by simp at h
 | x::r,d,h,n,hn=>by
   simp only[DataW.weightsAll,anE];rcases ams.1 h with h | h
   . subst h;exact .inl hn
   . exact .inr (qv r h n hn)
theorem IM{ks a:List K}{cs:List Value}{m o:Nat}(hk:ks.take m=a)(hm:a.length=m){x:Tl a}{y:Tl (ks.drop m)}(x1:tT (iR w) w a x ((cs.drop o).take m))(x2:BV a x)(y1:tT (iR w) w (ks.drop m) y (cs.drop (o+m)))(y2:BV (ks.drop m) y):∃ z:Tl ks,tT (iR w) w ks z (cs.drop o)/\BV ks z:=by
 have h:=KX w _ _ _ _ x y x1 x2 y1 y2;have e1:a++ks.drop m=ks:=by rw[<- hk];exact aod m ks
 have e2:(cs.drop o).take m++cs.drop (o+m)=cs.drop o:=by rw[<- List.drop_drop,aod]
 rw[e1,e2]at h;exact h
theorem VE(hT:cH P E):∀(n t:Nat) (ti:TI),U1 E n t=true->E.ti t=some ti->∀(fuel:Nat) (cs:List Value) (d:DataW H) (ps:List MemPlace),DataW.trod enc P w 0 spare held fuel t cs=some (d,ps)->(∀ m∈d.weights P t,m<=bQ)->∃ x:Tl ti.ks,tT (iR w) w ti.ks x cs/\BV ti.ks x:=by
 intro n;induction n with
 | zero=>intro t ti h;simp[U1]at h
 | succ n ih=>
   intro t ti Pk iy fuel cs d ps htr hw;have Yf:=hT t ti iy;obtain⟨dd,hu,mW⟩:=Yf.desc;unfold U1 at Pk;rw[iy]at Pk;simp only at Pk;obtain⟨inf,alY,dh,_⟩:=Yf.info;have bD:P.cellsOf t=ti.ks.length:=by simp[Program.cellsOf,alY,dh]
   cases dd with
   | bool=>obtain⟨ye,Kf⟩:=mW;obtain⟨b,rfl,_⟩:=DataW.trod_bool hu htr;rw[Kf];exact⟨(b,()),⟨rfl,trivial⟩,⟨trivial,trivial⟩⟩
   | int k=>
     obtain⟨ye,Kf⟩:=mW;obtain⟨v,rfl,_,hwf⟩:=DataW.trod_int hu htr;rw[Kf];have kL:pT k v:=by simpa[Lit.wf,pT]using hwf
     exact⟨(v,()),⟨⟨rfl,kL⟩,trivial⟩,⟨kL,trivial⟩⟩
   | string=>obtain⟨ye,Kf⟩:=mW;obtain⟨v,rfl,hx,_⟩:=DataW.trod_string hu htr;simp only[amO]at hx;obtain⟨rfl,_⟩:=hx;rw[Kf];have hl:=hw v.data.toList.length (by simp[DataW.weights]);exact⟨(v.data.toList,()),⟨⟨by simp[fQ],hl⟩,trivial⟩,⟨hl,trivial⟩⟩
   | slice e=>
     obtain⟨ye,ks,Kf,Un⟩:=mW;obtain⟨ag,kk,el,HV,fl⟩:=ti;simp only at Kf Un ye;subst Kf;subst Un;subst ye;simp only at Pk;cases Fa:E.ti el with
     | none=>rw[Fa]at Pk;simp at Pk
     | some te=>
     rw[Fa]at Pk;simp only[ami]at Pk;obtain⟨r1,r2,r3,r4⟩:=Pk;have nN:=K.la _ _ r1;subst nN;have v8:0<te.bytes:=ann (amE r2);have hkl:0<te.ks.length:=ann (amE r3);obtain⟨amb,aa6,ad6,alZ,_⟩:=(hT el te Fa).info;have hce:P.cellsOf el=te.ks.length:=by simp[Program.cellsOf,aa6,ad6]
     have vW:P.bytesOf el=te.bytes:=by simp[Program.bytesOf,aa6,alZ]
     rcases DataW.trod_slice hu htr with ⟨rfl,_⟩ | ⟨a,len,cap,elems,rest,m,_,rfl,hx,_,hlc,Fv,hlen,Un,_⟩
     . exact⟨(([]:List (Tl te.ks)),()),⟨⟨none,0,rfl,oR _,amv _,fun _=>rfl,fun h=>absurd rfl h⟩,trivial⟩,⟨⟨amv _,fun y hy=>by simp[aW]at hy⟩,trivial⟩⟩
     . simp only[amO]at hx;obtain⟨rfl,_⟩:=hx;have Pl:(elems.length+rest.length) * te.bytes<=bQ:=by
        have:=hw ((elems.length+rest.length) * P.bytesOf el) (by simp[DataW.weights,hu]);rwa [vW]at this
       have hlb:len<=bQ:=by have:=anP (elems.length+rest.length) v8;omega
       rw[hce]at Un;have ON:∀ i,i<len->∃ x:Tl te.ks,(a.spot=none∨0<i)/\(∃ cells,w.cells? 0 (a.add (i * te.ks.length)) te.ks.length=some cells/\tT (iR w) w te.ks x cells)/\BV te.ks x:=fun i hi=>by
        have h1:=Un i hi;have hei:elems[i]? = some (elems[i]'(by omega)):=amm (by omega);rw[hei]at h1;obtain⟨cells,yp,OX⟩:=anA.1 h1;obtain⟨x,hx1,hx2⟩:=ih el te r4 Fa m cells _ _ OX fun q hq=>hw q (by simp only[DataW.weights,hu,ams,anE];right;left;exact qv (elems.map (·.1)) (an9.2 ⟨_,List.getElem_mem (by omega:i<elems.length),rfl⟩) q hq)
        refine⟨x,?_,⟨cells,yp,hx1⟩,hx2⟩;rcases aob i with h0 | h0
        . left;subst h0;obtain⟨g1,g2⟩:=wH yp;obtain⟨v,hv⟩:∃ v,cells[0]? = some v:=⟨cells[0]'(by omega),amm (by omega)⟩;have:=g2 0 v hv;simp[Addr.add]at this;exact(Dg this).1
        . exact .inr h0
       obtain⟨xs,hxl,hxs⟩:=xX _ len ON;refine⟨((xs:List (Tl te.ks)),()),⟨⟨some a,cap,by show Value.slice (some a) len cap= .slice (some a) xs.length cap;rw[hxl],by show xs.length<=cap;omega,by show xs.length<=bQ;omega,fun h=>by simp at h,fun cY=>?_⟩,trivial⟩,⟨⟨by show xs.length<=bQ;omega,fun y hy=>?_⟩,trivial⟩⟩
       . have Kg:0<xs.length:=ao7.2 cY;have Dv:=hxs 0 _ (amm Kg);have Is:a.spot=none:=by
          rcases Dv.1 with h | h
          . exact h
          . omega
         obtain⟨ab,ao,asp⟩:=a;simp only at Is;subst Is;have Ys:∀ o k,(⟨ab,o,none⟩:Addr).add k=⟨ab,o+k,none⟩:=fun o k=>by
          unfold Addr.add;split
          . rename_i h;subst h;rfl
          . rfl
         have lE:ab<w.heap.size:=by obtain⟨_,⟨cells,yp,OX⟩,_⟩:=Dv;obtain⟨g1,g2⟩:=wH yp;obtain⟨v,hv⟩:∃ v,cells[0]? = some v:=⟨cells[0]'(by omega),amm (by omega)⟩;have:=g2 0 v hv;rw[Ys,Ys]at this;exact(Dg this).2
         refine⟨ab,ao,rfl,lE,lE,fun i x hi=>?_⟩;obtain⟨_,⟨cells,yp,OX⟩,_⟩:=hxs i x hi;obtain⟨g1,g2⟩:=wH yp;refine Cs w te.ks x cells ab (ao+i * te.ks.length) OX fun j v hj=>?_
         have:=g2 j v hj;rw[Ys,Ys]at this;exact this
       . obtain⟨i,hi⟩:=ao4 hy;exact(hxs i y hi).2.2
   | struct fs=>
     obtain⟨ye,Pd,_⟩:=mW;rw[ye]at Pk;simp only at Pk;obtain⟨xs,m,_,hx,hlen,hxl,lF⟩:=DataW.trod_struct hu htr;simp only[amO]at hx;obtain⟨rfl,_⟩:=hx;rw[bD]at hlen;have key:∀(l:List (Nat×Nat)) (ks:List K) (off i:Nat),(∀ j,NX l j=NX ti.pV (i+j))->off+ks.length=ti.ks.length->flB E (U1 E n) l ks off=true->∃ x:Tl ks,tT (iR w) w ks x (cs.drop off)/\BV ks x:=by
      intro l;induction l with
      | nil=>
        intro ks off i hf ho hb;cases ks with
        | nil=>rw[List.drop_of_length_le (by simp at ho;omega)];exact⟨(),trivial,trivial⟩
        | cons k ks=>simp[flB]at hb
      | cons p r ihl=>
        intro ks off i hf ho hb;obtain⟨o,u⟩:=p
        have cz:(Nat.beq o off&&(U1 E n u&&match E.ti u with
         | some tu=>K.mm (ks.take tu.ks.length) tu.ks&&(Nat.ble tu.ks.length ks.length&&flB E (U1 E n) r (ks.drop tu.ks.length) (off+tu.ks.length))
         | none=>false))=true:=by
         cases ks <;> exact hb
        simp only[ami]at cz;obtain⟨b1,b2,b3⟩:=cz;cases htu:E.ti u with
        | none=>rw[htu]at b3;simp at b3
        | some tu=>
        rw[htu]at b3;simp only[ami]at b3;obtain⟨b3,b4,b5⟩:=b3;have jY:=beq_eq b1;subst jY;have Kf:=K.la _ _ b3;have hkl:tu.ks.length<=ks.length:=amE b4;have h0:=hf 0;rw[amN]at h0;obtain⟨fi,f1,f2,f3⟩:=Pd i o u h0.symm;have hg:=lF i fi f1;rw[f2,f3]at hg;obtain⟨inu,al0,Uf,_⟩:=(hT u tu htu).info;have hcu:P.cellsOf u=tu.ks.length:=by simp[Program.cellsOf,al0,Uf]
        rw[hcu]at hg;have Dp:i<xs.length:=by rw[hxl];exact(amK.1 f1).1
        rw[amm Dp]at hg;obtain⟨x,x1,x2⟩:=ih u tu b2 htu m _ _ _ hg fun q hq=>hw q (by
         simp only[DataW.weights,hu];refine DataW.weights_mem_each (j:=i) (t:=u) (d:=xs[i].1) ?_ ?_ q hq
         . rw[amX,aml,f1,amI,f3]
         . rw[amX,amm Dp];rfl)
        obtain⟨y,y1,y2⟩:=ihl (ks.drop tu.ks.length) (o+tu.ks.length) (i+1) (fun j=>by rw[show i+1+j=i+(j+1)by omega,<- hf (j+1)];rfl) (by rw[aoa];omega) b5;exact IM Kf rfl x1 x2 y1 y2
     obtain⟨x,x1,x2⟩:=key ti.pV ti.ks 0 0 (fun j=>by rw[amt]) (by omega) Pk;exact⟨x,x1,x2⟩
   | _=>exact mW.elim
end
def I9(E:En):List Nat->List PK->Bool
 | [],[]=>true
 | t::ts,.c g ks::ps=>(match E.ti t with | some ti=>cw g ti.agg&&(K.mm ks ti.ks&&U1 E 30 t) | none=>false)&&I9 E ts ps
 | _,_=>false
def BgP:(ps:List PK)->PT ps->Prop
 | [],_=>True
 | .c _ ks::ps,x=>BV ks x.1/\BgP ps x.2
 | .pt _::ps,x=>BgP ps x.2
 | .nil::ps,x=>BgP ps x
 | .fn _ _::ps,x=>BgP ps x.2
 | .io _ _::ps,x=>BgP ps x.2
 | .mv _::ps,x=>BgP ps x.2
 | .pw _::ps,x=>BgP ps x.2
section
variable{H:Type}{enc:TypeId×Value->H}{P:Program}{w:World}{spare:Nat->Bool}{held:Bool}{E:En}
theorem acu(hT:cH P E){t:Nat}{ti:TI}(hr:U1 E 30 t=true)(iy:E.ti t=some ti){base:Nat}{v:Value}(hv:Value.okWide P w .any base t v){d:DataW H}{p:List MemPlace}(h:DataW.Trod enc P w 0 spare held t v d p)(hw:∀ m∈d.weights P t,m<=bQ) :
 ∃ x:Tl ti.ks,ROv (iR w) w ti.agg ti.ks x v/\BV ti.ks x:=by
 obtain⟨fuel,h⟩:=h;obtain⟨x,h1,h2⟩:=VE hT 30 t ti hr iy fuel _ d p h hw;refine⟨x,⟨v.cells.toList,?_,h1⟩,h2⟩;obtain⟨dd,hu,mW⟩:=(hT t ti iy).desc;unfold Value.okWide at hv;rw[hu]at hv;cases dd with
 | struct fs=>obtain⟨cs,rfl,_⟩:=hv;rw[mW.1];show Value.agg cs= .agg cs.toList.toArray;simp
 | bool=>rw[mW.1];unfold Cell.okWide at hv;rw[hu]at hv;cases v <;> first | rfl | exact(by simp[Cell.ok,hu]at hv)
 | int k=>rw[mW.1];unfold Cell.okWide at hv;rw[hu]at hv;cases v <;> first | rfl | exact(by simp[Cell.ok,hu]at hv)
 | string=>rw[mW.1];unfold Cell.okWide at hv;rw[hu]at hv;cases v <;> first | rfl | exact(by simp[Cell.ok,hu]at hv)
 | slice e=>rw[mW.1];unfold Cell.okWide at hv;rw[hu]at hv;cases v <;> first | rfl | exact(by simp[Cell.ok,hu]at hv)
 | _=>exact mW.elim
theorem HH{base:Nat}{spare:Nat->Bool}{held:Bool}:∀(ts:List Nat) (vs:List Value) (ds:List (DataW H)) (pl:List MemPlace),DataW.TrodAll enc P w base spare held ts vs ds pl->ds.length=ts.length
 | [],[],[],_,_=>rfl
 | t::ts,v::vs,d::ds,_,h=>by obtain⟨p,q,_,h2,_⟩:=h;simp[HH ts vs ds q h2]
 | [],_::_,_,_,h=>h.elim
 | [],[],_::_,_,h=>h.elim
 | _::_,[],_,_,h=>h.elim
 | _::_,_::_,[],_,h=>h.elim
theorem HJ(hT:cH P E){base:Nat}:∀(ts:List Nat) (ps:List PK),I9 E ts ps=true->∀(vs:List Value) (ds:List (DataW H)) (pl:List MemPlace) (n:Nat),DataW.TrodAll enc P w 0 spare held ts vs ds pl->(∀(j:Nat) t v,ts[j]? = some t->vs[j]? = some v->Value.okWide P w .any base t v) ->
 (∀ m∈DataW.weightsEach P ts ds,m<=bQ)->∃ x:PT ps,ej (iR w) w (fun _ _=>False) ps x vs n/\BgP ps x
 | [],[],_,[],[],pl,n,h,hv,hw=>⟨(),trivial,trivial⟩
 | [],[],_,_::_,_,pl,n,h,hv,hw=>h.elim
 | [],[],_,[],_::_,pl,n,h,hv,hw=>h.elim
 | t::ts,.c g ks::ps,hp,[],ds,pl,n,h,hv,hw=>h.elim
 | t::ts,.c g ks::ps,hp,_::_,[],pl,n,h,hv,hw=>h.elim
 | t::ts,.c g ks::ps,hp,v::vs,d::ds,pl,n,h,hv,hw=>by
   obtain⟨p,q,h1,h2,_⟩:=h;unfold I9 at hp;simp only[ami]at hp;obtain⟨yo,Ck⟩:=hp;cases iy:E.ti t with
   | none=>rw[iy]at yo;simp at yo
   | some ti=>rw[iy]at yo;simp only[ami]at yo;obtain⟨b1,b2,b3⟩:=yo;have e1:=eL b1;have e2:=K.la _ _ b2;subst e1;subst e2;obtain⟨x,x1,x2⟩:=acu hT b3 iy (hv 0 t v rfl rfl) h1 (fun m hm=>hw m (by simp only[DataW.weightsEach,anE];exact .inl hm));obtain⟨y,y1,y2⟩:=HJ hT ts ps Ck vs ds q n h2 (fun j t' v' ht hv'=>hv (j+1) t' v' (by simpa using ht) (by simpa using hv')) (fun m hm=>hw m (by simp only[DataW.weightsEach,anE];exact .inr hm));exact⟨(x,y),⟨x1,y1⟩,⟨x2,y2⟩⟩
 | [],.c _ _::_,hp,_,_,_,_,_,_,_=>by simp[I9]at hp
 | [],.pt _::_,hp,_,_,_,_,_,_,_=>by simp[I9]at hp
 | [],.nil::_,hp,_,_,_,_,_,_,_=>by simp[I9]at hp
 | [],.fn _ _::_,hp,_,_,_,_,_,_,_=>by simp[I9]at hp
 | [],.io _ _::_,hp,_,_,_,_,_,_,_=>by simp[I9]at hp
 | [],.mv _::_,hp,_,_,_,_,_,_,_=>by simp[I9]at hp
 | _::_,[],hp,_,_,_,_,_,_,_=>by simp[I9]at hp
 | _::_,.pt _::_,hp,_,_,_,_,_,_,_=>by simp[I9]at hp
 | _::_,.nil::_,hp,_,_,_,_,_,_,_=>by simp[I9]at hp
 | _::_,.fn _ _::_,hp,_,_,_,_,_,_,_=>by simp[I9]at hp
 | _::_,.io _ _::_,hp,_,_,_,_,_,_,_=>by simp[I9]at hp
 | _::_,.mv _::_,hp,_,_,_,_,_,_,_=>by simp[I9]at hp
theorem OI{fresh:Bool}{Z:Nat->Prop}{w:World}{H:Nat->Nat->Prop}{b:Bool}:∀ {vs:List Value},mT fresh Z w H [(false,[.bool])] ((b,()),()) vs 0->vs=[.bool b]
 | [],h=>h.elim
 | [v],h=>by obtain⟨⟨cs,hc,Fb⟩,_⟩:=h;have hc:cs=[v]:=hc;subst hc;have hv:v= .bool b:=Fb.1;rw[hv]
 | _::_::_,h=>h.2.elim
theorem Ns {f:Nat} {fn:Func} {c:Code} {s:Su} (Uf:lV P f s) (hf:P.funcs[f]? = some fn) (iw:(fn.name == "runtime.NumGoroutine") = false) (hb:fn.body = some c)
 (yR:Gl P w (iR w)) {args:Array Value} {x:PT s.ps} (cF:ej (iR w) w (fun _ _=>False) s.ps x args.toList 0)
 (al1:∃ y,s.v7 x=some y/\∀(Z:Nat->Prop) (w':World) (H:Nat->Nat->Prop) (vs:List Value),mT s.fresh Z w' H s.rs y.2 vs 0->vs=[.bool true]) :
 Calls P f args w fun e w'=>e= .returned (.bool true)/\Below w.heap.size w w':=by
 obtain⟨y,hy,Up⟩:=al1;have h:=Uf w (iR w) (fun _ _=>False) args x y yR cF (fun b hb=>hb) (fun i b hb=>hb.elim) (fun i j b hb=>hb.elim) hy;rw[MuLone.run_callFunc_enter hf iw hb]at h;have h:Calls P f args w _:=h;refine h.mono fun e w' he=>?_
 cases e with
 | returned v=>obtain⟨Z',H',vs,rfl,ha,_,hr⟩:=he;have Pg:=Up Z' w' _ vs hr;subst Pg;exact⟨rfl,ha.os,ha.tape,ha.output,ha.size,fun k hk=>ha.block k hk fun i hi=>hi⟩
 | _=>exact he.elim
theorem Below.trodAll(hl:laidOutB P=true){W W':World}(hb:Below W.heap.size W W'):∀(ts:List TypeId) (vs:List Value) (ds:List (DataW H)) (ps:List MemPlace),(∀ t∈ts,P.readableRec t=true/\t<P.types.size)->DataW.TrodAll enc P W 0 (fun _=>true) true ts vs ds ps->(∀ x∈ps,x.block<W.heap.size)->DataW.TrodAll enc P W' 0 (fun b=>decide (b<W.heap.size)) true ts vs ds ps
 | [],[],[],ps,_,h,_=>h
 | t::ts,v::vs,d::ds,ps,ht,h,aV=>by obtain⟨p,q,h1,h2,rfl⟩:=h;exact⟨p,q,Below.trod hl (ht t (amD ..)).1 (ht t (amD ..)).2 h1 hb (fun x hx=>aV x (an4 _ hx)),Below.trodAll hl hb ts vs ds q (fun t ym=>ht t (amy _ ym)) h2 (fun x hx=>aV x (aop _ hx)),rfl⟩
 | [],_::_,_,_,_,h,_=>h.elim
 | [],[],_::_,_,_,h,_=>h.elim
 | _::_,[],_,_,_,h,_=>h.elim
 | _::_,_::_,[],_,_,h,_=>h.elim
theorem Q9{fn:Func}{s:ChangeSpec}(hl:laidOutB P=true)(aa7:s.vars=[]){rt:TypeId}(Fp:fn.resultTypes = #[rt])(hru:P.underlying rt=some .bool)(yq:∀ t∈fn.params.toList,P.readableRec t=true/\t<P.types.size)
 {W W':World}{args:Array Value}{ds gs:List (DataW H)}{before:List MemPlace}(hW:DataW.Whole enc P fn.params.toList s.vars false W args.toList ds gs before)(hb:Below W.heap.size W W')
 (hs:s.fn H (ds++gs)={ results:=[.lit (.bool true)],args:=ds }):s.post enc P fn false true false false W args (.bool true) W':=by
 have aV:=hW.lt;have hW0:=hW;obtain⟨p,q,hA,hV,rfl,_,_⟩:=hW;rw[aa7]at hV;obtain⟨rfl,rfl⟩:gs=[]/\q=[]:=by
  cases gs with
  | nil=>exact⟨rfl,hV⟩
  | cons _ _=>exact hV.elim
 refine⟨ds,[],_,[],p,[],hW0,?_,?_,?_,hb.frame _,fun h=>by simp at h⟩
 . rw[hs,Fp];exact⟨[],[],Go.RowKit.shut_bool hru true,rfl,rfl⟩
 . rw[hs];exact Below.trodAll hl hb _ _ _ _ yq hA fun x hx=>by have:=aV x (an4 _ hx);simpa using this
 . rw[hs,aa7];rfl
end
structure Swo {α:Type} (lt:α->α->Bool):Prop where
 irr:∀ a,lt a a=false
 trans:∀ a b c,lt a b=true->lt b c=true->lt a c=true
 neg:∀ a b c,lt a c=true->lt a b=true∨lt b c=true
def eqv{α:Type}(lt:α->α->Bool)(a b:α):Bool:= !lt a b&& !lt b a
def Fl{α:Type}(lt:α->α->Bool)(xs ys:List α):Prop:=xs.length=ys.length/\∀ z,xs.filter (eqv lt z)=ys.filter (eqv lt z)
section
variable{α:Type}{lt:α->α->Bool}
theorem Qb(h:Swo lt)(a:α):eqv lt a a=true:=by simp[eqv,h.irr]
theorem Dy{a b:α}:eqv lt a b=true↔lt a b=false/\lt b a=false:=by simp[eqv]
theorem Swo.le_trans(h:Swo lt){a b c:α}(h1:lt b a=false)(h2:lt c b=false):lt c a=false:=by
 cases hc:lt c a with
 | false=>rfl
 | true=>rcases h.neg c b a hc with h3 | h3 <;> simp_all
theorem MY(h:Swo lt){a b c:α}(h1:eqv lt a b=true)(h2:eqv lt b c=true):eqv lt a c=true:=by
 rw[Dy]at *
 exact⟨h.le_trans h2.1 h1.1,h.le_trans h1.2 h2.2⟩
theorem Rr{a b:α}(h:eqv lt a b=true):eqv lt b a=true:=by rw[Dy]at *;exact⟨h.2,h.1⟩
theorem Fl.refl(xs:List α):Fl lt xs xs:=⟨rfl,fun _=>rfl⟩
theorem Fl.symm{xs ys:List α}(h:Fl lt xs ys):Fl lt ys xs:=⟨h.1.symm,fun z=>(h.2 z).symm⟩
theorem Fl.trans{xs ys zs:List α}(h1:Fl lt xs ys)(h2:Fl lt ys zs):Fl lt xs zs:=⟨h1.1.trans h2.1,fun z=>(h1.2 z).trans (h2.2 z)⟩
theorem Fl.append{a b c d:List α}(h1:Fl lt a b)(h2:Fl lt c d):Fl lt (a++c) (b++d):=⟨by simp[h1.1,h2.1],fun z=>by simp[h1.2 z,h2.2 z]⟩
theorem Fl.mem(h:Swo lt){xs ys:List α}(hs:Fl lt xs ys){x:α}:x∈xs↔x∈ys:=by
 have key:∀ {xs ys:List α},Fl lt xs ys->x∈xs->x∈ys:=fun {xs ys} hs hx=>by have:x∈xs.filter (eqv lt x):=anw.2 ⟨hx,Qb h x⟩;rw[hs.2 x]at this;exact(anw.1 this).1
 exact⟨key hs,key hs.symm⟩
theorem Fl.swap(h:Swo lt){a b:List α}(hab:∀ x∈a,∀ y∈b,lt y x=true):Fl lt (a++b) (b++a):=by
 refine⟨by simp[Nat.add_comm],fun z=>?_⟩;rw[an1,an1];by_cases ha:a.filter (eqv lt z)=[]
 . rw[ha];simp
 . by_cases hb:b.filter (eqv lt z)=[]
   . rw[hb];simp
   . exfalso;obtain⟨x,hx⟩:=List.exists_mem_of_ne_nil _ ha;obtain⟨y,hy⟩:=List.exists_mem_of_ne_nil _ hb;have hx:=anw.1 hx;have hy:=anw.1 hy;have:=MY h (Rr hx.2) hy.2;rw[Dy]at this;rw[hab x hx.1 y hy.1]at this;simp at this
end
open Go.Shelf Go.Proofs Go.Lib
section
variable{P:Program}{w w':World}{Z Z':Nat->Prop}{F G:Nat->Nat->Prop}
theorem oG:∀(ps:List PK) (x:PT ps) (y:uy ps) (vs:List Value) (n m:Nat),ej Z w F ps x vs n->nh ps=false->xm Z' w' G ps y vs m
 | [],_,_,[],_,_,_,_=>trivial
 | [],_,_,_::_,_,_,h,_=>h.elim
 | .c _ _::ps,x,y,v::vs,n,m,h,hi=>oG ps x.2 y vs n m h.2 hi
 | .pt _::ps,x,y,v::vs,n,m,h,hi=>oG ps x.2 y vs n m h.2 hi
 | .nil::ps,x,y,v::vs,n,m,h,hi=>oG ps x y vs n m h.2 hi
 | .fn _ _::ps,x,y,v::vs,n,m,h,hi=>oG ps x.2 y vs n m h.2 hi
 | .mv _::ps,x,y,v::vs,n,m,h,hi=>oG ps x.2 y vs (n+1) (m+1) h.2 hi
 | .io _ _::ps,_,_,_,_,_,_,hi=>by simp[nh]at hi
 | .c _ _::_,_,_,[],_,_,h,_=>h.elim
 | .pt _::_,_,_,[],_,_,h,_=>h.elim
 | .nil::_,_,_,[],_,_,h,_=>h.elim
 | .fn _ _::_,_,_,[],_,_,h,_=>h.elim
 | .mv _::_,_,_,[],_,_,h,_=>h.elim
def WQ(w:World)(Z:Nat->Prop)(s:Su)(y:CT s.rs)(e:Ending)(w':World):Prop:=
 ∃(vs:List Value) (H:Nat->Nat->Prop),e= .returned (A2 vs)/\Below w.heap.size w w'/\(∀ n b,H n b->w.heap.size<=b/\b<w'.heap.size)/\(∀ n m b,H n b->H m b->n=m)/\mT s.fresh Z w' H s.rs y vs 0
theorem Jx {f:Nat} {fn:Func} {c:Code} {s:Su} (hf:P.funcs[f]? = some fn) (iw:(fn.name == "runtime.NumGoroutine") = false) (hb:fn.body = some c) (hio:nh s.ps = false)
 (h:∀(w:World) (Z:Nat->Prop) (F:Nat->Nat->Prop) (args:Array Value) (x:PT s.ps) (y:uy s.ps×CT s.rs),Gl P w Z->(∀ b,Z b->b<w.heap.size)->ej Z w F s.ps x args.toList 0->s.v7 x=some y->Calls P f args w (WQ w Z s y.2)):lV P f s:=by
 intro w Z F args x y yR cF hZ hF hd hy;rw[MuLone.run_callFunc_enter hf iw hb];show Calls P f args w _;refine(h w Z F args x y yR hZ cF hy).mono fun e w' ⟨vs,H,he,hb,h1,h2,hr⟩=>?_
 subst he;refine⟨Z,fun n b=>∃ j,n=2 * j+1/\H j b,vs,rfl,?_,oG _ x _ _ 0 0 cF hio,mT.mono (fun n b hb=>⟨n,rfl,hb⟩) _ _ _ _ hr⟩
 exact { os:=hb.os,tape:=hb.tape,output:=hb.output,size:=hb.size
         block:=fun b aV _=>hb.block b aV
         z:=fun b hb=>hb
         cq:=fun b hz=>⟨amG (hZ b hz) hb.size,.inl hz⟩
         fp:=fun n b ⟨j,_,hh⟩=>⟨(h1 j b hh).2,fun hz=>by have:=hZ b hz;have:=(h1 j b hh).1;omega,.inr (h1 j b hh).1⟩
         cS:=fun n m b ⟨j,e1,h3⟩ ⟨j',e2,h4⟩=>by have:=h2 j j' b h3 h4;omega }
theorem abZ{nm:String}{k:IntKind}{zs:List Int}(h:Gl P w Z)(hm:(nm,abl k zs)∈gl0){g:Nat}(hg:P.globalNamed nm=some g):Lib.TabIs P w nm k zs:=by obtain⟨⟨e,fr,h1⟩,_,_⟩:=h _ hm g hg;simp only[Lib.TabIs,World.var?,hg,oB,h1]
theorem P1{fr:Bool}{s:S8}(h:s.length<=bQ):mT fr Z w (fun _ _=>False) [(false,[.str])] ((s,()),()) [.string ⟨s.toArray⟩] 0:=
 ⟨⟨[.string ⟨s.toArray⟩],rfl,⟨rfl,h⟩,trivial⟩,trivial⟩
theorem L7{k:IntKind}{x:Tl [K.int k]}{v:Value}(h:ROv Z w false [.int k] x v):v= .int k x.1/\pT k x.1:=by obtain⟨cs,e,h⟩:=h;have e:cs=[v]:=e;subst e;exact h.1
theorem arg_str{x:Tl [K.str]}{v:Value}(h:ROv Z w false [.str] x v):v= .string (fQ x.1)/\x.1.length<=bQ:=by obtain⟨cs,e,h⟩:=h;have e:cs=[v]:=e;subst e;exact h.1
def Me(n:Int):Option (Unit×(S8×Unit)×Unit):=zR (Lib.itoa n)
theorem Xr {ρ:Ren} (L:LaysM.n171 P ρ) {f:Nat} (hf:f = ρ.f 171) {fn:Func} {c:Code} (h1:P.funcs[f]? = some fn) (iw:(fn.name == "runtime.NumGoroutine") = false) (hb:fn.body = some c):lV P f ⟨[.c false [.int .i64]], [(false, [.str])], true, .inl fun x=>Me x.1.1⟩:=by
 subst hf;refine Jx h1 iw hb rfl fun w Z F args x y yR hZ cF hy=>?_
 have hy:Me x.1.1=some y:=hy;obtain rfl:=am5 hy
 match hl:args.toList,cF with
 | [v],⟨hv,_⟩=>
   obtain⟨rfl,hr⟩:=L7 hv;obtain rfl:args = #[.int .i64 x.1.1]:=by rw[<- anh (xs:=args),hl]
   obtain⟨⟨n,_⟩,_⟩:=x;change Int at n;have hr:(-9223372036854775808:Int)<=n/\n<=9223372036854775807:=hr;refine(Any.strconv_Itoa L n hr.1 hr.2 w (abZ yR (by simp[gl0]) L.m17)).mono fun e w' ⟨he,k,os,hw⟩=>?_
   subst he hw;refine⟨[_],fun _ _=>False,rfl,below_grow _ w (oR _) k os,fun _ _ h=>h.elim,fun _ _ _ h=>h.elim,P1 ?_⟩;exact amp (itoa_length_le _ hr.1 hr.2) (by decide)
 | [],h=>exact h.elim
 | _::_::_,h=>exact h.2.elim
def ru(s:S8)(n:Int):Option (Unit×(S8×Unit)×Unit):=cond (cl 0 n&&Nat.ble (s.length * n.toNat) bQ) (zR (Lib.repeatL s n.toNat)) none
theorem NV {ρ:Ren} (L:Lays.n105 P ρ) (X:Builder.Extra P ρ) {f:Nat} (hf:f = ρ.f 105) {fn:Func} {c:Code} (h1:P.funcs[f]? = some fn) (iw:(fn.name == "runtime.NumGoroutine") = false) (hb:fn.body = some c):lV P f ⟨[.c false [.str], .c false [.int .i64]], [(false, [.str])], true, .inl fun x=>ru x.1.1 x.2.1.1⟩:=by
 subst hf;refine Jx h1 iw hb rfl fun w Z F args x y yR hZ cF hy=>?_
 have hy:ru x.1.1 x.2.1.1=some y:=hy
 match hl:args.toList,cF with
 | [v,u],⟨hv,hu,_⟩=>
   obtain⟨rfl,hr⟩:=arg_str hv;obtain⟨rfl,Fs⟩:=L7 hu;obtain rfl:args = #[.string (fQ x.1.1),.int .i64 x.2.1.1]:=by rw[<- anh (xs:=args),hl]
   obtain⟨⟨s,_⟩,⟨n,_⟩,_⟩:=x;change S8 at s;change Int at n;simp only[ru]at hy;cases hc:cl 0 n&&Nat.ble (s.length * n.toNat) bQ with
   | false=>simp[hc]at hy
   | true=>
     rw[hc]at hy;obtain rfl:=am5 hy;simp only[ami]at hc;have h0:0<=n:=by simpa[cl]using hc.1
     have hb:s.length * n.toNat<=140737488355328:=amE hc.2;obtain⟨k,rfl⟩:∃ k:Nat,n=k:=⟨n.toNat,by omega⟩;have hk:(k:Int)<=9223372036854775807:=Fs.2;refine(Any.strings_Repeat L X (fQ s) k w (by omega) (by simpa[fQ,ByteArray.size]using hb)).mono fun e w' ⟨he,vW⟩=>?_
     subst he;refine⟨[_],fun _ _=>False,rfl,vW,fun _ _ h=>h.elim,fun _ _ _ h=>h.elim,P1 ?_⟩;rw[repeatL_length,aoN];exact hb
 | [],h=>exact h.elim
 | [_],h=>exact h.2.elim
 | _::_::_::_,h=>exact h.2.2.elim
end
open Go.Shelf Go.Proofs Go.Lib
section
variable{P:Program}
def yF(gd:S8->Option (Unit×((Bool×Unit)×Unit)))(s:S8):Option (Unit×((Int×Unit)×(Bool×Unit)×Unit)):=
 Option.bind (gd s) fun y=>cond (y.2.1.1&&Nat.ble s.length 18) (match Lib.atoiAll s with | .ok v=>some ((),((v,()),(true,()),())) | _=>none) (some ((),((0,()),(false,()),())))
def KJ(P:Program)(f fd fa:Nat):Prop:=∀(s:ByteArray) (b:Bool) (v:Int) (w:World) (R R2:World->Prop),Calls P fd #[.string s] w (fun e w1=>e= .returned (.bool b)/\R w1) ->
 (b=true->s.size<=18->∀ w1,R w1->Calls P fa #[.string s] w1 fun e w2=>e= .returned (.tuple #[.int .i64 v,.nilIface])/\R2 w2) ->
 Calls P f #[.string s] w fun e w'=>(b=true/\s.size<=18/\e= .returned (.tuple #[.int .i64 v,.bool true])/\R2 w')∨(¬ (b=true/\s.size<=18)/\e= .returned (.tuple #[.int .i64 0,.bool false])/\R w')
theorem Zx{fr:Bool}{Z:Nat->Prop}{w:World}{v:Int}{b:Bool}(h:pT .i64 v):mT fr Z w (fun _ _=>False) [(false,[.int .i64]),(false,[.bool])] ((v,()),(b,()),()) [.int .i64 v,.bool b] 0:=
 ⟨⟨[.int .i64 v],rfl,⟨rfl,h⟩,trivial⟩,⟨[.bool b],rfl,rfl,trivial⟩,trivial⟩
theorem NZ{ρ:Ren}(L:LaysC.n172 P ρ){f fd fa:Nat}{gd:S8->Option (Unit×((Bool×Unit)×Unit))}(hd:lV P fd ⟨[.c false [.str]],[(false,[.bool])],true,.inl fun x=>gd x.1.1⟩)
 {fnd:Func} {cd:Code} (d1:P.funcs[fd]? = some fnd) (d2:(fnd.name == "runtime.NumGoroutine") = false) (d3:fnd.body = some cd) (Yi:fa = ρ.f 172) (W:KJ P f fd fa)
 {fn:Func} {c:Code} (h1:P.funcs[f]? = some fn) (iw:(fn.name == "runtime.NumGoroutine") = false) (hb:fn.body = some c):lV P f ⟨[.c false [.str]], [(false, [.int .i64]), (false, [.bool])], true, .inl fun x=>yF gd x.1.1⟩:=by
 subst Yi;refine Jx h1 iw hb rfl fun w Z F args x y yR hZ cF hy=>?_
 have hy:yF gd x.1.1=some y:=hy
 match hl:args.toList,cF with
 | [u],⟨hv,_⟩=>
   obtain⟨rfl,hlen⟩:=arg_str hv;obtain rfl:args = #[.string (fQ x.1.1)]:=by rw[<- anh (xs:=args),hl]
   obtain⟨⟨s,_⟩,_⟩:=x;change S8 at s;have hlen:s.length<=bQ:=hlen;obtain⟨yd,hyd,hy⟩:=anA.1 hy;have hC:=hd w Z (fun _ _=>False) #[.string (fQ s)] ((s,()),()) yd yR ⟨hv,trivial⟩ hZ (fun _ _ h=>h.elim) (fun _ _ _ h=>h.elim) hyd;rw[MuLone.run_callFunc_enter d1 d2 d3]at hC;have hC:Calls P fd #[.string (fQ s)] w (fun e w1=>e= .returned (.bool yd.2.1.1)/\Below w.heap.size w w1):=by
    refine Calls.mono (show Calls P fd #[.string (fQ s)] w _ from hC) fun e w1 h=>?_
    cases e with
    | returned v=>
      obtain⟨Z',H,vs,rfl,ha,_,hr⟩:=h
      match vs,hr with
      | [v1],⟨⟨cs,e,h⟩,_⟩=>have e:cs=[v1]:=e;subst e;have h:v1= .bool yd.2.1.1:=h.1;refine⟨by rw[h];rfl,ha.os,ha.tape,ha.output,ha.size,fun b hb=>ha.block b hb fun _ h=>h⟩
      | [],h=>exact h.elim
      | _::_::_,h=>exact h.2.elim
    | _=>exact h.elim
   have aef:(fQ s).size=s.length:=by simp[fQ,ByteArray.size]
   have aie:(fQ s).data.toList=s:=by simp[fQ]
   cases hc:yd.2.1.1&&Nat.ble s.length 18 with
   | false=>
     rw[hc]at hy;obtain rfl:=am5 hy;refine(W (fQ s) yd.2.1.1 0 w (Below w.heap.size w) (fun _=>False) hC (fun e1 e2=>?_)).mono fun e w' h=>?_
     . rw[aef]at e2;rw[e1,amq e2]at hc;simp at hc
     . rcases h with ⟨_,_,_,h⟩ | ⟨_,rfl,hb⟩
       . exact h.elim
       . exact⟨[_,_],fun _ _=>False,rfl,hb,fun _ _ h=>h.elim,fun _ _ _ h=>h.elim,Zx ⟨by decide,by decide⟩⟩
   | true=>
     rw[hc]at hy;simp only[ami]at hc;have wc:=amE hc.2;simp only[oT]at hy;split at hy
     . rename_i v hv;obtain rfl:=am5 hy;refine(W (fQ s) yd.2.1.1 v w (Below w.heap.size w) (Below w.heap.size w) hC (fun e1 e2 w1 hb=>?_)).mono fun e w' h=>?_
       . refine(Any.strconv_Atoi_ok L (fQ s) (by rw[aef];omega) v (by rw[aie];exact hv) w1).mono fun e w2 ⟨he,hw⟩=>⟨he,?_⟩
         rcases hw with rfl | ⟨t,rfl⟩
         . exact hb
         . have h2:=bytesWorld_below w1 (ρ.t 5) t;exact hb.trans ⟨h2.os,h2.tape,h2.output,h2.size,fun k hk=>h2.block k (amG hk hb.size)⟩
       . rcases h with ⟨_,_,rfl,hb⟩ | ⟨h,_⟩
         . exact⟨[_,_],fun _ _=>False,rfl,hb,fun _ _ h=>h.elim,fun _ _ _ h=>h.elim,Zx (by obtain⟨h1,h2⟩:=Lib.atoiAll_bounds hv;exact⟨h1,h2⟩)⟩
         . exact absurd ⟨hc.1,by rw[aef];exact wc⟩ h
     . simp at hy
 | [],h=>exact h.elim
 | _::_::_,h=>exact h.2.elim
end
theorem XT{P:Program}{W:World}{nm:String}{k:IntKind}{zs:List Int}{g:Nat}(hg:P.globalNamed nm=some g)(h:Lib.TabIs P W nm k zs):abl k zs W.heap[g]? /\ iR W g/\g<W.heap.size:=by
 simp only[Lib.TabIs,World.var?,hg,oB]at h;cases ho:W.heap[g]? with
 | none=>rw[ho]at h;simp at h
 | some o=>
   rw[ho]at h;have aV:g<W.heap.size:=by
    rcases amz g W.heap.size with h' | h'
    . exact h'
    . rw[amC h']at ho;simp at ho
   cases o with
   | cells cs e fr=>simp only[amh]at h;subst h;exact⟨⟨e,fr,rfl⟩,aV,aV⟩
   | _=>simp at h
theorem WD{P:Program}{w:World}{g:Nat}{t:TypeId}{zero:Array Value}(h:w.ShapedOpen P)(hg:g<P.globals.size)
 (h0:((begin P (fun _ _=>0) default).world.heap[g]?).bind Obj.row? = some (zero,t))(hz:zero.size=1)
 (hb:P.buildable t=true)(hc:P.cellTypes P.depth t=some [t])(hu:P.underlying t=some (.int .i64)):ae6 w.heap[g]? /\ iR w g/\g<w.heap.size:=by
 obtain⟨m,hm⟩:=Go.Proofs.cell_of_shapedOpen_int h hg h0 hz hb hc hu;have aV:=Gj hm;refine⟨?_,aV,aV⟩;simp only[World.cell?,anD,am1,anz]at hm;cases ho:w.heap[g]? with
 | none=>rw[ho]at hm;simp at hm
 | some o=>
   rw[ho]at hm;cases o with
   | cells cs e fr=>exact⟨m,cs,e,fr,rfl,hm⟩
   | _=>simp at hm
theorem TF{P:Program}{W:World}{nm:String}{g:Nat}{tp:TypeId}{X:Addr->Prop}(hg:P.globalNamed nm=some g)(h:∃ a,W.var? P nm=some #[.iface tp (.pointer (some a))]/\X a):ifP W.heap[g]? /\ iR W g/\g<W.heap.size:=by
 obtain⟨a,h,_⟩:=h;simp only[World.var?,hg,oB]at h;cases ho:W.heap[g]? with
 | none=>rw[ho]at h;simp at h
 | some o=>
   rw[ho]at h;have aV:g<W.heap.size:=by
    rcases amz g W.heap.size with h' | h'
    . exact h'
    . rw[amC h']at ho;simp at ho
   cases o with
   | cells cs e fr=>simp only[amh]at h;subst h;exact⟨⟨_,_,e,fr,rfl,rfl,.inr ⟨_,_,rfl⟩⟩,aV,aV⟩
   | _=>simp at h
def ZK(P:Program)(W:World):List (String×(Option Obj->Prop))->Prop
 | []=>True
 | (nm,p)::r=>(P.globalNamed nm=none∨∃ g,P.globalNamed nm=some g/\p W.heap[g]? /\ iR W g/\g<W.heap.size)/\ZK P W r
theorem Zi{P:Program}{W:World}:∀(l:List (String×(Option Obj->Prop))),ZK P W l->∀ t∈l,∀ g,P.globalNamed t.1=some g->t.2 W.heap[g]? /\ iR W g/\g<W.heap.size
 | [],_,t,h,_,_=>by simp at h
 | (nm,p)::r,⟨h1,h2⟩,t,h,g,hg=>by
   rcases ams.1 h with e | h
   . subst e;rcases h1 with h1 | ⟨g',h3,h4⟩
     . rw[h1]at hg;simp at hg
     . obtain rfl:=am5 (h3.symm.trans hg);exact h4
   . exact Zi r h2 t h g hg
theorem FG{H:Type}{enc:TypeId×Value->H}{a:Assume}{C:Checked}{os:Os}{f:FuncId}{fn:Func}{s:ChangeSpec}{conds:List PathCond}{apart fresh handsOn again:Bool}{X:World->Array Value->Prop}
 (hX:∀(w w':World) (args:Array Value),w.heap=w'.heap->X w args->X w' args)
 (own:ownKnob C.prog.godebug=none)(started:os.Started)(noInit:C.prog.inits.idxOf? f=none)(hfn:C.prog.funcs[f]? = some fn)
 (witness:∃(w:World) (tape:Tape) (i:Input),w.os=os/\(w.forCall tape i).Shaped C.prog/\i.vars=[]/\Input.okWide C.prog (w.forCall tape i) .any w.heap.size f i /\
   ((s.pre enc C.prog fn conds apart (w.forCall tape i).memory i.args/\X (w.forCall tape i).memory i.args)/\sizedMet enc C.prog fn (OpenSpec.ofChange s) apart (w.forCall tape i).memory i.args)/\a.holds C.prog (lone (Frame.enter C.prog f i.args .normal) [] (w.forCall tape i)))
 (contract:∀(W:World) (base:Nat) (args:Array Value) (ds gs:List (DataW H)) (before:List MemPlace),
   (∀(j:Nat) t v,fn.params[j]? = some t->args[j]? = some v->Value.okWide C.prog W .any base t v) ->
   DataW.Whole enc C.prog fn.params.toList s.vars apart W args.toList ds gs before ->
   (DataW.weightsEach C.prog (fn.params.toList++s.plain.varTypes C.prog) (ds++gs)).all (· <= reachBytes)=true->X W args ->
   W.ShapedOpen C.prog ->
   Calls C.prog f args W fun e W'=>∃ v,e= .returned v/\s.post enc C.prog fn apart fresh handsOn again W args v W') :
 ReturnsInHanded a C os f .any (fun w args=>(s.pre enc C.prog fn conds apart w args/\X w args)/\sizedMet enc C.prog fn (OpenSpec.ofChange s) apart w args) (s.post enc C.prog fn apart fresh handsOn again):=by
 refine returnsInHanded_of_calls own started noInit witness ?_;intro w tape i _ B1 _ Fk aec _;obtain⟨_,_,_,fn',al2,_,_,_,_,OO⟩:=Fk;obtain rfl:fn'=fn:=am5 (al2.symm.trans hfn);obtain⟨⟨⟨ds,gs,before,hw,_⟩,hx⟩,hz⟩:=aec;refine(contract (w.forCall tape i) w.heap.size i.args ds gs before OO (DataW.Whole.of_heap (w':=w.forCall tape i) (by rfl) hw) (hz.weights hw) (hX _ _ _ (by rfl) hx) B1).mono fun e W' ⟨v,he,hp⟩=>?_
 subst he;exact ChangeSpec.post_blind hp
end Go.Av
