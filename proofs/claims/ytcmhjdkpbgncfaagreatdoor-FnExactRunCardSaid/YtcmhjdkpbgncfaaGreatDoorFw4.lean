/- FnExactRun, a part. -/
import Derived.Test.YtcmhjdkpbgncfaaGreatDoorFw3
import Derived.Lib.Overlaps
import Derived.Lib.AppendZerosOnto
import Derived.IntWalk
import Derived.ChangeArms
import Derived.SizedLaws
import Derived.Carry
import Derived.HandedShaped
import Derived.ProofKit
import Derived.Shelf.Strconv.Itoa3
import Derived.Shelf.Strings.Repeat
import Derived.Lib.ItoaLen
import Derived.Lib.AppendIntMem
import Derived.Shelf.Strconv.AtoiAll
import Derived.LaidMore
import Derived.SevenTiedAt
import Derived.MakeChecks
import Derived.Stop.LaidErr
import Derived.Shelf.Vars
namespace Go.Av
open Go.RowKit (Below)
section
variable{P:Program}{E:En}{cx:Cx P}
theorem yZ(hT:cH P E){st:St}{a:Act}{w:World}(h:Good cx E st a w){id t0 t3 t4 ty Yl:Nat}{e e' HT:Nat}{fl:List (Nat×Nat)}{ks:List K}{xs:T (.sl e ks)}{o1 o2:Oper}
 (d1:o1.dst=some t3)(p1:o1.op= .move (.tmp t0))(g1:o1.guard=none)(d2:o2.dst=some t4)(p2:o2.op= .binOp .eql ty (.tmp t3) (.const (.slice none 0 0)) Yl)(g2:o2.guard=none)
 (b3:E.dB t3=true)(b4:E.dB t4=true)(iy:E.ti ty=some ⟨false,[.sl e ks],e',HT,fl⟩)(h0:st.tv t0=some (.v (.d (.sl e ks) xs))) :
 (Code.region id #[o1,o2] false).wp P (fun ex a' w'=>ex= .normal/\∃ b:Bool,(b=true->aW xs=[])/\Good cx E ((st.a8 t3 (.v (.d (.sl e ks) xs),none)).a8 t4 (.v (.d .bool b),none)) a' w') a w:=by
 obtain⟨hn,dh,Z,g,hr⟩:=h;refine wp_region ?_;show wpOps P #[o1,o2] _ [0,1] a w;rw[wpOps_cons];refine kh (i:=0) rfl g1 ?_;obtain⟨U8,Cj⟩:=qc hr hn dh d1 (dh.dst b3) (.inl p1) (tv:= .v (.d (.sl e ks) xs)) h0;refine Cj _ _ fun Z1 O4 a1 w1 hr1 Uv => ?_
 rw[wpOps_cons];refine kh (i:=1) rfl g2 ?_;have ht3:look (st.a8 t3 (.v (.d (.sl e ks) xs),none)).tm t3=some (.v (.d (.sl e ks) xs)):=by rw[cC,if_pos rfl]
 have hv:=(hr1.tm t3 _ ht3).2;obtain⟨a0,c0,e1,e2,e3,e4,_⟩:=(show RO Z1 w1 (.sl e ks) xs (a1.tmps.getD t3 undef)from hv);obtain⟨dd,hu,mV⟩:=(hT ty _ iy).desc;have Ya:∃ q,P.underlying ty=some (.slice q):=by cases dd <;> simp[jD]at mV;exact⟨_,hu⟩
 obtain⟨q,Ya⟩:=Ya;have au:(execOp a1.eval o2).run P w1= .ok (.value (.bool a0.isNone)) w1:=by
  have hev:a1.eval (.tmp t3)= .slice a0 (aW xs).length c0:=e1;have hg:(eqGuard .eql ty (.tmp t3) (.const (.slice none 0 0)) (.slice a0 (aW xs).length c0) (.slice none 0 0)).run P w1= .ok () w1:=by unfold eqGuard; simp
  have he:(Op.equal ty (.slice a0 (aW xs).length c0) (.slice none 0 0)).run P w1= .ok a0.isNone w1:=by show(Op.equalIn (9999+1) ty _ _).run P w1=_;unfold Op.equalIn;cases a0 <;> simp[amI Ya]
  obtain⟨v,e1',e2'⟩:∃ v,((do eqGuard .eql ty (.tmp t3) (.const (.slice none 0 0)) (a1.eval (.tmp t3)) (a1.eval (.const (.slice none 0 0))); binOp .eql ty (a1.eval (.tmp t3)) (a1.eval (.const (.slice none 0 0)))):Sem Value).run P w1= .ok v w1/\v= .bool a0.isNone:=by have alE:a1.eval (.const (.slice none 0 0))= .slice none 0 0:=rfl;rw[hev,alE];exact⟨.bool a0.isNone,by simp[hg,binOp,he],rfl⟩
  subst e2';simp only[execOp,p2,amF,e1',amq];rfl
 have hq:=cM (o:=o2) hr1 d2 (Uv.dst b4) au (tv:= .v (.d .bool a0.isNone)) (show RO Z1 w1 .bool _ _ from rfl);refine hq _ _ fun Z2 X8 v2 w2 Fo => ?_
 refine⟨rfl,a0.isNone,fun hb => ?_,fun t tv ht => ?_,Uv.put _ _,Z2,X8,Fo⟩
 . have:a0=none:=by cases a0 <;> simp_all
   have:=e4 this;exact amY.1 (by omega)
 . rw[cC]at ht;split at ht
   . simp only[amd]at ht; subst ht; exact fun h=>h
   . exact U8 t tv ht
theorem IX (hT : cH P E) (eF : dO P E) (hm : P.follows .mixedOrders = true) {f : Nat} {fn : Func} {c0 cc c3 : Code} {id : Nat} {o1 o2 : Oper} (hf : P.funcs[f]? = some fn) (iw : (fn.name == "runtime.NumGoroutine") = false) (hb : fn.body = some (.seq c0 (.seq (.seq (.region id #[o1, o2] false) cc) c3))) (Mg : E.nt = fn.ntmps)
 (Ij:dR P E c0) (hlc:dR P E cc) (hl3:dR P E c3) {t0 t3 t4 ty Yl e e' HT:Nat} {fl:List (Nat×Nat)} {ks:List K}
 (d1:o1.dst=some t3) (p1:o1.op= .move (.tmp t0)) (g1:o1.guard=none) (d2:o2.dst=some t4) (p2:o2.op= .binOp .eql ty (.tmp t3) (.const (.slice none 0 0)) Yl) (g2:o2.guard=none)
 (b3:E.dB t3=true) (b4:E.dB t4=true) (iy:E.ti ty=some ⟨false,[.sl e ks],e',HT,fl⟩)
 {s:Su} (ca:PT s.ps->St) (xs:PT s.ps->T (.sl e ks)) (h0:∀ x,(de E c0 (start s.ps x)).run=some (.qO (ca x))) (h1:∀ x,(ca x).tv t0=some (.v (.d (.sl e ks) (xs x))))
 (hs:∀ x y,s.vX x=some y->∀ b,(b=true->aW (xs x)=[])->∃ z,(nn s.ps=true->z=y.1)/\((de E (.seq cc c3) (((ca x).a8 t3 (.v (.d (.sl e ks) (xs x)),none)).a8 t4 (.v (.d .bool b),none))).bind (Gx E fn.results.toList s.ps s.rs s.fresh)).run=some (z,y.2)):lU P f s:=by
 have hW:=wu hT eF;refine CL hT hf iw hb Mg fun x y hy => ?_
 refine⟨y.1,fun _=>rfl,fun cx a w hg => ?_⟩;refine wp_seq (wp_mono (cr hT eF hW hm (xz E) c0 _ _ _ _ Ij hg (h0 x)) fun ex a1 w1 hq => ?_);cases ex <;> first | exact hq.elim | skip
 refine wp_seq (wp_seq (wp_mono (yZ hT hq d1 p1 g1 d2 p2 g2 b3 b4 iy (h1 x)) fun ex a2 w2 Ci => ?_));obtain⟨rfl,b,yP,O6⟩:=Ci;obtain⟨z,hz,au⟩:=hs x y hy b yP;rw[Tr.run_bind]at au;cases ho:(de E (.seq cc c3) (((ca x).a8 t3 (.v (.d (.sl e ks) (xs x)),none)).a8 t4 (.v (.d .bool b),none))).run with
 | none=>rw[ho]at au; simp at au
 | some ou =>
   rw[ho]at au;simp only[oB]at au;have Kj:(Gx E fn.results.toList s.ps s.rs s.fresh ou).run=some (y.1,y.2):=by
    cases hh:nn s.ps with
    | true=>rw[<- hz hh]; exact au
    | false=>rw[Ap _ hh y.1 z]; exact au
   simp only[de]at ho;rw[Tr.run_bind]at ho;cases hc:(de E cc (((ca x).a8 t3 (.v (.d (.sl e ks) (xs x)),none)).a8 t4 (.v (.d .bool b),none))).run with
   | none=>rw[hc]at ho; simp at ho
   | some oc =>
     rw[hc]at ho;simp only[oB]at ho;refine wp_mono (cr hT eF hW hm (xz E) cc _ _ _ _ hlc O6 hc) fun ex a3 w3 Uw => ?_
     cases oc with
     | qO ay =>
       cases ex <;> first | exact Uw.elim | skip
       exact wp_mono (cr hT eF hW hm (xz E) c3 _ _ _ _ hl3 Uw ho) fun ex a4 w4 hq4=>⟨ou,hq4,Kj⟩
     | ext E5 ay => simp only[Tr.run,amd]at ho;subst ho;cases ex <;> first | exact Uw.elim | exact⟨_,Uw,Kj⟩
     | ret ay => simp only[Tr.run,amd]at ho;subst ho;cases ex <;> first | exact Uw.elim | exact⟨_,Uw,Kj⟩
end
def W4(st:St)(t:Nat)(e:TypeId)(ks:List K):Option (List (Tl ks)):=match look st.tm t with
 | some (.bc r j s m e' bZ x)=>(match st.cell r j with
   | some c=>bif Nat.beq c.s s&&Nat.beq c.m m then gC (.sl e' bZ) (.sl e ks) x else none
   | none=>none)
 | some (.v .nil)=>some []
 | _=>none
def QT(o:Ou)(t:Nat)(e:TypeId)(ks:List K):Option (List (Tl ks)):=match o with
 | .ret st=>W4 st t e ks
 | .qO st=>W4 st t e ks
 | .ext _ _=>none
section
variable{P:Program}{E:En}
theorem aeZ (hT : cH P E) (eF : dO P E) (hm : P.follows .mixedOrders = true) {f : Nat} {fn : Func} {c0 cc c3 : Code} {id t : Nat} {o1 o2 : Oper} (hf : P.funcs[f]? = some fn) (iw : (fn.name == "runtime.NumGoroutine") = false) (hb : fn.body = some (.seq c0 (.seq (.seq (.region id #[o1, o2] false) cc) c3))) (Mg : E.nt = fn.ntmps) (Ul : fn.results = #[.tmp t])
 (Ij:dR P E c0)(hlc:dR P E cc)(hl3:dR P E c3){t0 t3 t4 ty Yl e' HT:Nat}{fl:List (Nat×Nat)}
 (d1:o1.dst=some t3)(p1:o1.op= .move (.tmp t0))(g1:o1.guard=none)(d2:o2.dst=some t4)(p2:o2.op= .binOp .eql ty (.tmp t3) (.const (.slice none 0 0)) Yl)(g2:o2.guard=none)
 (b3:E.dB t3=true)(b4:E.dB t4=true){s:Sc}(iy:E.ti ty=some ⟨false,[.sl s.e s.ks],e',HT,fl⟩)
 (ca:List (Tl s.ks)->St)(h0:∀ x,(de E c0 (start [.c false [.sl s.e s.ks]] ((x,()),()))).run=some (.qO (ca x)))(h1:∀ x,(ca x).tv t0=some (.v (.d (.sl s.e s.ks) x)))
 (hs:∀(x:List (Tl s.ks)) (b:Bool),((de E (.seq cc c3) (((ca x).a8 t3 (.v (.d (.sl s.e s.ks) x),none)).a8 t4 (.v (.d .bool b),none))).bind fun ou=>Tr.cu (QT ou t s.e s.ks) .ret).run=cond b (some []) (cond (bl s.HT ([]:List (Tl s.ks)) x) (some x) none)):Jp P f s:=by
 have hW:=wu hT eF;intro w Z v x yQ uq hZ jn;rw[MuLone.run_callFunc_enter hf iw hb];show Calls P f #[v] w _;have cF:ee Z w (fun _ _=>False) [.c false [.sl s.e s.ks]] ((x,()),()) #[v].toList 0:=⟨⟨[v],rfl,uq,trivial⟩,trivial⟩;refine calls_of_wp hf hb ?_;have dh:fn.ntmps<=((#[v]:Array Value)++Array.replicate (fn.ntmps-(#[v]:Array Value).size) undef).size:=by simp; omega
 have lE:∀ j u,(#[v]:Array Value).toList[j]? = some u->0+j<((#[v]:Array Value)++Array.replicate (fn.ntmps-(#[v]:Array Value).size) undef).size/\((#[v]:Array Value)++Array.replicate (fn.ntmps-(#[v]:Array Value).size) undef).getD (0+j) undef=u:=fun j u hj=>by
  rw[amh]at hj;have aV:j<(#[v]:Array Value).size:=by
   rcases amv j (#[v]:Array Value).size with h | h
   . exact h
   . simp[amy h]at hj
  rw[amp];refine⟨by simp at aV ⊢; omega,?_⟩;rw[amn,am9 aV,hj];rfl
 obtain⟨g,eQ,_⟩:=iE (cx:=⟨w,fun b=>∃ i,(fun(_ _:Nat)=>False) i b,Z,fun _=>none,yQ,fun _ _ _ ⟨_,h⟩=>h⟩) (F:=fun _ _=>False) (a:={ tmps := #[v]++Array.replicate (fn.ntmps-(#[v]:Array Value).size) undef,defers:=[] }) rfl (fun t v ht=>by cases ht) rfl hZ (fun _ _ h=>h.elim) (fun _ _ _ h=>h.elim) _ _ _ 0 0 cF lE;have Uk:Good ⟨w,fun b=>∃ i,(fun(_ _:Nat)=>False) i b,Z,fun _=>none,yQ,fun _ _ _ ⟨_,h⟩=>h⟩ E (start [.c false [.sl s.e s.ks]] ((x,()),())) { tmps := #[v]++Array.replicate (fn.ntmps-(#[v]:Array Value).size) undef,defers:=[] } w :=
  ⟨fun t tv ht=>fz _ _ 0 t tv (jb _ _ _ ht),⟨by rw[Mg]; exact dh,fun t v ht=>by cases ht⟩,Z,g,eQ⟩
 have fin:∀(st:St) (a:Act) (w':World),Good ⟨w,fun b=>∃ i,(fun(_ _:Nat)=>False) i b,Z,fun _=>none,yQ,fun _ _ _ ⟨_,h⟩=>h⟩ E st a w'->W4 st t s.e s.ks=some x ->
  a.defers=[]/\∃ v,(results fn a.tmps).run P w'= .ok v w'/\∃(Z':Nat->Prop) (H:Nat->Nat->Prop),Dk w w' (fun _ _=>False) Z Z' H/\Sh Z' (H 0) w' s.ks x v:=by
  intro st a w' ⟨h1,h2,Z',g',h3⟩ hr;have hv:(results fn a.tmps).run P w'= .ok (a.tmps.getD t undef) w':=by unfold results;simp only[Ul];simp
  have ahR:∀ H:Nat->Nat->Prop,(∀ n b,H n b->n=0/\∃ r j,g'.fp r j b)->Dk w w' (fun _ _=>False) Z Z' H:=fun H hH =>
   { os:=h3.os,tape:=h3.tape,output:=h3.output,size:=h3.size,block:=fun b hb _=>h3.block b hb (fun⟨_,h⟩=>h),z:=fun b hb=>h3.z0 b hb (hZ b hb),cq:=fun b hb=>h3.cq b hb
     fp:=fun n b hb=>by obtain⟨_,r,j,hh⟩:=hH n b hb;obtain⟨q1,q2,q3,_⟩:=h3.fp _ _ _ hh;exact⟨q1,q3,q2⟩
     cS:=fun n m b hn hm=>(hH n b hn).1.trans (hH m b hm).1.symm }
  refine⟨h3.defers,_,hv,Z',?_⟩;unfold W4 at hr;split at hr
  . rename_i r j s0 m e0 gn x0 ht;split at hr
    . rename_i c hc;cases hb:Nat.beq c.s s0&&Nat.beq c.m m with
      | false=>rw[hb]at hr; cases hr
      | true => rw[hb]at hr;have hr:gC (.sl e0 gn) (.sl s.e s.ks) x0=some x:=hr;simp only[ame]at hb;obtain⟨e1,hr⟩:=cQ hr;cases e1;subst hr;obtain⟨c',c1,_,_,c4⟩:=(h3.tm t _ ht).2;rw[hc]at c1;cases c1;exact⟨fun n b=>n=0/\g'.fp r j b,ahR _ fun n b hb=>⟨hb.1,r,j,hb.2⟩,Sh.mono (oR _) (fun b hb _=>⟨hb,rfl⟩) (fun b hb _=>⟨⟨rfl,hb⟩,rfl⟩) (c4 (beq_eq hb.1) (beq_eq hb.2))⟩
    . simp at hr
  . rename_i ht;cases hr;have e1:a.tmps.getD t undef= .slice none 0 0:=(h3.tm t _ ht).2;rw[e1];exact⟨fun _ _=>False,ahR _ fun _ _ h=>h.elim,none,0,rfl,oR _,amr _,fun _=>rfl,fun a' ha=>by cases ha⟩
  . simp at hr
 refine wp_seq (wp_mono (cr hT eF hW hm (xz E) c0 _ _ _ _ Ij Uk (h0 x)) fun ex a1 w1 hq => ?_);cases ex <;> first | exact hq.elim | skip
 refine wp_seq (wp_seq (wp_mono (yZ hT hq d1 p1 g1 d2 p2 g2 b3 b4 iy (h1 x)) fun ex a2 w2 Ci => ?_));obtain⟨rfl,b,yP,O6⟩:=Ci;have au:cond b (some []) (cond (bl s.HT ([]:List (Tl s.ks)) x) (some x) none)=some x:=by
  cases b with
  | true=>have hx:x=[]:=yP rfl; rw[hx]; rfl
  | false =>
    have:bl s.HT ([]:List (Tl s.ks)) x=true:=amm (by simpa using jn)
    rw[this]; rfl
 rw[<- hs x b,Tr.run_bind]at au;obtain⟨ou,ho,Ib⟩:∃ ou,(de E (.seq cc c3) (((ca x).a8 t3 (.v (.d (.sl s.e s.ks) x),none)).a8 t4 (.v (.d .bool b),none))).run=some ou/\QT ou t s.e s.ks=some x:=by obtain⟨ou,h1,h2⟩:=anv.1 au;obtain⟨y,h3,h4⟩:=Tr.ai h2;cases h4;exact⟨ou,h1,h3⟩
 simp only[de]at ho;rw[Tr.run_bind]at ho;cases hc:(de E cc (((ca x).a8 t3 (.v (.d (.sl s.e s.ks) x),none)).a8 t4 (.v (.d .bool b),none))).run with
 | none=>rw[hc]at ho; simp at ho
 | some oc =>
   rw[hc]at ho;simp only[oB]at ho;refine wp_mono (cr hT eF hW hm (xz E) cc _ _ _ _ hlc O6 hc) fun ex a3 w3 Uw => ?_
   cases oc with
   | qO ay =>
     cases ex <;> first | exact Uw.elim | skip
     refine wp_mono (cr hT eF hW hm (xz E) c3 _ _ _ _ hl3 Uw ho) fun ex a4 w4 hq4 => ?_
     cases ou with
     | ext id st=>simp[QT]at Ib
     | qO st=>cases ex <;> first | exact hq4.elim | exact fin st a4 w4 hq4 Ib
     | ret st=>cases ex <;> first | exact hq4.elim | exact fin st a4 w4 hq4 Ib
   | ext E5 ay => simp only[Tr.run,amd]at ho;subst ho;simp[QT]at Ib
   | ret ay => simp only[Tr.run,amd]at ho;subst ho;cases ex <;> first | exact Uw.elim | exact fin ay a3 w3 Uw Ib
end
def UZ{α:Type}(d:α)(xs:List α)(n:Nat):List α:=xs.take n++List.replicate (xs.length-n) d
theorem LN{α:Type}(d:α)(xs:List α)(n:Nat)(h:n<=xs.length):(UZ d xs n).length=xs.length:=by simp[UZ]; omega
theorem Vx{α:Type}(d:α)(xs:List α)(n:Nat)(h:n<=xs.length)(i:Nat)(x:α)(hx:(UZ d xs n)[i]? = some x):(i<n/\xs[i]? = some x)∨(n<=i/\i<xs.length/\x=d):=by
 unfold UZ at hx;rw[List.getElem?_append]at hx;simp only[am5,aoX h]at hx;split at hx
 . rename_i hi;rw[anl]at hx;rw[if_pos hi]at hx;exact .inl ⟨hi,hx⟩
 . rename_i hi;rw[aoO]at hx;split at hx
   . rename_i h2;simp only[amd]at hx;exact .inr ⟨by omega,by omega,hx.symm⟩
   . simp at hx
theorem jZ:∀(vs:List Value) (b o:Nat) (w:World) (i:Nat),(w.setCells b o vs).heap[i]? = if b=i then (w.heap[i]?).map (fun | .cells c el fr=> .cells (setFrom c o vs) el fr | x=>x)else w.heap[i]?
 | [],b,o,w,i=>by
   show w.heap[i]? = _;split
   . cases h:w.heap[i]? with
     | none=>rfl
     | some x=>cases x <;> rfl
   . rfl
 | v::r,b,o,w,i=>by
   show((w.setCell ⟨b,o,none⟩ v).setCells b (o+1) r).heap[i]? = _;rw[jZ r b (o+1) _ i];simp only[eb];by_cases e:b=i
   . rw[if_pos e,if_pos e,if_pos e];cases h:w.heap[i]? with
     | none=>rfl
     | some x=>cases x <;> rfl
   . rw[if_neg e,if_neg e,if_neg e]
theorem xG:∀(vs:List Value) (b o:Nat) (w:World),(w.setCells b o vs).os=w.os/\(w.setCells b o vs).tape=w.tape/\(w.setCells b o vs).output=w.output/\(w.setCells b o vs).heap.size=w.heap.size
 | [],_,_,_=>⟨rfl,rfl,rfl,rfl⟩
 | v::r,b,o,w=>by obtain⟨h1,h2,h3,h4⟩:=xG r b (o+1) (w.setCell ⟨b,o,none⟩ v);exact⟨h1,h2,h3,h4.trans (by simp[World.setCell])⟩
theorem uM{z:Array Value}{ks:List K}(hz:z.toList=ks.map zV)(n:Nat)(j:Nat)(hj:j<n * ks.length):(Builtin.zeroCells z n).toList[j]? = (ks.map zV)[j % ks.length]? := by
 have hl:z.size=ks.length:=by rw[<- amP,hz]; simp
 have Kd:0<ks.length:=by
  rcases an7 ks.length with h | h
  . rw[h]at hj; simp at hj
  . exact h
 unfold Builtin.zeroCells;rw[amh];simp only[Array.getElem?_map,hl];have:(Array.range (n * ks.length))[j]? = some j:=by simp[hj]
 rw[this];have hm:j % ks.length<ks.length:=Nat.mod_lt _ Kd;simp only[amE];rw[<- hz,amh];rw[Array.getElem!_eq_getD];simp[amn,hl,hm]
section
variable{P:Program}{E:En}{cx:Cx P}{w w':World}
theorem Nr{e:TypeId}{ks:List K}{xs:T (.sl e ks)}{b o l cap:Nat}{F:Nat->Prop}(h:dI w (.sl e ks) xs (.slice (some ⟨b,o,none⟩) l cap) F){n:Nat}(hn:n<=(aW xs).length){zs:List Value}(hz:∀ j,j<((aW xs).length-n) * ks.length->zs[j]? = (ks.map zV)[j % ks.length]?)(hzl:zs.length=((aW xs).length-n) * ks.length)(hF:∀ q,F q->q<w.heap.size) :
 F b/\(∃ cs el fr,w.heap[b]? = some (.cells cs el fr)/\(∀ q,q<cs.size->¬ (fr.1<=q/\q<fr.2))/\o+n * ks.length+zs.length<=cs.size)/\dI (w.setCells b (o+n * ks.length) zs) (.sl e ks) (UZ (jE ks) (aW xs) n) (.slice (some ⟨b,o,none⟩) l cap) F:=by
 obtain⟨a',c0,h1,h2,h3,h4,h5⟩:=h;simp only[anf]at h1;obtain⟨rfl,rfl,rfl⟩:=h1;obtain⟨b',o',cs,el,fr,g1,g2,g3,g4,g5,G,g6,g7,g8⟩:=h5 _ rfl;simp only[anF,anM]at g1;obtain⟨rfl,rfl⟩:=g1;have hlen:(aW (e:=e) (ks:=ks) (UZ (jE ks) (aW xs) n)).length=(aW xs).length:=LN _ _ _ hn;have jn:o+n * ks.length+zs.length<=cs.size:=by rw[hzl,Nat.sub_mul];have O5:(aW xs).length * ks.length<=cap * ks.length:=amH _ h2;have h3':n * ks.length<=(aW xs).length * ks.length:=amH _ hn;omega
 refine⟨g2,⟨cs,el,fr,g3,fun q hq=>g4 q (Nat.lt_add_right _ hq),jn⟩,_,cap,by rw[hlen],by rw[hlen]; exact h2,by rw[hlen]; exact h3,h4,fun a'' H6 => ?_⟩;simp only[amd]at H6;subst H6;refine⟨b,o,setFrom cs (o+n * ks.length) zs,el,fr,rfl,g2,?_,?_,?_,fun i j q=>i<n/\G i j q,fun i j q hq=>g6 i j q hq.2,fun i j i' j' q hq v7=>g7 i j i' j' q hq.2 v7.2,fun i x hx => ?_⟩
 . rw[jZ,if_pos rfl,g3]; rfl
 . intro q hq; rw[cX]at hq; exact g4 q hq
 . rw[cX]; exact g5
 . rcases Vx _ _ _ hn i x hx with ⟨hi,lQ⟩ | ⟨hi,Dm,rfl⟩
   ·
    have vP:=g8 i x lQ;have aV:o+i * ks.length+ks.length<=o+n * ks.length:=by have:(i+1) * ks.length<=n * ks.length:=amH _ hi;rw[amR]at this;omega
    have key:∀(bZ:List K) (y:Tl bZ) (j p:Nat),p+bZ.length<=o+n * ks.length->gw w bZ y j (G i) cs p->gw (w.setCells b (o+n * ks.length) zs) bZ y j (fun j q=>i<n/\G i j q) (setFrom cs (o+n * ks.length) zs) p:=by
     intro bZ;induction bZ with
     | nil=>intro y j p _ _; trivial
     | cons k bZ ih =>
       intro y j p hp ⟨⟨v,q1,q2⟩,q3⟩;simp only[ams]at hp;refine⟨⟨v,?_,dI.frame k _ v (G i j) _ (fun q hq=>⟨hi,hq⟩) (fun q hq al6 => ?_) q2⟩,ih y.2 (j+1) (p+1) (by omega) q3⟩
       . rw[dv _ _ _ _ jn,if_neg (by omega)]; exact q1
       . rw[jZ,if_neg (fun e=>(g6 i j q hq).2 e.symm)]
    exact key ks x 0 _ (by omega) vP
   . refine rD ks 0 _ _ fun c v hc => ?_
     have xw:c<ks.length:=by
      rcases amv c ks.length with hh | hh
      . exact hh
      . rw[amw (by simpa using hh)]at hc; simp at hc
     have vS:(i-n) * ks.length+c<((aW xs).length-n) * ks.length:=by have:(i-n+1) * ks.length<=((aW xs).length-n) * ks.length:=amH _ (by omega);rw[amR]at this;omega
     have alF:o+i * ks.length+c=o+n * ks.length+((i-n) * ks.length+c):=by
      have:i * ks.length=n * ks.length+(i-n) * ks.length:=by rw[<- amR]; congr 1; omega
      omega
     rw[dv _ _ _ _ jn,if_pos (by rw[hzl]; omega),alF,am2,hz _ vS,aoJ,Nat.mul_add_mod,aoA xw];exact hc
end
def nJ{α:Type}(d:α)(xs:List α)(n:Int):List α:=UZ d xs n.toNat
def wm(ta tb tc t0 tI:Nat)(tks:List K)(st:St):Tr St:=match st.tv t0,st.tv tI with
 | some (.v (.ref r j s)),some (.v (.d (.int k) n))=>(match st.cell r j with
   | some ⟨s',m,.own (.sl e ks) xs⟩=>bif Nat.beq s' s&&K.mL ks tks then .need (jN n (aW xs).length (aW xs).length)
      (.ret ((((st.a8 ta (.v (.ref r j s),none)).a8 tb (.v (.d (.int k) n),none)).a8 tc (.v .dead,none)).setCell r j ⟨s',m+1,.own (.sl e ks) (nJ (jE ks) (aW xs) n)⟩))else .fail
   | _=> .fail)
 | _,_=> .fail
section
variable{P:Program}{E:En}{cx:Cx P}
theorem CS(hT:cH P E){rid ta tb tc t0 tI ty:Nat}{te:TI}{o1 o2 o3 o4:Oper}{c:Call}(hty:E.sl ty=some te)
 (d1:o1.dst=some ta)(p1:o1.op= .move (.tmp t0))(g1:o1.guard=none)(d2:o2.dst=some tb)(p2:o2.op= .move (.tmp tI))(g2:o2.guard=none)
 (d3:o3.dst=some tc)(p3:o3.op= .slice ty (.tmp ta) (some (.tmp tb)) none none)(g3:o3.guard=none)
 (d4:o4.dst=none)(p4:o4.op= .call c)(g4:o4.guard=none)(fe:c.callee= .builtin .clear)(cF:c.args.toList=[.tmp tc])(yM:c.argTypes.toList=[ty])
 (b1:E.dB ta=true)(b2:E.dB tb=true)(b3:E.dB tc=true)(n1:Nat.beq ta tI=false)(n2:Nat.beq ta tb=false) :
 dA P E (.region rid #[o1,o2,o3,o4] false) (wm ta tb tc t0 tI te.ks):=by
 intro cx a w st ay h au;unfold wm at au;split at au
 . rename_i r j s k n alG Ux;split at au
   . rename_i s' m e ks xs bD;cases hb:Nat.beq s' s&&K.mL ks te.ks with
     | false=>rw[hb]at au; simp[Tr.run]at au
     | true =>
       rw[hb]at au;simp only[oT]at au;simp only[ame]at hb;obtain⟨hk,au⟩:=Tr.bR au;simp only[Tr.run,amd]at au;subst au;have es:=beq_eq hb.1;subst es;have ad0:=K.kV _ _ hb.2;subst ad0;obtain⟨hn,dh,Z,g,hr⟩:=h;obtain⟨k0,k1,k2⟩:=jI hk;refine wp_region ?_;show wpOps P #[o1,o2,o3,o4] _ [0,1,2,3] a w;rw[wpOps_cons];refine kh (i:=0) rfl g1 ?_;obtain⟨U8,Cj⟩:=qc hr hn dh d1 (dh.dst b1) (.inl p1) (tv:= .v (.ref r j s')) alG;refine Cj _ _ fun Z1 gg1 a1 w1 hr1 Uv => ?_
       rw[wpOps_cons];refine kh (i:=1) rfl g2 ?_;have htI:(st.a8 ta (.v (.ref r j s'),none)).get (.tmp tI)=some (.v (.d (.int k) n)):=by
        show(st.a8 ta (.v (.ref r j s'),none)).tv tI=_;unfold St.tv at Ux ⊢;rw[cC,if_neg (anp n1)];split at Ux
        . rename_i q want y gg l hq;cases Ci:look st.tm q with
          | none=>rw[Ci]at Ux; simp at Ux
          | some tq=>exact absurd trivial (hn tI _ hq)
        . exact Ux
       obtain⟨hn2,hw2⟩:=qc hr1 U8 Uv d2 (Uv.dst b2) (.inl p2) htI;refine hw2 _ _ fun Z2 Ym a2 w2 Fo Uy => ?_
       rw[wpOps_cons];refine kh (i:=2) rfl g3 ?_;have OV:((st.a8 ta (.v (.ref r j s'),none)).a8 tb (.v (.d (.int k) n),none)).cell r j=some ⟨s',m,.own (.sl e te.ks) xs⟩:=bD;have hta:look ((st.a8 ta (.v (.ref r j s'),none)).a8 tb (.v (.d (.int k) n),none)).tm ta=some (.v (.ref r j s')):=by rw[cC,if_neg (fun e=>(anp n2) e.symm),cC,if_pos rfl]
       have htb:look ((st.a8 ta (.v (.ref r j s'),none)).a8 tb (.v (.d (.int k) n),none)).tm tb=some (.v (.d (.int k) n)):=by rw[cC,if_pos rfl]
       have va:a2.eval (.tmp ta)=Ym.cv r j:=by obtain⟨c1,q1,_,q3⟩:=(Fo.tm ta _ hta).2;rw[OV]at q1;cases q1;exact q3 rfl
       have kl:dI w2 (.sl e te.ks) xs (Ym.cv r j) (Ym.fp r j):=Fo.cell r j _ OV;have ahS:=kl;obtain⟨aa,cap,v1,v2,v3,v4,v5⟩:=ahS;obtain⟨tt,kss,t1,t2,t3,t4,hu⟩:=kb hT hty;have hs:=fun w=>dt (hT _ te t4) (P:=P) w
       have hlh:oY ((st.a8 ta (.v (.ref r j s'),none)).a8 tb (.v (.d (.int k) n),none)) (some (.tmp tb)) none (aW xs).length=some (n,((aW xs).length:Int)):=by
        have:((st.a8 ta (.v (.ref r j s'),none)).a8 tb (.v (.d (.int k) n),none)).get (.tmp tb)=some (.v (.d (.int k) n)):=by show St.tv _ tb=_;unfold St.tv;rw[htb]
        simp only[oY,this,TV.int?,AV.int?];rfl
       have ad1:(execOp a2.eval o3).run P w2= .ok (.value (.slice (if cap=n.toNat then aa else aa.map (·.add (n.toNat * te.ks.length))) ((aW xs).length-n.toNat) (cap-n.toNat))) w2:=by have:=Cp hu hs (aa:=aa) (tJ (P:=P) Fo hn2.cons.cons true hlh hk v2);simp only[aok]at this;simp only[execOp,p3,va,v1,aok,amF,this,amq];rfl
       unfold Oper.wp;rw[ad1,anh,d3];generalize ahT:(Value.slice (if cap=n.toNat then aa else aa.map (·.add (n.toNat * te.ks.length))) ((aW xs).length-n.toNat) (cap-n.toNat))=v38;have hr3:=Fo.ot (d:=tc) (tv:= .v .dead) (v:=v38) (Uy.dst b3) trivial;have alH:Fit cx E (a2.put (some tc) v38):=Uy.put _ _;rw[wpOps_cons];refine kh (i:=3) rfl g4 ?_;have htc:(a2.put (some tc) v38).eval (.tmp tc)=v38:=by have:=(Uy.dst b3).1;simp[Act.put,Act.eval,amn,this]
       have hgF:∀ q,Ym.fp r j q->q<w2.heap.size:=fun q hq=>(Fo.fp r j q hq).1
       have ad2:∃ w4,(execOp (a2.put (some tc) v38).eval o4).run P w2= .ok (.value (.tuple #[])) w4/\w4.os=w2.os/\w4.tape=w2.tape/\w4.output=w2.output/\w4.heap.size=w2.heap.size/\(∀ b,¬ Ym.fp r j b->w4.heap[b]? = w2.heap[b]?)/\dI w4 (.sl e te.ks) (nJ (jE te.ks) (aW xs) n) (Ym.cv r j) (Ym.fp r j):=by
        have iv:c.args = #[.tmp tc]:=by rw[<- anc (xs:=c.args),cF]
        have Ke:c.argTypes[0]? = some ty:=by rw[<- amh,yM]; rfl
        have fin:∀ w4,(Builtin.clear_ c.argTypes o4.type #[v38]).run P w2= .ok (.tuple #[]) w4->(execOp (a2.put (some tc) v38).eval o4).run P w2= .ok (.value (.tuple #[])) w4:=fun w4 hh=>by simp only[execOp,p4,resolve,fe,iv,anV,amO,aog,amF,amN,amq,invoke,builtin,htc,hh]
        rcases an7 ((aW xs).length-n.toNat)with hz | Kd
        . refine⟨w2,fin w2 ?_,rfl,rfl,rfl,rfl,fun _ _=>rfl,?_⟩
          . rw[<- ahT,hz];simp only[Builtin.clear_,Ke,amQ,amj,amF,amI hu,amq];cases hq:(if cap=n.toNat then aa else aa.map (·.add (n.toNat * te.ks.length))) <;> simp
          . have he:nJ (jE te.ks) (aW xs) n=aW xs:=by
             unfold nJ UZ;rw[hz,anQ (by omega)];simp
            rw[he];exact kl
        . have haa:∃ b o,aa=some ⟨b,o,none⟩:=by
           cases aa with
           | none=>have:=v4 rfl; omega
           | some a' => obtain⟨b,o,_,_,_,e1,_⟩:=v5 a' rfl;exact⟨b,o,by rw[e1]⟩
          obtain⟨b,o,rfl⟩:=haa;obtain⟨z,yN,Mf⟩:=vF (hT _ te t4) (P:=P) w2;have aaU:=kl;rw[v1]at aaU;have hzl:(Builtin.zeroCells z.cells ((aW xs).length-n.toNat)).toList.length=((aW xs).length-n.toNat) * te.ks.length:=by rw[amP,size_zeroCells,<- amP (xs:=z.cells),Mf]; simp
          obtain⟨c1,⟨cs,el,fr,c2,c3,c4⟩,c5⟩:=Nr aaU (n:=n.toNat) (by omega) (zs:=(Builtin.zeroCells z.cells ((aW xs).length-n.toNat)).toList) (fun j hj=>uM Mf _ j hj) hzl hgF;have OL:∀ v∈(Builtin.zeroCells z.cells ((aW xs).length-n.toNat)).toList,v.oneCell'=true:=fun v hv=>by
           obtain⟨i,hi,hv⟩:=List.getElem_of_mem hv;rw[hzl]at hi;have h1:=uM Mf _ i hi;rw[ami (by rw[hzl]; exact hi),hv,amT]at h1;cases hk0:te.ks[i % te.ks.length]? with
           | none=>rw[hk0]at h1; simp at h1
           | some k0 => rw[hk0]at h1;simp only[amE,amd]at h1;rw[h1];cases k0 <;> rfl
          have BO:=run_storeCells_cells (P:=P) b (o+n.toNat * te.ks.length) (Builtin.zeroCells z.cells ((aW xs).length-n.toNat)).toList 0 w2 (fun j hj=>by
           simp only[World.cell?,amJ,c2];simp;omega) (fun j hj=>by
           simp only[World.frozen?,amJ,c2];simp only[aoy,aof];have:=c3 (o+n.toNat * te.ks.length+j) (by omega);by_cases h:fr.1<=o+n.toNat * te.ks.length+j
           . exact .inr fun h'=>this ⟨h,h'⟩
           . exact .inl h) OL
          rw[amJ]at BO;obtain⟨w1',w2',w3',w4'⟩:=xG (Builtin.zeroCells z.cells ((aW xs).length-n.toNat)).toList b (o+n.toNat * te.ks.length) w2;refine⟨_,fin _ ?_,w1',w2',w3',w4',fun b' cz => ?_,by rw[v1]; exact c5⟩
          . rw[<- ahT];have cY:cap≠n.toNat:=by omega
            obtain⟨q,hq⟩:∃ q,(aW xs).length-n.toNat=q+1:=⟨(aW xs).length-n.toNat-1,by omega⟩;simp only[if_neg cY,amE,gN,Builtin.clear_,Ke,amQ,amj,amF,amI hu,amq,hq];rw[hq]at BO;simp only[yN,amF,amq,BO,amN]
          . rw[jZ,if_neg];intro e;subst e;exact cz c1
       obtain⟨w4,q1,q2,q3,q4,q5,q6,q7⟩:=ad2;unfold Oper.wp;rw[q1,anh,d4];have Uu:=jk (g:=Ym) (F:=fun _ _=>False) (G:=fun _ _=>False) (st:=((st.a8 ta (.v (.ref r j s'),none)).a8 tb (.v (.d (.int k) n),none)).a8 tc (.v .dead,none)) [(r,j,(⟨s',m+1,.own (.sl e te.ks) (nJ (jE te.ks) (aW xs) n)⟩:RC))] 0;have xw:(nJ (jE te.ks) (aW xs) n).length=(aW xs).length:=LN _ _ _ (by omega)
       obtain⟨hR,_⟩:=hr3.uZ Uu q2 q3 q4 (aoh q5.symm)
        (fun r1 j1 p hp=>by
          obtain⟨i,e1,e2⟩:=fC _ 0 r1 j1 p hp;cases i with
          | succ i=>simp at e1
          | zero => simp only[amj,amd,amK]at e1;obtain⟨rfl,rfl,e3⟩:=e1;rw[<- e3];refine⟨_,OV,rfl,ane _,e,te.ks,xs,_,rfl,rfl,xw,?_⟩;rw[e2];exact dI.frame _ _ _ _ _ (fun b hb=> .inl ⟨hb,fun h=>h⟩) (fun _ _ _=>rfl) q7)
        (fun r1 j1 p hp b hb=>by
          obtain⟨i,e1,e2⟩:=fC _ 0 r1 j1 p hp;rw[e2]at hb;rcases hb with ⟨hb,_⟩ | hb
          . exact⟨by rw[q5]; exact(Fo.fp _ _ _ hb).1,.inl ⟨r1,j1,p,hp,hb⟩,(Fo.fp _ _ _ hb).2.2.1⟩
          . exact hb.elim)
        (fun r1 j1 p r2 j2 p' b hp hp' hb cz=>by
          obtain⟨i,e1,e2⟩:=fC _ 0 r1 j1 p hp;obtain⟨i',e1',e2'⟩:=fC _ 0 r2 j2 p' hp';rw[e2]at hb;rw[e2']at cz;rcases hb with ⟨hb,_⟩ | hb
          . rcases cz with ⟨cz,_⟩ | cz
            . exact Fo.cS _ _ _ _ b hb cz
            . exact cz.elim
          . exact hb.elim)
        (fun b hb BK=>q6 b fun hh=>by obtain⟨p0,BV⟩:=wB (g:=Ym) (F:=fun _ _=>False) (G:=fun _ _=>False) [(r,j,(⟨s',m+1,.own (.sl e te.ks) (nJ (jE te.ks) (aW xs) n)⟩:RC))] 0 0 r j _ rfl;exact BK r j p0 BV hh)
       refine⟨fun t tv ht => ?_,alH,Z2,_,hR⟩;have ht:look (((st.a8 ta (.v (.ref r j s'),none)).a8 tb (.v (.d (.int k) n),none)).a8 tc (.v .dead,none)).tm t=some tv:=by rw[fK]at ht; exact ht
       rw[cC]at ht;split at ht
       . simp only[amd]at ht; subst ht; exact fun h=>h
       . exact hn2 t tv ht
   . simp[Tr.run]at au
 . simp[Tr.run]at au
end
section
variable{P:Program}{w w':World}
theorem qX{dT sT ty elem:TypeId}{te:TI}(hu:P.underlying dT=some (.slice elem))(rY:rI P elem te){b o dLen dCap b2 o2 sLen sCap n:Nat}{cs:List Value}(hm:Nat.min sLen dLen=n)(hn:cs.length=n * te.ks.length)
 (ahU:∀ j v,cs[j]? = some v->w.cell? ⟨b2,o2+j,none⟩=some v)(hc:∀ j,j<cs.length->(w.cell? ⟨b,o+j,none⟩).isSome=true)(hf:∀ j,j<cs.length->w.frozen? ⟨b,o+j,none⟩=false)(h1:∀ v∈cs,v.oneCell'=true) :
 (Builtin.copy_ #[dT,sT] ty #[.slice (some ⟨b,o,none⟩) dLen dCap,.slice (some ⟨b2,o2,none⟩) sLen sCap]).run P w= .ok (goInt n) (w.setCells b o cs):=by
 have hl:=run_loadCells_list (P:=P) w ⟨b2,o2,none⟩ cs (fun j v hj=>by rw[gN]; exact ahU j v hj);have mR:=run_storeCells_cells (P:=P) b o cs 0 w (by simpa using hc) (by simpa using hf) h1;rw[amJ]at mR;have hfc:(Builtin.firstCells te.ks.length n (.slice (some ⟨b2,o2,none⟩) sLen sCap)).run P w= .ok cs.toArray w:=run_firstCells_some (P:=P) w _ _ ⟨b2,o2,none⟩ _ _ _ hn fun j v hj=>by rw[gN]; exact ahU j v hj
 simp only[Builtin.copy_,amQ,amj,am3,amF,amI hu,amq,Builtin.lenOf,amN,hm,dt rY,hfc,mR]
theorem yG{e:TypeId}{ks:List K}{xs ys:List (Tl ks)}{i:Nat}(hi:i<=xs.length){G H:Nat->Nat->Nat->Prop}{F FH F':Nat->Prop}{b0 b1 o o1 b o' cap:Nat}{cs cs1 fT:Array Value}{el:TypeId}{fr:Nat×Nat}
 (Mn:∀ i j b,G i j b->F b/\b≠b0)(hG2:∀ i j i' j' b,G i j b->G i' j' b->i=i'/\j=j')(hx:∀ i x,xs[i]? = some x->gw w ks x 0 (G i) cs (o+i * ks.length))
 (hH1:∀ i j b,H i j b->FH b/\b≠b1)(hH2:∀ i j i' j' b,H i j b->H i' j' b->i=i'/\j=j')(hy:∀ i y,ys[i]? = some y->gw w ks y 0 (H i) cs1 (o1+i * ks.length))(hFF:∀ q,FH q->¬ F q)
 (hb:w'.heap[b]? = some (.cells fT el fr))(yO:∀ q,q<fT.size+mk1 ks->¬ (fr.1<=q/\q<fr.2))(hF'b:F' b)(Io:∀ q,F q->F' q)(adV:∀ q,FH q->F' q)(hGb:∀ i j q,G i j q->q≠b)(Yi:∀ i j q,H i j q->q≠b)
 (qQ:∀ q,q<w.heap.size->q≠b->(F q->q≠b0)->w'.heap[q]? = w.heap[q]?)
 (hA:∀ q,q<i * ks.length->fT[o'+q]? = cs[o+q]?)(hB:∀ q,q<ys.length * ks.length->fT[o'+i * ks.length+q]? = cs1[o1+q]?)(hC:∀ q,q<(xs.length-i) * ks.length->fT[o'+(i+ys.length) * ks.length+q]? = cs[o+i * ks.length+q]?)
 (vO:xs.length+ys.length<=cap)(dh:o'+cap * ks.length<=fT.size)(bp:xs.length+ys.length<=bQ) :
 dI w' (.sl e ks) (xs.take i++ys++xs.drop i) (.slice (some ⟨b,o',none⟩) (xs.length+ys.length) cap) F':=by
 have hlen:(aW (e:=e) (ks:=ks) (xs.take i++ys++xs.drop i)).length=xs.length+ys.length:=by show(xs.take i++ys++xs.drop i).length=_;simp; omega
 refine⟨_,cap,by rw[hlen],by rw[hlen]; exact vO,by rw[hlen]; exact bp,by simp,fun a' rV => ?_⟩;simp only[amd]at rV;subst rV;refine⟨b,o',fT,el,fr,rfl,hF'b,hb,yO,dh,fun j=>if j<i then G j else if j<i+ys.length then H (j-i)else G (j-ys.length),fun j c q hq => ?_,fun j c j' c' q h1 h2 => ?_,fun j x hj => ?_⟩
 . dsimp only at hq;split at hq
   . exact⟨Io q (Mn _ _ _ hq).1,hGb _ _ q hq⟩
   . split at hq
     . exact⟨adV q (hH1 _ _ _ hq).1,Yi _ _ q hq⟩
     . exact⟨Io q (Mn _ _ _ hq).1,hGb _ _ q hq⟩
 . have hGH:∀ a c a' c',G a c q->H a' c' q->False:=fun a c a' c' h1 h2=>hFF q (hH1 _ _ _ h2).1 (Mn _ _ _ h1).1
   dsimp only at h1 h2;split at h1 <;> split at h2
   . exact hG2 _ _ _ _ _ h1 h2
   . split at h2
     . exact(hGH _ _ _ _ h1 h2).elim
     . obtain⟨e1,e2⟩:=hG2 _ _ _ _ _ h1 h2;exact⟨by omega,e2⟩
   . split at h1
     . exact(hGH _ _ _ _ h2 h1).elim
     . obtain⟨e1,e2⟩:=hG2 _ _ _ _ _ h1 h2;exact⟨by omega,e2⟩
   . split at h1 <;> split at h2
     . obtain⟨e1,e2⟩:=hH2 _ _ _ _ _ h1 h2;exact⟨by omega,e2⟩
     . exact(hGH _ _ _ _ h2 h1).elim
     . exact(hGH _ _ _ _ h1 h2).elim
     . obtain⟨e1,e2⟩:=hG2 _ _ _ _ _ h1 h2;exact⟨by omega,e2⟩
 . have BL:(xs.take i++ys++xs.drop i)[j]? = some x:=hj;have Uz:∀ a c q,G a c q->q<w.heap.size->w'.heap[q]? = w.heap[q]? := fun a c q hq aV=>qQ q aV (hGb _ _ q hq) (fun _=>(Mn _ _ _ hq).2)
   have ad3:∀ a c q,H a c q->q<w.heap.size->w'.heap[q]? = w.heap[q]? := fun a c q hq aV=>qQ q aV (Yi _ _ q hq) (fun hf=>(hFF q (hH1 _ _ _ hq).1 hf).elim)
   have iy:(xs.take i).length=i:=by simp; omega
   by_cases c1:j<i
   . rw[amD,amW (by omega),anl]at BL;simp only[c1,if_true]at BL;refine kz ks x 0 (G j) _ cs fT _ _ (fun q hq => ?_) (fun c q hq=>by simpa[c1]using hq) (fun c q hq aV=>Uz _ c q hq aV) (hx j x BL);have:=hA (j * ks.length+q) (nz c1 hq);rw[ani,ani];exact this
   . by_cases c2:j<i+ys.length
     . rw[amD,amU (by omega),iy,amW (by omega)]at BL;refine kz ks x 0 (H (j-i)) _ cs1 fT _ _ (fun q hq => ?_) (fun c q hq=>by simpa[c1,c2]using hq) (fun c q hq aV=>ad3 _ c q hq aV) (hy _ x BL);have:=hB ((j-i) * ks.length+q) (nz (by omega) hq);rw[ani o1,<- this];have e1:j * ks.length=i * ks.length+(j-i) * ks.length:=by rw[<- amR]; congr 1; omega
       congr 1;omega
     . rw[amD,amU (by omega),iy,amU (by omega),anm]at BL;rw[show i+(j-i-ys.length)=j-ys.length by omega]at BL;have nP:j-ys.length<xs.length:=by
        rcases amv (j-ys.length) xs.length with hh | hh
        . exact hh
        . simp[amw hh]at BL
       refine kz ks x 0 (G (j-ys.length)) _ cs fT _ _ (fun q hq => ?_) (fun c q hq=>by simpa[c1,c2]using hq) (fun c q hq aV=>Uz _ c q hq aV) (hx _ x BL);have:=hC ((j-ys.length-i) * ks.length+q) (nz (by omega) hq);have e1:j * ks.length=(i+ys.length) * ks.length+(j-ys.length-i) * ks.length:=by rw[<- amR]; congr 1; omega
       have e2:(j-ys.length) * ks.length=i * ks.length+(j-ys.length-i) * ks.length:=by rw[<- amR]; congr 1; omega
       rw[show o'+j * ks.length+q=o'+(i+ys.length) * ks.length+((j-ys.length-i) * ks.length+q)by omega,this];congr 1;omega
theorem Di{e:TypeId}{ks:List K}{z:List (Tl ks)}{aa:Addr}{n c:Nat}{F:Nat->Prop}(ho:dI w (.sl e ks) z (.slice (some aa) n c) F) :
 n=z.length/\n<=c/\n<=bQ/\∃ b o cs el fr,aa=⟨b,o,none⟩/\F b/\w.heap[b]? = some (.cells cs el fr)/\(∀ q,q<cs.size+mk1 ks->¬ (fr.1<=q/\q<fr.2))/\o+c * ks.length<=cs.size /\
  ∃ G:Nat->Nat->Nat->Prop,(∀ i j b',G i j b'->F b'/\b'≠b)/\(∀ i j i' j' b',G i j b'->G i' j' b'->i=i'/\j=j')/\(∀ i x,z[i]? = some x->gw w ks x 0 (G i) cs (o+i * ks.length)) /\
   ∀ q,q<n * ks.length->∃ v,cs[o+q]? = some v/\v.oneCell'=true:=by
 obtain⟨a,c',e1,h2,h3,h4,h5⟩:=ho;simp only[anf]at e1;obtain⟨rfl,rfl,rfl⟩:=e1;obtain⟨b,o,cs,el,fr,rfl,k2,k3,k4,k5,G,k6,k7,k8⟩:=h5 _ rfl;refine⟨rfl,h2,h3,b,o,cs,el,fr,rfl,k2,k3,k4,k5,G,k6,k7,k8,fun q hq => ?_⟩;obtain⟨q1,q2,q3⟩:=rA hq;obtain⟨v,f1,f2⟩:=AA ks _ 0 _ (q % ks.length) (k8 _ _ (ami q1)) q2;rw[ani,<- q3]at f1;exact⟨v,f1,f2⟩
def cut(cs:Array Value)(o n:Nat):List Value:=(List.range n).map fun q=>cs.getD (o+q) undef
theorem qS(cs:Array Value)(o n:Nat):(cut cs o n).length=n:=by simp[cut]
theorem uI{cs:Array Value}{o n:Nat}(h:∀ q,q<n->∃ v,cs[o+q]? = some v/\v.oneCell'=true){q:Nat}(hq:q<n):(cut cs o n)[q]? = cs[o+q]? := by obtain⟨v,h1,_⟩:=h q hq;simp[cut,hq,amn,h1]
theorem Lx{cs:Array Value}{o n:Nat}(h:∀ q,q<n->∃ v,cs[o+q]? = some v/\v.oneCell'=true):∀ u∈cut cs o n,u.oneCell'=true:=fun u hu=>by obtain⟨q,hq,rfl⟩:=an5.1 hu;obtain⟨v,h1,h2⟩:=h q (anq.1 hq);rw[amn,h1];exact h2
theorem uL{cs:Array Value}{b o n:Nat}{el:TypeId}{fr:Nat×Nat}(hb:w.heap[b]? = some (.cells cs el fr))(h:∀ q,q<n->∃ v,cs[o+q]? = some v/\v.oneCell'=true)(j:Nat)(v:Value)(hj:(cut cs o n)[j]? = some v):w.cell? ⟨b,o+j,none⟩=some v:=by
 have nP:j<n:=by
  rcases amv j n with hh | hh
  . exact hh
  . rw[amw (by rw[qS]; exact hh)]at hj; simp at hj
 rw[uI h nP]at hj;simp only[World.cell?,hb];exact hj
theorem rn{cs:Array Value}{b j:Nat}{el:TypeId}{fr:Nat×Nat}(hb:w.heap[b]? = some (.cells cs el fr))(hj:j<cs.size):(w.cell? ⟨b,j,none⟩).isSome=true:=by simp[World.cell?,hb,hj]
theorem lW{cs:Array Value}{b j:Nat}{el:TypeId}{fr:Nat×Nat}(hb:w.heap[b]? = some (.cells cs el fr))(hj:¬ (fr.1<=j/\j<fr.2)):w.frozen? ⟨b,j,none⟩=false:=by
 simp only[World.frozen?,hb];simp only[aoy,aof];by_cases h:fr.1<=j
 . exact .inr fun h'=>hj ⟨h,h'⟩
 . exact .inl h
end
structure Lv (P:Program) (f T ov k:Nat):Prop where
 zero:∀(a:Option Addr) (n c i:Nat) (a2:Option Addr) (m c2:Nat) (w:World),i<=n->n<=c->(m:Int)=0 ->
  Calls P f #[.slice a n c,.int .i64 i,.slice a2 m c2] w fun e w'=>e= .returned (.slice a n c)/\w'=w
 last:∀(a:Option Addr) (n c:Nat) (a2:Option Addr) (m c2:Nat) (w w':World) (v':Value),n<=c->¬ ((m:Int)=0) ->
  (Builtin.append_ #[T,T] T #[.slice a n c,.slice a2 m c2]).run P w= .ok v' w' ->
  Calls P f #[.slice a n c,.int .i64 n,.slice a2 m c2] w fun e w1=>e= .returned v'/\w1=w'
 room:∀(b o n c i:Nat) (a2:Option Addr) (m c2:Nat) (w:World),i<n->n+m<=c->n+m<=140737488355328->0<m->∀(W1 W2:World),
  (∀ lb cb,(callFunc ov #[.slice a2 m c2,.slice (some ⟨b,o+(i+m) * k,none⟩) lb cb]).run P w= .ok (.value (.bool false)) w) ->
  (∀ ty dc sc,(Builtin.copy_ #[T,T] ty #[.slice (some ⟨b,o+(i+m) * k,none⟩) (n+m-(i+m)) dc,.slice (some ⟨b,o+i * k,none⟩) (n+m-i) sc]).run P w.drew= .ok (goInt (n-i:Nat)) W1) ->
  (∀ ty dc,(Builtin.copy_ #[T,T] ty #[.slice (some ⟨b,o+i * k,none⟩) (n+m-i) dc,.slice a2 m c2]).run P W1= .ok (goInt m) W2) ->
  Calls P f #[.slice (some ⟨b,o,none⟩) n c,.int .i64 i,.slice a2 m c2] w fun e w1=>e= .returned (.slice (some ⟨b,o,none⟩) (n+m) c)/\w1=W2
 grow:∀(b o n c i:Nat) (a2:Option Addr) (m c2:Nat) (w:World),i<n->n<=c->c<n+m->n+m<=140737488355328->0<m->∀(W1 W2 W3:World) (N G:Nat),n+m<=G->G<=9223372036854775807 ->
  (∀ ty,(Builtin.append_ #[T,3] ty #[.slice (some ⟨b,o,none⟩) i c,.int .i64 ((n:Int)+(m:Int)-(i:Int))]).run P w= .ok (.slice (some ⟨N,0,none⟩) (n+m) G) W1) ->
  (∀ ty dc,(Builtin.copy_ #[T,T] ty #[.slice (some ⟨N,i * k,none⟩) (n+m-i) dc,.slice a2 m c2]).run P W1= .ok (goInt m) W2) ->
  (∀ ty dc sc,(Builtin.copy_ #[T,T] ty #[.slice (some ⟨N,(i+m) * k,none⟩) (n+m-(i+m)) dc,.slice (some ⟨b,o+i * k,none⟩) (n-i) sc]).run P W2.drew= .ok (goInt (n-i:Nat)) W3) ->
  Calls P f #[.slice (some ⟨b,o,none⟩) n c,.int .i64 i,.slice a2 m c2] w fun e w1=>e= .returned (.slice (some ⟨N,0,none⟩) (n+m) G)/\w1=W3
def Rf{α:Type}(sz:Nat)(xs:List α)(i:Int)(ys:List α):Option (Unit×(List α×Unit)×Unit) :=
 cond (ck 0 i&&ck i xs.length&&Nat.ble ((xs.length+ys.length) * sz) bQ) (zR (xs.take i.toNat++ys++xs.drop i.toNat)) none
section
variable{P:Program}{w w':World}
theorem Oe {f T ov : Nat} {e : TypeId} {te : TI} {fn fo : Func} {c : Code} {tR : TypeId} (hf : P.funcs[f]? = some fn) (iw : (fn.name == "runtime.NumGoroutine") = false) (hb : fn.body = some c)
 (hT:P.underlying T=some (.slice e))(h3:P.underlying 3=some (.int .i64))(rY:rI P e te)(hk:mk1 te.ks=1)(hkp:Nat.blt 0 te.ks.length=true)(vY:Nat.blt 0 te.bytes=true)
 (ho : P.funcs[ov]? = some fo) (Il : (fo.name == "runtime.NumGoroutine") = false) (hob : fo.body.isNone = true) (hox : Extern.findNext fo = none) (hoe : Extern.find fo = some (Extern.SlicesOverlaps.overlaps #[T, T] #[tR]))
 (W:Lv P f T ov te.ks.length){s:Su}(hs:s=⟨[.mv (.sl e te.ks),.c false [.int .i64],.mv (.sl e te.ks)],[(false,[.sl e te.ks])],true,.inl fun x=>Rf te.bytes x.1 x.2.1.1 x.2.2.1⟩):lU P f s:=by
 subst hs;intro w Z F args x y _ cF hZ hF hd hy;rw[MuLone.run_callFunc_enter hf iw hb];show Calls P f args w _;have hkp:0<te.ks.length:=anj (amA hkp);have vY:0<te.bytes:=anj (amA vY);obtain⟨xs,⟨i0,_⟩,ys,_⟩:=x;change List (Tl te.ks)at xs;change List (Tl te.ks)at ys;change Int at i0;have iv:∃ v0 v1 v2,args = #[v0,v1,v2]/\dI w (.sl e te.ks) xs v0 (F 0)/\v1= .int .i64 i0/\dI w (.sl e te.ks) ys v2 (F 1):=by
  obtain⟨l⟩:=args
  match l,cF with
  | [v0,v1,v2],⟨h1,⟨cs,e1,e2⟩,h2,_⟩ => refine⟨v0,v1,v2,rfl,h1,?_,h2⟩;have e1:cs=[v1]:=e1;subst e1;exact e2.1.1
 obtain⟨v0,v1,v2,rfl,hxs,rfl,hys⟩:=iv;have hy:Rf te.bytes (α:=Tl te.ks) xs i0 ys=some y:=hy;unfold Rf at hy;cases km:ck 0 i0&&ck i0 xs.length&&Nat.ble ((xs.length+ys.length) * te.bytes) bQ with
 | false=>rw[km]at hy; simp at hy
 | true =>
 rw[km]at hy;have hy:=am1 hy;subst hy;simp only[ame,ck,anD]at km;obtain⟨⟨Dq,kL⟩,bp⟩:=km;have bp:=amA bp;obtain⟨i,rfl⟩:=Int.eq_ofNat_of_zero_le Dq;have kL:i<=xs.length:=by omega
 have U2:xs.length+ys.length<=bQ:=aml (anL _ vY) bp;have al4:=bk;have h01:∀ q,F 1 q->¬ F 0 q:=fun q h1 h0=>by have:=hd 0 1 q h0 h1; omega
 have fin:∀(v:Value) (w1:World) (F':Nat->Prop),w1.os=w.os->w1.tape=w.tape->w1.output=w.output->w.heap.size<=w1.heap.size->(∀ b,b<w.heap.size->¬ F 0 b->w1.heap[b]? = w.heap[b]?)->(∀ b,F' b->b<w1.heap.size/\(F 0 b∨F 1 b∨w.heap.size<=b)) ->
  dI w1 (.sl e te.ks) (xs.take i++ys++xs.drop i) v F' ->
  ∃(Z':Nat->Prop) (H:Nat->Nat->Prop) (vs:List Value),v=A6 vs/\Dk w w1 F Z Z' H/\wa Z' w1 (fun i=>H (2 * i)) [.mv (.sl e te.ks),.c false [.int .i64],.mv (.sl e te.ks)] () [v0,.int .i64 i,v2] 0 /\
   mU true Z' w1 (fun j=>H (2 * j+1)) [(false,[.sl e te.ks])] ((xs.take i++ys++xs.drop i,()),()) vs 0:=by
  intro v w1 F' g1 g2 g3 g4 g5 g6 g7;refine⟨Z,fun n b=>n=1/\F' b,[v],rfl,⟨g1,g2,g3,g4,fun b hb hn=>g5 b hb (hn 0),fun b h=>h,fun b h=>⟨amC (hZ b h) g4,.inl h⟩,fun n b h => ?_,fun n m b h1 h2=>h1.1.trans h2.1.symm⟩,trivial,⟨[v],rfl,?_,trivial⟩,trivial⟩
  . obtain⟨_,h⟩:=h;obtain⟨h1,h2⟩:=g6 b h;refine⟨h1,fun hz => ?_,?_⟩
    . rcases h2 with h2 | h2 | h2
      . exact(hF 0 b h2).2 hz
      . exact(hF 1 b h2).2 hz
      . have:=hZ b hz; omega
    . rcases h2 with h2 | h2 | h2
      . exact .inl ⟨0,h2⟩
      . exact .inl ⟨1,h2⟩
      . exact .inr h2
  . exact dI.frame _ _ _ _ _ (fun b hb=>⟨rfl,hb⟩) (fun _ _ _=>rfl) g7
 have goal:Calls P f #[v0,.int .i64 i,v2] w fun en w1=>∃ v F',en= .returned v/\w1.os=w.os/\w1.tape=w.tape/\w1.output=w.output/\w.heap.size<=w1.heap.size/\(∀ b,b<w.heap.size->¬ F 0 b->w1.heap[b]? = w.heap[b]?)/\(∀ b,F' b->b<w1.heap.size/\(F 0 b∨F 1 b∨w.heap.size<=b)) /\
  dI w1 (.sl e te.ks) (xs.take i++ys++xs.drop i) v F':=by
  by_cases hm0:ys=[]
  . subst hm0;obtain⟨a0,c0,rfl,q1,q2,q3,q4⟩:=(show dI w (.sl e te.ks) xs v0 (F 0)from hxs);obtain⟨a2,c2,rfl,r1,r2,r3,r4⟩:=hys;refine(W.zero a0 xs.length c0 i a2 0 c2 w kL q1 rfl).mono fun en w1 ⟨h1,h2⟩ => ?_
    subst h2;refine⟨_,F 0,h1,rfl,rfl,rfl,oR _,fun _ _ _=>rfl,fun b hb=>⟨(hF 0 b hb).1,.inl hb⟩,?_⟩;rw[amV,an9];exact hxs
  . have hm:0<ys.length:=ao3.2 hm0;have alI:=hys;obtain⟨a2,c2,rfl,r1,r2,r3,r4⟩:=alI;cases a2 with
    | none=>have:=r3 rfl; have r1:ys.length<=c2:=r1; omega
    | some aa2 =>
    obtain⟨e1,e2,e3,b2,o2,Vb,el2,fr2,rfl,f1,f2,f3,f4,H,f5,f6,f7,f8⟩:=Di hys;have l6:b2<w.heap.size:=(hF 1 b2 f1).1;have alJ:∀ q,F 0 q->q≠b2:=fun q hq he=>h01 b2 f1 (he ▸ hq)
    obtain⟨k,nM⟩:∃ k,k=te.ks.length:=⟨_,rfl⟩;obtain⟨VS,hVS⟩:∃ VS,VS=cut Vb o2 (ys.length * k):=⟨_,rfl⟩;replace f8:∀ q,q<ys.length * k->∃ v,Vb[o2+q]? = some v/\v.oneCell'=true:=by rw[nM]; exact f8
    replace e2:ys.length<=c2:=e2;have v1:VS.length=ys.length * k:=by rw[hVS,qS]
    have v2:∀ q,q<ys.length * k->VS[q]? = Vb[o2+q]? := fun q hq=>by rw[hVS,uI f8 hq]
    have v3:∀ u∈VS,u.oneCell'=true:=by rw[hVS]; exact Lx f8
    have v4:∀ w1:World,w1.heap[b2]? = w.heap[b2]? -> ∀(j:Nat) (u:Value),VS[j]? = some u->w1.cell? ⟨b2,o2+j,none⟩=some u:=fun w1 Cj j u hj=>by rw[hVS]at hj;exact uL (Cj.trans f2) f8 j u hj
    have v5:∀ w1:World,w1.heap[b2]? = w.heap[b2]? -> (Builtin.firstCells te.ks.length ys.length (.slice (some ⟨b2,o2,none⟩) ys.length c2)).run P w1= .ok VS.toArray w1:=fun w1 Cj =>
     run_firstCells_some (P:=P) w1 _ _ ⟨b2,o2,none⟩ _ _ _ (by rw[v1,nM]) fun j u hj=>by rw[gN]; exact v4 w1 Cj j u hj
    have v6:(Builtin.lenOf (.slice (some ⟨b2,o2,none⟩) ys.length c2)).run P w= .ok ys.length w:=rfl
    have growLast:∀(a0:Option Addr) (c0 b0 o:Nat) (cs:Array Value) (G:Nat->Nat->Nat->Prop),i=xs.length->v0= .slice a0 xs.length c0->xs.length<=c0->c0<xs.length+ys.length->(∀ i j b',G i j b'->F 0 b'/\b'≠b0)->(∀ i j i' j' b',G i j b'->G i' j' b'->i=i'/\j=j')->(∀ i x,xs[i]? = some x->gw w te.ks x 0 (G i) cs (o+i * te.ks.length)) ->
     (∀ q,q<xs.length * k->∃ v,cs[o+q]? = some v/\v.oneCell'=true)->(Builtin.firstCells te.ks.length xs.length (.slice a0 xs.length c0)).run P w.drew= .ok (cut cs o (xs.length * k)).toArray w.drew ->
     Calls P f #[v0,.int .i64 i,.slice (some ⟨b2,o2,none⟩) ys.length c2] w fun en w1=>∃ v F',en= .returned v/\w1.os=w.os/\w1.tape=w.tape/\w1.output=w.output/\w.heap.size<=w1.heap.size/\(∀ b,b<w.heap.size->¬ F 0 b->w1.heap[b]? = w.heap[b]?)/\(∀ b,F' b->b<w1.heap.size/\(F 0 b∨F 1 b∨w.heap.size<=b)) /\
      dI w1 (.sl e te.ks) (xs.take i++ys++xs.drop i) v F':=by
     intro a0 c0 b0 o cs G hie hv0 Im aV p5 p6 p7 p8 hfo;subst hie;subst hv0;obtain⟨zs,z1,z2⟩:=pz (P:=P) (w:=w) (ty:=T) (ats := #[T,T]) hT rY hT (fun _ hh=>by simp at hh) rfl rfl v6 hfo (v5 w.drew rfl) aV vY (aml (oR _) bp);refine(W.last a0 xs.length c0 (some ⟨b2,o2,none⟩) ys.length c2 w _ _ Im (by omega) z2).mono fun en w1 ⟨h1,h2⟩ => ?_
     subst h2;have Me:=grownCap_ge w (xs.length+ys.length) c0 e;have jm:(w.drew.alloc (.cells ((cut cs o (xs.length * k)).toArray++VS.toArray++zs) e (0,0))).heap=w.heap.push (.cells ((cut cs o (xs.length * k)).toArray++VS.toArray++zs) e (0,0)):=rfl;have jU:(w.drew.alloc (.cells ((cut cs o (xs.length * k)).toArray++VS.toArray++zs) e (0,0))).heap.size=w.heap.size+1:=by rw[jm,anJ]
     have hold:∀ q,q<w.heap.size->(w.drew.alloc (.cells ((cut cs o (xs.length * k)).toArray++VS.toArray++zs) e (0,0))).heap[q]? = w.heap[q]? := fun q hq=>by rw[jm,amS,if_neg (by omega)]
     have xw:(cut cs o (xs.length * k)).toArray.size=xs.length * k:=by simp[qS]
     have hvl:VS.toArray.size=ys.length * k:=by simp[v1]
     refine⟨_,fun q=>F 0 q∨F 1 q∨q=w.heap.size,h1,rfl,rfl,rfl,by rw[jU]; omega,fun q hq _=>hold q hq,fun q hq => ?_,?_⟩
     . rw[jU];rcases hq with hq | hq | hq
       . exact⟨by have:=(hF 0 q hq).1; omega,.inl hq⟩
       . exact⟨by have:=(hF 1 q hq).1; omega,.inr (.inl hq)⟩
       . exact⟨by omega,.inr (.inr (by omega))⟩
     . refine yG (w:=w) (i:=xs.length) (oR _) (G:=G) (H:=H) (F:=F 0) (FH:=F 1) (b0:=b0) (b1:=b2) (o:=o) (o1:=o2) (cs:=cs) (cs1:=Vb) (fT:=(cut cs o (xs.length * k)).toArray++VS.toArray++zs) (el:=e) (fr:=(0,0)) p5 p6 p7 f5 f6 f7 h01
        (by rw[jm,amS,if_pos rfl]) (fun q _ hh=>by simp at hh) (.inr (.inr rfl)) (fun q hq=> .inl hq) (fun q hq=> .inr (.inl hq)) (fun a c q hq he=>by have:=(hF 0 q (p5 _ _ _ hq).1).1; omega) (fun a c q hq he=>by have:=(hF 1 q (f5 _ _ _ hq).1).1; omega)
        (fun q hq _ _=>hold q hq) (fun q hq => ?_) (fun q hq => ?_) (fun q hq => ?_) Me ?_ U2
       . rw[<- nM]at hq;rw[amp,anW,am9 (by rw[xw]; exact hq),amQ,uI p8 hq]
       . rw[<- nM]at hq ⊢;rw[amp,anW,aoz (by rw[xw]; omega),xw,am2,am9 (by rw[hvl]; exact hq),amQ,v2 q hq]
       . simp at hq
       . rw[aon,aon,xw,hvl,z1,<- nM,<- amR,<- amR];refine aoh ?_;rw[amp];congr 1;omega
    have alK:=hxs;obtain⟨a0,c0,rfl,q1,q2,q3,_⟩:=(show dI w (.sl e te.ks) xs v0 (F 0)from alK);have q1:xs.length<=c0:=q1;cases a0 with
    | none => have Im:=q3 rfl;subst Im;obtain rfl:xs=[]:=amY.1 (by omega);exact growLast none 0 w.heap.size 0 #[] (fun _ _ _=>False) (by simpa using kL) rfl (oR _) (by simpa using hm) (fun _ _ _ h=>h.elim) (fun _ _ _ _ _ h=>h.elim) (fun i x hx=>by simp at hx) (fun q hq=>by simp at hq) (by rw[show cut #[] 0 (([]:List (Tl te.ks)).length * k)=[]by simp[cut]]; exact run_firstCells_none (P:=P) w.drew _ _ _ _)
    | some aa =>
      obtain⟨_,_,_,b,o,cs,el,fr,rfl,k1,k2,k3,k4,G,k5,k6,k7,k8⟩:=Di hxs;replace k8:∀ q,q<xs.length * k->∃ v,cs[o+q]? = some v/\v.oneCell'=true:=by rw[nM]; exact k8
      have hbw:b<w.heap.size:=(hF 0 b k1).1;have ahV:b2≠b:=fun he=>alJ b k1 he.symm
      have Uj:(aW (e:=e) (ks:=te.ks) xs).length=xs.length:=rfl;rw[Uj];by_cases Dm:i=xs.length
      . by_cases jn:xs.length+ys.length<=c0
        . subst Dm;have Iq:∀ j,j<VS.length->o+xs.length * te.ks.length+j<cs.size:=fun j hj=>by
           rw[v1,nM]at hj;have:=amH te.ks.length jn;rw[amR]at this;omega
          have z2:=qz (P:=P) (w:=w) (ty:=T) (ats := #[T,T]) (t:=T) (t2:=T) (b:=b) (o:=o) hT rY hT (fun _ hh=>by simp at hh) rfl rfl v6 (v5 w rfl) jn v3 fun j hj=>⟨cs,el,fr,k2,Iq j hj,k3 _ (by have:=Iq j hj; omega)⟩
          refine(W.last (some ⟨b,o,none⟩) xs.length c0 (some ⟨b2,o2,none⟩) ys.length c2 w _ _ q1 (by omega) z2).mono fun en w1 ⟨h1,h2⟩ => ?_
          subst h2;obtain⟨g1,g2,g3,g4,g5,g6⟩:=eI b VS (o+xs.length * te.ks.length) w cs el fr k2;have lE:∀ q,(setFrom cs (o+xs.length * te.ks.length) VS)[q]? = if o+xs.length * te.ks.length<=q/\q<o+xs.length * te.ks.length+VS.length then VS[q-(o+xs.length * te.ks.length)]? else cs[q]? := fun q=>dv _ _ _ _ (by
           have:0<VS.length:=by rw[v1,nM]; exact Nat.mul_pos hm hkp
           have:=Iq (VS.length-1) (by omega);omega)
          refine⟨_,fun q=>F 0 q∨F 1 q,h1,g4,g5,g6,by rw[g3]; exact oR _,fun q hq hn=>g2 q (fun he=>hn (he ▸ k1)),fun q hq => ?_,?_⟩
          . rw[g3];rcases hq with hq | hq
            . exact⟨(hF 0 q hq).1,.inl hq⟩
            . exact⟨(hF 1 q hq).1,.inr (.inl hq)⟩
          . refine yG (w:=w) (i:=xs.length) (oR _) (G:=G) (H:=H) (F:=F 0) (FH:=F 1) (b0:=b) (b1:=b2) (o:=o) (o1:=o2) (cs:=cs) (cs1:=Vb) k5 k6 k7 f5 f6 f7 h01 g1 (fun q hq=>k3 q (by rw[cX]at hq; exact hq)) (.inl k1) (fun q hq=> .inl hq) (fun q hq=> .inr hq) (fun a c q hq=>(k5 _ _ _ hq).2) (fun a c q hq he=>h01 q (f5 _ _ _ hq).1 (he ▸ k1))
             (fun q hq cY _=>g2 q cY) (fun q hq => ?_) (fun q hq => ?_) (fun q hq => ?_) jn (by rw[cX]; exact k4) U2
            . rw[lE,if_neg (by omega)]
            . rw[lE,if_pos ⟨by omega,by rw[v1,nM]; omega⟩,am2,v2 q (by rw[nM]; exact hq)]
            . simp at hq
        . refine growLast (some ⟨b,o,none⟩) c0 b o cs G Dm rfl q1 (by omega) k5 k6 k7 k8 (run_firstCells_some (P:=P) w.drew _ _ ⟨b,o,none⟩ _ _ _ (by rw[qS,nM]) fun j u hj => ?_);rw[gN];exact uL (w:=w.drew) k2 k8 j u hj
      . have Dm:i<xs.length:=by omega
        have k9:∀ q,q<(xs.length-i) * k->∃ v,cs[o+i * k+q]? = some v/\v.oneCell'=true:=fun q hq=>by
         have:=k8 (i * k+q) (by
          have:xs.length * k=i * k+(xs.length-i) * k:=by rw[<- amR]; congr 1; omega
          omega)
         rwa [<- ani]at this
        obtain⟨C1,hC1⟩:∃ C1,C1=cut cs (o+i * k) ((xs.length-i) * k):=⟨_,rfl⟩;have c1:C1.length=(xs.length-i) * k:=by rw[hC1,qS]
        have c2':∀ q,q<(xs.length-i) * k->C1[q]? = cs[o+i * k+q]? := fun q hq=>by rw[hC1,uI k9 hq]
        have c3:∀ u∈C1,u.oneCell'=true:=by rw[hC1]; exact Lx k9
        have c4:∀ w1:World,w1.heap[b]? = w.heap[b]? -> ∀(j:Nat) (u:Value),C1[j]? = some u->w1.cell? ⟨b,o+i * k+j,none⟩=some u:=fun w1 Cj j u hj=>by rw[hC1]at hj;exact uL (Cj.trans k2) k9 j u hj
        have em:xs.length * k=i * k+(xs.length-i) * k:=by rw[<- amR]; congr 1; omega
        have en:(i+ys.length) * k=i * k+ys.length * k:=amR ..
        by_cases jn:xs.length+ys.length<=c0
        ·
         have hmk:ys.length * k<=(c0-xs.length) * k:=amH _ (by omega);have eck:c0 * k=xs.length * k+(c0-xs.length) * k:=by rw[<- amR]; congr 1; omega
         rw[<- nM]at k4;have hov:∀ lb cb,(callFunc ov #[.slice (some ⟨b2,o2,none⟩) ys.length c2,.slice (some ⟨b,o+(i+ys.length) * te.ks.length,none⟩) lb cb]).run P w= .ok (.value (.bool false)) w:=fun lb cb=>by
          have hsa:w.shape? b2=some (el2,Vb.size):=by simp[World.shape?,f2]
          have eD:w.shape? b=some (el,cs.size):=by simp[World.shape?,k2]
          have Ch:0<ys.length * k:=Nat.mul_pos hm (nM ▸ hkp);have yn:0<(xs.length-i) * k:=Nat.mul_pos (by omega) (nM ▸ hkp);have h4:ys.length * k<=c2 * k:=amH _ e2;rw[<- nM]at f4;have alL:=Lib.run_overlaps_apart (P:=P) w T tR e hT te.ks.length (dt rY) ⟨b2,o2,none⟩ ⟨b,o+(i+ys.length) * te.ks.length,none⟩ ys.length c2 lb cb ahV el2 el Vb.size cs.size hsa eD (by omega) (lW f2 (f3 o2 (by omega))) (lW f2 (f3 Vb.size (by rw[hk]; omega)));rw[run_callFunc_extern ho Il hob hox hoe,alL];rfl
         have Ff:∀ ty dc sc,(Builtin.copy_ #[T,T] ty #[.slice (some ⟨b,o+(i+ys.length) * te.ks.length,none⟩) (xs.length+ys.length-(i+ys.length)) dc,.slice (some ⟨b,o+i * te.ks.length,none⟩) (xs.length+ys.length-i) sc]).run P w.drew= .ok (goInt (xs.length-i:Nat)) (w.drew.setCells b (o+(i+ys.length) * te.ks.length) C1):=fun ty dc sc=>by
          refine qX (w:=w.drew) hT rY (by simp only[Nat.min_def]; split <;> omega) (by rw[c1,nM]) (fun j u hj => ?_) (fun j hj => ?_) (fun j hj => ?_) c3
          . rw[<- nM]; exact c4 w.drew rfl j u hj
          . rw[c1]at hj; rw[<- nM]; exact rn (w:=w.drew) k2 (by omega)
          . rw[c1]at hj; rw[<- nM]; exact lW (w:=w.drew) k2 (k3 _ (by omega))
         obtain⟨g1,g2,g3,g4,g5,g6⟩:=eI b C1 (o+(i+ys.length) * te.ks.length) w.drew cs el fr k2;obtain⟨W1,hW1⟩:∃ W1,W1=w.drew.setCells b (o+(i+ys.length) * te.ks.length) C1:=⟨_,rfl⟩;rw[<- hW1]at g1 g2 g3 g4 g5 g6 Ff;obtain⟨D1,hD1⟩:∃ D1,D1=setFrom cs (o+(i+ys.length) * te.ks.length) C1:=⟨_,rfl⟩;have d1s:D1.size=cs.size:=by rw[hD1,cX]
         have d1:∀ q,D1[q]? = if o+(i+ys.length) * k<=q/\q<o+(i+ys.length) * k+C1.length then C1[q-(o+(i+ys.length) * k)]? else cs[q]? := fun q=>by rw[hD1,<- nM]; exact dv _ _ _ _ (by rw[c1]; omega)
         rw[<- hD1]at g1;have Kl:∀ ty dc,(Builtin.copy_ #[T,T] ty #[.slice (some ⟨b,o+i * te.ks.length,none⟩) (xs.length+ys.length-i) dc,.slice (some ⟨b2,o2,none⟩) ys.length c2]).run P W1= .ok (goInt ys.length) (W1.setCells b (o+i * te.ks.length) VS):=fun ty dc=>by
          refine qX (w:=W1) hT rY (by simp only[Nat.min_def]; split <;> omega) (by rw[v1,nM]) (fun j u hj=>v4 W1 (g2 b2 ahV) j u hj) (fun j hj => ?_) (fun j hj => ?_) v3
          . rw[v1]at hj; rw[<- nM]; exact rn (w:=W1) g1 (by omega)
          . rw[v1]at hj; rw[<- nM]; exact lW (w:=W1) g1 (k3 _ (by omega))
         obtain⟨m1,m2,m3,m4,m5,m6⟩:=eI b VS (o+i * te.ks.length) W1 D1 el fr g1;obtain⟨D2,hD2⟩:∃ D2,D2=setFrom D1 (o+i * te.ks.length) VS:=⟨_,rfl⟩;have d2s:D2.size=cs.size:=by rw[hD2,cX,d1s]
         have d2:∀ q,D2[q]? = if o+i * k<=q/\q<o+i * k+VS.length then VS[q-(o+i * k)]? else D1[q]? := fun q=>by rw[hD2,<- nM]; exact dv _ _ _ _ (by rw[v1]; omega)
         rw[<- hD2]at m1;refine(W.room b o xs.length c0 i (some ⟨b2,o2,none⟩) ys.length c2 w Dm jn (by omega) hm W1 _ hov Ff Kl).mono fun en w1 ⟨h1,h2⟩ => ?_
         subst h2;have hold:∀ q,q≠b->(W1.setCells b (o+i * te.ks.length) VS).heap[q]? = w.heap[q]? := fun q hq=>(m2 q hq).trans (g2 q hq)
         have jU:(W1.setCells b (o+i * te.ks.length) VS).heap.size=w.heap.size:=m3.trans g3;refine⟨_,fun q=>F 0 q∨F 1 q,h1,m4.trans g4,m5.trans g5,m6.trans g6,by rw[jU]; exact oR _,fun q hq hn=>hold q (fun he=>hn (he ▸ k1)),fun q hq => ?_,?_⟩
         . rw[jU];rcases hq with hq | hq
           . exact⟨(hF 0 q hq).1,.inl hq⟩
           . exact⟨(hF 1 q hq).1,.inr (.inl hq)⟩
         . refine yG (w:=w) (i:=i) kL (G:=G) (H:=H) (F:=F 0) (FH:=F 1) (b0:=b) (b1:=b2) (o:=o) (o1:=o2) (cs:=cs) (cs1:=Vb) k5 k6 k7 f5 f6 f7 h01 m1 (fun q hq=>k3 q (by rw[d2s]at hq; exact hq)) (.inl k1) (fun q hq=> .inl hq) (fun q hq=> .inr hq) (fun a c q hq=>(k5 _ _ _ hq).2) (fun a c q hq he=>h01 q (f5 _ _ _ hq).1 (he ▸ k1))
            (fun q hq cY _=>hold q cY) (fun q hq => ?_) (fun q hq => ?_) (fun q hq => ?_) jn (by rw[d2s,<- nM]; exact k4) U2
           . rw[<- nM]at hq;rw[d2,if_neg (by omega),d1,if_neg (by omega)]
           . rw[<- nM]at hq ⊢;rw[d2,if_pos ⟨by omega,by rw[v1]; omega⟩,am2,v2 q hq]
           . rw[<- nM]at hq ⊢;rw[d2,if_neg (by rw[v1]; omega),d1,if_pos ⟨by omega,by rw[c1]; omega⟩,am2,c2' q hq]
        ·
         obtain⟨ii,i1,i2,i3,z,i4,i5⟩:=rY.info;have mQ:z.cells.size=k:=by rw[nM,<- amP,i5]; simp
         have k10:∀ q,q<i * k->∃ v,cs[o+q]? = some v/\v.oneCell'=true:=fun q hq=>k8 q (by omega)
         obtain⟨O1,hO1⟩:∃ O1,O1=cut cs o (i * k):=⟨_,rfl⟩;have o1l:O1.length=i * k:=by rw[hO1,qS]
         have o1g:∀ q,q<i * k->O1[q]? = cs[o+q]? := fun q hq=>by rw[hO1,uI k10 hq]
         have ahW:(Builtin.firstCells ii.size i (.slice (some ⟨b,o,none⟩) i c0)).run P w.drew= .ok O1.toArray w.drew:=run_firstCells_some (P:=P) w.drew _ _ ⟨b,o,none⟩ _ _ _ (by rw[o1l,i2,nM]) fun j u hj=>by rw[gN];rw[hO1]at hj;exact uL (w:=w.drew) k2 k10 j u hj
         have ein:i+(xs.length+ys.length-i)=xs.length+ys.length:=by omega
         have Dn:(xs.length+ys.length) * te.bytes<=140737488355328:=bp;have yN:=Lib.run_append_grow_zeros (P:=P) w T 3 T e ii z .i64 .i64 hT h3 i1 i4 (some ⟨b,o,none⟩) i c0 O1 ahW (xs.length+ys.length-i) (by omega) (by rw[i2]; exact hkp) (by omega) (by omega) (by rw[i3];have:(xs.length+ys.length-i) * te.bytes<=(xs.length+ys.length) * te.bytes:=amH _ (by omega);omega) (by rw[ein,i3]; have:=growslice_fits (need:=xs.length+ys.length) (old:=c0) (bytes:=te.bytes) (by omega) Dn; omega);rw[ein]at yN;have ahX:(xs.length:Int)+(ys.length:Int)-(i:Int)=((xs.length+ys.length-i:Nat):Int):=by omega
         rw[<- ahX]at yN;obtain⟨G1,Mn⟩:∃ G1,G1=grownCap w (xs.length+ys.length) c0 e:=⟨_,rfl⟩;have Me:xs.length+ys.length<=G1:=by rw[Mn]; exact grownCap_ge w _ _ _
         have ahY:G1<=9223372036854775807:=by have:=grownCap_le_maxLen w (xs.length+ys.length) c0 e (by unfold maxLen; omega);rw[<- Mn]at this;unfold maxLen at this;omega
         rw[<- Mn]at yN;obtain⟨ROW,ad4⟩:∃ ROW,ROW=O1.toArray++Builtin.zeroCells z.cells (xs.length+ys.length-i)++Builtin.zeroCells z.cells (G1-(xs.length+ys.length)):=⟨_,rfl⟩;rw[<- ad4]at yN;have hRs:ROW.size=G1 * k:=by rw[ad4,aon,aon,size_zeroCells,size_zeroCells,mQ];simp only[apb,o1l];rw[<- amR,<- amR];congr 1;omega
         have hRg:∀ q,q<i * k->ROW[q]? = cs[o+q]? := fun q hq=>by rw[ad4,anW,am9 (by simpa[o1l]using hq),amQ,o1g q hq]
         have hGk:(xs.length+ys.length) * k<=G1 * k:=amH _ Me;rw[amR]at hGk;obtain⟨W1,hW1⟩:∃ W1,W1=w.drew.alloc (.cells ROW e):=⟨_,rfl⟩;rw[<- hW1]at yN;have a1:W1.heap=w.heap.push (.cells ROW e (0,0)):=by rw[hW1]; rfl
         have a2:W1.heap[w.heap.size]? = some (.cells ROW e (0,0)):=by rw[a1,amS,if_pos rfl]
         have a3:∀ q,q<w.heap.size->W1.heap[q]? = w.heap[q]? := fun q hq=>by rw[a1,amS,if_neg (by omega)]
         have a4:W1.heap.size=w.heap.size+1:=by rw[a1,anJ]
         have a5:W1.os=w.os/\W1.tape=w.tape/\W1.output=w.output:=by rw[hW1]; exact⟨rfl,rfl,rfl⟩
         have Ff:∀ ty dc,(Builtin.copy_ #[T,T] ty #[.slice (some ⟨w.heap.size,i * te.ks.length,none⟩) (xs.length+ys.length-i) dc,.slice (some ⟨b2,o2,none⟩) ys.length c2]).run P W1= .ok (goInt ys.length) (W1.setCells w.heap.size (i * te.ks.length) VS):=fun ty dc=>by
          refine qX (w:=W1) hT rY (by simp only[Nat.min_def]; split <;> omega) (by rw[v1,nM]) (fun j u hj=>v4 W1 (a3 b2 l6) j u hj) (fun j hj => ?_) (fun j hj => ?_) v3
          . rw[v1]at hj; rw[<- nM]; exact rn (w:=W1) a2 (by omega)
          . exact lW (w:=W1) a2 (by simp)
         obtain⟨g1,g2,g3,g4,g5,g6⟩:=eI w.heap.size VS (i * te.ks.length) W1 ROW e (0,0) a2;obtain⟨W2,hW2⟩:∃ W2,W2=W1.setCells w.heap.size (i * te.ks.length) VS:=⟨_,rfl⟩;rw[<- hW2]at g1 g2 g3 g4 g5 g6 Ff;obtain⟨D1,hD1⟩:∃ D1,D1=setFrom ROW (i * te.ks.length) VS:=⟨_,rfl⟩;have d1s:D1.size=ROW.size:=by rw[hD1,cX]
         have d1:∀ q,D1[q]? = if i * k<=q/\q<i * k+VS.length then VS[q-i * k]? else ROW[q]? := fun q=>by rw[hD1,<- nM]; exact dv _ _ _ _ (by rw[v1]; omega)
         rw[<- hD1]at g1;have Kl:∀ ty dc sc,(Builtin.copy_ #[T,T] ty #[.slice (some ⟨w.heap.size,(i+ys.length) * te.ks.length,none⟩) (xs.length+ys.length-(i+ys.length)) dc,.slice (some ⟨b,o+i * te.ks.length,none⟩) (xs.length-i) sc]).run P W2.drew= .ok (goInt (xs.length-i:Nat)) (W2.drew.setCells w.heap.size ((i+ys.length) * te.ks.length) C1):=fun ty dc sc=>by
          refine qX (w:=W2.drew) hT rY (by simp only[Nat.min_def]; split <;> omega) (by rw[c1,nM]) (fun j u hj => ?_) (fun j hj => ?_) (fun j hj => ?_) c3
          . rw[<- nM]; exact c4 W2.drew ((g2 b (by omega)).trans (a3 b hbw)) j u hj
          . rw[c1]at hj; rw[<- nM]; exact rn (w:=W2.drew) g1 (by omega)
          . exact lW (w:=W2.drew) g1 (by simp)
         obtain⟨m1,m2,m3,m4,m5,m6⟩:=eI w.heap.size C1 ((i+ys.length) * te.ks.length) W2.drew D1 e (0,0) g1;obtain⟨D2,hD2⟩:∃ D2,D2=setFrom D1 ((i+ys.length) * te.ks.length) C1:=⟨_,rfl⟩;have d2s:D2.size=ROW.size:=by rw[hD2,cX,d1s]
         have d2:∀ q,D2[q]? = if (i+ys.length) * k<=q/\q<(i+ys.length) * k+C1.length then C1[q-(i+ys.length) * k]? else D1[q]? := fun q=>by rw[hD2,<- nM]; exact dv _ _ _ _ (by rw[c1]; omega)
         rw[<- hD2]at m1;refine(W.grow b o xs.length c0 i (some ⟨b2,o2,none⟩) ys.length c2 w Dm q1 (by omega) (by omega) hm W1 W2 _ w.heap.size G1 Me ahY (fun ty=>yN) Ff Kl).mono fun en w1 ⟨h1,h2⟩ => ?_
         subst h2;have hold:∀ q,q<w.heap.size->(W2.drew.setCells w.heap.size ((i+ys.length) * te.ks.length) C1).heap[q]? = w.heap[q]? := fun q hq=>(m2 q (by omega)).trans ((g2 q (by omega)).trans (a3 q hq))
         have jU:(W2.drew.setCells w.heap.size ((i+ys.length) * te.ks.length) C1).heap.size=w.heap.size+1:=m3.trans (g3.trans a4);refine⟨_,fun q=>F 0 q∨F 1 q∨q=w.heap.size,h1,m4.trans (g4.trans a5.1),m5.trans (g5.trans a5.2.1),m6.trans (g6.trans a5.2.2),by rw[jU]; omega,fun q hq hn=>hold q hq,fun q hq => ?_,?_⟩
         . rw[jU];rcases hq with hq | hq | hq
           . exact⟨by have:=(hF 0 q hq).1; omega,.inl hq⟩
           . exact⟨by have:=(hF 1 q hq).1; omega,.inr (.inl hq)⟩
           . exact⟨by omega,.inr (.inr (by omega))⟩
         . refine yG (w:=w) (i:=i) kL (G:=G) (H:=H) (F:=F 0) (FH:=F 1) (b0:=b) (b1:=b2) (o:=o) (o1:=o2) (o':=0) (cs:=cs) (cs1:=Vb) k5 k6 k7 f5 f6 f7 h01 m1 (fun q _ hh=>by simp at hh) (.inr (.inr rfl)) (fun q hq=> .inl hq) (fun q hq=> .inr (.inl hq)) (fun a c q hq he=>by have:=(hF 0 q (k5 _ _ _ hq).1).1; omega) (fun a c q hq he=>by have:=(hF 1 q (f5 _ _ _ hq).1).1; omega)
            (fun q hq _ _=>hold q hq) (fun q hq => ?_) (fun q hq => ?_) (fun q hq => ?_) Me (by rw[d2s,hRs,<- nM]; omega) U2
           . rw[<- nM]at hq;rw[amp,d2,if_neg (by omega),d1,if_neg (by omega),hRg q hq]
           . rw[<- nM]at hq ⊢;rw[amp,d2,if_neg (by omega),d1,if_pos ⟨by omega,by rw[v1]; omega⟩,am2,v2 q hq]
           . rw[<- nM]at hq ⊢;rw[amp,d2,if_pos ⟨by omega,by rw[c1]; omega⟩,am2,c2' q hq]
 refine goal.mono fun en w1 ⟨v,F',h0,h1,h2,h3,h4,h5,h6,h7⟩ => ?_
 subst h0;exact fin v w1 F' h1 h2 h3 h4 h5 h6 h7
end
section
variable{P:Program}{E:En}{ops:Array Oper}{P:Program}{cx:Cx P}{Q:Exit->Act->World->Prop}
theorem Qp(Mj:ki ops.toList 0=true){i:Nat}{J:Nat->Bool}{base:St}{bsF:Bd}{G:Nat->St}(hi:i<ops.size)
 (oQ:∀ j,j<i->sj P E ops (bM ops.toList []) base bsF 0 j)
 (ahZ:∀ j,j<i->J j=false->((bM ops.toList []).getD i 0).testBit j=true)
 (ad5:∀ k,i<k->k<ops.size->∀ j,j<=i->((bM ops.toList []).getD k 0).testBit j=true)
 (BO:∀(S:Nat) (a:Act) (w:World) (Z:Nat->Prop) (g:Gh) (next:Act->World->Prop),(∀ j,j<i->J j=false->S.testBit j=true)->(∀ j,i<=j->S.testBit j=false)->Rel cx Z g (view base S bsF) a w->Fit cx E a ->
   (∀ Z' g' a' w',Rel cx Z' g' (G S) a' w'->Fit cx E a'->next a' w')->wpOp P ops Q i next a w)
 (ah0:∀(S j:Nat) (a:Act) (w:World) (Z:Nat->Prop) (g:Gh) (next:Act->World->Prop),(∀ j,j<i->J j=false->S.testBit j=true)->(∀ j,i<=j->S.testBit j=false)->j<i->J j=true->S.testBit j=false ->
   (∀ b,((bM ops.toList []).getD j 0).testBit b=true->b<i->S.testBit b=true)->Rel cx Z g (G S) a w->Fit cx E a ->
   (∀ Z' g' a' w',Rel cx Z' g' (G (S ||| 2 ^ j)) a' w'->Fit cx E a'->next a' w')->wpOp P ops Q j next a w)
 (Ib:∀(fuel:Nat) (listed:Array Bool) (S:Nat) (a:Act) (w:World) (Z:Nat->Prop) (g:Gh),listed.size=ops.size->(∀ k,k<ops.size->listed.getD k false=decide (k<=i))->Lr ops.size (2 ^ (i+1)-1)<=fuel->(∀ j,S.testBit j=decide (j<i))->Rel cx Z g (G S) a w->Fit cx E a->wpAny P .any ops Q fuel listed a w) :
 ∀(fuel:Nat) (listed:Array Bool) (S:Nat) (B:Bool) (a:Act) (w:World) (Z:Nat->Prop) (g:Gh),listed.size=ops.size->(∀ k,k<ops.size->listed.getD k false=(S ||| (bif B then 2 ^ i else 0)).testBit k)->(∀ k,i<=k->S.testBit k=false)->Lr ops.size (S ||| (bif B then 2 ^ i else 0))<=fuel ->
  (∀ k,(S ||| (bif B then 2 ^ i else 0)).testBit k=true->∀ b,((bM ops.toList []).getD k 0).testBit b=true->(S ||| (bif B then 2 ^ i else 0)).testBit b=true)->(B=true->∀ j,j<i->J j=false->S.testBit j=true) ->
  Rel cx Z g (bif B then G S else view base S bsF) a w->Fit cx E a->wpAny P .any ops Q fuel listed a w:=by
 have hlen:(bM ops.toList []).length=ops.size:=by rw[rb]; simp
 intro fuel;induction fuel with
 | zero =>
   intro listed S B a w Z g uz hS BI rW xw hBJ h dh;have gm:=EV _ _ (Nat.le_zero.1 rW);have hB:B=true:=by
    cases B with
    | true=>rfl
    | false => have:=gm i hi;simp only[oF,Nat.or_zero]at this;rw[BI i (oR _)]at this;simp at this
   subst hB;simp only[oT]at gm h hS rW;have hT:∀ j,j<i->S.testBit j=true:=fun j hj=>by have:=gm j (by omega);rw[aY]at this;simpa[show ¬ i=j by omega]using this
   have lF:∀ j,S.testBit j=decide (j<i):=fun j=>by
    by_cases hj:j<i
    . simp[hj,hT j hj]
    . simp[hj,BI j (by omega)]
   refine Ib 0 listed S a w Z g uz (fun k hk => ?_) ?_ lF h dh
   . rw[hS k hk,aY,lF];by_cases e:i=k
     . simp[e]
     . simp[e]; omega
   . have e:S ||| 2 ^ i=2 ^ (i+1)-1:=by
      apply aoZ;intro k;rw[aY,fA,lF];by_cases e:i=k
      . simp[e]
      . simp[e]; omega
     rw[<- e];exact rW
 | succ fuel ih =>
   intro listed S B a w Z g uz hS BI rW xw hBJ h dh;have BJ:∀ j,j∈Region.ready .any ops listed->j<ops.size/\(S ||| (bif B then 2 ^ i else 0)).testBit j=false/\∀ b,((bM ops.toList []).getD j 0).testBit b=true->(S ||| (bif B then 2 ^ i else 0)).testBit b=true:=by
    intro j hj;obtain⟨hj0,o,ho,he⟩:=mem_ready.1 hj;have aV:j<ops.size:=(amG.1 ho).1;refine⟨aV,?_,fun b lF => ?_⟩
    . rw[<- hS j aV];simp[amn,uz,aV]at hj0 ⊢;exact hj0
    . obtain⟨e,h1,h2,h3⟩:=rf ops.toList [] j o b (by rw[amh]; exact ho) (by simpa using lF);have hl:=he e (aoq.1 h1) h2;have Il:e.on<ops.size:=by
       rcases amv e.on ops.size with hh | hh
       . exact hh
       . simp[amn,uz,hh]at hl
      rw[hS _ Il]at hl;rcases h3 with h3 | ⟨_,h3⟩
      . rw[<- h3]; exact hl
      . exact xw _ hl b h3
   have rX:∀ k,k<ops.size->(S ||| (bif B then 2 ^ i else 0)).testBit k=false->∃ j,j∈Region.ready .any ops listed:=by
    intro k;induction k using Nat.strongRecOn with
    | _ k ihk =>
      intro hk hkS;obtain⟨o,ho⟩:∃ o,ops[k]? = some o:=⟨ops[k],by simp[hk]⟩;by_cases gm:∀ e∈o.after,Region.binds .any e=true->listed.getD e.on false=true
      . refine⟨k,mem_ready.2 ⟨?_,o,ho,gm⟩⟩;have:=hS k hk;rw[hkS]at this;simp[amn,uz,hk]at this ⊢;exact this
      . have hex:∃ e,e∈o.after/\Region.binds .any e=true/\¬ listed.getD e.on false=true:=by
         apply anT;intro cY;apply gm;intro e he vT;apply anT;intro BW;exact cY ⟨e,he,vT,BW⟩
        obtain⟨e,he,vT,BW⟩:=hex;have Il:=lV ops.toList 0 Mj k o (by rw[amh]; exact ho) e (aoq.2 he) vT;rw[amp]at Il;have Uf:e.on<ops.size:=Nat.lt_trans Il hk;refine ihk e.on Il Uf ?_;rw[<- hS _ Uf];simpa using BW
   have ON:∀ j (S':Nat),(∀ k,S'.testBit k=((S ||| (bif B then 2 ^ i else 0)) ||| 2 ^ j).testBit k)->j<ops.size->(∀ k,k<ops.size->(listed.setIfInBounds j true).getD k false=S'.testBit k):=by
    intro j S' hS' hj k hk;rw[hS',aY,<- hS k hk];by_cases Kf:j=k
    . subst Kf;simp[amn,uz,hj]
    . simp[amn,aos Kf,Kf]
   have OO:∀ j (S':Nat),S'=(S ||| (bif B then 2 ^ i else 0)) ||| 2 ^ j->j<ops.size->(S ||| (bif B then 2 ^ i else 0)).testBit j=false->Lr ops.size S'<=fuel:=by intro j S' hS' hj Ug;subst hS';have:=D3 ops.size j _ Ug;rw[if_pos hj]at this;omega
   have OP:∀ j,j∈Region.ready .any ops listed->∀ S',S'=(S ||| (bif B then 2 ^ i else 0)) ||| 2 ^ j->∀ k,S'.testBit k=true->∀ b,((bM ops.toList []).getD k 0).testBit b=true->S'.testBit b=true:=by
    intro j hj S' hS' k hk b lF;subst hS';rw[aY]at hk ⊢;by_cases Kf:j=k
    . subst Kf;rw[(BJ j hj).2.2 b lF]; rfl
    . have hk:(S ||| (bif B then 2 ^ i else 0)).testBit k=true:=by simpa[Kf]using hk
      rw[xw k hk b lF]; rfl
   have Mp:∀ k,k<i->(S ||| (bif B then 2 ^ i else 0)).testBit k=S.testBit k:=fun k hk=>by
    cases B with
    | false=>simp
    | true=>rw[oT,aY]; simp[show ¬ i=k by omega]
   have Yb:(S ||| (bif B then 2 ^ i else 0)).testBit i=B:=by
    cases B with
    | false=>simpa using BI i (oR _)
    | true=>rw[oT,aY]; simp
   by_cases vU:B=true/\∀ j,j<i->S.testBit j=true
   . obtain⟨rfl,hT⟩:=vU;have lF:∀ j,S.testBit j=decide (j<i):=fun j=>by
      by_cases hj:j<i
      . simp[hj,hT j hj]
      . simp[hj,BI j (by omega)]
     refine Ib (fuel+1) listed S a w Z g uz (fun k hk => ?_) ?_ lF h dh
     . rw[hS k hk,oT,aY,lF];by_cases e:i=k
       . simp[e]
       . simp[e]; omega
     . have e:S ||| 2 ^ i=2 ^ (i+1)-1:=by
        apply aoZ;intro k;rw[aY,fA,lF];by_cases e:i=k
        . simp[e]
        . simp[e]; omega
       rw[<- e];exact rW
   . have ah1:∃ k,k<ops.size/\(S ||| (bif B then 2 ^ i else 0)).testBit k=false:=by
      cases B with
      | false=>exact⟨i,hi,Yb⟩
      | true =>
        apply anT;intro cY;apply vU;refine⟨rfl,fun j hj => ?_⟩;rw[<- Mp j hj];cases hb:(S ||| (bif true then 2 ^ i else 0)).testBit j with
        | true=>rfl
        | false=>exact absurd ⟨j,by omega,hb⟩ cY
     refine⟨fun hr => ?_,fun j hj => ?_⟩
     . obtain⟨k,hk,hkS⟩:=ah1;obtain⟨j,hj⟩:=rX k hk hkS;rw[hr]at hj;simp at hj
     . obtain⟨HZ,Mk,Uh⟩:=BJ j hj;rcases aoR j i with Ik | Ik | Ik
       ·
        have Ug:S.testBit j=false:=by rw[<- Mp j Ik]; exact Mk
        have hS'hi:∀ k,i<=k->(S ||| 2 ^ j).testBit k=false:=fun k hk=>by rw[aY,BI k hk]; simp; omega
        have heq:(S ||| 2 ^ j) ||| (bif B then 2 ^ i else 0)=(S ||| (bif B then 2 ^ i else 0)) ||| 2 ^ j:=by rw[Nat.or_assoc,Nat.or_comm (2 ^ j),<- Nat.or_assoc]
        cases B with
        | false =>
          simp only[oF,Nat.or_zero]at *
          have lE:∀(x:Nat),(bM ops.toList []).getD j x=(bM ops.toList []).getD j 0:=fun x=>by
           have nP:j<(bM ops.toList []).length:=by rw[hlen]; exact HZ
           simp[List.getD,nP]
          refine oQ j Ik cx S a w Z g _ Q (fun i' _ _ lF=>Uh i' (by rw[<- lE cU]; exact lF)) Ug h dh fun Z' g' a' w' hr xv => ?_
          exact ih (listed.setIfInBounds j true) (S ||| 2 ^ j) false a' w' Z' g' (by simp[uz]) (fun k hk=>by simpa using ON j (S ||| 2 ^ j) (fun _=>rfl) HZ k hk) hS'hi (by simpa using OO j _ rfl HZ Mk) (by simpa using OP j hj _ rfl) (fun hh=>by simp at hh) hr xv
        | true =>
          have hJj:J j=true:=by
           cases hb:J j with
           | true=>rfl
           | false=>rw[hBJ rfl j Ik hb]at Ug; simp at Ug
          refine ah0 S j a w Z g _ (hBJ rfl) BI Ik hJj Ug (fun b hb hbi=>by rw[<- Mp b hbi]; exact Uh b hb) h dh fun Z' g' a' w' hr xv => ?_
          refine ih (listed.setIfInBounds j true) (S ||| 2 ^ j) true a' w' Z' g' (by simp[uz]) (ON j _ (fun k=>by rw[heq]) HZ) hS'hi (OO j _ heq HZ Mk) (OP j hj _ heq) (fun _ k hk hJ => ?_) hr xv;rw[aY,hBJ rfl k hk hJ]; rfl
       ·
        subst Ik;have hB:B=false:=by rw[<- Yb]; exact Mk
        subst hB;simp only[oF,Nat.or_zero]at *
        have hSJ:∀ k,k<j->J k=false->S.testBit k=true:=fun k hk hJ=>Uh k (ahZ k hk hJ)
        refine BO S a w Z g _ hSJ BI h dh fun Z' g' a' w' hr xv => ?_
        exact ih (listed.setIfInBounds j true) S true a' w' Z' g' (by simp[uz]) (ON j _ (fun _=>rfl) HZ) BI (OO j _ rfl HZ Mk) (OP j hj _ rfl) (fun _=>hSJ) hr xv
       ·
        exfalso;apply vU;have gm:=ad5 j Ik HZ;refine⟨by rw[<- Yb]; exact Uh i (gm i (oR _)),fun k hk => ?_⟩;rw[<- Mp k hk];exact Uh k (gm k (aox hk))
end
def St.aQ(st:St)(tm:List (Nat×TV)):St:=⟨tm,st.rt⟩
section
variable{st:St}{tm:List (Nat×TV)}
theorem eY(r j:Nat)(c:RC):(st.aQ tm).setCell r j c=(st.setCell r j c).aQ tm:=by unfold St.setCell St.aQ;cases look st.rt r <;> rfl
theorem fx(r j:Nat):(st.aQ tm).cell r j=st.cell r j:=rfl
theorem xP(a:AV):(st.aQ tm).read a=st.read a:=by cases a <;> rfl
theorem qK(a:AV):(st.aQ tm).live a=st.live a:=by
 cases a with
 | rp dep e ks xs i c=>cases dep <;> rfl
 | _=>rfl
theorem cT(k:K)(a:AV):(st.aQ tm).bG k a=st.bG k a:=by cases a <;> cases k <;> first | rfl | (simp only[St.bG,xP])
theorem Hr(a:AV):(st.aQ tm).take a=(st.take a).map fun p=>(p.1.aQ tm,p.2):=by
 cases a with
 | ref r j s =>
   simp only[St.take,fx];split
   . rename_i s' m k x hc;cases Nat.beq s' s <;> simp[eY]
   . rfl
 | cut r j s n =>
   simp only[St.take,fx];split
   . rename_i s' m e ks x hc;cases Nat.beq s' s <;> simp[eY]
   . rfl
 | _=>rfl
theorem fF(k:K)(a:AV):(st.aQ tm).cW k a=(st.cW k a).map fun p=>(p.1.aQ tm,p.2):=by
 have key:(match (st.aQ tm).take a with | some (ay,⟨k',x⟩)=>(match gC k' k x with | some y=>some (ay,y) | none=>none) | none=>none)=((match st.take a with | some (ay,⟨k',x⟩)=>(match gC k' k x with | some y=>some (ay,y) | none=>none) | none=>none):Option (St×T k)).map fun p=>(p.1.aQ tm,p.2):=by
  rw[Hr];cases st.take a with
  | none=>rfl
  | some q => obtain⟨s1,k1,x1⟩:=q;simp only[amE];cases gC k1 k x1 <;> rfl
 cases a <;> cases k <;> first | rfl | exact key
theorem Gi(a:AV):(st.aQ tm).kJ a=st.kJ a:=by cases a <;> first | rfl | (simp only[St.kJ,xP,qK])
theorem qM(r j:Nat)(v:RV):(st.aQ tm).bump r j v=(st.bump r j v).map (fun s:St=>s.aQ tm):=by unfold St.bump;rw[fx];cases st.cell r j <;> simp[eY]
end
theorem j5{tm:List (Nat×TV)}{r:Nat}:∀(ks:List K) (l:List AV) (j:Nat) (st:St),(st.aQ tm).dz r j ks l=(st.dz r j ks l).map (fun s:St=>s.aQ tm)
 | [],[],_,_=>rfl
 | [],_::_,_,_=>by simp[St.dz]
 | _::_,[],_,_=>by simp[St.dz]
 | k::ks,a::l,j,st=>by
   have tb:∀(av:AV),(match (st.aQ tm).cW k av with | some (ay,x)=>(match ay.bump r j (.own k x)with | some ay=>ay.dz r (j+1) ks l | none=>none) | none=>none)=(match st.cW k av with | some (ay,x)=>(match ay.bump r j (.own k x)with | some ay=>ay.dz r (j+1) ks l | none=>none) | none=>none).map (fun s:St=>s.aQ tm):=fun av=>by
    rw[fF];cases st.cW k av with
    | none=>rfl
    | some q =>
      simp only[amE,qM];cases q.1.bump r j (.own k q.2)with
      | none=>rfl
      | some s=>exact j5 ks l (j+1) s
   have td:(match (st.aQ tm).kJ a with | some c=>(match (st.aQ tm).bump r j c.v with | some ay=>ay.dz r (j+1) ks l | none=>none) | none=>none)=(match st.kJ a with | some c=>(match st.bump r j c.v with | some ay=>ay.dz r (j+1) ks l | none=>none) | none=>none).map (fun s:St=>s.aQ tm):=by
    rw[Gi];cases st.kJ a with
    | none=>rfl
    | some c =>
      simp only[qM];cases st.bump r j c.v with
      | none=>rfl
      | some s=>exact j5 ks l (j+1) s
   cases a with
   | ref r2 j2 s2 =>
     simp only[St.dz];cases hb:Nat.beq r r2&&Nat.beq j j2 with
     | true =>
       simp only[oT,fx];cases st.cell r j with
       | none=>rfl
       | some c =>
         simp only;cases Nat.beq c.s s2 with
         | false=>rfl
         | true=>exact j5 ks l (j+1) st
     | false=>simp only[oF]; exact tb _
   | cut r2 j2 s2 n=>simp only[St.dz]; exact tb _
   | nil =>
     simp only[St.dz];cases k with
     | sl e bZ =>
       simp only[qM];cases st.bump r j (.own (.sl e bZ) ([]:List (Tl bZ)))with
       | none=>rfl
       | some s=>exact j5 ks l (j+1) s
     | _=>rfl
   | _=>simp only[St.dz]; exact td
theorem qC{tm:List (Nat×TV)}{r j s i m0:Nat}:∀(ks:List K) (l:List AV) (c:Nat) (st:St),(st.aQ tm).kD r j s i m0 c ks l=(st.kD r j s i m0 c ks l).map (fun s:St=>s.aQ tm)
 | [],[],_,_=>rfl
 | [],_::_,_,_=>by simp[St.kD]
 | _::_,[],_,_=>by simp[St.kD]
 | k::ks,a::l,c,st=>by
   have fin:∀(q:Option (St×T k)),(match q.map (fun p:St×T k=>(p.1.aQ tm,p.2))with
    | some (ay,x)=>(match ay.cell r j with
      | some ⟨s',m,.own (.sl e gn) xs⟩=>bif Nat.beq s' s then (match setAt gn (iq xs i) c k x with
        | some y=>(ay.setCell r j ⟨s',m+1,.own (.sl e gn) (List.set (aW xs) i y)⟩).kD r j s i m0 (c+1) ks l
        | none=>none)else none
      | _=>none)
    | none=>none)=(match q with
    | some (ay,x)=>(match ay.cell r j with
      | some ⟨s',m,.own (.sl e gn) xs⟩=>bif Nat.beq s' s then (match setAt gn (iq xs i) c k x with
        | some y=>(ay.setCell r j ⟨s',m+1,.own (.sl e gn) (List.set (aW xs) i y)⟩).kD r j s i m0 (c+1) ks l
        | none=>none)else none
      | _=>none)
    | none=>none).map (fun s:St=>s.aQ tm):=fun q=>by
    cases q with
    | none=>rfl
    | some q =>
      simp only[amE,fx];split
      . rename_i s' m e gn xs hc;cases Nat.beq s' s with
        | false=>rfl
        | true =>
          simp only[oT];cases setAt gn (iq xs i) c k q.2 with
          | none=>rfl
          | some y => simp only[eY];exact qC ks l (c+1) _
      . rfl
   have eD:(st.aQ tm).oO r j s m0 c a=st.oO r j s m0 c a:=rfl;cases Fp:st.oO r j s m0 c a with
   | true => unfold St.kD;rw[eD,Fp];exact qC ks l (c+1) st
   | false =>
   unfold St.kD;rw[eD,Fp];simp only[oF];cases k with
   | sl e0 gn=>simp only; rw[fF]; exact fin _
   | int _ =>
     simp only;rw[cT];cases st.bG _ a with
     | none=>rfl
     | some x =>
       cases hf:a.bV with
       | false=>rfl
       | true=>exact fin (some (st,x))
   | bool =>
     simp only;rw[cT];cases st.bG _ a with
     | none=>rfl
     | some x =>
       cases hf:a.bV with
       | false=>rfl
       | true=>exact fin (some (st,x))
   | str =>
     simp only;rw[cT];cases st.bG _ a with
     | none=>rfl
     | some x =>
       cases hf:a.bV with
       | false=>rfl
       | true=>exact fin (some (st,x))
theorem oZ{tm:List (Nat×TV)}{r j s i m0:Nat}{gn:List K}{z0:Tl gn}:∀(ks:List K) (l:List AV) (c:Nat) (st:St),(st.aQ tm).gY r j s i m0 gn z0 c ks l=(st.gY r j s i m0 gn z0 c ks l).map (fun q:St×Tl ks=>(q.1.aQ tm,q.2))
 | [],[],_,_=>rfl
 | [],_::_,_,_=>by simp[St.gY]
 | _::_,[],_,_=>by simp[St.gY]
 | k::ks,a::l,c,st=>by
   have eD:(st.aQ tm).oO r j s m0 c a=st.oO r j s m0 c a:=rfl;have hmo:(st.aQ tm).HR r j=st.HR r j:=rfl;unfold St.gY;rw[eD,hmo];cases Fp:st.oO r j s m0 c a with
   | true =>
     simp only[oT];rw[oZ ks l (c+1) st];cases cellAt gn z0 c with
     | none=>rfl
     | some z =>
       simp only;cases gC z.1 k z.2 with
       | none=>rfl
       | some x=>cases st.gY r j s i m0 gn z0 (c+1) ks l <;> rfl
   | false =>
   simp only[oF]
   have fin:∀(q:Option (St×T k)),(match q.map (fun p:St×T k=>(p.1.aQ tm,p.2))with
    | some (ay,x)=>(match ay.cell r j with
      | some ⟨s',m,.own (.sl e Kh) xs⟩=>bif Nat.beq s' s&&Nat.beq m (st.HR r j)then (match setAt Kh (iq xs i) c k x with
        | some y=>(match (ay.setCell r j ⟨s',m+1,.own (.sl e Kh) (List.set (aW xs) i y)⟩).gY r j s i m0 gn z0 (c+1) ks l with | some q=>some (q.1,(x,q.2)) | none=>none)
        | none=>none)else none
      | _=>none)
    | none=>(none:Option (St×Tl (k::ks))))=(match q with
    | some (ay,x)=>(match ay.cell r j with
      | some ⟨s',m,.own (.sl e Kh) xs⟩=>bif Nat.beq s' s&&Nat.beq m (st.HR r j)then (match setAt Kh (iq xs i) c k x with
        | some y=>(match (ay.setCell r j ⟨s',m+1,.own (.sl e Kh) (List.set (aW xs) i y)⟩).gY r j s i m0 gn z0 (c+1) ks l with | some q=>some (q.1,(x,q.2)) | none=>none)
        | none=>none)else none
      | _=>none)
    | none=>none).map (fun q:St×Tl (k::ks)=>(q.1.aQ tm,q.2)):=fun q=>by
    cases q with
    | none=>rfl
    | some q =>
      simp only[amE,fx];split
      . rename_i s' m e Kh xs hc;cases Nat.beq s' s&&Nat.beq m (st.HR r j)with
        | false=>rfl
        | true =>
          simp only[oT];cases setAt Kh (iq xs i) c k q.2 with
          | none=>rfl
          | some y => simp only[eY];rw[oZ ks l (c+1) _];cases(q.1.setCell r j ⟨s',m+1,.own (.sl e Kh) (List.set (aW xs) i y)⟩).gY r j s i m0 gn z0 (c+1) ks l <;> rfl
      . rfl
   cases k with
   | sl e0 Kh=>simp only; rw[fF]; exact fin _
   | int _ =>
     simp only;rw[cT];cases st.bG _ a with
     | none=>rfl
     | some x =>
       cases hf:a.bV with
       | false=>rfl
       | true=>exact fin (some (st,x))
   | bool =>
     simp only;rw[cT];cases st.bG _ a with
     | none=>rfl
     | some x =>
       cases hf:a.bV with
       | false=>rfl
       | true=>exact fin (some (st,x))
   | str =>
     simp only;rw[cT];cases st.bG _ a with
     | none=>rfl
     | some x =>
       cases hf:a.bV with
       | false=>rfl
       | true=>exact fin (some (st,x))
theorem Ek{tm:List (Nat×TV)}{st:St}{r j s i:Nat}{ks:List K}{l:List AV}:(st.aQ tm).x9 r j s i ks l=(st.x9 r j s i ks l).map (fun s:St=>s.aQ tm):=by
 unfold St.x9;rw[fx];split
 . rename_i s0 m e gn xs hc;rw[oZ];cases st.gY r j s i m gn (iq xs i) 0 ks l with
   | none=>rfl
   | some q =>
     simp only[amE,fx];cases Bu ks gn q.2 with
     | none=>rfl
     | some y =>
       cases q.1.cell r j with
       | none=>rfl
       | some c1 =>
         simp only;cases Nat.blt m c1.m with
         | false=>rfl
         | true=>simp only[oT,eY]; rfl
 . rfl
theorem DN{tm:List (Nat×TV)}{st:St}{ks:List K}{l:List AV}{a:AV}:(st.aQ tm).store ks l a=(st.store ks l a).map (fun s:St=>s.aQ tm):=by
 cases a with
 | ptr r j=>exact j5 ks l j st
 | pel r j s i c =>
   simp only[St.store,qK];cases st.live (.pel r j s i c)with
   | false=>rfl
   | true =>
     simp only[oT];cases Nat.beq c 0&&Nat.ble 8 l.length with
     | false=>exact qC ks l c st
     | true=>exact Ek
 | _=>rfl
theorem Af{st ay:St}{r j:Nat}{v:RV}(h:st.bump r j v=some ay):cA st ay:=by
 unfold St.bump at h;split at h
 . rename_i c hc;simp only[amd]at h;subst h;exact cA.set hc (aoc _) (ane _)
 . simp at h
theorem oC{r:Nat}:∀(ks:List K) (l:List AV) (j:Nat) (st ay:St),st.dz r j ks l=some ay->cA st ay
 | [],[],_,st,ay,h=>by simp[St.dz]at h; subst h; exact cA.refl _
 | [],_::_,_,st,ay,h=>by simp[St.dz]at h
 | _::_,[],_,st,ay,h=>by simp[St.dz]at h
 | k::ks,a::l,j,st,ay,h=>by
   have tk:∀(a:AV),(match st.cW k a with | some (ca,x)=>(match ca.bump r j (.own k x)with | some ca=>ca.dz r (j+1) ks l | none=>none) | none=>none)=some ay->cA st ay:=fun a h=>by
    split at h
    . rename_i ca x hx;split at h
      . rename_i Yf h2;exact(ir hx).trans ((Af h2).trans (oC ks l _ _ _ h))
      . simp at h
    . simp at h
   cases a with
   | ref r2 j2 s2 =>
     simp only[St.dz]at h;cases hb:Nat.beq r r2&&Nat.beq j j2 with
     | true =>
       rw[hb]at h;simp only[oT]at h;split at h
       . obtain⟨_,h⟩:=lu h;exact oC ks l _ _ _ h
       . simp at h
     | false => rw[hb]at h;exact tk _ h
   | cut r2 j2 s2 n=>simp only[St.dz]at h; exact tk _ h
   | nil =>
     simp only[St.dz]at h;split at h
     . split at h
       . rename_i Yf h2;exact(Af h2).trans (oC _ l _ _ _ h)
       . simp at h
     . simp at h
   | _ =>
     simp only[St.dz]at h;split at h
     . split at h
       . rename_i Yf h2;exact(Af h2).trans (oC ks l _ _ _ h)
       . simp at h
     . simp at h
theorem AW{r j s i m0:Nat}:∀(ks:List K) (l:List AV) (c:Nat) (st ay:St),st.kD r j s i m0 c ks l=some ay->cA st ay
 | [],[],_,st,ay,h=>by simp[St.kD]at h; subst h; exact cA.refl _
 | [],_::_,_,st,ay,h=>by simp[St.kD]at h
 | _::_,[],_,st,ay,h=>by simp[St.kD]at h
 | k::ks,a::l,c,st,ay,h=>by
   simp only[St.kD]at h;cases Fp:st.oO r j s m0 c a with
   | true=>rw[Fp]at h; exact AW ks l _ _ _ h
   | false =>
   rw[Fp]at h;simp only[oF]at h;split at h
   . rename_i ca x hx;have h1:cA st ca:=by
      split at hx
      . exact ir hx
      . split at hx
        . obtain⟨_,hx⟩:=lu hx;simp only[amd,amK]at hx;obtain⟨rfl,_⟩:=hx;exact cA.refl _
        . simp at hx
     split at h
     . rename_i hc;obtain⟨_,h⟩:=lu h;split at h
       . refine h1.trans (cA.trans (cA.set hc ?_ ?_) (AW ks l _ _ _ h))
         . exact oR _
         . exact ane _
       . simp at h
     . simp at h
   . simp at h
theorem wA{r j s i m0:Nat}{gn:List K}{z0:Tl gn}:∀(ks:List K) (l:List AV) (c:Nat) (st:St) (q:St×Tl ks),st.gY r j s i m0 gn z0 c ks l=some q->cA st q.1
 | [],[],_,st,q,h=>by simp[St.gY]at h; subst h; exact cA.refl _
 | [],_::_,_,st,q,h=>by simp[St.gY]at h
 | _::_,[],_,st,q,h=>by simp[St.gY]at h
 | k::ks,a::l,c,st,q,h=>by
   unfold St.gY at h;cases Fp:st.oO r j s m0 c a with
   | true =>
     rw[Fp]at h;simp only[oT]at h;split at h
     . split at h
       . rename_i x q' hx Kk;simp only[amd]at h;subst h;exact wA ks l (c+1) st q' Kk
       . simp at h
     . simp at h
   | false =>
   rw[Fp]at h;simp only[oF]at h;split at h
   . rename_i ca x hx;have h1:cA st ca:=by
      split at hx
      . exact ir hx
      . split at hx
        . obtain⟨_,hx⟩:=lu hx;simp only[amd,amK]at hx;obtain⟨rfl,_⟩:=hx;exact cA.refl _
        . simp at hx
     split at h
     . rename_i hc;obtain⟨_,h⟩:=lu h;split at h
       . split at h
         . rename_i q' Kk;simp only[amd]at h;subst h;refine h1.trans (cA.trans (cA.set hc ?_ ?_) (wA ks l _ _ q' Kk))
           . exact oR _
           . exact ane _
         . simp at h
       . simp at h
     . simp at h
   . simp at h
theorem N2{st ay:St}{r j s i:Nat}{ks:List K}{l:List AV}(h:st.x9 r j s i ks l=some ay):cA st ay:=by
 unfold St.x9 at h;split at h
 . rename_i s0 m e gn xs hc;split at h
   . rename_i q hq;split at h
     . rename_i y c1 hy yo;obtain⟨hb,h⟩:=lu h;simp only[amd]at h;subst h;have hv:=wA ks l 0 st q hq;have aV:m<c1.m:=anj (amA hb);intro r' j' c hcc;obtain⟨c',k1,k2,k3,k4⟩:=hv r' j' c hcc;rw[dD];by_cases hh:r=r'/\j=j'
       . obtain⟨rfl,rfl⟩:=hh;rw[if_pos ⟨rfl,rfl⟩,k1];rw[k1]at yo;cases yo;rw[hc]at hcc;cases hcc;exact⟨_,rfl,k2,k3,fun _ e=>by simp only at e; omega⟩
       . rw[if_neg hh];exact⟨c',k1,k2,k3,k4⟩
     . simp at h
   . simp at h
 . simp at h
theorem M3{st ay:St}{ks:List K}{l:List AV}{a:AV}(h:st.store ks l a=some ay):cA st ay:=by
 unfold St.store at h;split at h
 . exact oC _ _ _ _ _ h
 . obtain⟨_,h⟩:=lu h;revert h;generalize (Nat.beq _ 0&&Nat.ble 8 l.length)=b;cases b with
   | true=>exact fun h=>N2 h
   | false=>exact fun h=>AW _ _ _ _ _ h
 . simp at h
theorem B5{E:En}{v ca:St}{t:Nat}{a x:Operand}(h:(Cf E v none (.store t a x)).run=some ca):cA v ca:=by
 unfold Cf at h;obtain⟨ti,h1,h⟩:=Tr.ai h;obtain⟨ta,h2,h⟩:=Tr.ai h;obtain⟨av,h3,h⟩:=Tr.ai h;obtain⟨tx,h4,h⟩:=Tr.ai h;obtain⟨p,h5,h⟩:=Tr.ai h;cases hb:p.2.all v.live&&Nat.beq p.2.length ti.ks.length with
 | false=>rw[hb]at h; simp[Tr.run]at h
 | true => rw[hb]at h;simp only[oT]at h;obtain⟨_,h⟩:=Tr.bR h;obtain⟨s1,h6,h⟩:=Tr.ai h;simp only[Tr.run,amd]at h;subst h;exact M3 h6
def rF(st ay:St)(r:Nat):Nat->Nat->Bool
 | _,0=>true
 | j,n+1=>(match st.cell r j,ay.cell r j with | some c,some c'=>Nat.beq c'.s c.s&&Nat.beq c'.m c.m | _,_=>false)&&rF st ay r (j+1) n
theorem L3{st ay:St}(hv:cA st ay){r:Nat}:∀(n j:Nat),rF st ay r j n=true->ay.dU r j n=st.dU r j n
 | 0,_,_=>rfl
 | n+1,j,h=>by
   simp only[rF,ame]at h;obtain⟨h1,h2⟩:=h;split at h1
   . rename_i c c' hc xu;simp only[ame]at h1;obtain⟨c2,e1,_,_,e4⟩:=hv r j c hc;rw[xu]at e1;cases e1;have e:=e4 (beq_eq h1.1) (beq_eq h1.2);subst e;have:ay.kE r j=st.kE r j:=by simp only[St.kE,hc,xu]
     simp only[St.dU,this,L3 hv n (j+1) h2]
   . simp at h1
section
variable{E:En}{base:St}{ops:List Oper}{ns:List Nat}
theorem Dl(hnf:∀ i,kd ns i=false)(hg:bO ops=false):∀(l:List Oper) (i:Nat) (bs:Bd) (v:St),(∀ o∈l,o.guard=none)->eK E.Cy base bs->(∀ e∈bs,e.1<i)->(fP E true ops ns l i base bs).run=some v ->
 ∃ kU,eK E.Cy base kU/\v=aG base kU/\(∀ e∈bs,e∈kU)/\∀ k o,l[k]? = some o->∃ d p mask Vc,o.dst=some d/\(i+k,d,p)∈kU/\(∀ e∈Vc,e∈kU)/\(zj E (view base mask Vc) d o.op).run=some p
 | [],i,bs,v,_,hb,_,h=>by simp only[fP,Tr.run,amd,hg,lx,oF]at h;exact⟨bs,hb,h.symm,fun e he=>he,fun k o hk=>by simp at hk⟩
 | o::r,i,bs,v,p9,hb,hi,h=>by
   have hgo:=p9 o (amz ..);unfold fP at h;simp only[hgo]at h;split at h
   . rename_i d hd;have key:∀(t:Tr (TV×Option Rt)),t=AY E (ns.getD i cU) o d base bs (true&& !kd ns i)->(t.bind fun p=>fP E true ops ns r (i+1) base ((i,d,p)::bs)).run=some v->∃ kU,eK E.Cy base kU/\v=aG base kU/\(∀ e∈bs,e∈kU)/\∀ k o',(o::r)[k]? = some o'->∃ d p mask Vc,o'.dst=some d/\(i+k,d,p)∈kU/\(∀ e∈Vc,e∈kU)/\(zj E (view base mask Vc) d o'.op).run=some p:=by
      intro t ht h;rw[Tr.run_bind]at h;cases hp:t.run with
      | none=>rw[hp]at h; simp at h
      | some p =>
        rw[hp]at h;simp only[oB]at h;rw[ht]at hp;unfold AY at hp;cases ha:(qy o.op&& !(true&& !kd ns i))with
        | true=>rw[ha]at hp; simp[Tr.run]at hp
        | false =>
          rw[ha]at hp;simp only[oF]at hp;cases hc:E.dB d&&pL base d&&base.free d&& !lL d bs with
          | false=>rw[hc]at hp; simp[Tr.run]at hp
          | true =>
            rw[hc]at hp;simp only[oT]at hp;have cz:eK E.Cy base ((i,d,p)::bs):=eK.yJ (fun h=>h) hb hc fun e he=>Nat.ne_of_lt (hi e he)
            obtain⟨kU,g1,g2,g3,g4⟩:=Dl hnf hg r (i+1) ((i,d,p)::bs) v (fun o' jY=>p9 o' (amt _ jY)) cz (fun e he=>by
             rcases amo.1 he with he | he
             . subst he; exact ane _
             . exact apa (hi e he)) h
            refine⟨kU,g1,g2,fun e he=>g3 e (amt _ he),fun k o' hk => ?_⟩;cases k with
            | zero => simp only[amj,amd]at hk;subst hk;exact⟨d,p,_,bs,hd,g3 _ (amz ..),fun e he=>g3 e (amt _ he),hp⟩
            | succ k => obtain⟨d',p',m',b0,q1,q2,q3,q4⟩:=g4 k o' (by simpa using hk);exact⟨d',p',m',b0,q1,by rw[show i+(k+1)=i+1+k by omega]; exact q2,q3,q4⟩
     split at h
     . simp[hnf,Tr.run]at h
     . exact key _ rfl h
   . simp[hnf,Tr.run]at h
end
theorem aaQ{st ay:St}(h:ay.rt=st.rt){r:Nat}:∀(n j:Nat),ay.dU r j n=st.dU r j n
 | 0,_=>rfl
 | n+1,j=>by
   have:ay.kE r j=st.kE r j:=by unfold St.kE St.cell; rw[h]
   simp only[St.dU,this,aaQ h n (j+1)]
theorem wS{base:St}{m:Nat}:∀ {bs:Bd} {t:Nat} {tv:TV},look (view base m bs).tm t=some tv->(∃ i p,(i,t,p)∈bs/\p.1=tv)∨look base.tm t=some tv
 | [],t,tv,h=> .inr h
 | (i0,t0,p0)::r,t,tv,h=>by
   unfold view at h;cases hb:m.testBit i0 with
   | false =>
     rw[hb]at h;rcases wS (bs:=r) h with ⟨i,p,h1,h2⟩ | h1
     . exact .inl ⟨i,p,amt _ h1,h2⟩
     . exact .inr h1
   | true =>
     rw[hb]at h;simp only[oT]at h;rw[cC]at h;split at h
     . rename_i he;subst he;simp only[amd]at h;exact .inl ⟨i0,p0,amz ..,h⟩
     . rcases wS (bs:=r) h with ⟨i,p,h1,h2⟩ | h1
       . exact .inl ⟨i,p,amt _ h1,h2⟩
       . exact .inr h1
theorem Rg{l:List Nat}(hl:0<l.length)(i:Nat):kd (l++[0]) i=false:=by
 cases hf:kd (l++[0]) i with
 | false=>rfl
 | true =>
   exfalso;unfold kd at hf;simp only[ame,amx,anq]at hf;rcases amv i l.length with h | h
   . have:=hf.2 (l.length-i-1) (by rw[amf]; simp; omega);rw[show i+1+(l.length-i-1)=l.length by omega]at this;simp[List.getD]at this
   . have:=hf.1 0 (by omega);have e:(l++[0]).getD i 0=0:=by
      rw[List.getD];rcases amv i (l++[0]).length with h2 | h2
      . have:i=l.length:=by rw[amf]at h2; simp at h2; omega
        subst this;simp
      . rw[amw h2]; rfl
     rw[e]at this;simp at this
section
variable{tm:List (Nat×TV)}
theorem qx{st:St}:∀(ks:List K) (l:List AV),(st.aQ tm).readAll ks l=st.readAll ks l
 | [],[]=>rfl
 | [],_::_=>rfl
 | _::_,[]=>rfl
 | k::ks,a::l=>by simp only[St.readAll,cT,qx ks l]
theorem vG{fr:Bool}:∀(ks:List K) (l:List AV) (st:St) (q:St×Tl ks),jV st fr ks l=some q->jV (st.aQ tm) fr ks l=some (q.1.aQ tm,q.2)/\cA st q.1
 | [],[],st,q,h=>by cases h; exact⟨rfl,cA.refl _⟩
 | [],_::_,_,_,h=>by simp[jV]at h
 | k::ks,[],_,_,h=>by cases k <;> simp[jV]at h
 | .sl e bZ::ks,a::l,st,q,h=>by
   unfold jV at h ⊢;split at h
   . rename_i ca x hx;split at h
     . rename_i y hy;cases h;obtain⟨i1,i2⟩:=vG ks l ca y hy;have hx2:(bif fr then (st.aQ tm).cW (.sl e bZ) a else bif a.bV||AK ((st.aQ tm).bG (.sl e bZ) a)then (match (st.aQ tm).bG (.sl e bZ) a with | some x=>some (st.aQ tm,x) | none=>none)else none)=some (ca.aQ tm,x)/\cA st ca:=by
        cases fr with
        | true => have hx:st.cW (.sl e bZ) a=some (ca,x):=hx;exact⟨by show(st.aQ tm).cW (.sl e bZ) a=_; rw[fF,hx]; rfl,ir hx⟩
        | false =>
          simp only[oF,cT]at hx ⊢;cases hb:a.bV||AK (st.bG (.sl e bZ) a)with
          | false=>rw[hb]at hx; simp at hx
          | true =>
            rw[hb]at hx;simp only[oT]at hx ⊢;cases hr:st.bG (.sl e bZ) a with
            | none=>rw[hr]at hx; simp at hx
            | some z=>rw[hr]at hx; cases hx; exact⟨rfl,cA.refl _⟩
       refine⟨?_,hx2.2.trans i2⟩;split
       . rename_i s2 x2 h2;have e:=h2.symm.trans hx2.1;cases e;rw[i1]
       . rename_i h2;have e:=h2.symm.trans hx2.1;cases e
     . simp at h
   . simp at h
 | .int k::ks,a::l,st,q,h=>by
   unfold jV at h ⊢;rw[cT];split at h
   . rename_i x y hx hf hy;cases h;obtain⟨i1,i2⟩:=vG ks l st y hy;rw[hx,hf,i1];exact⟨rfl,i2⟩
   . simp at h
 | .bool::ks,a::l,st,q,h=>by
   unfold jV at h ⊢;rw[cT];split at h
   . rename_i x y hx hf hy;cases h;obtain⟨i1,i2⟩:=vG ks l st y hy;rw[hx,hf,i1];exact⟨rfl,i2⟩
   . simp at h
 | .str::ks,a::l,st,q,h=>by
   unfold jV at h ⊢;rw[cT];split at h
   . rename_i x y hx hf hy;cases h;obtain⟨i1,i2⟩:=vG ks l st y hy;rw[hx,hf,i1];exact⟨rfl,i2⟩
   . simp at h
theorem Lt{st:St}{e:TypeId}{ks:List K}{y:TV}{q:St×List (Tl ks)}(h:st.news e ks y=some q):(st.aQ tm).news e ks y=some (q.1.aQ tm,q.2)/\cA st q.1:=by
 have src:∀ b:AV,(match st.source (.sl e ks) ks b with | some (ay,z)=>some (ay,aW z) | none=>none)=some q->(match (st.aQ tm).source (.sl e ks) ks b with | some (ay,z)=>some (ay,aW z) | none=>none)=some (q.1.aQ tm,q.2)/\cA st q.1:=fun b h=>by
  unfold St.source at h ⊢;cases hf:flat ks with
  | true =>
    rw[hf]at h;simp only[oT,cT]at h ⊢;cases hr:st.bG (.sl e ks) b with
    | none=>rw[hr]at h; simp at h
    | some z=>rw[hr]at h; cases h; exact⟨rfl,cA.refl _⟩
  | false =>
    rw[hf]at h;simp only[oF,fF]at h ⊢;cases hr:st.cW (.sl e ks) b with
    | none=>rw[hr]at h; simp at h
    | some z=>rw[hr]at h; cases h; exact⟨rfl,ir hr⟩
 cases y with
 | v av =>
   cases av with
   | d k s =>
     cases k with
     | str =>
       simp only[St.news]at h ⊢;split at h
       . rename_i z hz;cases h;exact⟨rfl,cA.refl _⟩
       . simp at h
     | _=>exact src _ h
   | qN r n =>
     simp only[St.news]at h ⊢;cases hb:Nat.beq n 1 with
     | false=>rw[hb]at h; simp at h
     | true =>
       rw[hb]at h;simp only[oT]at h ⊢;show(match look st.rt r with | some ⟨true,l⟩=>(match jV (st.aQ tm) true ks (l.map wg)with | some (ay,x)=>some (ay,[x]) | none=>none) | _=>none)=_/\_;split at h
       . rename_i l hl;rw[hl];split at h
         . rename_i ca x hx;cases h;obtain⟨i1,i2⟩:=vG (tm:=tm) ks _ st _ hx;dsimp only;rw[i1];exact⟨rfl,i2⟩
         . simp at h
       . simp at h
   | _=>exact src _ h
 | _=>simp[St.news]at h
theorem wj{st:St}{d:Nat}{tv:TV}{R:Rt}(h:st.free d=true):cA st (st.a8 d (tv,some R)):=fun r j c hc=>by
 have cY:d≠r:=fun e=>by
  subst e;unfold St.free at h;unfold St.cell at hc;cases hl:look st.rt d with
  | none=>rw[hl]at hc; simp at hc
  | some R=>rw[hl]at h; simp at h
 refine⟨c,?_,oR _,oR _,fun _ _=>rfl⟩;show(match look ((d,R)::st.rt) r with | some R=>R.cells[j]? | none=>none)=_;rw[aN,if_neg cY];exact hc
structure WTm (E:En) (v ca:St) (d:Nat) (tv:TV) (F:St->Tr St):Prop where
 eq:ca=⟨(d,tv)::v.tm,ca.rt⟩
 may:¬ tv.iK
 ver:cA v ca
 all:∀ tm,(F (v.aQ tm)).run=some ⟨(d,tv)::tm,ca.rt⟩
theorem NV{E:En}{v ca:St}{d e:Nat}{te:TI}{x y:TV}(h:(v.append d e te x y).run=some ca):∃ tv,WTm E v ca d tv fun s=>s.append d e te x y:=by
 unfold St.append at h;obtain⟨a,h1,h⟩:=Tr.ai h;obtain⟨p,h2,h⟩:=Tr.ai h;obtain⟨q,h3,h⟩:=Tr.ai h;cases hb:q.1.free d&&Nat.blt 0 te.bytes with
 | false=>rw[hb]at h; simp[Tr.run]at h
 | true =>
   rw[hb]at h;simp only[oT]at h;obtain⟨hn,h⟩:=Tr.bR h;simp only[Tr.run,amd]at h;subst h;have e2:∀ tm,(v.aQ tm).cW (.sl e te.ks) a=some (p.1.aQ tm,p.2):=fun tm=>by rw[fF,h2]; rfl
   have e3:∀ tm,(p.1.aQ tm).news e te.ks y=some (q.1.aQ tm,q.2):=fun tm=>(Lt h3).1
   have hp:p.1=p.1.aQ v.tm:=by have:=e2 v.tm;rw[show v.aQ v.tm=v from rfl,h2]at this;exact amL (fun o=>(o.getD (v,[]):St×T (.sl e te.ks)).1) this
   have hq:q.1.tm=v.tm:=by have:=e3 v.tm;rw[<- hp,h3]at this;exact amL (fun o=>(o.getD (v,[]):St×List (Tl te.ks)).1.tm) this
   have yO:q.1.free d=true:=by simp only[ame]at hb; exact hb.1
   refine⟨.v (.ref d 0 0),by rw[<- hq]; rfl,fun h=>h,((ir h2).trans (Lt (tm:=v.tm) h3).2).trans (wj yO),fun tm => ?_⟩;have e4:((q.1.aQ tm).free d&&Nat.blt 0 te.bytes)=true:=hb;simp only[St.append,h1,Tr.cu,e2,e3,e4,oT,hn,Tr.need,Tr.run];rfl
theorem IY{E:En}{v ca:St}{d e:Nat}{te:TI}{x y:TV}(h:(v.pk d e te x y).run=some ca):∃ tv,WTm E v ca d tv fun s=>s.pk d e te x y:=by
 unfold St.pk at h;obtain⟨p,h2,h⟩:=Tr.ai h;obtain⟨ys,h3,h⟩:=Tr.ai h;cases hb:p.1.free d&&Nat.blt 0 te.bytes with
 | false=>rw[hb]at h; simp[Tr.run]at h
 | true =>
   rw[hb]at h;simp only[oT]at h;obtain⟨hn,h⟩:=Tr.bR h;simp only[Tr.run,amd]at h;subst h;have e2v:(∀ tm,(v.aQ tm).F9 e te.ks x=some (p.1.aQ tm,p.2))/\cA v p.1:=by
    unfold St.F9 at h2 ⊢;cases x with
    | bc r j s m e' bZ x' =>
      simp only[fx]at h2 ⊢;split at h2
      . rename_i c hc;cases l6:Nat.beq c.s s&&Nat.beq c.m m with
        | false=>rw[l6]at h2; simp at h2
        | true =>
          rw[l6]at h2;simp only[oT]at h2;split at h2
          . rename_i z hz;cases h2;refine⟨fun tm => ?_,cA.set hc (aoc _) (ane _)⟩;simp only[hc,l6,oT,hz,eY]
          . simp at h2
      . simp at h2
    | v a => have h2:v.cW (.sl e te.ks) a=some p:=h2;exact⟨fun tm=>by show(v.aQ tm).cW (.sl e te.ks) a=_; rw[fF,h2]; rfl,ir h2⟩
    | _=>simp at h2
   have e3:∀ tm,(p.1.aQ tm).HF e te.ks y=some ys:=fun tm=>by
    rw[<- h3];unfold St.HF;cases y with
    | v a =>
      cases a with
      | qN r n=>simp only[qx]; rfl
      | _=>rfl
    | _=>rfl
   have hp:p.1.tm=v.tm:=by have:=e2v.1 v.tm;rw[show v.aQ v.tm=v from rfl,h2]at this;exact amL (fun o=>(o.getD (v,[]):St×T (.sl e te.ks)).1.tm) this
   have yO:p.1.free d=true:=by simp only[ame]at hb; exact hb.1
   refine⟨.bc d 0 0 0 e te.ks (cat te.ks (aW p.2) ys),by rw[<- hp]; rfl,fun h=>h,e2v.2.trans (wj yO),fun tm => ?_⟩;have e4:((p.1.aQ tm).free d&&Nat.blt 0 te.bytes)=true:=hb;simp only[St.pk,Tr.cu,e2v.1,e3,e4,oT,hn,Tr.need,Tr.run];rfl
theorem IS{E:En}{v ca:St}{d e:Nat}{te:TI}{n:Int}(h:(v.pg d e te n).run=some ca):∃ tv,WTm E v ca d tv fun s=>s.pg d e te n:=by
 unfold St.pg at h;cases hb:v.free d&&Nat.blt 0 te.bytes with
 | false=>rw[hb]at h; simp[Tr.run]at h
 | true =>
   rw[hb]at h;simp only[oT]at h;obtain⟨hn,h⟩:=Tr.bR h;simp only[Tr.run,amd]at h;subst h;have yO:v.free d=true:=by simp only[ame]at hb; exact hb.1
   refine⟨.v (.ref d 0 0),rfl,fun h=>h,wj yO,fun tm => ?_⟩;have e4:((v.aQ tm).free d&&Nat.blt 0 te.bytes)=true:=hb;simp only[St.pg,e4,oT,hn,Tr.need,Tr.run];rfl
theorem B1{E:En}{v ca:St}{d:Nat}{c:Call}{x y:Operand}(hc:c.callee= .builtin .append)(ha:c.args.toList=[x,y])(h:(Cf E v (some d) (.call c)).run=some ca) :
 ∃ tv,ca=⟨(d,tv)::v.tm,ca.rt⟩/\¬ tv.iK/\cA v ca/\∀ tm,(v.aQ tm).get x=v.get x->(v.aQ tm).get y=v.get y->(Cf E (v.aQ tm) (some d) (.call c)).run=some ⟨(d,tv)::tm,ca.rt⟩:=by
 unfold Cf at h ⊢;simp only[hc,ha]at h ⊢;split at h
 . rename_i d' t t2 ts hd yM;cases hd;obtain⟨ti,h1,h⟩:=Tr.ai h;obtain⟨te,h2,h⟩:=Tr.ai h;obtain⟨tx,h3,h⟩:=Tr.ai h;obtain⟨ty,h4,h⟩:=Tr.ai h;have BX:∀ tm,(v.aQ tm).PB te.ks tx ty=v.PB te.ks tx ty:=fun tm=>rfl
   cases hb:E.str t2||(E.sl t2).isSome with
   | false =>
     rw[hb]at h;simp only[oF]at h;cases l6:E.i64 t2&&fV tx with
     | false=>rw[l6]at h; simp[Tr.run]at h
     | true => rw[l6]at h;simp only[oT]at h;obtain⟨p,h5,h⟩:=Tr.ai h;obtain⟨tv,k⟩:=IS (E:=E) h;exact⟨tv,k.eq,k.may,k.ver,fun tm e1 e2=>by simp only[h1,h2,e1,e2,h3,h4,Tr.cu,hb,l6,oF,oT,h5]; exact k.all tm⟩
   | true =>
     rw[hb]at h;simp only[oT]at h;cases hs:v.PB te.ks tx ty with
     | true => rw[hs]at h;obtain⟨tv,k⟩:=IY (E:=E) h;exact⟨tv,k.eq,k.may,k.ver,fun tm e1 e2=>by simp only[h1,h2,e1,e2,h3,h4,Tr.cu,hb,oT,BX,hs]; exact k.all tm⟩
     | false => rw[hs]at h;obtain⟨tv,k⟩:=NV (E:=E) h;exact⟨tv,k.eq,k.may,k.ver,fun tm e1 e2=>by simp only[h1,h2,e1,e2,h3,h4,Tr.cu,hb,oT,BX,hs]; exact k.all tm⟩
 . simp[Tr.run]at h
end
def nX(l:List Oper)(J:List Nat)(nd:Nat)(t:Nat):Bool:=J.all fun j=>nd.testBit j||(match mh l j with | some d=> !Nat.beq d t | none=>true)
def opK(l:List Oper)(J:List Nat):Operand->Bool
 | .tmp t=>nX l J 0 t
 | _=>true
def IK:AV->TV->Bool
 | .ptr r j,.v (.ptr r' j')=>Nat.beq r r'&&Nat.beq j j'
 | .ref r j s,.v (.ref r' j' s')=>Nat.beq r r'&&(Nat.beq j j'&&Nat.beq s s')
 | _,_=>false
theorem Ow{b:AV}{tv:TV}(h:IK b tv=true):tv= .v b:=by
 unfold IK at h;split at h
 . simp only[ame]at h;rw[beq_eq h.1,beq_eq h.2]
 . simp only[ame]at h;rw[beq_eq h.1,beq_eq h.2.1,beq_eq h.2.2]
 . simp at h
def R6(tv:TV):Tr (TV×Option Rt)->Bool
 | .ret (.v b,none)=>IK b tv
 | _=>false
def abw(l:List Oper)(i j d:Nat):Bool:=(List.range i).all fun k=>Nat.beq k j||(match mh l k with | some d'=> !Nat.beq d' d | none=>true)
theorem So(E:En)(st:St)(d:Nat)(t:TypeId)(x:Operand):zj E st d (.load t x)=Tr.cu (E.ti t) fun ti=>Tr.cu (st.get x) fun tv=>Tr.cu tv.Ig fun a=>Tr.cu (st.load ti.ks.length a) fun l=>Tr.cu (iH ti.agg l) fun tv=> .ret (tv,none):=rfl
def SG(E:En)(l:List Oper)(ns J:List Nat)(v ca:St)(j:Nat)(op:Op):Bool:=match op with
 | .load t (.tmp B)=>(match look v.tm B,E.ti t with
   | some (.v (.ptr r j0)),some ti=>nX l J (ns.getD j 0) B&&rF v ca r j0 ti.ks.length
   | _,_=>false)
 | _=>false
def EB(E:En)(l:List Oper)(ns:List Nat)(i:Nat)(J:List Nat)(st v ca:St)(j:Nat):Bool:=match l[j]? with
 | some o=>(match o.dst with
   | some d=>pL st d&&ca.free d&&abw l i j d&&(match look v.tm d with
     | some tv=>SG E l ns J v ca j o.op||R6 tv (zj E ⟨v.tm.filter (fun p=>nX l J (ns.getD j 0) p.1),ca.rt⟩ d o.op)
     | none=>false)
   | none=>false)
 | none=>false
def RE(v:St)(l:List Oper)(J:List Nat):Bool:=J.all fun j=>match mh l j with | some d=>v.free d | none=>true
def LW(l:List Oper)(J:List Nat)(v:St)(op:Op)(dst:Option Nat):Bool:=match op,dst with
 | .store t a x,none=>opK l J a&&opK l J x
 | .call c,some d=>(match c.callee,c.args.toList with
   | .builtin .append,[x,y]=>opK l J x&&(opK l J y&&(pL v d&&nX l J 0 d))
   | _,_=>false)
 | _,_=>false
def oJ(E:En)(ops:Array Oper)(i:Nat)(J:List Nat)(st:St):Tr St :=
 bif ki ops.toList 0&&(!bO ops.toList&&(!bO (ops.toList.take i)&&(Nat.blt i ops.toList.length&&((List.range i).all (fun j=>iW J j||((bM ops.toList []).getD i 0).testBit j)&&(List.range (ops.toList.length-i-1)).all (fun k=>(List.range (i+1)).all fun j=>((bM ops.toList []).getD (i+1+k) 0).testBit j)))))then
  (fP E true (ops.toList.take i) (bM ops.toList []++[0]) (ops.toList.take i) 0 st []).bind fun v=>match ops.toList[i]? with
    | some o=>bif xF E o.dst&&(LW ops.toList J v o.op o.dst&&RE v ops.toList J)then
       (Cf E v o.dst o.op).bind fun ca=>bif J.all (EB E ops.toList (bM ops.toList []) i J st v ca)then fP E true ops.toList (bM ops.toList []) (ops.toList.drop (i+1)) (i+1) ca []else .fail
       else .fail
    | none=> .fail
 else .fail
def opsOf(c:Code):Array Oper:=match c with | .region _ ops _=>ops | _ => #[]
theorem uA{E:En}{v ca:St}{t:Nat}{a x:Operand}{tm:List (Nat×TV)}(h:(Cf E v none (.store t a x)).run=some ca)(ha:(v.aQ tm).get a=v.get a)(hx:(v.aQ tm).get x=v.get x):(Cf E (v.aQ tm) none (.store t a x)).run=some (ca.aQ tm):=by
 unfold Cf at h ⊢;obtain⟨ti,h1,h⟩:=Tr.ai h;obtain⟨ta,h2,h⟩:=Tr.ai h;obtain⟨av,h3,h⟩:=Tr.ai h;obtain⟨tx,h4,h⟩:=Tr.ai h;obtain⟨p,h5,h⟩:=Tr.ai h;have hl:(v.aQ tm).live=v.live:=funext fun a=>qK a
 simp only[ha,hx,h1,h2,h3,h4,h5,Tr.cu,hl];cases hb:p.2.all v.live&&Nat.beq p.2.length ti.ks.length with
 | false=>rw[hb]at h; simp[Tr.run]at h
 | true => rw[hb]at h;simp only[oT]at h ⊢;obtain⟨hn,h⟩:=Tr.bR h;obtain⟨s1,h6,h⟩:=Tr.ai h;simp only[Tr.run,amd]at h;subst h;have Pe:(v.aQ tm).K1 av p.2=true:=hn;rw[DN,h6,Pe];rfl
theorem I5{E:En}{l:List Oper}{J:List Nat}{v ca:St}{op:Op}{dst:Option Nat}(hw:LW l J v op dst=true)(h:(Cf E v dst op).run=some ca) :
 ∃ pre:List (Nat×TV),ca=⟨pre++v.tm,ca.rt⟩/\(∀ t tv,look pre t=some tv->¬ tv.iK/\look v.tm t=none/\nX l J 0 t=true)/\cA v ca /\
  ∀ tm,(∀ x,opK l J x=true->(v.aQ tm).get x=v.get x)->(Cf E (v.aQ tm) dst op).run=some ⟨pre++tm,ca.rt⟩:=by
 unfold LW at hw;split at hw
 . simp only[ame]at hw;refine⟨[],?_,fun t tv ht=>by simp[look]at ht,B5 h,fun tm hx=>uA h (hx _ hw.1) (hx _ hw.2)⟩;have:=uA (tm:=v.tm) h rfl rfl;rw[show v.aQ v.tm=v from rfl,h]at this;exact am1 this
 . split at hw
   . rename_i hc ha;simp only[ame]at hw;obtain⟨h1,h2,h3,h4⟩:=hw;obtain⟨tv,k1,k2,k3,k4⟩:=B1 hc ha h;refine⟨[(_,tv)],k1,fun t ko ht => ?_,k3,fun tm hx=>k4 tm (hx _ h1) (hx _ h2)⟩;rw[aN]at ht;split at ht
     . rename_i e;cases ht;subst e;refine⟨k2,?_,h4⟩;unfold pL at h3;split at h3
       . assumption
       . simp at h3
     . simp[look]at ht
   . simp at hw
 . simp at hw
theorem uY:∀(l l':List (Nat×TV)) (t:Nat),look (l++l') t=match look l t with | some x=>some x | none=>look l' t
 | [],_,_=>rfl
 | (m,x)::r,l',t=>by
   rw[List.cons_append,aN,aN];split
   . rfl
   . exact uY r l' t
theorem Gb{base:St}{S S':Nat}:∀ {bs:Bd},(∀ i t p,(i,t,p)∈bs->p.2=none∨(S.testBit i=true/\S'.testBit i=true))->(view base S bs).rt=(view base S' bs).rt
 | [],_=>rfl
 | (i,t,p)::r,h=>by
   have ih:=Gb (base:=base) (S:=S) (S':=S') (bs:=r) fun i t p hm=>h i t p (amt _ hm)
   unfold view;rcases h i t p (amz ..)with hp | ⟨h1,h2⟩
   . cases S.testBit i <;> cases S'.testBit i <;> simp only[oT,oF] <;> (try unfold St.a8) <;> (try rw[hp]) <;> exact ih
   . rw[h1,h2];simp only[oT];unfold St.a8;cases p.2 <;> simp only[ih]
theorem Ak{base:St}{m:Nat}:∀ {bs:Bd} {t:Nat} {R:Rt},look (view base m bs).rt t=some R->(∃ i p,(i,t,p)∈bs/\p.2=some R)∨look base.rt t=some R
 | [],t,R,h=> .inr h
 | (i,t',p)::r,t,R,h=>by
   unfold view at h;have rest:look (view base m r).rt t=some R->(∃ i' p',(i',t,p')∈(i,t',p)::r/\p'.2=some R)∨look base.rt t=some R:=fun h=>by
    rcases Ak h with ⟨i',p',h1,h2⟩ | h1
    . exact .inl ⟨i',p',amt _ h1,h2⟩
    . exact .inr h1
   cases hm:m.testBit i with
   | false=>rw[hm]at h; exact rest h
   | true =>
     rw[hm]at h;simp only[oT]at h;unfold St.a8 at h;cases hp:p.2 with
     | none=>rw[hp]at h; exact rest h
     | some R' =>
       rw[hp]at h;simp only[aN]at h;split at h
       . rename_i e;subst e;cases h;exact .inl ⟨i,p,amz ..,hp⟩
       . exact rest h
theorem As{st:St}(h:cJ st)(t:Nat):st.tv t=look st.tm t:=by
 unfold St.tv;split
 . rename_i q want y gg l hq;exact absurd trivial (h t _ hq)
 . rfl
theorem o9(f:Nat->Bool):∀(l:List (Nat×TV)) (t:Nat),look (l.filter fun p=>f p.1) t=if f t then look l t else none
 | [],t=>by simp[look]
 | (m,x)::r,t=>by
   rw[am6];have ih:=o9 f r t;cases hm:f m with
   | true =>
     simp only[if_true];rw[aN,aN];by_cases e:m=t
     . subst e; simp[hm]
     . rw[if_neg e,if_neg e,ih]
   | false =>
     simp only[amX,anu];rw[ih,aN];by_cases e:m=t
     . subst e; simp[hm]
     . rw[if_neg e]
theorem nQ:∀ {l:List Nat} {n:Nat},iW l n=true->n∈l
 | [],n,h=>by simp[iW]at h
 | x::r,n,h=>by
   simp only[iW,anr]at h;rcases h with h | h
   . rw[beq_eq h]; exact amz ..
   . exact amt _ (nQ h)
theorem yE{l:List Oper}(h:bO l=false){i:Nat}{o:Oper}(ho:l[i]? = some o):o.guard=none:=by
 unfold bO at h;rw[List.any_eq_false]at h;have:=h o (amk ho);cases hg:o.guard with
 | none=>rfl
 | some g=>rw[hg]at this; simp at this
section
variable{P:Program}{E:En}
theorem N1{ops ah2:Array Oper}{Q:Exit->Act->World->Prop}{j:Nat}{o:Oper}(h:ops[j]? = some o)(h':ah2[j]? = some o)(hg:o.guard=none){K:Act->World->Prop}{a:Act}{w:World}(hw:wpOp P ah2 Q j K a w):wpOp P ops Q j K a w:=by
 unfold wpOp at hw ⊢;have e:∀(ops:Array Oper),Region.wanted o (yielded ops a.tmps)=true:=fun ops=>by simp[Region.wanted,hg]
 simp only[h,h',e]at hw ⊢;exact hw
theorem FC(hT:cH P E)(eF:dO P E){ops:Array Oper}{i:Nat}{J:List Nat}{cx:Cx P}{a:Act}{w:World}{st ay:St}(h:Good cx E st a w)(au:(oJ E ops i J st).run=some ay):wpAny P .any ops (QO cx E (.qO ay)) ops.size (Array.replicate ops.size false) a { w with drawn:=w.drawn+1 }:=by
 have hW:tX P E:=wu hT eF;unfold oJ at au;generalize hc:(ki ops.toList 0&&(!bO ops.toList&&(!bO (ops.toList.take i)&&(Nat.blt i ops.toList.length&&((List.range i).all (fun j=>iW J j||((bM ops.toList []).getD i 0).testBit j)&&(List.range (ops.toList.length-i-1)).all (fun k=>(List.range (i+1)).all fun j=>((bM ops.toList []).getD (i+1+k) 0).testBit j))))))=c at au;cases c with
 | false=>simp[Tr.run]at au
 | true =>
 simp only[oT]at au;simp only[ame,am0,amx,anq,anr]at hc;obtain⟨Mj,U6,Yn,alM,ad6,Ur⟩:=hc;have hi:i<ops.size:=by have:=anj (amA alM);simpa using this
 rw[Tr.run_bind]at au;cases hv:(fP E true (ops.toList.take i) (bM ops.toList []++[0]) (ops.toList.take i) 0 st []).run with
 | none=>rw[hv]at au; simp at au
 | some v =>
 rw[hv]at au;simp only[oB]at au;split at au;rotate_left
 . simp[Tr.run]at au
 rename_i o ho;generalize hc:(xF E o.dst&&(LW ops.toList J v o.op o.dst&&RE v ops.toList J))=c at au;cases c with
 | false=>simp[Tr.run]at au
 | true =>
 simp only[oT]at au;simp only[ame]at hc;obtain⟨U5,hlw,hnr⟩:=hc;rw[Tr.run_bind]at au;cases ad7:(Cf E v o.dst o.op).run with
 | none=>rw[ad7]at au; simp at au
 | some ca =>
 rw[ad7]at au;simp only[oB]at au;generalize hc:J.all (EB E ops.toList (bM ops.toList []) i J st v ca)=c at au;cases c with
 | false=>simp[Tr.run]at au
 | true =>
 simp only[oT]at au;have ad8:=amx.1 hc;obtain⟨pre,aaV,UA,Um,Fm⟩:=I5 hlw ad7;obtain⟨hn,dh,Z,g,hr⟩:=h;have hlen:(bM ops.toList []).length=ops.size:=by rw[rb]; simp
 have Mq:(ops.toList.take i).toArray.toList=ops.toList.take i:=by simp
 have UB:(ops.toList.take i).toArray.size=i:=by simp; omega
 have aaW:∀ j,j<i->(ops.toList.take i).toArray[j]? = ops[j]? := fun j hj=>by rw[<- amh,Mq,anl,if_pos hj,amh]
 rw[amh]at ho;have alN:=ml (P:=P) (E:=E) (ops:=(ops.toList.take i).toArray) (ns:=bM ops.toList []++[0]) (i0:=0) hT eF (dr:=true) hn (ops.toList.take i) 0 (by simp) (amr _) (oR _) [] v ⟨trivial,hn.MB,fun e he=>by simp at he,fun _ _ _ _ he=>by simp at he⟩ (by rw[Mq]; exact hv);obtain⟨i1,bsF,k1,k2,k3,k4,k5,k6,k7,k8⟩:=alN;replace k5:=k5 (by rw[Mq]; exact Yn);have hk8:i1=i/\v=aG st bsF:=by
  rcases k8 with ⟨e1,e2⟩ | ⟨o',Ki,e1,_,e3,_⟩
  . rw[Mq,Yn]at e2;exact⟨e1.trans UB,e2⟩
  . exfalso;have T9:i1<i:=by
     have:=(amG.1 e1).1;rw[UB]at this;exact this
    have hf:=e3 rfl;unfold kd at hf;simp only[ame,amx,anq]at hf;have:=hf.2 (ops.size-i1-1) (by rw[amf,hlen]; simp; omega);rw[show i1+1+(ops.size-i1-1)=(bM ops.toList []).length by rw[hlen]; omega]at this;simp[List.getD]at this
 obtain⟨e1,rfl⟩:=hk8;subst e1;have vS:∀ e∈bsF,e.1<i1:=fun e he=>(k4 e he).2.1
 have UC:∀ e∈bsF,mh ops.toList e.1=some e.2.1:=fun e he=>by obtain⟨_,h2,o',h3,h4⟩:=k4 e he;rw[aaW _ h2]at h3;unfold mh;rw[amh,h3];exact h4
 have aaX:∀ i' t p,(i',t,p)∈bsF->iW J i'=true->p.2=none:=fun i' t' p hp hJ=>by
  cases Ch:p.2 with
  | none=>rfl
  | some R =>
    exfalso;have:=amx.1 hnr i' (nQ hJ);rw[UC _ hp]at this;simp only[St.free]at this;have hl:look (aG st bsF).rt t'=some R:=by rw[jw st (bitsOf bsF) bsF (fun i t p h=>eZ h),jt _ k2];exact .inl ⟨i',p,hp,eZ hp,Ch⟩
    rw[hl]at this;simp at this
 have hNV:∀ S,cJ (view st S bsF):=fun S t tv ht=>by
  rw[e8 _ k2]at ht;rcases ht with ⟨i',p,h1,_,rfl⟩ | h1
  . exact k5 i' t p h1
  . exact hn t tv h1
 have hNA:cJ (aG st bsF):=fun t tv ht=>by
  rw[ct k2]at ht;rcases ht with ⟨i',p,h1,rfl⟩ | h1
  . exact k5 i' t p h1
  . exact hn t tv h1
 have hvw:∀ S,(∀ j,j<i1->iW J j=false->S.testBit j=true)->view st S bsF=(aG st bsF).aQ (view st S bsF).tm:=fun S hS=>by
  unfold St.aQ;have:(aG st bsF).rt=(view st S bsF).rt:=by
   rw[jw st (bitsOf bsF) bsF (fun i t p h=>eZ h)];refine Gb fun i t p h => ?_
   cases hJ:iW J i with
   | true=>exact .inl (aaX i t p h hJ)
   | false=>exact .inr ⟨eZ h,hS i (vS _ h) hJ⟩
  rw[this]
 have mN:∀ S nd t,(∀ j,j<i1->iW J j=false->S.testBit j=true)->(∀ b,nd.testBit b=true->b<i1->S.testBit b=true)->nX ops.toList J nd t=true->look (view st S bsF).tm t=look (aG st bsF).tm t:=fun S nd t hS hnd hk=>by
  apply Option.ext;intro tv;show look _ t=some tv↔look _ t=some tv;rw[e8 _ k2,ct k2];constructor
  . rintro(⟨i',p,h1,_,h3⟩ | h1)
    . exact .inl ⟨i',p,h1,h3⟩
    . exact .inr h1
  . rintro(⟨i',p,h1,h3⟩ | h1)
    . refine .inl ⟨i',p,h1,?_,h3⟩;have vZ:=vS _ h1;cases hJ:iW J i' with
      | false=>exact hS i' vZ hJ
      | true =>
        have:=amx.1 hk i' (nQ hJ);rw[UC _ h1]at this;simp only[anr,am0]at this;rcases this with h | h
        . exact hnd i' h vZ
        . exact absurd rfl (anp h)
    . exact .inr h1
 have lE:∀ S (x:Operand),(∀ j,j<i1->iW J j=false->S.testBit j=true)->opK ops.toList J x=true->((aG st bsF).aQ (view st S bsF).tm).get x=(aG st bsF).get x:=fun S x hS hk=>by
  rw[<- hvw S hS];cases x with
  | tmp t => show(view st S bsF).tv t=(aG st bsF).tv t;rw[As (hNV S),As hNA];exact mN S 0 t hS (fun b hb=>by simp at hb) hk
  | _=>rfl
 have ah3:∀ S,cJ ⟨pre++(view st S bsF).tm,ca.rt⟩:=fun S t tv ht=>by
  have ht:look (pre++(view st S bsF).tm) t=some tv:=ht;rw[uY]at ht;split at ht
  . rename_i x hx;cases ht;exact(UA t _ hx).1
  . exact hNV S t tv ht
 have alO:∀ x,(bM ops.toList []++[0]).getD x cU=(bM ops.toList []++[0]).getD x cU:=fun _=>rfl
 refine Qp (P:=P) (E:=E) (cx:=cx) (Q:=QO cx E (.qO ay)) (i:=i1) (J:=iW J) (base:=st) (bsF:=bsF) (G:=fun S=>⟨pre++(view st S bsF).tm,ca.rt⟩) Mj hi ?_ ?_ ?_ ?_ ?_ ?_ ops.size (Array.replicate ops.size false) 0 false a _ Z g (by simp) (fun k hk => ?_) (fun k _=>anN k) ?_ (fun k hk => ?_) (fun hh=>by simp at hh) ?_ dh
 ·
  intro j hj cx S a w Z g next Q hS Ug hr dh rX;have jY:∃ o',ops[j]? = some o':=⟨ops[j]'(by omega),by simp⟩;obtain⟨o',jY⟩:=jY;refine N1 jY (by rw[aaW j hj]; exact jY) (yE U6 (by rw[amh]; exact jY)) ?_;refine k7 j (amr _) hj cx S a w Z g next Q (fun k h1 h2 h3=>hS k h1 h2 ?_) Ug hr dh rX;have nP:j<(bM ops.toList []).length:=by rw[hlen]; omega
  rw[List.getD,amW nP]at h3;exact h3
 . intro j hj hJ;rcases ad6 j hj with h | h
   . rw[hJ]at h; simp at h
   . exact h
 . intro k hik hk j hj;have:=Ur (k-i1-1) (by simp; omega) j (by omega);rw[show i1+1+(k-i1-1)=k by omega]at this;exact this
 ·
  intro S a w Z g next hS BI hr dh rX;have hSt:(Cf E (view st S bsF) o.dst o.op).run=some ⟨pre++(view st S bsF).tm,ca.rt⟩:=by
   have:=Fm (view st S bsF).tm fun x hx=>lE S x hS hx
   rw[<- hvw S hS]at this;exact this
  refine kh ho (yE U6 (by rw[amh]; exact ho)) ?_;obtain⟨_,Mi⟩:=hW cx Z g _ a w o _ hr (hNV S) dh U5 hSt;exact Mi _ _ rX
 ·
  intro S j a w Z g next hS BI hj hJ Ug hnd hr dh rX;have hl:=ad8 j (nQ hJ);unfold EB at hl;split at hl;rotate_left
  . simp at hl
  rename_i o' jY;rw[amh]at jY;split at hl;rotate_left
  . simp at hl
  rename_i d hd;simp only[ame]at hl;obtain⟨⟨⟨l1,l2⟩,l3⟩,l4⟩:=hl;split at l4;rotate_left
  . simp at l4
  rename_i tv oV;have alP:∃ p,(j,d,p)∈bsF/\p.1=tv:=by
   rw[ct k2]at oV;rcases oV with ⟨i',p,h1,h3⟩ | h1
   . have vZ:=vS _ h1;have:=amx.1 l3 i' (anq.2 vZ);rw[UC _ h1]at this;simp only[anr,am0]at this;rcases this with h | h
     . rw[beq_eq h]at h1; exact⟨p,h1,h3⟩
     . exact absurd rfl (anp h)
   . unfold pL at l1;rw[h1]at l1;simp at l1
  obtain⟨p,hp,hpt⟩:=alP;have Ch:=aaX _ _ _ hp hJ;have hq:(zj E ⟨(aG st bsF).tm.filter (fun p=>nX ops.toList J ((bM ops.toList []).getD j 0) p.1),ca.rt⟩ d o'.op).run=some (tv,none):=by
   rw[anr]at l4;rcases l4 with l4 | l4
   rotate_left
   . unfold R6 at l4;split at l4;rotate_left
     . simp at l4
     rename_i b hq;rw[hq,Ow l4];rfl
   unfold SG at l4;split at l4;rotate_left
   . simp at l4
   rename_i t' B ah4;split at l4;rotate_left
   . simp at l4
   rename_i r j0 ti hB iy;simp only[ame]at l4;obtain⟨hkB,qQ⟩:=l4;obtain⟨kU,g1,g2,_,g4⟩:=Dl (E:=E) (base:=st) (Rg (l:=bM ops.toList []) (by rw[hlen]; omega)) Yn (ops.toList.take i1) 0 [] _ (fun o ho=>by obtain⟨k,hk⟩:=ao0 ho;exact yE Yn hk) trivial (fun e he=>by simp at he) hv;have hgj:(ops.toList.take i1)[j]? = some o':=by rw[anl,if_pos hj,amh]; exact jY
   obtain⟨d2,p2,mask,Vc,q1,q2,q3,q4⟩:=g4 j o' hgj;rw[hd]at q1;cases q1;have alQ:tv=p2.1:=by have:=(ct g1 d p2.1).2 (.inl ⟨_,_,q2,rfl⟩);rw[<- g2,oV]at this;exact am1 this
   have UD:∀ t' ko,look (view st mask Vc).tm t'=some ko->look (aG st bsF).tm t'=some ko:=fun t' ko h=>by
    rw[g2,ct g1];rcases wS h with ⟨i',p,h1,h2⟩ | h1
    . exact .inl ⟨i',p,q3 _ h1,h2⟩
    . exact .inr h1
   have hnw:cJ (view st mask Vc):=fun t' ko h=>hNA t' ko (UD t' ko h)
   rw[ah4]at q4;unfold zj at q4;obtain⟨ti2,r1,q4⟩:=Tr.ai q4;rw[iy]at r1;cases r1;obtain⟨tvB,r2,q5⟩:=Tr.ai q4;obtain⟨aB,r3,q6⟩:=Tr.ai q5;obtain⟨lB,r4,q7⟩:=Tr.ai q6;obtain⟨tvR,r5,q8⟩:=Tr.ai q7;simp only[Tr.run,amd]at q8;have r2:(view st mask Vc).tv B=some tvB:=r2;rw[As hnw]at r2;have:=UD _ _ r2;rw[hB]at this;cases this;simp only[TV.Ig,amd]at r3;subst r3;have hld:ca.dU r j0 ti.ks.length=some lB:=by
    rw[L3 Um _ _ qQ];have hx:Ext (view st mask Vc) (aG st bsF):=⟨UD,fun r' R' h=>by
     rw[g2,jw st (bitsOf kU) kU (fun i t p h=>eZ h),jt _ g1];rcases Ak h with ⟨i',p,h1,h2⟩ | h1
     . exact .inl ⟨i',p,q3 _ h1,eZ (q3 _ h1),h2⟩
     . exact .inr h1⟩
    exact hx.dU r4
   have ah5:(St.mk ((aG st bsF).tm.filter (fun p=>nX ops.toList J ((bM ops.toList []).getD j 0) p.1)) ca.rt).get (.tmp B)=some (.v (.ptr r j0)):=by
    show St.tv _ B=_;unfold St.tv;have:look ((aG st bsF).tm.filter (fun p=>nX ops.toList J ((bM ops.toList []).getD j 0) p.1)) B=some (.v (.ptr r j0)):=by rw[o9,if_pos hkB];exact hB
    rw[this]
   subst q8;rw[ah4,alQ];rw[So,iy];simp only[Tr.cu,ah5,TV.Ig,St.load];have alR:(St.mk ((aG st bsF).tm.filter (fun p=>nX ops.toList J ((bM ops.toList []).getD j 0) p.1)) ca.rt).dU r j0 ti.ks.length=some lB:=by rw[aaQ (st:=ca) (ay:=St.mk ((aG st bsF).tm.filter (fun p=>nX ops.toList J ((bM ops.toList []).getD j 0) p.1)) ca.rt) rfl];exact hld
   rw[alR];simp only[r5,Tr.run]
  have cE:kM cx a d:=dh.dst (k2.mem hp).1;have oU:St.free ⟨pre++(view st S bsF).tm,ca.rt⟩ d=true:=l2;have alS:Ext ⟨(aG st bsF).tm.filter (fun p=>nX ops.toList J ((bM ops.toList []).getD j 0) p.1),ca.rt⟩ ⟨pre++(view st S bsF).tm,ca.rt⟩:=by
   refine⟨fun t' ko yl => ?_,fun r R hR=>hR⟩;have yl:look ((aG st bsF).tm.filter (fun p=>nX ops.toList J ((bM ops.toList []).getD j 0) p.1)) t'=some ko:=yl;rw[o9]at yl;split at yl
   . rename_i hk;show look (pre++(view st S bsF).tm) t'=some ko;rw[uY];split
     . rename_i x hx;rw[(UA t' _ hx).2.1]at yl;cases yl
     . rw[mN S _ t' hS hnd hk];exact yl
   . simp at yl
  unfold wpOp;have ah6:Region.wanted o' (yielded ops a.tmps)=true:=by simp[Region.wanted,yE U6 (by rw[amh]; exact jY)]
  simp only[jY,ah6,if_true];refine .inl ?_;refine Co hT eF alS hr (ah3 S).cons hd cE oU (p:=(tv,none)) hq _ _ fun Z' g' v' w' nN=>rX Z' g' _ w' ?_ (dh.put _ _)
  refine nN.swap (fun r=>rfl) fun t' ko yl => ?_
  have key:look (St.a8 ⟨pre++(view st S bsF).tm,ca.rt⟩ d (tv,none)).tm t'=some ko:=by
   rw[cC];have yl:look (pre++(view st (S ||| 2 ^ j) bsF).tm) t'=some ko:=yl;show(if d=t' then some tv else look (pre++(view st S bsF).tm) t')=some ko;rw[uY]at yl ⊢;cases hpx:look pre t' with
   | some x =>
     rw[hpx]at yl;have hk:=amx.1 (UA t' x hpx).2.2 j (nQ hJ);unfold mh at hk;rw[amh,jY]at hk;simp only[hd,anr,am0]at hk;have cY:d≠t':=by
      rcases hk with hk | hk
      . simp at hk
      . exact anp hk
     rw[if_neg cY];exact yl
   | none =>
   rw[hpx]at yl;have yl:look (view st (S ||| 2 ^ j) bsF).tm t'=some ko:=yl;rw[e8 _ k2]at yl;have old:¬ d=t'->(∃ i p,(i,t',p)∈bsF/\S.testBit i=true/\p.1=ko)∨look st.tm t'=some ko->(if d=t' then some tv else look (view st S bsF).tm t')=some ko:=fun hdt hh=>by rw[if_neg hdt];exact(e8 _ k2 _ _).2 hh
   rcases yl with ⟨i',p',h1,h2,h3⟩ | h1
   . by_cases Dp:j=i'
     . obtain⟨_,e2,e3⟩:=k2.uniq hp h1 (.inl Dp);subst e2;subst e3;rw[if_pos rfl,<- hpt,h3]
     . refine old (fun e=>Dp (k2.uniq hp h1 (.inr e)).1) (.inl ⟨i',p',h1,?_,h3⟩);rw[aY]at h2;simpa[Dp]using h2
   . exact old (fun e=>by subst e; rw[(k2.mem hp).2.1]at h1; simp at h1) (.inr h1)
  exact nN.tm t' ko key
 ·
  intro fuel listed S a w Z g uz hl rW hS hr dh;have hS':view st S bsF=aG st bsF:=(mo fun e he=>by rw[hS]; simpa using vS e he).symm;have hr:Rel cx Z g ca a w:=by rw[aaV];have hr:Rel cx Z g ⟨pre++(view st S bsF).tm,ca.rt⟩ a w:=hr;rw[hS']at hr;exact hr
  have U8:cJ ca:=by have:=ah3 (2 ^ i1-1);rw[(mo (S:=2 ^ i1-1) fun e he=>by rw[fA]; simpa using vS e he).symm]at this;rw[aaV];exact this
  obtain⟨i2,bs2,m1,m2,m3,m4,m5,m6,m7,m8⟩:=ml (ops:=ops) (ns:=bM ops.toList []) (i0:=i1+1) hT eF U8 _ (i1+1) rfl hi (oR _) [] ay ⟨trivial,U8.MB,fun e he=>by simp at he,fun _ _ _ _ he=>by simp at he⟩ au;refine E2 (cx:=cx) (Q:=QO cx E (.qO ay)) hT eF hW Mj (stF:=ay) (fun Z g a w hr hn hs=>⟨hn,hs,Z,g,hr⟩) fuel listed (2 ^ (i1+1)-1) (i1+1) i2 ca bs2 a w Z g uz (fun k hk => ?_) rW (fun k hk=>by rw[fA]; simpa using hk) (fun k hk=>by rw[fA]; simp; omega) (fun k hk b hb => ?_) m1 U8 m2 (fun e he=>⟨(m4 e he).1,(m4 e he).2.1⟩) m5 m7 m8 ?_ dh
  . rw[hl k hk,fA];by_cases hh:k<=i1
    . simp[hh]; omega
    . simp[hh]; omega
  . rw[fA]at hk ⊢;simp only[anD]at hk ⊢;have Ia:b<k:=by
     revert b;induction k using Nat.strongRecOn with
     | _ k ihk =>
       intro b hb;have Kc:k<ops.size:=by omega
       obtain⟨e,h1,h2,h3⟩:=rf ops.toList [] k ops[k] b (by rw[amh]; simp[Kc]) (by simpa using hb);have Il:=lV ops.toList 0 Mj k ops[k] (by rw[amh]; simp[Kc]) e h1 h2;rw[amp]at Il;rcases h3 with h3 | ⟨_,h3⟩
       . omega
       . have:=ihk e.on Il (by omega) b h3;omega
    omega
  . rw[kB fun e he=>by rw[fA]; have:=(m4 e he).1; simp; omega];exact hr
 . simp[amn,hk]
 . simp only[oF,Nat.or_zero];rw[uF];exact oR _
 . simp at hk
 . simp only[oF];rw[kB fun e _=>anN _];exact hr.world rfl rfl rfl rfl
theorem Ts(hT:cH P E)(eF:dO P E)(hm:P.follows .mixedOrders=true){id:Nat}{ops:Array Oper}{i:Nat}{J:List Nat}:dA P E (.region id ops true) (oJ E ops i J) :=
 fun _ _ _ _ _ h au=>wp_region_any hm (FC hT eF h au)
theorem yI(hT:cH P E)(eF:dO P E)(hm:P.follows .mixedOrders=true){c:Code}{id:Nat}{i:Nat}{J:List Nat}(h:c= .region id (opsOf c) true):dA P E c (oJ E (opsOf c) i J):=by intro cx a w st ay hg hr;rw[h];exact Ts hT eF hm cx a w st ay hg hr
theorem eN{E0:En}{c:Code}{F:St->Tr St}(hn:E.nt=E0.nt)(hp:E.pins=E0.pins)(h:dA P E0 c F):dA P E c F:=by
 have hf:∀(cx:Cx P) (a:Act),Fit cx E a↔Fit cx E0 a:=fun cx a=>by unfold Fit; rw[hn,hp]
 have hg:∀(cx:Cx P) (st:St) (a:Act) (w:World),Good cx E st a w↔Good cx E0 st a w:=fun cx st a w=>by unfold Good; rw[hf]
 intro cx a w st ay p9 hr;refine wp_mono (h cx a w st ay ((hg _ _ _ _).1 p9) hr) fun e a' w' hq => ?_
 cases e <;> first | exact hq.elim | exact(hg _ _ _ _).2 hq
end
def DZ(o:Oper):Bool:=match o.op,o.guard,o.dst with | .extract (.tmp _) _,none,some _=>true | .move (.tmp _),none,some _=>true | _,_,_=>false
def GU(ex:List (Nat×Nat))(i:Nat):List Edge:=(ex.filter fun p=>Nat.beq p.1 i).map fun p=>⟨p.2,.data⟩
def vw(ex:List (Nat×Nat)):List Oper->Nat->List Oper
 | [],_=>[]
 | o::r,i=>{ o with after:=o.after++(GU ex i).toArray }::vw ex r (i+1)
theorem G6(ex:List (Nat×Nat)):∀(l:List Oper) (i k:Nat),(vw ex l i)[k]? = (l[k]?).map fun o=>{ o with after:=o.after++(GU ex (i+k)).toArray }
 | [],_,_=>by simp[vw]
 | o::r,i,0=>by simp[vw]
 | o::r,i,k+1=>by rw[vw,am3,G6 ex r (i+1) k,am3,show i+1+k=i+(k+1)by omega]
theorem Hy(ex:List (Nat×Nat)):∀(l:List Oper) (i:Nat),(vw ex l i).length=l.length
 | [],_=>rfl
 | o::r,i=>by simp[vw,Hy ex r]
def qB(ex:List (Nat×Nat))(ops:Array Oper):Array Oper:=(vw ex ops.toList 0).toArray
theorem vy(ex:List (Nat×Nat))(ops:Array Oper)(k:Nat):(qB ex ops)[k]? = (ops[k]?).map fun o=>{ o with after:=o.after++(GU ex k).toArray }:=by rw[qB,amQ,G6,amh,amp]
theorem CI(ex:List (Nat×Nat))(ops:Array Oper):(qB ex ops).size=ops.size:=by simp[qB,Hy]
def re(ops:Array Oper)(ex:List (Nat×Nat)):Bool :=
 Region.noSelect ops&&ex.all fun p=>(match ops[p.2]?,ops[p.1]? with
  | some oj,some oi=>DZ oj&&(GU ex p.2).isEmpty&&(oj.after.toList.all fun e=> !eW e||oi.after.toList.any fun e'=>eW e'&&Nat.beq e'.on e.on) &&
     (List.range ops.size).all fun k=>Nat.beq k p.2||(match ops[k]? with | some ok=>(ok.after.toList.any fun e=>eW e&&Nat.beq e.on p.2)||((oj.after.toList.any fun e=>eW e&&Nat.beq e.on k)||oj.apart ops ok) | none=>true)
  | _,_=>false)
section
variable{P:Program}{ops:Array Oper}{Q:Exit->Act->World->Prop}
theorem DX(ex:List (Nat×Nat))(ops:Array Oper)(tmps:Array Value):yielded (qB ex ops) tmps=yielded ops tmps:=by funext g;unfold yielded;rw[vy];cases ops[g]? <;> rfl
theorem C2{ex:List (Nat×Nat)}{k:Nat}{K:Act->World->Prop}{a:Act}{w:World}(h:wpOp P (qB ex ops) Q k K a w):wpOp P ops Q k K a w:=by
 unfold wpOp at h ⊢;rw[vy,DX]at h;cases ho:ops[k]? with
 | none=>rw[ho]at h; exact h
 | some o=>rw[ho]at h; exact h
theorem GL{o:Oper}(hp:DZ o=true)(hL:¬ LetsOut Q)(hQ:∀ c a w,¬ Q (.panic c) a w){k:Nat}(ho:ops[k]? = some o){K:Act->World->Prop}{a:Act}{w:World}(h:wpOp P ops Q k K a w) :
 ∃ v,Yields P ops o v a/\K (a.put o.dst v) w:=by
 unfold DZ at hp;split at hp
 . rename_i t i d h1 h2 h3;have hw:Region.wanted o (yielded ops a.tmps)=true:=by simp[Region.wanted,h2]
   unfold wpOp at h;rw[ho]at h;simp only[hw,if_true]at h;have h:=h.resolve_right fun h=>hL h.2
   unfold Oper.wp at h;have he:∀ w,(execOp a.eval o).run P w=(match a.eval (.tmp t)with | .tuple vs=>(match vs[i]? with | some v=>Result.ok (.value v) w | none=>(execOp a.eval o).run P w) | _=>(execOp a.eval o).run P w):=fun w=>by
    split
    . rename_i vs hv;split
      . rename_i v hi;simp[execOp,h1,hv,Instr.extract,hi]
      . rfl
    . rfl
   cases hv:a.eval (.tmp t)with
   | tuple vs =>
     cases hi:vs[i]? with
     | some v => refine⟨v,.inl ⟨hw,fun w=>by rw[he w,hv]; simp only[hi]⟩,?_⟩;rw[he w,hv]at h;simp only[hi,Oper.upon]at h;exact h
     | none => exfalso;simp[execOp,h1,hv,Instr.extract,hi,Oper.upon]at h
   | _ => exfalso;simp[execOp,h1,hv,Instr.extract,Oper.upon]at h
 . rename_i t d h1 h2 h3;have hw:Region.wanted o (yielded ops a.tmps)=true:=by simp[Region.wanted,h2]
   unfold wpOp at h;rw[ho]at h;simp only[hw,if_true]at h;have h:=h.resolve_right fun h=>hL h.2
   have he:∀ w,(execOp a.eval o).run P w= .ok (.value (a.eval (.tmp t))) w:=fun w=>by simp[execOp,h1]
   refine⟨a.eval (.tmp t),.inl ⟨hw,he⟩,?_⟩;unfold Oper.wp at h;rw[he w,anh]at h;exact h
 . simp at hp
theorem RQ{ex:List (Nat×Nat)}{k:Nat}{e:Edge}(h:e∈GU ex k):∃ p,p∈ex/\p.1=k/\e.on=p.2:=by unfold GU at h;obtain⟨p,hp,rfl⟩:=an5.1 h;obtain⟨h1,h2⟩:=ans.1 hp;exact⟨p,h1,beq_eq h2,rfl⟩
theorem Bl{ex:List (Nat×Nat)}{p:Nat×Nat}(h:p∈ex):(⟨p.2,.data⟩:Edge)∈GU ex p.1 :=
 an5.2 ⟨p,ans.2 ⟨h,Nat.beq_refl _⟩,rfl⟩
theorem mm{ex:List (Nat×Nat)}{listed:Array Bool}{k:Nat}:k∈Region.ready .any (qB ex ops) listed↔k∈Region.ready .any ops listed/\∀ p∈ex,p.1=k->listed.getD p.2 false=true:=by
 rw[mem_ready,mem_ready];constructor
 . rintro⟨h0,o',jY,gm⟩;rw[vy]at jY;cases ho:ops[k]? with
   | none=>rw[ho]at jY; simp at jY
   | some o => rw[ho]at jY;simp only[amE,amd]at jY;subst jY;refine⟨⟨h0,o,rfl,fun e he hb=>gm e (by simp[he]) hb⟩,fun p hp hk => ?_⟩;subst hk;exact gm ⟨p.2,.data⟩ (by simp[Bl hp]) rfl
 . rintro⟨⟨h0,o,ho,gm⟩,hex⟩;refine⟨h0,_,by rw[vy,ho]; rfl,fun e he hb => ?_⟩;simp only[Array.mem_append,List.mem_toArray]at he;rcases he with he | he
   . exact gm e he hb
   . obtain⟨p,hp,h1,h2⟩:=RQ he;rw[h2];exact hex p hp h1
theorem hoist{ex:List (Nat×Nat)}(Fg:re ops ex=true)(hL:¬ LetsOut Q)(hQ:∀ c a w,¬ Q (.panic c) a w) :
 ∀(fuel:Nat) (listed:Array Bool) (a:Act) (w:World),listed.size=ops.size->wpAny P .any (qB ex ops) Q fuel listed a w->wpAny P .any ops Q fuel listed a w:=by
 unfold re at Fg;simp only[ame]at Fg;obtain⟨hns,Fg⟩:=Fg;have alT:=Region.noSelect_spec hns
 have facts:∀ p∈ex,∃ oj oi,ops[p.2]? = some oj/\ops[p.1]? = some oi/\DZ oj=true/\GU ex p.2=[]/\(∀ e∈oj.after,eW e=true->∃ e'∈oi.after,eW e'=true/\e'.on=e.on) /\
  ∀ k ok,ops[k]? = some ok->k≠p.2->(∀ e∈ok.after,Region.binds .any e=true->e.on≠p.2)->(∃ e∈oj.after,eW e=true/\e.on=k)∨oj.apart ops ok=true:=by
  intro p hp;have h:=amx.1 Fg p hp;cases h2:ops[p.2]? with
  | none=>rw[h2]at h; simp at h
  | some oj =>
    cases h1:ops[p.1]? with
    | none=>rw[h2,h1]at h; simp at h
    | some oi =>
      rw[h2,h1]at h;simp only[ame]at h;obtain⟨⟨⟨g1,g2⟩,g3⟩,g4⟩:=h;refine⟨oj,oi,rfl,rfl,g1,List.isEmpty_iff.1 g2,fun e he hb => ?_,fun k ok hk cY BK => ?_⟩
      . have:=amx.1 g3 e (by simpa using he);rw[hb]at this;simp only[oN,Bool.false_or]at this;obtain⟨e',he',h'⟩:=aoV.1 this;simp only[ame]at h';exact⟨e',by simpa using he',h'.1,beq_eq h'.2⟩
      . have aV:k<ops.size:=(amG.1 hk).1;have:=amx.1 g4 k (anq.2 aV);rw[hk]at this;simp only[anr]at this;rcases this with h | h | h | h
        . exact absurd (beq_eq h) cY
        . obtain⟨e',he',h'⟩:=aoV.1 h;simp only[ame]at h';exact absurd (beq_eq h'.2) (BK e' (by simpa using he') h'.1)
        . obtain⟨e',he',h'⟩:=aoV.1 h;simp only[ame]at h';exact .inl ⟨e',by simpa using he',h'.1,beq_eq h'.2⟩
        . exact .inr h
 have hR:∀(listed:Array Bool),listed.size=ops.size->∀ k,k∈Region.ready .any ops listed->∀ p∈ex,p.1=k->listed.getD p.2 false≠true->p.2∈Region.ready .any (qB ex ops) listed/\p.2∈Region.ready .any ops listed:=by
  intro listed uz k hk p hp hpk UE;obtain⟨oj,oi,h2,h1,g1,g2,g3,g4⟩:=facts p hp;obtain⟨_,o,ho,gm⟩:=mem_ready.1 hk;rw[<- hpk,h1]at ho;cases ho;have aV:p.2<listed.size:=by rw[uz]; exact(amG.1 h2).1
  have hr:p.2∈Region.ready .any ops listed:=by
   refine mem_ready.2 ⟨?_,oj,h2,fun e he hb => ?_⟩
   . simp only[amn,aop aV,anB]at UE ⊢;simpa using UE
   . obtain⟨e',he',cz,h'⟩:=g3 e he hb;rw[<- h'];exact gm e' he' cz
  refine⟨mm.2 ⟨hr,fun q hq hqk => ?_⟩,hr⟩;have:=Bl hq;rw[hqk,g2]at this;simp at this
 intro fuel;induction fuel with
 | zero =>
   intro listed a w uz H;refine⟨aov.2 fun k hk => ?_,H.2⟩;by_cases gm:∀ p∈ex,p.1=k->listed.getD p.2 false=true
   . have:=mm.2 ⟨hk,gm⟩;rw[H.1]at this;simp at this
   . simp only[Classical.not_forall]at gm;obtain⟨p,hp,hpk,UE⟩:=gm;have:=(hR listed uz k hk p hp hpk UE).1;rw[H.1]at this;simp at this
 | succ fuel ih =>
   intro listed a w uz H;by_cases hex:∃ p,p∈ex/\p.2∈Region.ready .any ops listed
   . obtain⟨p,hp,hr⟩:=hex;obtain⟨oj,oi,h2,h1,g1,g2,g3,g4⟩:=facts p hp;have Fo:p.2∈Region.ready .any (qB ex ops) listed:=mm.2 ⟨hr,fun q hq hqk=>by
      have:=Bl hq;rw[hqk,g2]at this;simp at this⟩
     obtain⟨v,hy,hK⟩:=GL g1 hL hQ h2 (C2 (H.2 p.2 Fo));refine wpAny_first h2 alT (fun c a w h=>(hQ _ _ _ h).elim) fuel listed a w (fun k ok hk cY UE BK=>(g4 k ok hk cY BK).resolve_left fun⟨e,he,hb,hek⟩ => ?_) hr hy (ih _ _ _ (by simpa using uz) hK);obtain⟨_,o,ho,gm⟩:=mem_ready.1 hr;rw[h2]at ho;cases ho;have h5:=gm e he hb;rw[hek]at h5;have aV:k<listed.size:=by rw[uz]; exact(amG.1 hk).1
     simp only[amn,aop aV,anB]at UE h5;rw[h5]at UE;simp at UE
   . have Un:∀ k,k∈Region.ready .any ops listed->k∈Region.ready .any (qB ex ops) listed:=fun k hk=>by
      refine mm.2 ⟨hk,fun p hp hpk => ?_⟩;by_cases UE:listed.getD p.2 false=true
      . exact UE
      . exact absurd ⟨p,hp,(hR listed uz k hk p hp hpk UE).2⟩ hex
     refine⟨fun h0=>H.1 (aov.2 fun k hk => ?_),fun k hk => ?_⟩
     . have:=(mm.1 hk).1;rw[h0]at this;simp at this
     . exact wpOp_mono (fun a' w' h=>ih _ a' w' (by simpa using uz) h) (C2 (H.2 k (Un k hk)))
end
section
variable{P:Program}{E:En}
def il(E:En)(ops:Array Oper)(ex:List (Nat×Nat))(st:St):Tr St :=
 bif re ops ex&&ki (vw ex ops.toList 0) 0 then fP E true (vw ex ops.toList 0) (bM (vw ex ops.toList 0) []) (vw ex ops.toList 0) 0 st []else .fail
theorem N7(hT:cH P E)(eF:dO P E)(hm:P.follows .mixedOrders=true){id:Nat}{ops:Array Oper}{ex:List (Nat×Nat)}:dA P E (.region id ops true) (il E ops ex):=by
 intro cx a w st ay h au;have hW:=wu hT eF;unfold il at au;cases hc:re ops ex&&ki (vw ex ops.toList 0) 0 with
 | false=>rw[hc]at au; simp[Tr.run]at au
 | true =>
   rw[hc]at au;simp only[oT]at au;simp only[ame]at hc;obtain⟨Fg,Mj⟩:=hc;obtain⟨h1,h2,Z,g,h3⟩:=h;refine wp_region_any hm ?_;refine hoist Fg (fun⟨a,w,hq⟩=>hq) (fun c a w hq=>hq) ops.size _ a _ (by simp) ?_;have e1:(qB ex ops).toList=vw ex ops.toList 0:=by simp[qB]
   have hs:=CI ex ops;rw[<- e1]at au Mj;obtain⟨i1,bsF,k1,k2,k3,k4,k5,k6,k7,k8⟩:=ml (ops:=qB ex ops) (ns:=bM (qB ex ops).toList []) (i0:=0) hT eF h1 _ 0 rfl (amr _) (oR _) [] ay ⟨trivial,h1.MB,fun e he=>by simp at he,fun _ _ _ _ he=>by simp at he⟩ au;refine E2 (ops:=qB ex ops) (cx:=cx) (Q:=QO cx E (.qO ay)) hT eF hW Mj (stF:=ay) (fun Z g a w hr hn hs=>⟨hn,hs,Z,g,hr⟩) ops.size (Array.replicate ops.size false) 0 0 i1 st bsF a _ Z g (by simp[hs]) (fun k hk => ?_) (by rw[hs,uF]; exact oR _) (fun k hk=>by omega) (fun k _=>anN k) (fun k hk=>by rw[anN]at hk; simp at hk) k1 h1 k2 (fun e he=>⟨(k4 e he).1,(k4 e he).2.1⟩) k5 k7 k8 ?_ h2
   . rw[anN];rw[hs]at hk;simp[amn,hk]
   . rw[kB fun e _=>anN _];exact h3.world rfl rfl rfl rfl
theorem mz(hT:cH P E)(eF:dO P E)(hm:P.follows .mixedOrders=true){c:Code}{id:Nat}{ex:List (Nat×Nat)}(h:c= .region id (opsOf c) true):dA P E c (il E (opsOf c) ex):=by rw[h];exact N7 hT eF hm
def hlT(E:En)(ops:Array Oper)(ex:List (Nat×Nat))(i:Nat)(J:List Nat)(st:St):Tr St:=bif re ops ex then oJ E (qB ex ops) i J st else .fail
theorem abY(hT:cH P E)(eF:dO P E)(hm:P.follows .mixedOrders=true){id:Nat}{ops:Array Oper}{ex:List (Nat×Nat)}{i:Nat}{J:List Nat}:dA P E (.region id ops true) (hlT E ops ex i J):=by
 intro cx a w st ay h au;unfold hlT at au;cases Fg:re ops ex with
 | false=>rw[Fg]at au; simp[Tr.run]at au
 | true => rw[Fg]at au;refine wp_region_any hm ?_;refine hoist Fg (fun⟨a,w,hq⟩=>hq) (fun c a w hq=>hq) ops.size _ a _ (by simp) ?_;have:=FC hT eF h au;rwa [CI]at this
theorem ZC(hT:cH P E)(eF:dO P E)(hm:P.follows .mixedOrders=true){c:Code}{id:Nat}{ex:List (Nat×Nat)}{i:Nat}{J:List Nat}(h:c= .region id (opsOf c) true):dA P E c (hlT E (opsOf c) ex i J):=by rw[h];exact abY hT eF hm
end
section
variable{P:Program}{E:En}{ops:Array Oper}{P:Program}{cx:Cx P}{Q:Exit->Act->World->Prop}
end
section
variable{P:Program}{w w':World}
end
section
variable{P:Program}{E:En}{cx:Cx P}{Z:Nat->Prop}{g:Gh}{st v:St}{a:Act}{w:World}
theorem Cc{a:Act}{d:Nat}{v:Value}(hd:d<a.tmps.size):(a.put (some d) v).eval (.tmp d)=v:=by simp[Act.put,Act.eval,amn,hd]
end
section
variable{P:Program}{E:En}
end
def JB(v:Value):Prop:=∃ k n,v= .int k n
def yx(ints:List Nat)(o:Oper)(d:Nat):Bool:=match o.op,o.guard,o.dst with | .move (.tmp b),none,some d'=>iW ints b&&Nat.beq d' d | _,_,_=>false
def L1(l:List Oper)(ints:List Nat):Bool:=(List.range l.length).all fun i=>match mh l i with | some d=> !iW ints d&&(List.range l.length).all fun k=>Nat.beq k i||(match mh l k with | some d'=> !Nat.beq d' d | none=>true) | none=>true
def wx(ops:Array Oper)(ints:List Nat)(listed:Array Bool)(a:Act):Prop :=
 (∀(k:Nat) (o:Oper) (d:Nat),ops[k]? = some o->o.dst=some d->d<a.tmps.size)/\(∀ b∈ints,JB (a.eval (.tmp b)))/\∀(k:Nat) (o:Oper) (d:Nat),ops[k]? = some o->yx ints o d=true->listed.getD k false=true->JB (a.eval (.tmp d))
theorem KL:∀ {l:List Nat} {n:Nat},n∈l->iW l n=true
 | x::r,n,h=>by
   simp only[iW,anr];rcases amo.1 h with h | h
   . subst h; exact .inl (Nat.beq_refl _)
   . exact .inr (KL h)
section
variable{P:Program}{ops:Array Oper}{Q:Exit->Act->World->Prop}{ints:List Nat}
theorem DC(h:L1 ops.toList ints=true){k:Nat}{o:Oper}{d:Nat}(ho:ops[k]? = some o)(hd:o.dst=some d):(∀ b∈ints,b≠d)/\∀(k':Nat) (o':Oper),ops[k']? = some o'->o'.dst=some d->k'=k:=by
 have hk:k<ops.toList.length:=by rw[amP]; exact(amG.1 ho).1
 have h1:=amx.1 h k (anq.2 hk);have e:mh ops.toList k=some d:=by unfold mh; rw[amh,ho]; exact hd
 rw[e]at h1;simp only[ame,am0]at h1;refine⟨fun b hb Pc => ?_,fun k' o' jY Pf => ?_⟩
 . subst Pc;have:iW ints b=true:=KL hb;rw[h1.1]at this;simp at this
 . have Fc:k'<ops.toList.length:=by rw[amP]; exact(amG.1 jY).1
   have h2:=amx.1 h1.2 k' (anq.2 Fc);have e':mh ops.toList k'=some d:=by unfold mh; rw[amh,jY]; exact Pf
   rw[e']at h2;simp only[anr,am0]at h2;rcases h2 with h2 | h2
   . exact beq_eq h2
   . exact absurd rfl (anp h2)
theorem uH{o:Oper}{d:Nat}(h:yx ints o d=true):∃ b,o.op= .move (.tmp b)/\o.guard=none/\o.dst=some d/\b∈ints:=by
 unfold yx at h;split at h
 . rename_i b d' h1 h2 h3;simp only[ame]at h;have:=beq_eq h.2;subst this;exact⟨b,h1,h2,h3,nQ h.1⟩
 . simp at h
theorem x5(a:Act)(l:List Deferred)(x:Operand):({ a with defers:=l }:Act).eval x=a.eval x:=by cases x <;> rfl
theorem wx.put(nL:L1 ops.toList ints=true){k:Nat}{o:Oper}(ho:ops[k]? = some o){listed:Array Bool}{a:Act}(hI:wx ops ints listed a){v:Value}(hv:∀ d,yx ints o d=true->JB v):wx ops ints (listed.setIfInBounds k true) (a.put o.dst v):=by
 cases hd:o.dst with
 | none =>
   refine⟨hI.1,fun b hb=>hI.2.1 b hb,fun k' o' d' jY hm hl => ?_⟩;have cY:k≠k':=fun e=>by subst e;rw[ho]at jY; cases jY;obtain⟨_,_,_,h3,_⟩:=uH hm;rw[hd]at h3; simp at h3
   rw[getD_set_ne false cY]at hl;exact hI.2.2 k' o' d' jY hm hl
 | some d =>
   obtain⟨n1,n2⟩:=DC nL ho hd;have hev:∀ t,t≠d->(a.put (some d) v).eval (.tmp t)=a.eval (.tmp t):=fun t ht=>Act.eval_put fun d' e e2=>by cases e; cases e2; exact ht rfl
   refine⟨fun k' o' d' jY Pf=>by rw[vl]; exact hI.1 k' o' d' jY Pf,fun b hb=>by rw[hev b (n1 b hb)]; exact hI.2.1 b hb,fun k' o' d' jY hm hl => ?_⟩;obtain⟨b',_,_,h3,_⟩:=uH hm;by_cases e:d'=d
   . subst e;have:=n2 k' o' jY h3;subst this;rw[ho]at jY; cases jY;rw[Cc (hI.1 _ _ _ ho hd)];exact hv _ hm
   . rw[hev d' e];have cY:k≠k':=fun e2=>by
      subst e2;rw[ho]at jY; cases jY;rw[hd]at h3; cases h3; exact e rfl
     rw[getD_set_ne false cY]at hl;exact hI.2.2 k' o' d' jY hm hl
theorem wx.defers{listed:Array Bool}{a:Act}{l:List Deferred}(hI:wx ops ints listed a):wx ops ints listed { a with defers:=l } :=
 ⟨hI.1,fun b hb=>by rw[x5]; exact hI.2.1 b hb,fun k o d ho hm hl=>by rw[x5]; exact hI.2.2 k o d ho hm hl⟩
end
section
variable{w:World}
end
section
variable{P:Program}{E:En}{cx:Cx P}{Z:Nat->Prop}{g:Gh}{st v:St}{a:Act}{w:World}
end
section
variable{P:Program}{E:En}
end
theorem lU.zero{P:Program}{f:Nat}{s:Su}(h:∀ x,s.vX x=none):lU P f s:=fun w Z F args x y _ _ _ _ _ hy=>by rw[h x]at hy;simp at hy
def Su.ro(s:Su):Su:=⟨s.ps,s.rs,false,s.f⟩
theorem kZ{Z:Nat->Prop}{w:World}{F G:Nat->Nat->Prop}:∀(ps:List PK) (x:PT ps) (vs:List Value) (n m:Nat),jA ps=true->ee Z w F ps x vs n->ee Z w G ps x vs m
 | [],_,[],_,_,_,_=>trivial
 | [],_,_::_,_,_,_,h=>h.elim
 | .c _ _::ps,x,v::vs,n,m,hq,h=>⟨h.1,kZ ps x.2 vs n m hq h.2⟩
 | .pt _::ps,x,v::vs,n,m,hq,h=>⟨h.1,kZ ps x.2 vs n m hq h.2⟩
 | .nil::ps,x,v::vs,n,m,hq,h=>⟨h.1,kZ ps x vs n m hq h.2⟩
 | .fn _ _::ps,x,v::vs,n,m,hq,h=>⟨h.1,kZ ps x.2 vs n m hq h.2⟩
 | .io _ _::_,_,_,_,_,hq,_=>by simp[jA]at hq
 | .mv _::_,_,_,_,_,hq,_=>by simp[jA]at hq
 | .c _ _::_,_,[],_,_,_,h=>h.elim
 | .pt _::_,_,[],_,_,_,h=>h.elim
 | .nil::_,_,[],_,_,_,h=>h.elim
 | .fn _ _::_,_,[],_,_,_,h=>h.elim
theorem om{Z Z':Nat->Prop}{w w':World}{G:Nat->Nat->Prop}{F:Nat->Nat->Prop}:∀(ps:List PK) (x:PT ps) (y:ux ps) (vs:List Value) (n m:Nat),jA ps=true->ee Z w F ps x vs n->wa Z' w' G ps y vs m
 | [],_,_,[],_,_,_,_=>trivial
 | [],_,_,_::_,_,_,_,h=>h.elim
 | .c _ _::ps,x,y,v::vs,n,m,hq,h=>om ps x.2 y vs n m hq h.2
 | .pt _::ps,x,y,v::vs,n,m,hq,h=>om ps x.2 y vs n m hq h.2
 | .nil::ps,x,y,v::vs,n,m,hq,h=>om ps x y vs n m hq h.2
 | .fn _ _::ps,x,y,v::vs,n,m,hq,h=>om ps x.2 y vs n m hq h.2
 | .io _ _::_,_,_,_,_,_,hq,_=>by simp[jA]at hq
 | .mv _::_,_,_,_,_,_,hq,_=>by simp[jA]at hq
 | .c _ _::_,_,_,[],_,_,_,h=>h.elim
 | .pt _::_,_,_,[],_,_,_,h=>h.elim
 | .nil::_,_,_,[],_,_,_,h=>h.elim
 | .fn _ _::_,_,_,[],_,_,_,h=>h.elim
theorem gZ{Z Z':Nat->Prop}{w:World}{H H':Nat->Nat->Prop}(hz:∀ n b,H n b->Z' b):∀(ks:List K) (x:Tl ks) (cs:List Value) (j j':Nat),bb true Z w H ks x cs j->bb false Z' w H' ks x cs j'
 | [],_,[],_,_,_=>trivial
 | [],_,_::_,_,_,h=>h.elim
 | .sl e bZ::ks,x,v::vs,j,j',h=>⟨dI.ro (.sl e bZ) x.1 v (H j) (fun b hb=>hz j b hb) h.1,gZ hz ks x.2 vs (j+1) j' h.2⟩
 | .int k::ks,x,v::vs,j,j',h=>⟨gK (k:= .int k) rfl h.1,gZ hz ks x.2 vs j j' h.2⟩
 | .bool::ks,x,v::vs,j,j',h=>⟨gK (k:= .bool) rfl h.1,gZ hz ks x.2 vs j j' h.2⟩
 | .str::ks,x,v::vs,j,j',h=>⟨gK (k:= .str) rfl h.1,gZ hz ks x.2 vs j j' h.2⟩
 | .sl _ _::_,_,[],_,_,h=>h.elim
 | .int _::_,_,[],_,_,h=>h.elim
 | .bool::_,_,[],_,_,h=>h.elim
 | .str::_,_,[],_,_,h=>h.elim
theorem AR{Z Z':Nat->Prop}{w:World}{H H':Nat->Nat->Prop}(hz:∀ n b,H n b->Z' b):∀(rs:List (Bool×List K)) (y:CT rs) (vs:List Value) (j j':Nat),mU true Z w H rs y vs j->mU false Z' w H' rs y vs j'
 | [],_,[],_,_,_=>trivial
 | [],_,_::_,_,_,h=>h.elim
 | (gg,ks)::rs,y,v::vs,j,j',h=>by obtain⟨⟨cs,e1,e2⟩,h2⟩:=h;exact⟨⟨cs,e1,gZ hz ks y.1 cs j j' e2⟩,AR hz rs y.2 vs _ _ h2⟩
 | _::_,_,[],_,_,h=>h.elim
theorem Su.adA(s:Su)(x:PT s.ps):s.ro.vX x=s.vX x:=by obtain⟨ps,rs,fr,f⟩:=s;cases f <;> rfl
theorem lU.ro{P:Program}{f:Nat}{s:Su}(hq:jA s.ps=true)(hf:s.fresh=true)(h:lU P f s):lU P f s.ro:=by
 intro w Z F args x y yQ cF hZ hF hd hy;have hy:s.vX x=some y:=(s.adA x).symm.trans hy;have h1:=h w Z (fun _ _=>False) args x y yQ (kZ s.ps x args.toList 0 0 hq cF) hZ (fun _ _ h=>h.elim) (fun _ _ _ h=>h.elim) hy;rw[hf]at h1;refine EU.mono h1 fun v w' ⟨Z',H,vs,e,ha,_,hr⟩ => ?_
 have nL:∀ n b,H n b->b<w'.heap.size/\w.heap.size<=b:=fun n b hb=>by
  obtain⟨q1,_,q3⟩:=ha.fp n b hb;rcases q3 with ⟨_,q3⟩ | q3
  . exact q3.elim
  . exact⟨q1,q3⟩
 refine⟨fun b=>Z' b∨∃ n,H n b,fun _ _=>False,vs,e,?_,om s.ps x y.1 args.toList 0 0 hq cF,AR (fun n b hb=> .inr ⟨_,hb⟩) _ _ _ _ _ hr⟩
 exact { os:=ha.os,tape:=ha.tape,output:=ha.output,size:=ha.size
         block:=fun b hb _=>ha.block b hb fun _ h=>h
         z:=fun b hb=> .inl (ha.z b hb)
         cq:=fun b hb=>by
          rcases hb with hb | ⟨n,hb⟩
          . exact ha.cq b hb
          . exact⟨(nL n b hb).1,.inr (nL n b hb).2⟩
         fp:=fun n b h=>h.elim
         cS:=fun n m b h=>h.elim }
section
variable{P:Program}{w:World}{E:En}
end
section
variable{P:Program}{E:En}{cx:Cx P}{Z:Nat->Prop}{g:Gh}{st v:St}{a:Act}{w:World}
theorem cJ.bind{st:St}(h:cJ st){d:Nat}{b:AV}{R:Option Rt}:cJ (st.a8 d (.v b,R)):=fun t tv ht=>by
 rw[cC]at ht;split at ht
 . simp only[amd]at ht; subst ht; exact fun h=>h
 . exact h t tv ht
end
section
variable{α A X Y:Type}
def kR(f:Nat->α->A->Sum A Y)(z:A->Y):Nat->List α->A->Y
 | _,[],a=>z a
 | i,x::r,a=>match f i x a with
   | .inl a'=>kR f z (i+1) r a'
   | .inr y=>y
theorem qg{step:X->Option (Sum X Y)}(xs:List α)(S:Nat->A->X)(f:Nat->α->A->Sum A Y)(z:A->Y)(I:Nat->A->Prop)
 (hs:∀ i x a,xs[i]? = some x->I i a->step (S i a)=some (match f i x a with | .inl a'=> .inl (S (i+1) a') | .inr y=> .inr y))
 (hI:∀ i x a a',xs[i]? = some x->I i a->f i x a= .inl a'->I (i+1) a')
 (he:∀ a,I xs.length a->step (S xs.length a)=some (.inr (z a))) :
 ∀(ys:List α) (i:Nat) (a:A),i+ys.length=xs.length->ys=xs.drop i->I i a->aq step (S i a)=some (kR f z i ys a)
 | [],i,a,hl,hy,h=>by
   have:i=xs.length:=by simpa using hl
   subst this;exact dK step (he a h)
 | x::r,i,a,hl,hy,h=>by
   have hx:xs[i]? = some x:=by have:=amL (·[0]?) hy;simp only[amj,anm,amJ]at this;exact this.symm
   have hr:r=xs.drop (i+1):=by have:=amL List.tail hy;simpa using this
   have mR:=hs i x a hx h;cases hf:f i x a with
   | inl a' => rw[hf]at mR;refine ez step mR ?_;rw[kR,hf];exact qg xs S f z I hs hI he r (i+1) a' (by simp only[ams]at hl; omega) hr (hI i x a a' hx h hf)
   | inr y => rw[hf]at mR;rw[kR,hf];exact dK step mR
theorem aP{step:X->Option (Sum X Y)}(xs:List α)(S:Nat->A->X)(f:Nat->α->A->Sum A Y)(z:A->Y)(I:Nat->A->Prop){a0:A}(h0:I 0 a0)
 (hs:∀ i x a,xs[i]? = some x->I i a->step (S i a)=some (match f i x a with | .inl a'=> .inl (S (i+1) a') | .inr y=> .inr y))
 (hI:∀ i x a a',xs[i]? = some x->I i a->f i x a= .inl a'->I (i+1) a')
 (he:∀ a,I xs.length a->step (S xs.length a)=some (.inr (z a))):aq step (S 0 a0)=some (kR f z 0 xs a0) :=
 qg xs S f z I hs hI he xs 0 a0 (by simp) (by simp) h0
theorem aS{step:X->Option (Sum X Y)}(xs:List α)(S:Nat->A->X)(f:Nat->α->A->Sum A Y)(z:A->Y){a0:A}
 (hs:∀ i x a,xs[i]? = some x->step (S i a)=some (match f i x a with | .inl a'=> .inl (S (i+1) a') | .inr y=> .inr y))
 (he:∀ a,step (S xs.length a)=some (.inr (z a))):aq step (S 0 a0)=some (kR f z 0 xs a0) :=
 aP xs S f z (fun _ _=>True) trivial (fun i x a h _=>hs i x a h) (fun _ _ _ _ _ _ _=>trivial) fun a _=>he a
theorem oP{step:X->Option (Sum X Y)}(xs:List α)(S:Nat->A->X)(z:A->Y)(I:Nat->A->Prop)
 (hs:∀ i x a,xs[i]? = some x->I i a->∃ a',step (S i a)=some (.inl (S (i+1) a'))/\I (i+1) a')
 (he:∀ a,I xs.length a->step (S xs.length a)=some (.inr (z a))):∀(n k:Nat) (a:A),k+n=xs.length->I k a->∃ a',I xs.length a'/\aq step (S k a)=some (z a')
 | 0,k,a,hk,h=>by rw[amJ]at hk;subst hk;exact⟨a,h,dK step (he a h)⟩
 | n+1,k,a,hk,h=>by have hx:xs[k]? = some (xs[k]'(by omega)):=ami (by omega);obtain⟨a1,h1,h2⟩:=hs k _ a hx h;obtain⟨a',h3,h4⟩:=oP xs S z I hs he n (k+1) a1 (by omega) h2;exact⟨a',h3,ez step h1 h4⟩
theorem j9(p:α->Bool)(y:Y)(z:Unit->Y):∀(xs:List α) (i:Nat),kR (fun _ x _=>bif p x then .inl ()else .inr y) z i xs ()=bif xs.all p then z ()else y
 | [],_=>rfl
 | x::r,i=>by
   rw[kR,am8];cases hp:p x with
   | true=>simp only[oT,aod]; exact j9 p y z r (i+1)
   | false=>rfl
def allI(p:Nat->α->Bool):Nat->List α->Bool
 | _,[]=>true
 | i,x::r=>p i x&&allI p (i+1) r
theorem kg(p:Nat->α->Bool)(y:Y)(z:Unit->Y):∀(xs:List α) (i:Nat),kR (fun i x _=>bif p i x then .inl ()else .inr y) z i xs ()=bif allI p i xs then z ()else y
 | [],_=>rfl
 | x::r,i=>by
   rw[kR,allI];cases hp:p i x with
   | true=>simp only[oT,aod]; exact kg p y z r (i+1)
   | false=>rfl
theorem gF(p:Nat->α->Bool):∀ {xs:List α} {k:Nat},allI p k xs=true->∀ {i:Nat} {x:α},xs[i]? = some x->p (k+i) x=true
 | [],k,_,i,x,hx=>by simp at hx
 | y::r,k,h,i,x,hx=>by
   simp only[allI,ame]at h;cases i with
   | zero=>simp only[amj,amd]at hx; subst hx; exact h.1
   | succ i => have:=gF p h.2 (i:=i) (x:=x) (by simpa using hx);rwa [show k+1+i=k+(i+1)by omega]at this
theorem bS(f:α->A->A)(z:A->Y):∀(xs:List α) (i:Nat) (a:A),kR (fun _ x a=> .inl (f x a)) z i xs a=z (xs.foldl (fun a x=>f x a) a)
 | [],_,_=>rfl
 | x::r,i,a=>by rw[kR,am7]; exact bS f z r (i+1) _
end
theorem bn{α β:Type}{a b:Option α}{f:α->Option β}(h:a=b):Option.bind a f=Option.bind b f:=h ▸ rfl
section
variable{α:Type}
theorem aU{i:Nat}(h:i<=bQ):ak .i64 (i:Int) 1=((i+1:Nat):Int):=by unfold ak;rw[IntWalk.i64_in _ (by have:bQ=140737488355328:=rfl; omega)];omega
theorem bd{a b:Int}(h1 : -4611686018427387904<=a+b)(h2:a+b<=4611686018427387904):ak .i64 a b=a+b:=by unfold ak; rw[IntWalk.i64_in _ (by omega)]
theorem bI{a b:Int}(h1 : -4611686018427387904<=a-b)(h2:a-b<=4611686018427387904):bf .i64 a b=a-b:=by unfold bf; rw[IntWalk.i64_in _ (by omega)]
theorem ah{xs:List α}{i:Nat}{x:α}(h:xs[i]? = some x):i<xs.length:=(amM.1 h).1
theorem aL{xs:List α}{i:Nat}{x:α}(h:xs[i]? = some x):aE (i:Int) (ae xs)=true:=by have:=ah h;unfold aE ae; exact amg (by omega)
theorem aA{xs:List α}{n:Nat}(h:xs.length=n):aE (n:Int) (ae xs)=false:=by unfold aE ae; exact amB (by omega)
theorem aF{a b:Int}(h:¬ a<b):aE a b=false:=amB h
theorem aR{a b:Int}(h:a<b):aE a b=true:=amg h
theorem aD{xs:List α}{i:Nat}{x:α}(h:xs[i]? = some x):aX (i:Int) xs=true:=by have:=ah h;unfold aX pS ck aE; rw[amg (by omega),amg (by omega)]; rfl
theorem im{xs:List α}{i:Nat}(h:i<xs.length):aX (i:Int) xs=true:=by unfold aX pS ck aE; rw[amg (by omega),amg (by omega)]; rfl
theorem aM{xs:List α}{i:Nat}{x:α}(d:α)(h:xs[i]? = some x):gt d xs (i:Int)=x:=by simp[gt,List.getD,h]
theorem fX{xs:S8}{i:Nat}{x:UInt8}(h:xs[i]? = some x):fh xs (i:Int)=(x.toNat:Int):=by simp[fh,FP,List.getD,h]
theorem bX(n:Int):aj n n=true:=by simp[aj]
theorem gI(s:S8):bF s s=true:=by simp[bF]
theorem si{xs:List α}{b:Nat}(hb:0<b)(h:xs.length * b<=bQ):VG b (ae xs)=true:=by
 have h1:((xs.length:Int) * (b:Int))<=(bQ:Int):=by exact_mod_cast h
 unfold VG ae ck;rw[amg (Int.natCast_nonneg _),amg h1];exact amm hb
theorem mC{β:Type}{xs:List α}(d:β):wM d (ae xs)=List.replicate xs.length d:=by simp[wM,ae]
theorem mr(d:α){done:List α}{y:α}{r:List α}{i:Nat}(h:done.length=i):gt d (done++y::r) (i:Int)=y:=by subst h; simp[gt,List.getD]
theorem eu{done:List α}{x y:α}{r:List α}{i:Nat}(h:done.length=i):cZ (done++x::r) (i:Int) y=done++y::r:=by subst h; simp[cZ,List.set_append]
theorem fc{done:List α}{y:α}{r:List α}{i:Nat}(h:done.length=i):aX (i:Int) (done++y::r)=true:=by apply im; simp; omega
theorem oW{done:List α}{y:α}{r:List α}{i:Nat}(h:done.length=i):aE (i:Int) (ae (done++y::r))=true:=by unfold aE ae; exact amg (by simp only[amf,ams]; omega)
theorem iX{xs:List α}{i:Nat}{x:α}(h:xs[i]? = some x):xs.drop i=x::xs.drop (i+1):=by have hl:=ah h;rw[aoo hl];congr 1;rw[ami hl]at h;exact am1 h
end
def KK(left:Int)(n:Nat):Int:=if (n:Int)<=left then left-n else -1
theorem cV{left:Int}{n:Nat}(h:(n:Int)<=left):KK left n=left-n:=if_pos h
theorem bL{left:Int}{n:Nat}(h:¬ (n:Int)<=left):KK left n = -1:=if_neg h
theorem fW{α:Type}{left:Int}{s:List α}(h0:0<=left)(h1:left<=1048576)(hs:s.length<=bQ):bf .i64 left (ae s)=left-(s.length:Int):=by have:bQ=140737488355328:=rfl;exact bI (by unfold ae; omega) (by unfold ae; omega)
def wL{α:Type}(w:α->Nat)(xs:List α):Nat:=xs.length+(xs.map w).sum
def cL{α:Type}(c:α->Nat)(xs:List α):Nat:=(xs.map c).sum
theorem BH{α Y:Type}(w:α->Nat)(y:Y)(z:Int->Y):∀(xs:List α) (i:Nat) (a:Int),0<=a->kR (fun _ x (a:Int)=>bif decide ((w x:Int)<=a)then Sum.inl (a-w x)else .inr y) z i xs a=if ((cL w xs:Nat):Int)<=a then z (a-(cL w xs:Nat))else y
 | [],_,a,h=>by simp[kR,cL,h]
 | x::r,i,a,h=>by
   rw[kR];by_cases hx:(w x:Int)<=a
   . simp only[hx,decide_true,oT];rw[BH w y z r (i+1) (a-w x) (by omega)];have e:((cL w (x::r):Nat):Int)=w x+(cL w r:Nat):=by simp[cL]
     rw[e];by_cases h2:((cL w r:Nat):Int)<=a-w x
     . rw[if_pos h2,if_pos (by omega)]; congr 1; omega
     . rw[if_neg h2,if_neg (by omega)]
   . simp only[hx,decide_false,oF];rw[if_neg];have e:((cL w (x::r):Nat):Int)=w x+(cL w r:Nat):=by simp[cL]
     rw[e]; omega
theorem er{α:Type}(c:α->Nat){xs:List α}{i:Nat}{x:α}(h:xs[i]? = some x):cL c (xs.drop i)=c x+cL c (xs.drop (i+1)):=by rw[iX h]; simp[cL]
theorem gj{α:Type}(c:α->Nat):∀ {xs:List α} {i:Nat} {x:α},xs[i]? = some x->c x<=cL c xs
 | [],i,x,h=>by simp at h
 | y::r,0,x,h=>by simp at h; subst h; simp[cL]
 | y::r,i+1,x,h=>by have:=gj c (xs:=r) (i:=i) (x:=x) (by simpa using h);simp only[cL,amO,anx]at this ⊢;omega
theorem C8{α:Type}{c w:α->Nat}(h:∀ x,c x<=100 * (w x+1)):∀(xs:List α),cL c xs<=100 * wL w xs
 | []=>by simp[cL]
 | x::r=>by have h1:=h x;have h2:=C8 h r;simp only[cL,wL,amO,anx,ams]at h2 ⊢;omega
theorem wZ{α:Type}(c:α->Nat)(p:α->Bool):∀(xs:List α),cL c (xs.filter p)<=cL c xs
 | []=>oR _
 | x::r=>by
   have ih:=wZ c p r;rw[am6];simp only[cL,amO,anx]at ih ⊢;split
   . simp only[amO,anx]; omega
   . omega
theorem TG{α:Type}(c:α->Nat)(y:α):∀(xs:List α) (i:Nat) (x:α),xs[i]? = some x->c y=c x->cL c (xs.set i y)=cL c xs
 | [],i,x,h,_=>by simp at h
 | z::r,0,x,h,hc=>by simp only[amj,amd]at h;subst h;simp[cL,hc]
 | z::r,i+1,x,h,hc=>by have:=TG c y r i x (by simpa using h) hc;simp only[cL,ao7,amO,anx]at this ⊢;omega
theorem ri{α:Type}(w:α->Nat)(p:α->Bool)(xs:List α):wL w (xs.filter p)<=wL w xs :=
 Nat.add_le_add (am4 _ _) (wZ w p xs)
theorem Py{α:Type}(w:α->Nat){xs:List α}{k:Int}{y:α}(d:α)(hk:aX k xs=true)(hw:w y=w (gt d xs k)):wL w (cZ xs k y)=wL w xs:=by
 have h0:0<=k/\k<xs.length:=by unfold aX pS ck aE at hk;simpa using hk
 have hx:xs[k.toNat]? = some (gt d xs k):=by unfold gt;rw[ang,ami (by omega)]; rfl
 have h1:(cZ xs k y).length=xs.length:=by simp[cZ]
 have h2:=TG w y xs k.toNat _ hx hw;show(cZ xs k y).length+cL w (xs.set k.toNat y)=xs.length+cL w xs;rw[h1,h2]
theorem oh{α:Type}(w:α->Nat)(xs:List α):xs.length<=wL w xs:=Nat.le_add_right _ _
theorem oG{α:Type}(w:α->Nat){xs:List α}{y:α}(h:y∈xs):w y<=wL w xs:=by obtain⟨i,hi⟩:=ao0 h;exact aml (gj w hi) (Nat.le_add_left _ _)
def jW{α:Type}(m:α->Int->α)(c:α->Nat):List α->Int->List α
 | [],_=>[]
 | x::r,k=>m x k::jW m c r (k+c x)
theorem qk{α Y:Type}(m:α->Int->α)(c:α->Nat)(z:List α×Int->Y):∀(xs:List α) (i:Nat) (d:List α) (k:Int),kR (fun _ x (a:List α×Int)=>Sum.inl (a.1++[m x a.2],a.2+c x)) z i xs (d,k)=z (d++jW m c xs k,k+(cL c xs:Nat))
 | [],_,d,k=>by simp[kR,jW,cL]
 | x::r,i,d,k=>by
   rw[kR];simp only;rw[qk m c z r (i+1)];congr 1;have e:((cL c (x::r):Nat):Int)=c x+(cL c r:Nat):=by simp[cL]
   rw[e];simp only[jW,amD,aoa,amK,true_and];omega
theorem pI{α:Type}(m:α->Int->α)(c:α->Nat):∀(xs:List α) (k:Int),(jW m c xs k).length=xs.length
 | [],_=>rfl
 | x::r,k=>by simp[jW,pI m c r]
theorem my{α:Type}(m:α->Int->α)(c:α->Nat):∀(xs:List α) (k:Int) (i:Nat) (x:α),xs[i]? = some x->(jW m c xs k)[i]? = some (m x (k+(cL c (xs.take i):Nat)))
 | [],k,i,x,h=>by simp at h
 | y::r,k,0,x,h=>by simp only[amj,amd]at h;subst h;simp[jW,cL]
 | y::r,k,i+1,x,h=>by simp only[am3]at h;have:=my m c r (k+c y) i x h;simp only[jW,am3,this,amd];congr 1;simp[cL]; omega
theorem px{α Y:Type}(c:α->Nat)(z:Int->Y):∀(xs:List α) (i:Nat) (k:Int),kR (fun _ x (a:Int)=>Sum.inl (a+(c x:Nat))) z i xs k=z (k+(cL c xs:Nat))
 | [],_,k=>by simp[kR,cL]
 | x::r,i,k=>by rw[kR];simp only;rw[px c z r (i+1)];congr 1;simp[cL]; omega
theorem qZ{α:Type}(c:α->Nat){xs:List α}{i:Nat}{x:α}(h:xs[i]? = some x):cL c (xs.take (i+1))=cL c (xs.take i)+c x:=by rw[anE,h]; simp[cL]
theorem oE{α:Type}(c:α->Nat)(xs:List α)(i:Nat):cL c xs=cL c (xs.take i)+cL c (xs.drop i):=by
 have:xs=xs.take i++xs.drop i:=(an9 i xs).symm
 conv=>lhs; rw[this]
 simp only[cL,ao1,ao2]
theorem nD{α:Type}(xs:List α):cL (fun _=>1) xs=xs.length:=by
 induction xs with
 | nil=>rfl
 | cons x r ih=>simp only[cL,amO,anx,ams]at ih ⊢; omega
theorem mw{α Y:Type}(z:List α->Y):∀(xs:List α) (i:Nat) (d:List α),kR (fun _ x (a:List α)=>Sum.inl (a++[x])) z i xs d=z (d++xs)
 | [],_,d=>by simp[kR]
 | x::r,i,d=>by rw[kR]; simp only; rw[mw z r (i+1)]; simp
mutual
def BgK:(k:K)->T k->Prop
 | .int k,x=>pT k x
 | .bool,_=>True
 | .str,s=>List.length (α:=UInt8) s<=bQ
 | .sl e ks,xs=>(aW (e:=e) (ks:=ks) xs).length<=bQ/\∀ y∈aW (e:=e) (ks:=ks) xs,BQ ks y
def BQ:(ks:List K)->Tl ks->Prop
 | [],_=>True
 | k::ks,x=>BgK k x.1/\BQ ks x.2
end
def flB(E:En)(rd:Nat->Bool):List (Nat×Nat)->List K->Nat->Bool
 | [],[],_=>true
 | (o,u)::r,ks,off=>Nat.beq o off&&(rd u&&match E.ti u with
   | some tu=>K.mL (ks.take tu.ks.length) tu.ks&&(Nat.ble tu.ks.length ks.length&&flB E rd r (ks.drop tu.ks.length) (off+tu.ks.length))
   | none=>false)
 | _,_,_=>false
def US(E:En):Nat->Nat->Bool
 | 0,_=>false
 | n+1,t=>match E.ti t with
   | some ti=>(match ti.agg with
     | true=>flB E (US E n) ti.pV ti.ks 0
     | false=>(match ti.ks with
       | [.sl e ks]=>(match E.ti e with | some te=>K.mL ks te.ks&&(Nat.blt 0 te.bytes&&(Nat.blt 0 te.ks.length&&US E n e)) | none=>false)
       | _=>true))
   | none=>false
section
variable{H:Type}{enc:TypeId×Value->H}{P:Program}{w:World}{spare:Nat->Bool}{held:Bool}{E:En}
theorem Dd(w:World):∀(ks:List K) (x:Tl ks) (cs:List Value) (b o:Nat),sL (iR w) w ks x cs->(∀ j v,cs[j]? = some v->w.cell? ⟨b,o+j,none⟩=some v)->rO (iR w) w ks x b o
 | [],_,_,_,_,_,_=>trivial
 | k::ks,x,[],b,o,h,_=>h.elim
 | k::ks,x,v::vs,b,o,h,hc=>⟨⟨v,hc 0 v rfl,h.1⟩,Dd w ks x.2 vs b (o+1) h.2 fun j u hu=>by have:=hc (j+1) u (by simpa using hu); rwa [show o+1+j=o+(j+1)by omega]⟩
theorem K7(w:World){Z:Nat->Prop}:∀(a b:List K) (cs fT:List Value) (x:Tl a) (y:Tl b),sL Z w a x cs->BQ a x->sL Z w b y fT->BQ b y->∃ z:Tl (a++b),sL Z w (a++b) z (cs++fT)/\BQ (a++b) z
 | [],b,[],fT,_,y,_,_,h,hb=>⟨y,h,hb⟩
 | [],b,_::_,fT,_,y,h,_,_,_=>h.elim
 | k::a,b,[],fT,x,y,h,_,_,_=>h.elim
 | k::a,b,v::vs,fT,x,y,h,hx,h',hb=>by obtain⟨z,h1,h2⟩:=K7 w a b vs fT x.2 y h.2 hx.2 h' hb;exact⟨(x.1,z),⟨h.1,h1⟩,⟨hx.1,h2⟩⟩
theorem xS{α:Type}(p:Nat->α->Prop):∀(n:Nat),(∀ i,i<n->∃ x,p i x)->∃ xs:List α,xs.length=n/\∀ i x,xs[i]? = some x->p i x
 | 0,_=>⟨[],rfl,fun i x h=>by simp at h⟩
 | n+1,h=>by
   obtain⟨xs,h1,h2⟩:=xS p n fun i hi=>h i (by omega)
   obtain⟨x,hx⟩:=h n (by omega);refine⟨xs++[x],by simp[h1],fun i y hy => ?_⟩;by_cases hi:i<n
   . rw[amW (by omega)]at hy;exact h2 i y hy
   . rw[amU (by omega),h1]at hy;cases hk:i-n with
     | zero => rw[hk]at hy;simp only[amj,amd]at hy;subst hy;rwa [show i=n by omega]
     | succ k=>rw[hk]at hy; simp at hy
theorem wh{base:Nat}{a:Addr}{n:Nat}{cs:List Value}(h:w.cells? base a n=some cs):cs.length=n/\∀ j v,cs[j]? = some v->w.cell? (a.add j)=some v:=by
 unfold World.cells? at h;split at h
 . refine⟨by simpa using mapM_some_length h,fun j v hj => ?_⟩;have nP:j<n:=by
    have:=(amM.1 hj).1;have h2:cs.length=n:=by simpa using mapM_some_length h
    omega
   have:=mapM_some_get h j j (by simp[nP]);rw[this,hj]
 . simp at h
theorem C4{a:Addr}{v:Value}(h:w.cell? a=some v):a.spot=none/\a.block<w.heap.size:=by
 unfold World.cell? at h;split at h
 . rename_i c _ _ hb;split at h
   . simp at h
   . rename_i hs;refine⟨by simpa using hs,?_⟩;rcases amv a.block w.heap.size with hh | hh
     . exact hh
     . rw[amy hh]at hb; simp at hb
 . simp at h
theorem qE{e:TypeId}:∀(l:List (DataW H)) {d:DataW H},d∈l->∀ n∈d.weights P e,n∈DataW.weightsAll P e l
 | [],_,h,_,_=>by simp at h
 | x::r,d,h,n,hn=>by
   simp only[DataW.weightsAll,anA];rcases amo.1 h with h | h
   . subst h; exact .inl hn
   . exact .inr (qE r h n hn)
theorem I0{ks a:List K}{cs:List Value}{m o:Nat}(hk:ks.take m=a)(hm:a.length=m){x:Tl a}{y:Tl (ks.drop m)}(x1:sL (iR w) w a x ((cs.drop o).take m))(x2:BQ a x)(y1:sL (iR w) w (ks.drop m) y (cs.drop (o+m)))(y2:BQ (ks.drop m) y):∃ z:Tl ks,sL (iR w) w ks z (cs.drop o)/\BQ ks z:=by
 have h:=K7 w _ _ _ _ x y x1 x2 y1 y2;have e1:a++ks.drop m=ks:=by rw[<- hk]; exact an9 m ks
 have e2:(cs.drop o).take m++cs.drop (o+m)=cs.drop o:=by rw[<- List.drop_drop,an9]
 rw[e1,e2]at h;exact h
theorem VD(hT:cH P E):∀(n t:Nat) (ti:TI),US E n t=true->E.ti t=some ti->∀(fuel:Nat) (cs:List Value) (d:DataW H) (ps:List MemPlace),DataW.trod enc P w 0 spare held fuel t cs=some (d,ps)->(∀ m∈d.weights P t,m<=bQ)->∃ x:Tl ti.ks,sL (iR w) w ti.ks x cs/\BQ ti.ks x:=by
 intro n;induction n with
 | zero=>intro t ti h; simp[US]at h
 | succ n ih =>
   intro t ti Pg iy fuel cs d ps htr hw;have Yb:=hT t ti iy;obtain⟨dd,hu,mV⟩:=Yb.desc;unfold US at Pg;rw[iy]at Pg;simp only at Pg;obtain⟨inf,alU,dh,_⟩:=Yb.info;have bD:P.cellsOf t=ti.ks.length:=by simp[Program.cellsOf,alU,dh]
   cases dd with
   | bool => obtain⟨yc,Kc⟩:=mV;obtain⟨b,rfl,_⟩:=DataW.trod_bool hu htr;rw[Kc];exact⟨(b,()),⟨rfl,trivial⟩,⟨trivial,trivial⟩⟩
   | int k =>
     obtain⟨yc,Kc⟩:=mV;obtain⟨v,rfl,_,hwf⟩:=DataW.trod_int hu htr;rw[Kc];have kL:pT k v:=by simpa[Lit.wf,pT]using hwf
     exact⟨(v,()),⟨⟨rfl,kL⟩,trivial⟩,⟨kL,trivial⟩⟩
   | string => obtain⟨yc,Kc⟩:=mV;obtain⟨v,rfl,hx,_⟩:=DataW.trod_string hu htr;simp only[amK]at hx;obtain⟨rfl,_⟩:=hx;rw[Kc];have hl:=hw v.data.toList.length (by simp[DataW.weights]);exact⟨(v.data.toList,()),⟨⟨by simp[fR],hl⟩,trivial⟩,⟨hl,trivial⟩⟩
   | slice e =>
     obtain⟨yc,ks,Kc,Uj⟩:=mV;obtain⟨ag,kk,el,HT,fl⟩:=ti;simp only at Kc Uj yc;subst Kc;subst Uj;subst yc;simp only at Pg;cases E7:E.ti el with
     | none=>rw[E7]at Pg; simp at Pg
     | some te =>
     rw[E7]at Pg;simp only[ame]at Pg;obtain⟨r1,r2,r3,r4⟩:=Pg;have nM:=K.kV _ _ r1;subst nM;have vY:0<te.bytes:=anj (amA r2);have hkl:0<te.ks.length:=anj (amA r3);obtain⟨al7,aaY,ad0,alV,_⟩:=(hT el te E7).info;have hce:P.cellsOf el=te.ks.length:=by simp[Program.cellsOf,aaY,ad0]
     have vT:P.bytesOf el=te.bytes:=by simp[Program.bytesOf,aaY,alV]
     rcases DataW.trod_slice hu htr with ⟨rfl,_⟩ | ⟨a,len,cap,elems,rest,m,_,rfl,hx,_,hlc,Fs,hlen,Uj,_⟩
     . exact⟨(([]:List (Tl te.ks)),()),⟨⟨none,0,rfl,oR _,amr _,fun _=>rfl,fun h=>absurd rfl h⟩,trivial⟩,⟨⟨amr _,fun y hy=>by simp[aW]at hy⟩,trivial⟩⟩
     . simp only[amK]at hx;obtain⟨rfl,_⟩:=hx;have Ph:(elems.length+rest.length) * te.bytes<=bQ:=by
        have:=hw ((elems.length+rest.length) * P.bytesOf el) (by simp[DataW.weights,hu]);rwa [vT]at this
       have hlb:len<=bQ:=by have:=anL (elems.length+rest.length) vY;omega
       rw[hce]at Uj;have OL:∀ i,i<len->∃ x:Tl te.ks,(a.spot=none∨0<i)/\(∃ cells,w.cells? 0 (a.add (i * te.ks.length)) te.ks.length=some cells/\sL (iR w) w te.ks x cells)/\BQ te.ks x:=fun i hi=>by
        have h1:=Uj i hi;have hei:elems[i]? = some (elems[i]'(by omega)):=ami (by omega);rw[hei]at h1;obtain⟨cells,yo,OV⟩:=anv.1 h1;obtain⟨x,hx1,hx2⟩:=ih el te r4 E7 m cells _ _ OV fun q hq=>hw q (by simp only[DataW.weights,hu,amo,anA];right; left;exact qE (elems.map (·.1)) (an5.2 ⟨_,List.getElem_mem (by omega:i<elems.length),rfl⟩) q hq)
        refine⟨x,?_,⟨cells,yo,hx1⟩,hx2⟩;rcases an7 i with h0 | h0
        . left;subst h0;obtain⟨g1,g2⟩:=wh yo;obtain⟨v,hv⟩:∃ v,cells[0]? = some v:=⟨cells[0]'(by omega),ami (by omega)⟩;have:=g2 0 v hv;simp[Addr.add]at this;exact(C4 this).1
        . exact .inr h0
       obtain⟨xs,hxl,hxs⟩:=xS _ len OL;refine⟨((xs:List (Tl te.ks)),()),⟨⟨some a,cap,by show Value.slice (some a) len cap= .slice (some a) xs.length cap; rw[hxl],by show xs.length<=cap; omega,by show xs.length<=bQ; omega,fun h=>by simp at h,fun cY => ?_⟩,trivial⟩,⟨⟨by show xs.length<=bQ; omega,fun y hy => ?_⟩,trivial⟩⟩
       . have Kd:0<xs.length:=ao3.2 cY;have Dt:=hxs 0 _ (ami Kd);have Iq:a.spot=none:=by
          rcases Dt.1 with h | h
          . exact h
          . omega
         obtain⟨ab,ao,asp⟩:=a;simp only at Iq;subst Iq;have Yo:∀ o k,(⟨ab,o,none⟩:Addr).add k=⟨ab,o+k,none⟩:=fun o k=>by
          unfold Addr.add;split
          . rename_i h; subst h; rfl
          . rfl
         have lD:ab<w.heap.size:=by obtain⟨_,⟨cells,yo,OV⟩,_⟩:=Dt;obtain⟨g1,g2⟩:=wh yo;obtain⟨v,hv⟩:∃ v,cells[0]? = some v:=⟨cells[0]'(by omega),ami (by omega)⟩;have:=g2 0 v hv;rw[Yo,Yo]at this;exact(C4 this).2
         refine⟨ab,ao,rfl,lD,lD,fun i x hi => ?_⟩;obtain⟨_,⟨cells,yo,OV⟩,_⟩:=hxs i x hi;obtain⟨g1,g2⟩:=wh yo;refine Dd w te.ks x cells ab (ao+i * te.ks.length) OV fun j v hj => ?_
         have:=g2 j v hj;rw[Yo,Yo]at this;exact this
       . obtain⟨i,hi⟩:=ao0 hy;exact(hxs i y hi).2.2
   | struct fs =>
     obtain⟨yc,O9,_⟩:=mV;rw[yc]at Pg;simp only at Pg;obtain⟨xs,m,_,hx,hlen,hxl,lE⟩:=DataW.trod_struct hu htr;simp only[amK]at hx;obtain⟨rfl,_⟩:=hx;rw[bD]at hlen;have key:∀(l:List (Nat×Nat)) (ks:List K) (off i:Nat),(∀ j,MU l j=MU ti.pV (i+j))->off+ks.length=ti.ks.length->flB E (US E n) l ks off=true->∃ x:Tl ks,sL (iR w) w ks x (cs.drop off)/\BQ ks x:=by
      intro l;induction l with
      | nil =>
        intro ks off i hf ho hb;cases ks with
        | nil => rw[List.drop_of_length_le (by simp at ho; omega)];exact⟨(),trivial,trivial⟩
        | cons k ks=>simp[flB]at hb
      | cons p r ihl =>
        intro ks off i hf ho hb;obtain⟨o,u⟩:=p
        have cz:(Nat.beq o off&&(US E n u&&match E.ti u with
         | some tu=>K.mL (ks.take tu.ks.length) tu.ks&&(Nat.ble tu.ks.length ks.length&&flB E (US E n) r (ks.drop tu.ks.length) (off+tu.ks.length))
         | none=>false))=true:=by
         cases ks <;> exact hb
        simp only[ame]at cz;obtain⟨b1,b2,b3⟩:=cz;cases htu:E.ti u with
        | none=>rw[htu]at b3; simp at b3
        | some tu =>
        rw[htu]at b3;simp only[ame]at b3;obtain⟨b3,b4,b5⟩:=b3;have jY:=beq_eq b1;subst jY;have Kc:=K.kV _ _ b3;have hkl:tu.ks.length<=ks.length:=amA b4;have h0:=hf 0;rw[amJ]at h0;obtain⟨fi,f1,f2,f3⟩:=O9 i o u h0.symm;have hg:=lE i fi f1;rw[f2,f3]at hg;obtain⟨inu,alW,Ub,_⟩:=(hT u tu htu).info;have hcu:P.cellsOf u=tu.ks.length:=by simp[Program.cellsOf,alW,Ub]
        rw[hcu]at hg;have Dm:i<xs.length:=by rw[hxl]; exact(amG.1 f1).1
        rw[ami Dm]at hg;obtain⟨x,x1,x2⟩:=ih u tu b2 htu m _ _ _ hg fun q hq=>hw q (by
         simp only[DataW.weights,hu];refine DataW.weights_mem_each (j:=i) (t:=u) (d:=xs[i].1) ?_ ?_ q hq
         . rw[amT,amh,f1,amE,f3]
         . rw[amT,ami Dm]; rfl)
        obtain⟨y,y1,y2⟩:=ihl (ks.drop tu.ks.length) (o+tu.ks.length) (i+1) (fun j=>by rw[show i+1+j=i+(j+1)by omega,<- hf (j+1)]; rfl) (by rw[an6]; omega) b5;exact I0 Kc rfl x1 x2 y1 y2
     obtain⟨x,x1,x2⟩:=key ti.pV ti.ks 0 0 (fun j=>by rw[amp]) (by omega) Pg;exact⟨x,x1,x2⟩
   | _=>exact mV.elim
end
def Jd(E:En):List Nat->List PK->Bool
 | [],[]=>true
 | t::ts,.c g ks::ps=>(match E.ti t with | some ti=>cw g ti.agg&&(K.mL ks ti.ks&&US E 30 t) | none=>false)&&Jd E ts ps
 | _,_=>false
def BgP:(ps:List PK)->PT ps->Prop
 | [],_=>True
 | .c _ ks::ps,x=>BQ ks x.1/\BgP ps x.2
 | .pt _::ps,x=>BgP ps x.2
 | .nil::ps,x=>BgP ps x
 | .fn _ _::ps,x=>BgP ps x.2
 | .io _ _::ps,x=>BgP ps x.2
 | .mv _::ps,x=>BgP ps x.2
 | .pw _::ps,x=>BgP ps x.2
section
variable{H:Type}{enc:TypeId×Value->H}{P:Program}{w:World}{spare:Nat->Bool}{held:Bool}{E:En}
theorem ac2(hT:cH P E){t:Nat}{ti:TI}(hr:US E 30 t=true)(iy:E.ti t=some ti){base:Nat}{v:Value}(hv:Value.okWide P w .any base t v){d:DataW H}{p:List MemPlace}(h:DataW.Trod enc P w 0 spare held t v d p)(hw:∀ m∈d.weights P t,m<=bQ) :
 ∃ x:Tl ti.ks,ROv (iR w) w ti.agg ti.ks x v/\BQ ti.ks x:=by
 obtain⟨fuel,h⟩:=h;obtain⟨x,h1,h2⟩:=VD hT 30 t ti hr iy fuel _ d p h hw;refine⟨x,⟨v.cells.toList,?_,h1⟩,h2⟩;obtain⟨dd,hu,mV⟩:=(hT t ti iy).desc;unfold Value.okWide at hv;rw[hu]at hv;cases dd with
 | struct fs => obtain⟨cs,rfl,_⟩:=hv;rw[mV.1];show Value.agg cs= .agg cs.toList.toArray;simp
 | bool => rw[mV.1];unfold Cell.okWide at hv;rw[hu]at hv;cases v <;> first | rfl | exact(by simp[Cell.ok,hu]at hv)
 | int k => rw[mV.1];unfold Cell.okWide at hv;rw[hu]at hv;cases v <;> first | rfl | exact(by simp[Cell.ok,hu]at hv)
 | string => rw[mV.1];unfold Cell.okWide at hv;rw[hu]at hv;cases v <;> first | rfl | exact(by simp[Cell.ok,hu]at hv)
 | slice e => rw[mV.1];unfold Cell.okWide at hv;rw[hu]at hv;cases v <;> first | rfl | exact(by simp[Cell.ok,hu]at hv)
 | _=>exact mV.elim
theorem G9{base:Nat}{spare:Nat->Bool}{held:Bool}:∀(ts:List Nat) (vs:List Value) (ds:List (DataW H)) (pl:List MemPlace),DataW.TrodAll enc P w base spare held ts vs ds pl->ds.length=ts.length
 | [],[],[],_,_=>rfl
 | t::ts,v::vs,d::ds,_,h=>by obtain⟨p,q,_,h2,_⟩:=h;simp[G9 ts vs ds q h2]
 | [],_::_,_,_,h=>h.elim
 | [],[],_::_,_,h=>h.elim
 | _::_,[],_,_,h=>h.elim
 | _::_,_::_,[],_,h=>h.elim
theorem GC(hT:cH P E){base:Nat}:∀(ts:List Nat) (ps:List PK),Jd E ts ps=true->∀(vs:List Value) (ds:List (DataW H)) (pl:List MemPlace) (n:Nat),DataW.TrodAll enc P w 0 spare held ts vs ds pl->(∀(j:Nat) t v,ts[j]? = some t->vs[j]? = some v->Value.okWide P w .any base t v) ->
 (∀ m∈DataW.weightsEach P ts ds,m<=bQ)->∃ x:PT ps,ee (iR w) w (fun _ _=>False) ps x vs n/\BgP ps x
 | [],[],_,[],[],pl,n,h,hv,hw=>⟨(),trivial,trivial⟩
 | [],[],_,_::_,_,pl,n,h,hv,hw=>h.elim
 | [],[],_,[],_::_,pl,n,h,hv,hw=>h.elim
 | t::ts,.c g ks::ps,hp,[],ds,pl,n,h,hv,hw=>h.elim
 | t::ts,.c g ks::ps,hp,_::_,[],pl,n,h,hv,hw=>h.elim
 | t::ts,.c g ks::ps,hp,v::vs,d::ds,pl,n,h,hv,hw=>by
   obtain⟨p,q,h1,h2,_⟩:=h;unfold Jd at hp;simp only[ame]at hp;obtain⟨yn,Ch⟩:=hp;cases iy:E.ti t with
   | none=>rw[iy]at yn; simp at yn
   | some ti => rw[iy]at yn;simp only[ame]at yn;obtain⟨b1,b2,b3⟩:=yn;have e1:=eL b1;have e2:=K.kV _ _ b2;subst e1;subst e2;obtain⟨x,x1,x2⟩:=ac2 hT b3 iy (hv 0 t v rfl rfl) h1 (fun m hm=>hw m (by simp only[DataW.weightsEach,anA]; exact .inl hm));obtain⟨y,y1,y2⟩:=GC hT ts ps Ch vs ds q n h2 (fun j t' v' ht hv'=>hv (j+1) t' v' (by simpa using ht) (by simpa using hv')) (fun m hm=>hw m (by simp only[DataW.weightsEach,anA]; exact .inr hm));exact⟨(x,y),⟨x1,y1⟩,⟨x2,y2⟩⟩
 | [],.c _ _::_,hp,_,_,_,_,_,_,_=>by simp[Jd]at hp
 | [],.pt _::_,hp,_,_,_,_,_,_,_=>by simp[Jd]at hp
 | [],.nil::_,hp,_,_,_,_,_,_,_=>by simp[Jd]at hp
 | [],.fn _ _::_,hp,_,_,_,_,_,_,_=>by simp[Jd]at hp
 | [],.io _ _::_,hp,_,_,_,_,_,_,_=>by simp[Jd]at hp
 | [],.mv _::_,hp,_,_,_,_,_,_,_=>by simp[Jd]at hp
 | _::_,[],hp,_,_,_,_,_,_,_=>by simp[Jd]at hp
 | _::_,.pt _::_,hp,_,_,_,_,_,_,_=>by simp[Jd]at hp
 | _::_,.nil::_,hp,_,_,_,_,_,_,_=>by simp[Jd]at hp
 | _::_,.fn _ _::_,hp,_,_,_,_,_,_,_=>by simp[Jd]at hp
 | _::_,.io _ _::_,hp,_,_,_,_,_,_,_=>by simp[Jd]at hp
 | _::_,.mv _::_,hp,_,_,_,_,_,_,_=>by simp[Jd]at hp
theorem N5{fresh:Bool}{Z:Nat->Prop}{w:World}{H:Nat->Nat->Prop}{b:Bool}:∀ {vs:List Value},mU fresh Z w H [(false,[.bool])] ((b,()),()) vs 0->vs=[.bool b]
 | [],h=>h.elim
 | [v],h=>by obtain⟨⟨cs,hc,E8⟩,_⟩:=h;have hc:cs=[v]:=hc;subst hc;have hv:v= .bool b:=E8.1;rw[hv]
 | _::_::_,h=>h.2.elim
theorem NW {f : Nat} {fn : Func} {c : Code} {s : Su} (Ub : lU P f s) (hf : P.funcs[f]? = some fn) (iw : (fn.name == "runtime.NumGoroutine") = false) (hb : fn.body = some c)
 (yQ:Gl P w (iR w)) {args:Array Value} {x:PT s.ps} (cF:ee (iR w) w (fun _ _=>False) s.ps x args.toList 0)
 (alX:∃ y,s.vX x=some y/\∀(Z:Nat->Prop) (w':World) (H:Nat->Nat->Prop) (vs:List Value),mU s.fresh Z w' H s.rs y.2 vs 0->vs=[.bool true]) :
 Calls P f args w fun e w'=>e= .returned (.bool true)/\Below w.heap.size w w':=by
 obtain⟨y,hy,Ul⟩:=alX;have h:=Ub w (iR w) (fun _ _=>False) args x y yQ cF (fun b hb=>hb) (fun i b hb=>hb.elim) (fun i j b hb=>hb.elim) hy;rw[MuLone.run_callFunc_enter hf iw hb]at h;have h:Calls P f args w _:=h;refine h.mono fun e w' he => ?_
 cases e with
 | returned v => obtain⟨Z',H',vs,rfl,ha,_,hr⟩:=he;have Pd:=Ul Z' w' _ vs hr;subst Pd;exact⟨rfl,ha.os,ha.tape,ha.output,ha.size,fun k hk=>ha.block k hk fun i hi=>hi⟩
 | _=>exact he.elim
theorem Below.trodAll(hl:laidOutB P=true){W W':World}(hb:Below W.heap.size W W'):∀(ts:List TypeId) (vs:List Value) (ds:List (DataW H)) (ps:List MemPlace),(∀ t∈ts,P.readableRec t=true/\t<P.types.size)->DataW.TrodAll enc P W 0 (fun _=>true) true ts vs ds ps->(∀ x∈ps,x.block<W.heap.size)->DataW.TrodAll enc P W' 0 (fun b=>decide (b<W.heap.size)) true ts vs ds ps
 | [],[],[],ps,_,h,_=>h
 | t::ts,v::vs,d::ds,ps,ht,h,aV=>by obtain⟨p,q,h1,h2,rfl⟩:=h;exact⟨p,q,Below.trod hl (ht t (amz ..)).1 (ht t (amz ..)).2 h1 hb (fun x hx=>aV x (an0 _ hx)),Below.trodAll hl hb ts vs ds q (fun t yl=>ht t (amt _ yl)) h2 (fun x hx=>aV x (aol _ hx)),rfl⟩
 | [],_::_,_,_,_,h,_=>h.elim
 | [],[],_::_,_,_,h,_=>h.elim
 | _::_,[],_,_,_,h,_=>h.elim
 | _::_,_::_,[],_,_,h,_=>h.elim
theorem T7{fn:Func}{s:ChangeSpec}(hl:laidOutB P=true)(aaZ:s.vars=[]){rt:TypeId}(Fl:fn.resultTypes = #[rt])(hru:P.underlying rt=some .bool)(yp:∀ t∈fn.params.toList,P.readableRec t=true/\t<P.types.size)
 {W W':World}{args:Array Value}{ds gs:List (DataW H)}{before:List MemPlace}(hW:DataW.Whole enc P fn.params.toList s.vars false W args.toList ds gs before)(hb:Below W.heap.size W W')
 (hs:s.fn H (ds++gs)={ results:=[.lit (.bool true)],args:=ds }):s.post enc P fn false true false false W args (.bool true) W':=by
 have aV:=hW.lt;have hW0:=hW;obtain⟨p,q,hA,hV,rfl,_,_⟩:=hW;rw[aaZ]at hV;obtain⟨rfl,rfl⟩:gs=[]/\q=[]:=by
  cases gs with
  | nil=>exact⟨rfl,hV⟩
  | cons _ _=>exact hV.elim
 refine⟨ds,[],_,[],p,[],hW0,?_,?_,?_,hb.frame _,fun h=>by simp at h⟩
 . rw[hs,Fl];exact⟨[],[],Go.RowKit.shut_bool hru true,rfl,rfl⟩
 . rw[hs];exact Below.trodAll hl hb _ _ _ _ yp hA fun x hx=>by have:=aV x (an0 _ hx); simpa using this
 . rw[hs,aaZ];rfl
end
structure Swo {α:Type} (lt:α->α->Bool):Prop where
 irr:∀ a,lt a a=false
 trans:∀ a b c,lt a b=true->lt b c=true->lt a c=true
 neg:∀ a b c,lt a c=true->lt a b=true∨lt b c=true
def eqv{α:Type}(lt:α->α->Bool)(a b:α):Bool:= !lt a b&& !lt b a
def Fj{α:Type}(lt:α->α->Bool)(xs ys:List α):Prop:=xs.length=ys.length/\∀ z,xs.filter (eqv lt z)=ys.filter (eqv lt z)
section
variable{α:Type}{lt:α->α->Bool}
theorem Ro(h:Swo lt)(a:α):eqv lt a a=true:=by simp[eqv,h.irr]
theorem DH{a b:α}:eqv lt a b=true↔lt a b=false/\lt b a=false:=by simp[eqv]
theorem Swo.le_trans(h:Swo lt){a b c:α}(h1:lt b a=false)(h2:lt c b=false):lt c a=false:=by
 cases hc:lt c a with
 | false=>rfl
 | true=>rcases h.neg c b a hc with h3 | h3 <;> simp_all
theorem OK(h:Swo lt){a b c:α}(h1:eqv lt a b=true)(h2:eqv lt b c=true):eqv lt a c=true:=by
 rw[DH]at *
 exact⟨h.le_trans h2.1 h1.1,h.le_trans h1.2 h2.2⟩
theorem TJ{a b:α}(h:eqv lt a b=true):eqv lt b a=true:=by rw[DH]at *; exact⟨h.2,h.1⟩
theorem Fj.refl(xs:List α):Fj lt xs xs:=⟨rfl,fun _=>rfl⟩
theorem Fj.symm{xs ys:List α}(h:Fj lt xs ys):Fj lt ys xs:=⟨h.1.symm,fun z=>(h.2 z).symm⟩
theorem Fj.trans{xs ys zs:List α}(h1:Fj lt xs ys)(h2:Fj lt ys zs):Fj lt xs zs:=⟨h1.1.trans h2.1,fun z=>(h1.2 z).trans (h2.2 z)⟩
theorem Fj.append{a b c d:List α}(h1:Fj lt a b)(h2:Fj lt c d):Fj lt (a++c) (b++d):=⟨by simp[h1.1,h2.1],fun z=>by simp[h1.2 z,h2.2 z]⟩
theorem Fj.mem(h:Swo lt){xs ys:List α}(hs:Fj lt xs ys){x:α}:x∈xs↔x∈ys:=by
 have key:∀ {xs ys:List α},Fj lt xs ys->x∈xs->x∈ys:=fun {xs ys} hs hx=>by have:x∈xs.filter (eqv lt x):=ans.2 ⟨hx,Ro h x⟩;rw[hs.2 x]at this;exact(ans.1 this).1
 exact⟨key hs,key hs.symm⟩
theorem Fj.swap(h:Swo lt){a b:List α}(hab:∀ x∈a,∀ y∈b,lt y x=true):Fj lt (a++b) (b++a):=by
 refine⟨by simp[Nat.add_comm],fun z => ?_⟩;rw[anX,anX];by_cases ha:a.filter (eqv lt z)=[]
 . rw[ha]; simp
 . by_cases hb:b.filter (eqv lt z)=[]
   . rw[hb]; simp
   . exfalso;obtain⟨x,hx⟩:=List.exists_mem_of_ne_nil _ ha;obtain⟨y,hy⟩:=List.exists_mem_of_ne_nil _ hb;have hx:=ans.1 hx;have hy:=ans.1 hy;have:=OK h (TJ hx.2) hy.2;rw[DH]at this;rw[hab x hx.1 y hy.1]at this;simp at this
end
open Go.Shelf Go.Proofs Go.Lib
section
variable{P:Program}{w w':World}{Z Z':Nat->Prop}{F G:Nat->Nat->Prop}
theorem oK:∀(ps:List PK) (x:PT ps) (y:ux ps) (vs:List Value) (n m:Nat),ee Z w F ps x vs n->nn ps=false->wa Z' w' G ps y vs m
 | [],_,_,[],_,_,_,_=>trivial
 | [],_,_,_::_,_,_,h,_=>h.elim
 | .c _ _::ps,x,y,v::vs,n,m,h,hi=>oK ps x.2 y vs n m h.2 hi
 | .pt _::ps,x,y,v::vs,n,m,h,hi=>oK ps x.2 y vs n m h.2 hi
 | .nil::ps,x,y,v::vs,n,m,h,hi=>oK ps x y vs n m h.2 hi
 | .fn _ _::ps,x,y,v::vs,n,m,h,hi=>oK ps x.2 y vs n m h.2 hi
 | .mv _::ps,x,y,v::vs,n,m,h,hi=>oK ps x.2 y vs (n+1) (m+1) h.2 hi
 | .io _ _::ps,_,_,_,_,_,_,hi=>by simp[nn]at hi
 | .c _ _::_,_,_,[],_,_,h,_=>h.elim
 | .pt _::_,_,_,[],_,_,h,_=>h.elim
 | .nil::_,_,_,[],_,_,h,_=>h.elim
 | .fn _ _::_,_,_,[],_,_,h,_=>h.elim
 | .mv _::_,_,_,[],_,_,h,_=>h.elim
def V6(w:World)(Z:Nat->Prop)(s:Su)(y:CT s.rs)(e:Ending)(w':World):Prop :=
 ∃(vs:List Value) (H:Nat->Nat->Prop),e= .returned (A6 vs)/\Below w.heap.size w w'/\(∀ n b,H n b->w.heap.size<=b/\b<w'.heap.size)/\(∀ n m b,H n b->H m b->n=m)/\mU s.fresh Z w' H s.rs y vs 0
theorem Je {f : Nat} {fn : Func} {c : Code} {s : Su} (hf : P.funcs[f]? = some fn) (iw : (fn.name == "runtime.NumGoroutine") = false) (hb : fn.body = some c) (hio : nn s.ps = false)
 (h:∀(w:World) (Z:Nat->Prop) (F:Nat->Nat->Prop) (args:Array Value) (x:PT s.ps) (y:ux s.ps×CT s.rs),Gl P w Z->(∀ b,Z b->b<w.heap.size)->ee Z w F s.ps x args.toList 0->s.vX x=some y->Calls P f args w (V6 w Z s y.2)):lU P f s:=by
 intro w Z F args x y yQ cF hZ hF hd hy;rw[MuLone.run_callFunc_enter hf iw hb];show Calls P f args w _;refine(h w Z F args x y yQ hZ cF hy).mono fun e w' ⟨vs,H,he,hb,h1,h2,hr⟩ => ?_
 subst he;refine⟨Z,fun n b=>∃ j,n=2 * j+1/\H j b,vs,rfl,?_,oK _ x _ _ 0 0 cF hio,mU.mono (fun n b hb=>⟨n,rfl,hb⟩) _ _ _ _ hr⟩
 exact { os:=hb.os,tape:=hb.tape,output:=hb.output,size:=hb.size
         block:=fun b aV _=>hb.block b aV
         z:=fun b hb=>hb
         cq:=fun b hz=>⟨amC (hZ b hz) hb.size,.inl hz⟩
         fp:=fun n b ⟨j,_,hh⟩=>⟨(h1 j b hh).2,fun hz=>by have:=hZ b hz; have:=(h1 j b hh).1; omega,.inr (h1 j b hh).1⟩
         cS:=fun n m b ⟨j,e1,h3⟩ ⟨j',e2,h4⟩=>by have:=h2 j j' b h3 h4; omega }
theorem acE{nm:String}{k:IntKind}{zs:List Int}(h:Gl P w Z)(hm:(nm,abS k zs)∈gl0){g:Nat}(hg:P.globalNamed nm=some g):Lib.TabIs P w nm k zs:=by obtain⟨⟨e,fr,h1⟩,_,_⟩:=h _ hm g hg;simp only[Lib.TabIs,World.var?,hg,oB,h1]
theorem Tg{fr:Bool}{s:S8}(h:s.length<=bQ):mU fr Z w (fun _ _=>False) [(false,[.str])] ((s,()),()) [.string ⟨s.toArray⟩] 0 :=
 ⟨⟨[.string ⟨s.toArray⟩],rfl,⟨rfl,h⟩,trivial⟩,trivial⟩
theorem KZ{k:IntKind}{x:Tl [K.int k]}{v:Value}(h:ROv Z w false [.int k] x v):v= .int k x.1/\pT k x.1:=by obtain⟨cs,e,h⟩:=h;have e:cs=[v]:=e;subst e;exact h.1
theorem arg_str{x:Tl [K.str]}{v:Value}(h:ROv Z w false [.str] x v):v= .string (fR x.1)/\x.1.length<=bQ:=by obtain⟨cs,e,h⟩:=h;have e:cs=[v]:=e;subst e;exact h.1
def LU(n:Int):Option (Unit×(S8×Unit)×Unit):=zR (Lib.itoa n)
theorem Xo {ρ : Ren} (L : LaysM.n171 P ρ) {f : Nat} (hf : f = ρ.f 171) {fn : Func} {c : Code} (h1 : P.funcs[f]? = some fn) (iw : (fn.name == "runtime.NumGoroutine") = false) (hb : fn.body = some c) : lU P f ⟨[.c false [.int .i64]], [(false, [.str])], true, .inl fun x => LU x.1.1⟩ := by
 subst hf;refine Je h1 iw hb rfl fun w Z F args x y yQ hZ cF hy => ?_
 have hy:LU x.1.1=some y:=hy;obtain rfl:=am1 hy
 match hl:args.toList,cF with
 | [v],⟨hv,_⟩ =>
   obtain⟨rfl,hr⟩:=KZ hv;obtain rfl:args = #[.int .i64 x.1.1]:=by rw[<- anc (xs:=args),hl]
   obtain⟨⟨n,_⟩,_⟩:=x;change Int at n;have hr:(-9223372036854775808:Int)<=n/\n<=9223372036854775807:=hr;refine(Any.strconv_Itoa L n hr.1 hr.2 w (acE yQ (by simp[gl0]) L.m17)).mono fun e w' ⟨he,k,os,hw⟩ => ?_
   subst he hw;refine⟨[_],fun _ _=>False,rfl,below_grow _ w (oR _) k os,fun _ _ h=>h.elim,fun _ _ _ h=>h.elim,Tg ?_⟩;exact aml (itoa_length_le _ hr.1 hr.2) (by decide)
 | [],h=>exact h.elim
 | _::_::_,h=>exact h.2.elim
def rC(s:S8)(n:Int):Option (Unit×(S8×Unit)×Unit):=cond (ck 0 n&&Nat.ble (s.length * n.toNat) bQ) (zR (Lib.repeatL s n.toNat)) none
theorem Ny {ρ : Ren} (L : Lays.n105 P ρ) (X : Builder.Extra P ρ) {f : Nat} (hf : f = ρ.f 105) {fn : Func} {c : Code} (h1 : P.funcs[f]? = some fn) (iw : (fn.name == "runtime.NumGoroutine") = false) (hb : fn.body = some c) : lU P f ⟨[.c false [.str], .c false [.int .i64]], [(false, [.str])], true, .inl fun x => rC x.1.1 x.2.1.1⟩ := by
 subst hf;refine Je h1 iw hb rfl fun w Z F args x y yQ hZ cF hy => ?_
 have hy:rC x.1.1 x.2.1.1=some y:=hy
 match hl:args.toList,cF with
 | [v,u],⟨hv,hu,_⟩ =>
   obtain⟨rfl,hr⟩:=arg_str hv;obtain⟨rfl,Fo⟩:=KZ hu;obtain rfl:args = #[.string (fR x.1.1),.int .i64 x.2.1.1]:=by rw[<- anc (xs:=args),hl]
   obtain⟨⟨s,_⟩,⟨n,_⟩,_⟩:=x;change S8 at s;change Int at n;simp only[rC]at hy;cases hc:ck 0 n&&Nat.ble (s.length * n.toNat) bQ with
   | false=>simp[hc]at hy
   | true =>
     rw[hc]at hy;obtain rfl:=am1 hy;simp only[ame]at hc;have h0:0<=n:=by simpa[ck]using hc.1
     have hb:s.length * n.toNat<=140737488355328:=amA hc.2;obtain⟨k,rfl⟩:∃ k:Nat,n=k:=⟨n.toNat,by omega⟩;have hk:(k:Int)<=9223372036854775807:=Fo.2;refine(Any.strings_Repeat L X (fR s) k w (by omega) (by simpa[fR,ByteArray.size]using hb)).mono fun e w' ⟨he,vT⟩ => ?_
     subst he;refine⟨[_],fun _ _=>False,rfl,vT,fun _ _ h=>h.elim,fun _ _ _ h=>h.elim,Tg ?_⟩;rw[repeatL_length,aoJ];exact hb
 | [],h=>exact h.elim
 | [_],h=>exact h.2.elim
 | _::_::_::_,h=>exact h.2.2.elim
end
open Go.Shelf Go.Proofs Go.Lib
section
variable{P:Program}
def yw(gd:S8->Option (Unit×((Bool×Unit)×Unit)))(s:S8):Option (Unit×((Int×Unit)×(Bool×Unit)×Unit)) :=
 Option.bind (gd s) fun y=>cond (y.2.1.1&&Nat.ble s.length 18) (match Lib.atoiAll s with | .ok v=>some ((),((v,()),(true,()),())) | _=>none) (some ((),((0,()),(false,()),())))
def LI(P:Program)(f fd fa:Nat):Prop:=∀(s:ByteArray) (b:Bool) (v:Int) (w:World) (R R2:World->Prop),Calls P fd #[.string s] w (fun e w1=>e= .returned (.bool b)/\R w1) ->
 (b=true->s.size<=18->∀ w1,R w1->Calls P fa #[.string s] w1 fun e w2=>e= .returned (.tuple #[.int .i64 v,.nilIface])/\R2 w2) ->
 Calls P f #[.string s] w fun e w'=>(b=true/\s.size<=18/\e= .returned (.tuple #[.int .i64 v,.bool true])/\R2 w')∨(¬ (b=true/\s.size<=18)/\e= .returned (.tuple #[.int .i64 0,.bool false])/\R w')
theorem YR{fr:Bool}{Z:Nat->Prop}{w:World}{v:Int}{b:Bool}(h:pT .i64 v):mU fr Z w (fun _ _=>False) [(false,[.int .i64]),(false,[.bool])] ((v,()),(b,()),()) [.int .i64 v,.bool b] 0 :=
 ⟨⟨[.int .i64 v],rfl,⟨rfl,h⟩,trivial⟩,⟨[.bool b],rfl,rfl,trivial⟩,trivial⟩
theorem Nv{ρ:Ren}(L:LaysC.n172 P ρ){f fd fa:Nat}{gd:S8->Option (Unit×((Bool×Unit)×Unit))}(hd:lU P fd ⟨[.c false [.str]],[(false,[.bool])],true,.inl fun x=>gd x.1.1⟩)
 {fnd : Func} {cd : Code} (d1 : P.funcs[fd]? = some fnd) (d2 : (fnd.name == "runtime.NumGoroutine") = false) (d3 : fnd.body = some cd) (Ye : fa = ρ.f 172) (W : LI P f fd fa)
 {fn : Func} {c : Code} (h1 : P.funcs[f]? = some fn) (iw : (fn.name == "runtime.NumGoroutine") = false) (hb : fn.body = some c) : lU P f ⟨[.c false [.str]], [(false, [.int .i64]), (false, [.bool])], true, .inl fun x => yw gd x.1.1⟩ := by
 subst Ye;refine Je h1 iw hb rfl fun w Z F args x y yQ hZ cF hy => ?_
 have hy:yw gd x.1.1=some y:=hy
 match hl:args.toList,cF with
 | [u],⟨hv,_⟩ =>
   obtain⟨rfl,hlen⟩:=arg_str hv;obtain rfl:args = #[.string (fR x.1.1)]:=by rw[<- anc (xs:=args),hl]
   obtain⟨⟨s,_⟩,_⟩:=x;change S8 at s;have hlen:s.length<=bQ:=hlen;obtain⟨yd,hyd,hy⟩:=anv.1 hy;have hC:=hd w Z (fun _ _=>False) #[.string (fR s)] ((s,()),()) yd yQ ⟨hv,trivial⟩ hZ (fun _ _ h=>h.elim) (fun _ _ _ h=>h.elim) hyd;rw[MuLone.run_callFunc_enter d1 d2 d3]at hC;have hC:Calls P fd #[.string (fR s)] w (fun e w1=>e= .returned (.bool yd.2.1.1)/\Below w.heap.size w w1):=by
    refine Calls.mono (show Calls P fd #[.string (fR s)] w _ from hC) fun e w1 h => ?_
    cases e with
    | returned v =>
      obtain⟨Z',H,vs,rfl,ha,_,hr⟩:=h
      match vs,hr with
      | [v1],⟨⟨cs,e,h⟩,_⟩ => have e:cs=[v1]:=e;subst e;have h:v1= .bool yd.2.1.1:=h.1;refine⟨by rw[h]; rfl,ha.os,ha.tape,ha.output,ha.size,fun b hb=>ha.block b hb fun _ h=>h⟩
      | [],h=>exact h.elim
      | _::_::_,h=>exact h.2.elim
    | _=>exact h.elim
   have ad9:(fR s).size=s.length:=by simp[fR,ByteArray.size]
   have ah7:(fR s).data.toList=s:=by simp[fR]
   cases hc:yd.2.1.1&&Nat.ble s.length 18 with
   | false =>
     rw[hc]at hy;obtain rfl:=am1 hy;refine(W (fR s) yd.2.1.1 0 w (Below w.heap.size w) (fun _=>False) hC (fun e1 e2 => ?_)).mono fun e w' h => ?_
     . rw[ad9]at e2;rw[e1,amm e2]at hc;simp at hc
     . rcases h with ⟨_,_,_,h⟩ | ⟨_,rfl,hb⟩
       . exact h.elim
       . exact⟨[_,_],fun _ _=>False,rfl,hb,fun _ _ h=>h.elim,fun _ _ _ h=>h.elim,YR ⟨by decide,by decide⟩⟩
   | true =>
     rw[hc]at hy;simp only[ame]at hc;have v8:=amA hc.2;simp only[oT]at hy;split at hy
     . rename_i v hv;obtain rfl:=am1 hy;refine(W (fR s) yd.2.1.1 v w (Below w.heap.size w) (Below w.heap.size w) hC (fun e1 e2 w1 hb => ?_)).mono fun e w' h => ?_
       . refine(Any.strconv_Atoi_ok L (fR s) (by rw[ad9]; omega) v (by rw[ah7]; exact hv) w1).mono fun e w2 ⟨he,hw⟩=>⟨he,?_⟩
         rcases hw with rfl | ⟨t,rfl⟩
         . exact hb
         . have h2:=bytesWorld_below w1 (ρ.t 5) t;exact hb.trans ⟨h2.os,h2.tape,h2.output,h2.size,fun k hk=>h2.block k (amC hk hb.size)⟩
       . rcases h with ⟨_,_,rfl,hb⟩ | ⟨h,_⟩
         . exact⟨[_,_],fun _ _=>False,rfl,hb,fun _ _ h=>h.elim,fun _ _ _ h=>h.elim,YR (by obtain⟨h1,h2⟩:=Lib.atoiAll_bounds hv; exact⟨h1,h2⟩)⟩
         . exact absurd ⟨hc.1,by rw[ad9]; exact v8⟩ h
     . simp at hy
 | [],h=>exact h.elim
 | _::_::_,h=>exact h.2.elim
end
theorem XM{P:Program}{W:World}{nm:String}{k:IntKind}{zs:List Int}{g:Nat}(hg:P.globalNamed nm=some g)(h:Lib.TabIs P W nm k zs):abS k zs W.heap[g]? /\ iR W g/\g<W.heap.size:=by
 simp only[Lib.TabIs,World.var?,hg,oB]at h;cases ho:W.heap[g]? with
 | none=>rw[ho]at h; simp at h
 | some o =>
   rw[ho]at h;have aV:g<W.heap.size:=by
    rcases amv g W.heap.size with h' | h'
    . exact h'
    . rw[amy h']at ho; simp at ho
   cases o with
   | cells cs e fr=>simp only[amd]at h; subst h; exact⟨⟨e,fr,rfl⟩,aV,aV⟩
   | _=>simp at h
theorem XY{P:Program}{w:World}{g:Nat}{t:TypeId}{zero:Array Value}(h:w.ShapedOpen P)(hg:g<P.globals.size)
 (h0:((begin P (fun _ _=>0) default).world.heap[g]?).bind Obj.row? = some (zero,t))(hz:zero.size=1)
 (hb:P.buildable t=true)(hc:P.cellTypes P.depth t=some [t])(hu:P.underlying t=some (.int .i64)):afM w.heap[g]? /\ iR w g/\g<w.heap.size:=by
 obtain⟨m,hm⟩:=Go.Proofs.cell_of_shapedOpen_int h hg h0 hz hb hc hu;have aV:=Hh hm;refine⟨?_,aV,aV⟩;simp only[World.cell?,anz,amX,anu]at hm;cases ho:w.heap[g]? with
 | none=>rw[ho]at hm; simp at hm
 | some o =>
   rw[ho]at hm;cases o with
   | cells cs e fr=>exact⟨m,cs,e,fr,rfl,hm⟩
   | _=>simp at hm
theorem TP{P:Program}{W:World}{nm:String}{g:Nat}{tp:TypeId}{X:Addr->Prop}(hg:P.globalNamed nm=some g)(h:∃ a,W.var? P nm=some #[.iface tp (.pointer (some a))]/\X a):ifP W.heap[g]? /\ iR W g/\g<W.heap.size:=by
 obtain⟨a,h,_⟩:=h;simp only[World.var?,hg,oB]at h;cases ho:W.heap[g]? with
 | none=>rw[ho]at h; simp at h
 | some o =>
   rw[ho]at h;have aV:g<W.heap.size:=by
    rcases amv g W.heap.size with h' | h'
    . exact h'
    . rw[amy h']at ho; simp at ho
   cases o with
   | cells cs e fr=>simp only[amd]at h; subst h; exact⟨⟨_,_,e,fr,rfl,rfl,.inr ⟨_,_,rfl⟩⟩,aV,aV⟩
   | _=>simp at h
def YH(P:Program)(W:World):List (String×(Option Obj->Prop))->Prop
 | []=>True
 | (nm,p)::r=>(P.globalNamed nm=none∨∃ g,P.globalNamed nm=some g/\p W.heap[g]? /\ iR W g/\g<W.heap.size)/\YH P W r
theorem YL{P:Program}{W:World}:∀(l:List (String×(Option Obj->Prop))),YH P W l->∀ t∈l,∀ g,P.globalNamed t.1=some g->t.2 W.heap[g]? /\ iR W g/\g<W.heap.size
 | [],_,t,h,_,_=>by simp at h
 | (nm,p)::r,⟨h1,h2⟩,t,h,g,hg=>by
   rcases amo.1 h with e | h
   . subst e;rcases h1 with h1 | ⟨g',h3,h4⟩
     . rw[h1]at hg; simp at hg
     . obtain rfl:=am1 (h3.symm.trans hg); exact h4
   . exact YL r h2 t h g hg
theorem GB{H:Type}{enc:TypeId×Value->H}{a:Assume}{C:Checked}{os:Os}{f:FuncId}{fn:Func}{s:ChangeSpec}{conds:List PathCond}{apart fresh handsOn again:Bool}{X:World->Array Value->Prop}
 (hX:∀(w w':World) (args:Array Value),w.heap=w'.heap->X w args->X w' args)
 (own:ownKnob C.prog.godebug=none)(started:os.Started)(noInit:C.prog.inits.idxOf? f=none)(hfn:C.prog.funcs[f]? = some fn)
 (witness:∃(w:World) (tape:Tape) (i:Input),w.os=os/\(w.forCall tape i).Shaped C.prog/\i.vars=[]/\Input.okWide C.prog (w.forCall tape i) .any w.heap.size f i /\
   ((s.pre enc C.prog fn conds apart (w.forCall tape i).memory i.args/\X (w.forCall tape i).memory i.args)/\sizedMet enc C.prog fn (OpenSpec.ofChange s) apart (w.forCall tape i).memory i.args)/\a.holds C.prog (lone (Frame.enter C.prog f i.args .normal) [] (w.forCall tape i)))
 (contract:∀(W:World) (base:Nat) (args:Array Value) (ds gs:List (DataW H)) (before:List MemPlace),
   (∀(j:Nat) t v,fn.params[j]? = some t->args[j]? = some v->Value.okWide C.prog W .any base t v) ->
   DataW.Whole enc C.prog fn.params.toList s.vars apart W args.toList ds gs before ->
   (DataW.weightsEach C.prog (fn.params.toList++s.plain.varTypes C.prog) (ds++gs)).all (· <= reachBytes)=true->X W args ->
   W.ShapedOpen C.prog ->
   Calls C.prog f args W fun e W'=>∃ v,e= .returned v/\s.post enc C.prog fn apart fresh handsOn again W args v W') :
 ReturnsInHanded a C os f .any (fun w args=>(s.pre enc C.prog fn conds apart w args/\X w args)/\sizedMet enc C.prog fn (OpenSpec.ofChange s) apart w args) (s.post enc C.prog fn apart fresh handsOn again):=by
 refine returnsInHanded_of_calls own started noInit witness ?_;intro w tape i _ BX _ Fg ad6 _;obtain⟨_,_,_,fn',alY,_,_,_,_,OM⟩:=Fg;obtain rfl:fn'=fn:=am1 (alY.symm.trans hfn);obtain⟨⟨⟨ds,gs,before,hw,_⟩,hx⟩,hz⟩:=ad6;refine(contract (w.forCall tape i) w.heap.size i.args ds gs before OM (DataW.Whole.of_heap (w':=w.forCall tape i) (by rfl) hw) (hz.weights hw) (hX _ _ _ (by rfl) hx) BX).mono fun e W' ⟨v,he,hp⟩ => ?_
 subst he;exact ChangeSpec.post_blind hp
end Go.Av
