/- FnExactAgree, a part. -/
import Derived.Test.YtcmhjdkpbgncfaaGreatDoorFw3
import Derived.Lib.Overlaps
import Derived.Lib.AppendZerosOnto
import Derived.IntWalk
import Derived.ChangeArms
import Derived.SizedLaws
import Derived.Carry
import Derived.HandedShaped
import Derived.ProofKit
import Derived.Shelf.Strconv.Itoa3
import Derived.Shelf.Strings.Repeat
import Derived.Lib.ItoaLen
import Derived.Lib.AppendIntMem
import Derived.Shelf.Strconv.AtoiAll
import Derived.LaidMore
import Derived.SevenTiedAt
import Derived.MakeChecks
import Derived.Stop.LaidErr
import Derived.Shelf.Vars
namespace Go.Av
open Go.RowKit (Below)
section
variable{P:Program}{E:En}{cx:Cx P}
theorem xI(hT:cf P E){st:St}{a:Act}{w:World}(h:Good cx E st a w){id t0 t3 t4 ty ty':Nat}{e e' by':Nat}{fl:List (Nat×Nat)}{ks:List K}{xs:T (.sl e ks)}{o1 o2:Oper}
 (d1:o1.dst=some t3)(p1:o1.op= .move (.tmp t0))(g1:o1.guard=none)(d2:o2.dst=some t4)(p2:o2.op= .binOp .eql ty (.tmp t3) (.const (.slice none 0 0)) ty')(g2:o2.guard=none)
 (b3:E.dB t3=true)(b4:E.dB t4=true)(hti:E.ti ty=some ⟨false,[.sl e ks],e',by',fl⟩)(h0:st.tv t0=some (.v (.d (.sl e ks) xs))) :
 (Code.region id #[o1,o2] false).wp P (fun ex a' w'=>ex= .normal/\∃ b:Bool,(b=true->aQ xs=[])/\Good cx E ((st.aT t3 (.v (.d (.sl e ks) xs),none)).aT t4 (.v (.d .bool b),none)) a' w') a w:=by
 obtain⟨hn,hsz,Z,g,hr⟩:=h;refine wp_region ?_;show wpOps P #[o1,o2] _ [0,1] a w;rw[wpOps_cons];refine iR (i:=0) rfl g1 ?_;obtain⟨hn1,hw1⟩:=om hr hn hsz d1 (hsz.dst b3) (.inl p1) (tv:= .v (.d (.sl e ks) xs)) h0;refine hw1 _ _ fun Z1 g1' a1 w1 hr1 hsz1 => ?_
 rw[wpOps_cons];refine iR (i:=1) rfl g2 ?_;have ht3:look (st.aT t3 (.v (.d (.sl e ks) xs),none)).tm t3=some (.v (.d (.sl e ks) xs)):=by rw[bY,if_pos rfl]
 have hv:=(hr1.tm t3 _ ht3).2;obtain⟨a0,c0,e1,e2,e3,e4,_⟩:=(show RO Z1 w1 (.sl e ks) xs (a1.tmps.getD t3 undef)from hv);obtain⟨dd,hu,hdd⟩:=(hT ty _ hti).desc;have hu':∃ q,P.underlying ty=some (.slice q):=by cases dd <;> simp[iz]at hdd;exact⟨_,hu⟩
 obtain⟨q,hu'⟩:=hu';have hrun:(execOp a1.eval o2).run P w1= .ok (.value (.bool a0.isNone)) w1:=by
  have hev:a1.eval (.tmp t3)= .slice a0 (aQ xs).length c0:=e1;have hg:(eqGuard .eql ty (.tmp t3) (.const (.slice none 0 0)) (.slice a0 (aQ xs).length c0) (.slice none 0 0)).run P w1= .ok () w1:=by unfold eqGuard; simp
  have he:(Op.equal ty (.slice a0 (aQ xs).length c0) (.slice none 0 0)).run P w1= .ok a0.isNone w1:=by show(Op.equalIn (9999+1) ty _ _).run P w1=_;unfold Op.equalIn;cases a0 <;> simp[aeR hu']
  obtain⟨v,e1',e2'⟩:∃ v,((do eqGuard .eql ty (.tmp t3) (.const (.slice none 0 0)) (a1.eval (.tmp t3)) (a1.eval (.const (.slice none 0 0))); binOp .eql ty (a1.eval (.tmp t3)) (a1.eval (.const (.slice none 0 0)))):Sem Value).run P w1= .ok v w1/\v= .bool a0.isNone:=by have hev2:a1.eval (.const (.slice none 0 0))= .slice none 0 0:=rfl;rw[hev,hev2];exact⟨.bool a0.isNone,by simp[hg,binOp,he],rfl⟩
  subst e2';simp only[execOp,p2,aeN,e1',aez];rfl
 have hq:=cj (o:=o2) hr1 d2 (hsz1.dst b4) hrun (tv:= .v (.d .bool a0.isNone)) (show RO Z1 w1 .bool _ _ from rfl);refine hq _ _ fun Z2 g2' v2 w2 hr2 => ?_
 refine⟨rfl,a0.isNone,fun hb => ?_,fun t tv ht => ?_,hsz1.put _ _,Z2,g2',hr2⟩
 . have:a0=none:=by cases a0 <;> simp_all
   have:=e4 this;exact ae6.1 (by omega)
 . rw[bY]at ht;split at ht
   . simp only[aen]at ht; subst ht; exact fun h=>h
   . exact hn1 t tv ht
theorem EJ (hT : cf P E) (hga : cZ P E) (hm : P.follows .mixedOrders = true) {f : Nat} {fn : Func} {c0 cc c3 : Code} {id : Nat} {o1 o2 : Oper} (hf : P.funcs[f]? = some fn) (hname : (fn.name == "runtime.NumGoroutine") = false) (hb : fn.body = some (.seq c0 (.seq (.seq (.region id #[o1, o2] false) cc) c3))) (hnt : E.nt = fn.ntmps)
 (hl0:db P E c0) (hlc:db P E cc) (hl3:db P E c3) {t0 t3 t4 ty ty' e e' by':Nat} {fl:List (Nat×Nat)} {ks:List K}
 (d1:o1.dst=some t3) (p1:o1.op= .move (.tmp t0)) (g1:o1.guard=none) (d2:o2.dst=some t4) (p2:o2.op= .binOp .eql ty (.tmp t3) (.const (.slice none 0 0)) ty') (g2:o2.guard=none)
 (b3:E.dB t3=true) (b4:E.dB t4=true) (hti:E.ti ty=some ⟨false,[.sl e ks],e',by',fl⟩)
 {s:Su} (st1:PT s.ps->St) (xs:PT s.ps->T (.sl e ks)) (h0:∀ x,(cD E c0 (start s.ps x)).run=some (.nrm (st1 x))) (h1:∀ x,(st1 x).tv t0=some (.v (.d (.sl e ks) (xs x))))
 (hs:∀ x y,s.sO x=some y->∀ b,(b=true->aQ (xs x)=[])->∃ z,(lu s.ps=true->z=y.1)/\((cD E (.seq cc c3) (((st1 x).aT t3 (.v (.d (.sl e ks) (xs x)),none)).aT t4 (.v (.d .bool b),none))).bind (B1 E fn.results.toList s.ps s.rs s.fresh)).run=some (z,y.2)):au P f s:=by
 have hW:=tA hT hga;refine Aa hT hf hname hb hnt fun x y hy => ?_
 refine⟨y.1,fun _=>rfl,fun cx a w hg => ?_⟩;refine wp_seq (wp_mono (bN hT hga hW hm (uN E) c0 _ _ _ _ hl0 hg (h0 x)) fun ex a1 w1 hq => ?_);cases ex <;> first | exact hq.elim | skip
 refine wp_seq (wp_seq (wp_mono (xI hT hq d1 p1 g1 d2 p2 g2 b3 b4 hti (h1 x)) fun ex a2 w2 hq2 => ?_));obtain⟨rfl,b,hb1,hg2⟩:=hq2;obtain⟨z,hz,hrun⟩:=hs x y hy b hb1;rw[Tr.run_bind]at hrun;cases ho:(cD E (.seq cc c3) (((st1 x).aT t3 (.v (.d (.sl e ks) (xs x)),none)).aT t4 (.v (.d .bool b),none))).run with
 | none=>rw[ho]at hrun; simp at hrun
 | some ou =>
   rw[ho]at hrun;simp only[oB]at hrun;have hfin:(B1 E fn.results.toList s.ps s.rs s.fresh ou).run=some (y.1,y.2):=by
    cases hh:lu s.ps with
    | true=>rw[<- hz hh]; exact hrun
    | false=>rw[vQ _ hh y.1 z]; exact hrun
   simp only[cD]at ho;rw[Tr.run_bind]at ho;cases hc:(cD E cc (((st1 x).aT t3 (.v (.d (.sl e ks) (xs x)),none)).aT t4 (.v (.d .bool b),none))).run with
   | none=>rw[hc]at ho; simp at ho
   | some oc =>
     rw[hc]at ho;simp only[oB]at ho;refine wp_mono (bN hT hga hW hm (uN E) cc _ _ _ _ hlc hg2 hc) fun ex a3 w3 hq3 => ?_
     cases oc with
     | nrm st' =>
       cases ex <;> first | exact hq3.elim | skip
       exact wp_mono (bN hT hga hW hm (uN E) c3 _ _ _ _ hl3 hq3 ho) fun ex a4 w4 hq4=>⟨ou,hq4,hfin⟩
     | ext id' st' => simp only[Tr.run,aen]at ho;subst ho;cases ex <;> first | exact hq3.elim | exact⟨_,hq3,hfin⟩
     | ret st' => simp only[Tr.run,aen]at ho;subst ho;cases ex <;> first | exact hq3.elim | exact⟨_,hq3,hfin⟩
end
def PA(st:St)(t:Nat)(e:TypeId)(ks:List K):Option (List (Tl ks)):=match look st.tm t with
 | some (.bc r j s m e' ks' x)=>(match st.cell r j with
   | some c=>bif Nat.beq c.s s&&Nat.beq c.m m then fD (.sl e' ks') (.sl e ks) x else none
   | none=>none)
 | some (.v .nil)=>some []
 | _=>none
def LG(o:Ou)(t:Nat)(e:TypeId)(ks:List K):Option (List (Tl ks)):=match o with
 | .ret st=>PA st t e ks
 | .nrm st=>PA st t e ks
 | .ext _ _=>none
section
variable{P:Program}{E:En}
theorem Zp (hT : cf P E) (hga : cZ P E) (hm : P.follows .mixedOrders = true) {f : Nat} {fn : Func} {c0 cc c3 : Code} {id t : Nat} {o1 o2 : Oper} (hf : P.funcs[f]? = some fn) (hname : (fn.name == "runtime.NumGoroutine") = false) (hb : fn.body = some (.seq c0 (.seq (.seq (.region id #[o1, o2] false) cc) c3))) (hnt : E.nt = fn.ntmps) (hres : fn.results = #[.tmp t])
 (hl0:db P E c0)(hlc:db P E cc)(hl3:db P E c3){t0 t3 t4 ty ty' e' by':Nat}{fl:List (Nat×Nat)}
 (d1:o1.dst=some t3)(p1:o1.op= .move (.tmp t0))(g1:o1.guard=none)(d2:o2.dst=some t4)(p2:o2.op= .binOp .eql ty (.tmp t3) (.const (.slice none 0 0)) ty')(g2:o2.guard=none)
 (b3:E.dB t3=true)(b4:E.dB t4=true){s:Sc}(hti:E.ti ty=some ⟨false,[.sl s.e s.ks],e',by',fl⟩)
 (st1:List (Tl s.ks)->St)(h0:∀ x,(cD E c0 (start [.c false [.sl s.e s.ks]] ((x,()),()))).run=some (.nrm (st1 x)))(h1:∀ x,(st1 x).tv t0=some (.v (.d (.sl s.e s.ks) x)))
 (hs:∀(x:List (Tl s.ks)) (b:Bool),((cD E (.seq cc c3) (((st1 x).aT t3 (.v (.d (.sl s.e s.ks) x),none)).aT t4 (.v (.d .bool b),none))).bind fun ou=>Tr.bQ (LG ou t s.e s.ks) .ret).run=cond b (some []) (cond (a6 s.by' ([]:List (Tl s.ks)) x) (some x) none)):EF P f s:=by
 have hW:=tA hT hga;intro w Z v x hgl hro hZ hfit;rw[MuLone.run_callFunc_enter hf hname hb];show Calls P f #[v] w _;have hargs:dv Z w (fun _ _=>False) [.c false [.sl s.e s.ks]] ((x,()),()) #[v].toList 0:=⟨⟨[v],rfl,hro,trivial⟩,trivial⟩;refine calls_of_wp hf hb ?_;have hsz:fn.ntmps<=((#[v]:Array Value)++Array.replicate (fn.ntmps-(#[v]:Array Value).size) undef).size:=by simp; omega
 have hget:∀ j u,(#[v]:Array Value).toList[j]? = some u->0+j<((#[v]:Array Value)++Array.replicate (fn.ntmps-(#[v]:Array Value).size) undef).size/\((#[v]:Array Value)++Array.replicate (fn.ntmps-(#[v]:Array Value).size) undef).getD (0+j) undef=u:=fun j u hj=>by
  rw[aer]at hj;have hlt:j<(#[v]:Array Value).size:=by
   rcases aeD j (#[v]:Array Value).size with h | h
   . exact h
   . simp[aeH h]at hj
  rw[aex];refine⟨by simp at hlt ⊢; omega,?_⟩;rw[aev,afg hlt,hj];rfl
 obtain⟨g,hrel,_⟩:=gx (cx:=⟨w,fun b=>∃ i,(fun(_ _:Nat)=>False) i b,Z,fun _=>none,hgl,fun _ _ _ ⟨_,h⟩=>h⟩) (F:=fun _ _=>False) (a:={ tmps := #[v]++Array.replicate (fn.ntmps-(#[v]:Array Value).size) undef,defers:=[] }) rfl (fun t v ht=>by cases ht) rfl hZ (fun _ _ h=>h.elim) (fun _ _ _ h=>h.elim) _ _ _ 0 0 hargs hget;have hgood:Good ⟨w,fun b=>∃ i,(fun(_ _:Nat)=>False) i b,Z,fun _=>none,hgl,fun _ _ _ ⟨_,h⟩=>h⟩ E (start [.c false [.sl s.e s.ks]] ((x,()),())) { tmps := #[v]++Array.replicate (fn.ntmps-(#[v]:Array Value).size) undef,defers:=[] } w :=
  ⟨fun t tv ht=>ew _ _ 0 t tv (gY _ _ _ ht),⟨by rw[hnt]; exact hsz,fun t v ht=>by cases ht⟩,Z,g,hrel⟩
 have fin:∀(st:St) (a:Act) (w':World),Good ⟨w,fun b=>∃ i,(fun(_ _:Nat)=>False) i b,Z,fun _=>none,hgl,fun _ _ _ ⟨_,h⟩=>h⟩ E st a w'->PA st t s.e s.ks=some x ->
  a.defers=[]/\∃ v,(results fn a.tmps).run P w'= .ok v w'/\∃(Z':Nat->Prop) (H:Nat->Nat->Prop),zP w w' (fun _ _=>False) Z Z' H/\Sh Z' (H 0) w' s.ks x v:=by
  intro st a w' ⟨h1,h2,Z',g',h3⟩ hr;have hv:(results fn a.tmps).run P w'= .ok (a.tmps.getD t undef) w':=by unfold results;simp only[hres];simp
  have haft:∀ H:Nat->Nat->Prop,(∀ n b,H n b->n=0/\∃ r j,g'.fp r j b)->zP w w' (fun _ _=>False) Z Z' H:=fun H hH =>
   { os:=h3.os,tape:=h3.tape,output:=h3.output,size:=h3.size,block:=fun b hb _=>h3.block b hb (fun⟨_,h⟩=>h),z:=fun b hb=>h3.z0 b hb (hZ b hb),bL:=fun b hb=>h3.bL b hb
     fp:=fun n b hb=>by obtain⟨_,r,j,hh⟩:=hH n b hb;obtain⟨q1,q2,q3,_⟩:=h3.fp _ _ _ hh;exact⟨q1,q3,q2⟩
     disj:=fun n m b hn hm=>(hH n b hn).1.trans (hH m b hm).1.symm }
  refine⟨h3.defers,_,hv,Z',?_⟩;unfold PA at hr;split at hr
  . rename_i r j s0 m e0 ks0 x0 ht;split at hr
    . rename_i c hc;cases hb:Nat.beq c.s s0&&Nat.beq c.m m with
      | false=>rw[hb]at hr; cases hr
      | true => rw[hb]at hr;have hr:fD (.sl e0 ks0) (.sl s.e s.ks) x0=some x:=hr;simp only[aeo]at hb;obtain⟨e1,hr⟩:=cq hr;cases e1;subst hr;obtain⟨c',c1,_,_,c4⟩:=(h3.tm t _ ht).2;rw[hc]at c1;cases c1;exact⟨fun n b=>n=0/\g'.fp r j b,haft _ fun n b hb=>⟨hb.1,r,j,hb.2⟩,Sh.mono (oR _) (fun b hb _=>⟨hb,rfl⟩) (fun b hb _=>⟨⟨rfl,hb⟩,rfl⟩) (c4 (beq_eq hb.1) (beq_eq hb.2))⟩
    . simp at hr
  . rename_i ht;cases hr;have e1:a.tmps.getD t undef= .slice none 0 0:=(h3.tm t _ ht).2;rw[e1];exact⟨fun _ _=>False,haft _ fun _ _ h=>h.elim,none,0,rfl,oR _,aeC _,fun _=>rfl,fun a' ha=>by cases ha⟩
  . simp at hr
 refine wp_seq (wp_mono (bN hT hga hW hm (uN E) c0 _ _ _ _ hl0 hgood (h0 x)) fun ex a1 w1 hq => ?_);cases ex <;> first | exact hq.elim | skip
 refine wp_seq (wp_seq (wp_mono (xI hT hq d1 p1 g1 d2 p2 g2 b3 b4 hti (h1 x)) fun ex a2 w2 hq2 => ?_));obtain⟨rfl,b,hb1,hg2⟩:=hq2;have hrun:cond b (some []) (cond (a6 s.by' ([]:List (Tl s.ks)) x) (some x) none)=some x:=by
  cases b with
  | true=>have hx:x=[]:=hb1 rfl; rw[hx]; rfl
  | false =>
    have:a6 s.by' ([]:List (Tl s.ks)) x=true:=aey (by simpa using hfit)
    rw[this]; rfl
 rw[<- hs x b,Tr.run_bind]at hrun;obtain⟨ou,ho,hend⟩:∃ ou,(cD E (.seq cc c3) (((st1 x).aT t3 (.v (.d (.sl s.e s.ks) x),none)).aT t4 (.v (.d .bool b),none))).run=some ou/\LG ou t s.e s.ks=some x:=by obtain⟨ou,h1,h2⟩:=afF.1 hrun;obtain⟨y,h3,h4⟩:=Tr.af h2;cases h4;exact⟨ou,h1,h3⟩
 simp only[cD]at ho;rw[Tr.run_bind]at ho;cases hc:(cD E cc (((st1 x).aT t3 (.v (.d (.sl s.e s.ks) x),none)).aT t4 (.v (.d .bool b),none))).run with
 | none=>rw[hc]at ho; simp at ho
 | some oc =>
   rw[hc]at ho;simp only[oB]at ho;refine wp_mono (bN hT hga hW hm (uN E) cc _ _ _ _ hlc hg2 hc) fun ex a3 w3 hq3 => ?_
   cases oc with
   | nrm st' =>
     cases ex <;> first | exact hq3.elim | skip
     refine wp_mono (bN hT hga hW hm (uN E) c3 _ _ _ _ hl3 hq3 ho) fun ex a4 w4 hq4 => ?_
     cases ou with
     | ext id st=>simp[LG]at hend
     | nrm st=>cases ex <;> first | exact hq4.elim | exact fin st a4 w4 hq4 hend
     | ret st=>cases ex <;> first | exact hq4.elim | exact fin st a4 w4 hq4 hend
   | ext id' st' => simp only[Tr.run,aen]at ho;subst ho;simp[LG]at hend
   | ret st' => simp only[Tr.run,aen]at ho;subst ho;cases ex <;> first | exact hq3.elim | exact fin st' a3 w3 hq3 hend
end
def Ow{α:Type}(d:α)(xs:List α)(n:Nat):List α:=xs.take n++List.replicate (xs.length-n) d
theorem HG{α:Type}(d:α)(xs:List α)(n:Nat)(h:n<=xs.length):(Ow d xs n).length=xs.length:=by simp[Ow]; omega
theorem OV{α:Type}(d:α)(xs:List α)(n:Nat)(h:n<=xs.length)(i:Nat)(x:α)(hx:(Ow d xs n)[i]? = some x):(i<n/\xs[i]? = some x)∨(n<=i/\i<xs.length/\x=d):=by
 unfold Ow at hx;rw[List.getElem?_append]at hx;simp only[afd,ag3 h]at hx;split at hx
 . rename_i hi;rw[aft]at hx;rw[if_pos hi]at hx;exact .inl ⟨hi,hx⟩
 . rename_i hi;rw[agU]at hx;split at hx
   . rename_i h2;simp only[aen]at hx;exact .inr ⟨by omega,by omega,hx.symm⟩
   . simp at hx
theorem iX:∀(vs:List Value) (b o:Nat) (w:World) (i:Nat),(w.setCells b o vs).heap[i]? = if b=i then (w.heap[i]?).map (fun | .cells c el fr=> .cells (setFrom c o vs) el fr | x=>x)else w.heap[i]?
 | [],b,o,w,i=>by
   show w.heap[i]? = _;split
   . cases h:w.heap[i]? with
     | none=>rfl
     | some x=>cases x <;> rfl
   . rfl
 | v::r,b,o,w,i=>by
   show((w.setCell ⟨b,o,none⟩ v).setCells b (o+1) r).heap[i]? = _;rw[iX r b (o+1) _ i];simp only[dp];by_cases e:b=i
   . rw[if_pos e,if_pos e,if_pos e];cases h:w.heap[i]? with
     | none=>rfl
     | some x=>cases x <;> rfl
   . rw[if_neg e,if_neg e,if_neg e]
theorem uL:∀(vs:List Value) (b o:Nat) (w:World),(w.setCells b o vs).os=w.os/\(w.setCells b o vs).tape=w.tape/\(w.setCells b o vs).output=w.output/\(w.setCells b o vs).heap.size=w.heap.size
 | [],_,_,_=>⟨rfl,rfl,rfl,rfl⟩
 | v::r,b,o,w=>by obtain⟨h1,h2,h3,h4⟩:=uL r b (o+1) (w.setCell ⟨b,o,none⟩ v);exact⟨h1,h2,h3,h4.trans (by simp[World.setCell])⟩
theorem rU{z:Array Value}{ks:List K}(hz:z.toList=ks.map zV)(n:Nat)(j:Nat)(hj:j<n * ks.length):(Builtin.zeroCells z n).toList[j]? = (ks.map zV)[j % ks.length]? := by
 have hl:z.size=ks.length:=by rw[<- aeY,hz]; simp
 have hpos:0<ks.length:=by
  rcases aga ks.length with h | h
  . rw[h]at hj; simp at hj
  . exact h
 unfold Builtin.zeroCells;rw[aer];simp only[Array.getElem?_map,hl];have:(Array.range (n * ks.length))[j]? = some j:=by simp[hj]
 rw[this];have hm:j % ks.length<ks.length:=Nat.mod_lt _ hpos;simp only[aeM];rw[<- hz,aer];rw[Array.getElem!_eq_getD];simp[aev,hl,hm]
section
variable{P:Program}{E:En}{cx:Cx P}{w w':World}
theorem I4{e:TypeId}{ks:List K}{xs:T (.sl e ks)}{b o l cap:Nat}{F:Nat->Prop}(h:cO w (.sl e ks) xs (.slice (some ⟨b,o,none⟩) l cap) F){n:Nat}(hn:n<=(aQ xs).length){zs:List Value}(hz:∀ j,j<((aQ xs).length-n) * ks.length->zs[j]? = (ks.map zV)[j % ks.length]?)(hzl:zs.length=((aQ xs).length-n) * ks.length)(hF:∀ q,F q->q<w.heap.size) :
 F b/\(∃ cs el fr,w.heap[b]? = some (.cells cs el fr)/\(∀ q,q<cs.size->¬ (fr.1<=q/\q<fr.2))/\o+n * ks.length+zs.length<=cs.size)/\cO (w.setCells b (o+n * ks.length) zs) (.sl e ks) (Ow (iq ks) (aQ xs) n) (.slice (some ⟨b,o,none⟩) l cap) F:=by
 obtain⟨a',c0,h1,h2,h3,h4,h5⟩:=h;simp only[afm]at h1;obtain⟨rfl,rfl,rfl⟩:=h1;obtain⟨b',o',cs,el,fr,g1,g2,g3,g4,g5,G,g6,g7,g8⟩:=h5 _ rfl;simp only[afK,afQ]at g1;obtain⟨rfl,rfl⟩:=g1;have hlen:(aQ (e:=e) (ks:=ks) (Ow (iq ks) (aQ xs) n)).length=(aQ xs).length:=HG _ _ _ hn;have hfit:o+n * ks.length+zs.length<=cs.size:=by rw[hzl,Nat.sub_mul];have h2':(aQ xs).length * ks.length<=cap * ks.length:=aeS _ h2;have h3':n * ks.length<=(aQ xs).length * ks.length:=aeS _ hn;omega
 refine⟨g2,⟨cs,el,fr,g3,fun q hq=>g4 q (Nat.lt_add_right _ hq),hfit⟩,_,cap,by rw[hlen],by rw[hlen]; exact h2,by rw[hlen]; exact h3,h4,fun a'' ha'' => ?_⟩;simp only[aen]at ha'';subst ha'';refine⟨b,o,setFrom cs (o+n * ks.length) zs,el,fr,rfl,g2,?_,?_,?_,fun i j q=>i<n/\G i j q,fun i j q hq=>g6 i j q hq.2,fun i j i' j' q hq hq'=>g7 i j i' j' q hq.2 hq'.2,fun i x hx => ?_⟩
 . rw[iX,if_pos rfl,g3]; rfl
 . intro q hq; rw[cA]at hq; exact g4 q hq
 . rw[cA]; exact g5
 . rcases OV _ _ _ hn i x hx with ⟨hi,hx'⟩ | ⟨hi,hil,rfl⟩
   ·
    have hrow:=g8 i x hx';have hlt:o+i * ks.length+ks.length<=o+n * ks.length:=by have:(i+1) * ks.length<=n * ks.length:=aeS _ hi;rw[ae0]at this;omega
    have key:∀(ks':List K) (y:Tl ks') (j p:Nat),p+ks'.length<=o+n * ks.length->fA w ks' y j (G i) cs p->fA (w.setCells b (o+n * ks.length) zs) ks' y j (fun j q=>i<n/\G i j q) (setFrom cs (o+n * ks.length) zs) p:=by
     intro ks';induction ks' with
     | nil=>intro y j p _ _; trivial
     | cons k ks' ih =>
       intro y j p hp ⟨⟨v,q1,q2⟩,q3⟩;simp only[aeF]at hp;refine⟨⟨v,?_,cO.frame k _ v (G i j) _ (fun q hq=>⟨hi,hq⟩) (fun q hq hqlt => ?_) q2⟩,ih y.2 (j+1) (p+1) (by omega) q3⟩
       . rw[cK _ _ _ _ hfit,if_neg (by omega)]; exact q1
       . rw[iX,if_neg (fun e=>(g6 i j q hq).2 e.symm)]
    exact key ks x 0 _ (by omega) hrow
   . refine o9 ks 0 _ _ fun c v hc => ?_
     have hcl:c<ks.length:=by
      rcases aeD c ks.length with hh | hh
      . exact hh
      . rw[aeE (by simpa using hh)]at hc; simp at hc
     have hidx:(i-n) * ks.length+c<((aQ xs).length-n) * ks.length:=by have:(i-n+1) * ks.length<=((aQ xs).length-n) * ks.length:=aeS _ (by omega);rw[ae0]at this;omega
     have hoff:o+i * ks.length+c=o+n * ks.length+((i-n) * ks.length+c):=by
      have:i * ks.length=n * ks.length+(i-n) * ks.length:=by rw[<- ae0]; congr 1; omega
      omega
     rw[cK _ _ _ _ hfit,if_pos (by rw[hzl]; omega),hoff,afa,hz _ hidx,agP,Nat.mul_add_mod,agH hcl];exact hc
end
def lY{α:Type}(d:α)(xs:List α)(n:Int):List α:=Ow d xs n.toNat
def ud(ta tb tc t0 tI:Nat)(tks:List K)(st:St):Tr St:=match st.tv t0,st.tv tI with
 | some (.v (.ref r j s)),some (.v (.d (.int k) n))=>(match st.cell r j with
   | some ⟨s',m,.own (.sl e ks) xs⟩=>bif Nat.beq s' s&&K.kG ks tks then .need (iF n (aQ xs).length (aQ xs).length)
      (.ret ((((st.aT ta (.v (.ref r j s),none)).aT tb (.v (.d (.int k) n),none)).aT tc (.v .dead,none)).setCell r j ⟨s',m+1,.own (.sl e ks) (lY (iq ks) (aQ xs) n)⟩))else .fail
   | _=> .fail)
 | _,_=> .fail
section
variable{P:Program}{E:En}{cx:Cx P}
theorem Am(hT:cf P E){rid ta tb tc t0 tI ty:Nat}{te:TI}{o1 o2 o3 o4:Oper}{c:Call}(hty:E.sl ty=some te)
 (d1:o1.dst=some ta)(p1:o1.op= .move (.tmp t0))(g1:o1.guard=none)(d2:o2.dst=some tb)(p2:o2.op= .move (.tmp tI))(g2:o2.guard=none)
 (d3:o3.dst=some tc)(p3:o3.op= .slice ty (.tmp ta) (some (.tmp tb)) none none)(g3:o3.guard=none)
 (d4:o4.dst=none)(p4:o4.op= .call c)(g4:o4.guard=none)(hcal:c.callee= .builtin .clear)(hargs:c.args.toList=[.tmp tc])(hts:c.argTypes.toList=[ty])
 (b1:E.dB ta=true)(b2:E.dB tb=true)(b3:E.dB tc=true)(n1:Nat.beq ta tI=false)(n2:Nat.beq ta tb=false) :
 cM P E (.region rid #[o1,o2,o3,o4] false) (ud ta tb tc t0 tI te.ks):=by
 intro cx a w st st' h hrun;unfold ud at hrun;split at hrun
 . rename_i r j s k n hst0 hstI;split at hrun
   . rename_i s' m e ks xs hcell;cases hb:Nat.beq s' s&&K.kG ks te.ks with
     | false=>rw[hb]at hrun; simp[Tr.run]at hrun
     | true =>
       rw[hb]at hrun;simp only[oT]at hrun;simp only[aeo]at hb;obtain⟨hk,hrun⟩:=Tr.bB hrun;simp only[Tr.run,aen]at hrun;subst hrun;have es:=beq_eq hb.1;subst es;have hsz2:=K.jI _ _ hb.2;subst hsz2;obtain⟨hn,hsz,Z,g,hr⟩:=h;obtain⟨k0,k1,k2⟩:=ic hk;refine wp_region ?_;show wpOps P #[o1,o2,o3,o4] _ [0,1,2,3] a w;rw[wpOps_cons];refine iR (i:=0) rfl g1 ?_;obtain⟨hn1,hw1⟩:=om hr hn hsz d1 (hsz.dst b1) (.inl p1) (tv:= .v (.ref r j s')) hst0;refine hw1 _ _ fun Z1 gg1 a1 w1 hr1 hsz1 => ?_
       rw[wpOps_cons];refine iR (i:=1) rfl g2 ?_;have htI:(st.aT ta (.v (.ref r j s'),none)).get (.tmp tI)=some (.v (.d (.int k) n)):=by
        show(st.aT ta (.v (.ref r j s'),none)).tv tI=_;unfold St.tv at hstI ⊢;rw[bY,if_neg (afx n1)];split at hstI
        . rename_i q want y gg l hq;cases hq2:look st.tm q with
          | none=>rw[hq2]at hstI; simp at hstI
          | some tq=>exact absurd trivial (hn tI _ hq)
        . exact hstI
       obtain⟨hn2,hw2⟩:=om hr1 hn1 hsz1 d2 (hsz1.dst b2) (.inl p2) htI;refine hw2 _ _ fun Z2 gg2 a2 w2 hr2 hsz2' => ?_
       rw[wpOps_cons];refine iR (i:=2) rfl g3 ?_;have hc2:((st.aT ta (.v (.ref r j s'),none)).aT tb (.v (.d (.int k) n),none)).cell r j=some ⟨s',m,.own (.sl e te.ks) xs⟩:=hcell;have hta:look ((st.aT ta (.v (.ref r j s'),none)).aT tb (.v (.d (.int k) n),none)).tm ta=some (.v (.ref r j s')):=by rw[bY,if_neg (fun e=>(afx n2) e.symm),bY,if_pos rfl]
       have htb:look ((st.aT ta (.v (.ref r j s'),none)).aT tb (.v (.d (.int k) n),none)).tm tb=some (.v (.d (.int k) n)):=by rw[bY,if_pos rfl]
       have va:a2.eval (.tmp ta)=gg2.cv r j:=by obtain⟨c1,q1,_,q3⟩:=(hr2.tm ta _ hta).2;rw[hc2]at q1;cases q1;exact q3 rfl
       have hown:cO w2 (.sl e te.ks) xs (gg2.cv r j) (gg2.fp r j):=hr2.cell r j _ hc2;have hown2:=hown;obtain⟨aa,cap,v1,v2,v3,v4,v5⟩:=hown2;obtain⟨tt,kss,t1,t2,t3,t4,hu⟩:=iM hT hty;have hs:=fun w=>cJ (hT _ te t4) (P:=P) w
       have hlh:nf ((st.aT ta (.v (.ref r j s'),none)).aT tb (.v (.d (.int k) n),none)) (some (.tmp tb)) none (aQ xs).length=some (n,((aQ xs).length:Int)):=by
        have:((st.aT ta (.v (.ref r j s'),none)).aT tb (.v (.d (.int k) n),none)).get (.tmp tb)=some (.v (.d (.int k) n)):=by show St.tv _ tb=_;unfold St.tv;rw[htb]
        simp only[nf,this,TV.int?,AV.int?];rfl
       have hslice:(execOp a2.eval o3).run P w2= .ok (.value (.slice (if cap=n.toNat then aa else aa.map (·.add (n.toNat * te.ks.length))) ((aQ xs).length-n.toNat) (cap-n.toNat))) w2:=by have:=z8 hu hs (aa:=aa) (qk (P:=P) hr2 hn2.cons.cons true hlh hk v2);simp only[agm]at this;simp only[execOp,p3,va,v1,agm,aeN,this,aez];rfl
       unfold Oper.wp;rw[hslice,afo,d3];generalize hv38:(Value.slice (if cap=n.toNat then aa else aa.map (·.add (n.toNat * te.ks.length))) ((aQ xs).length-n.toNat) (cap-n.toNat))=v38;have hr3:=hr2.mm (d:=tc) (tv:= .v .dead) (v:=v38) (hsz2'.dst b3) trivial;have hsz3:Fit cx E (a2.put (some tc) v38):=hsz2'.put _ _;rw[wpOps_cons];refine iR (i:=3) rfl g4 ?_;have htc:(a2.put (some tc) v38).eval (.tmp tc)=v38:=by have:=(hsz2'.dst b3).1;simp[Act.put,Act.eval,aev,this]
       have hgF:∀ q,gg2.fp r j q->q<w2.heap.size:=fun q hq=>(hr2.fp r j q hq).1
       have hclear:∃ w4,(execOp (a2.put (some tc) v38).eval o4).run P w2= .ok (.value (.tuple #[])) w4/\w4.os=w2.os/\w4.tape=w2.tape/\w4.output=w2.output/\w4.heap.size=w2.heap.size/\(∀ b,¬ gg2.fp r j b->w4.heap[b]? = w2.heap[b]?)/\cO w4 (.sl e te.ks) (lY (iq te.ks) (aQ xs) n) (gg2.cv r j) (gg2.fp r j):=by
        have hargs':c.args = #[.tmp tc]:=by rw[<- afk (xs:=c.args),hargs]
        have hts0:c.argTypes[0]? = some ty:=by rw[<- aer,hts]; rfl
        have fin:∀ w4,(Builtin.clear_ c.argTypes o4.type #[v38]).run P w2= .ok (.tuple #[]) w4->(execOp (a2.put (some tc) v38).eval o4).run P w2= .ok (.value (.tuple #[])) w4:=fun w4 hh=>by simp only[execOp,p4,resolve,hcal,hargs',afZ,aff,agk,aeN,aeX,aez,invoke,builtin,htc,hh]
        rcases aga ((aQ xs).length-n.toNat)with hz | hpos
        . refine⟨w2,fin w2 ?_,rfl,rfl,rfl,rfl,fun _ _=>rfl,?_⟩
          . rw[<- hv38,hz];simp only[Builtin.clear_,hts0,aeZ,aeu,aeN,aeR hu,aez];cases hq:(if cap=n.toNat then aa else aa.map (·.add (n.toNat * te.ks.length))) <;> simp
          . have he:lY (iq te.ks) (aQ xs) n=aQ xs:=by
             unfold lY Ow;rw[hz,afT (by omega)];simp
            rw[he];exact hown
        . have haa:∃ b o,aa=some ⟨b,o,none⟩:=by
           cases aa with
           | none=>have:=v4 rfl; omega
           | some a' => obtain⟨b,o,_,_,_,e1,_⟩:=v5 a' rfl;exact⟨b,o,by rw[e1]⟩
          obtain⟨b,o,rfl⟩:=haa;obtain⟨z,hz1,hz2⟩:=se (hT _ te t4) (P:=P) w2;have hown':=hown;rw[v1]at hown';have hzl:(Builtin.zeroCells z.cells ((aQ xs).length-n.toNat)).toList.length=((aQ xs).length-n.toNat) * te.ks.length:=by rw[aeY,size_zeroCells,<- aeY (xs:=z.cells),hz2]; simp
          obtain⟨c1,⟨cs,el,fr,c2,c3,c4⟩,c5⟩:=I4 hown' (n:=n.toNat) (by omega) (zs:=(Builtin.zeroCells z.cells ((aQ xs).length-n.toNat)).toList) (fun j hj=>rU hz2 _ j hj) hzl hgF;have hone:∀ v∈(Builtin.zeroCells z.cells ((aQ xs).length-n.toNat)).toList,v.oneCell'=true:=fun v hv=>by
           obtain⟨i,hi,hv⟩:=List.getElem_of_mem hv;rw[hzl]at hi;have h1:=rU hz2 _ i hi;rw[aeq (by rw[hzl]; exact hi),hv,ae2]at h1;cases hk0:te.ks[i % te.ks.length]? with
           | none=>rw[hk0]at h1; simp at h1
           | some k0 => rw[hk0]at h1;simp only[aeM,aen]at h1;rw[h1];cases k0 <;> rfl
          have hstore:=run_storeCells_cells (P:=P) b (o+n.toNat * te.ks.length) (Builtin.zeroCells z.cells ((aQ xs).length-n.toNat)).toList 0 w2 (fun j hj=>by
           simp only[World.cell?,aeQ,c2];simp;omega) (fun j hj=>by
           simp only[World.frozen?,aeQ,c2];simp only[agE,agj];have:=c3 (o+n.toNat * te.ks.length+j) (by omega);by_cases h:fr.1<=o+n.toNat * te.ks.length+j
           . exact .inr fun h'=>this ⟨h,h'⟩
           . exact .inl h) hone
          rw[aeQ]at hstore;obtain⟨w1',w2',w3',w4'⟩:=uL (Builtin.zeroCells z.cells ((aQ xs).length-n.toNat)).toList b (o+n.toNat * te.ks.length) w2;refine⟨_,fin _ ?_,w1',w2',w3',w4',fun b' hb' => ?_,by rw[v1]; exact c5⟩
          . rw[<- hv38];have hne:cap≠n.toNat:=by omega
            obtain⟨q,hq⟩:∃ q,(aQ xs).length-n.toNat=q+1:=⟨(aQ xs).length-n.toNat-1,by omega⟩;simp only[if_neg hne,aeM,fL,Builtin.clear_,hts0,aeZ,aeu,aeN,aeR hu,aez,hq];rw[hq]at hstore;simp only[hz1,aeN,aez,hstore,aeX]
          . rw[iX,if_neg];intro e;subst e;exact hb' c1
       obtain⟨w4,q1,q2,q3,q4,q5,q6,q7⟩:=hclear;unfold Oper.wp;rw[q1,afo,d4];have hlent:=gO (g:=gg2) (F:=fun _ _=>False) (G:=fun _ _=>False) (st:=((st.aT ta (.v (.ref r j s'),none)).aT tb (.v (.d (.int k) n),none)).aT tc (.v .dead,none)) [(r,j,(⟨s',m+1,.own (.sl e te.ks) (lY (iq te.ks) (aQ xs) n)⟩:RC))] 0;have hcl:(lY (iq te.ks) (aQ xs) n).length=(aQ xs).length:=HG _ _ _ (by omega)
       obtain⟨hR,_⟩:=hr3.sy hlent q2 q3 q4 (Nat.le_of_eq q5.symm)
        (fun r1 j1 p hp=>by
          obtain⟨i,e1,e2⟩:=eu _ 0 r1 j1 p hp;cases i with
          | succ i=>simp at e1
          | zero => simp only[aeu,aen,aeT]at e1;obtain⟨rfl,rfl,e3⟩:=e1;rw[<- e3];refine⟨_,hc2,rfl,afl _,e,te.ks,xs,_,rfl,rfl,hcl,?_⟩;rw[e2];exact cO.frame _ _ _ _ _ (fun b hb=> .inl ⟨hb,fun h=>h⟩) (fun _ _ _=>rfl) q7)
        (fun r1 j1 p hp b hb=>by
          obtain⟨i,e1,e2⟩:=eu _ 0 r1 j1 p hp;rw[e2]at hb;rcases hb with ⟨hb,_⟩ | hb
          . exact⟨by rw[q5]; exact(hr2.fp _ _ _ hb).1,.inl ⟨r1,j1,p,hp,hb⟩,(hr2.fp _ _ _ hb).2.2.1⟩
          . exact hb.elim)
        (fun r1 j1 p r2 j2 p' b hp hp' hb hb'=>by
          obtain⟨i,e1,e2⟩:=eu _ 0 r1 j1 p hp;obtain⟨i',e1',e2'⟩:=eu _ 0 r2 j2 p' hp';rw[e2]at hb;rw[e2']at hb';rcases hb with ⟨hb,_⟩ | hb
          . rcases hb' with ⟨hb',_⟩ | hb'
            . exact hr2.disj _ _ _ _ b hb hb'
            . exact hb'.elim
          . exact hb.elim)
        (fun b hb hno=>q6 b fun hh=>by obtain⟨p0,hp0⟩:=sQ (g:=gg2) (F:=fun _ _=>False) (G:=fun _ _=>False) [(r,j,(⟨s',m+1,.own (.sl e te.ks) (lY (iq te.ks) (aQ xs) n)⟩:RC))] 0 0 r j _ rfl;exact hno r j p0 hp0 hh)
       refine⟨fun t tv ht => ?_,hsz3,Z2,_,hR⟩;have ht:look (((st.aT ta (.v (.ref r j s'),none)).aT tb (.v (.d (.int k) n),none)).aT tc (.v .dead,none)).tm t=some tv:=by rw[eG]at ht; exact ht
       rw[bY]at ht;split at ht
       . simp only[aen]at ht; subst ht; exact fun h=>h
       . exact hn2 t tv ht
   . simp[Tr.run]at hrun
 . simp[Tr.run]at hrun
end
section
variable{P:Program}{w w':World}
theorem o7{dT sT ty elem:TypeId}{te:TI}(hu:P.underlying dT=some (.slice elem))(hTe:pk P elem te){b o dLen dCap b2 o2 sLen sCap n:Nat}{cs:List Value}(hm:Nat.min sLen dLen=n)(hn:cs.length=n * te.ks.length)
 (hsrc:∀ j v,cs[j]? = some v->w.cell? ⟨b2,o2+j,none⟩=some v)(hc:∀ j,j<cs.length->(w.cell? ⟨b,o+j,none⟩).isSome=true)(hf:∀ j,j<cs.length->w.frozen? ⟨b,o+j,none⟩=false)(h1:∀ v∈cs,v.oneCell'=true) :
 (Builtin.copy_ #[dT,sT] ty #[.slice (some ⟨b,o,none⟩) dLen dCap,.slice (some ⟨b2,o2,none⟩) sLen sCap]).run P w= .ok (goInt n) (w.setCells b o cs):=by
 have hl:=run_loadCells_list (P:=P) w ⟨b2,o2,none⟩ cs (fun j v hj=>by rw[fL]; exact hsrc j v hj);have hst:=run_storeCells_cells (P:=P) b o cs 0 w (by simpa using hc) (by simpa using hf) h1;rw[aeQ]at hst;have hfc:(Builtin.firstCells te.ks.length n (.slice (some ⟨b2,o2,none⟩) sLen sCap)).run P w= .ok cs.toArray w:=run_firstCells_some (P:=P) w _ _ ⟨b2,o2,none⟩ _ _ _ hn fun j v hj=>by rw[fL]; exact hsrc j v hj
 simp only[Builtin.copy_,aeZ,aeu,afi,aeN,aeR hu,aez,Builtin.lenOf,aeX,hm,cJ hTe,hfc,hst]
theorem vE{e:TypeId}{ks:List K}{xs ys:List (Tl ks)}{i:Nat}(hi:i<=xs.length){G H:Nat->Nat->Nat->Prop}{F FH F':Nat->Prop}{b0 b1 o o1 b o' cap:Nat}{cs cs1 cs':Array Value}{el:TypeId}{fr:Nat×Nat}
 (hG1:∀ i j b,G i j b->F b/\b≠b0)(hG2:∀ i j i' j' b,G i j b->G i' j' b->i=i'/\j=j')(hx:∀ i x,xs[i]? = some x->fA w ks x 0 (G i) cs (o+i * ks.length))
 (hH1:∀ i j b,H i j b->FH b/\b≠b1)(hH2:∀ i j i' j' b,H i j b->H i' j' b->i=i'/\j=j')(hy:∀ i y,ys[i]? = some y->fA w ks y 0 (H i) cs1 (o1+i * ks.length))(hFF:∀ q,FH q->¬ F q)
 (hb:w'.heap[b]? = some (.cells cs' el fr))(hfr:∀ q,q<cs'.size+TK ks->¬ (fr.1<=q/\q<fr.2))(hF'b:F' b)(hF':∀ q,F q->F' q)(hF'':∀ q,FH q->F' q)(hGb:∀ i j q,G i j q->q≠b)(hHb:∀ i j q,H i j q->q≠b)
 (hsame:∀ q,q<w.heap.size->q≠b->(F q->q≠b0)->w'.heap[q]? = w.heap[q]?)
 (hA:∀ q,q<i * ks.length->cs'[o'+q]? = cs[o+q]?)(hB:∀ q,q<ys.length * ks.length->cs'[o'+i * ks.length+q]? = cs1[o1+q]?)(hC:∀ q,q<(xs.length-i) * ks.length->cs'[o'+(i+ys.length) * ks.length+q]? = cs[o+i * ks.length+q]?)
 (hcap:xs.length+ys.length<=cap)(hsz:o'+cap * ks.length<=cs'.size)(hbig:xs.length+ys.length<=bG) :
 cO w' (.sl e ks) (xs.take i++ys++xs.drop i) (.slice (some ⟨b,o',none⟩) (xs.length+ys.length) cap) F':=by
 have hlen:(aQ (e:=e) (ks:=ks) (xs.take i++ys++xs.drop i)).length=xs.length+ys.length:=by show(xs.take i++ys++xs.drop i).length=_;simp; omega
 refine⟨_,cap,by rw[hlen],by rw[hlen]; exact hcap,by rw[hlen]; exact hbig,by simp,fun a' ha' => ?_⟩;simp only[aen]at ha';subst ha';refine⟨b,o',cs',el,fr,rfl,hF'b,hb,hfr,hsz,fun j=>if j<i then G j else if j<i+ys.length then H (j-i)else G (j-ys.length),fun j c q hq => ?_,fun j c j' c' q h1 h2 => ?_,fun j x hj => ?_⟩
 . dsimp only at hq;split at hq
   . exact⟨hF' q (hG1 _ _ _ hq).1,hGb _ _ q hq⟩
   . split at hq
     . exact⟨hF'' q (hH1 _ _ _ hq).1,hHb _ _ q hq⟩
     . exact⟨hF' q (hG1 _ _ _ hq).1,hGb _ _ q hq⟩
 . have hGH:∀ a c a' c',G a c q->H a' c' q->False:=fun a c a' c' h1 h2=>hFF q (hH1 _ _ _ h2).1 (hG1 _ _ _ h1).1
   dsimp only at h1 h2;split at h1 <;> split at h2
   . exact hG2 _ _ _ _ _ h1 h2
   . split at h2
     . exact(hGH _ _ _ _ h1 h2).elim
     . obtain⟨e1,e2⟩:=hG2 _ _ _ _ _ h1 h2;exact⟨by omega,e2⟩
   . split at h1
     . exact(hGH _ _ _ _ h2 h1).elim
     . obtain⟨e1,e2⟩:=hG2 _ _ _ _ _ h1 h2;exact⟨by omega,e2⟩
   . split at h1 <;> split at h2
     . obtain⟨e1,e2⟩:=hH2 _ _ _ _ _ h1 h2;exact⟨by omega,e2⟩
     . exact(hGH _ _ _ _ h2 h1).elim
     . exact(hGH _ _ _ _ h1 h2).elim
     . obtain⟨e1,e2⟩:=hG2 _ _ _ _ _ h1 h2;exact⟨by omega,e2⟩
 . have hj':(xs.take i++ys++xs.drop i)[j]? = some x:=hj;have hkeepG:∀ a c q,G a c q->q<w.heap.size->w'.heap[q]? = w.heap[q]? := fun a c q hq hlt=>hsame q hlt (hGb _ _ q hq) (fun _=>(hG1 _ _ _ hq).2)
   have hkeepH:∀ a c q,H a c q->q<w.heap.size->w'.heap[q]? = w.heap[q]? := fun a c q hq hlt=>hsame q hlt (hHb _ _ q hq) (fun hf=>(hFF q (hH1 _ _ _ hq).1 hf).elim)
   have hti:(xs.take i).length=i:=by simp; omega
   by_cases c1:j<i
   . rw[aeV,ae4 (by omega),aft]at hj';simp only[c1,if_true]at hj';refine jt ks x 0 (G j) _ cs cs' _ _ (fun q hq => ?_) (fun c q hq=>by simpa[c1]using hq) (fun c q hq hlt=>hkeepG _ c q hq hlt) (hx j x hj');have:=hA (j * ks.length+q) (lS c1 hq);rw[afq,afq];exact this
   . by_cases c2:j<i+ys.length
     . rw[aeV,ae3 (by omega),hti,ae4 (by omega)]at hj';refine jt ks x 0 (H (j-i)) _ cs1 cs' _ _ (fun q hq => ?_) (fun c q hq=>by simpa[c1,c2]using hq) (fun c q hq hlt=>hkeepH _ c q hq hlt) (hy _ x hj');have:=hB ((j-i) * ks.length+q) (lS (by omega) hq);rw[afq o1,<- this];have e1:j * ks.length=i * ks.length+(j-i) * ks.length:=by rw[<- ae0]; congr 1; omega
       congr 1;omega
     . rw[aeV,ae3 (by omega),hti,ae3 (by omega),afu]at hj';rw[show i+(j-i-ys.length)=j-ys.length by omega]at hj';have hjl:j-ys.length<xs.length:=by
        rcases aeD (j-ys.length) xs.length with hh | hh
        . exact hh
        . simp[aeE hh]at hj'
       refine jt ks x 0 (G (j-ys.length)) _ cs cs' _ _ (fun q hq => ?_) (fun c q hq=>by simpa[c1,c2]using hq) (fun c q hq hlt=>hkeepG _ c q hq hlt) (hx _ x hj');have:=hC ((j-ys.length-i) * ks.length+q) (lS (by omega) hq);have e1:j * ks.length=(i+ys.length) * ks.length+(j-ys.length-i) * ks.length:=by rw[<- ae0]; congr 1; omega
       have e2:(j-ys.length) * ks.length=i * ks.length+(j-ys.length-i) * ks.length:=by rw[<- ae0]; congr 1; omega
       rw[show o'+j * ks.length+q=o'+(i+ys.length) * ks.length+((j-ys.length-i) * ks.length+q)by omega,this];congr 1;omega
theorem Al{e:TypeId}{ks:List K}{z:List (Tl ks)}{aa:Addr}{n c:Nat}{F:Nat->Prop}(ho:cO w (.sl e ks) z (.slice (some aa) n c) F) :
 n=z.length/\n<=c/\n<=bG/\∃ b o cs el fr,aa=⟨b,o,none⟩/\F b/\w.heap[b]? = some (.cells cs el fr)/\(∀ q,q<cs.size+TK ks->¬ (fr.1<=q/\q<fr.2))/\o+c * ks.length<=cs.size /\
  ∃ G:Nat->Nat->Nat->Prop,(∀ i j b',G i j b'->F b'/\b'≠b)/\(∀ i j i' j' b',G i j b'->G i' j' b'->i=i'/\j=j')/\(∀ i x,z[i]? = some x->fA w ks x 0 (G i) cs (o+i * ks.length)) /\
   ∀ q,q<n * ks.length->∃ v,cs[o+q]? = some v/\v.oneCell'=true:=by
 obtain⟨a,c',e1,h2,h3,h4,h5⟩:=ho;simp only[afm]at e1;obtain⟨rfl,rfl,rfl⟩:=e1;obtain⟨b,o,cs,el,fr,rfl,k2,k3,k4,k5,G,k6,k7,k8⟩:=h5 _ rfl;refine⟨rfl,h2,h3,b,o,cs,el,fr,rfl,k2,k3,k4,k5,G,k6,k7,k8,fun q hq => ?_⟩;obtain⟨q1,q2,q3⟩:=oH hq;obtain⟨v,f1,f2⟩:=wC ks _ 0 _ (q % ks.length) (k8 _ _ (aeq q1)) q2;rw[afq,<- q3]at f1;exact⟨v,f1,f2⟩
def cut(cs:Array Value)(o n:Nat):List Value:=(List.range n).map fun q=>cs.getD (o+q) undef
theorem oI(cs:Array Value)(o n:Nat):(cut cs o n).length=n:=by simp[cut]
theorem rL{cs:Array Value}{o n:Nat}(h:∀ q,q<n->∃ v,cs[o+q]? = some v/\v.oneCell'=true){q:Nat}(hq:q<n):(cut cs o n)[q]? = cs[o+q]? := by obtain⟨v,h1,_⟩:=h q hq;simp[cut,hq,aev,h1]
theorem HL{cs:Array Value}{o n:Nat}(h:∀ q,q<n->∃ v,cs[o+q]? = some v/\v.oneCell'=true):∀ u∈cut cs o n,u.oneCell'=true:=fun u hu=>by obtain⟨q,hq,rfl⟩:=afM.1 hu;obtain⟨v,h1,h2⟩:=h q (afy.1 hq);rw[aev,h1];exact h2
theorem rG{cs:Array Value}{b o n:Nat}{el:TypeId}{fr:Nat×Nat}(hb:w.heap[b]? = some (.cells cs el fr))(h:∀ q,q<n->∃ v,cs[o+q]? = some v/\v.oneCell'=true)(j:Nat)(v:Value)(hj:(cut cs o n)[j]? = some v):w.cell? ⟨b,o+j,none⟩=some v:=by
 have hjl:j<n:=by
  rcases aeD j n with hh | hh
  . exact hh
  . rw[aeE (by rw[oI]; exact hh)]at hj; simp at hj
 rw[rL h hjl]at hj;simp only[World.cell?,hb];exact hj
theorem oE{cs:Array Value}{b j:Nat}{el:TypeId}{fr:Nat×Nat}(hb:w.heap[b]? = some (.cells cs el fr))(hj:j<cs.size):(w.cell? ⟨b,j,none⟩).isSome=true:=by simp[World.cell?,hb,hj]
theorem kt{cs:Array Value}{b j:Nat}{el:TypeId}{fr:Nat×Nat}(hb:w.heap[b]? = some (.cells cs el fr))(hj:¬ (fr.1<=j/\j<fr.2)):w.frozen? ⟨b,j,none⟩=false:=by
 simp only[World.frozen?,hb];simp only[agE,agj];by_cases h:fr.1<=j
 . exact .inr fun h'=>hj ⟨h,h'⟩
 . exact .inl h
end
structure G4 (P:Program) (f T ov k:Nat):Prop where
 zero:∀(a:Option Addr) (n c i:Nat) (a2:Option Addr) (m c2:Nat) (w:World),i<=n->n<=c->(m:Int)=0 ->
  Calls P f #[.slice a n c,.int .i64 i,.slice a2 m c2] w fun e w'=>e= .returned (.slice a n c)/\w'=w
 last:∀(a:Option Addr) (n c:Nat) (a2:Option Addr) (m c2:Nat) (w w':World) (v':Value),n<=c->¬ ((m:Int)=0) ->
  (Builtin.append_ #[T,T] T #[.slice a n c,.slice a2 m c2]).run P w= .ok v' w' ->
  Calls P f #[.slice a n c,.int .i64 n,.slice a2 m c2] w fun e w1=>e= .returned v'/\w1=w'
 room:∀(b o n c i:Nat) (a2:Option Addr) (m c2:Nat) (w:World),i<n->n+m<=c->n+m<=140737488355328->0<m->∀(W1 W2:World),
  (∀ lb cb,(callFunc ov #[.slice a2 m c2,.slice (some ⟨b,o+(i+m) * k,none⟩) lb cb]).run P w= .ok (.value (.bool false)) w) ->
  (∀ ty dc sc,(Builtin.copy_ #[T,T] ty #[.slice (some ⟨b,o+(i+m) * k,none⟩) (n+m-(i+m)) dc,.slice (some ⟨b,o+i * k,none⟩) (n+m-i) sc]).run P w.drew= .ok (goInt (n-i:Nat)) W1) ->
  (∀ ty dc,(Builtin.copy_ #[T,T] ty #[.slice (some ⟨b,o+i * k,none⟩) (n+m-i) dc,.slice a2 m c2]).run P W1= .ok (goInt m) W2) ->
  Calls P f #[.slice (some ⟨b,o,none⟩) n c,.int .i64 i,.slice a2 m c2] w fun e w1=>e= .returned (.slice (some ⟨b,o,none⟩) (n+m) c)/\w1=W2
 grow:∀(b o n c i:Nat) (a2:Option Addr) (m c2:Nat) (w:World),i<n->n<=c->c<n+m->n+m<=140737488355328->0<m->∀(W1 W2 W3:World) (N G:Nat),n+m<=G->G<=9223372036854775807 ->
  (∀ ty,(Builtin.append_ #[T,3] ty #[.slice (some ⟨b,o,none⟩) i c,.int .i64 ((n:Int)+(m:Int)-(i:Int))]).run P w= .ok (.slice (some ⟨N,0,none⟩) (n+m) G) W1) ->
  (∀ ty dc,(Builtin.copy_ #[T,T] ty #[.slice (some ⟨N,i * k,none⟩) (n+m-i) dc,.slice a2 m c2]).run P W1= .ok (goInt m) W2) ->
  (∀ ty dc sc,(Builtin.copy_ #[T,T] ty #[.slice (some ⟨N,(i+m) * k,none⟩) (n+m-(i+m)) dc,.slice (some ⟨b,o+i * k,none⟩) (n-i) sc]).run P W2.drew= .ok (goInt (n-i:Nat)) W3) ->
  Calls P f #[.slice (some ⟨b,o,none⟩) n c,.int .i64 i,.slice a2 m c2] w fun e w1=>e= .returned (.slice (some ⟨N,0,none⟩) (n+m) G)/\w1=W3
def Kb{α:Type}(sz:Nat)(xs:List α)(i:Int)(ys:List α):Option (Unit×(List α×Unit)×Unit) :=
 cond (bM 0 i&&bM i xs.length&&Nat.ble ((xs.length+ys.length) * sz) bG) (zR (xs.take i.toNat++ys++xs.drop i.toNat)) none
section
variable{P:Program}{w w':World}
theorem Ir {f T ov : Nat} {e : TypeId} {te : TI} {fn fo : Func} {c : Code} {tR : TypeId} (hf : P.funcs[f]? = some fn) (hname : (fn.name == "runtime.NumGoroutine") = false) (hb : fn.body = some c)
 (hT:P.underlying T=some (.slice e))(h3:P.underlying 3=some (.int .i64))(hTe:pk P e te)(hk:TK te.ks=1)(hkp:Nat.blt 0 te.ks.length=true)(hby:Nat.blt 0 te.bytes=true)
 (ho : P.funcs[ov]? = some fo) (hon : (fo.name == "runtime.NumGoroutine") = false) (hob : fo.body.isNone = true) (hox : Extern.findNext fo = none) (hoe : Extern.find fo = some (Extern.SlicesOverlaps.overlaps #[T, T] #[tR]))
 (W:G4 P f T ov te.ks.length){s:Su}(hs:s=⟨[.mv (.sl e te.ks),.c false [.int .i64],.mv (.sl e te.ks)],[(false,[.sl e te.ks])],true,.inl fun x=>Kb te.bytes x.1 x.2.1.1 x.2.2.1⟩):au P f s:=by
 subst hs;intro w Z F args x y _ hargs hZ hF hd hy;rw[MuLone.run_callFunc_enter hf hname hb];show Calls P f args w _;have hkp:0<te.ks.length:=afr (aeJ hkp);have hby:0<te.bytes:=afr (aeJ hby);obtain⟨xs,⟨i0,_⟩,ys,_⟩:=x;change List (Tl te.ks)at xs;change List (Tl te.ks)at ys;change Int at i0;have hargs':∃ v0 v1 v2,args = #[v0,v1,v2]/\cO w (.sl e te.ks) xs v0 (F 0)/\v1= .int .i64 i0/\cO w (.sl e te.ks) ys v2 (F 1):=by
  obtain⟨l⟩:=args
  match l,hargs with
  | [v0,v1,v2],⟨h1,⟨cs,e1,e2⟩,h2,_⟩ => refine⟨v0,v1,v2,rfl,h1,?_,h2⟩;have e1:cs=[v1]:=e1;subst e1;exact e2.1.1
 obtain⟨v0,v1,v2,rfl,hxs,rfl,hys⟩:=hargs';have hy:Kb te.bytes (α:=Tl te.ks) xs i0 ys=some y:=hy;unfold Kb at hy;cases hcond:bM 0 i0&&bM i0 xs.length&&Nat.ble ((xs.length+ys.length) * te.bytes) bG with
 | false=>rw[hcond]at hy; simp at hy
 | true =>
 rw[hcond]at hy;have hy:=ae9 hy;subst hy;simp only[aeo,bM,afJ]at hcond;obtain⟨⟨hi0,hin⟩,hbig⟩:=hcond;have hbig:=aeJ hbig;obtain⟨i,rfl⟩:=Int.eq_ofNat_of_zero_le hi0;have hin:i<=xs.length:=by omega
 have hnb:xs.length+ys.length<=bG:=aeA (afP _ hby) hbig;have hbigv:=bb;have h01:∀ q,F 1 q->¬ F 0 q:=fun q h1 h0=>by have:=hd 0 1 q h0 h1; omega
 have fin:∀(v:Value) (w1:World) (F':Nat->Prop),w1.os=w.os->w1.tape=w.tape->w1.output=w.output->w.heap.size<=w1.heap.size->(∀ b,b<w.heap.size->¬ F 0 b->w1.heap[b]? = w.heap[b]?)->(∀ b,F' b->b<w1.heap.size/\(F 0 b∨F 1 b∨w.heap.size<=b)) ->
  cO w1 (.sl e te.ks) (xs.take i++ys++xs.drop i) v F' ->
  ∃(Z':Nat->Prop) (H:Nat->Nat->Prop) (vs:List Value),v=yu vs/\zP w w1 F Z Z' H/\tV Z' w1 (fun i=>H (2 * i)) [.mv (.sl e te.ks),.c false [.int .i64],.mv (.sl e te.ks)] () [v0,.int .i64 i,v2] 0 /\
   lk true Z' w1 (fun j=>H (2 * j+1)) [(false,[.sl e te.ks])] ((xs.take i++ys++xs.drop i,()),()) vs 0:=by
  intro v w1 F' g1 g2 g3 g4 g5 g6 g7;refine⟨Z,fun n b=>n=1/\F' b,[v],rfl,⟨g1,g2,g3,g4,fun b hb hn=>g5 b hb (hn 0),fun b h=>h,fun b h=>⟨aeK (hZ b h) g4,.inl h⟩,fun n b h => ?_,fun n m b h1 h2=>h1.1.trans h2.1.symm⟩,trivial,⟨[v],rfl,?_,trivial⟩,trivial⟩
  . obtain⟨_,h⟩:=h;obtain⟨h1,h2⟩:=g6 b h;refine⟨h1,fun hz => ?_,?_⟩
    . rcases h2 with h2 | h2 | h2
      . exact(hF 0 b h2).2 hz
      . exact(hF 1 b h2).2 hz
      . have:=hZ b hz; omega
    . rcases h2 with h2 | h2 | h2
      . exact .inl ⟨0,h2⟩
      . exact .inl ⟨1,h2⟩
      . exact .inr h2
  . exact cO.frame _ _ _ _ _ (fun b hb=>⟨rfl,hb⟩) (fun _ _ _=>rfl) g7
 have goal:Calls P f #[v0,.int .i64 i,v2] w fun en w1=>∃ v F',en= .returned v/\w1.os=w.os/\w1.tape=w.tape/\w1.output=w.output/\w.heap.size<=w1.heap.size/\(∀ b,b<w.heap.size->¬ F 0 b->w1.heap[b]? = w.heap[b]?)/\(∀ b,F' b->b<w1.heap.size/\(F 0 b∨F 1 b∨w.heap.size<=b)) /\
  cO w1 (.sl e te.ks) (xs.take i++ys++xs.drop i) v F':=by
  by_cases hm0:ys=[]
  . subst hm0;obtain⟨a0,c0,rfl,q1,q2,q3,q4⟩:=(show cO w (.sl e te.ks) xs v0 (F 0)from hxs);obtain⟨a2,c2,rfl,r1,r2,r3,r4⟩:=hys;refine(W.zero a0 xs.length c0 i a2 0 c2 w hin q1 rfl).mono fun en w1 ⟨h1,h2⟩ => ?_
    subst h2;refine⟨_,F 0,h1,rfl,rfl,rfl,oR _,fun _ _ _=>rfl,fun b hb=>⟨(hF 0 b hb).1,.inl hb⟩,?_⟩;rw[afp,ago];exact hxs
  . have hm:0<ys.length:=ag7.2 hm0;have hys2:=hys;obtain⟨a2,c2,rfl,r1,r2,r3,r4⟩:=hys2;cases a2 with
    | none=>have:=r3 rfl; have r1:ys.length<=c2:=r1; omega
    | some aa2 =>
    obtain⟨e1,e2,e3,b2,o2,cs2,el2,fr2,rfl,f1,f2,f3,f4,H,f5,f6,f7,f8⟩:=Al hys;have hb2:b2<w.heap.size:=(hF 1 b2 f1).1;have hn20:∀ q,F 0 q->q≠b2:=fun q hq he=>h01 b2 f1 (he ▸ hq)
    obtain⟨k,hkk⟩:∃ k,k=te.ks.length:=⟨_,rfl⟩;obtain⟨VS,hVS⟩:∃ VS,VS=cut cs2 o2 (ys.length * k):=⟨_,rfl⟩;replace f8:∀ q,q<ys.length * k->∃ v,cs2[o2+q]? = some v/\v.oneCell'=true:=by rw[hkk]; exact f8
    replace e2:ys.length<=c2:=e2;have v1:VS.length=ys.length * k:=by rw[hVS,oI]
    have v2:∀ q,q<ys.length * k->VS[q]? = cs2[o2+q]? := fun q hq=>by rw[hVS,rL f8 hq]
    have v3:∀ u∈VS,u.oneCell'=true:=by rw[hVS]; exact HL f8
    have v4:∀ w1:World,w1.heap[b2]? = w.heap[b2]? -> ∀(j:Nat) (u:Value),VS[j]? = some u->w1.cell? ⟨b2,o2+j,none⟩=some u:=fun w1 hw1 j u hj=>by rw[hVS]at hj;exact rG (hw1.trans f2) f8 j u hj
    have v5:∀ w1:World,w1.heap[b2]? = w.heap[b2]? -> (Builtin.firstCells te.ks.length ys.length (.slice (some ⟨b2,o2,none⟩) ys.length c2)).run P w1= .ok VS.toArray w1:=fun w1 hw1 =>
     run_firstCells_some (P:=P) w1 _ _ ⟨b2,o2,none⟩ _ _ _ (by rw[v1,hkk]) fun j u hj=>by rw[fL]; exact v4 w1 hw1 j u hj
    have v6:(Builtin.lenOf (.slice (some ⟨b2,o2,none⟩) ys.length c2)).run P w= .ok ys.length w:=rfl
    have growLast:∀(a0:Option Addr) (c0 b0 o:Nat) (cs:Array Value) (G:Nat->Nat->Nat->Prop),i=xs.length->v0= .slice a0 xs.length c0->xs.length<=c0->c0<xs.length+ys.length->(∀ i j b',G i j b'->F 0 b'/\b'≠b0)->(∀ i j i' j' b',G i j b'->G i' j' b'->i=i'/\j=j')->(∀ i x,xs[i]? = some x->fA w te.ks x 0 (G i) cs (o+i * te.ks.length)) ->
     (∀ q,q<xs.length * k->∃ v,cs[o+q]? = some v/\v.oneCell'=true)->(Builtin.firstCells te.ks.length xs.length (.slice a0 xs.length c0)).run P w.drew= .ok (cut cs o (xs.length * k)).toArray w.drew ->
     Calls P f #[v0,.int .i64 i,.slice (some ⟨b2,o2,none⟩) ys.length c2] w fun en w1=>∃ v F',en= .returned v/\w1.os=w.os/\w1.tape=w.tape/\w1.output=w.output/\w.heap.size<=w1.heap.size/\(∀ b,b<w.heap.size->¬ F 0 b->w1.heap[b]? = w.heap[b]?)/\(∀ b,F' b->b<w1.heap.size/\(F 0 b∨F 1 b∨w.heap.size<=b)) /\
      cO w1 (.sl e te.ks) (xs.take i++ys++xs.drop i) v F':=by
     intro a0 c0 b0 o cs G hie hv0 hc0 hlt p5 p6 p7 p8 hfo;subst hie;subst hv0;obtain⟨zs,z1,z2⟩:=nq (P:=P) (w:=w) (ty:=T) (ats := #[T,T]) hT hTe hT (fun _ hh=>by simp at hh) rfl rfl v6 hfo (v5 w.drew rfl) hlt hby (aeA (oR _) hbig);refine(W.last a0 xs.length c0 (some ⟨b2,o2,none⟩) ys.length c2 w _ _ hc0 (by omega) z2).mono fun en w1 ⟨h1,h2⟩ => ?_
     subst h2;have hge:=grownCap_ge w (xs.length+ys.length) c0 e;have hheap:(w.drew.alloc (.cells ((cut cs o (xs.length * k)).toArray++VS.toArray++zs) e (0,0))).heap=w.heap.push (.cells ((cut cs o (xs.length * k)).toArray++VS.toArray++zs) e (0,0)):=rfl;have hsize:(w.drew.alloc (.cells ((cut cs o (xs.length * k)).toArray++VS.toArray++zs) e (0,0))).heap.size=w.heap.size+1:=by rw[hheap,afN]
     have hold:∀ q,q<w.heap.size->(w.drew.alloc (.cells ((cut cs o (xs.length * k)).toArray++VS.toArray++zs) e (0,0))).heap[q]? = w.heap[q]? := fun q hq=>by rw[hheap,ae1,if_neg (by omega)]
     have hcl:(cut cs o (xs.length * k)).toArray.size=xs.length * k:=by simp[oI]
     have hvl:VS.toArray.size=ys.length * k:=by simp[v1]
     refine⟨_,fun q=>F 0 q∨F 1 q∨q=w.heap.size,h1,rfl,rfl,rfl,by rw[hsize]; omega,fun q hq _=>hold q hq,fun q hq => ?_,?_⟩
     . rw[hsize];rcases hq with hq | hq | hq
       . exact⟨by have:=(hF 0 q hq).1; omega,.inl hq⟩
       . exact⟨by have:=(hF 1 q hq).1; omega,.inr (.inl hq)⟩
       . exact⟨by omega,.inr (.inr (by omega))⟩
     . refine vE (w:=w) (i:=xs.length) (oR _) (G:=G) (H:=H) (F:=F 0) (FH:=F 1) (b0:=b0) (b1:=b2) (o:=o) (o1:=o2) (cs:=cs) (cs1:=cs2) (cs':=(cut cs o (xs.length * k)).toArray++VS.toArray++zs) (el:=e) (fr:=(0,0)) p5 p6 p7 f5 f6 f7 h01
        (by rw[hheap,ae1,if_pos rfl]) (fun q _ hh=>by simp at hh) (.inr (.inr rfl)) (fun q hq=> .inl hq) (fun q hq=> .inr (.inl hq)) (fun a c q hq he=>by have:=(hF 0 q (p5 _ _ _ hq).1).1; omega) (fun a c q hq he=>by have:=(hF 1 q (f5 _ _ _ hq).1).1; omega)
        (fun q hq _ _=>hold q hq) (fun q hq => ?_) (fun q hq => ?_) (fun q hq => ?_) hge ?_ hnb
       . rw[<- hkk]at hq;rw[aex,af0,afg (by rw[hcl]; exact hq),aeZ,rL p8 hq]
       . rw[<- hkk]at hq ⊢;rw[aex,af0,agG (by rw[hcl]; omega),hcl,afa,afg (by rw[hvl]; exact hq),aeZ,v2 q hq]
       . simp at hq
       . rw[ags,ags,hcl,hvl,z1,<- hkk,<- ae0,<- ae0];refine Nat.le_of_eq ?_;rw[aex];congr 1;omega
    have hxs2:=hxs;obtain⟨a0,c0,rfl,q1,q2,q3,_⟩:=(show cO w (.sl e te.ks) xs v0 (F 0)from hxs2);have q1:xs.length<=c0:=q1;cases a0 with
    | none => have hc0:=q3 rfl;subst hc0;obtain rfl:xs=[]:=ae6.1 (by omega);exact growLast none 0 w.heap.size 0 #[] (fun _ _ _=>False) (by simpa using hin) rfl (oR _) (by simpa using hm) (fun _ _ _ h=>h.elim) (fun _ _ _ _ _ h=>h.elim) (fun i x hx=>by simp at hx) (fun q hq=>by simp at hq) (by rw[show cut #[] 0 (([]:List (Tl te.ks)).length * k)=[]by simp[cut]]; exact run_firstCells_none (P:=P) w.drew _ _ _ _)
    | some aa =>
      obtain⟨_,_,_,b,o,cs,el,fr,rfl,k1,k2,k3,k4,G,k5,k6,k7,k8⟩:=Al hxs;replace k8:∀ q,q<xs.length * k->∃ v,cs[o+q]? = some v/\v.oneCell'=true:=by rw[hkk]; exact k8
      have hbw:b<w.heap.size:=(hF 0 b k1).1;have hbb2:b2≠b:=fun he=>hn20 b k1 he.symm
      have hel:(aQ (e:=e) (ks:=te.ks) xs).length=xs.length:=rfl;rw[hel];by_cases hil:i=xs.length
      . by_cases hfit:xs.length+ys.length<=c0
        . subst hil;have hsp:∀ j,j<VS.length->o+xs.length * te.ks.length+j<cs.size:=fun j hj=>by
           rw[v1,hkk]at hj;have:=aeS te.ks.length hfit;rw[ae0]at this;omega
          have z2:=n9 (P:=P) (w:=w) (ty:=T) (ats := #[T,T]) (t:=T) (t2:=T) (b:=b) (o:=o) hT hTe hT (fun _ hh=>by simp at hh) rfl rfl v6 (v5 w rfl) hfit v3 fun j hj=>⟨cs,el,fr,k2,hsp j hj,k3 _ (by have:=hsp j hj; omega)⟩
          refine(W.last (some ⟨b,o,none⟩) xs.length c0 (some ⟨b2,o2,none⟩) ys.length c2 w _ _ q1 (by omega) z2).mono fun en w1 ⟨h1,h2⟩ => ?_
          subst h2;obtain⟨g1,g2,g3,g4,g5,g6⟩:=dK b VS (o+xs.length * te.ks.length) w cs el fr k2;have hget:∀ q,(setFrom cs (o+xs.length * te.ks.length) VS)[q]? = if o+xs.length * te.ks.length<=q/\q<o+xs.length * te.ks.length+VS.length then VS[q-(o+xs.length * te.ks.length)]? else cs[q]? := fun q=>cK _ _ _ _ (by
           have:0<VS.length:=by rw[v1,hkk]; exact Nat.mul_pos hm hkp
           have:=hsp (VS.length-1) (by omega);omega)
          refine⟨_,fun q=>F 0 q∨F 1 q,h1,g4,g5,g6,by rw[g3]; exact oR _,fun q hq hn=>g2 q (fun he=>hn (he ▸ k1)),fun q hq => ?_,?_⟩
          . rw[g3];rcases hq with hq | hq
            . exact⟨(hF 0 q hq).1,.inl hq⟩
            . exact⟨(hF 1 q hq).1,.inr (.inl hq)⟩
          . refine vE (w:=w) (i:=xs.length) (oR _) (G:=G) (H:=H) (F:=F 0) (FH:=F 1) (b0:=b) (b1:=b2) (o:=o) (o1:=o2) (cs:=cs) (cs1:=cs2) k5 k6 k7 f5 f6 f7 h01 g1 (fun q hq=>k3 q (by rw[cA]at hq; exact hq)) (.inl k1) (fun q hq=> .inl hq) (fun q hq=> .inr hq) (fun a c q hq=>(k5 _ _ _ hq).2) (fun a c q hq he=>h01 q (f5 _ _ _ hq).1 (he ▸ k1))
             (fun q hq hne _=>g2 q hne) (fun q hq => ?_) (fun q hq => ?_) (fun q hq => ?_) hfit (by rw[cA]; exact k4) hnb
            . rw[hget,if_neg (by omega)]
            . rw[hget,if_pos ⟨by omega,by rw[v1,hkk]; omega⟩,afa,v2 q (by rw[hkk]; exact hq)]
            . simp at hq
        . refine growLast (some ⟨b,o,none⟩) c0 b o cs G hil rfl q1 (by omega) k5 k6 k7 k8 (run_firstCells_some (P:=P) w.drew _ _ ⟨b,o,none⟩ _ _ _ (by rw[oI,hkk]) fun j u hj => ?_);rw[fL];exact rG (w:=w.drew) k2 k8 j u hj
      . have hil:i<xs.length:=by omega
        have k9:∀ q,q<(xs.length-i) * k->∃ v,cs[o+i * k+q]? = some v/\v.oneCell'=true:=fun q hq=>by
         have:=k8 (i * k+q) (by
          have:xs.length * k=i * k+(xs.length-i) * k:=by rw[<- ae0]; congr 1; omega
          omega)
         rwa [<- afq]at this
        obtain⟨C1,hC1⟩:∃ C1,C1=cut cs (o+i * k) ((xs.length-i) * k):=⟨_,rfl⟩;have c1:C1.length=(xs.length-i) * k:=by rw[hC1,oI]
        have c2':∀ q,q<(xs.length-i) * k->C1[q]? = cs[o+i * k+q]? := fun q hq=>by rw[hC1,rL k9 hq]
        have c3:∀ u∈C1,u.oneCell'=true:=by rw[hC1]; exact HL k9
        have c4:∀ w1:World,w1.heap[b]? = w.heap[b]? -> ∀(j:Nat) (u:Value),C1[j]? = some u->w1.cell? ⟨b,o+i * k+j,none⟩=some u:=fun w1 hw1 j u hj=>by rw[hC1]at hj;exact rG (hw1.trans k2) k9 j u hj
        have em:xs.length * k=i * k+(xs.length-i) * k:=by rw[<- ae0]; congr 1; omega
        have en:(i+ys.length) * k=i * k+ys.length * k:=ae0 ..
        by_cases hfit:xs.length+ys.length<=c0
        ·
         have hmk:ys.length * k<=(c0-xs.length) * k:=aeS _ (by omega);have eck:c0 * k=xs.length * k+(c0-xs.length) * k:=by rw[<- ae0]; congr 1; omega
         rw[<- hkk]at k4;have hov:∀ lb cb,(callFunc ov #[.slice (some ⟨b2,o2,none⟩) ys.length c2,.slice (some ⟨b,o+(i+ys.length) * te.ks.length,none⟩) lb cb]).run P w= .ok (.value (.bool false)) w:=fun lb cb=>by
          have hsa:w.shape? b2=some (el2,cs2.size):=by simp[World.shape?,f2]
          have hsb:w.shape? b=some (el,cs.size):=by simp[World.shape?,k2]
          have hp2:0<ys.length * k:=Nat.mul_pos hm (hkk ▸ hkp);have hp1:0<(xs.length-i) * k:=Nat.mul_pos (by omega) (hkk ▸ hkp);have h4:ys.length * k<=c2 * k:=aeS _ e2;rw[<- hkk]at f4;have hov2:=Lib.run_overlaps_apart (P:=P) w T tR e hT te.ks.length (cJ hTe) ⟨b2,o2,none⟩ ⟨b,o+(i+ys.length) * te.ks.length,none⟩ ys.length c2 lb cb hbb2 el2 el cs2.size cs.size hsa hsb (by omega) (kt f2 (f3 o2 (by omega))) (kt f2 (f3 cs2.size (by rw[hk]; omega)));rw[run_callFunc_extern ho hon hob hox hoe,hov2];rfl
         have hcp1:∀ ty dc sc,(Builtin.copy_ #[T,T] ty #[.slice (some ⟨b,o+(i+ys.length) * te.ks.length,none⟩) (xs.length+ys.length-(i+ys.length)) dc,.slice (some ⟨b,o+i * te.ks.length,none⟩) (xs.length+ys.length-i) sc]).run P w.drew= .ok (goInt (xs.length-i:Nat)) (w.drew.setCells b (o+(i+ys.length) * te.ks.length) C1):=fun ty dc sc=>by
          refine o7 (w:=w.drew) hT hTe (by simp only[Nat.min_def]; split <;> omega) (by rw[c1,hkk]) (fun j u hj => ?_) (fun j hj => ?_) (fun j hj => ?_) c3
          . rw[<- hkk]; exact c4 w.drew rfl j u hj
          . rw[c1]at hj; rw[<- hkk]; exact oE (w:=w.drew) k2 (by omega)
          . rw[c1]at hj; rw[<- hkk]; exact kt (w:=w.drew) k2 (k3 _ (by omega))
         obtain⟨g1,g2,g3,g4,g5,g6⟩:=dK b C1 (o+(i+ys.length) * te.ks.length) w.drew cs el fr k2;obtain⟨W1,hW1⟩:∃ W1,W1=w.drew.setCells b (o+(i+ys.length) * te.ks.length) C1:=⟨_,rfl⟩;rw[<- hW1]at g1 g2 g3 g4 g5 g6 hcp1;obtain⟨D1,hD1⟩:∃ D1,D1=setFrom cs (o+(i+ys.length) * te.ks.length) C1:=⟨_,rfl⟩;have d1s:D1.size=cs.size:=by rw[hD1,cA]
         have d1:∀ q,D1[q]? = if o+(i+ys.length) * k<=q/\q<o+(i+ys.length) * k+C1.length then C1[q-(o+(i+ys.length) * k)]? else cs[q]? := fun q=>by rw[hD1,<- hkk]; exact cK _ _ _ _ (by rw[c1]; omega)
         rw[<- hD1]at g1;have hcp2:∀ ty dc,(Builtin.copy_ #[T,T] ty #[.slice (some ⟨b,o+i * te.ks.length,none⟩) (xs.length+ys.length-i) dc,.slice (some ⟨b2,o2,none⟩) ys.length c2]).run P W1= .ok (goInt ys.length) (W1.setCells b (o+i * te.ks.length) VS):=fun ty dc=>by
          refine o7 (w:=W1) hT hTe (by simp only[Nat.min_def]; split <;> omega) (by rw[v1,hkk]) (fun j u hj=>v4 W1 (g2 b2 hbb2) j u hj) (fun j hj => ?_) (fun j hj => ?_) v3
          . rw[v1]at hj; rw[<- hkk]; exact oE (w:=W1) g1 (by omega)
          . rw[v1]at hj; rw[<- hkk]; exact kt (w:=W1) g1 (k3 _ (by omega))
         obtain⟨m1,m2,m3,m4,m5,m6⟩:=dK b VS (o+i * te.ks.length) W1 D1 el fr g1;obtain⟨D2,hD2⟩:∃ D2,D2=setFrom D1 (o+i * te.ks.length) VS:=⟨_,rfl⟩;have d2s:D2.size=cs.size:=by rw[hD2,cA,d1s]
         have d2:∀ q,D2[q]? = if o+i * k<=q/\q<o+i * k+VS.length then VS[q-(o+i * k)]? else D1[q]? := fun q=>by rw[hD2,<- hkk]; exact cK _ _ _ _ (by rw[v1]; omega)
         rw[<- hD2]at m1;refine(W.room b o xs.length c0 i (some ⟨b2,o2,none⟩) ys.length c2 w hil hfit (by omega) hm W1 _ hov hcp1 hcp2).mono fun en w1 ⟨h1,h2⟩ => ?_
         subst h2;have hold:∀ q,q≠b->(W1.setCells b (o+i * te.ks.length) VS).heap[q]? = w.heap[q]? := fun q hq=>(m2 q hq).trans (g2 q hq)
         have hsize:(W1.setCells b (o+i * te.ks.length) VS).heap.size=w.heap.size:=m3.trans g3;refine⟨_,fun q=>F 0 q∨F 1 q,h1,m4.trans g4,m5.trans g5,m6.trans g6,by rw[hsize]; exact oR _,fun q hq hn=>hold q (fun he=>hn (he ▸ k1)),fun q hq => ?_,?_⟩
         . rw[hsize];rcases hq with hq | hq
           . exact⟨(hF 0 q hq).1,.inl hq⟩
           . exact⟨(hF 1 q hq).1,.inr (.inl hq)⟩
         . refine vE (w:=w) (i:=i) hin (G:=G) (H:=H) (F:=F 0) (FH:=F 1) (b0:=b) (b1:=b2) (o:=o) (o1:=o2) (cs:=cs) (cs1:=cs2) k5 k6 k7 f5 f6 f7 h01 m1 (fun q hq=>k3 q (by rw[d2s]at hq; exact hq)) (.inl k1) (fun q hq=> .inl hq) (fun q hq=> .inr hq) (fun a c q hq=>(k5 _ _ _ hq).2) (fun a c q hq he=>h01 q (f5 _ _ _ hq).1 (he ▸ k1))
            (fun q hq hne _=>hold q hne) (fun q hq => ?_) (fun q hq => ?_) (fun q hq => ?_) hfit (by rw[d2s,<- hkk]; exact k4) hnb
           . rw[<- hkk]at hq;rw[d2,if_neg (by omega),d1,if_neg (by omega)]
           . rw[<- hkk]at hq ⊢;rw[d2,if_pos ⟨by omega,by rw[v1]; omega⟩,afa,v2 q hq]
           . rw[<- hkk]at hq ⊢;rw[d2,if_neg (by rw[v1]; omega),d1,if_pos ⟨by omega,by rw[c1]; omega⟩,afa,c2' q hq]
        ·
         obtain⟨ii,i1,i2,i3,z,i4,i5⟩:=hTe.info;have hzs:z.cells.size=k:=by rw[hkk,<- aeY,i5]; simp
         have k10:∀ q,q<i * k->∃ v,cs[o+q]? = some v/\v.oneCell'=true:=fun q hq=>k8 q (by omega)
         obtain⟨O1,hO1⟩:∃ O1,O1=cut cs o (i * k):=⟨_,rfl⟩;have o1l:O1.length=i * k:=by rw[hO1,oI]
         have o1g:∀ q,q<i * k->O1[q]? = cs[o+q]? := fun q hq=>by rw[hO1,rL k10 hq]
         have hold0:(Builtin.firstCells ii.size i (.slice (some ⟨b,o,none⟩) i c0)).run P w.drew= .ok O1.toArray w.drew:=run_firstCells_some (P:=P) w.drew _ _ ⟨b,o,none⟩ _ _ _ (by rw[o1l,i2,hkk]) fun j u hj=>by rw[fL];rw[hO1]at hj;exact rG (w:=w.drew) k2 k10 j u hj
         have ein:i+(xs.length+ys.length-i)=xs.length+ys.length:=by omega
         have hbb:(xs.length+ys.length) * te.bytes<=140737488355328:=hbig;have hz1:=Lib.run_append_grow_zeros (P:=P) w T 3 T e ii z .i64 .i64 hT h3 i1 i4 (some ⟨b,o,none⟩) i c0 O1 hold0 (xs.length+ys.length-i) (by omega) (by rw[i2]; exact hkp) (by omega) (by omega) (by rw[i3];have:(xs.length+ys.length-i) * te.bytes<=(xs.length+ys.length) * te.bytes:=aeS _ (by omega);omega) (by rw[ein,i3]; have:=growslice_fits (need:=xs.length+ys.length) (old:=c0) (bytes:=te.bytes) (by omega) hbb; omega);rw[ein]at hz1;have hcast:(xs.length:Int)+(ys.length:Int)-(i:Int)=((xs.length+ys.length-i:Nat):Int):=by omega
         rw[<- hcast]at hz1;obtain⟨G1,hG1⟩:∃ G1,G1=grownCap w (xs.length+ys.length) c0 e:=⟨_,rfl⟩;have hge:xs.length+ys.length<=G1:=by rw[hG1]; exact grownCap_ge w _ _ _
         have hG63:G1<=9223372036854775807:=by have:=grownCap_le_maxLen w (xs.length+ys.length) c0 e (by unfold maxLen; omega);rw[<- hG1]at this;unfold maxLen at this;omega
         rw[<- hG1]at hz1;obtain⟨ROW,hROW⟩:∃ ROW,ROW=O1.toArray++Builtin.zeroCells z.cells (xs.length+ys.length-i)++Builtin.zeroCells z.cells (G1-(xs.length+ys.length)):=⟨_,rfl⟩;rw[<- hROW]at hz1;have hRs:ROW.size=G1 * k:=by rw[hROW,ags,ags,size_zeroCells,size_zeroCells,hzs];simp only[ahe,o1l];rw[<- ae0,<- ae0];congr 1;omega
         have hRg:∀ q,q<i * k->ROW[q]? = cs[o+q]? := fun q hq=>by rw[hROW,af0,afg (by simpa[o1l]using hq),aeZ,o1g q hq]
         have hGk:(xs.length+ys.length) * k<=G1 * k:=aeS _ hge;rw[ae0]at hGk;obtain⟨W1,hW1⟩:∃ W1,W1=w.drew.alloc (.cells ROW e):=⟨_,rfl⟩;rw[<- hW1]at hz1;have a1:W1.heap=w.heap.push (.cells ROW e (0,0)):=by rw[hW1]; rfl
         have a2:W1.heap[w.heap.size]? = some (.cells ROW e (0,0)):=by rw[a1,ae1,if_pos rfl]
         have a3:∀ q,q<w.heap.size->W1.heap[q]? = w.heap[q]? := fun q hq=>by rw[a1,ae1,if_neg (by omega)]
         have a4:W1.heap.size=w.heap.size+1:=by rw[a1,afN]
         have a5:W1.os=w.os/\W1.tape=w.tape/\W1.output=w.output:=by rw[hW1]; exact⟨rfl,rfl,rfl⟩
         have hcp1:∀ ty dc,(Builtin.copy_ #[T,T] ty #[.slice (some ⟨w.heap.size,i * te.ks.length,none⟩) (xs.length+ys.length-i) dc,.slice (some ⟨b2,o2,none⟩) ys.length c2]).run P W1= .ok (goInt ys.length) (W1.setCells w.heap.size (i * te.ks.length) VS):=fun ty dc=>by
          refine o7 (w:=W1) hT hTe (by simp only[Nat.min_def]; split <;> omega) (by rw[v1,hkk]) (fun j u hj=>v4 W1 (a3 b2 hb2) j u hj) (fun j hj => ?_) (fun j hj => ?_) v3
          . rw[v1]at hj; rw[<- hkk]; exact oE (w:=W1) a2 (by omega)
          . exact kt (w:=W1) a2 (by simp)
         obtain⟨g1,g2,g3,g4,g5,g6⟩:=dK w.heap.size VS (i * te.ks.length) W1 ROW e (0,0) a2;obtain⟨W2,hW2⟩:∃ W2,W2=W1.setCells w.heap.size (i * te.ks.length) VS:=⟨_,rfl⟩;rw[<- hW2]at g1 g2 g3 g4 g5 g6 hcp1;obtain⟨D1,hD1⟩:∃ D1,D1=setFrom ROW (i * te.ks.length) VS:=⟨_,rfl⟩;have d1s:D1.size=ROW.size:=by rw[hD1,cA]
         have d1:∀ q,D1[q]? = if i * k<=q/\q<i * k+VS.length then VS[q-i * k]? else ROW[q]? := fun q=>by rw[hD1,<- hkk]; exact cK _ _ _ _ (by rw[v1]; omega)
         rw[<- hD1]at g1;have hcp2:∀ ty dc sc,(Builtin.copy_ #[T,T] ty #[.slice (some ⟨w.heap.size,(i+ys.length) * te.ks.length,none⟩) (xs.length+ys.length-(i+ys.length)) dc,.slice (some ⟨b,o+i * te.ks.length,none⟩) (xs.length-i) sc]).run P W2.drew= .ok (goInt (xs.length-i:Nat)) (W2.drew.setCells w.heap.size ((i+ys.length) * te.ks.length) C1):=fun ty dc sc=>by
          refine o7 (w:=W2.drew) hT hTe (by simp only[Nat.min_def]; split <;> omega) (by rw[c1,hkk]) (fun j u hj => ?_) (fun j hj => ?_) (fun j hj => ?_) c3
          . rw[<- hkk]; exact c4 W2.drew ((g2 b (by omega)).trans (a3 b hbw)) j u hj
          . rw[c1]at hj; rw[<- hkk]; exact oE (w:=W2.drew) g1 (by omega)
          . exact kt (w:=W2.drew) g1 (by simp)
         obtain⟨m1,m2,m3,m4,m5,m6⟩:=dK w.heap.size C1 ((i+ys.length) * te.ks.length) W2.drew D1 e (0,0) g1;obtain⟨D2,hD2⟩:∃ D2,D2=setFrom D1 ((i+ys.length) * te.ks.length) C1:=⟨_,rfl⟩;have d2s:D2.size=ROW.size:=by rw[hD2,cA,d1s]
         have d2:∀ q,D2[q]? = if (i+ys.length) * k<=q/\q<(i+ys.length) * k+C1.length then C1[q-(i+ys.length) * k]? else D1[q]? := fun q=>by rw[hD2,<- hkk]; exact cK _ _ _ _ (by rw[c1]; omega)
         rw[<- hD2]at m1;refine(W.grow b o xs.length c0 i (some ⟨b2,o2,none⟩) ys.length c2 w hil q1 (by omega) (by omega) hm W1 W2 _ w.heap.size G1 hge hG63 (fun ty=>hz1) hcp1 hcp2).mono fun en w1 ⟨h1,h2⟩ => ?_
         subst h2;have hold:∀ q,q<w.heap.size->(W2.drew.setCells w.heap.size ((i+ys.length) * te.ks.length) C1).heap[q]? = w.heap[q]? := fun q hq=>(m2 q (by omega)).trans ((g2 q (by omega)).trans (a3 q hq))
         have hsize:(W2.drew.setCells w.heap.size ((i+ys.length) * te.ks.length) C1).heap.size=w.heap.size+1:=m3.trans (g3.trans a4);refine⟨_,fun q=>F 0 q∨F 1 q∨q=w.heap.size,h1,m4.trans (g4.trans a5.1),m5.trans (g5.trans a5.2.1),m6.trans (g6.trans a5.2.2),by rw[hsize]; omega,fun q hq hn=>hold q hq,fun q hq => ?_,?_⟩
         . rw[hsize];rcases hq with hq | hq | hq
           . exact⟨by have:=(hF 0 q hq).1; omega,.inl hq⟩
           . exact⟨by have:=(hF 1 q hq).1; omega,.inr (.inl hq)⟩
           . exact⟨by omega,.inr (.inr (by omega))⟩
         . refine vE (w:=w) (i:=i) hin (G:=G) (H:=H) (F:=F 0) (FH:=F 1) (b0:=b) (b1:=b2) (o:=o) (o1:=o2) (o':=0) (cs:=cs) (cs1:=cs2) k5 k6 k7 f5 f6 f7 h01 m1 (fun q _ hh=>by simp at hh) (.inr (.inr rfl)) (fun q hq=> .inl hq) (fun q hq=> .inr (.inl hq)) (fun a c q hq he=>by have:=(hF 0 q (k5 _ _ _ hq).1).1; omega) (fun a c q hq he=>by have:=(hF 1 q (f5 _ _ _ hq).1).1; omega)
            (fun q hq _ _=>hold q hq) (fun q hq => ?_) (fun q hq => ?_) (fun q hq => ?_) hge (by rw[d2s,hRs,<- hkk]; omega) hnb
           . rw[<- hkk]at hq;rw[aex,d2,if_neg (by omega),d1,if_neg (by omega),hRg q hq]
           . rw[<- hkk]at hq ⊢;rw[aex,d2,if_neg (by omega),d1,if_pos ⟨by omega,by rw[v1]; omega⟩,afa,v2 q hq]
           . rw[<- hkk]at hq ⊢;rw[aex,d2,if_pos ⟨by omega,by rw[c1]; omega⟩,afa,c2' q hq]
 refine goal.mono fun en w1 ⟨v,F',h0,h1,h2,h3,h4,h5,h6,h7⟩ => ?_
 subst h0;exact fin v w1 F' h1 h2 h3 h4 h5 h6 h7
end
section
variable{P:Program}{E:En}{ops:Array Oper}{P:Program}{cx:Cx P}{Q:Exit->Act->World->Prop}
theorem Kw(hed:iO ops.toList 0=true){i:Nat}{J:Nat->Bool}{base:St}{bsF:Bd}{G:Nat->St}(hi:i<ops.size)
 (hstep:∀ j,j<i->rj P E ops (bq ops.toList []) base bsF 0 j)
 (hneed:∀ j,j<i->J j=false->((bq ops.toList []).getD i 0).testBit j=true)
 (hlater:∀ k,i<k->k<ops.size->∀ j,j<=i->((bq ops.toList []).getD k 0).testBit j=true)
 (hstore:∀(S:Nat) (a:Act) (w:World) (Z:Nat->Prop) (g:Gh) (next:Act->World->Prop),(∀ j,j<i->J j=false->S.testBit j=true)->(∀ j,i<=j->S.testBit j=false)->Rel cx Z g (view base S bsF) a w->Fit cx E a ->
   (∀ Z' g' a' w',Rel cx Z' g' (G S) a' w'->Fit cx E a'->next a' w')->wpOp P ops Q i next a w)
 (hlate:∀(S j:Nat) (a:Act) (w:World) (Z:Nat->Prop) (g:Gh) (next:Act->World->Prop),(∀ j,j<i->J j=false->S.testBit j=true)->(∀ j,i<=j->S.testBit j=false)->j<i->J j=true->S.testBit j=false ->
   (∀ b,((bq ops.toList []).getD j 0).testBit b=true->b<i->S.testBit b=true)->Rel cx Z g (G S) a w->Fit cx E a ->
   (∀ Z' g' a' w',Rel cx Z' g' (G (S ||| 2 ^ j)) a' w'->Fit cx E a'->next a' w')->wpOp P ops Q j next a w)
 (hend:∀(fuel:Nat) (listed:Array Bool) (S:Nat) (a:Act) (w:World) (Z:Nat->Prop) (g:Gh),listed.size=ops.size->(∀ k,k<ops.size->listed.getD k false=decide (k<=i))->HD ops.size (2 ^ (i+1)-1)<=fuel->(∀ j,S.testBit j=decide (j<i))->Rel cx Z g (G S) a w->Fit cx E a->wpAny P .any ops Q fuel listed a w) :
 ∀(fuel:Nat) (listed:Array Bool) (S:Nat) (B:Bool) (a:Act) (w:World) (Z:Nat->Prop) (g:Gh),listed.size=ops.size->(∀ k,k<ops.size->listed.getD k false=(S ||| (bif B then 2 ^ i else 0)).testBit k)->(∀ k,i<=k->S.testBit k=false)->HD ops.size (S ||| (bif B then 2 ^ i else 0))<=fuel ->
  (∀ k,(S ||| (bif B then 2 ^ i else 0)).testBit k=true->∀ b,((bq ops.toList []).getD k 0).testBit b=true->(S ||| (bif B then 2 ^ i else 0)).testBit b=true)->(B=true->∀ j,j<i->J j=false->S.testBit j=true) ->
  Rel cx Z g (bif B then G S else view base S bsF) a w->Fit cx E a->wpAny P .any ops Q fuel listed a w:=by
 have hlen:(bq ops.toList []).length=ops.size:=by rw[o5]; simp
 intro fuel;induction fuel with
 | zero =>
   intro listed S B a w Z g hls hS hhi hfuel hcl hBJ h hsz;have hall:=AB _ _ (Nat.le_zero.1 hfuel);have hB:B=true:=by
    cases B with
    | true=>rfl
    | false => have:=hall i hi;simp only[oF,Nat.or_zero]at this;rw[hhi i (oR _)]at this;simp at this
   subst hB;simp only[oT]at hall h hS hfuel;have hT:∀ j,j<i->S.testBit j=true:=fun j hj=>by have:=hall j (by omega);rw[aR]at this;simpa[show ¬ i=j by omega]using this
   have hbit:∀ j,S.testBit j=decide (j<i):=fun j=>by
    by_cases hj:j<i
    . simp[hj,hT j hj]
    . simp[hj,hhi j (by omega)]
   refine hend 0 listed S a w Z g hls (fun k hk => ?_) ?_ hbit h hsz
   . rw[hS k hk,aR,hbit];by_cases e:i=k
     . simp[e]
     . simp[e]; omega
   . have e:S ||| 2 ^ i=2 ^ (i+1)-1:=by
      apply ag5;intro k;rw[aR,eo,hbit];by_cases e:i=k
      . simp[e]
      . simp[e]; omega
     rw[<- e];exact hfuel
 | succ fuel ih =>
   intro listed S B a w Z g hls hS hhi hfuel hcl hBJ h hsz;have hmask:∀ j,j∈Region.ready .any ops listed->j<ops.size/\(S ||| (bif B then 2 ^ i else 0)).testBit j=false/\∀ b,((bq ops.toList []).getD j 0).testBit b=true->(S ||| (bif B then 2 ^ i else 0)).testBit b=true:=by
    intro j hj;obtain⟨hj0,o,ho,he⟩:=mem_ready.1 hj;have hlt:j<ops.size:=(aeP.1 ho).1;refine⟨hlt,?_,fun b hbit => ?_⟩
    . rw[<- hS j hlt];simp[aev,hls,hlt]at hj0 ⊢;exact hj0
    . obtain⟨e,h1,h2,h3⟩:=oZ ops.toList [] j o b (by rw[aer]; exact ho) (by simpa using hbit);have hl:=he e (agv.1 h1) h2;have hon:e.on<ops.size:=by
       rcases aeD e.on ops.size with hh | hh
       . exact hh
       . simp[aev,hls,hh]at hl
      rw[hS _ hon]at hl;rcases h3 with h3 | ⟨_,h3⟩
      . rw[<- h3]; exact hl
      . exact hcl _ hl b h3
   have hnext:∀ k,k<ops.size->(S ||| (bif B then 2 ^ i else 0)).testBit k=false->∃ j,j∈Region.ready .any ops listed:=by
    intro k;induction k using Nat.strongRecOn with
    | _ k ihk =>
      intro hk hkS;obtain⟨o,ho⟩:∃ o,ops[k]? = some o:=⟨ops[k],by simp[hk]⟩;by_cases hall:∀ e∈o.after,Region.binds .any e=true->listed.getD e.on false=true
      . refine⟨k,mem_ready.2 ⟨?_,o,ho,hall⟩⟩;have:=hS k hk;rw[hkS]at this;simp[aev,hls,hk]at this ⊢;exact this
      . have hex:∃ e,e∈o.after/\Region.binds .any e=true/\¬ listed.getD e.on false=true:=by
         apply afX;intro hne;apply hall;intro e he hbe;apply afX;intro hnl;exact hne ⟨e,he,hbe,hnl⟩
        obtain⟨e,he,hbe,hnl⟩:=hex;have hon:=kh ops.toList 0 hed k o (by rw[aer]; exact ho) e (agv.2 he) hbe;rw[aex]at hon;have hon':e.on<ops.size:=Nat.lt_trans hon hk;refine ihk e.on hon hon' ?_;rw[<- hS _ hon'];simpa using hnl
   have hset:∀ j (S':Nat),(∀ k,S'.testBit k=((S ||| (bif B then 2 ^ i else 0)) ||| 2 ^ j).testBit k)->j<ops.size->(∀ k,k<ops.size->(listed.setIfInBounds j true).getD k false=S'.testBit k):=by
    intro j S' hS' hj k hk;rw[hS',aR,<- hS k hk];by_cases hjk:j=k
    . subst hjk;simp[aev,hls,hj]
    . simp[aev,agx hjk,hjk]
   have hcnt:∀ j (S':Nat),S'=(S ||| (bif B then 2 ^ i else 0)) ||| 2 ^ j->j<ops.size->(S ||| (bif B then 2 ^ i else 0)).testBit j=false->HD ops.size S'<=fuel:=by intro j S' hS' hj hSj;subst hS';have:=By ops.size j _ hSj;rw[if_pos hj]at this;omega
   have hclS:∀ j,j∈Region.ready .any ops listed->∀ S',S'=(S ||| (bif B then 2 ^ i else 0)) ||| 2 ^ j->∀ k,S'.testBit k=true->∀ b,((bq ops.toList []).getD k 0).testBit b=true->S'.testBit b=true:=by
    intro j hj S' hS' k hk b hbit;subst hS';rw[aR]at hk ⊢;by_cases hjk:j=k
    . subst hjk;rw[(hmask j hj).2.2 b hbit]; rfl
    . have hk:(S ||| (bif B then 2 ^ i else 0)).testBit k=true:=by simpa[hjk]using hk
      rw[hcl k hk b hbit]; rfl
   have hTlow:∀ k,k<i->(S ||| (bif B then 2 ^ i else 0)).testBit k=S.testBit k:=fun k hk=>by
    cases B with
    | false=>simp
    | true=>rw[oT,aR]; simp[show ¬ i=k by omega]
   have hTi:(S ||| (bif B then 2 ^ i else 0)).testBit i=B:=by
    cases B with
    | false=>simpa using hhi i (oR _)
    | true=>rw[oT,aR]; simp
   by_cases hdone:B=true/\∀ j,j<i->S.testBit j=true
   . obtain⟨rfl,hT⟩:=hdone;have hbit:∀ j,S.testBit j=decide (j<i):=fun j=>by
      by_cases hj:j<i
      . simp[hj,hT j hj]
      . simp[hj,hhi j (by omega)]
     refine hend (fuel+1) listed S a w Z g hls (fun k hk => ?_) ?_ hbit h hsz
     . rw[hS k hk,oT,aR,hbit];by_cases e:i=k
       . simp[e]
       . simp[e]; omega
     . have e:S ||| 2 ^ i=2 ^ (i+1)-1:=by
        apply ag5;intro k;rw[aR,eo,hbit];by_cases e:i=k
        . simp[e]
        . simp[e]; omega
       rw[<- e];exact hfuel
   . have hleft:∃ k,k<ops.size/\(S ||| (bif B then 2 ^ i else 0)).testBit k=false:=by
      cases B with
      | false=>exact⟨i,hi,hTi⟩
      | true =>
        apply afX;intro hne;apply hdone;refine⟨rfl,fun j hj => ?_⟩;rw[<- hTlow j hj];cases hb:(S ||| (bif true then 2 ^ i else 0)).testBit j with
        | true=>rfl
        | false=>exact absurd ⟨j,by omega,hb⟩ hne
     refine⟨fun hr => ?_,fun j hj => ?_⟩
     . obtain⟨k,hk,hkS⟩:=hleft;obtain⟨j,hj⟩:=hnext k hk hkS;rw[hr]at hj;simp at hj
     . obtain⟨hj1,hj2,hj3⟩:=hmask j hj;rcases agX j i with hji | hji | hji
       ·
        have hSj:S.testBit j=false:=by rw[<- hTlow j hji]; exact hj2
        have hS'hi:∀ k,i<=k->(S ||| 2 ^ j).testBit k=false:=fun k hk=>by rw[aR,hhi k hk]; simp; omega
        have heq:(S ||| 2 ^ j) ||| (bif B then 2 ^ i else 0)=(S ||| (bif B then 2 ^ i else 0)) ||| 2 ^ j:=by rw[Nat.or_assoc,Nat.or_comm (2 ^ j),<- Nat.or_assoc]
        cases B with
        | false =>
          simp only[oF,Nat.or_zero]at *
          have hget:∀(x:Nat),(bq ops.toList []).getD j x=(bq ops.toList []).getD j 0:=fun x=>by
           have hjl:j<(bq ops.toList []).length:=by rw[hlen]; exact hj1
           simp[List.getD,hjl]
          refine hstep j hji cx S a w Z g _ Q (fun i' _ _ hbit=>hj3 i' (by rw[<- hget cy]; exact hbit)) hSj h hsz fun Z' g' a' w' hr hsz' => ?_
          exact ih (listed.setIfInBounds j true) (S ||| 2 ^ j) false a' w' Z' g' (by simp[hls]) (fun k hk=>by simpa using hset j (S ||| 2 ^ j) (fun _=>rfl) hj1 k hk) hS'hi (by simpa using hcnt j _ rfl hj1 hj2) (by simpa using hclS j hj _ rfl) (fun hh=>by simp at hh) hr hsz'
        | true =>
          have hJj:J j=true:=by
           cases hb:J j with
           | true=>rfl
           | false=>rw[hBJ rfl j hji hb]at hSj; simp at hSj
          refine hlate S j a w Z g _ (hBJ rfl) hhi hji hJj hSj (fun b hb hbi=>by rw[<- hTlow b hbi]; exact hj3 b hb) h hsz fun Z' g' a' w' hr hsz' => ?_
          refine ih (listed.setIfInBounds j true) (S ||| 2 ^ j) true a' w' Z' g' (by simp[hls]) (hset j _ (fun k=>by rw[heq]) hj1) hS'hi (hcnt j _ heq hj1 hj2) (hclS j hj _ heq) (fun _ k hk hJ => ?_) hr hsz';rw[aR,hBJ rfl k hk hJ]; rfl
       ·
        subst hji;have hB:B=false:=by rw[<- hTi]; exact hj2
        subst hB;simp only[oF,Nat.or_zero]at *
        have hSJ:∀ k,k<j->J k=false->S.testBit k=true:=fun k hk hJ=>hj3 k (hneed k hk hJ)
        refine hstore S a w Z g _ hSJ hhi h hsz fun Z' g' a' w' hr hsz' => ?_
        exact ih (listed.setIfInBounds j true) S true a' w' Z' g' (by simp[hls]) (hset j _ (fun _=>rfl) hj1) hhi (hcnt j _ rfl hj1 hj2) (hclS j hj _ rfl) (fun _=>hSJ) hr hsz'
       ·
        exfalso;apply hdone;have hall:=hlater j hji hj1;refine⟨by rw[<- hTi]; exact hj3 i (hall i (oR _)),fun k hk => ?_⟩;rw[<- hTlow k hk];exact hj3 k (hall k (agD hk))
end
def St.aM(st:St)(tm:List (Nat×TV)):St:=⟨tm,st.rt⟩
section
variable{st:St}{tm:List (Nat×TV)}
theorem dX(r j:Nat)(c:RC):(st.aM tm).setCell r j c=(st.setCell r j c).aM tm:=by unfold St.setCell St.aM;cases look st.rt r <;> rfl
theorem ep(r j:Nat):(st.aM tm).cell r j=st.cell r j:=rfl
theorem uO(a:AV):(st.aM tm).read a=st.read a:=by cases a <;> rfl
theorem nY(a:AV):(st.aM tm).live a=st.live a:=by
 cases a with
 | rp dep e ks xs i c=>cases dep <;> rfl
 | _=>rfl
theorem ct(k:K)(a:AV):(st.aM tm).bo k a=st.bo k a:=by cases a <;> cases k <;> first | rfl | (simp only[St.bo,uO])
theorem CH(a:AV):(st.aM tm).take a=(st.take a).map fun p=>(p.1.aM tm,p.2):=by
 cases a with
 | ref r j s =>
   simp only[St.take,ep];split
   . rename_i s' m k x hc;cases Nat.beq s' s <;> simp[dX]
   . rfl
 | cut r j s n =>
   simp only[St.take,ep];split
   . rename_i s' m e ks x hc;cases Nat.beq s' s <;> simp[dX]
   . rfl
 | _=>rfl
theorem eM(k:K)(a:AV):(st.aM tm).cz k a=(st.cz k a).map fun p=>(p.1.aM tm,p.2):=by
 have key:(match (st.aM tm).take a with | some (st',⟨k',x⟩)=>(match fD k' k x with | some y=>some (st',y) | none=>none) | none=>none)=((match st.take a with | some (st',⟨k',x⟩)=>(match fD k' k x with | some y=>some (st',y) | none=>none) | none=>none):Option (St×T k)).map fun p=>(p.1.aM tm,p.2):=by
  rw[CH];cases st.take a with
  | none=>rfl
  | some q => obtain⟨s1,k1,x1⟩:=q;simp only[aeM];cases fD k1 k x1 <;> rfl
 cases a <;> cases k <;> first | rfl | exact key
theorem DM(a:AV):(st.aM tm).jo a=st.jo a:=by cases a <;> first | rfl | (simp only[St.jo,uO,nY])
theorem oe(r j:Nat)(v:RV):(st.aM tm).bump r j v=(st.bump r j v).map (fun s:St=>s.aM tm):=by unfold St.bump;rw[ep];cases st.cell r j <;> simp[dX]
end
theorem iP{tm:List (Nat×TV)}{r:Nat}:∀(ks:List K) (l:List AV) (j:Nat) (st:St),(st.aM tm).cI r j ks l=(st.cI r j ks l).map (fun s:St=>s.aM tm)
 | [],[],_,_=>rfl
 | [],_::_,_,_=>by simp[St.cI]
 | _::_,[],_,_=>by simp[St.cI]
 | k::ks,a::l,j,st=>by
   have tb:∀(av:AV),(match (st.aM tm).cz k av with | some (st',x)=>(match st'.bump r j (.own k x)with | some st'=>st'.cI r (j+1) ks l | none=>none) | none=>none)=(match st.cz k av with | some (st',x)=>(match st'.bump r j (.own k x)with | some st'=>st'.cI r (j+1) ks l | none=>none) | none=>none).map (fun s:St=>s.aM tm):=fun av=>by
    rw[eM];cases st.cz k av with
    | none=>rfl
    | some q =>
      simp only[aeM,oe];cases q.1.bump r j (.own k q.2)with
      | none=>rfl
      | some s=>exact iP ks l (j+1) s
   have td:(match (st.aM tm).jo a with | some c=>(match (st.aM tm).bump r j c.v with | some st'=>st'.cI r (j+1) ks l | none=>none) | none=>none)=(match st.jo a with | some c=>(match st.bump r j c.v with | some st'=>st'.cI r (j+1) ks l | none=>none) | none=>none).map (fun s:St=>s.aM tm):=by
    rw[DM];cases st.jo a with
    | none=>rfl
    | some c =>
      simp only[oe];cases st.bump r j c.v with
      | none=>rfl
      | some s=>exact iP ks l (j+1) s
   cases a with
   | ref r2 j2 s2 =>
     simp only[St.cI];cases hb:Nat.beq r r2&&Nat.beq j j2 with
     | true =>
       simp only[oT,ep];cases st.cell r j with
       | none=>rfl
       | some c =>
         simp only;cases Nat.beq c.s s2 with
         | false=>rfl
         | true=>exact iP ks l (j+1) st
     | false=>simp only[oF]; exact tb _
   | cut r2 j2 s2 n=>simp only[St.cI]; exact tb _
   | nil =>
     simp only[St.cI];cases k with
     | sl e ks' =>
       simp only[oe];cases st.bump r j (.own (.sl e ks') ([]:List (Tl ks')))with
       | none=>rfl
       | some s=>exact iP ks l (j+1) s
     | _=>rfl
   | _=>simp only[St.cI]; exact td
theorem od{tm:List (Nat×TV)}{r j s i m0:Nat}:∀(ks:List K) (l:List AV) (c:Nat) (st:St),(st.aM tm).jl r j s i m0 c ks l=(st.jl r j s i m0 c ks l).map (fun s:St=>s.aM tm)
 | [],[],_,_=>rfl
 | [],_::_,_,_=>by simp[St.jl]
 | _::_,[],_,_=>by simp[St.jl]
 | k::ks,a::l,c,st=>by
   have fin:∀(q:Option (St×T k)),(match q.map (fun p:St×T k=>(p.1.aM tm,p.2))with
    | some (st',x)=>(match st'.cell r j with
      | some ⟨s',m,.own (.sl e ks0) xs⟩=>bif Nat.beq s' s then (match setAt ks0 (gi xs i) c k x with
        | some y=>(st'.setCell r j ⟨s',m+1,.own (.sl e ks0) (List.set (aQ xs) i y)⟩).jl r j s i m0 (c+1) ks l
        | none=>none)else none
      | _=>none)
    | none=>none)=(match q with
    | some (st',x)=>(match st'.cell r j with
      | some ⟨s',m,.own (.sl e ks0) xs⟩=>bif Nat.beq s' s then (match setAt ks0 (gi xs i) c k x with
        | some y=>(st'.setCell r j ⟨s',m+1,.own (.sl e ks0) (List.set (aQ xs) i y)⟩).jl r j s i m0 (c+1) ks l
        | none=>none)else none
      | _=>none)
    | none=>none).map (fun s:St=>s.aM tm):=fun q=>by
    cases q with
    | none=>rfl
    | some q =>
      simp only[aeM,ep];split
      . rename_i s' m e ks0 xs hc;cases Nat.beq s' s with
        | false=>rfl
        | true =>
          simp only[oT];cases setAt ks0 (gi xs i) c k q.2 with
          | none=>rfl
          | some y => simp only[dX];exact od ks l (c+1) _
      . rfl
   have hsb:(st.aM tm).mc r j s m0 c a=st.mc r j s m0 c a:=rfl;cases hsf:st.mc r j s m0 c a with
   | true => unfold St.jl;rw[hsb,hsf];exact od ks l (c+1) st
   | false =>
   unfold St.jl;rw[hsb,hsf];simp only[oF];cases k with
   | sl e0 ks0=>simp only; rw[eM]; exact fin _
   | int _ =>
     simp only;rw[ct];cases st.bo _ a with
     | none=>rfl
     | some x =>
       cases hf:a.bE with
       | false=>rfl
       | true=>exact fin (some (st,x))
   | bool =>
     simp only;rw[ct];cases st.bo _ a with
     | none=>rfl
     | some x =>
       cases hf:a.bE with
       | false=>rfl
       | true=>exact fin (some (st,x))
   | str =>
     simp only;rw[ct];cases st.bo _ a with
     | none=>rfl
     | some x =>
       cases hf:a.bE with
       | false=>rfl
       | true=>exact fin (some (st,x))
theorem nk{tm:List (Nat×TV)}{r j s i m0:Nat}{ks0:List K}{z0:Tl ks0}:∀(ks:List K) (l:List AV) (c:Nat) (st:St),(st.aM tm).gn r j s i m0 ks0 z0 c ks l=(st.gn r j s i m0 ks0 z0 c ks l).map (fun q:St×Tl ks=>(q.1.aM tm,q.2))
 | [],[],_,_=>rfl
 | [],_::_,_,_=>by simp[St.gn]
 | _::_,[],_,_=>by simp[St.gn]
 | k::ks,a::l,c,st=>by
   have hsb:(st.aM tm).mc r j s m0 c a=st.mc r j s m0 c a:=rfl;have hmo:(st.aM tm).Dt r j=st.Dt r j:=rfl;unfold St.gn;rw[hsb,hmo];cases hsf:st.mc r j s m0 c a with
   | true =>
     simp only[oT];rw[nk ks l (c+1) st];cases cellAt ks0 z0 c with
     | none=>rfl
     | some z =>
       simp only;cases fD z.1 k z.2 with
       | none=>rfl
       | some x=>cases st.gn r j s i m0 ks0 z0 (c+1) ks l <;> rfl
   | false =>
   simp only[oF]
   have fin:∀(q:Option (St×T k)),(match q.map (fun p:St×T k=>(p.1.aM tm,p.2))with
    | some (st',x)=>(match st'.cell r j with
      | some ⟨s',m,.own (.sl e ks1) xs⟩=>bif Nat.beq s' s&&Nat.beq m (st.Dt r j)then (match setAt ks1 (gi xs i) c k x with
        | some y=>(match (st'.setCell r j ⟨s',m+1,.own (.sl e ks1) (List.set (aQ xs) i y)⟩).gn r j s i m0 ks0 z0 (c+1) ks l with | some q=>some (q.1,(x,q.2)) | none=>none)
        | none=>none)else none
      | _=>none)
    | none=>(none:Option (St×Tl (k::ks))))=(match q with
    | some (st',x)=>(match st'.cell r j with
      | some ⟨s',m,.own (.sl e ks1) xs⟩=>bif Nat.beq s' s&&Nat.beq m (st.Dt r j)then (match setAt ks1 (gi xs i) c k x with
        | some y=>(match (st'.setCell r j ⟨s',m+1,.own (.sl e ks1) (List.set (aQ xs) i y)⟩).gn r j s i m0 ks0 z0 (c+1) ks l with | some q=>some (q.1,(x,q.2)) | none=>none)
        | none=>none)else none
      | _=>none)
    | none=>none).map (fun q:St×Tl (k::ks)=>(q.1.aM tm,q.2)):=fun q=>by
    cases q with
    | none=>rfl
    | some q =>
      simp only[aeM,ep];split
      . rename_i s' m e ks1 xs hc;cases Nat.beq s' s&&Nat.beq m (st.Dt r j)with
        | false=>rfl
        | true =>
          simp only[oT];cases setAt ks1 (gi xs i) c k q.2 with
          | none=>rfl
          | some y => simp only[dX];rw[nk ks l (c+1) _];cases(q.1.setCell r j ⟨s',m+1,.own (.sl e ks1) (List.set (aQ xs) i y)⟩).gn r j s i m0 ks0 z0 (c+1) ks l <;> rfl
      . rfl
   cases k with
   | sl e0 ks1=>simp only; rw[eM]; exact fin _
   | int _ =>
     simp only;rw[ct];cases st.bo _ a with
     | none=>rfl
     | some x =>
       cases hf:a.bE with
       | false=>rfl
       | true=>exact fin (some (st,x))
   | bool =>
     simp only;rw[ct];cases st.bo _ a with
     | none=>rfl
     | some x =>
       cases hf:a.bE with
       | false=>rfl
       | true=>exact fin (some (st,x))
   | str =>
     simp only;rw[ct];cases st.bo _ a with
     | none=>rfl
     | some x =>
       cases hf:a.bE with
       | false=>rfl
       | true=>exact fin (some (st,x))
theorem A9{tm:List (Nat×TV)}{st:St}{r j s i:Nat}{ks:List K}{l:List AV}:(st.aM tm).uV r j s i ks l=(st.uV r j s i ks l).map (fun s:St=>s.aM tm):=by
 unfold St.uV;rw[ep];split
 . rename_i s0 m e ks0 xs hc;rw[nk];cases st.gn r j s i m ks0 (gi xs i) 0 ks l with
   | none=>rfl
   | some q =>
     simp only[aeM,ep];cases vZ ks ks0 q.2 with
     | none=>rfl
     | some y =>
       cases q.1.cell r j with
       | none=>rfl
       | some c1 =>
         simp only;cases Nat.blt m c1.m with
         | false=>rfl
         | true=>simp only[oT,dX]; rfl
 . rfl
theorem AM{tm:List (Nat×TV)}{st:St}{ks:List K}{l:List AV}{a:AV}:(st.aM tm).store ks l a=(st.store ks l a).map (fun s:St=>s.aM tm):=by
 cases a with
 | ptr r j=>exact iP ks l j st
 | pel r j s i c =>
   simp only[St.store,nY];cases st.live (.pel r j s i c)with
   | false=>rfl
   | true =>
     simp only[oT];cases Nat.beq c 0&&Nat.ble 8 l.length with
     | false=>exact od ks l c st
     | true=>exact A9
 | _=>rfl
theorem yC{st st':St}{r j:Nat}{v:RV}(h:st.bump r j v=some st'):bT st st':=by
 unfold St.bump at h;split at h
 . rename_i c hc;simp only[aen]at h;subst h;exact bT.set hc (agf _) (afl _)
 . simp at h
theorem mC{r:Nat}:∀(ks:List K) (l:List AV) (j:Nat) (st st':St),st.cI r j ks l=some st'->bT st st'
 | [],[],_,st,st',h=>by simp[St.cI]at h; subst h; exact bT.refl _
 | [],_::_,_,st,st',h=>by simp[St.cI]at h
 | _::_,[],_,st,st',h=>by simp[St.cI]at h
 | k::ks,a::l,j,st,st',h=>by
   have tk:∀(a:AV),(match st.cz k a with | some (st1,x)=>(match st1.bump r j (.own k x)with | some st1=>st1.cI r (j+1) ks l | none=>none) | none=>none)=some st'->bT st st':=fun a h=>by
    split at h
    . rename_i st1 x hx;split at h
      . rename_i st2 h2;exact(gm hx).trans ((yC h2).trans (mC ks l _ _ _ h))
      . simp at h
    . simp at h
   cases a with
   | ref r2 j2 s2 =>
     simp only[St.cI]at h;cases hb:Nat.beq r r2&&Nat.beq j j2 with
     | true =>
       rw[hb]at h;simp only[oT]at h;split at h
       . obtain⟨_,h⟩:=jT h;exact mC ks l _ _ _ h
       . simp at h
     | false => rw[hb]at h;exact tk _ h
   | cut r2 j2 s2 n=>simp only[St.cI]at h; exact tk _ h
   | nil =>
     simp only[St.cI]at h;split at h
     . split at h
       . rename_i st2 h2;exact(yC h2).trans (mC _ l _ _ _ h)
       . simp at h
     . simp at h
   | _ =>
     simp only[St.cI]at h;split at h
     . split at h
       . rename_i st2 h2;exact(yC h2).trans (mC ks l _ _ _ h)
       . simp at h
     . simp at h
theorem wh{r j s i m0:Nat}:∀(ks:List K) (l:List AV) (c:Nat) (st st':St),st.jl r j s i m0 c ks l=some st'->bT st st'
 | [],[],_,st,st',h=>by simp[St.jl]at h; subst h; exact bT.refl _
 | [],_::_,_,st,st',h=>by simp[St.jl]at h
 | _::_,[],_,st,st',h=>by simp[St.jl]at h
 | k::ks,a::l,c,st,st',h=>by
   simp only[St.jl]at h;cases hsf:st.mc r j s m0 c a with
   | true=>rw[hsf]at h; exact wh ks l _ _ _ h
   | false =>
   rw[hsf]at h;simp only[oF]at h;split at h
   . rename_i st1 x hx;have h1:bT st st1:=by
      split at hx
      . exact gm hx
      . split at hx
        . obtain⟨_,hx⟩:=jT hx;simp only[aen,aeT]at hx;obtain⟨rfl,_⟩:=hx;exact bT.refl _
        . simp at hx
     split at h
     . rename_i hc;obtain⟨_,h⟩:=jT h;split at h
       . refine h1.trans (bT.trans (bT.set hc ?_ ?_) (wh ks l _ _ _ h))
         . exact oR _
         . exact afl _
       . simp at h
     . simp at h
   . simp at h
theorem tJ{r j s i m0:Nat}{ks0:List K}{z0:Tl ks0}:∀(ks:List K) (l:List AV) (c:Nat) (st:St) (q:St×Tl ks),st.gn r j s i m0 ks0 z0 c ks l=some q->bT st q.1
 | [],[],_,st,q,h=>by simp[St.gn]at h; subst h; exact bT.refl _
 | [],_::_,_,st,q,h=>by simp[St.gn]at h
 | _::_,[],_,st,q,h=>by simp[St.gn]at h
 | k::ks,a::l,c,st,q,h=>by
   unfold St.gn at h;cases hsf:st.mc r j s m0 c a with
   | true =>
     rw[hsf]at h;simp only[oT]at h;split at h
     . split at h
       . rename_i x q' hx hrec;simp only[aen]at h;subst h;exact tJ ks l (c+1) st q' hrec
       . simp at h
     . simp at h
   | false =>
   rw[hsf]at h;simp only[oF]at h;split at h
   . rename_i st1 x hx;have h1:bT st st1:=by
      split at hx
      . exact gm hx
      . split at hx
        . obtain⟨_,hx⟩:=jT hx;simp only[aen,aeT]at hx;obtain⟨rfl,_⟩:=hx;exact bT.refl _
        . simp at hx
     split at h
     . rename_i hc;obtain⟨_,h⟩:=jT h;split at h
       . split at h
         . rename_i q' hrec;simp only[aen]at h;subst h;refine h1.trans (bT.trans (bT.set hc ?_ ?_) (tJ ks l _ _ q' hrec))
           . exact oR _
           . exact afl _
         . simp at h
       . simp at h
     . simp at h
   . simp at h
theorem IB{st st':St}{r j s i:Nat}{ks:List K}{l:List AV}(h:st.uV r j s i ks l=some st'):bT st st':=by
 unfold St.uV at h;split at h
 . rename_i s0 m e ks0 xs hc;split at h
   . rename_i q hq;split at h
     . rename_i y c1 hy hc1;obtain⟨hb,h⟩:=jT h;simp only[aen]at h;subst h;have hv:=tJ ks l 0 st q hq;have hlt:m<c1.m:=afr (aeJ hb);intro r' j' c hcc;obtain⟨c',k1,k2,k3,k4⟩:=hv r' j' c hcc;rw[cS];by_cases hh:r=r'/\j=j'
       . obtain⟨rfl,rfl⟩:=hh;rw[if_pos ⟨rfl,rfl⟩,k1];rw[k1]at hc1;cases hc1;rw[hc]at hcc;cases hcc;exact⟨_,rfl,k2,k3,fun _ e=>by simp only at e; omega⟩
       . rw[if_neg hh];exact⟨c',k1,k2,k3,k4⟩
     . simp at h
   . simp at h
 . simp at h
theorem JB{st st':St}{ks:List K}{l:List AV}{a:AV}(h:st.store ks l a=some st'):bT st st':=by
 unfold St.store at h;split at h
 . exact mC _ _ _ _ _ h
 . obtain⟨_,h⟩:=jT h;revert h;generalize (Nat.beq _ 0&&Nat.ble 8 l.length)=b;cases b with
   | true=>exact fun h=>IB h
   | false=>exact fun h=>wh _ _ _ _ _ h
 . simp at h
theorem yV{E:En}{v st1:St}{t:Nat}{a x:Operand}(h:(yS E v none (.store t a x)).run=some st1):bT v st1:=by
 unfold yS at h;obtain⟨ti,h1,h⟩:=Tr.af h;obtain⟨ta,h2,h⟩:=Tr.af h;obtain⟨av,h3,h⟩:=Tr.af h;obtain⟨tx,h4,h⟩:=Tr.af h;obtain⟨p,h5,h⟩:=Tr.af h;cases hb:p.2.all v.live&&Nat.beq p.2.length ti.ks.length with
 | false=>rw[hb]at h; simp[Tr.run]at h
 | true => rw[hb]at h;simp only[oT]at h;obtain⟨_,h⟩:=Tr.bB h;obtain⟨s1,h6,h⟩:=Tr.af h;simp only[Tr.run,aen]at h;subst h;exact JB h6
def oS(st st':St)(r:Nat):Nat->Nat->Bool
 | _,0=>true
 | j,n+1=>(match st.cell r j,st'.cell r j with | some c,some c'=>Nat.beq c'.s c.s&&Nat.beq c'.m c.m | _,_=>false)&&oS st st' r (j+1) n
theorem HB{st st':St}(hv:bT st st'){r:Nat}:∀(n j:Nat),oS st st' r j n=true->st'.de r j n=st.de r j n
 | 0,_,_=>rfl
 | n+1,j,h=>by
   simp only[oS,aeo]at h;obtain⟨h1,h2⟩:=h;split at h1
   . rename_i c c' hc hc';simp only[aeo]at h1;obtain⟨c2,e1,_,_,e4⟩:=hv r j c hc;rw[hc']at e1;cases e1;have e:=e4 (beq_eq h1.1) (beq_eq h1.2);subst e;have:st'.jr r j=st.jr r j:=by simp only[St.jr,hc,hc']
     simp only[St.de,this,HB hv n (j+1) h2]
   . simp at h1
section
variable{E:En}{base:St}{ops:List Oper}{ns:List Nat}
theorem zZ(hnf:∀ i,iK ns i=false)(hg:bw ops=false):∀(l:List Oper) (i:Nat) (bs:Bd) (v:St),(∀ o∈l,o.guard=none)->dM E.zq base bs->(∀ e∈bs,e.1<i)->(eU E true ops ns l i base bs).run=some v ->
 ∃ bs',dM E.zq base bs'/\v=aE base bs'/\(∀ e∈bs,e∈bs')/\∀ k o,l[k]? = some o->∃ d p mask bs0,o.dst=some d/\(i+k,d,p)∈bs'/\(∀ e∈bs0,e∈bs')/\(wX E (view base mask bs0) d o.op).run=some p
 | [],i,bs,v,_,hb,_,h=>by simp only[eU,Tr.run,aen,hg,jX,oF]at h;exact⟨bs,hb,h.symm,fun e he=>he,fun k o hk=>by simp at hk⟩
 | o::r,i,bs,v,hgd,hb,hi,h=>by
   have hgo:=hgd o (aeI ..);unfold eU at h;simp only[hgo]at h;split at h
   . rename_i d hd;have key:∀(t:Tr (TV×Option Rt)),t=w9 E (ns.getD i cy) o d base bs (true&& !iK ns i)->(t.bind fun p=>eU E true ops ns r (i+1) base ((i,d,p)::bs)).run=some v->∃ bs',dM E.zq base bs'/\v=aE base bs'/\(∀ e∈bs,e∈bs')/\∀ k o',(o::r)[k]? = some o'->∃ d p mask bs0,o'.dst=some d/\(i+k,d,p)∈bs'/\(∀ e∈bs0,e∈bs')/\(wX E (view base mask bs0) d o'.op).run=some p:=by
      intro t ht h;rw[Tr.run_bind]at h;cases hp:t.run with
      | none=>rw[hp]at h; simp at h
      | some p =>
        rw[hp]at h;simp only[oB]at h;rw[ht]at hp;unfold w9 at hp;cases ha:(nV o.op&& !(true&& !iK ns i))with
        | true=>rw[ha]at hp; simp[Tr.run]at hp
        | false =>
          rw[ha]at hp;simp only[oF]at hp;cases hc:E.dB d&&nw base d&&base.free d&& !j8 d bs with
          | false=>rw[hc]at hp; simp[Tr.run]at hp
          | true =>
            rw[hc]at hp;simp only[oT]at hp;have hb':dM E.zq base ((i,d,p)::bs):=dM.vJ (fun h=>h) hb hc fun e he=>Nat.ne_of_lt (hi e he)
            obtain⟨bs',g1,g2,g3,g4⟩:=zZ hnf hg r (i+1) ((i,d,p)::bs) v (fun o' ho'=>hgd o' (aeB _ ho')) hb' (fun e he=>by
             rcases aew.1 he with he | he
             . subst he; exact afl _
             . exact ahd (hi e he)) h
            refine⟨bs',g1,g2,fun e he=>g3 e (aeB _ he),fun k o' hk => ?_⟩;cases k with
            | zero => simp only[aeu,aen]at hk;subst hk;exact⟨d,p,_,bs,hd,g3 _ (aeI ..),fun e he=>g3 e (aeB _ he),hp⟩
            | succ k => obtain⟨d',p',m',b0,q1,q2,q3,q4⟩:=g4 k o' (by simpa using hk);exact⟨d',p',m',b0,q1,by rw[show i+(k+1)=i+1+k by omega]; exact q2,q3,q4⟩
     split at h
     . simp[hnf,Tr.run]at h
     . exact key _ rfl h
   . simp[hnf,Tr.run]at h
end
theorem RI{st st':St}(h:st'.rt=st.rt){r:Nat}:∀(n j:Nat),st'.de r j n=st.de r j n
 | 0,_=>rfl
 | n+1,j=>by
   have:st'.jr r j=st.jr r j:=by unfold St.jr St.cell; rw[h]
   simp only[St.de,this,RI h n (j+1)]
theorem tQ{base:St}{m:Nat}:∀ {bs:Bd} {t:Nat} {tv:TV},look (view base m bs).tm t=some tv->(∃ i p,(i,t,p)∈bs/\p.1=tv)∨look base.tm t=some tv
 | [],t,tv,h=> .inr h
 | (i0,t0,p0)::r,t,tv,h=>by
   unfold view at h;cases hb:m.testBit i0 with
   | false =>
     rw[hb]at h;rcases tQ (bs:=r) h with ⟨i,p,h1,h2⟩ | h1
     . exact .inl ⟨i,p,aeB _ h1,h2⟩
     . exact .inr h1
   | true =>
     rw[hb]at h;simp only[oT]at h;rw[bY]at h;split at h
     . rename_i he;subst he;simp only[aen]at h;exact .inl ⟨i0,p0,aeI ..,h⟩
     . rcases tQ (bs:=r) h with ⟨i,p,h1,h2⟩ | h1
       . exact .inl ⟨i,p,aeB _ h1,h2⟩
       . exact .inr h1
theorem Od{l:List Nat}(hl:0<l.length)(i:Nat):iK (l++[0]) i=false:=by
 cases hf:iK (l++[0]) i with
 | false=>rfl
 | true =>
   exfalso;unfold iK at hf;simp only[aeo,aeG,afy]at hf;rcases aeD i l.length with h | h
   . have:=hf.2 (l.length-i-1) (by rw[aep]; simp; omega);rw[show i+1+(l.length-i-1)=l.length by omega]at this;simp[List.getD]at this
   . have:=hf.1 0 (by omega);have e:(l++[0]).getD i 0=0:=by
      rw[List.getD];rcases aeD i (l++[0]).length with h2 | h2
      . have:i=l.length:=by rw[aep]at h2; simp at h2; omega
        subst this;simp
      . rw[aeE h2]; rfl
     rw[e]at this;simp at this
section
variable{tm:List (Nat×TV)}
theorem nX{st:St}:∀(ks:List K) (l:List AV),(st.aM tm).readAll ks l=st.readAll ks l
 | [],[]=>rfl
 | [],_::_=>rfl
 | _::_,[]=>rfl
 | k::ks,a::l=>by simp only[St.readAll,ct,nX ks l]
theorem sJ{fr:Bool}:∀(ks:List K) (l:List AV) (st:St) (q:St×Tl ks),iH st fr ks l=some q->iH (st.aM tm) fr ks l=some (q.1.aM tm,q.2)/\bT st q.1
 | [],[],st,q,h=>by cases h; exact⟨rfl,bT.refl _⟩
 | [],_::_,_,_,h=>by simp[iH]at h
 | k::ks,[],_,_,h=>by cases k <;> simp[iH]at h
 | .sl e ks'::ks,a::l,st,q,h=>by
   unfold iH at h ⊢;split at h
   . rename_i st1 x hx;split at h
     . rename_i y hy;cases h;obtain⟨i1,i2⟩:=sJ ks l st1 y hy;have hx2:(bif fr then (st.aM tm).cz (.sl e ks') a else bif a.bE||xk ((st.aM tm).bo (.sl e ks') a)then (match (st.aM tm).bo (.sl e ks') a with | some x=>some (st.aM tm,x) | none=>none)else none)=some (st1.aM tm,x)/\bT st st1:=by
        cases fr with
        | true => have hx:st.cz (.sl e ks') a=some (st1,x):=hx;exact⟨by show(st.aM tm).cz (.sl e ks') a=_; rw[eM,hx]; rfl,gm hx⟩
        | false =>
          simp only[oF,ct]at hx ⊢;cases hb:a.bE||xk (st.bo (.sl e ks') a)with
          | false=>rw[hb]at hx; simp at hx
          | true =>
            rw[hb]at hx;simp only[oT]at hx ⊢;cases hr:st.bo (.sl e ks') a with
            | none=>rw[hr]at hx; simp at hx
            | some z=>rw[hr]at hx; cases hx; exact⟨rfl,bT.refl _⟩
       refine⟨?_,hx2.2.trans i2⟩;split
       . rename_i s2 x2 h2;have e:=h2.symm.trans hx2.1;cases e;rw[i1]
       . rename_i h2;have e:=h2.symm.trans hx2.1;cases e
     . simp at h
   . simp at h
 | .int k::ks,a::l,st,q,h=>by
   unfold iH at h ⊢;rw[ct];split at h
   . rename_i x y hx hf hy;cases h;obtain⟨i1,i2⟩:=sJ ks l st y hy;rw[hx,hf,i1];exact⟨rfl,i2⟩
   . simp at h
 | .bool::ks,a::l,st,q,h=>by
   unfold iH at h ⊢;rw[ct];split at h
   . rename_i x y hx hf hy;cases h;obtain⟨i1,i2⟩:=sJ ks l st y hy;rw[hx,hf,i1];exact⟨rfl,i2⟩
   . simp at h
 | .str::ks,a::l,st,q,h=>by
   unfold iH at h ⊢;rw[ct];split at h
   . rename_i x y hx hf hy;cases h;obtain⟨i1,i2⟩:=sJ ks l st y hy;rw[hx,hf,i1];exact⟨rfl,i2⟩
   . simp at h
theorem Gj{st:St}{e:TypeId}{ks:List K}{y:TV}{q:St×List (Tl ks)}(h:st.news e ks y=some q):(st.aM tm).news e ks y=some (q.1.aM tm,q.2)/\bT st q.1:=by
 have src:∀ b:AV,(match st.source (.sl e ks) ks b with | some (st',z)=>some (st',aQ z) | none=>none)=some q->(match (st.aM tm).source (.sl e ks) ks b with | some (st',z)=>some (st',aQ z) | none=>none)=some (q.1.aM tm,q.2)/\bT st q.1:=fun b h=>by
  unfold St.source at h ⊢;cases hf:flat ks with
  | true =>
    rw[hf]at h;simp only[oT,ct]at h ⊢;cases hr:st.bo (.sl e ks) b with
    | none=>rw[hr]at h; simp at h
    | some z=>rw[hr]at h; cases h; exact⟨rfl,bT.refl _⟩
  | false =>
    rw[hf]at h;simp only[oF,eM]at h ⊢;cases hr:st.cz (.sl e ks) b with
    | none=>rw[hr]at h; simp at h
    | some z=>rw[hr]at h; cases h; exact⟨rfl,gm hr⟩
 cases y with
 | v av =>
   cases av with
   | d k s =>
     cases k with
     | str =>
       simp only[St.news]at h ⊢;split at h
       . rename_i z hz;cases h;exact⟨rfl,bT.refl _⟩
       . simp at h
     | _=>exact src _ h
   | brow r n =>
     simp only[St.news]at h ⊢;cases hb:Nat.beq n 1 with
     | false=>rw[hb]at h; simp at h
     | true =>
       rw[hb]at h;simp only[oT]at h ⊢;show(match look st.rt r with | some ⟨true,l⟩=>(match iH (st.aM tm) true ks (l.map tj)with | some (st',x)=>some (st',[x]) | none=>none) | _=>none)=_/\_;split at h
       . rename_i l hl;rw[hl];split at h
         . rename_i st1 x hx;cases h;obtain⟨i1,i2⟩:=sJ (tm:=tm) ks _ st _ hx;dsimp only;rw[i1];exact⟨rfl,i2⟩
         . simp at h
       . simp at h
   | _=>exact src _ h
 | _=>simp[St.news]at h
theorem ug{st:St}{d:Nat}{tv:TV}{R:Rt}(h:st.free d=true):bT st (st.aT d (tv,some R)):=fun r j c hc=>by
 have hne:d≠r:=fun e=>by
  subst e;unfold St.free at h;unfold St.cell at hc;cases hl:look st.rt d with
  | none=>rw[hl]at hc; simp at hc
  | some R=>rw[hl]at h; simp at h
 refine⟨c,?_,oR _,oR _,fun _ _=>rfl⟩;show(match look ((d,R)::st.rt) r with | some R=>R.cells[j]? | none=>none)=_;rw[aK,if_neg hne];exact hc
structure WTm (E:En) (v st1:St) (d:Nat) (tv:TV) (F:St->Tr St):Prop where
 eq:st1=⟨(d,tv)::v.tm,st1.rt⟩
 may:¬ tv.gJ
 ver:bT v st1
 all:∀ tm,(F (v.aM tm)).run=some ⟨(d,tv)::tm,st1.rt⟩
theorem Iu{E:En}{v st1:St}{d e:Nat}{te:TI}{x y:TV}(h:(v.append d e te x y).run=some st1):∃ tv,WTm E v st1 d tv fun s=>s.append d e te x y:=by
 unfold St.append at h;obtain⟨a,h1,h⟩:=Tr.af h;obtain⟨p,h2,h⟩:=Tr.af h;obtain⟨q,h3,h⟩:=Tr.af h;cases hb:q.1.free d&&Nat.blt 0 te.bytes with
 | false=>rw[hb]at h; simp[Tr.run]at h
 | true =>
   rw[hb]at h;simp only[oT]at h;obtain⟨hn,h⟩:=Tr.bB h;simp only[Tr.run,aen]at h;subst h;have e2:∀ tm,(v.aM tm).cz (.sl e te.ks) a=some (p.1.aM tm,p.2):=fun tm=>by rw[eM,h2]; rfl
   have e3:∀ tm,(p.1.aM tm).news e te.ks y=some (q.1.aM tm,q.2):=fun tm=>(Gj h3).1
   have hp:p.1=p.1.aM v.tm:=by have:=e2 v.tm;rw[show v.aM v.tm=v from rfl,h2]at this;exact aeU (fun o=>(o.getD (v,[]):St×T (.sl e te.ks)).1) this
   have hq:q.1.tm=v.tm:=by have:=e3 v.tm;rw[<- hp,h3]at this;exact aeU (fun o=>(o.getD (v,[]):St×List (Tl te.ks)).1.tm) this
   have hfr:q.1.free d=true:=by simp only[aeo]at hb; exact hb.1
   refine⟨.v (.ref d 0 0),by rw[<- hq]; rfl,fun h=>h,((gm h2).trans (Gj (tm:=v.tm) h3).2).trans (ug hfr),fun tm => ?_⟩;have e4:((q.1.aM tm).free d&&Nat.blt 0 te.bytes)=true:=hb;simp only[St.append,h1,Tr.bQ,e2,e3,e4,oT,hn,Tr.need,Tr.run];rfl
theorem FL{E:En}{v st1:St}{d e:Nat}{te:TI}{x y:TV}(h:(v.nj d e te x y).run=some st1):∃ tv,WTm E v st1 d tv fun s=>s.nj d e te x y:=by
 unfold St.nj at h;obtain⟨p,h2,h⟩:=Tr.af h;obtain⟨ys,h3,h⟩:=Tr.af h;cases hb:p.1.free d&&Nat.blt 0 te.bytes with
 | false=>rw[hb]at h; simp[Tr.run]at h
 | true =>
   rw[hb]at h;simp only[oT]at h;obtain⟨hn,h⟩:=Tr.bB h;simp only[Tr.run,aen]at h;subst h;have e2v:(∀ tm,(v.aM tm).Cw e te.ks x=some (p.1.aM tm,p.2))/\bT v p.1:=by
    unfold St.Cw at h2 ⊢;cases x with
    | bc r j s m e' ks' x' =>
      simp only[ep]at h2 ⊢;split at h2
      . rename_i c hc;cases hb2:Nat.beq c.s s&&Nat.beq c.m m with
        | false=>rw[hb2]at h2; simp at h2
        | true =>
          rw[hb2]at h2;simp only[oT]at h2;split at h2
          . rename_i z hz;cases h2;refine⟨fun tm => ?_,bT.set hc (agf _) (afl _)⟩;simp only[hc,hb2,oT,hz,dX]
          . simp at h2
      . simp at h2
    | v a => have h2:v.cz (.sl e te.ks) a=some p:=h2;exact⟨fun tm=>by show(v.aM tm).cz (.sl e te.ks) a=_; rw[eM,h2]; rfl,gm h2⟩
    | _=>simp at h2
   have e3:∀ tm,(p.1.aM tm).C7 e te.ks y=some ys:=fun tm=>by
    rw[<- h3];unfold St.C7;cases y with
    | v a =>
      cases a with
      | brow r n=>simp only[nX]; rfl
      | _=>rfl
    | _=>rfl
   have hp:p.1.tm=v.tm:=by have:=e2v.1 v.tm;rw[show v.aM v.tm=v from rfl,h2]at this;exact aeU (fun o=>(o.getD (v,[]):St×T (.sl e te.ks)).1.tm) this
   have hfr:p.1.free d=true:=by simp only[aeo]at hb; exact hb.1
   refine⟨.bc d 0 0 0 e te.ks (cat te.ks (aQ p.2) ys),by rw[<- hp]; rfl,fun h=>h,e2v.2.trans (ug hfr),fun tm => ?_⟩;have e4:((p.1.aM tm).free d&&Nat.blt 0 te.bytes)=true:=hb;simp only[St.nj,Tr.bQ,e2v.1,e3,e4,oT,hn,Tr.need,Tr.run];rfl
theorem FP{E:En}{v st1:St}{d e:Nat}{te:TI}{n:Int}(h:(v.mO d e te n).run=some st1):∃ tv,WTm E v st1 d tv fun s=>s.mO d e te n:=by
 unfold St.mO at h;cases hb:v.free d&&Nat.blt 0 te.bytes with
 | false=>rw[hb]at h; simp[Tr.run]at h
 | true =>
   rw[hb]at h;simp only[oT]at h;obtain⟨hn,h⟩:=Tr.bB h;simp only[Tr.run,aen]at h;subst h;have hfr:v.free d=true:=by simp only[aeo]at hb; exact hb.1
   refine⟨.v (.ref d 0 0),rfl,fun h=>h,ug hfr,fun tm => ?_⟩;have e4:((v.aM tm).free d&&Nat.blt 0 te.bytes)=true:=hb;simp only[St.mO,e4,oT,hn,Tr.need,Tr.run];rfl
theorem zb{E:En}{v st1:St}{d:Nat}{c:Call}{x y:Operand}(hc:c.callee= .builtin .append)(ha:c.args.toList=[x,y])(h:(yS E v (some d) (.call c)).run=some st1) :
 ∃ tv,st1=⟨(d,tv)::v.tm,st1.rt⟩/\¬ tv.gJ/\bT v st1/\∀ tm,(v.aM tm).get x=v.get x->(v.aM tm).get y=v.get y->(yS E (v.aM tm) (some d) (.call c)).run=some ⟨(d,tv)::tm,st1.rt⟩:=by
 unfold yS at h ⊢;simp only[hc,ha]at h ⊢;split at h
 . rename_i d' t t2 ts hd hts;cases hd;obtain⟨ti,h1,h⟩:=Tr.af h;obtain⟨te,h2,h⟩:=Tr.af h;obtain⟨tx,h3,h⟩:=Tr.af h;obtain⟨ty,h4,h⟩:=Tr.af h;have hsh:∀ tm,(v.aM tm).J1 te.ks tx ty=v.J1 te.ks tx ty:=fun tm=>rfl
   cases hb:E.str t2||(E.sl t2).isSome with
   | false =>
     rw[hb]at h;simp only[oF]at h;cases hb2:E.i64 t2&&eW tx with
     | false=>rw[hb2]at h; simp[Tr.run]at h
     | true => rw[hb2]at h;simp only[oT]at h;obtain⟨p,h5,h⟩:=Tr.af h;obtain⟨tv,k⟩:=FP (E:=E) h;exact⟨tv,k.eq,k.may,k.ver,fun tm e1 e2=>by simp only[h1,h2,e1,e2,h3,h4,Tr.bQ,hb,hb2,oF,oT,h5]; exact k.all tm⟩
   | true =>
     rw[hb]at h;simp only[oT]at h;cases hs:v.J1 te.ks tx ty with
     | true => rw[hs]at h;obtain⟨tv,k⟩:=FL (E:=E) h;exact⟨tv,k.eq,k.may,k.ver,fun tm e1 e2=>by simp only[h1,h2,e1,e2,h3,h4,Tr.bQ,hb,oT,hsh,hs]; exact k.all tm⟩
     | false => rw[hs]at h;obtain⟨tv,k⟩:=Iu (E:=E) h;exact⟨tv,k.eq,k.may,k.ver,fun tm e1 e2=>by simp only[h1,h2,e1,e2,h3,h4,Tr.bQ,hb,oT,hsh,hs]; exact k.all tm⟩
 . simp[Tr.run]at h
end
def me(l:List Oper)(J:List Nat)(nd:Nat)(t:Nat):Bool:=J.all fun j=>nd.testBit j||(match kO l j with | some d=> !Nat.beq d t | none=>true)
def W5(l:List Oper)(J:List Nat):Operand->Bool
 | .tmp t=>me l J 0 t
 | _=>true
def EB:AV->TV->Bool
 | .ptr r j,.v (.ptr r' j')=>Nat.beq r r'&&Nat.beq j j'
 | .ref r j s,.v (.ref r' j' s')=>Nat.beq r r'&&(Nat.beq j j'&&Nat.beq s s')
 | _,_=>false
theorem I8{b:AV}{tv:TV}(h:EB b tv=true):tv= .v b:=by
 unfold EB at h;split at h
 . simp only[aeo]at h;rw[beq_eq h.1,beq_eq h.2]
 . simp only[aeo]at h;rw[beq_eq h.1,beq_eq h.2.1,beq_eq h.2.2]
 . simp at h
def Mu(tv:TV):Tr (TV×Option Rt)->Bool
 | .ret (.v b,none)=>EB b tv
 | _=>false
def T4(l:List Oper)(i j d:Nat):Bool:=(List.range i).all fun k=>Nat.beq k j||(match kO l k with | some d'=> !Nat.beq d' d | none=>true)
theorem Mt(E:En)(st:St)(d:Nat)(t:TypeId)(x:Operand):wX E st d (.load t x)=Tr.bQ (E.ti t) fun ti=>Tr.bQ (st.get x) fun tv=>Tr.bQ tv.Eg fun a=>Tr.bQ (st.load ti.ks.length a) fun l=>Tr.bQ (gG ti.agg l) fun tv=> .ret (tv,none):=rfl
def MK(E:En)(l:List Oper)(ns J:List Nat)(v st1:St)(j:Nat)(op:Op):Bool:=match op with
 | .load t (.tmp B)=>(match look v.tm B,E.ti t with
   | some (.v (.ptr r j0)),some ti=>me l J (ns.getD j 0) B&&oS v st1 r j0 ti.ks.length
   | _,_=>false)
 | _=>false
def Bm(E:En)(l:List Oper)(ns:List Nat)(i:Nat)(J:List Nat)(st v st1:St)(j:Nat):Bool:=match l[j]? with
 | some o=>(match o.dst with
   | some d=>nw st d&&st1.free d&&T4 l i j d&&(match look v.tm d with
     | some tv=>MK E l ns J v st1 j o.op||Mu tv (wX E ⟨v.tm.filter (fun p=>me l J (ns.getD j 0) p.1),st1.rt⟩ d o.op)
     | none=>false)
   | none=>false)
 | none=>false
def Kl(v:St)(l:List Oper)(J:List Nat):Bool:=J.all fun j=>match kO l j with | some d=>v.free d | none=>true
def GV(l:List Oper)(J:List Nat)(v:St)(op:Op)(dst:Option Nat):Bool:=match op,dst with
 | .store t a x,none=>W5 l J a&&W5 l J x
 | .call c,some d=>(match c.callee,c.args.toList with
   | .builtin .append,[x,y]=>W5 l J x&&(W5 l J y&&(nw v d&&me l J 0 d))
   | _,_=>false)
 | _,_=>false
def l8(E:En)(ops:Array Oper)(i:Nat)(J:List Nat)(st:St):Tr St :=
 bif iO ops.toList 0&&(!bw ops.toList&&(!bw (ops.toList.take i)&&(Nat.blt i ops.toList.length&&((List.range i).all (fun j=>gW J j||((bq ops.toList []).getD i 0).testBit j)&&(List.range (ops.toList.length-i-1)).all (fun k=>(List.range (i+1)).all fun j=>((bq ops.toList []).getD (i+1+k) 0).testBit j)))))then
  (eU E true (ops.toList.take i) (bq ops.toList []++[0]) (ops.toList.take i) 0 st []).bind fun v=>match ops.toList[i]? with
    | some o=>bif uQ E o.dst&&(GV ops.toList J v o.op o.dst&&Kl v ops.toList J)then
       (yS E v o.dst o.op).bind fun st1=>bif J.all (Bm E ops.toList (bq ops.toList []) i J st v st1)then eU E true ops.toList (bq ops.toList []) (ops.toList.drop (i+1)) (i+1) st1 []else .fail
       else .fail
    | none=> .fail
 else .fail
def opsOf(c:Code):Array Oper:=match c with | .region _ ops _=>ops | _ => #[]
theorem rA{E:En}{v st1:St}{t:Nat}{a x:Operand}{tm:List (Nat×TV)}(h:(yS E v none (.store t a x)).run=some st1)(ha:(v.aM tm).get a=v.get a)(hx:(v.aM tm).get x=v.get x):(yS E (v.aM tm) none (.store t a x)).run=some (st1.aM tm):=by
 unfold yS at h ⊢;obtain⟨ti,h1,h⟩:=Tr.af h;obtain⟨ta,h2,h⟩:=Tr.af h;obtain⟨av,h3,h⟩:=Tr.af h;obtain⟨tx,h4,h⟩:=Tr.af h;obtain⟨p,h5,h⟩:=Tr.af h;have hl:(v.aM tm).live=v.live:=funext fun a=>nY a
 simp only[ha,hx,h1,h2,h3,h4,h5,Tr.bQ,hl];cases hb:p.2.all v.live&&Nat.beq p.2.length ti.ks.length with
 | false=>rw[hb]at h; simp[Tr.run]at h
 | true => rw[hb]at h;simp only[oT]at h ⊢;obtain⟨hn,h⟩:=Tr.bB h;obtain⟨s1,h6,h⟩:=Tr.af h;simp only[Tr.run,aen]at h;subst h;have hn':(v.aM tm).GW av p.2=true:=hn;rw[AM,h6,hn'];rfl
theorem FZ{E:En}{l:List Oper}{J:List Nat}{v st1:St}{op:Op}{dst:Option Nat}(hw:GV l J v op dst=true)(h:(yS E v dst op).run=some st1) :
 ∃ pre:List (Nat×TV),st1=⟨pre++v.tm,st1.rt⟩/\(∀ t tv,look pre t=some tv->¬ tv.gJ/\look v.tm t=none/\me l J 0 t=true)/\bT v st1 /\
  ∀ tm,(∀ x,W5 l J x=true->(v.aM tm).get x=v.get x)->(yS E (v.aM tm) dst op).run=some ⟨pre++tm,st1.rt⟩:=by
 unfold GV at hw;split at hw
 . simp only[aeo]at hw;refine⟨[],?_,fun t tv ht=>by simp[look]at ht,yV h,fun tm hx=>rA h (hx _ hw.1) (hx _ hw.2)⟩;have:=rA (tm:=v.tm) h rfl rfl;rw[show v.aM v.tm=v from rfl,h]at this;exact ae9 this
 . split at hw
   . rename_i hc ha;simp only[aeo]at hw;obtain⟨h1,h2,h3,h4⟩:=hw;obtain⟨tv,k1,k2,k3,k4⟩:=zb hc ha h;refine⟨[(_,tv)],k1,fun t tv' ht => ?_,k3,fun tm hx=>k4 tm (hx _ h1) (hx _ h2)⟩;rw[aK]at ht;split at ht
     . rename_i e;cases ht;subst e;refine⟨k2,?_,h4⟩;unfold nw at h3;split at h3
       . assumption
       . simp at h3
     . simp[look]at ht
   . simp at hw
 . simp at hw
theorem rC:∀(l l':List (Nat×TV)) (t:Nat),look (l++l') t=match look l t with | some x=>some x | none=>look l' t
 | [],_,_=>rfl
 | (m,x)::r,l',t=>by
   rw[List.cons_append,aK,aK];split
   . rfl
   . exact rC r l' t
theorem Ca{base:St}{S S':Nat}:∀ {bs:Bd},(∀ i t p,(i,t,p)∈bs->p.2=none∨(S.testBit i=true/\S'.testBit i=true))->(view base S bs).rt=(view base S' bs).rt
 | [],_=>rfl
 | (i,t,p)::r,h=>by
   have ih:=Ca (base:=base) (S:=S) (S':=S') (bs:=r) fun i t p hm=>h i t p (aeB _ hm)
   unfold view;rcases h i t p (aeI ..)with hp | ⟨h1,h2⟩
   . cases S.testBit i <;> cases S'.testBit i <;> simp only[oT,oF] <;> (try unfold St.aT) <;> (try rw[hp]) <;> exact ih
   . rw[h1,h2];simp only[oT];unfold St.aT;cases p.2 <;> simp only[ih]
theorem x9{base:St}{m:Nat}:∀ {bs:Bd} {t:Nat} {R:Rt},look (view base m bs).rt t=some R->(∃ i p,(i,t,p)∈bs/\p.2=some R)∨look base.rt t=some R
 | [],t,R,h=> .inr h
 | (i,t',p)::r,t,R,h=>by
   unfold view at h;have rest:look (view base m r).rt t=some R->(∃ i' p',(i',t,p')∈(i,t',p)::r/\p'.2=some R)∨look base.rt t=some R:=fun h=>by
    rcases x9 h with ⟨i',p',h1,h2⟩ | h1
    . exact .inl ⟨i',p',aeB _ h1,h2⟩
    . exact .inr h1
   cases hm:m.testBit i with
   | false=>rw[hm]at h; exact rest h
   | true =>
     rw[hm]at h;simp only[oT]at h;unfold St.aT at h;cases hp:p.2 with
     | none=>rw[hp]at h; exact rest h
     | some R' =>
       rw[hp]at h;simp only[aK]at h;split at h
       . rename_i e;subst e;cases h;exact .inl ⟨i,p,aeI ..,hp⟩
       . exact rest h
theorem xy{st:St}(h:ch st)(t:Nat):st.tv t=look st.tm t:=by
 unfold St.tv;split
 . rename_i q want y gg l hq;exact absurd trivial (h t _ hq)
 . rfl
theorem nn(f:Nat->Bool):∀(l:List (Nat×TV)) (t:Nat),look (l.filter fun p=>f p.1) t=if f t then look l t else none
 | [],t=>by simp[look]
 | (m,x)::r,t=>by
   rw[afh];have ih:=nn f r t;cases hm:f m with
   | true =>
     simp only[if_true];rw[aK,aK];by_cases e:m=t
     . subst e; simp[hm]
     . rw[if_neg e,if_neg e,ih]
   | false =>
     simp only[ae5,afE];rw[ih,aK];by_cases e:m=t
     . subst e; simp[hm]
     . rw[if_neg e]
theorem mr:∀ {l:List Nat} {n:Nat},gW l n=true->n∈l
 | [],n,h=>by simp[gW]at h
 | x::r,n,h=>by
   simp only[gW,afz]at h;rcases h with h | h
   . rw[beq_eq h]; exact aeI ..
   . exact aeB _ (mr h)
theorem vD{l:List Oper}(h:bw l=false){i:Nat}{o:Oper}(ho:l[i]? = some o):o.guard=none:=by
 unfold bw at h;rw[List.any_eq_false]at h;have:=h o (aet ho);cases hg:o.guard with
 | none=>rfl
 | some g=>rw[hg]at this; simp at this
section
variable{P:Program}{E:En}
theorem HX{ops ops':Array Oper}{Q:Exit->Act->World->Prop}{j:Nat}{o:Oper}(h:ops[j]? = some o)(h':ops'[j]? = some o)(hg:o.guard=none){K:Act->World->Prop}{a:Act}{w:World}(hw:wpOp P ops' Q j K a w):wpOp P ops Q j K a w:=by
 unfold wpOp at hw ⊢;have e:∀(ops:Array Oper),Region.wanted o (yielded ops a.tmps)=true:=fun ops=>by simp[Region.wanted,hg]
 simp only[h,h',e]at hw ⊢;exact hw
theorem Cc(hT:cf P E)(hga:cZ P E){ops:Array Oper}{i:Nat}{J:List Nat}{cx:Cx P}{a:Act}{w:World}{st st':St}(h:Good cx E st a w)(hrun:(l8 E ops i J st).run=some st'):wpAny P .any ops (QO cx E (.nrm st')) ops.size (Array.replicate ops.size false) a { w with drawn:=w.drawn+1 }:=by
 have hW:qI P E:=tA hT hga;unfold l8 at hrun;generalize hc:(iO ops.toList 0&&(!bw ops.toList&&(!bw (ops.toList.take i)&&(Nat.blt i ops.toList.length&&((List.range i).all (fun j=>gW J j||((bq ops.toList []).getD i 0).testBit j)&&(List.range (ops.toList.length-i-1)).all (fun k=>(List.range (i+1)).all fun j=>((bq ops.toList []).getD (i+1+k) 0).testBit j))))))=c at hrun;cases c with
 | false=>simp[Tr.run]at hrun
 | true =>
 simp only[oT]at hrun;simp only[aeo,ae8,aeG,afy,afz]at hc;obtain⟨hed,hng,hng',hilt,hpre,hpost⟩:=hc;have hi:i<ops.size:=by have:=afr (aeJ hilt);simpa using this
 rw[Tr.run_bind]at hrun;cases hv:(eU E true (ops.toList.take i) (bq ops.toList []++[0]) (ops.toList.take i) 0 st []).run with
 | none=>rw[hv]at hrun; simp at hrun
 | some v =>
 rw[hv]at hrun;simp only[oB]at hrun;split at hrun;rotate_left
 . simp[Tr.run]at hrun
 rename_i o ho;generalize hc:(uQ E o.dst&&(GV ops.toList J v o.op o.dst&&Kl v ops.toList J))=c at hrun;cases c with
 | false=>simp[Tr.run]at hrun
 | true =>
 simp only[oT]at hrun;simp only[aeo]at hc;obtain⟨hdo,hlw,hnr⟩:=hc;rw[Tr.run_bind]at hrun;cases hst1:(yS E v o.dst o.op).run with
 | none=>rw[hst1]at hrun; simp at hrun
 | some st1 =>
 rw[hst1]at hrun;simp only[oB]at hrun;generalize hc:J.all (Bm E ops.toList (bq ops.toList []) i J st v st1)=c at hrun;cases c with
 | false=>simp[Tr.run]at hrun
 | true =>
 simp only[oT]at hrun;have hlate1:=aeG.1 hc;obtain⟨pre,hst1',hpre',hver,htm⟩:=FZ hlw hst1;obtain⟨hn,hsz,Z,g,hr⟩:=h;have hlen:(bq ops.toList []).length=ops.size:=by rw[o5]; simp
 have hopst:(ops.toList.take i).toArray.toList=ops.toList.take i:=by simp
 have hsize':(ops.toList.take i).toArray.size=i:=by simp; omega
 have hops':∀ j,j<i->(ops.toList.take i).toArray[j]? = ops[j]? := fun j hj=>by rw[<- aer,hopst,aft,if_pos hj,aer]
 rw[aer]at ho;have hseg:=kT (P:=P) (E:=E) (ops:=(ops.toList.take i).toArray) (ns:=bq ops.toList []++[0]) (i0:=0) hT hga (dr:=true) hn (ops.toList.take i) 0 (by simp) (aeC _) (oR _) [] v ⟨trivial,hn.MB,fun e he=>by simp at he,fun _ _ _ _ he=>by simp at he⟩ (by rw[hopst]; exact hv);obtain⟨i1,bsF,k1,k2,k3,k4,k5,k6,k7,k8⟩:=hseg;replace k5:=k5 (by rw[hopst]; exact hng');have hk8:i1=i/\v=aE st bsF:=by
  rcases k8 with ⟨e1,e2⟩ | ⟨o',st'',e1,_,e3,_⟩
  . rw[hopst,hng']at e2;exact⟨e1.trans hsize',e2⟩
  . exfalso;have hi1:i1<i:=by
     have:=(aeP.1 e1).1;rw[hsize']at this;exact this
    have hf:=e3 rfl;unfold iK at hf;simp only[aeo,aeG,afy]at hf;have:=hf.2 (ops.size-i1-1) (by rw[aep,hlen]; simp; omega);rw[show i1+1+(ops.size-i1-1)=(bq ops.toList []).length by rw[hlen]; omega]at this;simp[List.getD]at this
 obtain⟨e1,rfl⟩:=hk8;subst e1;have hidx:∀ e∈bsF,e.1<i1:=fun e he=>(k4 e he).2.1
 have hidxD:∀ e∈bsF,kO ops.toList e.1=some e.2.1:=fun e he=>by obtain⟨_,h2,o',h3,h4⟩:=k4 e he;rw[hops' _ h2]at h3;unfold kO;rw[aer,h3];exact h4
 have hroot:∀ i' t p,(i',t,p)∈bsF->gW J i'=true->p.2=none:=fun i' t' p hp hJ=>by
  cases hp2:p.2 with
  | none=>rfl
  | some R =>
    exfalso;have:=aeG.1 hnr i' (mr hJ);rw[hidxD _ hp]at this;simp only[St.free]at this;have hl:look (aE st bsF).rt t'=some R:=by rw[iy st (bitsOf bsF) bsF (fun i t p h=>dV h),hY _ k2];exact .inl ⟨i',p,hp,dV hp,hp2⟩
    rw[hl]at this;simp at this
 have hNV:∀ S,ch (view st S bsF):=fun S t tv ht=>by
  rw[ed _ k2]at ht;rcases ht with ⟨i',p,h1,_,rfl⟩ | h1
  . exact k5 i' t p h1
  . exact hn t tv h1
 have hNA:ch (aE st bsF):=fun t tv ht=>by
  rw[bO k2]at ht;rcases ht with ⟨i',p,h1,rfl⟩ | h1
  . exact k5 i' t p h1
  . exact hn t tv h1
 have hvw:∀ S,(∀ j,j<i1->gW J j=false->S.testBit j=true)->view st S bsF=(aE st bsF).aM (view st S bsF).tm:=fun S hS=>by
  unfold St.aM;have:(aE st bsF).rt=(view st S bsF).rt:=by
   rw[iy st (bitsOf bsF) bsF (fun i t p h=>dV h)];refine Ca fun i t p h => ?_
   cases hJ:gW J i with
   | true=>exact .inl (hroot i t p h hJ)
   | false=>exact .inr ⟨dV h,hS i (hidx _ h) hJ⟩
  rw[this]
 have hlook:∀ S nd t,(∀ j,j<i1->gW J j=false->S.testBit j=true)->(∀ b,nd.testBit b=true->b<i1->S.testBit b=true)->me ops.toList J nd t=true->look (view st S bsF).tm t=look (aE st bsF).tm t:=fun S nd t hS hnd hk=>by
  apply Option.ext;intro tv;show look _ t=some tv↔look _ t=some tv;rw[ed _ k2,bO k2];constructor
  . rintro(⟨i',p,h1,_,h3⟩ | h1)
    . exact .inl ⟨i',p,h1,h3⟩
    . exact .inr h1
  . rintro(⟨i',p,h1,h3⟩ | h1)
    . refine .inl ⟨i',p,h1,?_,h3⟩;have hi':=hidx _ h1;cases hJ:gW J i' with
      | false=>exact hS i' hi' hJ
      | true =>
        have:=aeG.1 hk i' (mr hJ);rw[hidxD _ h1]at this;simp only[afz,ae8]at this;rcases this with h | h
        . exact hnd i' h hi'
        . exact absurd rfl (afx h)
    . exact .inr h1
 have hget:∀ S (x:Operand),(∀ j,j<i1->gW J j=false->S.testBit j=true)->W5 ops.toList J x=true->((aE st bsF).aM (view st S bsF).tm).get x=(aE st bsF).get x:=fun S x hS hk=>by
  rw[<- hvw S hS];cases x with
  | tmp t => show(view st S bsF).tv t=(aE st bsF).tv t;rw[xy (hNV S),xy hNA];exact hlook S 0 t hS (fun b hb=>by simp at hb) hk
  | _=>rfl
 have hnm1:∀ S,ch ⟨pre++(view st S bsF).tm,st1.rt⟩:=fun S t tv ht=>by
  have ht:look (pre++(view st S bsF).tm) t=some tv:=ht;rw[rC]at ht;split at ht
  . rename_i x hx;cases ht;exact(hpre' t _ hx).1
  . exact hNV S t tv ht
 have hshift:∀ x,(bq ops.toList []++[0]).getD x cy=(bq ops.toList []++[0]).getD x cy:=fun _=>rfl
 refine Kw (P:=P) (E:=E) (cx:=cx) (Q:=QO cx E (.nrm st')) (i:=i1) (J:=gW J) (base:=st) (bsF:=bsF) (G:=fun S=>⟨pre++(view st S bsF).tm,st1.rt⟩) hed hi ?_ ?_ ?_ ?_ ?_ ?_ ops.size (Array.replicate ops.size false) 0 false a _ Z g (by simp) (fun k hk => ?_) (fun k _=>afR k) ?_ (fun k hk => ?_) (fun hh=>by simp at hh) ?_ hsz
 ·
  intro j hj cx S a w Z g next Q hS hSj hr hsz hnext;have ho':∃ o',ops[j]? = some o':=⟨ops[j]'(by omega),by simp⟩;obtain⟨o',ho'⟩:=ho';refine HX ho' (by rw[hops' j hj]; exact ho') (vD hng (by rw[aer]; exact ho')) ?_;refine k7 j (aeC _) hj cx S a w Z g next Q (fun k h1 h2 h3=>hS k h1 h2 ?_) hSj hr hsz hnext;have hjl:j<(bq ops.toList []).length:=by rw[hlen]; omega
  rw[List.getD,ae4 hjl]at h3;exact h3
 . intro j hj hJ;rcases hpre j hj with h | h
   . rw[hJ]at h; simp at h
   . exact h
 . intro k hik hk j hj;have:=hpost (k-i1-1) (by simp; omega) j (by omega);rw[show i1+1+(k-i1-1)=k by omega]at this;exact this
 ·
  intro S a w Z g next hS hhi hr hsz hnext;have hSt:(yS E (view st S bsF) o.dst o.op).run=some ⟨pre++(view st S bsF).tm,st1.rt⟩:=by
   have:=htm (view st S bsF).tm fun x hx=>hget S x hS hx
   rw[<- hvw S hS]at this;exact this
  refine iR ho (vD hng (by rw[aer]; exact ho)) ?_;obtain⟨_,hw'⟩:=hW cx Z g _ a w o _ hr (hNV S) hsz hdo hSt;exact hw' _ _ hnext
 ·
  intro S j a w Z g next hS hhi hj hJ hSj hnd hr hsz hnext;have hl:=hlate1 j (mr hJ);unfold Bm at hl;split at hl;rotate_left
  . simp at hl
  rename_i o' ho';rw[aer]at ho';split at hl;rotate_left
  . simp at hl
  rename_i d hd;simp only[aeo]at hl;obtain⟨⟨⟨l1,l2⟩,l3⟩,l4⟩:=hl;split at l4;rotate_left
  . simp at l4
  rename_i tv htv;have hent:∃ p,(j,d,p)∈bsF/\p.1=tv:=by
   rw[bO k2]at htv;rcases htv with ⟨i',p,h1,h3⟩ | h1
   . have hi':=hidx _ h1;have:=aeG.1 l3 i' (afy.2 hi');rw[hidxD _ h1]at this;simp only[afz,ae8]at this;rcases this with h | h
     . rw[beq_eq h]at h1; exact⟨p,h1,h3⟩
     . exact absurd rfl (afx h)
   . unfold nw at l1;rw[h1]at l1;simp at l1
  obtain⟨p,hp,hpt⟩:=hent;have hp2:=hroot _ _ _ hp hJ;have hq:(wX E ⟨(aE st bsF).tm.filter (fun p=>me ops.toList J ((bq ops.toList []).getD j 0) p.1),st1.rt⟩ d o'.op).run=some (tv,none):=by
   rw[afz]at l4;rcases l4 with l4 | l4
   rotate_left
   . unfold Mu at l4;split at l4;rotate_left
     . simp at l4
     rename_i b hq;rw[hq,I8 l4];rfl
   unfold MK at l4;split at l4;rotate_left
   . simp at l4
   rename_i t' B hop';split at l4;rotate_left
   . simp at l4
   rename_i r j0 ti hB hti;simp only[aeo]at l4;obtain⟨hkB,hsame⟩:=l4;obtain⟨bs',g1,g2,_,g4⟩:=zZ (E:=E) (base:=st) (Od (l:=bq ops.toList []) (by rw[hlen]; omega)) hng' (ops.toList.take i1) 0 [] _ (fun o ho=>by obtain⟨k,hk⟩:=ag6 ho;exact vD hng' hk) trivial (fun e he=>by simp at he) hv;have hgj:(ops.toList.take i1)[j]? = some o':=by rw[aft,if_pos hj,aer]; exact ho'
   obtain⟨d2,p2,mask,bs0,q1,q2,q3,q4⟩:=g4 j o' hgj;rw[hd]at q1;cases q1;have htv2:tv=p2.1:=by have:=(bO g1 d p2.1).2 (.inl ⟨_,_,q2,rfl⟩);rw[<- g2,htv]at this;exact ae9 this
   have hent2:∀ t' tv',look (view st mask bs0).tm t'=some tv'->look (aE st bsF).tm t'=some tv':=fun t' tv' h=>by
    rw[g2,bO g1];rcases tQ h with ⟨i',p,h1,h2⟩ | h1
    . exact .inl ⟨i',p,q3 _ h1,h2⟩
    . exact .inr h1
   have hnw:ch (view st mask bs0):=fun t' tv' h=>hNA t' tv' (hent2 t' tv' h)
   rw[hop']at q4;unfold wX at q4;obtain⟨ti2,r1,q4⟩:=Tr.af q4;rw[hti]at r1;cases r1;obtain⟨tvB,r2,q5⟩:=Tr.af q4;obtain⟨aB,r3,q6⟩:=Tr.af q5;obtain⟨lB,r4,q7⟩:=Tr.af q6;obtain⟨tvR,r5,q8⟩:=Tr.af q7;simp only[Tr.run,aen]at q8;have r2:(view st mask bs0).tv B=some tvB:=r2;rw[xy hnw]at r2;have:=hent2 _ _ r2;rw[hB]at this;cases this;simp only[TV.Eg,aen]at r3;subst r3;have hld:st1.de r j0 ti.ks.length=some lB:=by
    rw[HB hver _ _ hsame];have hx:Ext (view st mask bs0) (aE st bsF):=⟨hent2,fun r' R' h=>by
     rw[g2,iy st (bitsOf bs') bs' (fun i t p h=>dV h),hY _ g1];rcases x9 h with ⟨i',p,h1,h2⟩ | h1
     . exact .inl ⟨i',p,q3 _ h1,dV (q3 _ h1),h2⟩
     . exact .inr h1⟩
    exact hx.de r4
   have hget2:(St.mk ((aE st bsF).tm.filter (fun p=>me ops.toList J ((bq ops.toList []).getD j 0) p.1)) st1.rt).get (.tmp B)=some (.v (.ptr r j0)):=by
    show St.tv _ B=_;unfold St.tv;have:look ((aE st bsF).tm.filter (fun p=>me ops.toList J ((bq ops.toList []).getD j 0) p.1)) B=some (.v (.ptr r j0)):=by rw[nn,if_pos hkB];exact hB
    rw[this]
   subst q8;rw[hop',htv2];rw[Mt,hti];simp only[Tr.bQ,hget2,TV.Eg,St.load];have hld2:(St.mk ((aE st bsF).tm.filter (fun p=>me ops.toList J ((bq ops.toList []).getD j 0) p.1)) st1.rt).de r j0 ti.ks.length=some lB:=by rw[RI (st:=st1) (st':=St.mk ((aE st bsF).tm.filter (fun p=>me ops.toList J ((bq ops.toList []).getD j 0) p.1)) st1.rt) rfl];exact hld
   rw[hld2];simp only[r5,Tr.run]
  have hdn:jw cx a d:=hsz.dst (k2.mem hp).1;have hfree:St.free ⟨pre++(view st S bsF).tm,st1.rt⟩ d=true:=l2;have hext:Ext ⟨(aE st bsF).tm.filter (fun p=>me ops.toList J ((bq ops.toList []).getD j 0) p.1),st1.rt⟩ ⟨pre++(view st S bsF).tm,st1.rt⟩:=by
   refine⟨fun t' tv' ht' => ?_,fun r R hR=>hR⟩;have ht':look ((aE st bsF).tm.filter (fun p=>me ops.toList J ((bq ops.toList []).getD j 0) p.1)) t'=some tv':=ht';rw[nn]at ht';split at ht'
   . rename_i hk;show look (pre++(view st S bsF).tm) t'=some tv';rw[rC];split
     . rename_i x hx;rw[(hpre' t' _ hx).2.1]at ht';cases ht'
     . rw[hlook S _ t' hS hnd hk];exact ht'
   . simp at ht'
  unfold wpOp;have hwant:Region.wanted o' (yielded ops a.tmps)=true:=by simp[Region.wanted,vD hng (by rw[aer]; exact ho')]
  simp only[ho',hwant,if_true];refine .inl ?_;refine zH hT hga hext hr (hnm1 S).cons hd hdn hfree (p:=(tv,none)) hq _ _ fun Z' g' v' w' hr'=>hnext Z' g' _ w' ?_ (hsz.put _ _)
  refine hr'.swap (fun r=>rfl) fun t' tv' ht' => ?_
  have key:look (St.aT ⟨pre++(view st S bsF).tm,st1.rt⟩ d (tv,none)).tm t'=some tv':=by
   rw[bY];have ht':look (pre++(view st (S ||| 2 ^ j) bsF).tm) t'=some tv':=ht';show(if d=t' then some tv else look (pre++(view st S bsF).tm) t')=some tv';rw[rC]at ht' ⊢;cases hpx:look pre t' with
   | some x =>
     rw[hpx]at ht';have hk:=aeG.1 (hpre' t' x hpx).2.2 j (mr hJ);unfold kO at hk;rw[aer,ho']at hk;simp only[hd,afz,ae8]at hk;have hne:d≠t':=by
      rcases hk with hk | hk
      . simp at hk
      . exact afx hk
     rw[if_neg hne];exact ht'
   | none =>
   rw[hpx]at ht';have ht':look (view st (S ||| 2 ^ j) bsF).tm t'=some tv':=ht';rw[ed _ k2]at ht';have old:¬ d=t'->(∃ i p,(i,t',p)∈bsF/\S.testBit i=true/\p.1=tv')∨look st.tm t'=some tv'->(if d=t' then some tv else look (view st S bsF).tm t')=some tv':=fun hdt hh=>by rw[if_neg hdt];exact(ed _ k2 _ _).2 hh
   rcases ht' with ⟨i',p',h1,h2,h3⟩ | h1
   . by_cases hij:j=i'
     . obtain⟨_,e2,e3⟩:=k2.uniq hp h1 (.inl hij);subst e2;subst e3;rw[if_pos rfl,<- hpt,h3]
     . refine old (fun e=>hij (k2.uniq hp h1 (.inr e)).1) (.inl ⟨i',p',h1,?_,h3⟩);rw[aR]at h2;simpa[hij]using h2
   . exact old (fun e=>by subst e; rw[(k2.mem hp).2.1]at h1; simp at h1) (.inr h1)
  exact hr'.tm t' tv' key
 ·
  intro fuel listed S a w Z g hls hl hfuel hS hr hsz;have hS':view st S bsF=aE st bsF:=(kN fun e he=>by rw[hS]; simpa using hidx e he).symm;have hr:Rel cx Z g st1 a w:=by rw[hst1'];have hr:Rel cx Z g ⟨pre++(view st S bsF).tm,st1.rt⟩ a w:=hr;rw[hS']at hr;exact hr
  have hn1:ch st1:=by have:=hnm1 (2 ^ i1-1);rw[(kN (S:=2 ^ i1-1) fun e he=>by rw[eo]; simpa using hidx e he).symm]at this;rw[hst1'];exact this
  obtain⟨i2,bs2,m1,m2,m3,m4,m5,m6,m7,m8⟩:=kT (ops:=ops) (ns:=bq ops.toList []) (i0:=i1+1) hT hga hn1 _ (i1+1) rfl hi (oR _) [] st' ⟨trivial,hn1.MB,fun e he=>by simp at he,fun _ _ _ _ he=>by simp at he⟩ hrun;refine Bl (cx:=cx) (Q:=QO cx E (.nrm st')) hT hga hW hed (stF:=st') (fun Z g a w hr hn hs=>⟨hn,hs,Z,g,hr⟩) fuel listed (2 ^ (i1+1)-1) (i1+1) i2 st1 bs2 a w Z g hls (fun k hk => ?_) hfuel (fun k hk=>by rw[eo]; simpa using hk) (fun k hk=>by rw[eo]; simp; omega) (fun k hk b hb => ?_) m1 hn1 m2 (fun e he=>⟨(m4 e he).1,(m4 e he).2.1⟩) m5 m7 m8 ?_ hsz
  . rw[hl k hk,eo];by_cases hh:k<=i1
    . simp[hh]; omega
    . simp[hh]; omega
  . rw[eo]at hk ⊢;simp only[afJ]at hk ⊢;have hbk:b<k:=by
     revert b;induction k using Nat.strongRecOn with
     | _ k ihk =>
       intro b hb;have hks:k<ops.size:=by omega
       obtain⟨e,h1,h2,h3⟩:=oZ ops.toList [] k ops[k] b (by rw[aer]; simp[hks]) (by simpa using hb);have hon:=kh ops.toList 0 hed k ops[k] (by rw[aer]; simp[hks]) e h1 h2;rw[aex]at hon;rcases h3 with h3 | ⟨_,h3⟩
       . omega
       . have:=ihk e.on hon (by omega) b h3;omega
    omega
  . rw[jk fun e he=>by rw[eo]; have:=(m4 e he).1; simp; omega];exact hr
 . simp[aev,hk]
 . simp only[oF,Nat.or_zero];rw[sL];exact oR _
 . simp at hk
 . simp only[oF];rw[jk fun e _=>afR _];exact hr.world rfl rfl rfl rfl
theorem L7(hT:cf P E)(hga:cZ P E)(hm:P.follows .mixedOrders=true){id:Nat}{ops:Array Oper}{i:Nat}{J:List Nat}:cM P E (.region id ops true) (l8 E ops i J) :=
 fun _ _ _ _ _ h hrun=>wp_region_any hm (Cc hT hga h hrun)
theorem vG(hT:cf P E)(hga:cZ P E)(hm:P.follows .mixedOrders=true){c:Code}{id:Nat}{i:Nat}{J:List Nat}(h:c= .region id (opsOf c) true):cM P E c (l8 E (opsOf c) i J):=by intro cx a w st st' hg hr;rw[h];exact L7 hT hga hm cx a w st st' hg hr
theorem dP{E0:En}{c:Code}{F:St->Tr St}(hn:E.nt=E0.nt)(hp:E.pins=E0.pins)(h:cM P E0 c F):cM P E c F:=by
 have hf:∀(cx:Cx P) (a:Act),Fit cx E a↔Fit cx E0 a:=fun cx a=>by unfold Fit; rw[hn,hp]
 have hg:∀(cx:Cx P) (st:St) (a:Act) (w:World),Good cx E st a w↔Good cx E0 st a w:=fun cx st a w=>by unfold Good; rw[hf]
 intro cx a w st st' hgd hr;refine wp_mono (h cx a w st st' ((hg _ _ _ _).1 hgd) hr) fun e a' w' hq => ?_
 cases e <;> first | exact hq.elim | exact(hg _ _ _ _).2 hq
end
def BE(o:Oper):Bool:=match o.op,o.guard,o.dst with | .extract (.tmp _) _,none,some _=>true | .move (.tmp _),none,some _=>true | _,_,_=>false
def CI(ex:List (Nat×Nat))(i:Nat):List Edge:=(ex.filter fun p=>Nat.beq p.1 i).map fun p=>⟨p.2,.data⟩
def rQ(ex:List (Nat×Nat)):List Oper->Nat->List Oper
 | [],_=>[]
 | o::r,i=>{ o with after:=o.after++(CI ex i).toArray }::rQ ex r (i+1)
theorem Dy(ex:List (Nat×Nat)):∀(l:List Oper) (i k:Nat),(rQ ex l i)[k]? = (l[k]?).map fun o=>{ o with after:=o.after++(CI ex (i+k)).toArray }
 | [],_,_=>by simp[rQ]
 | o::r,i,0=>by simp[rQ]
 | o::r,i,k+1=>by rw[rQ,afi,Dy ex r (i+1) k,afi,show i+1+k=i+(k+1)by omega]
theorem Ch(ex:List (Nat×Nat)):∀(l:List Oper) (i:Nat),(rQ ex l i).length=l.length
 | [],_=>rfl
 | o::r,i=>by simp[rQ,Ch ex r]
def oo(ex:List (Nat×Nat))(ops:Array Oper):Array Oper:=(rQ ex ops.toList 0).toArray
theorem si(ex:List (Nat×Nat))(ops:Array Oper)(k:Nat):(oo ex ops)[k]? = (ops[k]?).map fun o=>{ o with after:=o.after++(CI ex k).toArray }:=by rw[oo,aeZ,Dy,aer,aex]
theorem Aj(ex:List (Nat×Nat))(ops:Array Oper):(oo ex ops).size=ops.size:=by simp[oo,Ch]
def pc(ops:Array Oper)(ex:List (Nat×Nat)):Bool :=
 Region.noSelect ops&&ex.all fun p=>(match ops[p.2]?,ops[p.1]? with
  | some oj,some oi=>BE oj&&(CI ex p.2).isEmpty&&(oj.after.toList.all fun e=> !dR e||oi.after.toList.any fun e'=>dR e'&&Nat.beq e'.on e.on) &&
     (List.range ops.size).all fun k=>Nat.beq k p.2||(match ops[k]? with | some ok=>(ok.after.toList.any fun e=>dR e&&Nat.beq e.on p.2)||((oj.after.toList.any fun e=>dR e&&Nat.beq e.on k)||oj.apart ops ok) | none=>true)
  | _,_=>false)
section
variable{P:Program}{ops:Array Oper}{Q:Exit->Act->World->Prop}
theorem BB(ex:List (Nat×Nat))(ops:Array Oper)(tmps:Array Value):yielded (oo ex ops) tmps=yielded ops tmps:=by funext g;unfold yielded;rw[si];cases ops[g]? <;> rfl
theorem zn{ex:List (Nat×Nat)}{k:Nat}{K:Act->World->Prop}{a:Act}{w:World}(h:wpOp P (oo ex ops) Q k K a w):wpOp P ops Q k K a w:=by
 unfold wpOp at h ⊢;rw[si,BB]at h;cases ho:ops[k]? with
 | none=>rw[ho]at h; exact h
 | some o=>rw[ho]at h; exact h
theorem DH{o:Oper}(hp:BE o=true)(hL:¬ LetsOut Q)(hQ:∀ c a w,¬ Q (.panic c) a w){k:Nat}(ho:ops[k]? = some o){K:Act->World->Prop}{a:Act}{w:World}(h:wpOp P ops Q k K a w) :
 ∃ v,Yields P ops o v a/\K (a.put o.dst v) w:=by
 unfold BE at hp;split at hp
 . rename_i t i d h1 h2 h3;have hw:Region.wanted o (yielded ops a.tmps)=true:=by simp[Region.wanted,h2]
   unfold wpOp at h;rw[ho]at h;simp only[hw,if_true]at h;have h:=h.resolve_right fun h=>hL h.2
   unfold Oper.wp at h;have he:∀ w,(execOp a.eval o).run P w=(match a.eval (.tmp t)with | .tuple vs=>(match vs[i]? with | some v=>Result.ok (.value v) w | none=>(execOp a.eval o).run P w) | _=>(execOp a.eval o).run P w):=fun w=>by
    split
    . rename_i vs hv;split
      . rename_i v hi;simp[execOp,h1,hv,Instr.extract,hi]
      . rfl
    . rfl
   cases hv:a.eval (.tmp t)with
   | tuple vs =>
     cases hi:vs[i]? with
     | some v => refine⟨v,.inl ⟨hw,fun w=>by rw[he w,hv]; simp only[hi]⟩,?_⟩;rw[he w,hv]at h;simp only[hi,Oper.upon]at h;exact h
     | none => exfalso;simp[execOp,h1,hv,Instr.extract,hi,Oper.upon]at h
   | _ => exfalso;simp[execOp,h1,hv,Instr.extract,Oper.upon]at h
 . rename_i t d h1 h2 h3;have hw:Region.wanted o (yielded ops a.tmps)=true:=by simp[Region.wanted,h2]
   unfold wpOp at h;rw[ho]at h;simp only[hw,if_true]at h;have h:=h.resolve_right fun h=>hL h.2
   have he:∀ w,(execOp a.eval o).run P w= .ok (.value (a.eval (.tmp t))) w:=fun w=>by simp[execOp,h1]
   refine⟨a.eval (.tmp t),.inl ⟨hw,he⟩,?_⟩;unfold Oper.wp at h;rw[he w,afo]at h;exact h
 . simp at hp
theorem Ml{ex:List (Nat×Nat)}{k:Nat}{e:Edge}(h:e∈CI ex k):∃ p,p∈ex/\p.1=k/\e.on=p.2:=by unfold CI at h;obtain⟨p,hp,rfl⟩:=afM.1 h;obtain⟨h1,h2⟩:=afA.1 hp;exact⟨p,h1,beq_eq h2,rfl⟩
theorem yE{ex:List (Nat×Nat)}{p:Nat×Nat}(h:p∈ex):(⟨p.2,.data⟩:Edge)∈CI ex p.1 :=
 afM.2 ⟨p,afA.2 ⟨h,Nat.beq_refl _⟩,rfl⟩
theorem kC{ex:List (Nat×Nat)}{listed:Array Bool}{k:Nat}:k∈Region.ready .any (oo ex ops) listed↔k∈Region.ready .any ops listed/\∀ p∈ex,p.1=k->listed.getD p.2 false=true:=by
 rw[mem_ready,mem_ready];constructor
 . rintro⟨h0,o',ho',hall⟩;rw[si]at ho';cases ho:ops[k]? with
   | none=>rw[ho]at ho'; simp at ho'
   | some o => rw[ho]at ho';simp only[aeM,aen]at ho';subst ho';refine⟨⟨h0,o,rfl,fun e he hb=>hall e (by simp[he]) hb⟩,fun p hp hk => ?_⟩;subst hk;exact hall ⟨p.2,.data⟩ (by simp[yE hp]) rfl
 . rintro⟨⟨h0,o,ho,hall⟩,hex⟩;refine⟨h0,_,by rw[si,ho]; rfl,fun e he hb => ?_⟩;simp only[Array.mem_append,List.mem_toArray]at he;rcases he with he | he
   . exact hall e he hb
   . obtain⟨p,hp,h1,h2⟩:=Ml he;rw[h2];exact hex p hp h1
theorem hoist{ex:List (Nat×Nat)}(hok:pc ops ex=true)(hL:¬ LetsOut Q)(hQ:∀ c a w,¬ Q (.panic c) a w) :
 ∀(fuel:Nat) (listed:Array Bool) (a:Act) (w:World),listed.size=ops.size->wpAny P .any (oo ex ops) Q fuel listed a w->wpAny P .any ops Q fuel listed a w:=by
 unfold pc at hok;simp only[aeo]at hok;obtain⟨hns,hok⟩:=hok;have hsel:=Region.noSelect_spec hns
 have facts:∀ p∈ex,∃ oj oi,ops[p.2]? = some oj/\ops[p.1]? = some oi/\BE oj=true/\CI ex p.2=[]/\(∀ e∈oj.after,dR e=true->∃ e'∈oi.after,dR e'=true/\e'.on=e.on) /\
  ∀ k ok,ops[k]? = some ok->k≠p.2->(∀ e∈ok.after,Region.binds .any e=true->e.on≠p.2)->(∃ e∈oj.after,dR e=true/\e.on=k)∨oj.apart ops ok=true:=by
  intro p hp;have h:=aeG.1 hok p hp;cases h2:ops[p.2]? with
  | none=>rw[h2]at h; simp at h
  | some oj =>
    cases h1:ops[p.1]? with
    | none=>rw[h2,h1]at h; simp at h
    | some oi =>
      rw[h2,h1]at h;simp only[aeo]at h;obtain⟨⟨⟨g1,g2⟩,g3⟩,g4⟩:=h;refine⟨oj,oi,rfl,rfl,g1,List.isEmpty_iff.1 g2,fun e he hb => ?_,fun k ok hk hne hno => ?_⟩
      . have:=aeG.1 g3 e (by simpa using he);rw[hb]at this;simp only[oN,Bool.false_or]at this;obtain⟨e',he',h'⟩:=ag2.1 this;simp only[aeo]at h';exact⟨e',by simpa using he',h'.1,beq_eq h'.2⟩
      . have hlt:k<ops.size:=(aeP.1 hk).1;have:=aeG.1 g4 k (afy.2 hlt);rw[hk]at this;simp only[afz]at this;rcases this with h | h | h | h
        . exact absurd (beq_eq h) hne
        . obtain⟨e',he',h'⟩:=ag2.1 h;simp only[aeo]at h';exact absurd (beq_eq h'.2) (hno e' (by simpa using he') h'.1)
        . obtain⟨e',he',h'⟩:=ag2.1 h;simp only[aeo]at h';exact .inl ⟨e',by simpa using he',h'.1,beq_eq h'.2⟩
        . exact .inr h
 have hR:∀(listed:Array Bool),listed.size=ops.size->∀ k,k∈Region.ready .any ops listed->∀ p∈ex,p.1=k->listed.getD p.2 false≠true->p.2∈Region.ready .any (oo ex ops) listed/\p.2∈Region.ready .any ops listed:=by
  intro listed hls k hk p hp hpk hun;obtain⟨oj,oi,h2,h1,g1,g2,g3,g4⟩:=facts p hp;obtain⟨_,o,ho,hall⟩:=mem_ready.1 hk;rw[<- hpk,h1]at ho;cases ho;have hlt:p.2<listed.size:=by rw[hls]; exact(aeP.1 h2).1
  have hr:p.2∈Region.ready .any ops listed:=by
   refine mem_ready.2 ⟨?_,oj,h2,fun e he hb => ?_⟩
   . simp only[aev,agu hlt,afY]at hun ⊢;simpa using hun
   . obtain⟨e',he',hb',h'⟩:=g3 e he hb;rw[<- h'];exact hall e' he' hb'
  refine⟨kC.2 ⟨hr,fun q hq hqk => ?_⟩,hr⟩;have:=yE hq;rw[hqk,g2]at this;simp at this
 intro fuel;induction fuel with
 | zero =>
   intro listed a w hls H;refine⟨agA.2 fun k hk => ?_,H.2⟩;by_cases hall:∀ p∈ex,p.1=k->listed.getD p.2 false=true
   . have:=kC.2 ⟨hk,hall⟩;rw[H.1]at this;simp at this
   . simp only[Classical.not_forall]at hall;obtain⟨p,hp,hpk,hun⟩:=hall;have:=(hR listed hls k hk p hp hpk hun).1;rw[H.1]at this;simp at this
 | succ fuel ih =>
   intro listed a w hls H;by_cases hex:∃ p,p∈ex/\p.2∈Region.ready .any ops listed
   . obtain⟨p,hp,hr⟩:=hex;obtain⟨oj,oi,h2,h1,g1,g2,g3,g4⟩:=facts p hp;have hr2:p.2∈Region.ready .any (oo ex ops) listed:=kC.2 ⟨hr,fun q hq hqk=>by
      have:=yE hq;rw[hqk,g2]at this;simp at this⟩
     obtain⟨v,hy,hK⟩:=DH g1 hL hQ h2 (zn (H.2 p.2 hr2));refine wpAny_first h2 hsel (fun c a w h=>(hQ _ _ _ h).elim) fuel listed a w (fun k ok hk hne hun hno=>(g4 k ok hk hne hno).resolve_left fun⟨e,he,hb,hek⟩ => ?_) hr hy (ih _ _ _ (by simpa using hls) hK);obtain⟨_,o,ho,hall⟩:=mem_ready.1 hr;rw[h2]at ho;cases ho;have h5:=hall e he hb;rw[hek]at h5;have hlt:k<listed.size:=by rw[hls]; exact(aeP.1 hk).1
     simp only[aev,agu hlt,afY]at hun h5;rw[h5]at hun;simp at hun
   . have hsub:∀ k,k∈Region.ready .any ops listed->k∈Region.ready .any (oo ex ops) listed:=fun k hk=>by
      refine kC.2 ⟨hk,fun p hp hpk => ?_⟩;by_cases hun:listed.getD p.2 false=true
      . exact hun
      . exact absurd ⟨p,hp,(hR listed hls k hk p hp hpk hun).2⟩ hex
     refine⟨fun h0=>H.1 (agA.2 fun k hk => ?_),fun k hk => ?_⟩
     . have:=(kC.1 hk).1;rw[h0]at this;simp at this
     . exact wpOp_mono (fun a' w' h=>ih _ a' w' (by simpa using hls) h) (zn (H.2 k (hsub k hk)))
end
section
variable{P:Program}{E:En}
def gb(E:En)(ops:Array Oper)(ex:List (Nat×Nat))(st:St):Tr St :=
 bif pc ops ex&&iO (rQ ex ops.toList 0) 0 then eU E true (rQ ex ops.toList 0) (bq (rQ ex ops.toList 0) []) (rQ ex ops.toList 0) 0 st []else .fail
theorem Jn(hT:cf P E)(hga:cZ P E)(hm:P.follows .mixedOrders=true){id:Nat}{ops:Array Oper}{ex:List (Nat×Nat)}:cM P E (.region id ops true) (gb E ops ex):=by
 intro cx a w st st' h hrun;have hW:=tA hT hga;unfold gb at hrun;cases hc:pc ops ex&&iO (rQ ex ops.toList 0) 0 with
 | false=>rw[hc]at hrun; simp[Tr.run]at hrun
 | true =>
   rw[hc]at hrun;simp only[oT]at hrun;simp only[aeo]at hc;obtain⟨hok,hed⟩:=hc;obtain⟨h1,h2,Z,g,h3⟩:=h;refine wp_region_any hm ?_;refine hoist hok (fun⟨a,w,hq⟩=>hq) (fun c a w hq=>hq) ops.size _ a _ (by simp) ?_;have e1:(oo ex ops).toList=rQ ex ops.toList 0:=by simp[oo]
   have hs:=Aj ex ops;rw[<- e1]at hrun hed;obtain⟨i1,bsF,k1,k2,k3,k4,k5,k6,k7,k8⟩:=kT (ops:=oo ex ops) (ns:=bq (oo ex ops).toList []) (i0:=0) hT hga h1 _ 0 rfl (aeC _) (oR _) [] st' ⟨trivial,h1.MB,fun e he=>by simp at he,fun _ _ _ _ he=>by simp at he⟩ hrun;refine Bl (ops:=oo ex ops) (cx:=cx) (Q:=QO cx E (.nrm st')) hT hga hW hed (stF:=st') (fun Z g a w hr hn hs=>⟨hn,hs,Z,g,hr⟩) ops.size (Array.replicate ops.size false) 0 0 i1 st bsF a _ Z g (by simp[hs]) (fun k hk => ?_) (by rw[hs,sL]; exact oR _) (fun k hk=>by omega) (fun k _=>afR k) (fun k hk=>by rw[afR]at hk; simp at hk) k1 h1 k2 (fun e he=>⟨(k4 e he).1,(k4 e he).2.1⟩) k5 k7 k8 ?_ h2
   . rw[afR];rw[hs]at hk;simp[aev,hk]
   . rw[jk fun e _=>afR _];exact h3.world rfl rfl rfl rfl
theorem kE(hT:cf P E)(hga:cZ P E)(hm:P.follows .mixedOrders=true){c:Code}{id:Nat}{ex:List (Nat×Nat)}(h:c= .region id (opsOf c) true):cM P E c (gb E (opsOf c) ex):=by rw[h];exact Jn hT hga hm
def Ub(E:En)(ops:Array Oper)(ex:List (Nat×Nat))(i:Nat)(J:List Nat)(st:St):Tr St:=bif pc ops ex then l8 E (oo ex ops) i J st else .fail
theorem VB(hT:cf P E)(hga:cZ P E)(hm:P.follows .mixedOrders=true){id:Nat}{ops:Array Oper}{ex:List (Nat×Nat)}{i:Nat}{J:List Nat}:cM P E (.region id ops true) (Ub E ops ex i J):=by
 intro cx a w st st' h hrun;unfold Ub at hrun;cases hok:pc ops ex with
 | false=>rw[hok]at hrun; simp[Tr.run]at hrun
 | true => rw[hok]at hrun;refine wp_region_any hm ?_;refine hoist hok (fun⟨a,w,hq⟩=>hq) (fun c a w hq=>hq) ops.size _ a _ (by simp) ?_;have:=Cc hT hga h hrun;rwa [Aj]at this
theorem Tj(hT:cf P E)(hga:cZ P E)(hm:P.follows .mixedOrders=true){c:Code}{id:Nat}{ex:List (Nat×Nat)}{i:Nat}{J:List Nat}(h:c= .region id (opsOf c) true):cM P E c (Ub E (opsOf c) ex i J):=by rw[h];exact VB hT hga hm
end
section
variable{P:Program}{E:En}{ops:Array Oper}{P:Program}{cx:Cx P}{Q:Exit->Act->World->Prop}
end
section
variable{P:Program}{w w':World}
end
section
variable{P:Program}{E:En}{cx:Cx P}{Z:Nat->Prop}{g:Gh}{st v:St}{a:Act}{w:World}
theorem ze{a:Act}{d:Nat}{v:Value}(hd:d<a.tmps.size):(a.put (some d) v).eval (.tmp d)=v:=by simp[Act.put,Act.eval,aev,hd]
end
section
variable{P:Program}{E:En}
end
def Eu(v:Value):Prop:=∃ k n,v= .int k n
def vw(ints:List Nat)(o:Oper)(d:Nat):Bool:=match o.op,o.guard,o.dst with | .move (.tmp b),none,some d'=>gW ints b&&Nat.beq d' d | _,_,_=>false
def GI(l:List Oper)(ints:List Nat):Bool:=(List.range l.length).all fun i=>match kO l i with | some d=> !gW ints d&&(List.range l.length).all fun k=>Nat.beq k i||(match kO l k with | some d'=> !Nat.beq d' d | none=>true) | none=>true
def uu(ops:Array Oper)(ints:List Nat)(listed:Array Bool)(a:Act):Prop :=
 (∀(k:Nat) (o:Oper) (d:Nat),ops[k]? = some o->o.dst=some d->d<a.tmps.size)/\(∀ b∈ints,Eu (a.eval (.tmp b)))/\∀(k:Nat) (o:Oper) (d:Nat),ops[k]? = some o->vw ints o d=true->listed.getD k false=true->Eu (a.eval (.tmp d))
theorem G7:∀ {l:List Nat} {n:Nat},n∈l->gW l n=true
 | x::r,n,h=>by
   simp only[gW,afz];rcases aew.1 h with h | h
   . subst h; exact .inl (Nat.beq_refl _)
   . exact .inr (G7 h)
section
variable{P:Program}{ops:Array Oper}{Q:Exit->Act->World->Prop}{ints:List Nat}
theorem Bi(h:GI ops.toList ints=true){k:Nat}{o:Oper}{d:Nat}(ho:ops[k]? = some o)(hd:o.dst=some d):(∀ b∈ints,b≠d)/\∀(k':Nat) (o':Oper),ops[k']? = some o'->o'.dst=some d->k'=k:=by
 have hk:k<ops.toList.length:=by rw[aeY]; exact(aeP.1 ho).1
 have h1:=aeG.1 h k (afy.2 hk);have e:kO ops.toList k=some d:=by unfold kO; rw[aer,ho]; exact hd
 rw[e]at h1;simp only[aeo,ae8]at h1;refine⟨fun b hb hbd => ?_,fun k' o' ho' hd' => ?_⟩
 . subst hbd;have:gW ints b=true:=G7 hb;rw[h1.1]at this;simp at this
 . have hk':k'<ops.toList.length:=by rw[aeY]; exact(aeP.1 ho').1
   have h2:=aeG.1 h1.2 k' (afy.2 hk');have e':kO ops.toList k'=some d:=by unfold kO; rw[aer,ho']; exact hd'
   rw[e']at h2;simp only[afz,ae8]at h2;rcases h2 with h2 | h2
   . exact beq_eq h2
   . exact absurd rfl (afx h2)
theorem sC{o:Oper}{d:Nat}(h:vw ints o d=true):∃ b,o.op= .move (.tmp b)/\o.guard=none/\o.dst=some d/\b∈ints:=by
 unfold vw at h;split at h
 . rename_i b d' h1 h2 h3;simp only[aeo]at h;have:=beq_eq h.2;subst this;exact⟨b,h1,h2,h3,mr h.1⟩
 . simp at h
theorem uB(a:Act)(l:List Deferred)(x:Operand):({ a with defers:=l }:Act).eval x=a.eval x:=by cases x <;> rfl
theorem uu.put(hnew:GI ops.toList ints=true){k:Nat}{o:Oper}(ho:ops[k]? = some o){listed:Array Bool}{a:Act}(hI:uu ops ints listed a){v:Value}(hv:∀ d,vw ints o d=true->Eu v):uu ops ints (listed.setIfInBounds k true) (a.put o.dst v):=by
 cases hd:o.dst with
 | none =>
   refine⟨hI.1,fun b hb=>hI.2.1 b hb,fun k' o' d' ho' hm hl => ?_⟩;have hne:k≠k':=fun e=>by subst e;rw[ho]at ho'; cases ho';obtain⟨_,_,_,h3,_⟩:=sC hm;rw[hd]at h3; simp at h3
   rw[getD_set_ne false hne]at hl;exact hI.2.2 k' o' d' ho' hm hl
 | some d =>
   obtain⟨n1,n2⟩:=Bi hnew ho hd;have hev:∀ t,t≠d->(a.put (some d) v).eval (.tmp t)=a.eval (.tmp t):=fun t ht=>Act.eval_put fun d' e e2=>by cases e; cases e2; exact ht rfl
   refine⟨fun k' o' d' ho' hd'=>by rw[sv]; exact hI.1 k' o' d' ho' hd',fun b hb=>by rw[hev b (n1 b hb)]; exact hI.2.1 b hb,fun k' o' d' ho' hm hl => ?_⟩;obtain⟨b',_,_,h3,_⟩:=sC hm;by_cases e:d'=d
   . subst e;have:=n2 k' o' ho' h3;subst this;rw[ho]at ho'; cases ho';rw[ze (hI.1 _ _ _ ho hd)];exact hv _ hm
   . rw[hev d' e];have hne:k≠k':=fun e2=>by
      subst e2;rw[ho]at ho'; cases ho';rw[hd]at h3; cases h3; exact e rfl
     rw[getD_set_ne false hne]at hl;exact hI.2.2 k' o' d' ho' hm hl
theorem uu.defers{listed:Array Bool}{a:Act}{l:List Deferred}(hI:uu ops ints listed a):uu ops ints listed { a with defers:=l } :=
 ⟨hI.1,fun b hb=>by rw[uB]; exact hI.2.1 b hb,fun k o d ho hm hl=>by rw[uB]; exact hI.2.2 k o d ho hm hl⟩
end
section
variable{w:World}
end
section
variable{P:Program}{E:En}{cx:Cx P}{Z:Nat->Prop}{g:Gh}{st v:St}{a:Act}{w:World}
end
section
variable{P:Program}{E:En}
end
theorem au.zero{P:Program}{f:Nat}{s:Su}(h:∀ x,s.sO x=none):au P f s:=fun w Z F args x y _ _ _ _ _ hy=>by rw[h x]at hy;simp at hy
def Su.ro(s:Su):Su:=⟨s.ps,s.rs,false,s.f⟩
theorem jL{Z:Nat->Prop}{w:World}{F G:Nat->Nat->Prop}:∀(ps:List PK) (x:PT ps) (vs:List Value) (n m:Nat),il ps=true->dv Z w F ps x vs n->dv Z w G ps x vs m
 | [],_,[],_,_,_,_=>trivial
 | [],_,_::_,_,_,_,h=>h.elim
 | .c _ _::ps,x,v::vs,n,m,hq,h=>⟨h.1,jL ps x.2 vs n m hq h.2⟩
 | .pt _::ps,x,v::vs,n,m,hq,h=>⟨h.1,jL ps x.2 vs n m hq h.2⟩
 | .nil::ps,x,v::vs,n,m,hq,h=>⟨h.1,jL ps x vs n m hq h.2⟩
 | .fn _ _::ps,x,v::vs,n,m,hq,h=>⟨h.1,jL ps x.2 vs n m hq h.2⟩
 | .io _ _::_,_,_,_,_,hq,_=>by simp[il]at hq
 | .mv _::_,_,_,_,_,hq,_=>by simp[il]at hq
 | .c _ _::_,_,[],_,_,_,h=>h.elim
 | .pt _::_,_,[],_,_,_,h=>h.elim
 | .nil::_,_,[],_,_,_,h=>h.elim
 | .fn _ _::_,_,[],_,_,_,h=>h.elim
theorem mj{Z Z':Nat->Prop}{w w':World}{G:Nat->Nat->Prop}{F:Nat->Nat->Prop}:∀(ps:List PK) (x:PT ps) (y:rm ps) (vs:List Value) (n m:Nat),il ps=true->dv Z w F ps x vs n->tV Z' w' G ps y vs m
 | [],_,_,[],_,_,_,_=>trivial
 | [],_,_,_::_,_,_,_,h=>h.elim
 | .c _ _::ps,x,y,v::vs,n,m,hq,h=>mj ps x.2 y vs n m hq h.2
 | .pt _::ps,x,y,v::vs,n,m,hq,h=>mj ps x.2 y vs n m hq h.2
 | .nil::ps,x,y,v::vs,n,m,hq,h=>mj ps x y vs n m hq h.2
 | .fn _ _::ps,x,y,v::vs,n,m,hq,h=>mj ps x.2 y vs n m hq h.2
 | .io _ _::_,_,_,_,_,_,hq,_=>by simp[il]at hq
 | .mv _::_,_,_,_,_,_,hq,_=>by simp[il]at hq
 | .c _ _::_,_,_,[],_,_,_,h=>h.elim
 | .pt _::_,_,_,[],_,_,_,h=>h.elim
 | .nil::_,_,_,[],_,_,_,h=>h.elim
 | .fn _ _::_,_,_,[],_,_,_,h=>h.elim
theorem gj{Z Z':Nat->Prop}{w:World}{H H':Nat->Nat->Prop}(hz:∀ n b,H n b->Z' b):∀(ks:List K) (x:Tl ks) (cs:List Value) (j j':Nat),aV true Z w H ks x cs j->aV false Z' w H' ks x cs j'
 | [],_,[],_,_,_=>trivial
 | [],_,_::_,_,_,h=>h.elim
 | .sl e ks'::ks,x,v::vs,j,j',h=>⟨cO.ro (.sl e ks') x.1 v (H j) (fun b hb=>hz j b hb) h.1,gj hz ks x.2 vs (j+1) j' h.2⟩
 | .int k::ks,x,v::vs,j,j',h=>⟨fG (k:= .int k) rfl h.1,gj hz ks x.2 vs j j' h.2⟩
 | .bool::ks,x,v::vs,j,j',h=>⟨fG (k:= .bool) rfl h.1,gj hz ks x.2 vs j j' h.2⟩
 | .str::ks,x,v::vs,j,j',h=>⟨fG (k:= .str) rfl h.1,gj hz ks x.2 vs j j' h.2⟩
 | .sl _ _::_,_,[],_,_,h=>h.elim
 | .int _::_,_,[],_,_,h=>h.elim
 | .bool::_,_,[],_,_,h=>h.elim
 | .str::_,_,[],_,_,h=>h.elim
theorem ym{Z Z':Nat->Prop}{w:World}{H H':Nat->Nat->Prop}(hz:∀ n b,H n b->Z' b):∀(rs:List (Bool×List K)) (y:CT rs) (vs:List Value) (j j':Nat),lk true Z w H rs y vs j->lk false Z' w H' rs y vs j'
 | [],_,[],_,_,_=>trivial
 | [],_,_::_,_,_,h=>h.elim
 | (gg,ks)::rs,y,v::vs,j,j',h=>by obtain⟨⟨cs,e1,e2⟩,h2⟩:=h;exact⟨⟨cs,e1,gj hz ks y.1 cs j j' e2⟩,ym hz rs y.2 vs _ _ h2⟩
 | _::_,_,[],_,_,h=>h.elim
theorem Su.Wm(s:Su)(x:PT s.ps):s.ro.sO x=s.sO x:=by obtain⟨ps,rs,fr,f⟩:=s;cases f <;> rfl
theorem au.ro{P:Program}{f:Nat}{s:Su}(hq:il s.ps=true)(hf:s.fresh=true)(h:au P f s):au P f s.ro:=by
 intro w Z F args x y hgl hargs hZ hF hd hy;have hy:s.sO x=some y:=(s.Wm x).symm.trans hy;have h1:=h w Z (fun _ _=>False) args x y hgl (jL s.ps x args.toList 0 0 hq hargs) hZ (fun _ _ h=>h.elim) (fun _ _ _ h=>h.elim) hy;rw[hf]at h1;refine AZ.mono h1 fun v w' ⟨Z',H,vs,e,ha,_,hr⟩ => ?_
 have hnew:∀ n b,H n b->b<w'.heap.size/\w.heap.size<=b:=fun n b hb=>by
  obtain⟨q1,_,q3⟩:=ha.fp n b hb;rcases q3 with ⟨_,q3⟩ | q3
  . exact q3.elim
  . exact⟨q1,q3⟩
 refine⟨fun b=>Z' b∨∃ n,H n b,fun _ _=>False,vs,e,?_,mj s.ps x y.1 args.toList 0 0 hq hargs,ym (fun n b hb=> .inr ⟨_,hb⟩) _ _ _ _ _ hr⟩
 exact { os:=ha.os,tape:=ha.tape,output:=ha.output,size:=ha.size
         block:=fun b hb _=>ha.block b hb fun _ h=>h
         z:=fun b hb=> .inl (ha.z b hb)
         bL:=fun b hb=>by
          rcases hb with hb | ⟨n,hb⟩
          . exact ha.bL b hb
          . exact⟨(hnew n b hb).1,.inr (hnew n b hb).2⟩
         fp:=fun n b h=>h.elim
         disj:=fun n m b h=>h.elim }
section
variable{P:Program}{w:World}{E:En}
end
section
variable{P:Program}{E:En}{cx:Cx P}{Z:Nat->Prop}{g:Gh}{st v:St}{a:Act}{w:World}
theorem ch.bind{st:St}(h:ch st){d:Nat}{b:AV}{R:Option Rt}:ch (st.aT d (.v b,R)):=fun t tv ht=>by
 rw[bY]at ht;split at ht
 . simp only[aen]at ht; subst ht; exact fun h=>h
 . exact h t tv ht
end
section
variable{α A X Y:Type}
def ko(f:Nat->α->A->Sum A Y)(z:A->Y):Nat->List α->A->Y
 | _,[],a=>z a
 | i,x::r,a=>match f i x a with
   | .inl a'=>ko f z (i+1) r a'
   | .inr y=>y
theorem ot{step:X->Option (Sum X Y)}(xs:List α)(S:Nat->A->X)(f:Nat->α->A->Sum A Y)(z:A->Y)(I:Nat->A->Prop)
 (hs:∀ i x a,xs[i]? = some x->I i a->step (S i a)=some (match f i x a with | .inl a'=> .inl (S (i+1) a') | .inr y=> .inr y))
 (hI:∀ i x a a',xs[i]? = some x->I i a->f i x a= .inl a'->I (i+1) a')
 (he:∀ a,I xs.length a->step (S xs.length a)=some (.inr (z a))) :
 ∀(ys:List α) (i:Nat) (a:A),i+ys.length=xs.length->ys=xs.drop i->I i a->aq step (S i a)=some (ko f z i ys a)
 | [],i,a,hl,hy,h=>by
   have:i=xs.length:=by simpa using hl
   subst this;exact dA step (he a h)
 | x::r,i,a,hl,hy,h=>by
   have hx:xs[i]? = some x:=by have:=aeU (·[0]?) hy;simp only[aeu,afu,aeQ]at this;exact this.symm
   have hr:r=xs.drop (i+1):=by have:=aeU List.tail hy;simpa using this
   have hst:=hs i x a hx h;cases hf:f i x a with
   | inl a' => rw[hf]at hst;refine dU step hst ?_;rw[ko,hf];exact ot xs S f z I hs hI he r (i+1) a' (by simp only[aeF]at hl; omega) hr (hI i x a a' hx h hf)
   | inr y => rw[hf]at hst;rw[ko,hf];exact dA step hst
theorem aY{step:X->Option (Sum X Y)}(xs:List α)(S:Nat->A->X)(f:Nat->α->A->Sum A Y)(z:A->Y)(I:Nat->A->Prop){a0:A}(h0:I 0 a0)
 (hs:∀ i x a,xs[i]? = some x->I i a->step (S i a)=some (match f i x a with | .inl a'=> .inl (S (i+1) a') | .inr y=> .inr y))
 (hI:∀ i x a a',xs[i]? = some x->I i a->f i x a= .inl a'->I (i+1) a')
 (he:∀ a,I xs.length a->step (S xs.length a)=some (.inr (z a))):aq step (S 0 a0)=some (ko f z 0 xs a0) :=
 ot xs S f z I hs hI he xs 0 a0 (by simp) (by simp) h0
theorem aL{step:X->Option (Sum X Y)}(xs:List α)(S:Nat->A->X)(f:Nat->α->A->Sum A Y)(z:A->Y){a0:A}
 (hs:∀ i x a,xs[i]? = some x->step (S i a)=some (match f i x a with | .inl a'=> .inl (S (i+1) a') | .inr y=> .inr y))
 (he:∀ a,step (S xs.length a)=some (.inr (z a))):aq step (S 0 a0)=some (ko f z 0 xs a0) :=
 aY xs S f z (fun _ _=>True) trivial (fun i x a h _=>hs i x a h) (fun _ _ _ _ _ _ _=>trivial) fun a _=>he a
theorem mq{step:X->Option (Sum X Y)}(xs:List α)(S:Nat->A->X)(z:A->Y)(I:Nat->A->Prop)
 (hs:∀ i x a,xs[i]? = some x->I i a->∃ a',step (S i a)=some (.inl (S (i+1) a'))/\I (i+1) a')
 (he:∀ a,I xs.length a->step (S xs.length a)=some (.inr (z a))):∀(n k:Nat) (a:A),k+n=xs.length->I k a->∃ a',I xs.length a'/\aq step (S k a)=some (z a')
 | 0,k,a,hk,h=>by rw[aeQ]at hk;subst hk;exact⟨a,h,dA step (he a h)⟩
 | n+1,k,a,hk,h=>by have hx:xs[k]? = some (xs[k]'(by omega)):=aeq (by omega);obtain⟨a1,h1,h2⟩:=hs k _ a hx h;obtain⟨a',h3,h4⟩:=mq xs S z I hs he n (k+1) a1 (by omega) h2;exact⟨a',h3,dU step h1 h4⟩
theorem iW(p:α->Bool)(y:Y)(z:Unit->Y):∀(xs:List α) (i:Nat),ko (fun _ x _=>bif p x then .inl ()else .inr y) z i xs ()=bif xs.all p then z ()else y
 | [],_=>rfl
 | x::r,i=>by
   rw[ko,afe];cases hp:p x with
   | true=>simp only[oT,agh]; exact iW p y z r (i+1)
   | false=>rfl
def allI(p:Nat->α->Bool):Nat->List α->Bool
 | _,[]=>true
 | i,x::r=>p i x&&allI p (i+1) r
theorem fF(p:Nat->α->Bool)(y:Y)(z:Unit->Y):∀(xs:List α) (i:Nat),ko (fun i x _=>bif p i x then .inl ()else .inr y) z i xs ()=bif allI p i xs then z ()else y
 | [],_=>rfl
 | x::r,i=>by
   rw[ko,allI];cases hp:p i x with
   | true=>simp only[oT,agh]; exact fF p y z r (i+1)
   | false=>rfl
theorem gq(p:Nat->α->Bool):∀ {xs:List α} {k:Nat},allI p k xs=true->∀ {i:Nat} {x:α},xs[i]? = some x->p (k+i) x=true
 | [],k,_,i,x,hx=>by simp at hx
 | y::r,k,h,i,x,hx=>by
   simp only[allI,aeo]at h;cases i with
   | zero=>simp only[aeu,aen]at hx; subst hx; exact h.1
   | succ i => have:=gq p h.2 (i:=i) (x:=x) (by simpa using hx);rwa [show k+1+i=k+(i+1)by omega]at this
theorem bH(f:α->A->A)(z:A->Y):∀(xs:List α) (i:Nat) (a:A),ko (fun _ x a=> .inl (f x a)) z i xs a=z (xs.foldl (fun a x=>f x a) a)
 | [],_,_=>rfl
 | x::r,i,a=>by rw[ko,afb]; exact bH f z r (i+1) _
end
theorem bn{α β:Type}{a b:Option α}{f:α->Option β}(h:a=b):Option.bind a f=Option.bind b f:=h ▸ rfl
section
variable{α:Type}
theorem aS{i:Nat}(h:i<=bG):aw .i64 (i:Int) 1=((i+1:Nat):Int):=by unfold aw;rw[IntWalk.i64_in _ (by have:bG=140737488355328:=rfl; omega)];omega
theorem cw{a b:Int}(h1 : -4611686018427387904<=a+b)(h2:a+b<=4611686018427387904):aw .i64 a b=a+b:=by unfold aw; rw[IntWalk.i64_in _ (by omega)]
theorem bp{a b:Int}(h1 : -4611686018427387904<=a-b)(h2:a-b<=4611686018427387904):aW .i64 a b=a-b:=by unfold aW; rw[IntWalk.i64_in _ (by omega)]
theorem ai{xs:List α}{i:Nat}{x:α}(h:xs[i]? = some x):i<xs.length:=(aeW.1 h).1
theorem aI{xs:List α}{i:Nat}{x:α}(h:xs[i]? = some x):aG (i:Int) (ae xs)=true:=by have:=ai h;unfold aG ae; exact aes (by omega)
theorem aA{xs:List α}{n:Nat}(h:xs.length=n):aG (n:Int) (ae xs)=false:=by unfold aG ae; exact aeL (by omega)
theorem aJ{a b:Int}(h:¬ a<b):aG a b=false:=aeL h
theorem aO{a b:Int}(h:a<b):aG a b=true:=aes h
theorem az{xs:List α}{i:Nat}{x:α}(h:xs[i]? = some x):aZ (i:Int) xs=true:=by have:=ai h;unfold aZ nR bM aG; rw[aes (by omega),aes (by omega)]; rfl
theorem fK{xs:List α}{i:Nat}(h:i<xs.length):aZ (i:Int) xs=true:=by unfold aZ nR bM aG; rw[aes (by omega),aes (by omega)]; rfl
theorem aH{xs:List α}{i:Nat}{x:α}(d:α)(h:xs[i]? = some x):gt d xs (i:Int)=x:=by simp[gt,List.getD,h]
theorem eX{xs:S8}{i:Nat}{x:UInt8}(h:xs[i]? = some x):ee xs (i:Int)=(x.toNat:Int):=by simp[ee,CR,List.getD,h]
theorem bX(n:Int):aj n n=true:=by simp[aj]
theorem jN(s:S8):bk s s=true:=by simp[bk]
theorem qZ{xs:List α}{b:Nat}(hb:0<b)(h:xs.length * b<=bG):O3 b (ae xs)=true:=by
 have h1:((xs.length:Int) * (b:Int))<=(bG:Int):=by exact_mod_cast h
 unfold O3 ae bM;rw[aes (Int.natCast_nonneg _),aes h1];exact aey hb
theorem lj{β:Type}{xs:List α}(d:β):um d (ae xs)=List.replicate xs.length d:=by simp[um,ae]
theorem tw(d:α){done:List α}{y:α}{r:List α}{i:Nat}(h:done.length=i):gt d (done++y::r) (i:Int)=y:=by subst h; simp[gt,List.getD]
theorem gw{done:List α}{x y:α}{r:List α}{i:Nat}(h:done.length=i):dw (done++x::r) (i:Int) y=done++y::r:=by subst h; simp[dw,List.set_append]
theorem jb{done:List α}{y:α}{r:List α}{i:Nat}(h:done.length=i):aZ (i:Int) (done++y::r)=true:=by apply fK; simp; omega
theorem DV{xs:List α}{i:Nat}{x:α}(h:xs[i]? = some x):xs.drop i=x::xs.drop (i+1):=by have hl:=ai h;rw[agt hl];congr 1;rw[aeq hl]at h;exact ae9 h
end
def Gn(left:Int)(n:Nat):Int:=if (n:Int)<=left then left-n else -1
theorem cu{left:Int}{n:Nat}(h:(n:Int)<=left):Gn left n=left-n:=if_pos h
theorem bt{left:Int}{n:Nat}(h:¬ (n:Int)<=left):Gn left n = -1:=if_neg h
theorem eZ{α:Type}{left:Int}{s:List α}(h0:0<=left)(h1:left<=1048576)(hs:s.length<=bG):aW .i64 left (ae s)=left-(s.length:Int):=by have:bG=140737488355328:=rfl;exact bp (by unfold ae; omega) (by unfold ae; omega)
def wL{α:Type}(w:α->Nat)(xs:List α):Nat:=xs.length+(xs.map w).sum
def cL{α:Type}(c:α->Nat)(xs:List α):Nat:=(xs.map c).sum
theorem wy{α Y:Type}(w:α->Nat)(y:Y)(z:Int->Y):∀(xs:List α) (i:Nat) (a:Int),0<=a->ko (fun _ x (a:Int)=>bif decide ((w x:Int)<=a)then Sum.inl (a-w x)else .inr y) z i xs a=if ((cL w xs:Nat):Int)<=a then z (a-(cL w xs:Nat))else y
 | [],_,a,h=>by simp[ko,cL,h]
 | x::r,i,a,h=>by
   rw[ko];by_cases hx:(w x:Int)<=a
   . simp only[hx,decide_true,oT];rw[wy w y z r (i+1) (a-w x) (by omega)];have e:((cL w (x::r):Nat):Int)=w x+(cL w r:Nat):=by simp[cL]
     rw[e];by_cases h2:((cL w r:Nat):Int)<=a-w x
     . rw[if_pos h2,if_pos (by omega)]; congr 1; omega
     . rw[if_neg h2,if_neg (by omega)]
   . simp only[hx,decide_false,oF];rw[if_neg];have e:((cL w (x::r):Nat):Int)=w x+(cL w r:Nat):=by simp[cL]
     rw[e]; omega
theorem lW{α:Type}(c:α->Nat):∀ {xs:List α} {i:Nat} {x:α},xs[i]? = some x->c x<=cL c xs
 | [],i,x,h=>by simp at h
 | y::r,0,x,h=>by simp at h; subst h; simp[cL]
 | y::r,i+1,x,h=>by have:=lW c (xs:=r) (i:=i) (x:=x) (by simpa using h);simp only[cL,aff,ahc]at this ⊢;omega
theorem oK{α:Type}(w:α->Nat)(xs:List α):xs.length<=wL w xs:=Nat.le_add_right _ _
theorem mG{α:Type}(w:α->Nat){xs:List α}{y:α}(h:y∈xs):w y<=wL w xs:=by obtain⟨i,hi⟩:=ag6 h;exact aeA (lW w hi) (Nat.le_add_left _ _)
theorem kK{α Y:Type}(z:List α->Y):∀(xs:List α) (i:Nat) (d:List α),ko (fun _ x (a:List α)=>Sum.inl (a++[x])) z i xs d=z (d++xs)
 | [],_,d=>by simp[ko]
 | x::r,i,d=>by rw[ko]; simp only; rw[kK z r (i+1)]; simp
mutual
def BgK:(k:K)->T k->Prop
 | .int k,x=>nB k x
 | .bool,_=>True
 | .str,s=>List.length (α:=UInt8) s<=bG
 | .sl e ks,xs=>(aQ (e:=e) (ks:=ks) xs).length<=bG/\∀ y∈aQ (e:=e) (ks:=ks) xs,yJ ks y
def yJ:(ks:List K)->Tl ks->Prop
 | [],_=>True
 | k::ks,x=>BgK k x.1/\yJ ks x.2
end
def Zj(E:En)(rd:Nat->Bool):List (Nat×Nat)->List K->Nat->Bool
 | [],[],_=>true
 | (o,u)::r,ks,off=>Nat.beq o off&&(rd u&&match E.ti u with
   | some tu=>K.kG (ks.take tu.ks.length) tu.ks&&(Nat.ble tu.ks.length ks.length&&Zj E rd r (ks.drop tu.ks.length) (off+tu.ks.length))
   | none=>false)
 | _,_,_=>false
def OD(E:En):Nat->Nat->Bool
 | 0,_=>false
 | n+1,t=>match E.ti t with
   | some ti=>(match ti.agg with
     | true=>Zj E (OD E n) ti.flds ti.ks 0
     | false=>(match ti.ks with
       | [.sl e ks]=>(match E.ti e with | some te=>K.kG ks te.ks&&(Nat.blt 0 te.bytes&&(Nat.blt 0 te.ks.length&&OD E n e)) | none=>false)
       | _=>true))
   | none=>false
section
variable{H:Type}{enc:TypeId×Value->H}{P:Program}{w:World}{spare:Nat->Bool}{held:Bool}{E:En}
theorem Ah(w:World):∀(ks:List K) (x:Tl ks) (cs:List Value) (b o:Nat),qc (gM w) w ks x cs->(∀ j v,cs[j]? = some v->w.cell? ⟨b,o+j,none⟩=some v)->pz (gM w) w ks x b o
 | [],_,_,_,_,_,_=>trivial
 | k::ks,x,[],b,o,h,_=>h.elim
 | k::ks,x,v::vs,b,o,h,hc=>⟨⟨v,hc 0 v rfl,h.1⟩,Ah w ks x.2 vs b (o+1) h.2 fun j u hu=>by have:=hc (j+1) u (by simpa using hu); rwa [show o+1+j=o+(j+1)by omega]⟩
theorem GD(w:World){Z:Nat->Prop}:∀(a b:List K) (cs cs':List Value) (x:Tl a) (y:Tl b),qc Z w a x cs->yJ a x->qc Z w b y cs'->yJ b y->∃ z:Tl (a++b),qc Z w (a++b) z (cs++cs')/\yJ (a++b) z
 | [],b,[],cs',_,y,_,_,h,hb=>⟨y,h,hb⟩
 | [],b,_::_,cs',_,y,h,_,_,_=>h.elim
 | k::a,b,[],cs',x,y,h,_,_,_=>h.elim
 | k::a,b,v::vs,cs',x,y,h,hx,h',hb=>by obtain⟨z,h1,h2⟩:=GD w a b vs cs' x.2 y h.2 hx.2 h' hb;exact⟨(x.1,z),⟨h.1,h1⟩,⟨hx.1,h2⟩⟩
theorem uC{α:Type}(p:Nat->α->Prop):∀(n:Nat),(∀ i,i<n->∃ x,p i x)->∃ xs:List α,xs.length=n/\∀ i x,xs[i]? = some x->p i x
 | 0,_=>⟨[],rfl,fun i x h=>by simp at h⟩
 | n+1,h=>by
   obtain⟨xs,h1,h2⟩:=uC p n fun i hi=>h i (by omega)
   obtain⟨x,hx⟩:=h n (by omega);refine⟨xs++[x],by simp[h1],fun i y hy => ?_⟩;by_cases hi:i<n
   . rw[ae4 (by omega)]at hy;exact h2 i y hy
   . rw[ae3 (by omega),h1]at hy;cases hk:i-n with
     | zero => rw[hk]at hy;simp only[aeu,aen]at hy;subst hy;rwa [show i=n by omega]
     | succ k=>rw[hk]at hy; simp at hy
theorem sX{base:Nat}{a:Addr}{n:Nat}{cs:List Value}(h:w.cells? base a n=some cs):cs.length=n/\∀ j v,cs[j]? = some v->w.cell? (a.add j)=some v:=by
 unfold World.cells? at h;split at h
 . refine⟨by simpa using mapM_some_length h,fun j v hj => ?_⟩;have hjl:j<n:=by
    have:=(aeW.1 hj).1;have h2:cs.length=n:=by simpa using mapM_some_length h
    omega
   have:=mapM_some_get h j j (by simp[hjl]);rw[this,hj]
 . simp at h
theorem z7{a:Addr}{v:Value}(h:w.cell? a=some v):a.spot=none/\a.block<w.heap.size:=by
 unfold World.cell? at h;split at h
 . rename_i c _ _ hb;split at h
   . simp at h
   . rename_i hs;refine⟨by simpa using hs,?_⟩;rcases aeD a.block w.heap.size with hh | hh
     . exact hh
     . rw[aeH hh]at hb; simp at hb
 . simp at h
theorem nI{e:TypeId}:∀(l:List (DataW H)) {d:DataW H},d∈l->∀ n∈d.weights P e,n∈DataW.weightsAll P e l
 | [],_,h,_,_=>by simp at h
 | x::r,d,h,n,hn=>by
   simp only[DataW.weightsAll,afw];rcases aew.1 h with h | h
   . subst h; exact .inl hn
   . exact .inr (nI r h n hn)
theorem EA{ks a:List K}{cs:List Value}{m o:Nat}(hk:ks.take m=a)(hm:a.length=m){x:Tl a}{y:Tl (ks.drop m)}(x1:qc (gM w) w a x ((cs.drop o).take m))(x2:yJ a x)(y1:qc (gM w) w (ks.drop m) y (cs.drop (o+m)))(y2:yJ (ks.drop m) y):∃ z:Tl ks,qc (gM w) w ks z (cs.drop o)/\yJ ks z:=by
 have h:=GD w _ _ _ _ x y x1 x2 y1 y2;have e1:a++ks.drop m=ks:=by rw[<- hk]; exact ago m ks
 have e2:(cs.drop o).take m++cs.drop (o+m)=cs.drop o:=by rw[<- List.drop_drop,ago]
 rw[e1,e2]at h;exact h
theorem Q8(hT:cf P E):∀(n t:Nat) (ti:TI),OD E n t=true->E.ti t=some ti->∀(fuel:Nat) (cs:List Value) (d:DataW H) (ps:List MemPlace),DataW.trod enc P w 0 spare held fuel t cs=some (d,ps)->(∀ m∈d.weights P t,m<=bG)->∃ x:Tl ti.ks,qc (gM w) w ti.ks x cs/\yJ ti.ks x:=by
 intro n;induction n with
 | zero=>intro t ti h; simp[OD]at h
 | succ n ih =>
   intro t ti hrd hti fuel cs d ps htr hw;have hTi:=hT t ti hti;obtain⟨dd,hu,hdd⟩:=hTi.desc;unfold OD at hrd;rw[hti]at hrd;simp only at hrd;obtain⟨inf,hinf,hsz,_⟩:=hTi.info;have hcell:P.cellsOf t=ti.ks.length:=by simp[Program.cellsOf,hinf,hsz]
   cases dd with
   | bool => obtain⟨hag,hks⟩:=hdd;obtain⟨b,rfl,_⟩:=DataW.trod_bool hu htr;rw[hks];exact⟨(b,()),⟨rfl,trivial⟩,⟨trivial,trivial⟩⟩
   | int k =>
     obtain⟨hag,hks⟩:=hdd;obtain⟨v,rfl,_,hwf⟩:=DataW.trod_int hu htr;rw[hks];have hin:nB k v:=by simpa[Lit.wf,nB]using hwf
     exact⟨(v,()),⟨⟨rfl,hin⟩,trivial⟩,⟨hin,trivial⟩⟩
   | string => obtain⟨hag,hks⟩:=hdd;obtain⟨v,rfl,hx,_⟩:=DataW.trod_string hu htr;simp only[aeT]at hx;obtain⟨rfl,_⟩:=hx;rw[hks];have hl:=hw v.data.toList.length (by simp[DataW.weights]);exact⟨(v.data.toList,()),⟨⟨by simp[eQ],hl⟩,trivial⟩,⟨hl,trivial⟩⟩
   | slice e =>
     obtain⟨hag,ks,hks,hel⟩:=hdd;obtain⟨ag,kk,el,by',fl⟩:=ti;simp only at hks hel hag;subst hks;subst hel;subst hag;simp only at hrd;cases hte:E.ti el with
     | none=>rw[hte]at hrd; simp at hrd
     | some te =>
     rw[hte]at hrd;simp only[aeo]at hrd;obtain⟨r1,r2,r3,r4⟩:=hrd;have hkk:=K.jI _ _ r1;subst hkk;have hby:0<te.bytes:=afr (aeJ r2);have hkl:0<te.ks.length:=afr (aeJ r3);obtain⟨inf2,hinf2,hsz2,hby2,_⟩:=(hT el te hte).info;have hce:P.cellsOf el=te.ks.length:=by simp[Program.cellsOf,hinf2,hsz2]
     have hbe:P.bytesOf el=te.bytes:=by simp[Program.bytesOf,hinf2,hby2]
     rcases DataW.trod_slice hu htr with ⟨rfl,_⟩ | ⟨a,len,cap,elems,rest,m,_,rfl,hx,_,hlc,hcm,hlen,hel,_⟩
     . exact⟨(([]:List (Tl te.ks)),()),⟨⟨none,0,rfl,oR _,aeC _,fun _=>rfl,fun h=>absurd rfl h⟩,trivial⟩,⟨⟨aeC _,fun y hy=>by simp[aQ]at hy⟩,trivial⟩⟩
     . simp only[aeT]at hx;obtain⟨rfl,_⟩:=hx;have hwl:(elems.length+rest.length) * te.bytes<=bG:=by
        have:=hw ((elems.length+rest.length) * P.bytesOf el) (by simp[DataW.weights,hu]);rwa [hbe]at this
       have hlb:len<=bG:=by have:=afP (elems.length+rest.length) hby;omega
       rw[hce]at hel;have hone:∀ i,i<len->∃ x:Tl te.ks,(a.spot=none∨0<i)/\(∃ cells,w.cells? 0 (a.add (i * te.ks.length)) te.ks.length=some cells/\qc (gM w) w te.ks x cells)/\yJ te.ks x:=fun i hi=>by
        have h1:=hel i hi;have hei:elems[i]? = some (elems[i]'(by omega)):=aeq (by omega);rw[hei]at h1;obtain⟨cells,hc1,hc2⟩:=afF.1 h1;obtain⟨x,hx1,hx2⟩:=ih el te r4 hte m cells _ _ hc2 fun q hq=>hw q (by simp only[DataW.weights,hu,aew,afw];right; left;exact nI (elems.map (·.1)) (afM.2 ⟨_,List.getElem_mem (by omega:i<elems.length),rfl⟩) q hq)
        refine⟨x,?_,⟨cells,hc1,hx1⟩,hx2⟩;rcases aga i with h0 | h0
        . left;subst h0;obtain⟨g1,g2⟩:=sX hc1;obtain⟨v,hv⟩:∃ v,cells[0]? = some v:=⟨cells[0]'(by omega),aeq (by omega)⟩;have:=g2 0 v hv;simp[Addr.add]at this;exact(z7 this).1
        . exact .inr h0
       obtain⟨xs,hxl,hxs⟩:=uC _ len hone;refine⟨((xs:List (Tl te.ks)),()),⟨⟨some a,cap,by show Value.slice (some a) len cap= .slice (some a) xs.length cap; rw[hxl],by show xs.length<=cap; omega,by show xs.length<=bG; omega,fun h=>by simp at h,fun hne => ?_⟩,trivial⟩,⟨⟨by show xs.length<=bG; omega,fun y hy => ?_⟩,trivial⟩⟩
       . have hpos:0<xs.length:=ag7.2 hne;have hx0:=hxs 0 _ (aeq hpos);have hsp:a.spot=none:=by
          rcases hx0.1 with h | h
          . exact h
          . omega
         obtain⟨ab,ao,asp⟩:=a;simp only at hsp;subst hsp;have hadd:∀ o k,(⟨ab,o,none⟩:Addr).add k=⟨ab,o+k,none⟩:=fun o k=>by
          unfold Addr.add;split
          . rename_i h; subst h; rfl
          . rfl
         have hblk:ab<w.heap.size:=by obtain⟨_,⟨cells,hc1,hc2⟩,_⟩:=hx0;obtain⟨g1,g2⟩:=sX hc1;obtain⟨v,hv⟩:∃ v,cells[0]? = some v:=⟨cells[0]'(by omega),aeq (by omega)⟩;have:=g2 0 v hv;rw[hadd,hadd]at this;exact(z7 this).2
         refine⟨ab,ao,rfl,hblk,hblk,fun i x hi => ?_⟩;obtain⟨_,⟨cells,hc1,hc2⟩,_⟩:=hxs i x hi;obtain⟨g1,g2⟩:=sX hc1;refine Ah w te.ks x cells ab (ao+i * te.ks.length) hc2 fun j v hj => ?_
         have:=g2 j v hj;rw[hadd,hadd]at this;exact this
       . obtain⟨i,hi⟩:=ag6 hy;exact(hxs i y hi).2.2
   | struct fs =>
     obtain⟨hag,hfl,_⟩:=hdd;rw[hag]at hrd;simp only at hrd;obtain⟨xs,m,_,hx,hlen,hxl,hget⟩:=DataW.trod_struct hu htr;simp only[aeT]at hx;obtain⟨rfl,_⟩:=hx;rw[hcell]at hlen;have key:∀(l:List (Nat×Nat)) (ks:List K) (off i:Nat),(∀ j,H6 l j=H6 ti.flds (i+j))->off+ks.length=ti.ks.length->Zj E (OD E n) l ks off=true->∃ x:Tl ks,qc (gM w) w ks x (cs.drop off)/\yJ ks x:=by
      intro l;induction l with
      | nil =>
        intro ks off i hf ho hb;cases ks with
        | nil => rw[List.drop_of_length_le (by simp at ho; omega)];exact⟨(),trivial,trivial⟩
        | cons k ks=>simp[Zj]at hb
      | cons p r ihl =>
        intro ks off i hf ho hb;obtain⟨o,u⟩:=p
        have hb':(Nat.beq o off&&(OD E n u&&match E.ti u with
         | some tu=>K.kG (ks.take tu.ks.length) tu.ks&&(Nat.ble tu.ks.length ks.length&&Zj E (OD E n) r (ks.drop tu.ks.length) (off+tu.ks.length))
         | none=>false))=true:=by
         cases ks <;> exact hb
        simp only[aeo]at hb';obtain⟨b1,b2,b3⟩:=hb';cases htu:E.ti u with
        | none=>rw[htu]at b3; simp at b3
        | some tu =>
        rw[htu]at b3;simp only[aeo]at b3;obtain⟨b3,b4,b5⟩:=b3;have ho':=beq_eq b1;subst ho';have hks:=K.jI _ _ b3;have hkl:tu.ks.length<=ks.length:=aeJ b4;have h0:=hf 0;rw[aeQ]at h0;obtain⟨fi,f1,f2,f3⟩:=hfl i o u h0.symm;have hg:=hget i fi f1;rw[f2,f3]at hg;obtain⟨inu,hinu,hsu,_⟩:=(hT u tu htu).info;have hcu:P.cellsOf u=tu.ks.length:=by simp[Program.cellsOf,hinu,hsu]
        rw[hcu]at hg;have hil:i<xs.length:=by rw[hxl]; exact(aeP.1 f1).1
        rw[aeq hil]at hg;obtain⟨x,x1,x2⟩:=ih u tu b2 htu m _ _ _ hg fun q hq=>hw q (by
         simp only[DataW.weights,hu];refine DataW.weights_mem_each (j:=i) (t:=u) (d:=xs[i].1) ?_ ?_ q hq
         . rw[ae2,aer,f1,aeM,f3]
         . rw[ae2,aeq hil]; rfl)
        obtain⟨y,y1,y2⟩:=ihl (ks.drop tu.ks.length) (o+tu.ks.length) (i+1) (fun j=>by rw[show i+1+j=i+(j+1)by omega,<- hf (j+1)]; rfl) (by rw[af9]; omega) b5;exact EA hks rfl x1 x2 y1 y2
     obtain⟨x,x1,x2⟩:=key ti.flds ti.ks 0 0 (fun j=>by rw[aex]) (by omega) hrd;exact⟨x,x1,x2⟩
   | _=>exact hdd.elim
end
def FA(E:En):List Nat->List PK->Bool
 | [],[]=>true
 | t::ts,.c g ks::ps=>(match E.ti t with | some ti=>bS g ti.agg&&(K.kG ks ti.ks&&OD E 30 t) | none=>false)&&FA E ts ps
 | _,_=>false
def TJ:(ps:List PK)->PT ps->Prop
 | [],_=>True
 | .c _ ks::ps,x=>yJ ks x.1/\TJ ps x.2
 | .pt _::ps,x=>TJ ps x.2
 | .nil::ps,x=>TJ ps x
 | .fn _ _::ps,x=>TJ ps x.2
 | .io _ _::ps,x=>TJ ps x.2
 | .mv _::ps,x=>TJ ps x.2
 | .pw _::ps,x=>TJ ps x.2
section
variable{H:Type}{enc:TypeId×Value->H}{P:Program}{w:World}{spare:Nat->Bool}{held:Bool}{E:En}
theorem UF(hT:cf P E){t:Nat}{ti:TI}(hr:OD E 30 t=true)(hti:E.ti t=some ti){base:Nat}{v:Value}(hv:Value.okWide P w .any base t v){d:DataW H}{p:List MemPlace}(h:DataW.Trod enc P w 0 spare held t v d p)(hw:∀ m∈d.weights P t,m<=bG) :
 ∃ x:Tl ti.ks,U3 (gM w) w ti.agg ti.ks x v/\yJ ti.ks x:=by
 obtain⟨fuel,h⟩:=h;obtain⟨x,h1,h2⟩:=Q8 hT 30 t ti hr hti fuel _ d p h hw;refine⟨x,⟨v.cells.toList,?_,h1⟩,h2⟩;obtain⟨dd,hu,hdd⟩:=(hT t ti hti).desc;unfold Value.okWide at hv;rw[hu]at hv;cases dd with
 | struct fs => obtain⟨cs,rfl,_⟩:=hv;rw[hdd.1];show Value.agg cs= .agg cs.toList.toArray;simp
 | bool => rw[hdd.1];unfold Cell.okWide at hv;rw[hu]at hv;cases v <;> first | rfl | exact(by simp[Cell.ok,hu]at hv)
 | int k => rw[hdd.1];unfold Cell.okWide at hv;rw[hu]at hv;cases v <;> first | rfl | exact(by simp[Cell.ok,hu]at hv)
 | string => rw[hdd.1];unfold Cell.okWide at hv;rw[hu]at hv;cases v <;> first | rfl | exact(by simp[Cell.ok,hu]at hv)
 | slice e => rw[hdd.1];unfold Cell.okWide at hv;rw[hu]at hv;cases v <;> first | rfl | exact(by simp[Cell.ok,hu]at hv)
 | _=>exact hdd.elim
theorem CW{base:Nat}{spare:Nat->Bool}{held:Bool}:∀(ts:List Nat) (vs:List Value) (ds:List (DataW H)) (pl:List MemPlace),DataW.TrodAll enc P w base spare held ts vs ds pl->ds.length=ts.length
 | [],[],[],_,_=>rfl
 | t::ts,v::vs,d::ds,_,h=>by obtain⟨p,q,_,h2,_⟩:=h;simp[CW ts vs ds q h2]
 | [],_::_,_,_,h=>h.elim
 | [],[],_::_,_,h=>h.elim
 | _::_,[],_,_,h=>h.elim
 | _::_,_::_,[],_,h=>h.elim
theorem DE(hT:cf P E){base:Nat}:∀(ts:List Nat) (ps:List PK),FA E ts ps=true->∀(vs:List Value) (ds:List (DataW H)) (pl:List MemPlace) (n:Nat),DataW.TrodAll enc P w 0 spare held ts vs ds pl->(∀(j:Nat) t v,ts[j]? = some t->vs[j]? = some v->Value.okWide P w .any base t v) ->
 (∀ m∈DataW.weightsEach P ts ds,m<=bG)->∃ x:PT ps,dv (gM w) w (fun _ _=>False) ps x vs n/\TJ ps x
 | [],[],_,[],[],pl,n,h,hv,hw=>⟨(),trivial,trivial⟩
 | [],[],_,_::_,_,pl,n,h,hv,hw=>h.elim
 | [],[],_,[],_::_,pl,n,h,hv,hw=>h.elim
 | t::ts,.c g ks::ps,hp,[],ds,pl,n,h,hv,hw=>h.elim
 | t::ts,.c g ks::ps,hp,_::_,[],pl,n,h,hv,hw=>h.elim
 | t::ts,.c g ks::ps,hp,v::vs,d::ds,pl,n,h,hv,hw=>by
   obtain⟨p,q,h1,h2,_⟩:=h;unfold FA at hp;simp only[aeo]at hp;obtain⟨hp1,hp2⟩:=hp;cases hti:E.ti t with
   | none=>rw[hti]at hp1; simp at hp1
   | some ti => rw[hti]at hp1;simp only[aeo]at hp1;obtain⟨b1,b2,b3⟩:=hp1;have e1:=dL b1;have e2:=K.jI _ _ b2;subst e1;subst e2;obtain⟨x,x1,x2⟩:=UF hT b3 hti (hv 0 t v rfl rfl) h1 (fun m hm=>hw m (by simp only[DataW.weightsEach,afw]; exact .inl hm));obtain⟨y,y1,y2⟩:=DE hT ts ps hp2 vs ds q n h2 (fun j t' v' ht hv'=>hv (j+1) t' v' (by simpa using ht) (by simpa using hv')) (fun m hm=>hw m (by simp only[DataW.weightsEach,afw]; exact .inr hm));exact⟨(x,y),⟨x1,y1⟩,⟨x2,y2⟩⟩
 | [],.c _ _::_,hp,_,_,_,_,_,_,_=>by simp[FA]at hp
 | [],.pt _::_,hp,_,_,_,_,_,_,_=>by simp[FA]at hp
 | [],.nil::_,hp,_,_,_,_,_,_,_=>by simp[FA]at hp
 | [],.fn _ _::_,hp,_,_,_,_,_,_,_=>by simp[FA]at hp
 | [],.io _ _::_,hp,_,_,_,_,_,_,_=>by simp[FA]at hp
 | [],.mv _::_,hp,_,_,_,_,_,_,_=>by simp[FA]at hp
 | _::_,[],hp,_,_,_,_,_,_,_=>by simp[FA]at hp
 | _::_,.pt _::_,hp,_,_,_,_,_,_,_=>by simp[FA]at hp
 | _::_,.nil::_,hp,_,_,_,_,_,_,_=>by simp[FA]at hp
 | _::_,.fn _ _::_,hp,_,_,_,_,_,_,_=>by simp[FA]at hp
 | _::_,.io _ _::_,hp,_,_,_,_,_,_,_=>by simp[FA]at hp
 | _::_,.mv _::_,hp,_,_,_,_,_,_,_=>by simp[FA]at hp
theorem Ia{fresh:Bool}{Z:Nat->Prop}{w:World}{H:Nat->Nat->Prop}{b:Bool}:∀ {vs:List Value},lk fresh Z w H [(false,[.bool])] ((b,()),()) vs 0->vs=[.bool b]
 | [],h=>h.elim
 | [v],h=>by obtain⟨⟨cs,hc,hcells⟩,_⟩:=h;have hc:cs=[v]:=hc;subst hc;have hv:v= .bool b:=hcells.1;rw[hv]
 | _::_::_,h=>h.2.elim
theorem IZ {f : Nat} {fn : Func} {c : Code} {s : Su} (hsu : au P f s) (hf : P.funcs[f]? = some fn) (hname : (fn.name == "runtime.NumGoroutine") = false) (hb : fn.body = some c)
 (hgl:Gl P w (gM w)) {args:Array Value} {x:PT s.ps} (hargs:dv (gM w) w (fun _ _=>False) s.ps x args.toList 0)
 (hlaw:∃ y,s.sO x=some y/\∀(Z:Nat->Prop) (w':World) (H:Nat->Nat->Prop) (vs:List Value),lk s.fresh Z w' H s.rs y.2 vs 0->vs=[.bool true]) :
 Calls P f args w fun e w'=>e= .returned (.bool true)/\Below w.heap.size w w':=by
 obtain⟨y,hy,hres⟩:=hlaw;have h:=hsu w (gM w) (fun _ _=>False) args x y hgl hargs (fun b hb=>hb) (fun i b hb=>hb.elim) (fun i j b hb=>hb.elim) hy;rw[MuLone.run_callFunc_enter hf hname hb]at h;have h:Calls P f args w _:=h;refine h.mono fun e w' he => ?_
 cases e with
 | returned v => obtain⟨Z',H',vs,rfl,ha,_,hr⟩:=he;have hvs:=hres Z' w' _ vs hr;subst hvs;exact⟨rfl,ha.os,ha.tape,ha.output,ha.size,fun k hk=>ha.block k hk fun i hi=>hi⟩
 | _=>exact he.elim
theorem Below.trodAll(hl:laidOutB P=true){W W':World}(hb:Below W.heap.size W W'):∀(ts:List TypeId) (vs:List Value) (ds:List (DataW H)) (ps:List MemPlace),(∀ t∈ts,P.readableRec t=true/\t<P.types.size)->DataW.TrodAll enc P W 0 (fun _=>true) true ts vs ds ps->(∀ x∈ps,x.block<W.heap.size)->DataW.TrodAll enc P W' 0 (fun b=>decide (b<W.heap.size)) true ts vs ds ps
 | [],[],[],ps,_,h,_=>h
 | t::ts,v::vs,d::ds,ps,ht,h,hlt=>by obtain⟨p,q,h1,h2,rfl⟩:=h;exact⟨p,q,Below.trod hl (ht t (aeI ..)).1 (ht t (aeI ..)).2 h1 hb (fun x hx=>hlt x (af3 _ hx)),Below.trodAll hl hb ts vs ds q (fun t ht'=>ht t (aeB _ ht')) h2 (fun x hx=>hlt x (agn _ hx)),rfl⟩
 | [],_::_,_,_,_,h,_=>h.elim
 | [],[],_::_,_,_,h,_=>h.elim
 | _::_,[],_,_,_,h,_=>h.elim
 | _::_,_::_,[],_,_,h,_=>h.elim
theorem Lv{fn:Func}{s:ChangeSpec}(hl:laidOutB P=true)(hvars:s.vars=[]){rt:TypeId}(hrt:fn.resultTypes = #[rt])(hru:P.underlying rt=some .bool)(hpar:∀ t∈fn.params.toList,P.readableRec t=true/\t<P.types.size)
 {W W':World}{args:Array Value}{ds gs:List (DataW H)}{before:List MemPlace}(hW:DataW.Whole enc P fn.params.toList s.vars false W args.toList ds gs before)(hb:Below W.heap.size W W')
 (hs:s.fn H (ds++gs)={ results:=[.lit (.bool true)],args:=ds }):s.post enc P fn false true false false W args (.bool true) W':=by
 have hlt:=hW.lt;have hW0:=hW;obtain⟨p,q,hA,hV,rfl,_,_⟩:=hW;rw[hvars]at hV;obtain⟨rfl,rfl⟩:gs=[]/\q=[]:=by
  cases gs with
  | nil=>exact⟨rfl,hV⟩
  | cons _ _=>exact hV.elim
 refine⟨ds,[],_,[],p,[],hW0,?_,?_,?_,hb.frame _,fun h=>by simp at h⟩
 . rw[hs,hrt];exact⟨[],[],Go.RowKit.shut_bool hru true,rfl,rfl⟩
 . rw[hs];exact Below.trodAll hl hb _ _ _ _ hpar hA fun x hx=>by have:=hlt x (af3 _ hx); simpa using this
 . rw[hs,hvars];rfl
end
structure WW {α:Type} (lt:α->α->Bool):Prop where
 irr:∀ a,lt a a=false
 trans:∀ a b c,lt a b=true->lt b c=true->lt a c=true
 neg:∀ a b c,lt a c=true->lt a b=true∨lt b c=true
def eqv{α:Type}(lt:α->α->Bool)(a b:α):Bool:= !lt a b&& !lt b a
def BW{α:Type}(lt:α->α->Bool)(xs ys:List α):Prop:=xs.length=ys.length/\∀ z,xs.filter (eqv lt z)=ys.filter (eqv lt z)
section
variable{α:Type}{lt:α->α->Bool}
theorem Mc(h:WW lt)(a:α):eqv lt a a=true:=by simp[eqv,h.irr]
theorem BD{a b:α}:eqv lt a b=true↔lt a b=false/\lt b a=false:=by simp[eqv]
theorem WW.le_trans(h:WW lt){a b c:α}(h1:lt b a=false)(h2:lt c b=false):lt c a=false:=by
 cases hc:lt c a with
 | false=>rfl
 | true=>rcases h.neg c b a hc with h3 | h3 <;> simp_all
theorem I2(h:WW lt){a b c:α}(h1:eqv lt a b=true)(h2:eqv lt b c=true):eqv lt a c=true:=by
 rw[BD]at *
 exact⟨h.le_trans h2.1 h1.1,h.le_trans h1.2 h2.2⟩
theorem MS{a b:α}(h:eqv lt a b=true):eqv lt b a=true:=by rw[BD]at *; exact⟨h.2,h.1⟩
theorem BW.refl(xs:List α):BW lt xs xs:=⟨rfl,fun _=>rfl⟩
theorem BW.symm{xs ys:List α}(h:BW lt xs ys):BW lt ys xs:=⟨h.1.symm,fun z=>(h.2 z).symm⟩
theorem BW.trans{xs ys zs:List α}(h1:BW lt xs ys)(h2:BW lt ys zs):BW lt xs zs:=⟨h1.1.trans h2.1,fun z=>(h1.2 z).trans (h2.2 z)⟩
theorem BW.append{a b c d:List α}(h1:BW lt a b)(h2:BW lt c d):BW lt (a++c) (b++d):=⟨by simp[h1.1,h2.1],fun z=>by simp[h1.2 z,h2.2 z]⟩
theorem BW.mem(h:WW lt){xs ys:List α}(hs:BW lt xs ys){x:α}:x∈xs↔x∈ys:=by
 have key:∀ {xs ys:List α},BW lt xs ys->x∈xs->x∈ys:=fun {xs ys} hs hx=>by have:x∈xs.filter (eqv lt x):=afA.2 ⟨hx,Mc h x⟩;rw[hs.2 x]at this;exact(afA.1 this).1
 exact⟨key hs,key hs.symm⟩
theorem BW.swap(h:WW lt){a b:List α}(hab:∀ x∈a,∀ y∈b,lt y x=true):BW lt (a++b) (b++a):=by
 refine⟨by simp[Nat.add_comm],fun z => ?_⟩;rw[af1,af1];by_cases ha:a.filter (eqv lt z)=[]
 . rw[ha]; simp
 . by_cases hb:b.filter (eqv lt z)=[]
   . rw[hb]; simp
   . exfalso;obtain⟨x,hx⟩:=List.exists_mem_of_ne_nil _ ha;obtain⟨y,hy⟩:=List.exists_mem_of_ne_nil _ hb;have hx:=afA.1 hx;have hy:=afA.1 hy;have:=I2 h (MS hx.2) hy.2;rw[BD]at this;rw[hab x hx.1 y hy.1]at this;simp at this
end
open Go.Shelf Go.Proofs Go.Lib
section
variable{P:Program}{w w':World}{Z Z':Nat->Prop}{F G:Nat->Nat->Prop}
theorem mu:∀(ps:List PK) (x:PT ps) (y:rm ps) (vs:List Value) (n m:Nat),dv Z w F ps x vs n->lu ps=false->tV Z' w' G ps y vs m
 | [],_,_,[],_,_,_,_=>trivial
 | [],_,_,_::_,_,_,h,_=>h.elim
 | .c _ _::ps,x,y,v::vs,n,m,h,hi=>mu ps x.2 y vs n m h.2 hi
 | .pt _::ps,x,y,v::vs,n,m,h,hi=>mu ps x.2 y vs n m h.2 hi
 | .nil::ps,x,y,v::vs,n,m,h,hi=>mu ps x y vs n m h.2 hi
 | .fn _ _::ps,x,y,v::vs,n,m,h,hi=>mu ps x.2 y vs n m h.2 hi
 | .mv _::ps,x,y,v::vs,n,m,h,hi=>mu ps x.2 y vs (n+1) (m+1) h.2 hi
 | .io _ _::ps,_,_,_,_,_,_,hi=>by simp[lu]at hi
 | .c _ _::_,_,_,[],_,_,h,_=>h.elim
 | .pt _::_,_,_,[],_,_,h,_=>h.elim
 | .nil::_,_,_,[],_,_,h,_=>h.elim
 | .fn _ _::_,_,_,[],_,_,h,_=>h.elim
 | .mv _::_,_,_,[],_,_,h,_=>h.elim
def P2(w:World)(Z:Nat->Prop)(s:Su)(y:CT s.rs)(e:Ending)(w':World):Prop :=
 ∃(vs:List Value) (H:Nat->Nat->Prop),e= .returned (yu vs)/\Below w.heap.size w w'/\(∀ n b,H n b->w.heap.size<=b/\b<w'.heap.size)/\(∀ n m b,H n b->H m b->n=m)/\lk s.fresh Z w' H s.rs y vs 0
theorem FM {f : Nat} {fn : Func} {c : Code} {s : Su} (hf : P.funcs[f]? = some fn) (hname : (fn.name == "runtime.NumGoroutine") = false) (hb : fn.body = some c) (hio : lu s.ps = false)
 (h:∀(w:World) (Z:Nat->Prop) (F:Nat->Nat->Prop) (args:Array Value) (x:PT s.ps) (y:rm s.ps×CT s.rs),Gl P w Z->(∀ b,Z b->b<w.heap.size)->dv Z w F s.ps x args.toList 0->s.sO x=some y->Calls P f args w (P2 w Z s y.2)):au P f s:=by
 intro w Z F args x y hgl hargs hZ hF hd hy;rw[MuLone.run_callFunc_enter hf hname hb];show Calls P f args w _;refine(h w Z F args x y hgl hZ hargs hy).mono fun e w' ⟨vs,H,he,hb,h1,h2,hr⟩ => ?_
 subst he;refine⟨Z,fun n b=>∃ j,n=2 * j+1/\H j b,vs,rfl,?_,mu _ x _ _ 0 0 hargs hio,lk.mono (fun n b hb=>⟨n,rfl,hb⟩) _ _ _ _ hr⟩
 exact { os:=hb.os,tape:=hb.tape,output:=hb.output,size:=hb.size
         block:=fun b hlt _=>hb.block b hlt
         z:=fun b hb=>hb
         bL:=fun b hz=>⟨aeK (hZ b hz) hb.size,.inl hz⟩
         fp:=fun n b ⟨j,_,hh⟩=>⟨(h1 j b hh).2,fun hz=>by have:=hZ b hz; have:=(h1 j b hh).1; omega,.inr (h1 j b hh).1⟩
         disj:=fun n m b ⟨j,e1,h3⟩ ⟨j',e2,h4⟩=>by have:=h2 j j' b h3 h4; omega }
theorem Uy{nm:String}{k:IntKind}{zs:List Int}(h:Gl P w Z)(hm:(nm,Ww k zs)∈gl0){g:Nat}(hg:P.globalNamed nm=some g):Lib.TabIs P w nm k zs:=by obtain⟨⟨e,fr,h1⟩,_,_⟩:=h _ hm g hg;simp only[Lib.TabIs,World.var?,hg,oB,h1]
theorem K4{fr:Bool}{s:S8}(h:s.length<=bG):lk fr Z w (fun _ _=>False) [(false,[.str])] ((s,()),()) [.string ⟨s.toArray⟩] 0 :=
 ⟨⟨[.string ⟨s.toArray⟩],rfl,⟨rfl,h⟩,trivial⟩,trivial⟩
theorem Gv{k:IntKind}{x:Tl [K.int k]}{v:Value}(h:U3 Z w false [.int k] x v):v= .int k x.1/\nB k x.1:=by obtain⟨cs,e,h⟩:=h;have e:cs=[v]:=e;subst e;exact h.1
theorem arg_str{x:Tl [K.str]}{v:Value}(h:U3 Z w false [.str] x v):v= .string (eQ x.1)/\x.1.length<=bG:=by obtain⟨cs,e,h⟩:=h;have e:cs=[v]:=e;subst e;exact h.1
def HM(n:Int):Option (Unit×(S8×Unit)×Unit):=zR (Lib.itoa n)
theorem OU {ρ : Ren} (L : LaysM.n171 P ρ) {f : Nat} (hf : f = ρ.f 171) {fn : Func} {c : Code} (h1 : P.funcs[f]? = some fn) (hname : (fn.name == "runtime.NumGoroutine") = false) (hb : fn.body = some c) : au P f ⟨[.c false [.int .i64]], [(false, [.str])], true, .inl fun x => HM x.1.1⟩ := by
 subst hf;refine FM h1 hname hb rfl fun w Z F args x y hgl hZ hargs hy => ?_
 have hy:HM x.1.1=some y:=hy;obtain rfl:=ae9 hy
 match hl:args.toList,hargs with
 | [v],⟨hv,_⟩ =>
   obtain⟨rfl,hr⟩:=Gv hv;obtain rfl:args = #[.int .i64 x.1.1]:=by rw[<- afk (xs:=args),hl]
   obtain⟨⟨n,_⟩,_⟩:=x;change Int at n;have hr:(-9223372036854775808:Int)<=n/\n<=9223372036854775807:=hr;refine(Any.strconv_Itoa L n hr.1 hr.2 w (Uy hgl (by simp[gl0]) L.m17)).mono fun e w' ⟨he,k,os,hw⟩ => ?_
   subst he hw;refine⟨[_],fun _ _=>False,rfl,below_grow _ w (oR _) k os,fun _ _ h=>h.elim,fun _ _ _ h=>h.elim,K4 ?_⟩;exact aeA (itoa_length_le _ hr.1 hr.2) (by decide)
 | [],h=>exact h.elim
 | _::_::_,h=>exact h.2.elim
def o8(s:S8)(n:Int):Option (Unit×(S8×Unit)×Unit):=cond (bM 0 n&&Nat.ble (s.length * n.toNat) bG) (zR (Lib.repeatL s n.toNat)) none
theorem IU {ρ : Ren} (L : Lays.n105 P ρ) (X : Builder.Extra P ρ) {f : Nat} (hf : f = ρ.f 105) {fn : Func} {c : Code} (h1 : P.funcs[f]? = some fn) (hname : (fn.name == "runtime.NumGoroutine") = false) (hb : fn.body = some c) : au P f ⟨[.c false [.str], .c false [.int .i64]], [(false, [.str])], true, .inl fun x => o8 x.1.1 x.2.1.1⟩ := by
 subst hf;refine FM h1 hname hb rfl fun w Z F args x y hgl hZ hargs hy => ?_
 have hy:o8 x.1.1 x.2.1.1=some y:=hy
 match hl:args.toList,hargs with
 | [v,u],⟨hv,hu,_⟩ =>
   obtain⟨rfl,hr⟩:=arg_str hv;obtain⟨rfl,hr2⟩:=Gv hu;obtain rfl:args = #[.string (eQ x.1.1),.int .i64 x.2.1.1]:=by rw[<- afk (xs:=args),hl]
   obtain⟨⟨s,_⟩,⟨n,_⟩,_⟩:=x;change S8 at s;change Int at n;simp only[o8]at hy;cases hc:bM 0 n&&Nat.ble (s.length * n.toNat) bG with
   | false=>simp[hc]at hy
   | true =>
     rw[hc]at hy;obtain rfl:=ae9 hy;simp only[aeo]at hc;have h0:0<=n:=by simpa[bM]using hc.1
     have hb:s.length * n.toNat<=140737488355328:=aeJ hc.2;obtain⟨k,rfl⟩:∃ k:Nat,n=k:=⟨n.toNat,by omega⟩;have hk:(k:Int)<=9223372036854775807:=hr2.2;refine(Any.strings_Repeat L X (eQ s) k w (by omega) (by simpa[eQ,ByteArray.size]using hb)).mono fun e w' ⟨he,hbe⟩ => ?_
     subst he;refine⟨[_],fun _ _=>False,rfl,hbe,fun _ _ h=>h.elim,fun _ _ _ h=>h.elim,K4 ?_⟩;rw[repeatL_length,agP];exact hb
 | [],h=>exact h.elim
 | [_],h=>exact h.2.elim
 | _::_::_::_,h=>exact h.2.2.elim
end
open Go.Shelf Go.Proofs Go.Lib
section
variable{P:Program}
def vI(gd:S8->Option (Unit×((Bool×Unit)×Unit)))(s:S8):Option (Unit×((Int×Unit)×(Bool×Unit)×Unit)) :=
 Option.bind (gd s) fun y=>cond (y.2.1.1&&Nat.ble s.length 18) (match Lib.atoiAll s with | .ok v=>some ((),((v,()),(true,()),())) | _=>none) (some ((),((0,()),(false,()),())))
def Gb(P:Program)(f fd fa:Nat):Prop:=∀(s:ByteArray) (b:Bool) (v:Int) (w:World) (R R2:World->Prop),Calls P fd #[.string s] w (fun e w1=>e= .returned (.bool b)/\R w1) ->
 (b=true->s.size<=18->∀ w1,R w1->Calls P fa #[.string s] w1 fun e w2=>e= .returned (.tuple #[.int .i64 v,.nilIface])/\R2 w2) ->
 Calls P f #[.string s] w fun e w'=>(b=true/\s.size<=18/\e= .returned (.tuple #[.int .i64 v,.bool true])/\R2 w')∨(¬ (b=true/\s.size<=18)/\e= .returned (.tuple #[.int .i64 0,.bool false])/\R w')
theorem TX{fr:Bool}{Z:Nat->Prop}{w:World}{v:Int}{b:Bool}(h:nB .i64 v):lk fr Z w (fun _ _=>False) [(false,[.int .i64]),(false,[.bool])] ((v,()),(b,()),()) [.int .i64 v,.bool b] 0 :=
 ⟨⟨[.int .i64 v],rfl,⟨rfl,h⟩,trivial⟩,⟨[.bool b],rfl,rfl,trivial⟩,trivial⟩
theorem JE{ρ:Ren}(L:LaysC.n172 P ρ){f fd fa:Nat}{gd:S8->Option (Unit×((Bool×Unit)×Unit))}(hd:au P fd ⟨[.c false [.str]],[(false,[.bool])],true,.inl fun x=>gd x.1.1⟩)
 {fnd : Func} {cd : Code} (d1 : P.funcs[fd]? = some fnd) (d2 : (fnd.name == "runtime.NumGoroutine") = false) (d3 : fnd.body = some cd) (hfa : fa = ρ.f 172) (W : Gb P f fd fa)
 {fn : Func} {c : Code} (h1 : P.funcs[f]? = some fn) (hname : (fn.name == "runtime.NumGoroutine") = false) (hb : fn.body = some c) : au P f ⟨[.c false [.str]], [(false, [.int .i64]), (false, [.bool])], true, .inl fun x => vI gd x.1.1⟩ := by
 subst hfa;refine FM h1 hname hb rfl fun w Z F args x y hgl hZ hargs hy => ?_
 have hy:vI gd x.1.1=some y:=hy
 match hl:args.toList,hargs with
 | [u],⟨hv,_⟩ =>
   obtain⟨rfl,hlen⟩:=arg_str hv;obtain rfl:args = #[.string (eQ x.1.1)]:=by rw[<- afk (xs:=args),hl]
   obtain⟨⟨s,_⟩,_⟩:=x;change S8 at s;have hlen:s.length<=bG:=hlen;obtain⟨yd,hyd,hy⟩:=afF.1 hy;have hC:=hd w Z (fun _ _=>False) #[.string (eQ s)] ((s,()),()) yd hgl ⟨hv,trivial⟩ hZ (fun _ _ h=>h.elim) (fun _ _ _ h=>h.elim) hyd;rw[MuLone.run_callFunc_enter d1 d2 d3]at hC;have hC:Calls P fd #[.string (eQ s)] w (fun e w1=>e= .returned (.bool yd.2.1.1)/\Below w.heap.size w w1):=by
    refine Calls.mono (show Calls P fd #[.string (eQ s)] w _ from hC) fun e w1 h => ?_
    cases e with
    | returned v =>
      obtain⟨Z',H,vs,rfl,ha,_,hr⟩:=h
      match vs,hr with
      | [v1],⟨⟨cs,e,h⟩,_⟩ => have e:cs=[v1]:=e;subst e;have h:v1= .bool yd.2.1.1:=h.1;refine⟨by rw[h]; rfl,ha.os,ha.tape,ha.output,ha.size,fun b hb=>ha.block b hb fun _ h=>h⟩
      | [],h=>exact h.elim
      | _::_::_,h=>exact h.2.elim
    | _=>exact h.elim
   have hs18:(eQ s).size=s.length:=by simp[eQ,ByteArray.size]
   have hdata:(eQ s).data.toList=s:=by simp[eQ]
   cases hc:yd.2.1.1&&Nat.ble s.length 18 with
   | false =>
     rw[hc]at hy;obtain rfl:=ae9 hy;refine(W (eQ s) yd.2.1.1 0 w (Below w.heap.size w) (fun _=>False) hC (fun e1 e2 => ?_)).mono fun e w' h => ?_
     . rw[hs18]at e2;rw[e1,aey e2]at hc;simp at hc
     . rcases h with ⟨_,_,_,h⟩ | ⟨_,rfl,hb⟩
       . exact h.elim
       . exact⟨[_,_],fun _ _=>False,rfl,hb,fun _ _ h=>h.elim,fun _ _ _ h=>h.elim,TX ⟨by decide,by decide⟩⟩
   | true =>
     rw[hc]at hy;simp only[aeo]at hc;have h18:=aeJ hc.2;simp only[oT]at hy;split at hy
     . rename_i v hv;obtain rfl:=ae9 hy;refine(W (eQ s) yd.2.1.1 v w (Below w.heap.size w) (Below w.heap.size w) hC (fun e1 e2 w1 hb => ?_)).mono fun e w' h => ?_
       . refine(Any.strconv_Atoi_ok L (eQ s) (by rw[hs18]; omega) v (by rw[hdata]; exact hv) w1).mono fun e w2 ⟨he,hw⟩=>⟨he,?_⟩
         rcases hw with rfl | ⟨t,rfl⟩
         . exact hb
         . have h2:=bytesWorld_below w1 (ρ.t 5) t;exact hb.trans ⟨h2.os,h2.tape,h2.output,h2.size,fun k hk=>h2.block k (aeK hk hb.size)⟩
       . rcases h with ⟨_,_,rfl,hb⟩ | ⟨h,_⟩
         . exact⟨[_,_],fun _ _=>False,rfl,hb,fun _ _ h=>h.elim,fun _ _ _ h=>h.elim,TX (by obtain⟨h1,h2⟩:=Lib.atoiAll_bounds hv; exact⟨h1,h2⟩)⟩
         . exact absurd ⟨hc.1,by rw[hs18]; exact h18⟩ h
     . simp at hy
 | [],h=>exact h.elim
 | _::_::_,h=>exact h.2.elim
end
theorem Pg{P:Program}{W:World}{nm:String}{k:IntKind}{zs:List Int}{g:Nat}(hg:P.globalNamed nm=some g)(h:Lib.TabIs P W nm k zs):Ww k zs W.heap[g]? /\ gM W g/\g<W.heap.size:=by
 simp only[Lib.TabIs,World.var?,hg,oB]at h;cases ho:W.heap[g]? with
 | none=>rw[ho]at h; simp at h
 | some o =>
   rw[ho]at h;have hlt:g<W.heap.size:=by
    rcases aeD g W.heap.size with h' | h'
    . exact h'
    . rw[aeH h']at ho; simp at ho
   cases o with
   | cells cs e fr=>simp only[aen]at h; subst h; exact⟨⟨e,fr,rfl⟩,hlt,hlt⟩
   | _=>simp at h
theorem O0{P:Program}{w:World}{g:Nat}{t:TypeId}{zero:Array Value}(h:w.ShapedOpen P)(hg:g<P.globals.size)
 (h0:((begin P (fun _ _=>0) default).world.heap[g]?).bind Obj.row? = some (zero,t))(hz:zero.size=1)
 (hb:P.buildable t=true)(hc:P.cellTypes P.depth t=some [t])(hu:P.underlying t=some (.int .i64)):YN w.heap[g]? /\ gM w g/\g<w.heap.size:=by
 obtain⟨m,hm⟩:=Go.Proofs.cell_of_shapedOpen_int h hg h0 hz hb hc hu;have hlt:=DQ hm;refine⟨?_,hlt,hlt⟩;simp only[World.cell?,afH,ae5,afE]at hm;cases ho:w.heap[g]? with
 | none=>rw[ho]at hm; simp at hm
 | some o =>
   rw[ho]at hm;cases o with
   | cells cs e fr=>exact⟨m,cs,e,fr,rfl,hm⟩
   | _=>simp at hm
theorem On{P:Program}{W:World}{nm:String}{g:Nat}{tp:TypeId}{X:Addr->Prop}(hg:P.globalNamed nm=some g)(h:∃ a,W.var? P nm=some #[.iface tp (.pointer (some a))]/\X a):ifP W.heap[g]? /\ gM W g/\g<W.heap.size:=by
 obtain⟨a,h,_⟩:=h;simp only[World.var?,hg,oB]at h;cases ho:W.heap[g]? with
 | none=>rw[ho]at h; simp at h
 | some o =>
   rw[ho]at h;have hlt:g<W.heap.size:=by
    rcases aeD g W.heap.size with h' | h'
    . exact h'
    . rw[aeH h']at ho; simp at ho
   cases o with
   | cells cs e fr=>simp only[aen]at h; subst h; exact⟨⟨_,_,e,fr,rfl,rfl,.inr ⟨_,_,rfl⟩⟩,hlt,hlt⟩
   | _=>simp at h
def R6(P:Program)(W:World):List (String×(Option Obj->Prop))->Prop
 | []=>True
 | (nm,p)::r=>(P.globalNamed nm=none∨∃ g,P.globalNamed nm=some g/\p W.heap[g]? /\ gM W g/\g<W.heap.size)/\R6 P W r
theorem SC{P:Program}{W:World}:∀(l:List (String×(Option Obj->Prop))),R6 P W l->∀ t∈l,∀ g,P.globalNamed t.1=some g->t.2 W.heap[g]? /\ gM W g/\g<W.heap.size
 | [],_,t,h,_,_=>by simp at h
 | (nm,p)::r,⟨h1,h2⟩,t,h,g,hg=>by
   rcases aew.1 h with e | h
   . subst e;rcases h1 with h1 | ⟨g',h3,h4⟩
     . rw[h1]at hg; simp at hg
     . obtain rfl:=ae9 (h3.symm.trans hg); exact h4
   . exact SC r h2 t h g hg
theorem DW{H:Type}{enc:TypeId×Value->H}{a:Assume}{C:Checked}{os:Os}{f:FuncId}{fn:Func}{s:ChangeSpec}{conds:List PathCond}{apart fresh handsOn again:Bool}{X:World->Array Value->Prop}
 (hX:∀(w w':World) (args:Array Value),w.heap=w'.heap->X w args->X w' args)
 (own:ownKnob C.prog.godebug=none)(started:os.Started)(noInit:C.prog.inits.idxOf? f=none)(hfn:C.prog.funcs[f]? = some fn)
 (witness:∃(w:World) (tape:Tape) (i:Input),w.os=os/\(w.forCall tape i).Shaped C.prog/\i.vars=[]/\Input.okWide C.prog (w.forCall tape i) .any w.heap.size f i /\
   ((s.pre enc C.prog fn conds apart (w.forCall tape i).memory i.args/\X (w.forCall tape i).memory i.args)/\sizedMet enc C.prog fn (OpenSpec.ofChange s) apart (w.forCall tape i).memory i.args)/\a.holds C.prog (lone (Frame.enter C.prog f i.args .normal) [] (w.forCall tape i)))
 (contract:∀(W:World) (base:Nat) (args:Array Value) (ds gs:List (DataW H)) (before:List MemPlace),
   (∀(j:Nat) t v,fn.params[j]? = some t->args[j]? = some v->Value.okWide C.prog W .any base t v) ->
   DataW.Whole enc C.prog fn.params.toList s.vars apart W args.toList ds gs before ->
   (DataW.weightsEach C.prog (fn.params.toList++s.plain.varTypes C.prog) (ds++gs)).all (· <= reachBytes)=true->X W args ->
   W.ShapedOpen C.prog ->
   Calls C.prog f args W fun e W'=>∃ v,e= .returned v/\s.post enc C.prog fn apart fresh handsOn again W args v W') :
 ReturnsInHanded a C os f .any (fun w args=>(s.pre enc C.prog fn conds apart w args/\X w args)/\sizedMet enc C.prog fn (OpenSpec.ofChange s) apart w args) (s.post enc C.prog fn apart fresh handsOn again):=by
 refine returnsInHanded_of_calls own started noInit witness ?_;intro w tape i _ hsh _ hok hpre _;obtain⟨_,_,_,fn',hfn',_,_,_,_,hval⟩:=hok;obtain rfl:fn'=fn:=ae9 (hfn'.symm.trans hfn);obtain⟨⟨⟨ds,gs,before,hw,_⟩,hx⟩,hz⟩:=hpre;refine(contract (w.forCall tape i) w.heap.size i.args ds gs before hval (DataW.Whole.of_heap (w':=w.forCall tape i) (by rfl) hw) (hz.weights hw) (hX _ _ _ (by rfl) hx) hsh).mono fun e W' ⟨v,he,hp⟩ => ?_
 subst he;exact ChangeSpec.post_blind hp
end Go.Av
