/- Part of a proof that the law FnExactWorldShow answers true for every input: the framework, an evaluator over symbolic data and why it is right. No conditions beyond the statement. -/
import Derived.Test.YtbgoaopannojjaaGreatDoorFw3
import Derived.IntWalk
import Derived.ChangeArms
import Derived.SizedLaws
import Derived.Carry
import Derived.HandedShaped
import Derived.ProofKit
import Derived.Shelf.Strconv.Itoa3
import Derived.Shelf.Strings.Repeat
import Derived.Lib.ItoaLen
import Derived.Lib.AppendIntMem
import Derived.Shelf.Strconv.AtoiAll
import Derived.LaidMore
import Derived.SevenTiedAt
import Derived.MakeChecks
import Derived.Stop.LaidErr
import Derived.Shelf.Vars
namespace Go.Av
open Go.RowKit (Below)
def nO (l:List Oper) (n k x:Nat):Option (Nat×Nat):=match l[k]? with
 | some o=>(match o.op,o.dst with
   | .load t (.tmp p),some x'=>bif Nat.blt k n && Nat.beq x' x then some (t,p) else none
   | _,_=>none)
 | none=>none
def BB (E:En) (l:List Oper) (n k1 k2:Nat) (v:St):Tr St:=match l.drop n with
 | [o0,o1,o2,o3]=>(match o0.op,o1.op,o2.op,o3.op,o0.dst,o1.dst,o2.dst,o3.dst with
   | .indexAddr tA (.tmp bA) iA,.store tS1 (.tmp d1) (.tmp x1),.indexAddr tB (.tmp bB) iB,.store tS2 (.tmp d2) (.tmp x2),some dA,none,some dB,none =>
     Tr.bo (nO l n k1 x1) fun L1=>Tr.bo (nO l n k2 x2) fun L2=>Tr.bo (E.sl tA) fun tnA=>Tr.bo (E.sl tB) fun tnB=>Tr.bo (E.ti tS1) fun ts1=>Tr.bo (E.ti tS2) fun ts2=>Tr.bo (E.ti L1.1) fun tl1=>Tr.bo (E.ti L2.1) fun tl2 =>
     Tr.bo (v.get iA) fun tvA=>Tr.bo tvA.int? fun pA=>Tr.bo (v.get iB) fun tvB=>Tr.bo tvB.int? fun pB =>
     (match look v.tm L1.2,look v.tm L2.2,v.get (.tmp bA),v.get (.tmp bB) with
     | some (.v (.pel r j s e1 q1)),some (.v (.pel r2 j2 s2 e2 q2)),some (.v (.ref rA jA sA)),some (.v (.ref rB jB sB))=>(match v.cell r j with
       | some ⟨s',m,.own (.sl e ks) xs⟩ =>
         bif ((Nat.beq d1 dA && Nat.beq d2 dB) && ((E.dB dA && E.dB dB) && ((il dA (.tmp x1) && (il dA (.tmp bB) && (il dA iB && (il dA (.tmp x2) && il dB (.tmp x2))))) &&
          (tl1.agg && tl2.agg)))) && (((Nat.beq q1 0 && Nat.beq q2 0) && ((Nat.beq r2 r && (Nat.beq j2 j && Nat.beq s2 s)) && ((Nat.beq rA r && (Nat.beq jA j && Nat.beq sA s)) && ((Nat.beq rB r && (Nat.beq jB j && Nat.beq sB s)) && Nat.beq s' s)))) &&
          (Nat.beq ks.length tnA.ks.length && (Nat.beq ks.length tnB.ks.length && (Nat.beq ks.length ts1.ks.length && (Nat.beq ks.length ts2.ks.length && (Nat.beq tl1.ks.length ks.length && Nat.beq tl2.ks.length ks.length))))))
         then .need (uZ pA.2 (aE xs).length e2) (.need (uZ pB.2 (aE xs).length e1)
          (.ret (((v.setCell r j ⟨s,m + 1,.own (.sl e ks) (j5 (dR ks) (aE xs) e2 e1)⟩).az dA (.v .dead,none)).az dB (.v .dead,none))))
         else .fail
       | _=> .fail)
     | _,_,_,_=> .fail)
   | _,_,_,_,_,_,_,_=> .fail)
 | _=> .fail
def kR (st:St) (ints:List Nat):Bool:=ints.all fun t=>match st.get (.tmp t) with | some tv=>tv.int?.isSome | none=>false
def AU (E:En) (l:List Oper):Bool:=l.all fun o=>match o.dst with | some d=>E.dB d | none=>true
def swapT (E:En) (ops:Array Oper) (ints:List Nat) (ex:List (Nat×Nat)) (n k1 k2:Nat) (st:St):Tr St :=
 bif kI ops ints ex && (Dl (jN ex ops.toList 0) n && (kR st ints && AU E ops.toList)) then
  (dH E true ((jN ex ops.toList 0).take n) (bY (jN ex ops.toList 0) [] ++ [0]) ((jN ex ops.toList 0).take n) 0 st []).bind fun v=>bif Fy v ((jN ex ops.toList 0).take n) then BB E (jN ex ops.toList 0) n k1 k2 v else .fail
 else .fail
section
variable {P:Program} {E:En}
theorem yi {st v:St} {l:List Oper} {ns:List Nat} (hl0:0 < ns.length) (hng:bd l=false) (hv:(dH E true l (ns ++ [0]) l 0 st []).run=some v) (hvrt:v.rt=st.rt) {k t p x:Nat} (hld:nO l l.length k x=some (t,p)) {ti:TI} (hti:E.ti t=some ti) (hag:ti.agg=true)
 (hNo:bm v) {r j s e1:Nat} (hp:look v.tm p=some (.v (.pel r j s e1 0))) {s' m:Nat} {e:TypeId} {ks:List K} {xs:T (.sl e ks)} (hcell:v.cell r j=some ⟨s',m,.own (.sl e ks) xs⟩) (hs:s'=s) (hk:ti.ks.length=ks.length) :
 ∃ l1,look v.tm x=some (.agg l1)/\eE ks (fo xs e1) (fun c' _ _=> .pref r j s m e1 c') 0 ks.length=some l1:=by
 subst hs;unfold nO at hld;split at hld;rotate_left
 . simp at hld
 rename_i o ho;split at hld;rotate_left
 . simp at hld
 rename_i t' p' x' hop hdst;cases hb:Nat.blt k l.length && Nat.beq x' x with
 | false=>rw [hb] at hld; simp at hld
 | true =>
 rw [hb] at hld;simp only [ab9,ab6,acI] at hld;obtain ⟨rfl,rfl⟩:=hld;simp only [ab8] at hb;have hx:=beq_eq hb.2;subst hx;obtain ⟨bs',g1,g2,_,g4⟩:=yh (E:=E) (base:=st) (KZ hl0) hng l 0 [] _ (fun o ho=>by obtain ⟨k,hk⟩:=aeQ ho;exact zH hng hk) trivial (fun e he=>by simp at he) hv;subst g2;obtain ⟨d2,p2,mask,bs0,w1,w2,w3,w4⟩:=g4 k o ho;rw [hdst] at w1;cases w1;have hroot2:∀ i' t p,(i',t,p)∈bs'->p.2=none:=fun i' t'' p hp=>by
  cases hp2:p.2 with
  | none=>rfl
  | some R =>
    exfalso;have hlr:look (aA st bs').rt t''=some R:=by rw [fY st (bitsOf bs') bs' (fun i t p h=>dz h),fO _ g1];exact .inl ⟨i',p,hp,dz hp,hp2⟩
    have:=(g1.mem hp).2.2;rw [hvrt] at hlr;rw [hlr] at this;simp at this
 have hrt:(aA st bs').rt=st.rt:=sK hroot2;have hwrt:(view st mask bs0).rt=st.rt:=wm fun i' t p hp=>hroot2 i' t p (w3 _ hp)
 have hent2:∀ t' tv',look (view st mask bs0).tm t'=some tv'->look (aA st bs').tm t'=some tv':=fun t' tv' h=>by
  rw [bK g1];rcases sE h with ⟨i',p,h1,h2⟩ | h1
  . exact .inl ⟨i',p,w3 _ h1,h2⟩
  . exact .inr h1
 have hnw:bm (view st mask bs0):=fun t' tv' h=>hNo t' tv' (hent2 t' tv' h)
 rw [hop,HF,hti] at w4;obtain ⟨ti2,r1,w4⟩:=Tr.af w4;cases r1;obtain ⟨tvB,r2,w5⟩:=Tr.af w4;obtain ⟨aB,r3,w6⟩:=Tr.af w5;obtain ⟨lB,r4,w7⟩:=Tr.af w6;obtain ⟨tvR,r5,w8⟩:=Tr.af w7;simp only [Tr.run,ab6] at w8;have r2:(view st mask bs0).tv p'=some tvB:=r2;rw [eO hnw] at r2;have:=hent2 _ _ r2;rw [hp] at this;cases this;simp only [TV.B0,ab6] at r3;subst r3;have hcell2:(view st mask bs0).cell r j=some ⟨s',m,.own (.sl e ks) xs⟩:=by
  have:(aA st bs').cell r j=(view st mask bs0).cell r j:=by unfold St.cell; rw [hrt,hwrt]
  rw [<- this]; exact hcell
 simp only [St.load,hcell2,aeP,ab9] at r4;rw [hk] at r4;unfold er at r5;rw [hag] at r5;simp only [ab6] at r5;refine ⟨lB,?_,r4⟩;rw [bK g1];refine .inl ⟨_,_,w2,?_⟩;rw [<- w8,<- r5]
theorem uS {cx:Cx P} {st:St} {a:Act} {w:World} {ops:Array Oper} {ints:List Nat} (h:Good cx E st a w) (hints:kR st ints=true) (hdB:AU E ops.toList=true):gq ops ints (Array.replicate ops.size false) a:=by
 obtain ⟨hn,hsz,Z,g,hr⟩:=h;refine ⟨fun k o d ho hd => ?_,fun b hb => ?_,fun k o d ho hm hl => ?_⟩
 . have h1:=acH.1 hdB o (by rw [adw]; exact aeJ ho);rw [hd] at h1;exact (hsz.dst h1).1
 . have h1:=acH.1 hints b hb;split at h1
   . rename_i tv htv;obtain ⟨p,hp⟩:=aei.1 h1;obtain ⟨k,n'⟩:=p;exact ⟨k,n',(cP (aK hr hn.cons.cons htv) hp).1⟩
   . simp at h1
 . have hlt:k < ops.size:=(acx.1 ho).1;simp [ach,hlt] at hl
theorem JU (hT:bG P E) (hga:de P E) (hm:P.follows .mixedOrders=true) {id:Nat} {ops:Array Oper} {ints:List Nat} {ex:List (Nat×Nat)} {n k1' k2':Nat}:cF P E (.region id ops true) (swapT E ops ints ex n k1' k2'):=by
 intro cx a w st st' h hrun;unfold swapT at hrun;cases hc:kI ops ints ex && (Dl (jN ex ops.toList 0) n && (kR st ints && AU E ops.toList)) with
 | false=>rw [hc] at hrun; simp [Tr.run] at hrun
 | true =>
 rw [hc] at hrun;simp only [ab9] at hrun;simp only [ab8] at hc;obtain ⟨hok,hpre,hints,hdB⟩:=hc;obtain ⟨hn,hsz,Z,g,hr⟩:=h;have hI:gq ops ints (Array.replicate ops.size false) a:=uS ⟨hn,hsz,Z,g,hr⟩ hints hdB;refine wp_region_any hm ?_;refine Je hok (fun ⟨a,w,hq⟩=>hq) (fun c a w hq=>hq) ops.size _ a _ (by simp) hI ?_;have e1:(lf ex ops).toList=jN ex ops.toList 0:=by simp [lf]
 have hs:=yB ex ops;rw [<- e1] at hrun hpre;rw [<- hs];generalize hops:lf ex ops=ops' at hrun hpre ⊢;rw [hops] at hs;simp only [Dl,ab8,acP,acH,adt] at hpre;obtain ⟨hed,hlen4,hng,hng',hneed,hchain⟩:=hpre;have hl4:ops'.size=n + 4:=by have:=beq_eq hlen4; simpa using this
 have hi:n < ops'.size:=by omega
 have hlen:(bY ops'.toList []).length=ops'.size:=by rw [nb]; simp
 rw [Tr.run_bind] at hrun;cases hv:(dH E true (ops'.toList.take n) (bY ops'.toList [] ++ [0]) (ops'.toList.take n) 0 st []).run with
 | none=>rw [hv] at hrun; simp at hrun
 | some v =>
 rw [hv] at hrun;simp only [acE] at hrun;cases hnr:Fy v (ops'.toList.take n) with
 | false=>rw [hnr] at hrun; simp [Tr.run] at hrun
 | true =>
 rw [hnr] at hrun;simp only [ab9] at hrun;have hopst:(ops'.toList.take n).toArray.toList=ops'.toList.take n:=by simp
 have hsize':(ops'.toList.take n).toArray.size=n:=by simp; omega
 have hops':∀ j,j < n->(ops'.toList.take n).toArray[j]? = ops'[j]? := fun j hj=>by rw [<- acf,hopst,ac8,if_pos hj,acf]
 have hseg:=kF (P:=P) (E:=E) (ops:=(ops'.toList.take n).toArray) (ns:=bY ops'.toList [] ++ [0]) (i0:=0) hT hga (dr:=true) hn (ops'.toList.take n) 0 (by simp) (acS _) (acb _) [] v ⟨trivial,hn.MB,fun e he=>by simp at he,fun _ _ _ _ he=>by simp at he⟩ (by rw [hopst]; exact hv);obtain ⟨i1,bsF,k1,k2,k3,k4,k5,k6,k7,k8⟩:=hseg;replace k5:=k5 (by rw [hopst]; exact hng');have hk8:i1=n/\v=aA st bsF:=by
  rcases k8 with ⟨e1,e2⟩ | ⟨o',st'',e1,_,e3,_⟩
  . rw [hopst,hng'] at e2;exact ⟨e1.trans hsize',e2⟩
  . exfalso;have hi1:i1 < n:=by
     have:=(acx.1 e1).1;rw [hsize'] at this;exact this
    have hf:=e3 rfl;unfold gy at hf;simp only [ab8,acH,adt] at hf;have:=hf.2 (ops'.size - i1 - 1) (by rw [ab7,hlen]; simp; omega);rw [show i1 + 1 + (ops'.size - i1 - 1)=(bY ops'.toList []).length by rw [hlen]; omega] at this;simp [List.getD] at this
 obtain ⟨rfl,rfl⟩:=hk8;have hidx:∀ e∈bsF,e.1 < i1:=fun e he=>(k4 e he).2.1
 have hNA:bm (aA st bsF):=fun t tv ht=>by
  rw [bK k2] at ht;rcases ht with ⟨i',p,h1,rfl⟩ | h1
  . exact k5 i' t p h1
  . exact hn t tv h1
 have hroot:∀ i' t p,(i',t,p)∈bsF->p.2=none:=fun i' t' p hp=>by
  cases hp2:p.2 with
  | none=>rfl
  | some R =>
    exfalso;obtain ⟨_,h2,o',h3,h4⟩:=k4 _ hp;have hmem:o'∈ops'.toList.take i1:=by rw [<- hopst,adw];exact aeJ h3
    have:=acH.1 hnr o' hmem;rw [h4] at this;simp only [St.free] at this;have hl:look (aA st bsF).rt t'=some R:=by rw [fY st (bitsOf bsF) bsF (fun i t p h=>dz h),fO _ k2];exact .inl ⟨i',p,hp,dz hp,hp2⟩
    rw [hl] at this;simp at this
 have hvrt:(aA st bsF).rt=st.rt:=sK hroot;refine MA (P:=P) (E:=E) (cx:=cx) (Q:=QO cx E (.nrm st')) hed hi (base:=st) (bsF:=bsF) ?_ hneed ?_ ?_ ops'.size (Array.replicate ops'.size false) 0 a _ Z g (by simp) (fun k hk => ?_) (fun k _=>adl k) (by rw [rh]; exact acb _) (fun k hk=>by rw [adl] at hk; simp at hk) ?_ hsz
 . intro j hj cx S a w Z g next Q hS hSj hr hsz hnext;have ho':∃ o',ops'[j]? = some o':=⟨ops'[j]'(by omega),by simp⟩;obtain ⟨o',ho'⟩:=ho';refine GD ho' (by rw [hops' j hj]; exact ho') (zH hng (by rw [acf]; exact ho')) ?_;refine k7 j (acS _) hj cx S a w Z g next Q (fun k h1 h2 h3=>hS k h1 h2 ?_) hSj hr hsz hnext;have hjl:j < (bY ops'.toList []).length:=by rw [hlen]; omega
   rw [List.getD,ac7 hjl] at h3;exact h3
 . intro k hk1 hk2;unfold chained at hchain;have:=acH.1 hchain (k - i1 - 1) (adt.2 (by simp; omega));rw [show i1 + 1 + (k - i1 - 1)=k by omega,acf] at this;split at this
   . rename_i o ho;obtain ⟨e,he,h'⟩:=ad2.1 this;simp only [ab8] at h';exact ⟨o,e,ho,by simpa using he,h'.1,by rw [beq_eq h'.2]; omega⟩
   . simp at this
 . intro a w Z g hr hsz;have hv':view st (2 ^ i1 - 1) bsF=aA st bsF:=(ll fun e he=>by rw [fB]; simpa using hidx e he).symm;rw [hv'] at hr;have:List.range' i1 (ops'.size - i1)=[i1,i1 + 1,i1 + 2,i1 + 3]:=by
    rw [show ops'.size - i1=4 by omega];rfl
   rw [this];have hget:∀ k,(ops'.toList.drop i1)[k]? = ops'[i1 + k]? := fun k=>by rw [adh,acf]
   unfold BB at hrun;split at hrun;rotate_left
   . simp [Tr.run] at hrun
   rename_i o0 o1 o2 o3 hL;rw [hL] at hget;have e0:ops'[i1]? = some o0:=(hget 0).symm;have e1:ops'[i1 + 1]? = some o1:=(hget 1).symm;have e2:ops'[i1 + 2]? = some o2:=(hget 2).symm;have e3:ops'[i1 + 3]? = some o3:=(hget 3).symm;have gd:∀ {k:Nat} {o:Oper},ops'[k]? = some o->o.guard=none:=fun {k o} ho=>zH hng (by rw [acf]; exact ho)
   split at hrun;rotate_left
   . simp [Tr.run] at hrun
   rename_i tA bA iA tS1 d1 x1 tB bB iB tS2 d2 x2 dA dB p0 p1 p2 p3 q0 q1 q2 q3;obtain ⟨L1,hL1,hrun⟩:=Tr.af hrun;obtain ⟨L2,hL2,hrun⟩:=Tr.af hrun;obtain ⟨tnA,hnA,hrun⟩:=Tr.af hrun;obtain ⟨tnB,hnB,hrun⟩:=Tr.af hrun;obtain ⟨ts1,ht1,hrun⟩:=Tr.af hrun;obtain ⟨ts2,ht2,hrun⟩:=Tr.af hrun;obtain ⟨tl1,hl1,hrun⟩:=Tr.af hrun;obtain ⟨tl2,hl2,hrun⟩:=Tr.af hrun;obtain ⟨tvA,hiA,hrun⟩:=Tr.af hrun;obtain ⟨pA,hpA,hrun⟩:=Tr.af hrun;obtain ⟨tvB,hiB,hrun⟩:=Tr.af hrun;obtain ⟨pB,hpB,hrun⟩:=Tr.af hrun;split at hrun;rotate_left
   . simp [Tr.run] at hrun
   rename_i r j s ee1 qq1 r2 j2 s2 ee2 qq2 rA jA sA rB jB sB hp1 hp2 hbA hbB;split at hrun;rotate_left
   . simp [Tr.run] at hrun
   rename_i s' m e ks xs hcell
   generalize hc:(((Nat.beq d1 dA && Nat.beq d2 dB) && ((E.dB dA && E.dB dB) && ((il dA (.tmp x1) && (il dA (.tmp bB) && (il dA iB && (il dA (.tmp x2) && il dB (.tmp x2))))) &&
    (tl1.agg && tl2.agg)))) && (((Nat.beq qq1 0 && Nat.beq qq2 0) && ((Nat.beq r2 r && (Nat.beq j2 j && Nat.beq s2 s)) && ((Nat.beq rA r && (Nat.beq jA j && Nat.beq sA s)) && ((Nat.beq rB r && (Nat.beq jB j && Nat.beq sB s)) && Nat.beq s' s)))) &&
    (Nat.beq ks.length tnA.ks.length && (Nat.beq ks.length tnB.ks.length && (Nat.beq ks.length ts1.ks.length && (Nat.beq ks.length ts2.ks.length && (Nat.beq tl1.ks.length ks.length && Nat.beq tl2.ks.length ks.length)))))))=cond at hrun
   cases cond with
   | false=>simp [Tr.run] at hrun
   | true =>
   simp only [ab9] at hrun;obtain ⟨idA,hrun⟩:=Tr.bj hrun;obtain ⟨idB,hrun⟩:=Tr.bj hrun;simp only [Tr.run,ab6] at hrun;subst hrun;simp only [ab8] at hc;obtain ⟨⟨⟨c1,c2⟩,⟨b0,b2⟩,⟨n1,n2,n3,n4,n5⟩,ag1,ag2⟩,⟨⟨z1,z2⟩,⟨y1,y2,y3⟩,⟨y4,y5,y6⟩,⟨y7,y8,y9⟩,y10⟩,w1,w2,w3,w4,w5,w6⟩:=hc;have c1:=beq_eq c1; have c2:=beq_eq c2; have z1:=beq_eq z1; have z2:=beq_eq z2;have y1:=beq_eq y1; have y2:=beq_eq y2; have y3:=beq_eq y3; have y4:=beq_eq y4; have y5:=beq_eq y5; have y6:=beq_eq y6; have y7:=beq_eq y7; have y8:=beq_eq y8; have y9:=beq_eq y9; have y10:=beq_eq y10;subst c1; subst c2; subst z1; subst z2; subst y1; subst y2; subst y3; subst y4; subst y5; subst y6; subst y7; subst y8; subst y9; subst y10;have hlt:(ops'.toList.take i1).length=i1:=by simp; omega
   have ldT:∀ {k x:Nat} {L:Nat×Nat},nO ops'.toList i1 k x=some L->nO (ops'.toList.take i1) (ops'.toList.take i1).length k x=some L:=fun {k x L} h=>by
    rw [hlt];unfold nO at h ⊢;split at h;rotate_left
    . simp at h
    rename_i o ho;split at h;rotate_left
    . simp at h
    rename_i t' p' x' hop hdst;have hk:k < i1:=by
     cases hb:Nat.blt k i1 with
     | true=>exact adB (acF hb)
     | false=>rw [hb] at h; simp at h
    rw [ac8,if_pos hk,ho];simp only [hop,hdst];exact h
   have hn0:0 < (bY ops'.toList []).length:=by rw [hlen]; omega
   obtain ⟨l1,u1,u2⟩:=yi hn0 hng' hv hvrt (ldT hL1) hl1 ag1 hNA hp1 hcell rfl (beq_eq w5);obtain ⟨l2,u3,u4⟩:=yi hn0 hng' hv hvrt (ldT hL2) hl2 ag2 hNA hp2 hcell rfl (beq_eq w6);have gx:∀ {x:Nat} {l:List AV},look (aA st bsF).tm x=some (.agg l)->(aA st bsF).get (.tmp x)=some (.agg l):=fun {x l} h=>by show (aA st bsF).tv x=_;rw [eO hNA]; exact h
   exact Hv hT hr hNA hsz e0 e1 e2 e3 (gd e0) (gd e1) (gd e2) (gd e3) q0 q1 q2 q3 b0 b2 p0 p1 p2 p3 n1 n2 n3 n4 n5 hcell (gx u1) (gx u3) u2 u4 hbA hbB hiA hpA hiB hpB hnA hnB ht1 ht2 (beq_eq w1) (beq_eq w2) (beq_eq w3) (beq_eq w4) idA idB
 . rw [adl];simp [ach,hk]
 . rw [iZ fun e _=>adl _];exact hr.world rfl rfl rfl rfl
theorem uk (hT:bG P E) (hga:de P E) (hm:P.follows .mixedOrders=true) {c:Code} {id:Nat} {ints:List Nat} {ex:List (Nat×Nat)} {n k1 k2:Nat} (h:c= .region id (opsOf c) true):cF P E c (swapT E (opsOf c) ints ex n k1 k2):=by rw [h];exact JU hT hga hm
end
end Go.Av
namespace Go.Av
section
variable {P:Program} {E:En}
def lj (E:En) (ops:Array Oper) (ints:List Nat) (ex:List (Nat×Nat)) (st:St):Tr St :=
 bif kI ops ints ex && (fP (jN ex ops.toList 0) 0 && (kR st ints && AU E ops.toList)) then dH E true (jN ex ops.toList 0) (bY (jN ex ops.toList 0) []) (jN ex ops.toList 0) 0 st [] else .fail
theorem Dd (hT:bG P E) (hga:de P E) (hm:P.follows .mixedOrders=true) {id:Nat} {ops:Array Oper} {ints:List Nat} {ex:List (Nat×Nat)}:cF P E (.region id ops true) (lj E ops ints ex):=by
 intro cx a w st st' h hrun;unfold lj at hrun;cases hc:kI ops ints ex && (fP (jN ex ops.toList 0) 0 && (kR st ints && AU E ops.toList)) with
 | false=>rw [hc] at hrun; simp [Tr.run] at hrun
 | true =>
   rw [hc] at hrun;simp only [ab9] at hrun;simp only [ab8] at hc;obtain ⟨hok,hed,hints,hdB⟩:=hc;have hI:=uS h hints hdB;have hW:=Al hT hga;obtain ⟨h1,h2,Z,g,h3⟩:=h;refine wp_region_any hm ?_;refine Je hok (fun ⟨a,w,hq⟩=>hq) (fun c a w hq=>hq) ops.size _ a _ (by simp) hI ?_;have e1:(lf ex ops).toList=jN ex ops.toList 0:=by simp [lf]
   have hs:=yB ex ops;rw [<- e1] at hrun hed;obtain ⟨i1,bsF,k1,k2,k3,k4,k5,k6,k7,k8⟩:=kF (ops:=lf ex ops) (ns:=bY (lf ex ops).toList []) (i0:=0) hT hga h1 _ 0 rfl (acS _) (acb _) [] st' ⟨trivial,h1.MB,fun e he=>by simp at he,fun _ _ _ _ he=>by simp at he⟩ hrun;refine Fb (ops:=lf ex ops) (cx:=cx) (Q:=QO cx E (.nrm st')) hT hga hW hed (stF:=st') (fun Z g a w hr hn hs=>⟨hn,hs,Z,g,hr⟩) ops.size (Array.replicate ops.size false) 0 0 i1 st bsF a _ Z g (by simp [hs]) (fun k hk => ?_) (by rw [hs,rh]; exact acb _) (fun k hk=>by omega) (fun k _=>adl k) (fun k hk=>by rw [adl] at hk; simp at hk) k1 h1 k2 (fun e he=>⟨(k4 e he).1,(k4 e he).2.1⟩) k5 k7 k8 ?_ h2
   . rw [adl];rw [hs] at hk;simp [ach,hk]
   . rw [iZ fun e _=>adl _];exact h3.world rfl rfl rfl rfl
theorem yc (hT:bG P E) (hga:de P E) (hm:P.follows .mixedOrders=true) {c:Code} {id:Nat} {ints:List Nat} {ex:List (Nat×Nat)} (h:c= .region id (opsOf c) true):cF P E c (lj E (opsOf c) ints ex):=by rw [h];exact Dd hT hga hm
end
end Go.Av
namespace Go.Av
noncomputable def CL {β:Type} (G:Nat->Option β):Option β :=
 open Classical in if h:∃ (y:β) (n:Nat),∀ m,n<=m->G m=some y then some (Classical.choose h) else none
theorem Hl {β:Type} {G:Nat->Option β} {y:β} (h:CL G=some y):∃ n,G n=some y:=by
 unfold CL at h;split at h
 . rename_i hh;obtain ⟨n,hn⟩:=ac6 hh;rw [adk h] at hn;exact ⟨n,hn n (acb _)⟩
 . simp at h
theorem Nl {β:Type} {G:Nat->Option β} {y:β} {n:Nat} (h:∀ m,n<=m->G m=some y):CL G=some y:=by unfold CL;have hh:∃ (y:β) (n:Nat),∀ m,n<=m->G m=some y:=⟨y,n,h⟩;rw [dif_pos hh];obtain ⟨n',hn'⟩:=ac6 hh;have h1:=h (n + n') (by omega);have h2:=hn' (n + n') (by omega);rw [h1] at h2;rw [h2]
theorem ar.zero {P:Program} {f:Nat} {s:Su} (h:∀ x,s.tQ x=none):ar P f s:=fun w Z F args x y _ _ _ _ _ hy=>by rw [h x] at hy;simp at hy
theorem ar.fix {P:Program} {f:Nat} {ps:List PK} {rs:List (Bool×List K)} {fr:Bool} {G:Nat->PT ps->Option (tz ps×CT rs)} (h:∀ n,ar P f ⟨ps,rs,fr,.inl (G n)⟩):ar P f ⟨ps,rs,fr,.inl fun x=>CL fun n=>G n x⟩:=by intro w Z F args x y h0 h1 h2 h3 h4 hy;obtain ⟨n,hn⟩:=Hl (show CL (fun n=>G n x)=some y from hy);exact h n w Z F args x y h0 h1 h2 h3 h4 hn
def Su.ro (s:Su):Su:=⟨s.ps,s.rs,false,s.f⟩
theorem im {Z:Nat->Prop} {w:World} {F G:Nat->Nat->Prop}:∀ (ps:List PK) (x:PT ps) (vs:List Value) (n m:Nat),fS ps=true->dp Z w F ps x vs n->dp Z w G ps x vs m
 | [],_,[],_,_,_,_=>trivial
 | [],_,_ :: _,_,_,_,h=>h.elim
 | .c _ _ :: ps,x,v :: vs,n,m,hq,h=>⟨h.1,im ps x.2 vs n m hq h.2⟩
 | .pt _ :: ps,x,v :: vs,n,m,hq,h=>⟨h.1,im ps x.2 vs n m hq h.2⟩
 | .nil :: ps,x,v :: vs,n,m,hq,h=>⟨h.1,im ps x vs n m hq h.2⟩
 | .fn _ _ :: ps,x,v :: vs,n,m,hq,h=>⟨h.1,im ps x.2 vs n m hq h.2⟩
 | .io _ _ :: _,_,_,_,_,hq,_=>by simp [fS] at hq
 | .mv _ :: _,_,_,_,_,hq,_=>by simp [fS] at hq
 | .c _ _ :: _,_,[],_,_,_,h=>h.elim
 | .pt _ :: _,_,[],_,_,_,h=>h.elim
 | .nil :: _,_,[],_,_,_,h=>h.elim
 | .fn _ _ :: _,_,[],_,_,_,h=>h.elim
theorem kU {Z Z':Nat->Prop} {w w':World} {G:Nat->Nat->Prop} {F:Nat->Nat->Prop}:∀ (ps:List PK) (x:PT ps) (y:tz ps) (vs:List Value) (n m:Nat),fS ps=true->dp Z w F ps x vs n->xm Z' w' G ps y vs m
 | [],_,_,[],_,_,_,_=>trivial
 | [],_,_,_ :: _,_,_,_,h=>h.elim
 | .c _ _ :: ps,x,y,v :: vs,n,m,hq,h=>kU ps x.2 y vs n m hq h.2
 | .pt _ :: ps,x,y,v :: vs,n,m,hq,h=>kU ps x.2 y vs n m hq h.2
 | .nil :: ps,x,y,v :: vs,n,m,hq,h=>kU ps x y vs n m hq h.2
 | .fn _ _ :: ps,x,y,v :: vs,n,m,hq,h=>kU ps x.2 y vs n m hq h.2
 | .io _ _ :: _,_,_,_,_,_,hq,_=>by simp [fS] at hq
 | .mv _ :: _,_,_,_,_,_,hq,_=>by simp [fS] at hq
 | .c _ _ :: _,_,_,[],_,_,_,h=>h.elim
 | .pt _ :: _,_,_,[],_,_,_,h=>h.elim
 | .nil :: _,_,_,[],_,_,_,h=>h.elim
 | .fn _ _ :: _,_,_,[],_,_,_,h=>h.elim
theorem eN {Z Z':Nat->Prop} {w:World} {H H':Nat->Nat->Prop} (hz:∀ n b,H n b->Z' b):∀ (ks:List K) (x:Tl ks) (cs:List Value) (j j':Nat),aM true Z w H ks x cs j->aM false Z' w H' ks x cs j'
 | [],_,[],_,_,_=>trivial
 | [],_,_ :: _,_,_,h=>h.elim
 | .sl e ks' :: ks,x,v :: vs,j,j',h=>⟨cK.ro (.sl e ks') x.1 v (H j) (fun b hb=>hz j b hb) h.1,eN hz ks x.2 vs (j + 1) j' h.2⟩
 | .int k :: ks,x,v :: vs,j,j',h=>⟨ej (k:= .int k) rfl h.1,eN hz ks x.2 vs j j' h.2⟩
 | .bool :: ks,x,v :: vs,j,j',h=>⟨ej (k:= .bool) rfl h.1,eN hz ks x.2 vs j j' h.2⟩
 | .str :: ks,x,v :: vs,j,j',h=>⟨ej (k:= .str) rfl h.1,eN hz ks x.2 vs j j' h.2⟩
 | .sl _ _ :: _,_,[],_,_,h=>h.elim
 | .int _ :: _,_,[],_,_,h=>h.elim
 | .bool :: _,_,[],_,_,h=>h.elim
 | .str :: _,_,[],_,_,h=>h.elim
theorem uU {Z Z':Nat->Prop} {w:World} {H H':Nat->Nat->Prop} (hz:∀ n b,H n b->Z' b):∀ (rs:List (Bool×List K)) (y:CT rs) (vs:List Value) (j j':Nat),kn true Z w H rs y vs j->kn false Z' w H' rs y vs j'
 | [],_,[],_,_,_=>trivial
 | [],_,_ :: _,_,_,h=>h.elim
 | (gg,ks) :: rs,y,v :: vs,j,j',h=>by obtain ⟨⟨cs,e1,e2⟩,h2⟩:=h;exact ⟨⟨cs,e1,eN hz ks y.1 cs j j' e2⟩,uU hz rs y.2 vs _ _ h2⟩
 | _ :: _,_,[],_,_,h=>h.elim
theorem Su.Q0 (s:Su) (x:PT s.ps):s.ro.tQ x=s.tQ x:=by obtain ⟨ps,rs,fr,f⟩:=s;cases f <;> rfl
theorem ar.ro {P:Program} {f:Nat} {s:Su} (hq:fS s.ps=true) (hf:s.fresh=true) (h:ar P f s):ar P f s.ro:=by
 intro w Z F args x y hgl hargs hZ hF hd hy;have hy:s.tQ x=some y:=(s.Q0 x).symm.trans hy;have h1:=h w Z (fun _ _=>False) args x y hgl (im s.ps x args.toList 0 0 hq hargs) hZ (fun _ _ h=>h.elim) (fun _ _ _ h=>h.elim) hy;rw [hf] at h1;refine BV.mono h1 fun v w' ⟨Z',H,vs,e,ha,_,hr⟩ => ?_
 have hnew:∀ n b,H n b->b < w'.heap.size/\w.heap.size<=b:=fun n b hb=>by
  obtain ⟨q1,_,q3⟩:=ha.fp n b hb;rcases q3 with ⟨_,q3⟩ | q3
  . exact q3.elim
  . exact ⟨q1,q3⟩
 refine ⟨fun b=>Z' b∨∃ n,H n b,fun _ _=>False,vs,e,?_,kU s.ps x y.1 args.toList 0 0 hq hargs,uU (fun n b hb=> .inr ⟨_,hb⟩) _ _ _ _ _ hr⟩
 exact { os:=ha.os,tape:=ha.tape,output:=ha.output,size:=ha.size
         block:=fun b hb _=>ha.block b hb fun _ h=>h
         z:=fun b hb=> .inl (ha.z b hb)
         bN:=fun b hb=>by
          rcases hb with hb | ⟨n,hb⟩
          . exact ha.bN b hb
          . exact ⟨(hnew n b hb).1,.inr (hnew n b hb).2⟩
         fp:=fun n b h=>h.elim
         disj:=fun n m b h=>h.elim }
end Go.Av
namespace Go.Av
open Go.RowKit (Below)
section
variable {P:Program} {w:World} {E:En}
theorem GI {e:TypeId} {ks:List K} {xs:T (.sl e ks)} {aa:Option Addr} {l cap n:Nat} {F:Nat->Prop} (h:cK w (.sl e ks) xs (.slice aa l cap) F) (hn:n<=l) :
 ∃ (FH FR:Nat->Prop) (news:List Value) (H:Nat->Nat->Nat->Prop),uz w ks (List.take n (aE xs)) news H FH/\(Builtin.lenOf (.slice aa n cap)).run P w= .ok (List.take n (aE xs)).length w /\
  (∀ w1:World,w1.heap=w.heap->(Builtin.firstCells ks.length (List.take n (aE xs)).length (.slice aa n cap)).run P w1= .ok news.toArray w1) /\
  cK w (.sl e ks) (List.drop n (aE xs)) (.slice (if cap=n then aa else aa.map (·.add (n * ks.length))) (l - n) (cap - n)) FR/\(∀ q,FH q->F q/\¬ FR q)/\(∀ q,FR q->F q)/\l=(aE xs).length/\l<=cap:=by
 obtain ⟨a',c',h1,h2,h3,h4,h5⟩:=h;simp only [ac4] at h1;obtain ⟨rfl,rfl,rfl⟩:=h1;have hlt:(List.take n (aE xs)).length=n:=(acL (l:=aE xs) (i:=n)).trans (ad9 hn);have hld:(aE (e:=e) (ks:=ks) (List.drop n (aE xs))).length=(aE xs).length - n:=ac0 ..
 cases aa with
 | none =>
   have hc:=h4 rfl;have hn0:n=0:=by omega
   have hx0:aE xs=[]:=acp.1 (by omega);subst hn0;refine ⟨fun _=>False,fun _=>False,[],fun _ _ _=>False,⟨by simp,by simp,fun _ _ _ h=>h.elim,fun _ _ _ _ _ h=>h.elim,fun i y hi=>by simp at hi⟩,by rw [hlt]; rfl,fun w1 _=>by rw [hlt]; exact run_firstCells_none (P:=P) w1 _ _ _ _,?_,fun _ h=>h.elim,fun _ h=>h.elim,rfl,h2⟩;rw [hc,hx0];exact iT e ks
 | some aa =>
   obtain ⟨b,o,cs,el,fr,rfl,k2,k3,k4,k5,G,k6,k7,k8⟩:=h5 _ rfl;have hcn:n * ks.length<=cap * ks.length:=acC _ (by omega);have hbound:∀ q,q < n * ks.length->o + q < cs.size:=fun q hq=>by omega
   have hnl:∀ q,q < n * ks.length->((List.range (n * ks.length)).map fun q=>cs.getD (o + q) undef)[q]? = cs[o + q]? := fun q hq=>by have:=hbound q hq;simp [hq,this]
   have hrow:∀ i x,(List.take n (aE xs))[i]? = some x->i < n/\(aE xs)[i]? = some x:=fun i x hx=>by
    rw [ac8] at hx;split at hx
    . rename_i hi; exact ⟨hi,hx⟩
    . simp at hx
   refine ⟨fun q=>∃ i j,i < n/\G i j q,fun q=>q=b∨∃ i j,n<=i/\G i j q,(List.range (n * ks.length)).map fun q=>cs.getD (o + q) undef,fun i j q=>i < n/\G i j q,⟨by rw [hlt]; simp,fun u hu => ?_,fun i j b' hb'=>⟨i,j,hb'⟩,fun i j i' j' q h1 h2=>k7 _ _ _ _ q h1.2 h2.2,fun i y hi => ?_⟩,by rw [hlt]; rfl,fun w1 hw1 => ?_,?_,fun q ⟨i,j,hi,hq⟩=>⟨(k6 i j q hq).1,?_⟩,fun q hq => ?_,rfl,h2⟩
   . obtain ⟨q,hq,rfl⟩:=ad7.1 hu;obtain ⟨q1,q2,q3⟩:=sv (adt.1 hq);obtain ⟨v,f1,f2⟩:=ve ks _ 0 _ (q % ks.length) (k8 _ _ (acm (show q / ks.length < (aE xs).length by omega))) q2;rw [adM,<- q3] at f1;rw [ach,f1];exact f2
   . obtain ⟨hil,hi'⟩:=hrow i y hi;refine iW ks y 0 (G i) _ cs _ _ _ (fun q hq => ?_) (fun _ _ h=>⟨hil,h⟩) (fun _ _ _ _=>rfl) (k8 i y hi');rw [acV,hnl _ (vr hil hq),adM]
   . rw [hlt];refine run_firstCells_some (P:=P) w1 _ _ ⟨b,o,none⟩ _ _ _ (by simp) fun j v hj => ?_
     have hjl:j < n * ks.length:=by
      rcases acn j (n * ks.length) with hh | hh
      . exact hh
      . rw [acq (by simpa using hh)] at hj; simp at hj
     rw [hnl j hjl] at hj;rw [gC];simp only [World.cell?,hw1,k3];exact hj
   . have hsub:n * ks.length + (cap - n) * ks.length=cap * ks.length:=by
      rw [<- acZ]; congr 1; omega
     have hget:∀ i x,(List.drop n (aE xs))[i]? = some x->eo w ks x 0 (G (n + i)) cs (o + (n + i) * ks.length):=fun i x hx=>by rw [adh] at hx;exact k8 _ _ hx
     refine ⟨_,cap - n,by rw [hld],by rw [hld]; omega,by rw [hld]; omega,fun h0 => ?_,fun a'' ha'' => ?_⟩
     . split at h0
       . simp at h0
       . simp at h0
     . split at ha''
       . rename_i hcap;simp only [ab6] at ha'';subst ha'';refine ⟨b,o,cs,el,fr,rfl,.inl rfl,k3,k4,by rw [hcap]; simp; omega,fun i j q=>G (n + i) j q,fun i j q hq=>⟨.inr ⟨n + i,j,by omega,hq⟩,(k6 _ _ q hq).2⟩,fun i j i' j' q h1 h2 => ?_,fun i x hx => ?_⟩
         . obtain ⟨e1,e2⟩:=k7 _ _ _ _ q h1 h2;exact ⟨by omega,e2⟩
         . exfalso;have hx':(List.drop n (aE xs))[i]? = some x:=hx;rw [acq (by rw [ac0]; omega)] at hx';simp at hx'
       . rename_i hcap;simp only [acG,ab6,gC] at ha'';subst ha'';refine ⟨b,o + n * ks.length,cs,el,fr,rfl,.inl rfl,k3,k4,by omega,fun i j q=>G (n + i) j q,fun i j q hq=>⟨.inr ⟨n + i,j,by omega,hq⟩,(k6 _ _ q hq).2⟩,fun i j i' j' q h1 h2 => ?_,fun i x hx => ?_⟩
         . obtain ⟨e1,e2⟩:=k7 _ _ _ _ q h1 h2;exact ⟨by omega,e2⟩
         . have:=hget i x hx;rw [acZ,<- adM] at this;exact this
   . rintro (e | ⟨i',j',hi',hq'⟩)
     . exact (k6 i j q hq).2 e
     . have:=(k7 _ _ _ _ q hq hq').1;omega
   . rcases hq with rfl | ⟨i,j,_,hq⟩
     . exact k2
     . exact (k6 i j q hq).1
end
end Go.Av
namespace Go.Av
open Go.RowKit (Below)
def JW (st5:St) (r j s tO d2 d3 d4 d5 d6:Nat) (k:IntKind) (n:Int) (kk:K) (z:T kk):St :=
 (((((st5.az d2 (.v .dead,none)).az d3 (.v (.d (.int k) n),none)).az d4 (.v .dead,none)).az tO (.v (.pre r j (s + 1) n.toNat),none)).az d5 (.v (.ref d5 0 0),some ⟨false,[⟨0,0,.own kk z⟩]⟩)).az d6 (.v (.ref d5 0 0),none)
def lX (a b:Nat):Bool:= !Nat.beq a b
theorem eK {a b:Nat} (h:lX a b=true):a≠b:=by simp only [lX,acP] at h;exact ady h
def Da (st:St) (r:Nat):Bool:=match look st.rt r with | some R=> !R.box | none=>false
def xv (E:En) (op1:Op) (tS tA tA2 tO tK d1 d2 d3 d4 d5 d6:Nat) (st:St):Tr St :=
 (xH E st d1 op1).bind fun p=>Tr.bo (E.ti tA) fun ti=>Tr.bo (E.sl tA) fun te=>Tr.bo (E.sl tS) fun tn=>Tr.bo p.1.B0 fun av1=>Tr.bo ((st.az d1 p).dF (.sl ti.elem te.ks) av1) fun q =>
 (match st.tv tO,st.tv tK with
 | some (.v (.ref r j s)),some (.v (.d (.int k) n))=>(match q.1.cell r j with
   | some ⟨s',m,.own k0 x0⟩=>Tr.bo (gK k0 (.sl ti.elem te.ks) x0) fun xs =>
     bif (Nat.beq s' s && (Nat.beq tn.ks.length te.ks.length && (E.str tA2 || (E.sl tA2).isSome))) && ((q.1.free d5 && (Nat.blt 0 te.bytes && (st.free d1 && Da q.1 r))) && ((E.dB d1 && (E.dB d2 && (E.dB d3 && (E.dB d4 && (E.dB d5 && (E.dB d6 && E.dB tO)))))) &&
      ((lX tO d1 && (lX tO d2 && (lX tO d3 && (lX tO d4)))) && ((lX tK d1 && lX tK d2) && (lX d1 d2 && (lX d1 d3 && (lX d1 d4 && lX d2 d3)))))))
     then .need (ft 0 n (aE xs).length) (.need (Nat.ble (((aE q.2).length + n.toNat) * te.bytes) aS)
      (.ret (JW (q.1.setCell r j ⟨s + 1,m + 1,.own (.sl ti.elem te.ks) (List.drop n.toNat (aE xs))⟩) r j s tO d2 d3 d4 d5 d6 k n (.sl ti.elem te.ks) (cat te.ks (aE q.2) (List.take n.toNat (aE xs))))))
     else .fail
   | _=> .fail)
 | _,_=> .fail)
section
variable {P:Program} {E:En} {cx:Cx P} {Z:Nat->Prop} {g:Gh} {st v:St} {a:Act} {w:World}
theorem bm.bind {st:St} (h:bm st) {d:Nat} {b:AV} {R:Option Rt}:bm (st.az d (.v b,R)):=fun t tv ht=>by
 rw [a8] at ht;split at ht
 . simp only [ab6] at ht; subst ht; exact fun h=>h
 . exact h t tv ht
theorem yf {st:St} (h:bm st) {d t:Nat} (hne:t≠d) {b:AV} {R:Option Rt}:(st.az d (.v b,R)).tv t=st.tv t:=by rw [eO (bm.bind h),eO h,a8,if_neg (fun e=>hne e.symm)]
theorem IQ {a:Act} {d:Nat} {v:Value} (h:a.eval (.tmp d)=v) (hd:d < a.tmps.size):a.put (some d) v=a:=by
 have h:a.tmps.getD d undef=v:=h;have:a.tmps.setIfInBounds d v=a.tmps:=by
  apply adK;intro i;rw [ac3];by_cases e:d=i
  . subst e;rw [if_pos rfl,if_pos hd,<- h];simp [ach,hd]
  . rw [if_neg e]
 cases a;simp only [Act.put] at this ⊢;congr 1
theorem FQ (hT:bG P E) (hga:de P E) {rid tS tA tA2 tO tK d1 d2 d3 d4 d5 d6:Nat} {o1 o2 o3 o4 o5 o6:Oper} {c:Call} {tys:List Nat}
 (e1:o1.dst=some d1) (g1:o1.guard=none) (e2:o2.dst=some d2) (p2:o2.op= .move (.tmp tO)) (g2:o2.guard=none) (e3:o3.dst=some d3) (p3:o3.op= .move (.tmp tK)) (g3:o3.guard=none)
 (e4:o4.dst=some d4) (p4:o4.op= .slice tS (.tmp d2) none (some (.tmp d3)) none) (g4:o4.guard=none) (e5:o5.dst=some d5) (p5:o5.op= .call c) (g5:o5.guard=none) (hcal:c.callee= .builtin .append) (hargs:c.args.toList=[.tmp d1,.tmp d4]) (hts:c.argTypes.toList=tA :: tA2 :: tys)
 (e6:o6.dst=some d6) (p6:o6.op= .assign (.tmp d5)) (g6:o6.guard=none) :
 cF P E (.region rid #[o1,o2,o3,o4,o5,o6] false) (xv E o1.op tS tA tA2 tO tK d1 d2 d3 d4 d5 d6):=by
 intro cx a w st st' h hrun;unfold xv at hrun;rw [Tr.run_bind] at hrun;cases hq1:(xH E st d1 o1.op).run with
 | none=>rw [hq1] at hrun; simp at hrun
 | some p =>
 rw [hq1] at hrun;simp only [acE] at hrun;obtain ⟨ti,hti,hrun⟩:=Tr.af hrun;obtain ⟨te,hte,hrun⟩:=Tr.af hrun;obtain ⟨tn,htn,hrun⟩:=Tr.af hrun;obtain ⟨av1,hav1,hrun⟩:=Tr.af hrun;obtain ⟨⟨st2,y0⟩,htk,hrun⟩:=Tr.af hrun;simp only at hrun;split at hrun;rotate_left
 . simp [Tr.run] at hrun
 rename_i r j s k n hO hK;split at hrun;rotate_left
 . simp [Tr.run] at hrun
 rename_i s' m k0 x0 hcell;obtain ⟨xs,hxs,hrun'⟩:=Tr.af hrun;clear hrun;have hrun:=hrun'; clear hrun';obtain ⟨rfl,hxs⟩:=ct hxs;simp only at hxs;obtain rfl:=hxs.symm
 generalize hc:((Nat.beq s' s && (Nat.beq tn.ks.length te.ks.length && (E.str tA2 || (E.sl tA2).isSome))) && ((st2.free d5 && (Nat.blt 0 te.bytes && (st.free d1 && Da st2 r))) && ((E.dB d1 && (E.dB d2 && (E.dB d3 && (E.dB d4 && (E.dB d5 && (E.dB d6 && E.dB tO)))))) &&
  ((lX tO d1 && (lX tO d2 && (lX tO d3 && (lX tO d4)))) && ((lX tK d1 && lX tK d2) && (lX d1 d2 && (lX d1 d3 && (lX d1 d4 && lX d2 d3))))))))=cond at hrun
 cases cond with
 | false=>simp [Tr.run] at hrun
 | true =>
 simp only [ab9] at hrun;obtain ⟨hcut,hrun⟩:=Tr.bj hrun;obtain ⟨hble,hrun⟩:=Tr.bj hrun;simp only [Tr.run,ab6] at hrun;subst hrun;simp only [ab8] at hc;obtain ⟨⟨cs1,cs2,hstr⟩,⟨hfree5,hby,hfree1,hnb⟩,⟨b1,b2,b3,b4,b5,b6,bO⟩,⟨nO1,nO2,nO3,nO4⟩,⟨nK1,nK2⟩,n12,n13,n14,n23⟩:=hc;have cs1:=beq_eq cs1;subst cs1;have cs2:=beq_eq cs2;have hby:0 < te.bytes:=adB (acF hby);have nO1:=eK nO1; have nO2:=eK nO2; have nO3:=eK nO3; have nO4:=eK nO4; have nK1:=eK nK1; have nK2:=eK nK2;have n12:=eK n12; have n13:=eK n13; have n14:=eK n14; have n23:=eK n23;obtain ⟨q0,q1,q2⟩:=eX hcut;obtain ⟨ks0,_,_,_,q4⟩:=sJ hT hte hti;have hTe:=hT _ _ q4;obtain ⟨tt,ks1,t1,_,_,_,hu⟩:=dX hT hte;rw [hti] at t1;simp only [ab6] at t1;subst t1;obtain ⟨dd2,hu2,hd2⟩:∃ d2,P.underlying tA2=some d2/\∀ k,d2≠ .int k:=by
  rw [adf] at hstr;rcases hstr with h2 | h2
  . exact ⟨_,mi hT h2,fun _ h=>by simp at h⟩
  . obtain ⟨te2,h2⟩:=aei.1 h2;obtain ⟨_,_,_,_,_,_,hu2⟩:=dX hT h2;exact ⟨_,hu2,fun _ h=>by simp at h⟩
 obtain ⟨_,_,_,_,_,u4,huS⟩:=dX hT htn;have hsS:=fun w=>bL (hT _ tn u4) (P:=P) w
 obtain ⟨hn,hsz,Z,g,hr⟩:=h;refine wp_region ?_;show wpOps P #[o1,o2,o3,o4,o5,o6] _ [0,1,2,3,4,5] a w;rw [wpOps_cons];refine bD (i:=0) rfl g1 ?_;refine yk hT hga ⟨fun _ _ h=>h,fun _ _ h=>h⟩ hr hn.cons e1 (hsz.dst b1) hfree1 hq1 _ _ fun Z1 gg1 v1 w1 hr1 => ?_
 have hp1:p=(.v av1,p.2):=by
  obtain ⟨pa,pb⟩:=p;cases pa with
  | v av=>simp only [TV.B0,ab6] at hav1; subst hav1; rfl
  | _=>simp [TV.B0] at hav1
 have hsz1:Fit cx E (a.put (some d1) v1):=hsz.put _ _;generalize ha1:a.put (some d1) v1=a1 at hr1 hsz1 ⊢;have hn1:bm (st.az d1 p):=by rw [hp1]; exact hn.bind
 have hx1:(st.az d1 p).get (.tmp d1)=some (.v av1):=by show St.tv _ d1=_;rw [eO hn1,a8,if_pos rfl,hp1]
 obtain ⟨gg2,F1,k1,k2,k3,k4,k5,k6,k7⟩:=eP hr1 (aK hr1 hn1.cons.cons hx1) htk;have hn2:bm st2:=fun t tv ht=>hn1 t tv (by rw [<- k2.tm]; exact ht)
 have hO2:st2.get (.tmp tO)=some (.v (.ref r j s')):=by rw [Km k2.tm];show St.tv _ tO=_;rw [hp1,yf hn nO1];exact hO
 have hK2:st2.get (.tmp tK)=some (.v (.d (.int k) n)):=by rw [Km k2.tm];show St.tv _ tK=_;rw [hp1,yf hn nK1];exact hK
 have vO:a1.eval (.tmp tO)=gg2.cv r j:=by obtain ⟨cc,y1,y2,y3⟩:=aK k1 hn2.cons.cons hO2;rw [hcell] at y1;cases y1;exact y3 rfl
 have hown:cK w1 (.sl ti.elem te.ks) xs (gg2.cv r j) (gg2.fp r j):=k1.cell r j _ hcell;obtain ⟨aa,cap,v0,v2,v3,v4,v5⟩:=hown;have hown:cK w1 (.sl ti.elem te.ks) xs (gg2.cv r j) (gg2.fp r j):=k1.cell r j _ hcell;rw [v0] at hown;obtain ⟨FH,FR,news,H,w0,wl,wc,wr,wfh,wfr,wlen,wcap⟩:=GI (P:=P) hown (n:=n.toNat) (by omega);generalize htail:Value.slice (if cap=n.toNat then aa else aa.map (·.add (n.toNat * te.ks.length))) ((aE xs).length - n.toNat) (cap - n.toNat)=vt at wr;have hld:(List.drop n.toNat (aE xs)).length=(aE xs).length - n.toNat:=ac0 ..
 have hlt:(List.take n.toNat (aE xs)).length=n.toNat:=(acL (l:=aE xs) (i:=n.toNat)).trans (ad9 (by omega))
 have hch:=k1.change hcell (c':=⟨s' + 1,m + 1,.own (.sl ti.elem te.ks) (List.drop n.toNat (aE xs))⟩) (w':=w1) (v':=vt) (F':=FR) rfl rfl rfl (acb _) (aer _) (adA _)
  (fun e=>absurd e (ad4 _)) (fun e=>absurd e (ad4 _)) (fun _ _ _ _=>rfl)
  (fun q hq=>by have hq':=wfr q hq;obtain ⟨z1,z2,z3,_⟩:=k1.fp r j q hq';exact ⟨z1,z2,z3,fun r' j' hh=>k1.disj _ _ _ _ _ hh hq',fun r' R' hR' hx he=>(k1.box r' R' hR' hx).2.2.1 r j (by rw [he]; exact hq'),_,_,rfl⟩)
  (fun R' hR' hx=>by unfold Da at hnb;rw [hR'] at hnb;simp [hx] at hnb)
  (fun kp=>wr)
 obtain ⟨h3,m3⟩:=hch;generalize hst3:st2.setCell r j ⟨s' + 1,m + 1,.own (.sl ti.elem te.ks) (List.drop n.toNat (aE xs))⟩=st3 at h3 m3;generalize hgg3:gg2.iU r j vt FR=gg3 at h3 m3;have hn3:bm st3:=fun t tv ht=>hn2 t tv (by rw [<- m3.tm]; exact ht)
 have hcell3:st3.cell r j=some ⟨s' + 1,m + 1,.own (.sl ti.elem te.ks) (List.drop n.toNat (aE xs))⟩:=by rw [<- hst3,cr,if_pos ⟨rfl,rfl⟩,hcell];rfl
 have hcv3:gg3.cv r j=vt:=by rw [<- hgg3]; simp [Gh.iU]
 have hfp3:∀ r' j' b,gg3.fp r' j' b->(r'=r/\j'=j/\FR b)∨(¬ (r'=r/\j'=j)/\gg2.fp r' j' b):=fun r' j' b hb=>by
  rw [<- hgg3] at hb;simp only [Gh.iU] at hb;split at hb
  . rename_i e; exact .inl ⟨e.1,e.2,hb⟩
  . rename_i e; exact .inr ⟨e,hb⟩
 have hfp32:∀ r' j' b,gg3.fp r' j' b->gg2.fp r' j' b:=fun r' j' b hb=>by
  rcases hfp3 r' j' b hb with ⟨rfl,rfl,hb⟩ | ⟨_,hb⟩
  . exact wfr b hb
  . exact hb
 have hFree1:fQ cx Z1 gg3 st3 w1 F1:=k4.mono hfp32 m3.be m3.box;rw [wpOps_cons];refine bD (i:=1) rfl g2 ?_;have run2:(execOp a1.eval o2).run P w1= .ok (.value (a1.eval (.tmp tO))) w1:=by simp [execOp,p2]
 unfold Oper.wp;rw [run2,acM,e2,vO];have h4:=h3.gj (d:=d2) (tv:= .v .dead) (v:=gg2.cv r j) (hsz1.dst b2) trivial;have hsz2:=hsz1.put (some d2) (gg2.cv r j);have hv2:(a1.put (some d2) (gg2.cv r j)).eval (.tmp d2)=gg2.cv r j:=dE (hsz1.dst b2).1;have ev2:∀ t,t≠d2->(a1.put (some d2) (gg2.cv r j)).eval (.tmp t)=a1.eval (.tmp t):=fun t ht=>Act.eval_put fun d e e'=>by cases e; cases e'; exact ht rfl
 generalize ha2:a1.put (some d2) (gg2.cv r j)=a2 at h4 hsz2 hv2 ev2 ⊢;rw [wpOps_cons];refine bD (i:=2) rfl g3 ?_;have vK:a2.eval (.tmp tK)= .int k n:=by rw [ev2 tK nK2];exact (cP (aK k1 hn2.cons.cons hK2) (show TV.int? (.v (.d (.int k) n))=some (k,n) from rfl)).1
 have hKr:kZ k n:=(cP (aK k1 hn2.cons.cons hK2) (show TV.int? (.v (.d (.int k) n))=some (k,n) from rfl)).2;have run3:(execOp a2.eval o3).run P w1= .ok (.value (.int k n)) w1:=by simp [execOp,p3,vK]
 unfold Oper.wp;rw [run3,acM,e3];have h5:=h4.gj (d:=d3) (tv:= .v (.d (.int k) n)) (v:= .int k n) (hsz2.dst b3) ⟨rfl,hKr⟩;have hsz3:=hsz2.put (some d3) (.int k n);have hv3:(a2.put (some d3) (.int k n)).eval (.tmp d3)= .int k n:=dE (hsz2.dst b3).1;have ev3:∀ t,t≠d3->(a2.put (some d3) (.int k n)).eval (.tmp t)=a2.eval (.tmp t):=fun t ht=>Act.eval_put fun d e e'=>by cases e; cases e'; exact ht rfl
 generalize ha3:a2.put (some d3) (.int k n)=a3 at h5 hsz3 hv3 ev3 ⊢;have hn5:bm ((st3.az d2 (.v .dead,none)).az d3 (.v (.d (.int k) n),none)):=hn3.bind.bind;rw [wpOps_cons];refine bD (i:=3) rfl g4 ?_;have hlh:jJ ((st3.az d2 (.v .dead,none)).az d3 (.v (.d (.int k) n),none)) none (some (.tmp d3)) (aE xs).length=some ((0:Int),n):=by
  have:((st3.az d2 (.v .dead,none)).az d3 (.v (.d (.int k) n),none)).get (.tmp d3)=some (.v (.d (.int k) n)):=by show St.tv _ d3=_;rw [eO hn5,a8,if_pos rfl]
  simp only [jJ,this,TV.int?,AV.int?];rfl
 have hslice:(execOp a3.eval o4).run P w1= .ok (.value (.slice aa n.toNat cap)) w1:=by
  have hs:=mO huS hsS (aa:=aa) (js (P:=P) h5 hn5.cons.cons true hlh hcut wcap);have hv:a3.eval (.tmp d2)= .slice aa (aE xs).length cap:=by rw [ev3 d2 n23,hv2,v0]
  have haa:(if cap=(0:Int).toNat then aa else aa.map (·.add ((0:Int).toNat * tn.ks.length)))=aa:=by
   cases aa with
   | none=>simp
   | some ad => obtain ⟨b,o,_,_,_,rfl,_⟩:=v5 ad rfl;simp [gC]
  rw [haa] at hs;simp only [adC,Int.toNat_zero,Nat.sub_zero] at hs;simp only [execOp,p4,hv,adC,acy,hs,ack];rfl
 unfold Oper.wp;rw [hslice,acM,e4];have h6:=h5.gj (d:=d4) (tv:= .v .dead) (v:= .slice aa n.toNat cap) (hsz3.dst b4) trivial;have hsz4:=hsz3.put (some d4) (.slice aa n.toNat cap);have hv4:(a3.put (some d4) (.slice aa n.toNat cap)).eval (.tmp d4)= .slice aa n.toNat cap:=dE (hsz3.dst b4).1;have ev4:∀ t,t≠d4->(a3.put (some d4) (.slice aa n.toNat cap)).eval (.tmp t)=a3.eval (.tmp t):=fun t ht=>Act.eval_put fun d e e'=>by cases e; cases e'; exact ht rfl
 generalize ha4:a3.put (some d4) (.slice aa n.toNat cap)=a4 at h6 hsz4 hv4 ev4 ⊢;have hn6:bm (((st3.az d2 (.v .dead,none)).az d3 (.v (.d (.int k) n),none)).az d4 (.v .dead,none)):=hn5.bind;have vO4:a4.eval (.tmp tO)=gg2.cv r j:=by rw [ev4 tO nO4,ev3 tO nO3,ev2 tO nO2,vO]
 have vX4:a4.eval (.tmp d1)=a1.eval (.tmp d1):=by rw [ev4 d1 n14,ev3 d1 n13,ev2 d1 n12]
 have h7:=h6.gj (d:=tO) (tv:= .v (.pre r j (s' + 1) n.toNat)) (v:=gg2.cv r j) (hsz4.dst bO) (by
  refine ⟨_,hcell3,acb _,fun _=>⟨_,_,_,rfl,aa,(aE xs).length,cap,v0,by omega,wcap,?_,?_⟩⟩
  . show (aE xs).length=n.toNat + (List.drop n.toNat (aE xs)).length;rw [hld]; omega
  . show gg3.cv r j=_;rw [hcv3,<- htail])
 rw [IQ vO4 (hsz4.dst bO).1] at h7;rw [wpOps_cons];refine bD (i:=4) rfl g5 ?_;have hbytes:((aE y0).length + (List.take n.toNat (aE xs)).length) * te.bytes<=aS:=by rw [hlt]; exact acF hble
 obtain ⟨v',w2,F',r1,r2,r3,r4,r5,r6,r7,r8,r9⟩:=Gd (P:=P) (ty:=o5.type) (ats:=c.argTypes) hu hTe hu2 hd2 (by rw [<- acf,hts]; rfl) (by rw [<- acf,hts]; rfl) hby k3 w0 wl wc
  (fun q hq=>by
    rcases hq with hq | hq
    . exact k4.lt q hq
    . exact (k1.fp r j q (wfh q hq).1).1) (fun q hq hF=>k4.fp q hF r j (wfh q hq).1) hbytes
 have hargs':c.args = #[.tmp d1,.tmp d4]:=by rw [<- adb (xs:=c.args),hargs]
 have run5:(execOp a4.eval o5).run P w1= .ok (.value v') w2:=by simp only [execOp,p5,resolve,hcal,hargs',acy,acR,ack,invoke,builtin,adJ,ads,ad6,vX4,hv4,r1]
 unfold Oper.wp;rw [run5,acM,e5];have h8:=h7.wr (w':=w2) (F:=F1) ⟨hFree1.lt,hFree1.own,hFree1.z,hFree1.fp,hFree1.box⟩ r2 r3 r4 r5 r6;have hFb:∀ b,F' b->b < w2.heap.size/\(cx.F0 b∨cx.w0.heap.size<=b)/\¬ Z1 b/\(∀ r j,¬ gg3.fp r j b)/\(∀ r' R',look st3.rt r'=some R'->R'.box=true->gg3.be r'≠b):=fun b hb=>by
  obtain ⟨l1,l2⟩:=r7 b hb;rcases l2 with l2 | l2 | l2
  . exact ⟨l1,hFree1.own b l2,hFree1.z b l2,hFree1.fp b l2,hFree1.box b l2⟩
  . obtain ⟨x1,x2⟩:=wfh b l2;obtain ⟨z1,z2,z3,_⟩:=k1.fp r j b x1;refine ⟨l1,z2,z3,fun r' j' hh => ?_,fun r' R' hR' hb' he=>(h3.box r' R' hR' hb').2.2.1 r' j ?_⟩
    . rcases hfp3 r' j' b hh with ⟨_,_,hh⟩ | ⟨hne,hh⟩
      . exact x2 hh
      . exact hne (k1.disj _ _ _ _ _ hh x1)
    . exfalso;obtain ⟨R2,hR2,hb2⟩:=m3.box r' R' hR';refine (k1.box r' R2 hR2 (by rw [<- hb2]; exact hb')).2.2.1 r j ?_;rw [<- m3.be,he];exact x1
  . refine ⟨l1,.inr (acv k1.size l2),fun hz=>by have:=(k1.bN _ hz).1; omega,fun r' j' hh=>by have:=(h3.fp r' j' _ hh).1; omega,fun r' R' hR' hb' he => ?_⟩;obtain ⟨_,_,_,_,cs1,el1,fr1,b5,_⟩:=h3.box r' R' hR' hb';rw [he,acw l2] at b5;simp at b5
 have hfree5':st3.free d5=true:=by
  have:(look st3.rt d5).isSome=(look st2.rt d5).isSome:=by
   rw [<- hst3,eQ];split
   . rename_i e; subst e; cases look st2.rt r <;> rfl
   . rfl
  unfold St.free at hfree5 ⊢;revert this hfree5;cases look st3.rt d5 <;> cases look st2.rt d5 <;> simp
 obtain ⟨gg9,h9⟩:=h8.zX (d:=d5) (hsz4.dst b5) hfree5' hFb r9;have hsz5:=hsz4.put (some d5) v';have hn9:bm ((((((st3.az d2 (.v .dead,none)).az d3 (.v (.d (.int k) n),none)).az d4 (.v .dead,none)).az tO (.v (.pre r j (s' + 1) n.toNat),none))).az d5 (.v (.ref d5 0 0),some ⟨false,[⟨0,0,.own (.sl ti.elem te.ks) (cat te.ks (aE y0) (List.take n.toNat (aE xs)))⟩]⟩)):=hn6.bind.bind;rw [wpOps_cons];refine bD (i:=5) rfl g6 ?_;obtain ⟨hn10,hw10⟩:=je h9 hn9 hsz5 e6 (hsz5.dst b6) (.inr p6) (tv:= .v (.ref d5 0 0)) (by show St.tv _ d5=_;rw [eO hn9,a8,if_pos rfl]);refine hw10 _ _ fun Z' g' a' w' hr' hsz' => ?_
 exact ⟨hn10,hsz',Z',g',hr'⟩
end
end Go.Av
namespace Go.Av
open Go.RowKit (Below)
def preB (n:Int) (m:Nat):Bool:=bz 0 n && Nat.beq n.toNat m
def AW (E:En) (tS tA tA2 tN tO tK d1 d2 d3 d4 d5:Nat) (st:St):Tr St :=
 Tr.bo (E.ti tA) fun ti=>Tr.bo (E.sl tA) fun te=>Tr.bo (E.sl tS) fun tn =>
 (match st.tv tN,st.tv tO,st.tv tK with
 | some (.v avN),some (.v (.pre r j s m0)),some (.v (.d (.int k) n))=>(match st.cell r j with
   | some ⟨s',m,.own (.sl e ks) xs⟩ =>
     bif (Nat.beq s' s && (Nat.beq ks.length tn.ks.length && (E.str tA2 || (E.sl tA2).isSome))) && ((E.dB d1 && (E.dB d2 && (E.dB d3 && (E.dB d4 && (E.dB d5 && E.dB tO))))) && ((lX tO d1 && (lX tK d1 && lX tK d2)) && ((lX d1 d2 && (lX d1 d3 && lX d1 d4)) && lX d2 d3)))
     then .need (preB n m0) (((((((st.az d1 (.v avN,none)).az d2 (.v .dead,none)).az d3 (.v (.d (.int k) n),none)).az d4 (.v (.ref r j s),none)).append d5 ti.elem te (.v avN) (.v (.ref r j s)))).bind fun st'=> .ret (st'.az tO (.v (.ref d5 0 0),none)))
     else .fail
   | _=> .fail)
 | _,_,_=> .fail)
section
variable {P:Program} {E:En} {cx:Cx P} {Z:Nat->Prop} {g:Gh} {st v:St} {a:Act} {w:World}
theorem Jx (hT:bG P E) (hga:de P E) {rid tS tA tA2 tN tO tK d1 d2 d3 d4 d5:Nat} {o1 o2 o3 o4 o5 o6:Oper} {c:Call} {tys:List Nat}
 (e1:o1.dst=some d1) (p1:o1.op= .move (.tmp tN)) (g1:o1.guard=none) (e2:o2.dst=some d2) (p2:o2.op= .move (.tmp tO)) (g2:o2.guard=none) (e3:o3.dst=some d3) (p3:o3.op= .move (.tmp tK)) (g3:o3.guard=none)
 (e4:o4.dst=some d4) (p4:o4.op= .slice tS (.tmp d2) (some (.tmp d3)) none none) (g4:o4.guard=none) (e5:o5.dst=some d5) (p5:o5.op= .call c) (g5:o5.guard=none) (hcal:c.callee= .builtin .append) (hargs:c.args.toList=[.tmp d1,.tmp d4]) (hts:c.argTypes.toList=tA :: tA2 :: tys)
 (e6:o6.dst=some tO) (p6:o6.op= .assign (.tmp d5)) (g6:o6.guard=none) :
 cF P E (.region rid #[o1,o2,o3,o4,o5,o6] false) (AW E tS tA tA2 tN tO tK d1 d2 d3 d4 d5):=by
 intro cx a w st st' h hrun;unfold AW at hrun;obtain ⟨ti,hti,hrun⟩:=Tr.af hrun;obtain ⟨te,hte,hrun⟩:=Tr.af hrun;obtain ⟨tn,htn,hrun⟩:=Tr.af hrun;split at hrun;rotate_left
 . simp [Tr.run] at hrun
 rename_i avN r j s m0 k n hN hO hK;split at hrun;rotate_left
 . simp [Tr.run] at hrun
 rename_i s' m e ks xs hcell;generalize hc:((Nat.beq s' s && (Nat.beq ks.length tn.ks.length && (E.str tA2 || (E.sl tA2).isSome))) && ((E.dB d1 && (E.dB d2 && (E.dB d3 && (E.dB d4 && (E.dB d5 && E.dB tO))))) && ((lX tO d1 && (lX tK d1 && lX tK d2)) && ((lX d1 d2 && (lX d1 d3 && lX d1 d4)) && lX d2 d3))))=cond at hrun;cases cond with
 | false=>simp [Tr.run] at hrun
 | true =>
 simp only [ab9] at hrun;obtain ⟨hpre,hrun⟩:=Tr.bj hrun;rw [Tr.run_bind] at hrun;generalize hst4:(((st.az d1 (.v avN,none)).az d2 (.v .dead,none)).az d3 (.v (.d (.int k) n),none)).az d4 (.v (.ref r j s),none)=st4 at hrun;cases hap:(st4.append d5 ti.elem te (.v avN) (.v (.ref r j s))).run with
 | none=>rw [hap] at hrun; simp at hrun
 | some st5 =>
 rw [hap] at hrun;simp only [acE,Tr.run,ab6] at hrun;subst hrun;simp only [ab8] at hc;obtain ⟨⟨cs1,cs2,hstr⟩,⟨b1,b2,b3,b4,b5,bO⟩,⟨nO1,nK1,nK2⟩,⟨n12,n13,n14⟩,n23⟩:=hc;have cs1:=beq_eq cs1;subst cs1;have cs2:=beq_eq cs2;have nO1:=eK nO1; have nK1:=eK nK1; have nK2:=eK nK2;have n12:=eK n12; have n13:=eK n13; have n14:=eK n14; have n23:=eK n23;unfold preB bz at hpre;simp only [ab8,adg] at hpre;obtain ⟨hn0,hm0⟩:=hpre;have hm0:=beq_eq hm0;obtain ⟨_,_,_,_,_,u4,huS⟩:=dX hT htn;have hsS:=fun w=>bL (hT _ tn u4) (P:=P) w
 obtain ⟨hn,hsz,Z,g,hr⟩:=h;refine wp_region ?_;show wpOps P #[o1,o2,o3,o4,o5,o6] _ [0,1,2,3,4,5] a w;rw [wpOps_cons];refine bD (i:=0) rfl g1 ?_;have vN:a.eval (.tmp tN)=a.eval (.tmp tN):=rfl;have run1:(execOp a.eval o1).run P w= .ok (.value (a.eval (.tmp tN))) w:=by simp [execOp,p1]
 unfold Oper.wp;rw [run1,acM,e1];have h1:=hr.gj (d:=d1) (tv:= .v avN) (v:=a.eval (.tmp tN)) (hsz.dst b1) (aK hr hn.cons.cons hN);have hsz1:=hsz.put (some d1) (a.eval (.tmp tN));have ev1:∀ t,t≠d1->(a.put (some d1) (a.eval (.tmp tN))).eval (.tmp t)=a.eval (.tmp t):=fun t ht=>Act.eval_put fun d e e'=>by cases e; cases e'; exact ht rfl
 generalize ha1:a.put (some d1) (a.eval (.tmp tN))=a1 at h1 hsz1 ev1 ⊢;rw [wpOps_cons];refine bD (i:=1) rfl g2 ?_;have run2:(execOp a1.eval o2).run P w= .ok (.value (a.eval (.tmp tO))) w:=by simp [execOp,p2,ev1 tO nO1]
 unfold Oper.wp;rw [run2,acM,e2];have h2:=h1.gj (d:=d2) (tv:= .v .dead) (v:=a.eval (.tmp tO)) (hsz1.dst b2) trivial;have hsz2:=hsz1.put (some d2) (a.eval (.tmp tO));have hv2:(a1.put (some d2) (a.eval (.tmp tO))).eval (.tmp d2)=a.eval (.tmp tO):=dE (hsz1.dst b2).1;have ev2:∀ t,t≠d2->(a1.put (some d2) (a.eval (.tmp tO))).eval (.tmp t)=a1.eval (.tmp t):=fun t ht=>Act.eval_put fun d e e'=>by cases e; cases e'; exact ht rfl
 generalize ha2:a1.put (some d2) (a.eval (.tmp tO))=a2 at h2 hsz2 hv2 ev2 ⊢;rw [wpOps_cons];refine bD (i:=2) rfl g3 ?_;have vK0:=cP (aK hr hn.cons.cons (show st.get (.tmp tK)=_ from hK)) (show TV.int? (.v (.d (.int k) n))=some (k,n) from rfl);have run3:(execOp a2.eval o3).run P w= .ok (.value (.int k n)) w:=by simp [execOp,p3,ev2 tK nK2,ev1 tK nK1,vK0.1]
 unfold Oper.wp;rw [run3,acM,e3];have h3:=h2.gj (d:=d3) (tv:= .v (.d (.int k) n)) (v:= .int k n) (hsz2.dst b3) ⟨rfl,vK0.2⟩;have hsz3:=hsz2.put (some d3) (.int k n);have ev3:∀ t,t≠d3->(a2.put (some d3) (.int k n)).eval (.tmp t)=a2.eval (.tmp t):=fun t ht=>Act.eval_put fun d e e'=>by cases e; cases e'; exact ht rfl
 generalize ha3:a2.put (some d3) (.int k n)=a3 at h3 hsz3 ev3 ⊢;have hn3:bm (((st.az d1 (.v avN,none)).az d2 (.v .dead,none)).az d3 (.v (.d (.int k) n),none)):=hn.bind.bind.bind;rw [wpOps_cons];refine bD (i:=3) rfl g4 ?_;obtain ⟨cc,y1,y2,y3⟩:=aK hr hn.cons.cons (show st.get (.tmp tO)=_ from hO);rw [hcell] at y1;cases y1;obtain ⟨e',ks',xs',y4,aa,l,cap,y5,y6,y7,y8,y9⟩:=y3 rfl;simp only [RV.own.injEq,K.sl.injEq] at y4;obtain ⟨⟨rfl,rfl⟩,y4⟩:=y4;cases y4;have hlh:jJ (((st.az d1 (.v avN,none)).az d2 (.v .dead,none)).az d3 (.v (.d (.int k) n),none)) (some (.tmp d3)) none l=some (n,(l:Int)):=by
  have:(((st.az d1 (.v avN,none)).az d2 (.v .dead,none)).az d3 (.v (.d (.int k) n),none)).get (.tmp d3)=some (.v (.d (.int k) n)):=by show St.tv _ d3=_;rw [eO hn3,a8,if_pos rfl]
  simp only [jJ,this,TV.int?,AV.int?];rfl
 have hcut:ft n (l:Int) l=true:=by simp only [ft,bz,ab8,adg];omega
 have hslice:(execOp a3.eval o4).run P w= .ok (.value (g.cv r j)) w:=by
  have hs:=mO huS hsS (aa:=aa) (js (P:=P) h3 hn3.cons.cons true hlh hcut y7);have hv:a3.eval (.tmp d2)= .slice aa l cap:=by rw [ev3 d2 n23,hv2,y5]
  rw [hm0,acQ,<- cs2,<- y9] at hs;simp only [adC] at hs;simp only [execOp,p4,hv,adC,acy,hs,ack];rfl
 unfold Oper.wp;rw [hslice,acM,e4];have h4:=h3.gj (d:=d4) (tv:= .v (.ref r j s')) (v:=g.cv r j) (hsz3.dst b4) ⟨_,hcell,acb _,fun _=>rfl⟩;have hsz4:=hsz3.put (some d4) (g.cv r j);have hn4:bm st4:=by rw [<- hst4]; exact hn3.bind
 rw [hst4] at h4;have hx4:st4.get (.tmp d1)=some (.v avN):=by show St.tv _ d1=_;rw [eO hn4,<- hst4,a8,if_neg (fun e=>n14 e.symm),a8,if_neg (fun e=>n13 e.symm),a8,if_neg (fun e=>n12 e.symm),a8,if_pos rfl]
 have hy4:st4.get (.tmp d4)=some (.v (.ref r j s')):=by show St.tv _ d4=_;rw [eO hn4,<- hst4,a8,if_pos rfl]
 rw [wpOps_cons];refine bD (i:=4) rfl g5 ?_;obtain ⟨hn5,hw5⟩:=BN hT h4 hn4 hsz4 e5 (hsz4.dst b5) p5 hcal hargs hts hti hte hx4 hy4 (by
  rw [adf] at hstr;rcases hstr with h2 | h2
  . exact .inl h2
  . exact .inr (aei.1 h2)) hap
 refine hw5 _ _ fun Z5 gg5 a5 w5 hr5 hsz5 => ?_
 rw [wpOps_cons];refine bD (i:=5) rfl g6 ?_;have h55:st5.get (.tmp d5)=some (.v (.ref d5 0 0)):=by
  show St.tv _ d5=_;rw [eO hn5];unfold St.append at hap;obtain ⟨_,_,hap⟩:=Tr.af hap;obtain ⟨_,_,hap⟩:=Tr.af hap;obtain ⟨q,_,hap⟩:=Tr.af hap;cases hcond:q.1.free d5 && Nat.blt 0 te.bytes with
  | false=>rw [hcond] at hap; simp [Tr.run] at hap
  | true => rw [hcond] at hap;simp only [ab9] at hap;obtain ⟨_,hap⟩:=Tr.bj hap;simp only [Tr.run,ab6] at hap;rw [<- hap,a8,if_pos rfl]
 obtain ⟨hn6,hw6⟩:=je hr5 hn5 hsz5 e6 (hsz5.dst bO) (.inr p6) h55;exact hw6 _ _ fun Z' g' a' w' hr' hsz'=>⟨hn6,hsz',Z',g',hr'⟩
theorem Ju (hT:bG P E) (hga:de P E) {cd:Code} {rid tS tA tA2 tO tK d1 d2 d3 d4 d5 d6:Nat} {o1 o2 o3 o4 o5 o6:Oper} {c:Call} {tys:List Nat} (hcd:cd= .region rid #[o1,o2,o3,o4,o5,o6] false)
 (e1:o1.dst=some d1) (g1:o1.guard=none) (e2:o2.dst=some d2) (p2:o2.op= .move (.tmp tO)) (g2:o2.guard=none) (e3:o3.dst=some d3) (p3:o3.op= .move (.tmp tK)) (g3:o3.guard=none)
 (e4:o4.dst=some d4) (p4:o4.op= .slice tS (.tmp d2) none (some (.tmp d3)) none) (g4:o4.guard=none) (e5:o5.dst=some d5) (p5:o5.op= .call c) (g5:o5.guard=none) (hcal:c.callee= .builtin .append) (hargs:c.args.toList=[.tmp d1,.tmp d4]) (hts:c.argTypes.toList=tA :: tA2 :: tys)
 (e6:o6.dst=some d6) (p6:o6.op= .assign (.tmp d5)) (g6:o6.guard=none):cF P E cd (xv E o1.op tS tA tA2 tO tK d1 d2 d3 d4 d5 d6):=by
 rw [hcd];exact FQ hT hga e1 g1 e2 p2 g2 e3 p3 g3 e4 p4 g4 e5 p5 g5 hcal hargs hts e6 p6 g6
theorem Nc (hT:bG P E) (hga:de P E) {cd:Code} {rid tS tA tA2 tN tO tK d1 d2 d3 d4 d5:Nat} {o1 o2 o3 o4 o5 o6:Oper} {c:Call} {tys:List Nat} (hcd:cd= .region rid #[o1,o2,o3,o4,o5,o6] false)
 (e1:o1.dst=some d1) (p1:o1.op= .move (.tmp tN)) (g1:o1.guard=none) (e2:o2.dst=some d2) (p2:o2.op= .move (.tmp tO)) (g2:o2.guard=none) (e3:o3.dst=some d3) (p3:o3.op= .move (.tmp tK)) (g3:o3.guard=none)
 (e4:o4.dst=some d4) (p4:o4.op= .slice tS (.tmp d2) (some (.tmp d3)) none none) (g4:o4.guard=none) (e5:o5.dst=some d5) (p5:o5.op= .call c) (g5:o5.guard=none) (hcal:c.callee= .builtin .append) (hargs:c.args.toList=[.tmp d1,.tmp d4]) (hts:c.argTypes.toList=tA :: tA2 :: tys)
 (e6:o6.dst=some tO) (p6:o6.op= .assign (.tmp d5)) (g6:o6.guard=none):cF P E cd (AW E tS tA tA2 tN tO tK d1 d2 d3 d4 d5):=by
 rw [hcd];exact Jx hT hga e1 p1 g1 e2 p2 g2 e3 p3 g3 e4 p4 g4 e5 p5 g5 hcal hargs hts e6 p6 g6
def ZF {α:Type} (xs:List α) (n:Int):List α:=List.drop n.toNat xs
def Xl {α:Type} (bytes:Nat) (xs _ys:List α) (n:Int):Bool:=Nat.ble ((xs.length + n.toNat) * bytes) aS
def Sb (n m:Int):Bool:=preB n m.toNat
end
end Go.Av
namespace Go.Av
section
variable {α A X Y:Type}
def iV (f:Nat->α->A->Sum A Y) (z:A->Y):Nat->List α->A->Y
 | _,[],a=>z a
 | i,x :: r,a=>match f i x a with
   | .inl a'=>iV f z (i + 1) r a'
   | .inr y=>y
theorem mB {step:X->Option (Sum X Y)} (xs:List α) (S:Nat->A->X) (f:Nat->α->A->Sum A Y) (z:A->Y) (I:Nat->A->Prop)
 (hs:∀ i x a,xs[i]? = some x->I i a->step (S i a)=some (match f i x a with | .inl a'=> .inl (S (i + 1) a') | .inr y=> .inr y))
 (hI:∀ i x a a',xs[i]? = some x->I i a->f i x a= .inl a'->I (i + 1) a')
 (he:∀ a,I xs.length a->step (S xs.length a)=some (.inr (z a))) :
 ∀ (ys:List α) (i:Nat) (a:A),i + ys.length=xs.length->ys=xs.drop i->I i a->ai step (S i a)=some (iV f z i ys a)
 | [],i,a,hl,hy,h=>by
   have:i=xs.length:=by simpa using hl
   subst this;exact aJ step (he a h)
 | x :: r,i,a,hl,hy,h=>by
   have hx:xs[i]? = some x:=by have:=acT (·[0]?) hy;simp only [acj,adh,acO] at this;exact this.symm
   have hr:r=xs.drop (i + 1):=by have:=acT List.tail hy;simpa using this
   have hst:=hs i x a hx h;cases hf:f i x a with
   | inl a' => rw [hf] at hst;refine aQ step hst ?_;rw [iV,hf];exact mB xs S f z I hs hI he r (i + 1) a' (by simp only [aca] at hl; omega) hr (hI i x a a' hx h hf)
   | inr y => rw [hf] at hst;rw [iV,hf];exact aJ step hst
theorem aP {step:X->Option (Sum X Y)} (xs:List α) (S:Nat->A->X) (f:Nat->α->A->Sum A Y) (z:A->Y) (I:Nat->A->Prop) {a0:A} (h0:I 0 a0)
 (hs:∀ i x a,xs[i]? = some x->I i a->step (S i a)=some (match f i x a with | .inl a'=> .inl (S (i + 1) a') | .inr y=> .inr y))
 (hI:∀ i x a a',xs[i]? = some x->I i a->f i x a= .inl a'->I (i + 1) a')
 (he:∀ a,I xs.length a->step (S xs.length a)=some (.inr (z a))):ai step (S 0 a0)=some (iV f z 0 xs a0) :=
 mB xs S f z I hs hI he xs 0 a0 (by simp) (by simp) h0
theorem aD {step:X->Option (Sum X Y)} (xs:List α) (S:Nat->A->X) (f:Nat->α->A->Sum A Y) (z:A->Y) {a0:A}
 (hs:∀ i x a,xs[i]? = some x->step (S i a)=some (match f i x a with | .inl a'=> .inl (S (i + 1) a') | .inr y=> .inr y))
 (he:∀ a,step (S xs.length a)=some (.inr (z a))):ai step (S 0 a0)=some (iV f z 0 xs a0) :=
 aP xs S f z (fun _ _=>True) trivial (fun i x a h _=>hs i x a h) (fun _ _ _ _ _ _ _=>trivial) fun a _=>he a
theorem kO {step:X->Option (Sum X Y)} (xs:List α) (S:Nat->A->X) (z:A->Y) (I:Nat->A->Prop)
 (hs:∀ i x a,xs[i]? = some x->I i a->∃ a',step (S i a)=some (.inl (S (i + 1) a'))/\I (i + 1) a')
 (he:∀ a,I xs.length a->step (S xs.length a)=some (.inr (z a))):∀ (n k:Nat) (a:A),k + n=xs.length->I k a->∃ a',I xs.length a'/\ai step (S k a)=some (z a')
 | 0,k,a,hk,h=>by rw [acO] at hk;subst hk;exact ⟨a,h,aJ step (he a h)⟩
 | n + 1,k,a,hk,h=>by have hx:xs[k]? = some (xs[k]'(by omega)):=acm (by omega);obtain ⟨a1,h1,h2⟩:=hs k _ a hx h;obtain ⟨a',h3,h4⟩:=kO xs S z I hs he n (k + 1) a1 (by omega) h2;exact ⟨a',h3,aQ step h1 h4⟩
theorem fL (p:α->Bool) (y:Y) (z:Unit->Y):∀ (xs:List α) (i:Nat),iV (fun _ x _=>bif p x then .inl () else .inr y) z i xs ()=bif xs.all p then z () else y
 | [],_=>rfl
 | x :: r,i=>by
   rw [iV,adj];cases hp:p x with
   | true=>simp only [ab9,aem]; exact fL p y z r (i + 1)
   | false=>rfl
def allI (p:Nat->α->Bool):Nat->List α->Bool
 | _,[]=>true
 | i,x :: r=>p i x && allI p (i + 1) r
theorem cJ (p:Nat->α->Bool) (y:Y) (z:Unit->Y):∀ (xs:List α) (i:Nat),iV (fun i x _=>bif p i x then .inl () else .inr y) z i xs ()=bif allI p i xs then z () else y
 | [],_=>rfl
 | x :: r,i=>by
   rw [iV,allI];cases hp:p i x with
   | true=>simp only [ab9,aem]; exact cJ p y z r (i + 1)
   | false=>rfl
theorem uN (p:Nat->α->Bool):∀ {xs:List α} {k:Nat},allI p k xs=true->∀ {i:Nat} {x:α},xs[i]? = some x->p (k + i) x=true
 | [],k,_,i,x,hx=>by simp at hx
 | y :: r,k,h,i,x,hx=>by
   simp only [allI,ab8] at h;cases i with
   | zero=>simp only [acj,ab6] at hx; subst hx; exact h.1
   | succ i => have:=uN p h.2 (i:=i) (x:=x) (by simpa using hx);rwa [show k + 1 + i=k + (i + 1) by omega] at this
theorem bq (f:α->A->A) (z:A->Y):∀ (xs:List α) (i:Nat) (a:A),iV (fun _ x a=> .inl (f x a)) z i xs a=z (xs.foldl (fun a x=>f x a) a)
 | [],_,_=>rfl
 | x :: r,i,a=>by rw [iV,ade]; exact bq f z r (i + 1) _
end
theorem bn {α β:Type} {a b:Option α} {f:α->Option β} (h:a=b):Option.bind a f=Option.bind b f:=h ▸ rfl
section
variable {α:Type}
theorem aL {i:Nat} (h:i<=aS):aq .i64 (i:Int) 1=((i + 1:Nat):Int):=by unfold aq;rw [IntWalk.i64_in _ (by have:aS=140737488355328:=rfl; omega)];omega
theorem bb {a b:Int} (h1 : -4611686018427387904<=a + b) (h2:a + b<=4611686018427387904):aq .i64 a b=a + b:=by unfold aq; rw [IntWalk.i64_in _ (by omega)]
theorem aO {a b:Int} (h1 : -4611686018427387904<=a - b) (h2:a - b<=4611686018427387904):aI .i64 a b=a - b:=by unfold aI; rw [IntWalk.i64_in _ (by omega)]
theorem aj {xs:List α} {i:Nat} {x:α} (h:xs[i]? = some x):i < xs.length:=(aeB.1 h).1
theorem aC {xs:List α} {i:Nat} {x:α} (h:xs[i]? = some x):au (i:Int) (ae xs)=true:=by have:=aj h;unfold au ae; exact ace (by omega)
theorem aw {xs:List α} {n:Nat} (h:xs.length=n):au (n:Int) (ae xs)=false:=by unfold au ae; exact acD (by omega)
theorem ay {a b:Int} (h:¬ a < b):au a b=false:=acD h
theorem aF {a b:Int} (h:a < b):au a b=true:=ace h
theorem ax {xs:List α} {i:Nat} {x:α} (h:xs[i]? = some x):aZ (i:Int) xs=true:=by have:=aj h;unfold aZ kV bz au; rw [ace (by omega),ace (by omega)]; rfl
theorem jY {xs:List α} {i:Nat} (h:i < xs.length):aZ (i:Int) xs=true:=by unfold aZ kV bz au; rw [ace (by omega),ace (by omega)]; rfl
theorem aR {xs:List α} {i:Nat} {x:α} (d:α) (h:xs[i]? = some x):gt d xs (i:Int)=x:=by simp [gt,List.getD,h]
theorem eD {xs:List UInt8} {i:Nat} {x:UInt8} (h:xs[i]? = some x):dq xs (i:Int)=(x.toNat:Int):=by simp [dq,By,List.getD,h]
theorem bu (n:Int):ak n n=true:=by simp [ak]
theorem dT (s:List UInt8):bI s s=true:=by simp [bI]
theorem pv {xs:List α} {b:Nat} (hb:0 < b) (h:xs.length * b<=aS):MN b (ae xs)=true:=by
 have h1:((xs.length:Int) * (b:Int))<=(aS:Int):=by exact_mod_cast h
 unfold MN ae bz;rw [ace (Int.natCast_nonneg _),ace h1];exact acB hb
theorem jw {β:Type} {xs:List α} (d:β):uM d (ae xs)=List.replicate xs.length d:=by simp [uM,ae]
theorem sr (d:α) {done:List α} {y:α} {r:List α} {i:Nat} (h:done.length=i):gt d (done ++ y :: r) (i:Int)=y:=by subst h; simp [gt,List.getD]
theorem jP {done:List α} {x y:α} {r:List α} {i:Nat} (h:done.length=i):xM (done ++ x :: r) (i:Int) y=done ++ y :: r:=by subst h; simp [xM,adS]
theorem lJ {done:List α} {y:α} {r:List α} {i:Nat} (h:done.length=i):aZ (i:Int) (done ++ y :: r)=true:=by apply jY; simp; omega
end
def CF (left:Int) (n:Nat):Int:=if (n:Int)<=left then left - n else -1
theorem bp {left:Int} {n:Nat} (h:(n:Int)<=left):CF left n=left - n:=if_pos h
theorem aY {left:Int} {n:Nat} (h:¬ (n:Int)<=left):CF left n = -1:=if_neg h
theorem dv {α:Type} {left:Int} {s:List α} (h0:0<=left) (h1:left<=1048576) (hs:s.length<=aS):aI .i64 left (ae s)=left - (s.length:Int):=by have:aS=140737488355328:=rfl;exact aO (by unfold ae; omega) (by unfold ae; omega)
def wL {α:Type} (w:α->Nat) (xs:List α):Nat:=xs.length + (xs.map w).sum
def cL {α:Type} (c:α->Nat) (xs:List α):Nat:=(xs.map c).sum
theorem rM {α Y:Type} (w:α->Nat) (y:Y) (z:Int->Y):∀ (xs:List α) (i:Nat) (a:Int),0<=a->iV (fun _ x (a:Int)=>bif decide ((w x:Int)<=a) then Sum.inl (a - w x) else .inr y) z i xs a=if ((cL w xs:Nat):Int)<=a then z (a - (cL w xs:Nat)) else y
 | [],_,a,h=>by simp [iV,cL,h]
 | x :: r,i,a,h=>by
   rw [iV];by_cases hx:(w x:Int)<=a
   . simp only [hx,decide_true,ab9];rw [rM w y z r (i + 1) (a - w x) (by omega)];have e:((cL w (x :: r):Nat):Int)=w x + (cL w r:Nat):=by simp [cL]
     rw [e];by_cases h2:((cL w r:Nat):Int)<=a - w x
     . rw [if_pos h2,if_pos (by omega)]; congr 1; omega
     . rw [if_neg h2,if_neg (by omega)]
   . simp only [hx,decide_false,aco];rw [if_neg];have e:((cL w (x :: r):Nat):Int)=w x + (cL w r:Nat):=by simp [cL]
     rw [e]; omega
theorem iz {α:Type} (c:α->Nat):∀ {xs:List α} {i:Nat} {x:α},xs[i]? = some x->c x<=cL c xs
 | [],i,x,h=>by simp at h
 | y :: r,0,x,h=>by simp at h; subst h; simp [cL]
 | y :: r,i + 1,x,h=>by have:=iz c (xs:=r) (i:=i) (x:=x) (by simpa using h);simp only [cL,ads,List.sum_cons] at this ⊢;omega
theorem nf {α:Type} (w:α->Nat) (xs:List α):xs.length<=wL w xs:=Nat.le_add_right _ _
theorem kW {α:Type} (w:α->Nat) {xs:List α} {y:α} (h:y∈xs):w y<=wL w xs:=by obtain ⟨i,hi⟩:=aeQ h;exact acv (iz w hi) (Nat.le_add_left _ _)
theorem jh {α Y:Type} (z:List α->Y):∀ (xs:List α) (i:Nat) (d:List α),iV (fun _ x (a:List α)=>Sum.inl (a ++ [x])) z i xs d=z (d ++ xs)
 | [],_,d=>by simp [iV]
 | x :: r,i,d=>by rw [iV]; simp only; rw [jh z r (i + 1)]; simp
end Go.Av
namespace Go.Av
open Go.RowKit (Below)
mutual
def BgK:(k:K)->T k->Prop
 | .int k,x=>kZ k x
 | .bool,_=>True
 | .str,s=>List.length (α:=UInt8) s<=aS
 | .sl e ks,xs=>(aE (e:=e) (ks:=ks) xs).length<=aS/\∀ y∈aE (e:=e) (ks:=ks) xs,ub ks y
def ub:(ks:List K)->Tl ks->Prop
 | [],_=>True
 | k :: ks,x=>BgK k x.1/\ub ks x.2
end
def Xx (E:En) (rd:Nat->Bool):List (Nat×Nat)->List K->Nat->Bool
 | [],[],_=>true
 | (o,u) :: r,ks,off=>Nat.beq o off && (rd u && match E.ti u with
   | some tu=>K.jj (ks.take tu.ks.length) tu.ks && (Nat.ble tu.ks.length ks.length && Xx E rd r (ks.drop tu.ks.length) (off + tu.ks.length))
   | none=>false)
 | _,_,_=>false
def LB (E:En):Nat->Nat->Bool
 | 0,_=>false
 | n + 1,t=>match E.ti t with
   | some ti=>(match ti.agg with
     | true=>Xx E (LB E n) ti.flds ti.ks 0
     | false=>(match ti.ks with
       | [.sl e ks]=>(match E.ti e with | some te=>K.jj ks te.ks && (Nat.blt 0 te.bytes && (Nat.blt 0 te.ks.length && LB E n e)) | none=>false)
       | _=>true))
   | none=>false
section
variable {H:Type} {enc:TypeId×Value->H} {P:Program} {w:World} {spare:Nat->Bool} {held:Bool} {E:En}
theorem ye (w:World):∀ (ks:List K) (x:Tl ks) (cs:List Value) (b o:Nat),sZ (fx w) w ks x cs->(∀ j v,cs[j]? = some v->w.cell? ⟨b,o + j,none⟩=some v)->uF (fx w) w ks x b o
 | [],_,_,_,_,_,_=>trivial
 | k :: ks,x,[],b,o,h,_=>h.elim
 | k :: ks,x,v :: vs,b,o,h,hc=>⟨⟨v,hc 0 v rfl,h.1⟩,ye w ks x.2 vs b (o + 1) h.2 fun j u hu=>by have:=hc (j + 1) u (by simpa using hu); rwa [show o + 1 + j=o + (j + 1) by omega]⟩
theorem Ei (w:World) {Z:Nat->Prop}:∀ (a b:List K) (cs cs':List Value) (x:Tl a) (y:Tl b),sZ Z w a x cs->ub a x->sZ Z w b y cs'->ub b y->∃ z:Tl (a ++ b),sZ Z w (a ++ b) z (cs ++ cs')/\ub (a ++ b) z
 | [],b,[],cs',_,y,_,_,h,hb=>⟨y,h,hb⟩
 | [],b,_ :: _,cs',_,y,h,_,_,_=>h.elim
 | k :: a,b,[],cs',x,y,h,_,_,_=>h.elim
 | k :: a,b,v :: vs,cs',x,y,h,hx,h',hb=>by obtain ⟨z,h1,h2⟩:=Ei w a b vs cs' x.2 y h.2 hx.2 h' hb;exact ⟨(x.1,z),⟨h.1,h1⟩,⟨hx.1,h2⟩⟩
theorem sS {α:Type} (p:Nat->α->Prop):∀ (n:Nat),(∀ i,i < n->∃ x,p i x)->∃ xs:List α,xs.length=n/\∀ i x,xs[i]? = some x->p i x
 | 0,_=>⟨[],rfl,fun i x h=>by simp at h⟩
 | n + 1,h=>by
   obtain ⟨xs,h1,h2⟩:=sS p n fun i hi=>h i (by omega)
   obtain ⟨x,hx⟩:=h n (by omega);refine ⟨xs ++ [x],by simp [h1],fun i y hy => ?_⟩;by_cases hi:i < n
   . rw [ac7 (by omega)] at hy;exact h2 i y hy
   . rw [ac1 (by omega),h1] at hy;cases hk:i - n with
     | zero => rw [hk] at hy;simp only [acj,ab6] at hy;subst hy;rwa [show i=n by omega]
     | succ k=>rw [hk] at hy; simp at hy
theorem rn {base:Nat} {a:Addr} {n:Nat} {cs:List Value} (h:w.cells? base a n=some cs):cs.length=n/\∀ j v,cs[j]? = some v->w.cell? (a.add j)=some v:=by
 unfold World.cells? at h;split at h
 . refine ⟨by simpa using mapM_some_length h,fun j v hj => ?_⟩;have hjl:j < n:=by
    have:=(aeB.1 hj).1;have h2:cs.length=n:=by simpa using mapM_some_length h
    omega
   have:=mapM_some_get h j j (by simp [hjl]);rw [this,hj]
 . simp at h
theorem yL {a:Addr} {v:Value} (h:w.cell? a=some v):a.spot=none/\a.block < w.heap.size:=by
 unfold World.cell? at h;split at h
 . rename_i c _ _ hb;split at h
   . simp at h
   . rename_i hs;refine ⟨by simpa using hs,?_⟩;rcases acn a.block w.heap.size with hh | hh
     . exact hh
     . rw [acw hh] at hb; simp at hb
 . simp at h
theorem mA {e:TypeId}:∀ (l:List (DataW H)) {d:DataW H},d∈l->∀ n∈d.weights P e,n∈DataW.weightsAll P e l
 | [],_,h,_,_=>by simp at h
 | x :: r,d,h,n,hn=>by
   simp only [DataW.weightsAll,adD];rcases aci.1 h with h | h
   . subst h; exact .inl hn
   . exact .inr (mA r h n hn)
theorem CY {ks a:List K} {cs:List Value} {m o:Nat} (hk:ks.take m=a) (hm:a.length=m) {x:Tl a} {y:Tl (ks.drop m)} (x1:sZ (fx w) w a x ((cs.drop o).take m)) (x2:ub a x) (y1:sZ (fx w) w (ks.drop m) y (cs.drop (o + m))) (y2:ub (ks.drop m) y):∃ z:Tl ks,sZ (fx w) w ks z (cs.drop o)/\ub ks z:=by
 have h:=Ei w _ _ _ _ x y x1 x2 y1 y2;have e1:a ++ ks.drop m=ks:=by rw [<- hk]; exact acW m ks
 have e2:(cs.drop o).take m ++ cs.drop (o + m)=cs.drop o:=by rw [<- List.drop_drop,acW]
 rw [e1,e2] at h;exact h
theorem Mj (hT:bG P E):∀ (n t:Nat) (ti:TI),LB E n t=true->E.ti t=some ti->∀ (fuel:Nat) (cs:List Value) (d:DataW H) (ps:List MemPlace),DataW.trod enc P w 0 spare held fuel t cs=some (d,ps)->(∀ m∈d.weights P t,m<=aS)->∃ x:Tl ti.ks,sZ (fx w) w ti.ks x cs/\ub ti.ks x:=by
 intro n;induction n with
 | zero=>intro t ti h; simp [LB] at h
 | succ n ih =>
   intro t ti hrd hti fuel cs d ps htr hw;have hTi:=hT t ti hti;obtain ⟨dd,hu,hdd⟩:=hTi.desc;unfold LB at hrd;rw [hti] at hrd;simp only at hrd;obtain ⟨inf,hinf,hsz,_⟩:=hTi.info;have hcell:P.cellsOf t=ti.ks.length:=by simp [Program.cellsOf,hinf,hsz]
   cases dd with
   | bool => obtain ⟨hag,hks⟩:=hdd;obtain ⟨b,rfl,_⟩:=DataW.trod_bool hu htr;rw [hks];exact ⟨(b,()),⟨rfl,trivial⟩,⟨trivial,trivial⟩⟩
   | int k =>
     obtain ⟨hag,hks⟩:=hdd;obtain ⟨v,rfl,_,hwf⟩:=DataW.trod_int hu htr;rw [hks];have hin:kZ k v:=by simpa [Lit.wf,kZ] using hwf
     exact ⟨(v,()),⟨⟨rfl,hin⟩,trivial⟩,⟨hin,trivial⟩⟩
   | string => obtain ⟨hag,hks⟩:=hdd;obtain ⟨v,rfl,hx,_⟩:=DataW.trod_string hu htr;simp only [acI] at hx;obtain ⟨rfl,_⟩:=hx;rw [hks];have hl:=hw v.data.toList.length (by simp [DataW.weights]);exact ⟨(v.data.toList,()),⟨⟨by simp [dV],hl⟩,trivial⟩,⟨hl,trivial⟩⟩
   | slice e =>
     obtain ⟨hag,ks,hks,hel⟩:=hdd;obtain ⟨ag,kk,el,by',fl⟩:=ti;simp only at hks hel hag;subst hks;subst hel;subst hag;simp only at hrd;cases hte:E.ti el with
     | none=>rw [hte] at hrd; simp at hrd
     | some te =>
     rw [hte] at hrd;simp only [ab8] at hrd;obtain ⟨r1,r2,r3,r4⟩:=hrd;have hkk:=K.ib _ _ r1;subst hkk;have hby:0 < te.bytes:=adB (acF r2);have hkl:0 < te.ks.length:=adB (acF r3);obtain ⟨inf2,hinf2,hsz2,hby2,_⟩:=(hT el te hte).info;have hce:P.cellsOf el=te.ks.length:=by simp [Program.cellsOf,hinf2,hsz2]
     have hbe:P.bytesOf el=te.bytes:=by simp [Program.bytesOf,hinf2,hby2]
     rcases DataW.trod_slice hu htr with ⟨rfl,_⟩ | ⟨a,len,cap,elems,rest,m,_,rfl,hx,_,hlc,hcm,hlen,hel,_⟩
     . exact ⟨(([]:List (Tl te.ks)),()),⟨⟨none,0,rfl,acb _,acS _,fun _=>rfl,fun h=>absurd rfl h⟩,trivial⟩,⟨⟨acS _,fun y hy=>by simp [aE] at hy⟩,trivial⟩⟩
     . simp only [acI] at hx;obtain ⟨rfl,_⟩:=hx;have hwl:(elems.length + rest.length) * te.bytes<=aS:=by
        have:=hw ((elems.length + rest.length) * P.bytesOf el) (by simp [DataW.weights,hu]);rwa [hbe] at this
       have hlb:len<=aS:=by have:=adP (elems.length + rest.length) hby;omega
       rw [hce] at hel;have hone:∀ i,i < len->∃ x:Tl te.ks,(a.spot=none∨0 < i)/\(∃ cells,w.cells? 0 (a.add (i * te.ks.length)) te.ks.length=some cells/\sZ (fx w) w te.ks x cells)/\ub te.ks x:=fun i hi=>by
        have h1:=hel i hi;have hei:elems[i]? = some (elems[i]'(by omega)):=acm (by omega);rw [hei] at h1;obtain ⟨cells,hc1,hc2⟩:=adO.1 h1;obtain ⟨x,hx1,hx2⟩:=ih el te r4 hte m cells _ _ hc2 fun q hq=>hw q (by simp only [DataW.weights,hu,aci,adD];right; left;exact mA (elems.map (·.1)) (ad7.2 ⟨_,List.getElem_mem (by omega:i < elems.length),rfl⟩) q hq)
        refine ⟨x,?_,⟨cells,hc1,hx1⟩,hx2⟩;rcases adX i with h0 | h0
        . left;subst h0;obtain ⟨g1,g2⟩:=rn hc1;obtain ⟨v,hv⟩:∃ v,cells[0]? = some v:=⟨cells[0]'(by omega),acm (by omega)⟩;have:=g2 0 v hv;simp [Addr.add] at this;exact (yL this).1
        . exact .inr h0
       obtain ⟨xs,hxl,hxs⟩:=sS _ len hone;refine ⟨((xs:List (Tl te.ks)),()),⟨⟨some a,cap,by show Value.slice (some a) len cap= .slice (some a) xs.length cap; rw [hxl],by show xs.length<=cap; omega,by show xs.length<=aS; omega,fun h=>by simp at h,fun hne => ?_⟩,trivial⟩,⟨⟨by show xs.length<=aS; omega,fun y hy => ?_⟩,trivial⟩⟩
       . have hpos:0 < xs.length:=List.length_pos_iff.2 hne;have hx0:=hxs 0 _ (acm hpos);have hsp:a.spot=none:=by
          rcases hx0.1 with h | h
          . exact h
          . omega
         obtain ⟨ab,ao,asp⟩:=a;simp only at hsp;subst hsp;have hadd:∀ o k,(⟨ab,o,none⟩:Addr).add k=⟨ab,o + k,none⟩:=fun o k=>by
          unfold Addr.add;split
          . rename_i h; subst h; rfl
          . rfl
         have hblk:ab < w.heap.size:=by obtain ⟨_,⟨cells,hc1,hc2⟩,_⟩:=hx0;obtain ⟨g1,g2⟩:=rn hc1;obtain ⟨v,hv⟩:∃ v,cells[0]? = some v:=⟨cells[0]'(by omega),acm (by omega)⟩;have:=g2 0 v hv;rw [hadd,hadd] at this;exact (yL this).2
         refine ⟨ab,ao,rfl,hblk,hblk,fun i x hi => ?_⟩;obtain ⟨_,⟨cells,hc1,hc2⟩,_⟩:=hxs i x hi;obtain ⟨g1,g2⟩:=rn hc1;refine ye w te.ks x cells ab (ao + i * te.ks.length) hc2 fun j v hj => ?_
         have:=g2 j v hj;rw [hadd,hadd] at this;exact this
       . obtain ⟨i,hi⟩:=aeQ hy;exact (hxs i y hi).2.2
   | struct fs =>
     obtain ⟨hag,hfl,_⟩:=hdd;rw [hag] at hrd;simp only at hrd;obtain ⟨xs,m,_,hx,hlen,hxl,hget⟩:=DataW.trod_struct hu htr;simp only [acI] at hx;obtain ⟨rfl,_⟩:=hx;rw [hcell] at hlen;have key:∀ (l:List (Nat×Nat)) (ks:List K) (off i:Nat),(∀ j,F5 l j=F5 ti.flds (i + j))->off + ks.length=ti.ks.length->Xx E (LB E n) l ks off=true->∃ x:Tl ks,sZ (fx w) w ks x (cs.drop off)/\ub ks x:=by
      intro l;induction l with
      | nil =>
        intro ks off i hf ho hb;cases ks with
        | nil => rw [List.drop_of_length_le (by simp at ho; omega)];exact ⟨(),trivial,trivial⟩
        | cons k ks=>simp [Xx] at hb
      | cons p r ihl =>
        intro ks off i hf ho hb;obtain ⟨o,u⟩:=p
        have hb':(Nat.beq o off && (LB E n u && match E.ti u with
         | some tu=>K.jj (ks.take tu.ks.length) tu.ks && (Nat.ble tu.ks.length ks.length && Xx E (LB E n) r (ks.drop tu.ks.length) (off + tu.ks.length))
         | none=>false))=true:=by
         cases ks <;> exact hb
        simp only [ab8] at hb';obtain ⟨b1,b2,b3⟩:=hb';cases htu:E.ti u with
        | none=>rw [htu] at b3; simp at b3
        | some tu =>
        rw [htu] at b3;simp only [ab8] at b3;obtain ⟨b3,b4,b5⟩:=b3;have ho':=beq_eq b1;subst ho';have hks:=K.ib _ _ b3;have hkl:tu.ks.length<=ks.length:=acF b4;have h0:=hf 0;rw [acO] at h0;obtain ⟨fi,f1,f2,f3⟩:=hfl i o u h0.symm;have hg:=hget i fi f1;rw [f2,f3] at hg;obtain ⟨inu,hinu,hsu,_⟩:=(hT u tu htu).info;have hcu:P.cellsOf u=tu.ks.length:=by simp [Program.cellsOf,hinu,hsu]
        rw [hcu] at hg;have hil:i < xs.length:=by rw [hxl]; exact (acx.1 f1).1
        rw [acm hil] at hg;obtain ⟨x,x1,x2⟩:=ih u tu b2 htu m _ _ _ hg fun q hq=>hw q (by
         simp only [DataW.weights,hu];refine DataW.weights_mem_each (j:=i) (t:=u) (d:=xs[i].1) ?_ ?_ q hq
         . rw [ac5,acf,f1,acG,f3]
         . rw [ac5,acm hil]; rfl)
        obtain ⟨y,y1,y2⟩:=ihl (ks.drop tu.ks.length) (o + tu.ks.length) (i + 1) (fun j=>by rw [show i + 1 + j=i + (j + 1) by omega,<- hf (j + 1)]; rfl) (by rw [ac0]; omega) b5;exact CY hks rfl x1 x2 y1 y2
     obtain ⟨x,x1,x2⟩:=key ti.flds ti.ks 0 0 (fun j=>by rw [acz]) (by omega) hrd;exact ⟨x,x1,x2⟩
   | _=>exact hdd.elim
end
end Go.Av
namespace Go.Av
open Go.RowKit (Below)
def D2 (E:En):List Nat->List PK->Bool
 | [],[]=>true
 | t :: ts,.c g ks :: ps=>(match E.ti t with | some ti=>bM g ti.agg && (K.jj ks ti.ks && LB E 30 t) | none=>false) && D2 E ts ps
 | _,_=>false
def Rp:(ps:List PK)->PT ps->Prop
 | [],_=>True
 | .c _ ks :: ps,x=>ub ks x.1/\Rp ps x.2
 | .pt _ :: ps,x=>Rp ps x.2
 | .nil :: ps,x=>Rp ps x
 | .fn _ _ :: ps,x=>Rp ps x.2
 | .io _ _ :: ps,x=>Rp ps x.2
 | .mv _ :: ps,x=>Rp ps x.2
section
variable {H:Type} {enc:TypeId×Value->H} {P:Program} {w:World} {spare:Nat->Bool} {held:Bool} {E:En}
theorem RR (hT:bG P E) {t:Nat} {ti:TI} (hr:LB E 30 t=true) (hti:E.ti t=some ti) {base:Nat} {v:Value} (hv:Value.okWide P w .any base t v) {d:DataW H} {p:List MemPlace} (h:DataW.Trod enc P w 0 spare held t v d p) (hw:∀ m∈d.weights P t,m<=aS) :
 ∃ x:Tl ti.ks,S4 (fx w) w ti.agg ti.ks x v/\ub ti.ks x:=by
 obtain ⟨fuel,h⟩:=h;obtain ⟨x,h1,h2⟩:=Mj hT 30 t ti hr hti fuel _ d p h hw;refine ⟨x,⟨v.cells.toList,?_,h1⟩,h2⟩;obtain ⟨dd,hu,hdd⟩:=(hT t ti hti).desc;unfold Value.okWide at hv;rw [hu] at hv;cases dd with
 | struct fs => obtain ⟨cs,rfl,_⟩:=hv;rw [hdd.1];show Value.agg cs= .agg cs.toList.toArray;simp
 | bool => rw [hdd.1];unfold Cell.okWide at hv;rw [hu] at hv;cases v <;> first | rfl | exact (by simp [Cell.ok,hu] at hv)
 | int k => rw [hdd.1];unfold Cell.okWide at hv;rw [hu] at hv;cases v <;> first | rfl | exact (by simp [Cell.ok,hu] at hv)
 | string => rw [hdd.1];unfold Cell.okWide at hv;rw [hu] at hv;cases v <;> first | rfl | exact (by simp [Cell.ok,hu] at hv)
 | slice e => rw [hdd.1];unfold Cell.okWide at hv;rw [hu] at hv;cases v <;> first | rfl | exact (by simp [Cell.ok,hu] at hv)
 | _=>exact hdd.elim
theorem AM {base:Nat} {spare:Nat->Bool} {held:Bool}:∀ (ts:List Nat) (vs:List Value) (ds:List (DataW H)) (pl:List MemPlace),DataW.TrodAll enc P w base spare held ts vs ds pl->ds.length=ts.length
 | [],[],[],_,_=>rfl
 | t :: ts,v :: vs,d :: ds,_,h=>by obtain ⟨p,q,_,h2,_⟩:=h;simp [AM ts vs ds q h2]
 | [],_ :: _,_,_,h=>h.elim
 | [],[],_ :: _,_,h=>h.elim
 | _ :: _,[],_,_,h=>h.elim
 | _ :: _,_ :: _,[],_,h=>h.elim
theorem Bh (hT:bG P E) {base:Nat}:∀ (ts:List Nat) (ps:List PK),D2 E ts ps=true->∀ (vs:List Value) (ds:List (DataW H)) (pl:List MemPlace) (n:Nat),DataW.TrodAll enc P w 0 spare held ts vs ds pl->(∀ (j:Nat) t v,ts[j]? = some t->vs[j]? = some v->Value.okWide P w .any base t v) ->
 (∀ m∈DataW.weightsEach P ts ds,m<=aS)->∃ x:PT ps,dp (fx w) w (fun _ _=>False) ps x vs n/\Rp ps x
 | [],[],_,[],[],pl,n,h,hv,hw=>⟨(),trivial,trivial⟩
 | [],[],_,_ :: _,_,pl,n,h,hv,hw=>h.elim
 | [],[],_,[],_ :: _,pl,n,h,hv,hw=>h.elim
 | t :: ts,.c g ks :: ps,hp,[],ds,pl,n,h,hv,hw=>h.elim
 | t :: ts,.c g ks :: ps,hp,_ :: _,[],pl,n,h,hv,hw=>h.elim
 | t :: ts,.c g ks :: ps,hp,v :: vs,d :: ds,pl,n,h,hv,hw=>by
   obtain ⟨p,q,h1,h2,_⟩:=h;unfold D2 at hp;simp only [ab8] at hp;obtain ⟨hp1,hp2⟩:=hp;cases hti:E.ti t with
   | none=>rw [hti] at hp1; simp at hp1
   | some ti => rw [hti] at hp1;simp only [ab8] at hp1;obtain ⟨b1,b2,b3⟩:=hp1;have e1:=dU b1;have e2:=K.ib _ _ b2;subst e1;subst e2;obtain ⟨x,x1,x2⟩:=RR hT b3 hti (hv 0 t v rfl rfl) h1 (fun m hm=>hw m (by simp only [DataW.weightsEach,adD]; exact .inl hm));obtain ⟨y,y1,y2⟩:=Bh hT ts ps hp2 vs ds q n h2 (fun j t' v' ht hv'=>hv (j + 1) t' v' (by simpa using ht) (by simpa using hv')) (fun m hm=>hw m (by simp only [DataW.weightsEach,adD]; exact .inr hm));exact ⟨(x,y),⟨x1,y1⟩,⟨x2,y2⟩⟩
 | [],.c _ _ :: _,hp,_,_,_,_,_,_,_=>by simp [D2] at hp
 | [],.pt _ :: _,hp,_,_,_,_,_,_,_=>by simp [D2] at hp
 | [],.nil :: _,hp,_,_,_,_,_,_,_=>by simp [D2] at hp
 | [],.fn _ _ :: _,hp,_,_,_,_,_,_,_=>by simp [D2] at hp
 | [],.io _ _ :: _,hp,_,_,_,_,_,_,_=>by simp [D2] at hp
 | [],.mv _ :: _,hp,_,_,_,_,_,_,_=>by simp [D2] at hp
 | _ :: _,[],hp,_,_,_,_,_,_,_=>by simp [D2] at hp
 | _ :: _,.pt _ :: _,hp,_,_,_,_,_,_,_=>by simp [D2] at hp
 | _ :: _,.nil :: _,hp,_,_,_,_,_,_,_=>by simp [D2] at hp
 | _ :: _,.fn _ _ :: _,hp,_,_,_,_,_,_,_=>by simp [D2] at hp
 | _ :: _,.io _ _ :: _,hp,_,_,_,_,_,_,_=>by simp [D2] at hp
 | _ :: _,.mv _ :: _,hp,_,_,_,_,_,_,_=>by simp [D2] at hp
theorem Hs {fresh:Bool} {Z:Nat->Prop} {w:World} {H:Nat->Nat->Prop} {b:Bool}:∀ {vs:List Value},kn fresh Z w H [(false,[.bool])] ((b,()),()) vs 0->vs=[.bool b]
 | [],h=>h.elim
 | [v],h=>by obtain ⟨⟨cs,hc,hcells⟩,_⟩:=h;have hc:cs=[v]:=hc;subst hc;have hv:v= .bool b:=hcells.1;rw [hv]
 | _ :: _ :: _,h=>h.2.elim
theorem FT {f : Nat} {fn : Func} {c : Code} {s : Su} (hsu : ar P f s) (hf : P.funcs[f]? = some fn) (hname : (fn.name == "runtime.NumGoroutine") = false) (hb : fn.body = some c)
 (hgl:Gl P w (fx w)) {args:Array Value} {x:PT s.ps} (hargs:dp (fx w) w (fun _ _=>False) s.ps x args.toList 0)
 (hlaw:∃ y,s.tQ x=some y/\∀ (Z:Nat->Prop) (w':World) (H:Nat->Nat->Prop) (vs:List Value),kn s.fresh Z w' H s.rs y.2 vs 0->vs=[.bool true]) :
 Calls P f args w fun e w'=>e= .returned (.bool true)/\Below w.heap.size w w':=by
 obtain ⟨y,hy,hres⟩:=hlaw;have h:=hsu w (fx w) (fun _ _=>False) args x y hgl hargs (fun b hb=>hb) (fun i b hb=>hb.elim) (fun i j b hb=>hb.elim) hy;rw [MuLone.run_callFunc_enter hf hname hb] at h;have h:Calls P f args w _:=h;refine h.mono fun e w' he => ?_
 cases e with
 | returned v => obtain ⟨Z',H',vs,rfl,ha,_,hr⟩:=he;have hvs:=hres Z' w' _ vs hr;subst hvs;exact ⟨rfl,ha.os,ha.tape,ha.output,ha.size,fun k hk=>ha.block k hk fun i hi=>hi⟩
 | _=>exact he.elim
theorem Below.trodAll (hl:laidOutB P=true) {W W':World} (hb:Below W.heap.size W W'):∀ (ts:List TypeId) (vs:List Value) (ds:List (DataW H)) (ps:List MemPlace),(∀ t∈ts,P.readableRec t=true/\t < P.types.size)->DataW.TrodAll enc P W 0 (fun _=>true) true ts vs ds ps->(∀ x∈ps,x.block < W.heap.size)->DataW.TrodAll enc P W' 0 (fun b=>decide (b < W.heap.size)) true ts vs ds ps
 | [],[],[],ps,_,h,_=>h
 | t :: ts,v :: vs,d :: ds,ps,ht,h,hlt=>by obtain ⟨p,q,h1,h2,rfl⟩:=h;exact ⟨p,q,Below.trod hl (ht t (acu ..)).1 (ht t (acu ..)).2 h1 hb (fun x hx=>hlt x (ad0 _ hx)),Below.trodAll hl hb ts vs ds q (fun t ht'=>ht t (acr _ ht')) h2 (fun x hx=>hlt x (aec _ hx)),rfl⟩
 | [],_ :: _,_,_,_,h,_=>h.elim
 | [],[],_ :: _,_,_,h,_=>h.elim
 | _ :: _,[],_,_,_,h,_=>h.elim
 | _ :: _,_ :: _,[],_,_,h,_=>h.elim
theorem HW {fn:Func} {s:ChangeSpec} (hl:laidOutB P=true) (hvars:s.vars=[]) {rt:TypeId} (hrt:fn.resultTypes = #[rt]) (hru:P.underlying rt=some .bool) (hpar:∀ t∈fn.params.toList,P.readableRec t=true/\t < P.types.size)
 {W W':World} {args:Array Value} {ds gs:List (DataW H)} {before:List MemPlace} (hW:DataW.Whole enc P fn.params.toList s.vars false W args.toList ds gs before) (hb:Below W.heap.size W W')
 (hs:s.fn H (ds ++ gs)={ results:=[.lit (.bool true)],args:=ds }):s.post enc P fn false true false false W args (.bool true) W':=by
 have hlt:=hW.lt;have hW0:=hW;obtain ⟨p,q,hA,hV,rfl,_,_⟩:=hW;rw [hvars] at hV;obtain ⟨rfl,rfl⟩:gs=[]/\q=[]:=by
  cases gs with
  | nil=>exact ⟨rfl,hV⟩
  | cons _ _=>exact hV.elim
 refine ⟨ds,[],_,[],p,[],hW0,?_,?_,?_,hb.frame _,fun h=>by simp at h⟩
 . rw [hs,hrt];exact ⟨[],[],Go.RowKit.shut_bool hru true,rfl,rfl⟩
 . rw [hs];exact Below.trodAll hl hb _ _ _ _ hpar hA fun x hx=>by have:=hlt x (ad0 _ hx); simpa using this
 . rw [hs,hvars];rfl
end
end Go.Av
namespace Go.Av
structure LG {α:Type} (lt:α->α->Bool):Prop where
 irr:∀ a,lt a a=false
 trans:∀ a b c,lt a b=true->lt b c=true->lt a c=true
 neg:∀ a b c,lt a c=true->lt a b=true∨lt b c=true
def eqv {α:Type} (lt:α->α->Bool) (a b:α):Bool:= !lt a b && !lt b a
def en {α:Type} (lt:α->α->Bool) (xs ys:List α):Prop:=xs.length=ys.length/\∀ z,xs.filter (eqv lt z)=ys.filter (eqv lt z)
def lM {α:Type} (lt:α->α->Bool) (xs:List α):Prop:=xs.Pairwise fun a b=>lt b a=false
section
variable {α:Type} {lt:α->α->Bool}
theorem Bo (h:LG lt) (a:α):eqv lt a a=true:=by simp [eqv,h.irr]
theorem ug {a b:α}:eqv lt a b=true↔lt a b=false/\lt b a=false:=by simp [eqv]
theorem LG.le_trans (h:LG lt) {a b c:α} (h1:lt b a=false) (h2:lt c b=false):lt c a=false:=by
 cases hc:lt c a with
 | false=>rfl
 | true=>rcases h.neg c b a hc with h3 | h3 <;> simp_all
theorem G1 (h:LG lt) {a b c:α} (h1:eqv lt a b=true) (h2:eqv lt b c=true):eqv lt a c=true:=by
 rw [ug] at *
 exact ⟨h.le_trans h2.1 h1.1,h.le_trans h1.2 h2.2⟩
theorem Kx {a b:α} (h:eqv lt a b=true):eqv lt b a=true:=by rw [ug] at *; exact ⟨h.2,h.1⟩
theorem en.refl (xs:List α):en lt xs xs:=⟨rfl,fun _=>rfl⟩
theorem en.symm {xs ys:List α} (h:en lt xs ys):en lt ys xs:=⟨h.1.symm,fun z=>(h.2 z).symm⟩
theorem en.trans {xs ys zs:List α} (h1:en lt xs ys) (h2:en lt ys zs):en lt xs zs:=⟨h1.1.trans h2.1,fun z=>(h1.2 z).trans (h2.2 z)⟩
theorem en.append {a b c d:List α} (h1:en lt a b) (h2:en lt c d):en lt (a ++ c) (b ++ d):=⟨by simp [h1.1,h2.1],fun z=>by simp [h1.2 z,h2.2 z]⟩
theorem en.mem (h:LG lt) {xs ys:List α} (hs:en lt xs ys) {x:α}:x∈xs↔x∈ys:=by
 have key:∀ {xs ys:List α},en lt xs ys->x∈xs->x∈ys:=fun {xs ys} hs hx=>by have:x∈xs.filter (eqv lt x):=adR.2 ⟨hx,Bo h x⟩;rw [hs.2 x] at this;exact (adR.1 this).1
 exact ⟨key hs,key hs.symm⟩
theorem en.swap (h:LG lt) {a b:List α} (hab:∀ x∈a,∀ y∈b,lt y x=true):en lt (a ++ b) (b ++ a):=by
 refine ⟨by simp [Nat.add_comm],fun z => ?_⟩;rw [aeq,aeq];by_cases ha:a.filter (eqv lt z)=[]
 . rw [ha]; simp
 . by_cases hb:b.filter (eqv lt z)=[]
   . rw [hb]; simp
   . exfalso;obtain ⟨x,hx⟩:=List.exists_mem_of_ne_nil _ ha;obtain ⟨y,hy⟩:=List.exists_mem_of_ne_nil _ hb;have hx:=adR.1 hx;have hy:=adR.1 hy;have:=G1 h (Kx hx.2) hy.2;rw [ug] at this;rw [hab x hx.1 y hy.1] at this;simp at this
theorem cw {a b:List α}:lM lt (a ++ b)↔lM lt a/\lM lt b/\∀ x∈a,∀ y∈b,lt y x=false:=List.pairwise_append
theorem Fu:lM lt ([]:List α):=List.Pairwise.nil
theorem Oe (x:α):lM lt [x]:=List.pairwise_singleton _ _
theorem qu (h:LG lt):∀ {xs ys:List α},lM lt xs->lM lt ys->en lt xs ys->xs=ys
 | [],ys,_,_,hs=>(acp.1 hs.1.symm).symm
 | x :: xs,[],_,_,hs=>by have:=hs.1; simp at this
 | x :: xs,y :: ys,hx,hy,hs=>by
   have hx':=ad8.1 hx;have hy':=ad8.1 hy;have e:eqv lt x y=true:=by
    rw [ug];constructor
    . have:x∈y :: ys:=(hs.mem h).1 (acu ..);rcases aci.1 this with rfl | hm
      . exact h.irr _
      . exact hy'.1 x hm
    . have:y∈x :: xs:=(hs.mem h).2 (acu ..);rcases aci.1 this with rfl | hm
      . exact h.irr _
      . exact hx'.1 y hm
   have h0:=hs.2 x;rw [adE (Bo h x),adE e] at h0;have hxy:x=y:=(aeT h0).1;subst hxy;congr 1;refine qu h hx'.2 hy'.2 ⟨by have:=hs.1; simpa using this,fun z => ?_⟩;have hz:=hs.2 z;by_cases hzx:eqv lt z x=true
   . rw [adE hzx,adE hzx] at hz;exact (aeT hz).2
   . rw [List.filter_cons_of_neg hzx,List.filter_cons_of_neg hzx] at hz;exact hz
theorem qY (a b:UInt8) (s t:List UInt8):jU (a :: s) (b :: t)=(decide (a < b) || (a == b && jU s t)):=rfl
theorem zI:∀ s:List UInt8,jU s s=false
 | []=>rfl
 | a :: s=>by
   rw [qY,zI s];have:¬ a < a:=fun h=>by have:=ac9.1 h; omega
   simp [this]
theorem rP:∀ (s t u:List UInt8),jU s t=true->jU t u=true->jU s u=true
 | [],[],_,h,_=>by simp [jU,Op.bytesLess] at h
 | [],_ :: _,[],_,h=>by simp [jU,Op.bytesLess] at h
 | [],_ :: _,_ :: _,_,_=>rfl
 | _ :: _,[],_,h,_=>by simp [jU,Op.bytesLess] at h
 | _ :: _,_ :: _,[],_,h=>by simp [jU,Op.bytesLess] at h
 | a :: s,b :: t,c :: u,h1,h2=>by
   rw [qY] at *
   simp only [adf,adg,ab8,beq_iff_eq] at *
   rcases h1 with h1 | ⟨rfl,h1⟩
   . rcases h2 with h2 | ⟨rfl,h2⟩
     . left;have:=ac9.1 h1;have:=ac9.1 h2;exact ac9.2 (by omega)
     . exact .inl h1
   . rcases h2 with h2 | ⟨rfl,h2⟩
     . exact .inl h2
     . exact .inr ⟨rfl,rP s t u h1 h2⟩
theorem Fx:∀ (s t:List UInt8),jU s t=true∨s=t∨jU t s=true
 | [],[]=> .inr (.inl rfl)
 | [],_ :: _=> .inl rfl
 | _ :: _,[]=> .inr (.inr rfl)
 | a :: s,b :: t=>by
   rw [qY,qY];simp only [adf,adg,ab8,beq_iff_eq];rcases aet a.toNat b.toNat with h | h | h
   . exact .inl (.inl (ac9.2 h))
   . have e:a=b:=aeR.1 h;subst e;rcases Fx s t with h1 | h1 | h1
     . exact .inl (.inr ⟨rfl,h1⟩)
     . exact .inr (.inl (by rw [h1]))
     . exact .inr (.inr (.inr ⟨rfl,h1⟩))
   . exact .inr (.inr (.inl (ac9.2 h)))
theorem Ox {β:Type} (k:β->List UInt8):LG fun a b=>jU (k a) (k b) :=
 ⟨fun a=>zI _,fun a b c=>rP _ _ _,fun a b c h=>by
   rcases Fx (k a) (k b) with h1 | h1 | h1
   . exact .inl h1
   . right; rw [<- h1]; exact h
   . exact .inr (rP _ _ _ h1 h)⟩
theorem xX (d:α) (u:List α) (p q:α) (v:List α):j5 d (u ++ p :: q :: v) (u.length + 1) u.length=u ++ q :: p :: v:=by
 unfold j5;have h1:(u ++ p :: q :: v).getD u.length d=p:=by simp [List.getD]
 have h2:(u ++ p :: q :: v).getD (u.length + 1) d=q:=by simp [List.getD]
 rw [h1,h2,adS,if_neg (by omega),show u.length + 1 - u.length=1 by omega,adS,if_neg (by omega),adv];rfl
theorem C9 (d:α) (u:List α) (p q:α) (v:List α):j5 d (u ++ p :: q :: v) u.length (u.length + 1)=u ++ q :: p :: v:=by
 unfold j5;have h1:(u ++ p :: q :: v).getD u.length d=p:=by simp [List.getD]
 have h2:(u ++ p :: q :: v).getD (u.length + 1) d=q:=by simp [List.getD]
 rw [h1,h2,adS,if_neg (by omega),adv,adS,if_neg (by omega),show u.length + 1 - u.length=1 by omega];rfl
theorem xw (d:α) (u:List α) (p:α) (v:List α) {i:Int} (hi:i=(u.length:Int)):gt d (u ++ p :: v) i=p:=by subst hi; simp [gt,List.getD]
theorem hE (u:List α) (p:α) (v:List α) {i:Int} (hi:i=(u.length:Int)):aZ i (u ++ p :: v)=true:=by subst hi; exact jY (by simp)
theorem jW (u:List α) (p:α) (v:List α) {i:Int} (hi:i=(u.length:Int)):AA i (u ++ p :: v) i=true:=by have h:=hE u p v hi;unfold AA uZ;rw [show kV i (u ++ p :: v).length=true from h,aeP];rfl
theorem yT (d:α) (xs:List α) (n:Nat):gt d xs (n:Int)=xs.getD n d:=by simp [gt]
theorem qi (d:α) (u r s:List α) {q:Nat} (h:q < r.length):(u ++ r ++ s).getD (u.length + q) d=r.getD q d:=by rw [List.getD,List.getD,acs,ac1 (by omega),adp,ac7 h]
theorem mU {xs:List α} {n:Nat} (h:n < xs.length):aZ (n:Int) xs=true:=jY h
theorem ij (hw:LG lt) (d:α) {r:List α} (hs:lM lt r) {q' q:Nat} (h1:q'<=q) (h2:q < r.length):lt (r.getD q d) (r.getD q' d)=false:=by
 rcases acn q' q with h | h
 . have:=List.pairwise_iff_getElem.1 hs q' q (by omega) h2 h;rw [List.getD,List.getD,acm h2,acm (by omega)];exact this
 . have:q'=q:=by omega
   subst this;exact hw.irr _
theorem mW (d:α) {r:List α} {n:Nat} {y:α} (h:y∈r.take n):∃ q,q < n/\q < r.length/\y=r.getD q d:=by obtain ⟨q,hq,e⟩:=aek h;rw [acL] at hq;refine ⟨q,by omega,by omega,?_⟩;rw [<- e,List.getElem_take,List.getD,acm (by omega)];rfl
theorem mR (d:α) {r:List α} {n:Nat} {y:α} (h:y∈r.drop n):∃ q,n<=q/\q < r.length/\y=r.getD q d:=by obtain ⟨q,hq,e⟩:=aek h;rw [ac0] at hq;refine ⟨n + q,by omega,by omega,?_⟩;rw [<- e,List.getElem_drop,List.getD,acm (by omega)];rfl
theorem ui {a:List α} (h:a≠[]):∃ b x,a=b ++ [x]:=⟨a.dropLast,a.getLast h,(List.dropLast_concat_getLast h).symm⟩
end
end Go.Av
namespace Go.Av
theorem uj {i j:Nat} (h:i + j<=4398046511104):bw .i64 (ie .u64 (bw .u64 (aq .i64 (i:Int) (j:Int))) 1)=(((i + j) / 2:Nat):Int):=by
 have e1:aq .i64 (i:Int) (j:Int)=((i + j:Nat):Int):=by rw [bb (by omega) (by omega)]; omega
 have e2:bw .u64 ((i + j:Nat):Int)=((i + j:Nat):Int):=IntWalk.u64_in _ (by omega);rw [e1,e2];have e3:ie .u64 ((i + j:Nat):Int) 1=(((i + j) / 2:Nat):Int):=by
  unfold ie;have h2:(2:Int) ^ min (1:Int).toNat IntKind.u64.bits=2:=by decide
  rw [h2,Int.fdiv_eq_ediv_of_nonneg _ (by decide)];omega
 rw [e3];exact IntWalk.i64_in _ (by omega)
theorem bsearch {X Y:Type} (step:X->Option (Sum X Y)) (S:Nat->Nat->X) (z:Nat->Y) (f:Nat->Bool) (lo0 hi0:Nat) (mono:∀ h h',lo0<=h'->h'<=h->h < hi0->f h=true->f h'=true)
 (hs:∀ lo hi,lo0<=lo->lo < hi->hi<=hi0->step (S lo hi)=some (.inl (bif f ((lo + hi) / 2) then S ((lo + hi) / 2 + 1) hi else S lo ((lo + hi) / 2)))) (he:∀ k,lo0<=k->k<=hi0->step (S k k)=some (.inr (z k))) :
 ∀ (n lo hi:Nat),hi - lo=n->lo0<=lo->lo<=hi->hi<=hi0->(∀ h,lo0<=h->h < lo->f h=true)->(∀ h,hi<=h->h < hi0->f h=false) ->
  ∃ k,lo0<=k/\k<=hi0/\(∀ h,lo0<=h->h < k->f h=true)/\(∀ h,k<=h->h < hi0->f h=false)/\ai step (S lo hi)=some (z k):=by
 intro n;induction n using Nat.strongRecOn with
 | _ n ih =>
 intro lo hi hn h1 h2 h3 h4 h5;by_cases h:lo=hi
 . subst h;exact ⟨lo,h1,h3,h4,h5,aJ _ (he lo h1 h3)⟩
 . have hlt:lo < hi:=by omega
   have hst:=hs lo hi h1 hlt h3;cases hf:f ((lo + hi) / 2) with
   | true => rw [hf] at hst;obtain ⟨k,k1,k2,k3,k4,k5⟩:=ih (hi - ((lo + hi) / 2 + 1)) (by omega) ((lo + hi) / 2 + 1) hi rfl (by omega) (by omega) h3 (fun q q1 q2=>mono _ q q1 (by omega) (by omega) hf) h5;exact ⟨k,k1,k2,k3,k4,aQ _ hst k5⟩
   | false =>
     rw [hf] at hst;obtain ⟨k,k1,k2,k3,k4,k5⟩:=ih ((lo + hi) / 2 - lo) (by omega) lo ((lo + hi) / 2) rfl h1 (by omega) (by omega) h4 (fun q q1 q2=>by
      cases hq:f q with
      | false=>rfl
      | true => have:=mono q ((lo + hi) / 2) (by omega) q1 q2 hq;rw [hf] at this;simp at this)
     exact ⟨k,k1,k2,k3,k4,aQ _ hst k5⟩
end Go.Av
namespace Go.Av
open Go.RowKit (Below)
open Go.Shelf Go.Proofs Go.Lib
section
variable {P:Program} {w w':World} {Z Z':Nat->Prop} {F G:Nat->Nat->Prop}
theorem kA:∀ (ps:List PK) (x:PT ps) (y:tz ps) (vs:List Value) (n m:Nat),dp Z w F ps x vs n->kP ps=false->xm Z' w' G ps y vs m
 | [],_,_,[],_,_,_,_=>trivial
 | [],_,_,_ :: _,_,_,h,_=>h.elim
 | .c _ _ :: ps,x,y,v :: vs,n,m,h,hi=>kA ps x.2 y vs n m h.2 hi
 | .pt _ :: ps,x,y,v :: vs,n,m,h,hi=>kA ps x.2 y vs n m h.2 hi
 | .nil :: ps,x,y,v :: vs,n,m,h,hi=>kA ps x y vs n m h.2 hi
 | .fn _ _ :: ps,x,y,v :: vs,n,m,h,hi=>kA ps x.2 y vs n m h.2 hi
 | .mv _ :: ps,x,y,v :: vs,n,m,h,hi=>kA ps x.2 y vs (n + 1) (m + 1) h.2 hi
 | .io _ _ :: ps,_,_,_,_,_,_,hi=>by simp [kP] at hi
 | .c _ _ :: _,_,_,[],_,_,h,_=>h.elim
 | .pt _ :: _,_,_,[],_,_,h,_=>h.elim
 | .nil :: _,_,_,[],_,_,h,_=>h.elim
 | .fn _ _ :: _,_,_,[],_,_,h,_=>h.elim
 | .mv _ :: _,_,_,[],_,_,h,_=>h.elim
def M6 (w:World) (Z:Nat->Prop) (s:Su) (y:CT s.rs) (e:Ending) (w':World):Prop :=
 ∃ (vs:List Value) (H:Nat->Nat->Prop),e= .returned (yM vs)/\Below w.heap.size w w'/\(∀ n b,H n b->w.heap.size<=b/\b < w'.heap.size)/\(∀ n m b,H n b->H m b->n=m)/\kn s.fresh Z w' H s.rs y vs 0
theorem JO {f : Nat} {fn : Func} {c : Code} {s : Su} (hf : P.funcs[f]? = some fn) (hname : (fn.name == "runtime.NumGoroutine") = false) (hb : fn.body = some c) (hio : kP s.ps = false)
 (h:∀ (w:World) (Z:Nat->Prop) (F:Nat->Nat->Prop) (args:Array Value) (x:PT s.ps) (y:tz s.ps×CT s.rs),Gl P w Z->(∀ b,Z b->b < w.heap.size)->dp Z w F s.ps x args.toList 0->s.tQ x=some y->Calls P f args w (M6 w Z s y.2)):ar P f s:=by
 intro w Z F args x y hgl hargs hZ hF hd hy;rw [MuLone.run_callFunc_enter hf hname hb];show Calls P f args w _;refine (h w Z F args x y hgl hZ hargs hy).mono fun e w' ⟨vs,H,he,hb,h1,h2,hr⟩ => ?_
 subst he;refine ⟨Z,fun n b=>∃ j,n=2 * j + 1/\H j b,vs,rfl,?_,kA _ x _ _ 0 0 hargs hio,kn.mono (fun n b hb=>⟨n,rfl,hb⟩) _ _ _ _ hr⟩
 exact { os:=hb.os,tape:=hb.tape,output:=hb.output,size:=hb.size
         block:=fun b hlt _=>hb.block b hlt
         z:=fun b hb=>hb
         bN:=fun b hz=>⟨acA (hZ b hz) hb.size,.inl hz⟩
         fp:=fun n b ⟨j,_,hh⟩=>⟨(h1 j b hh).2,fun hz=>by have:=hZ b hz; have:=(h1 j b hh).1; omega,.inr (h1 j b hh).1⟩
         disj:=fun n m b ⟨j,e1,h3⟩ ⟨j',e2,h4⟩=>by have:=h2 j j' b h3 h4; omega }
theorem RL {nm:String} {k:IntKind} {zs:List Int} (h:Gl P w Z) (hm:(nm,Sf k zs)∈XI) {g:Nat} (hg:P.globalNamed nm=some g):Lib.TabIs P w nm k zs:=by obtain ⟨⟨e,fr,h1⟩,_,_⟩:=h _ hm g hg;simp only [Lib.TabIs,World.var?,hg,acE,h1]
theorem Rw {fr:Bool} {s:List UInt8} (h:s.length<=aS):kn fr Z w (fun _ _=>False) [(false,[.str])] ((s,()),()) [.string ⟨s.toArray⟩] 0 :=
 ⟨⟨[.string ⟨s.toArray⟩],rfl,⟨rfl,h⟩,trivial⟩,trivial⟩
theorem Mq {k:IntKind} {x:Tl [K.int k]} {v:Value} (h:S4 Z w false [.int k] x v):v= .int k x.1/\kZ k x.1:=by obtain ⟨cs,e,h⟩:=h;have e:cs=[v]:=e;subst e;exact h.1
theorem arg_str {x:Tl [K.str]} {v:Value} (h:S4 Z w false [.str] x v):v= .string (dV x.1)/\x.1.length<=aS:=by obtain ⟨cs,e,h⟩:=h;have e:cs=[v]:=e;subst e;exact h.1
def EW (n:Int):Option (Unit×((List UInt8)×Unit)×Unit):=some ((),((Lib.itoa n,()),()))
theorem Na {ρ : Ren} (L : LaysM.n171 P ρ) {f : Nat} (hf : f = ρ.f 171) {fn : Func} {c : Code} (h1 : P.funcs[f]? = some fn) (hname : (fn.name == "runtime.NumGoroutine") = false) (hb : fn.body = some c) : ar P f ⟨[.c false [.int .i64]], [(false, [.str])], true, .inl fun x => EW x.1.1⟩ := by
 subst hf;refine JO h1 hname hb rfl fun w Z F args x y hgl hZ hargs hy => ?_
 have hy:EW x.1.1=some y:=hy;obtain rfl:=adk hy
 match hl:args.toList,hargs with
 | [v],⟨hv,_⟩ =>
   obtain ⟨rfl,hr⟩:=Mq hv;obtain rfl:args = #[.int .i64 x.1.1]:=by rw [<- adb (xs:=args),hl]
   obtain ⟨⟨n,_⟩,_⟩:=x;change Int at n;have hr:(-9223372036854775808:Int)<=n/\n<=9223372036854775807:=hr;refine (Any.strconv_Itoa L n hr.1 hr.2 w (RL hgl (by simp [XI]) L.m17)).mono fun e w' ⟨he,k,os,hw⟩ => ?_
   subst he hw;refine ⟨[_],fun _ _=>False,rfl,below_grow _ w (acb _) k os,fun _ _ h=>h.elim,fun _ _ _ h=>h.elim,Rw ?_⟩;exact acv (itoa_length_le _ hr.1 hr.2) (by decide)
 | [],h=>exact h.elim
 | _ :: _ :: _,h=>exact h.2.elim
end
end Go.Av
namespace Go.Av
open Go.RowKit (Below)
open Go.Shelf Go.Proofs Go.Lib
section
variable {P:Program}
def ua (gd:List UInt8->Option (Unit×((Bool×Unit)×Unit))) (s:List UInt8):Option (Unit×((Int×Unit)×(Bool×Unit)×Unit)) :=
 Option.bind (gd s) fun y=>cond (y.2.1.1 && Nat.ble s.length 18) (match Lib.atoiAll s with | .ok v=>some ((),((v,()),(true,()),())) | _=>none) (some ((),((0,()),(false,()),())))
def E6 (P:Program) (f fd fa:Nat):Prop:=∀ (s:ByteArray) (b:Bool) (v:Int) (w:World) (R R2:World->Prop),Calls P fd #[.string s] w (fun e w1=>e= .returned (.bool b)/\R w1) ->
 (b=true->s.size<=18->∀ w1,R w1->Calls P fa #[.string s] w1 fun e w2=>e= .returned (.tuple #[.int .i64 v,.nilIface])/\R2 w2) ->
 Calls P f #[.string s] w fun e w'=>(b=true/\s.size<=18/\e= .returned (.tuple #[.int .i64 v,.bool true])/\R2 w')∨(¬ (b=true/\s.size<=18)/\e= .returned (.tuple #[.int .i64 0,.bool false])/\R w')
theorem PR {fr:Bool} {Z:Nat->Prop} {w:World} {v:Int} {b:Bool} (h:kZ .i64 v):kn fr Z w (fun _ _=>False) [(false,[.int .i64]),(false,[.bool])] ((v,()),(b,()),()) [.int .i64 v,.bool b] 0 :=
 ⟨⟨[.int .i64 v],rfl,⟨rfl,h⟩,trivial⟩,⟨[.bool b],rfl,rfl,trivial⟩,trivial⟩
theorem Gn {ρ:Ren} (L:LaysC.n172 P ρ) {f fd fa:Nat} {gd:List UInt8->Option (Unit×((Bool×Unit)×Unit))} (hd:ar P fd ⟨[.c false [.str]],[(false,[.bool])],true,.inl fun x=>gd x.1.1⟩)
 {fnd : Func} {cd : Code} (d1 : P.funcs[fd]? = some fnd) (d2 : (fnd.name == "runtime.NumGoroutine") = false) (d3 : fnd.body = some cd) (hfa : fa = ρ.f 172) (W : E6 P f fd fa)
 {fn : Func} {c : Code} (h1 : P.funcs[f]? = some fn) (hname : (fn.name == "runtime.NumGoroutine") = false) (hb : fn.body = some c) : ar P f ⟨[.c false [.str]], [(false, [.int .i64]), (false, [.bool])], true, .inl fun x => ua gd x.1.1⟩ := by
 subst hfa;refine JO h1 hname hb rfl fun w Z F args x y hgl hZ hargs hy => ?_
 have hy:ua gd x.1.1=some y:=hy
 match hl:args.toList,hargs with
 | [u],⟨hv,_⟩ =>
   obtain ⟨rfl,hlen⟩:=arg_str hv;obtain rfl:args = #[.string (dV x.1.1)]:=by rw [<- adb (xs:=args),hl]
   obtain ⟨⟨s,_⟩,_⟩:=x;change List UInt8 at s;have hlen:s.length<=aS:=hlen;obtain ⟨yd,hyd,hy⟩:=adO.1 hy;have hC:=hd w Z (fun _ _=>False) #[.string (dV s)] ((s,()),()) yd hgl ⟨hv,trivial⟩ hZ (fun _ _ h=>h.elim) (fun _ _ _ h=>h.elim) hyd;rw [MuLone.run_callFunc_enter d1 d2 d3] at hC;have hC:Calls P fd #[.string (dV s)] w (fun e w1=>e= .returned (.bool yd.2.1.1)/\Below w.heap.size w w1):=by
    refine Calls.mono (show Calls P fd #[.string (dV s)] w _ from hC) fun e w1 h => ?_
    cases e with
    | returned v =>
      obtain ⟨Z',H,vs,rfl,ha,_,hr⟩:=h
      match vs,hr with
      | [v1],⟨⟨cs,e,h⟩,_⟩ => have e:cs=[v1]:=e;subst e;have h:v1= .bool yd.2.1.1:=h.1;refine ⟨by rw [h]; rfl,ha.os,ha.tape,ha.output,ha.size,fun b hb=>ha.block b hb fun _ h=>h⟩
      | [],h=>exact h.elim
      | _ :: _ :: _,h=>exact h.2.elim
    | _=>exact h.elim
   have hs18:(dV s).size=s.length:=by simp [dV,ByteArray.size]
   have hdata:(dV s).data.toList=s:=by simp [dV]
   cases hc:yd.2.1.1 && Nat.ble s.length 18 with
   | false =>
     rw [hc] at hy;obtain rfl:=adk hy;refine (W (dV s) yd.2.1.1 0 w (Below w.heap.size w) (fun _=>False) hC (fun e1 e2 => ?_)).mono fun e w' h => ?_
     . rw [hs18] at e2;rw [e1,acB e2] at hc;simp at hc
     . rcases h with ⟨_,_,_,h⟩ | ⟨_,rfl,hb⟩
       . exact h.elim
       . exact ⟨[_,_],fun _ _=>False,rfl,hb,fun _ _ h=>h.elim,fun _ _ _ h=>h.elim,PR ⟨by decide,by decide⟩⟩
   | true =>
     rw [hc] at hy;simp only [ab8] at hc;have h18:=acF hc.2;simp only [ab9] at hy;split at hy
     . rename_i v hv;obtain rfl:=adk hy;refine (W (dV s) yd.2.1.1 v w (Below w.heap.size w) (Below w.heap.size w) hC (fun e1 e2 w1 hb => ?_)).mono fun e w' h => ?_
       . refine (Any.strconv_Atoi_ok L (dV s) (by rw [hs18]; omega) v (by rw [hdata]; exact hv) w1).mono fun e w2 ⟨he,hw⟩=>⟨he,?_⟩
         rcases hw with rfl | ⟨t,rfl⟩
         . exact hb
         . have h2:=bytesWorld_below w1 (ρ.t 5) t;exact hb.trans ⟨h2.os,h2.tape,h2.output,h2.size,fun k hk=>h2.block k (acA hk hb.size)⟩
       . rcases h with ⟨_,_,rfl,hb⟩ | ⟨h,_⟩
         . exact ⟨[_,_],fun _ _=>False,rfl,hb,fun _ _ h=>h.elim,fun _ _ _ h=>h.elim,PR (by obtain ⟨h1,h2⟩:=Lib.atoiAll_bounds hv; exact ⟨h1,h2⟩)⟩
         . exact absurd ⟨hc.1,by rw [hs18]; exact h18⟩ h
     . simp at hy
 | [],h=>exact h.elim
 | _ :: _ :: _,h=>exact h.2.elim
end
end Go.Av
namespace Go.Av
open Go.RowKit (Below)
theorem L4 {P:Program} {W:World} {nm:String} {k:IntKind} {zs:List Int} {g:Nat} (hg:P.globalNamed nm=some g) (h:Lib.TabIs P W nm k zs):Sf k zs W.heap[g]? /\ fx W g/\g < W.heap.size:=by
 simp only [Lib.TabIs,World.var?,hg,acE] at h;cases ho:W.heap[g]? with
 | none=>rw [ho] at h; simp at h
 | some o =>
   rw [ho] at h;have hlt:g < W.heap.size:=by
    rcases acn g W.heap.size with h' | h'
    . exact h'
    . rw [acw h'] at ho; simp at ho
   cases o with
   | cells cs e fr=>simp only [ab6] at h; subst h; exact ⟨⟨e,fr,rfl⟩,hlt,hlt⟩
   | _=>simp at h
theorem Mh {P:Program} {w:World} {g:Nat} {t:TypeId} {zero:Array Value} (h:w.ShapedOpen P) (hg:g < P.globals.size)
 (h0:((begin P (fun _ _=>0) default).world.heap[g]?).bind Obj.row? = some (zero,t)) (hz:zero.size=1)
 (hb:P.buildable t=true) (hc:P.cellTypes P.depth t=some [t]) (hu:P.underlying t=some (.int .i64)):WB w.heap[g]? /\ fx w g/\g < w.heap.size:=by
 obtain ⟨m,hm⟩:=Go.Proofs.cell_of_shapedOpen_int h hg h0 hz hb hc hu;have hlt:=CA hm;refine ⟨?_,hlt,hlt⟩;simp only [World.cell?,adi,acU,ado] at hm;cases ho:w.heap[g]? with
 | none=>rw [ho] at hm; simp at hm
 | some o =>
   rw [ho] at hm;cases o with
   | cells cs e fr=>exact ⟨m,cs,e,fr,rfl,hm⟩
   | _=>simp at hm
theorem Lx {P:Program} {W:World} {nm:String} {g:Nat} {tp:TypeId} {X:Addr->Prop} (hg:P.globalNamed nm=some g) (h:∃ a,W.var? P nm=some #[.iface tp (.pointer (some a))]/\X a):Zq W.heap[g]? /\ fx W g/\g < W.heap.size:=by
 obtain ⟨a,h,_⟩:=h;simp only [World.var?,hg,acE] at h;cases ho:W.heap[g]? with
 | none=>rw [ho] at h; simp at h
 | some o =>
   rw [ho] at h;have hlt:g < W.heap.size:=by
    rcases acn g W.heap.size with h' | h'
    . exact h'
    . rw [acw h'] at ho; simp at ho
   cases o with
   | cells cs e fr=>simp only [ab6] at h; subst h; exact ⟨⟨_,_,e,fr,rfl,rfl,.inr ⟨_,_,rfl⟩⟩,hlt,hlt⟩
   | _=>simp at h
def Pt (P:Program) (W:World):List (String×(Option Obj->Prop))->Prop
 | []=>True
 | (nm,p) :: r=>(P.globalNamed nm=none∨∃ g,P.globalNamed nm=some g/\p W.heap[g]? /\ fx W g/\g < W.heap.size)/\Pt P W r
theorem Pu {P:Program} {W:World}:∀ (l:List (String×(Option Obj->Prop))),Pt P W l->∀ t∈l,∀ g,P.globalNamed t.1=some g->t.2 W.heap[g]? /\ fx W g/\g < W.heap.size
 | [],_,t,h,_,_=>by simp at h
 | (nm,p) :: r,⟨h1,h2⟩,t,h,g,hg=>by
   rcases aci.1 h with e | h
   . subst e;rcases h1 with h1 | ⟨g',h3,h4⟩
     . rw [h1] at hg; simp at hg
     . obtain rfl:=adk (h3.symm.trans hg); exact h4
   . exact Pu r h2 t h g hg
theorem AN {H:Type} {enc:TypeId×Value->H} {a:Assume} {C:Checked} {os:Os} {f:FuncId} {fn:Func} {s:ChangeSpec} {conds:List PathCond} {apart fresh handsOn again:Bool} {X:World->Array Value->Prop}
 (hX:∀ (w w':World) (args:Array Value),w.heap=w'.heap->X w args->X w' args)
 (own:ownKnob C.prog.godebug=none) (started:os.Started) (noInit:C.prog.inits.idxOf? f=none) (hfn:C.prog.funcs[f]? = some fn)
 (witness:∃ (w:World) (tape:Tape) (i:Input),w.os=os/\(w.forCall tape i).Shaped C.prog/\i.vars=[]/\Input.okWide C.prog (w.forCall tape i) .any w.heap.size f i /\
   ((s.pre enc C.prog fn conds apart (w.forCall tape i).memory i.args/\X (w.forCall tape i).memory i.args)/\sizedMet enc C.prog fn (OpenSpec.ofChange s) apart (w.forCall tape i).memory i.args)/\a.holds C.prog (lone (Frame.enter C.prog f i.args .normal) [] (w.forCall tape i)))
 (contract:∀ (W:World) (base:Nat) (args:Array Value) (ds gs:List (DataW H)) (before:List MemPlace),
   (∀ (j:Nat) t v,fn.params[j]? = some t->args[j]? = some v->Value.okWide C.prog W .any base t v) ->
   DataW.Whole enc C.prog fn.params.toList s.vars apart W args.toList ds gs before ->
   (DataW.weightsEach C.prog (fn.params.toList ++ s.plain.varTypes C.prog) (ds ++ gs)).all (· <= reachBytes)=true->X W args ->
   W.ShapedOpen C.prog ->
   Calls C.prog f args W fun e W'=>∃ v,e= .returned v/\s.post enc C.prog fn apart fresh handsOn again W args v W') :
 ReturnsInHanded a C os f .any (fun w args=>(s.pre enc C.prog fn conds apart w args/\X w args)/\sizedMet enc C.prog fn (OpenSpec.ofChange s) apart w args) (s.post enc C.prog fn apart fresh handsOn again):=by
 refine returnsInHanded_of_calls own started noInit witness ?_;intro w tape i _ hsh _ hok hpre _;obtain ⟨_,_,_,fn',hfn',_,_,_,_,hval⟩:=hok;obtain rfl:fn'=fn:=adk (hfn'.symm.trans hfn);obtain ⟨⟨⟨ds,gs,before,hw,_⟩,hx⟩,hz⟩:=hpre;refine (contract (w.forCall tape i) w.heap.size i.args ds gs before hval (DataW.Whole.of_heap (w':=w.forCall tape i) (by rfl) hw) (hz.weights hw) (hX _ _ _ (by rfl) hx) hsh).mono fun e W' ⟨v,he,hp⟩ => ?_
 subst he;exact ChangeSpec.post_blind hp
end Go.Av
