/- FnExactRunSwept, a part. -/
import Derived.Calls
import Derived.Below
import Derived.KernelRfl
import Derived.Lib.LaidTab
import Derived.Lib.ItoaNum
import Derived.Laws.Entries
import Derived.Laws.Cells
import Derived.Laws.IdiomCopy
import Derived.Laws.Strings
import Derived.Laws.Tables
import Derived.Lib.ConvBytes
import Derived.Laws.BytesArg
namespace Go.Av
abbrev amh:=@Option.some.injEq
abbrev ami:=@Bool.and_eq_true
abbrev amj:=@List.length_append
abbrev amk:=@decide_eq_true
abbrev aml:=@Array.getElem?_toList
abbrev amm:=@List.getElem?_eq_getElem
abbrev amn:=@List.getElem?_cons_zero
abbrev amo:=@List.mem_of_getElem?
abbrev amp:=@Nat.le_trans
abbrev amq:=@Nat.ble_eq_true_of_le
abbrev amr:=@Array.getD_eq_getD_getElem?
abbrev ams:=@List.mem_cons
abbrev amt:=@Nat.zero_add
abbrev amu:=@Result.andThen_ok
abbrev amv:=@Nat.zero_le
abbrev amw:=@List.length_cons
abbrev amx:=@Sum.inl.injEq
abbrev amy:=@List.mem_cons_of_mem
abbrev amz:=@Nat.lt_or_ge
abbrev amA:=@List.getElem?_eq_none
abbrev amB:=@List.all_eq_true
abbrev amC:=@Array.getElem?_eq_none
abbrev amD:=@List.mem_cons_self
abbrev amE:=@Nat.le_of_ble_eq_true
abbrev amF:=@decide_eq_false
abbrev amG:=@Nat.lt_of_lt_of_le
abbrev amH:=@List.append_assoc
abbrev amI:=@Option.map_some
abbrev amJ:=@Sem.run_bind
abbrev amK:=@Array.getElem?_eq_some_iff
abbrev amL:=@Nat.mul_le_mul_right
abbrev amM:=@run_underlying
abbrev amN:=@Nat.add_zero
abbrev amO:=@Prod.mk.injEq
abbrev amP:=@congrArg
abbrev amQ:=@List.getElem?_eq_some_iff
abbrev amR:=@Sem.run_pure
abbrev amS:=@List.map_cons
abbrev amT:=@Array.length_toList
abbrev amU:=@List.getElem?_toArray
abbrev amV:=@Nat.add_mul
abbrev amW:=@Array.getElem?_push
abbrev amX:=@List.getElem?_map
abbrev amY:=@List.getElem?_append_right
abbrev amZ:=@List.append_nil
abbrev am0:=@List.getElem?_append_left
abbrev am1:=@Bool.false_eq_true
abbrev am2:=@List.length_eq_zero_iff
abbrev am3:=@List.length_nil
abbrev am4:=@Bool.not_eq_true'
abbrev am5:=@Option.some.inj
abbrev am6:=@Nat.add_sub_cancel_left
abbrev am7:=@List.getElem?_cons_succ
abbrev am8:=@List.length_filter_le
abbrev am9:=@List.length_take
abbrev ana:=@List.filter_cons
abbrev anb:=@List.foldl_cons
abbrev anc:=@List.all_cons
abbrev ane:=@Array.getElem?_append_left
abbrev anf:=@of_decide_eq_true
abbrev ang:=@Array.getElem?_setIfInBounds
abbrev anh:=@Array.toArray_toList
abbrev ani:=@Nat.lt_succ_self
abbrev anj:=@Value.slice.injEq
abbrev ank:=@List.getD_eq_getElem?_getD
abbrev anl:=@Oper.upon_value
abbrev anm:=@Nat.add_assoc
abbrev ann:=@Nat.lt_of_succ_le
abbrev ano:=@Int.toNat_natCast
abbrev anp:=@List.getElem?_take
abbrev anq:=@List.getElem?_drop
abbrev anr:=@List.length_replicate
abbrev ans:=@List.length_set
abbrev ant:=@Nat.ne_of_beq_eq_false
abbrev anu:=@List.mem_range
abbrev anv:=@Bool.or_eq_true
abbrev anw:=@List.mem_filter
abbrev anx:=@Nat.eq_of_beq_eq_true
abbrev anz:=@if_false
abbrev anA:=@Option.bind_eq_some_iff
abbrev anB:=@Int.tmod_eq_emod_of_nonneg
abbrev anC:=@List.sum_cons
abbrev anD:=@Option.isSome_none
abbrev anE:=@List.mem_append
abbrev anF:=@Option.getD_some
abbrev anG:=@List.takeWhile_cons
abbrev anH:=@decide_eq_true_eq
abbrev anI:=@List.take_add_one
abbrev anJ:=@Addr.mk.injEq
abbrev anK:=@Classical.choose_spec
abbrev anL:=@List.mem_iff_getElem?
abbrev anM:=@Bool.cond_false_right
abbrev anN:=@Array.size_push
abbrev anO:=@List.length_map
abbrev anP:=@Nat.le_mul_of_pos_right
abbrev anQ:=@and_true
abbrev anR:=@Nat.zero_testBit
abbrev anS:=@Int.tdiv_eq_ediv_of_nonneg
abbrev anT:=@Option.map_eq_some_iff
abbrev anU:=@List.take_of_length_le
abbrev anV:=@List.dropWhile_cons
abbrev anW:=@Nat.le_antisymm
abbrev anX:=@Classical.byContradiction
abbrev anY:=@List.length_singleton
abbrev anZ:=@List.map_toArray
abbrev an0:=@Array.append_assoc
abbrev an1:=@List.filter_append
abbrev an2:=@List.drop_length
abbrev an3:=@Bool.or_eq_false_iff
abbrev an4:=@List.mem_append_left
abbrev an5:=@List.nil_append
abbrev an6:=@List.replicate_succ
abbrev an7:=@List.replicate_zero
abbrev an8:=@Nat.sub_self
abbrev an9:=@List.mem_map
abbrev aoa:=@List.length_drop
abbrev aob:=@Nat.eq_zero_or_pos
abbrev aoc:=@Array.ext_getElem?
abbrev aod:=@List.take_append_drop
abbrev aoe:=@List.singleton_append
abbrev aof:=@Option.filter_some
abbrev aog:=@Nat.le_succ
abbrev aoh:=@Bool.true_and
abbrev aoi:=@List.take_append_of_le_length
abbrev aoj:=@decide_eq_false_iff_not
abbrev aok:=@List.map_nil
abbrev aol:=@Nat.le_of_eq
abbrev aom:=@List.mem_singleton
abbrev aon:=@Int.mul_ediv_add_emod
abbrev aoo:=@Option.map_none
abbrev aop:=@List.mem_append_right
abbrev aoq:=@UInt8.lt_iff_toNat_lt
abbrev aor:=@Array.size_append
abbrev aos:=@List.drop_eq_getElem_cons
abbrev aot:=@Array.getElem?_eq_getElem
abbrev aou:=@Array.mem_toList_iff
abbrev aov:=@Nat.pow_le_pow_right
abbrev aow:=@Array.getElem?_setIfInBounds_ne
abbrev aox:=@eq_of_heq
abbrev aoy:=@Int.ediv_nonneg
abbrev aoz:=@List.eq_nil_iff_forall_not_mem
abbrev aoA:=@Int.mul_le_mul_of_nonneg_left
abbrev aoB:=@Nat.le_of_lt
abbrev aoC:=@Bool.and_eq_false_iff
abbrev aoD:=@Array.getElem?_append_right
abbrev aoE:=@Nat.mod_eq_of_lt
abbrev aoF:=@List.mem_of_mem_drop
abbrev aoG:=@Nat.succ_ne_self
abbrev aoH:=@List.take_length
abbrev aoI:=@Nat.one_mul
abbrev aoJ:=@List.cons.injEq
abbrev aoK:=@List.pairwise_iff_getElem
abbrev aoL:=@List.mem_or_eq_of_mem_set
abbrev aoM:=@List.mem_of_find?_eq_some
abbrev aoN:=@Nat.mul_comm
abbrev aoO:=@List.eq_of_mem_replicate
abbrev aoP:=@List.filterMap_cons_none
abbrev aoQ:=@List.filterMap_cons_some
abbrev aoR:=@Int.mul_nonneg
abbrev aoS:=@List.getElem?_replicate
abbrev aoT:=@List.filter_cons_of_pos
abbrev aoU:=@List.ext_getElem?
abbrev aoV:=@Nat.lt_trichotomy
abbrev aoW:=@List.getElem?_set
abbrev aoX:=@List.getElem?_set_self
abbrev aoY:=@Bool.and_true
abbrev aoZ:=@List.any_eq_true
abbrev ao0:=@List.takeWhile_append_dropWhile
abbrev ao1:=@Nat.min_eq_left
abbrev ao2:=@List.mem_of_mem_take
abbrev ao3:=@Nat.eq_of_testBit_eq
abbrev ao4:=@List.getElem?_of_mem
abbrev ao5:=@List.map_append
abbrev ao6:=@List.sum_append
abbrev ao7:=@List.length_pos_iff
abbrev ao8:=@List.take_succ_cons
abbrev ao9:=@Eq.trans
abbrev apa:=@Bool.not_eq_false'
abbrev apb:=@List.set_cons_succ
abbrev apc:=@UInt8.toNat_ofNat'
abbrev apd:=@ByteArray.ext
abbrev ape:=@Nat.lt_succ_of_lt
abbrev apf:=@List.size_toArray
abbrev apg:=@List.length_range
theorem oB.{u,v} {α:Type u} {β:Type v} (a:α) (f:α → Option β):(some a).bind f = f a:=rfl
theorem oT.{u} {α:Type u} (a b:α):cond true a b = a:=rfl
theorem oF.{u} {α:Type u} (a b:α):cond false a b = b:=rfl
theorem oN:(!true) = false:=rfl
theorem oM:(!false) = true:=rfl
theorem oL.{u,v,w} {α:Type u} {β:Type v} {γ:Sort w} (f:α → γ) (g:β → γ) (x:α):Sum.elim f g (Sum.inl x) = f x:=rfl
theorem oR (n:Nat):n ≤ n:=Nat.le.refl
abbrev S8:=List UInt8
abbrev zR {α:Type} (x:α):Option (Unit × (α × Unit) × Unit):=some ((), ((x, ()), ()))
open Go.RowKit (Below)
inductive K where
 | int (k:IntKind)
 | bool
 | str
 | sl (e:TypeId) (ks:List K)
mutual
def T:K->Type
 | .int _=>Int
 | .bool=>Bool
 | .str=>S8
 | .sl _ ks=>List (Tl ks)
def Tl:List K->Type
 | []=>Unit
 | k::ks=>T k×Tl ks
end
def aW{e:TypeId}{ks:List K}(xs:T (.sl e ks)):List (Tl ks):=xs
mutual
def K.same:K->K->Bool
 | .int a,.int b=>a == b
 | .bool,.bool=>true
 | .str,.str=>true
 | .sl e ks,.sl e' bZ=>Nat.beq e e'&&K.mm ks bZ
 | _,_=>false
def K.mm:List K->List K->Bool
 | [],[]=>true
 | k::ks,k'::bZ=>K.same k k'&&K.mm ks bZ
 | _,_=>false
end
mutual
theorem K.EN:∀(a b:K),K.same a b=true->a=b
 | .int a,.int b,h=>by simp[K.same]at h;rw[h]
 | .bool,.bool,_=>rfl
 | .str,.str,_=>rfl
 | .sl e ks,.sl e' bZ,h=>by simp only[K.same,ami]at h;rw[anx h.1,K.la ks bZ h.2]
 | .int _,.bool,h=>by simp[K.same]at h
 | .int _,.str,h=>by simp[K.same]at h
 | .int _,.sl _ _,h=>by simp[K.same]at h
 | .bool,.int _,h=>by simp[K.same]at h
 | .bool,.str,h=>by simp[K.same]at h
 | .bool,.sl _ _,h=>by simp[K.same]at h
 | .str,.int _,h=>by simp[K.same]at h
 | .str,.bool,h=>by simp[K.same]at h
 | .str,.sl _ _,h=>by simp[K.same]at h
 | .sl _ _,.int _,h=>by simp[K.same]at h
 | .sl _ _,.bool,h=>by simp[K.same]at h
 | .sl _ _,.str,h=>by simp[K.same]at h
theorem K.la:∀(a b:List K),K.mm a b=true->a=b
 | [],[],_=>rfl
 | k::ks,k'::bZ,h=>by simp only[K.mm,ami]at h;rw[K.EN k k' h.1,K.la ks bZ h.2]
 | [],_::_,h=>by simp[K.mm]at h
 | _::_,[],h=>by simp[K.mm]at h
end
def gJ(k k':K)(x:T k):Option (T k'):=
 match h:K.same k k' with
 | true=>some (K.EN k k' h ▸ x)
 | false=>none
theorem cN{k k':K}{x:T k}{y:T k'}(h:gJ k k' x=some y):∃ e:k=k',e ▸ x=y:=by
 unfold gJ at h;split at h
 . rename_i h1;exact⟨K.EN k k' h1,by simpa using h⟩
 . simp at h
def By(ks bZ:List K)(x:Tl ks):Option (Tl bZ):=
 match h:K.mm ks bZ with
 | true=>some (K.la ks bZ h ▸ x)
 | false=>none
theorem xI{ks bZ:List K}{x:Tl ks}{y:Tl bZ}(h:By ks bZ x=some y):∃ e:ks=bZ,e ▸ x=y:=by
 unfold By at h;split at h
 . rename_i h1;exact⟨K.la ks bZ h1,by simpa using h⟩
 . simp at h
def YK:List K->Nat
 | [.int .u8]=>0
 | _=>1
def fQ(l:S8):ByteArray:=⟨l.toArray⟩
def bQ:Nat:=140737488355328
theorem bl:bQ = 140737488355328:=rfl
def pT(k:IntKind)(n:Int):Prop:=k.min<=n/\n<=k.max
mutual
def RO(Z:Nat->Prop)(w:World):(k:K)->T k->Value->Prop
 | .int k,n,v=>v= .int k n/\pT k n
 | .bool,b,v=>v= .bool b
 | .str,s,v=>v= .string (fQ s)/\s.length<=bQ
 | .sl _ ks,xs,v=>∃ a c,v= .slice a (aW xs).length c/\(aW xs).length<=c/\(aW xs).length<=bQ/\(a=none->c=0) /\
    (aW xs≠[]->∃ b o,a=some ⟨b,o,none⟩/\Z b/\b<w.heap.size/\∀ i x,(aW xs)[i]? = some x->rR Z w ks x b (o+i * ks.length))
def rR(Z:Nat->Prop)(w:World):(ks:List K)->Tl ks->Nat->Nat->Prop
 | [],_,_,_=>True
 | k::ks,x,b,o=>(∃ v,w.cell? ⟨b,o,none⟩=some v/\RO Z w k x.1 v)/\rR Z w ks x.2 b (o+1)
end
mutual
def dG(w:World):(k:K)->T k->Value->(Nat->Prop)->Prop
 | .int k,n,v,_=>v= .int k n/\pT k n
 | .bool,b,v,_=>v= .bool b
 | .str,s,v,_=>v= .string (fQ s)/\s.length<=bQ
 | .sl _ ks,xs,v,F=>∃ a c,v= .slice a (aW xs).length c/\(aW xs).length<=c/\(aW xs).length<=bQ/\(a=none->c=0) /\
    ∀ a',a=some a'->∃ b o cs e fr,a'=⟨b,o,none⟩/\F b/\w.heap[b]? = some (.cells cs e fr)/\(∀ q,q<cs.size+YK ks->¬ (fr.1<=q/\q<fr.2))/\o+c * ks.length<=cs.size /\
     ∃ G:Nat->Nat->Nat->Prop,(∀ i j b',G i j b'->F b'/\b'≠b)/\(∀ i j i' j' b',G i j b'->G i' j' b'->i=i'/\j=j') /\
      ∀ i x,(aW xs)[i]? = some x->gx w ks x 0 (G i) cs (o+i * ks.length)
def gx(w:World):(ks:List K)->Tl ks->Nat->(Nat->Nat->Prop)->Array Value->Nat->Prop
 | [],_,_,_,_,_=>True
 | k::ks,x,j,G,cs,o=>(∃ v,cs[o]? = some v/\dG w k x.1 v (G j))/\gx w ks x.2 (j+1) G cs (o+1)
end
mutual
theorem RO.mono{Z Z':Nat->Prop}{w w':World}(hs:w.heap.size<=w'.heap.size)(hZ:∀ b,Z b->b<w.heap.size->Z' b/\w'.heap[b]? = w.heap[b]?) :
 ∀(k:K) (x:T k) (v:Value),RO Z w k x v->RO Z' w' k x v
 | .int _,_,_,h=>h
 | .bool,_,_,h=>h
 | .str,_,_,h=>h
 | .sl _ ks,xs,v,h=>by obtain⟨a,c,h1,h2,h3,h4,h5⟩:=h;refine⟨a,c,h1,h2,h3,h4,fun cY=>?_⟩;obtain⟨b,o,e,hb,aV,hr⟩:=h5 cY;exact⟨b,o,e,(hZ b hb aV).1,amG aV hs,fun i x hx=>rR.mono hs hZ ks x b _ (hZ b hb aV).2 (hr i x hx)⟩
theorem rR.mono{Z Z':Nat->Prop}{w w':World}(hs:w.heap.size<=w'.heap.size)(hZ:∀ b,Z b->b<w.heap.size->Z' b/\w'.heap[b]? = w.heap[b]?) :
 ∀(ks:List K) (x:Tl ks) (b o:Nat),w'.heap[b]? = w.heap[b]? -> rR Z w ks x b o->rR Z' w' ks x b o
 | [],_,_,_,_,_=>trivial
 | k::ks,x,b,o,hb,h=>by obtain⟨⟨v,h1,h2⟩,h3⟩:=h;refine⟨⟨v,?_,RO.mono hs hZ k _ v h2⟩,rR.mono hs hZ ks _ b _ hb h3⟩;rw[<- h1];simp only[World.cell?,hb]
end
mutual
theorem dG.frame{w w':World}:∀(k:K) (x:T k) (v:Value) (F F':Nat->Prop),(∀ b,F b->F' b)->(∀ b,F b->b<w.heap.size->w'.heap[b]? = w.heap[b]?)->dG w k x v F->dG w' k x v F'
 | .int _,_,_,_,_,_,_,h=>h
 | .bool,_,_,_,_,_,_,h=>h
 | .str,_,_,_,_,_,_,h=>h
 | .sl _ ks,xs,v,F,F',hF,hw,h=>by
   obtain⟨a,c,h1,h2,h3,h4,h5⟩:=h;refine⟨a,c,h1,h2,h3,h4,fun a' ha=>?_⟩;obtain⟨b,o,cs,e,fr,g1,g2,g3,g4,g5,G,g6,g7,g8⟩:=h5 a' ha;have aV:b<w.heap.size:=by
    rcases amz b w.heap.size with h | h
    . exact h
    . simp[amC h]at g3
   refine⟨b,o,cs,e,fr,g1,hF b g2,by rw[hw b g2 aV];exact g3,g4,g5,G,fun i j b' hb=>⟨hF b' (g6 i j b' hb).1,(g6 i j b' hb).2⟩,g7,fun i x hx=>?_⟩;exact gx.frame ks x 0 (G i) (G i) cs _ (fun _ _ h=>h) (fun j b' cz=>hw b' (g6 i j b' cz).1) (g8 i x hx)
theorem gx.frame{w w':World}:∀(ks:List K) (x:Tl ks) (j:Nat) (G G':Nat->Nat->Prop) (cs:Array Value) (o:Nat),(∀ j b,G j b->G' j b)->(∀ j b,G j b->b<w.heap.size->w'.heap[b]? = w.heap[b]?)->gx w ks x j G cs o->gx w' ks x j G' cs o
 | [],_,_,_,_,_,_,_,_,_=>trivial
 | k::ks,x,j,G,G',cs,o,hG,hw,h=>by obtain⟨⟨v,h1,h2⟩,h3⟩:=h;exact⟨⟨v,h1,dG.frame k _ v (G j) (G' j) (hG j) (hw j) h2⟩,gx.frame ks _ (j+1) G G' cs (o+1) hG hw h3⟩
end
mutual
theorem dG.ro{Z:Nat->Prop}{w:World}:∀(k:K) (x:T k) (v:Value) (F:Nat->Prop),(∀ b,F b->Z b)->dG w k x v F->RO Z w k x v
 | .int _,_,_,_,_,h=>h
 | .bool,_,_,_,_,h=>h
 | .str,_,_,_,_,h=>h
 | .sl _ ks,xs,v,F,hF,h=>by
   obtain⟨a,c,h1,h2,h3,h4,h5⟩:=h;refine⟨a,c,h1,h2,h3,h4,fun cY=>?_⟩;cases a with
   | none=>
     have:=h4 rfl;have:(aW xs).length=0:=by omega
     exact absurd (am2.1 this) cY
   | some a'=>
     obtain⟨b,o,cs,e,fr,g1,g2,g3,g4,g5,G,g6,g7,g8⟩:=h5 a' rfl;have aV:b<w.heap.size:=by
      rcases amz b w.heap.size with h | h
      . exact h
      . simp[amC h]at g3
     exact⟨b,o,by rw[g1],hF b g2,aV,fun i x hx=>gx.ro ks x 0 (G i) cs _ b e fr g3 (fun j b' cz=>hF b' (g6 i j b' cz).1) (g8 i x hx)⟩
theorem gx.ro{Z:Nat->Prop}{w:World}:∀(ks:List K) (x:Tl ks) (j:Nat) (G:Nat->Nat->Prop) (cs:Array Value) (o b:Nat) (e:TypeId) (fr:Nat×Nat),w.heap[b]? = some (.cells cs e fr)->(∀ j b,G j b->Z b)->gx w ks x j G cs o->rR Z w ks x b o
 | [],_,_,_,_,_,_,_,_,_,_,_=>trivial
 | k::ks,x,j,G,cs,o,b,e,fr,hb,hG,h=>by obtain⟨⟨v,h1,h2⟩,h3⟩:=h;refine⟨⟨v,?_,dG.ro k _ v (G j) (hG j) h2⟩,gx.ro ks _ (j+1) G cs (o+1) b e fr hb hG h3⟩;simp[World.cell?,hb,h1]
end
inductive Tr (α:Type):Type 1
 | ret (a:α)
 | fail
 | br (c:Bool) (t e:Tr α)
 | call {β:Type} (o:Option β) (k:β->Tr α)
 | alt {β γ:Type} (o:Option (Sum β γ)) (k:β->Tr α) (k':γ->Tr α)
def Tr.bind{α β:Type}:Tr α->(α->Tr β)->Tr β
 | .ret a,f=>f a
 | .fail,_=> .fail
 | .br c t e,f=> .br c (t.bind f) (e.bind f)
 | .call o k,f=> .call o fun b=>(k b).bind f
 | .alt o k k',f=> .alt o (fun b=>(k b).bind f) fun c=>(k' c).bind f
def Tr.run{α:Type}:Tr α->Option α
 | .ret a=>some a
 | .fail=>none
 | .br c t e=>cond c t.run e.run
 | .call o k=>o.bind fun b=>(k b).run
 | .alt o k k'=>o.bind (Sum.elim (fun b=>(k b).run) fun c=>(k' c).run)
theorem Tr.run_bind{α β:Type}(t:Tr α)(f:α->Tr β):(t.bind f).run=t.run.bind fun a=>(f a).run:=by
 induction t with
 | ret a=>rfl
 | fail=>rfl
 | br c t e ih1 ih2=>cases c <;> simp[Tr.bind,Tr.run,ih1,ih2]
 | call o k ih=>cases o <;> simp[Tr.bind,Tr.run,ih]
 | alt o k k' ih ih'=>
   cases o with
   | none=>simp[Tr.bind,Tr.run]
   | some r=>cases r <;> simp[Tr.bind,Tr.run,ih,ih']
def Tr.need{α:Type}(c:Bool)(t:Tr α):Tr α:= .br c t .fail
def Tr.cu{α β:Type}(o:Option α)(f:α->Tr β):Tr β:=match o with | some a=>f a | none=> .fail
theorem Tr.bT{α:Type}{c:Bool}{t:Tr α}{a:α}(h:(Tr.need c t).run=some a):c=true/\t.run=some a:=by cases c <;> simp_all[Tr.need,Tr.run]
theorem Tr.ai{α β:Type}{o:Option α}{f:α->Tr β}{b:β}(h:(Tr.cu o f).run=some b):∃ a,o=some a/\(f a).run=some b:=by cases o <;> simp_all[Tr.cu,Tr.run]
def look{β:Type}:List (Nat×β)->Nat->Option β
 | [],_=>none
 | (m,x)::r,n=>bif Nat.beq m n then some x else look r n
inductive AV where
 | dead
 | lb (x:Bool)
 | d (k:K) (x:T k)
 | nil
 | b (r j s m:Nat) (k:K) (x:T k)
 | ref (r j s:Nat)
 | cut (r j s:Nat) (n:Nat)
 | pre (r j s:Nat) (n:Nat)
 | pref (r j s m:Nat) (i c:Nat)
 | ptr (r j:Nat)
 | pel (r j s:Nat) (i c:Nat)
 | qO (r n:Nat)
 | rp (dep:Option (Nat×Nat×Nat×Nat)) (e:TypeId) (ks:List K) (xs:List (Tl ks)) (i c:Nat)
inductive TV where
 | v (a:AV)
 | may (t:Nat) (want y:Bool) (g:Bool) (l:List AV)
 | agg (cs:List AV)
 | tup (cs:List (Bool×List AV))
 | fn (f:Nat) (cR:List (Bool×List AV))
 | bc (r j s m:Nat) (e:TypeId) (ks:List K) (x:List (Tl ks))
inductive RV where
 | own (k:K) (x:T k)
 | av (a:AV)
structure RC where
 s:Nat
 m:Nat
 v:RV
structure Rt where
 box:Bool
 cells:List RC
structure St where
 tm:List (Nat×TV)
 rt:List (Nat×Rt)
def St.cell(st:St)(r j:Nat):Option RC:=match look st.rt r with | some R=>R.cells[j]? | none=>none
structure TI where
 agg:Bool
 ks:List K
 elem:Nat
 bytes:Nat
 pV:List (Nat×Nat)
def dfl:(k:K)->T k
 | .int _=>(0:Int)
 | .bool=>false
 | .str=>([]:S8)
 | .sl _ ks=>([]:List (Tl ks))
def jv:(ks:List K)->Tl ks
 | []=>()
 | k::ks=>(dfl k,jv ks)
 termination_by structural ks=>ks
def cellAt:(ks:List K)->Tl ks->Nat->Option ((k:K)×T k)
 | [],_,_=>none
 | k::_,x,0=>some ⟨k,x.1⟩
 | _::ks,x,c+1=>cellAt ks x.2 c
def tB:K->Bool
 | .sl _ _=>true
 | _=>false
def setAt:(ks:List K)->Tl ks->Nat->(k:K)->T k->Option (Tl ks)
 | [],_,_,_,_=>none
 | k'::_,x,0,k,y=>match gJ k k' y with | some y'=>some (y',x.2) | none=>none
 | _::ks,x,c+1,k,y=>match setAt ks x.2 c k y with | some z=>some (x.1,z) | none=>none
def cat(ks:List K)(xs ys:List (Tl ks)):List (Tl ks):=xs++ys
def aiM(s t:S8):S8:=s++t
def hE{e:TypeId}{ks:List K}(xs:T (.sl e ks))(i:Nat):Tl ks:=(aW xs).getD i (jv ks)
def cells(vs:List Value):Option (List AV):=match vs with
 | []=>some []
 | v::r=>match (match v with
    | .int k n=>bif decide (k.min<=n)&&decide (n<=k.max)then some (AV.d (.int k) n)else none
    | .bool x=>some (AV.lb x)
    | .string s=>bif Nat.ble s.data.toList.length bQ then some (AV.d .str s.data.toList)else none
    | .slice none 0 0=>some AV.nil
    | _=>none),cells r with
   | some a,some l=>some (a::l)
   | _,_=>none
def uJ(v:Value):Option TV:=match v with
 | .agg cs=>match cells cs.toList with | some l=>some (.agg l) | none=>none
 | .tuple vs=>match vs.toList with | []=>some (.tup []) | _=>none
 | .func (.func f) a b=>match a.toList,b.toList with | [],[]=>some (.fn f []) | _,_=>none
 | v=>match cells [v]with | some [a]=>some (.v a) | _=>none
def fP(g:Bool)(l:List AV):TV:=match g,l with | false,[a]=> .v a | _,l=> .agg l
def St.tv(st:St)(t:Nat):Option TV:=match look st.tm t with
 | some (.may q want y g l)=>match look st.tm q with
   | some (.v (.lb x))=>(match x,want with | true,true=>some (fP g l) | false,false=>some (fP g l) | _,_=>none)
   | some _=>some (.may q want y g l)
   | none=>none
 | o=>o
def St.get(st:St):Operand->Option TV
 | .tmp t=>st.tv t
 | .const v=>uJ v
 | .func f=>some (.fn f [])
 | .global _=>none
def St.read(st:St):AV->Option ((k:K)×T k)
 | .lb x=>some ⟨.bool,x⟩
 | .d k x=>some ⟨k,x⟩
 | .b r j s m k x=>match st.cell r j with
   | some rc=>bif Nat.beq rc.s s&&Nat.beq rc.m m then some ⟨k,x⟩else none
   | none=>none
 | .ref r j s=>match st.cell r j with
   | some ⟨s',_,.own k x⟩=>bif Nat.beq s' s then some ⟨k,x⟩else none
   | _=>none
 | .cut r j s n=>match st.cell r j with
   | some ⟨s',_,.own (.sl e ks) x⟩=>bif Nat.beq s' s then some ⟨.sl e ks,List.take n (aW x)⟩else none
   | _=>none
 | .pref r j s m i c=>match st.cell r j with
   | some ⟨s',m',.own (.sl e ks) x⟩=>bif Nat.beq s' s&&Nat.beq m' m then cellAt ks (hE x i) c else none
   | _=>none
 | _=>none
def St.live(st:St):AV->Bool
 | .dead=>false
 | .pre _ _ _ _=>false
 | .lb _=>true
 | .d _ _=>true
 | .nil=>true
 | .ptr _ _=>true
 | .qO _ _=>true
 | .b r j s m _ _=>match st.cell r j with
   | some rc=>Nat.beq rc.s s&&Nat.beq rc.m m
   | none=>false
 | .ref r j s=>match st.cell r j with
   | some ⟨s',_,.own (.sl _ _) _⟩=>Nat.beq s' s
   | _=>false
 | .cut r j s n=>match st.cell r j with
   | some ⟨s',_,.own (.sl _ _) _⟩=>Nat.beq s' s
   | _=>false
 | .pref r j s m i c=>match st.cell r j with
   | some ⟨s',m',.own (.sl _ ks) x⟩=>Nat.beq s' s&&Nat.beq m' m&&(cellAt ks (hE x i) c).isSome
   | _=>false
 | .pel r j s _ _=>match st.cell r j with
   | some rc=>Nat.beq rc.s s
   | none=>false
 | .rp none _ _ _ _ _=>true
 | .rp (some (r,j,s,m)) _ _ _ _ _=>match st.cell r j with
   | some rc=>Nat.beq rc.s s&&Nat.beq rc.m m
   | none=>false
def St.bI(st:St)(k:K)(a:AV):Option (T k):=match a,k with
 | .nil,.sl _ ks=>some ([]:List (Tl ks))
 | a,k=>match st.read a with | some ⟨k',x⟩=>gJ k' k x | none=>none
def St.readAll(st:St):(ks:List K)->List AV->Option (Tl ks)
 | [],[]=>some ()
 | k::ks,a::l=>match st.bI k a,st.readAll ks l with | some x,some y=>some (x,y) | _,_=>none
 | _,_=>none
def AV.bV:AV->Bool
 | .lb _ | .d _ _ | .nil=>true
 | _=>false
def AV.int? : AV->Option (IntKind×Int)
 | .d (.int k) n=>some (k,n)
 | _=>none
def AV.bool? : AV->Option Bool
 | .lb x=>some x
 | .d .bool x=>some x
 | _=>none
def AV.pr:AV->Option S8
 | .d .str s=>some s
 | _=>none
def TV.int? : TV->Option (IntKind×Int) | .v a=>a.int? | _=>none
def TV.bool? : TV->Option Bool | .v a=>a.bool? | _=>none
def TV.pr:TV->Option S8 | .v a=>a.pr | _=>none
def TV.Ii:TV->Option AV | .v a=>some a | .bc r j s m e ks x=>some (.b r j s m (.sl e ks) x) | _=>none
def TV.dw:TV->Option (Bool×List AV) | .v a=>some (false,[a]) | .agg l=>some (true,l) | .bc r j s m e ks x=>some (false,[.b r j s m (.sl e ks) x]) | _=>none
def St.kG(st:St):AV->Option RC
 | .pref r j s m i c=>bif st.live (.pref r j s m i c)then some ⟨0,0,.av (.pref r j s m i c)⟩else none
 | .lb x=>some ⟨0,0,.av (.lb x)⟩
 | .d k x=>some ⟨0,0,.av (.d k x)⟩
 | .nil=>some ⟨0,0,.av .nil⟩
 | .b r j s m k x=>bif st.live (.b r j s m k x)then some ⟨0,0,.av (.b r j s m k x)⟩else none
 | _=>none
def St.mM(st:St):List AV->Option (List RC)
 | []=>some []
 | a::l=>match st.kG a,st.mM l with | some x,some y=>some (x::y) | _,_=>none
def pF:K->RC
 | .int k=>⟨0,0,.av (.d (.int k) (0:Int))⟩
 | .bool=>⟨0,0,.av (.d .bool false)⟩
 | .str=>⟨0,0,.av (.d .str ([]:S8))⟩
 | .sl e ks=>⟨0,0,.own (.sl e ks) ([]:List (Tl ks))⟩
def nG:K->AV
 | .int k=> .d (.int k) (0:Int)
 | .bool=> .d .bool false
 | .str=> .d .str ([]:S8)
 | .sl _ _=> .nil
def St.kH(st:St)(r j:Nat):Option AV:=match st.cell r j with
 | some ⟨s,_,.own _ _⟩=>some (.ref r j s)
 | some ⟨_,_,.av a⟩=>some a
 | none=>none
def St.dV(st:St)(r:Nat):Nat->Nat->Option (List AV)
 | _,0=>some []
 | j,n+1=>match st.kH r j,st.dV r (j+1) n with | some a,some l=>some (a::l) | _,_=>none
def Jq(ks:List K)(x:Tl ks)(c:Nat)(sl:(k:K)->T k->AV):Option AV:=match cellAt ks x c with
 | some ⟨.sl e bZ,y⟩=>some (sl (.sl e bZ) y)
 | some ⟨k,y⟩=>some (.d k y)
 | none=>none
def pG(ks:List K)(x:Tl ks)(sl:Nat->(k:K)->T k->AV):Nat->Nat->Option (List AV)
 | _,0=>some []
 | c,n+1=>match Jq ks x c (sl c),pG ks x sl (c+1) n with | some a,some l=>some (a::l) | _,_=>none
def St.load(st:St)(n:Nat):AV->Option (List AV)
 | .ptr r j=>st.dV r j n
 | .pel r j s i c=>match st.cell r j with
   | some ⟨s',m,.own (.sl _ ks) xs⟩=>bif Nat.beq s' s then pG ks (hE xs i) (fun c' _ _=> .pref r j s m i c') c n else none
   | _=>none
 | .rp none e ks xs i c=>pG ks (xs.getD i (jv ks)) (fun _ k y=> .d k y) c n
 | .rp (some (r,j,s,m)) e ks xs i c=>match st.cell r j with
   | some rc=>bif Nat.beq rc.s s&&Nat.beq rc.m m then pG ks (xs.getD i (jv ks)) (fun _ k y=> .b r j s m k y) c n else none
   | none=>none
 | _=>none
def iH(agg:Bool)(l:List AV):Option TV:=match agg,l with
 | true,l=>some (.agg l)
 | false,[a]=>some (.v a)
 | false,_=>none
def cl(a b:Int):Bool:=decide (a<=b)
def aE(a b:Int):Bool:=decide (a<b)
def aj(a b:Int):Bool:=a == b
def bF(a b:S8):Bool:=a == b
def eqB(a b:Bool):Bool:=a == b
def Pp(op:BinOp)(k:IntKind)(a b:Int):Tr AV:=match op with
 | .add=> .ret (.d (.int k) (k.wrap (a+b)))
 | .sub=> .ret (.d (.int k) (k.wrap (a-b)))
 | .mul=> .ret (.d (.int k) (k.wrap (a * b)))
 | .quo=> .need (!(aj b 0)) (.ret (.d (.int k) (k.wrap (a.tdiv b))))
 | .rem=> .need (!(aj b 0)) (.ret (.d (.int k) (a.tmod b)))
 | .and=> .ret (.d (.int k) (k.wrap ((BitVec.ofInt k.bits a &&& BitVec.ofInt k.bits b).toNat:Int)))
 | .or=> .ret (.d (.int k) (k.wrap ((BitVec.ofInt k.bits a ||| BitVec.ofInt k.bits b).toNat:Int)))
 | .xor=> .ret (.d (.int k) (k.wrap ((BitVec.ofInt k.bits a ^^^ BitVec.ofInt k.bits b).toNat:Int)))
 | .eql=> .ret (.d .bool (aj a b))
 | .neq=> .ret (.d .bool (!(aj a b)))
 | .lss=> .ret (.d .bool (aE a b))
 | .leq=> .ret (.d .bool (cl a b))
 | .gtr=> .ret (.d .bool (aE b a))
 | .geq=> .ret (.d .bool (cl b a))
 | _=> .fail
def Eg(op:BinOp)(k:IntKind)(a b:Int):Tr AV:=match op with
 | .shl=> .need (decide (0<=b)) (.ret (.d (.int k) (k.wrap (a * 2 ^ min b.toNat k.bits))))
 | .shr=> .need (decide (0<=b)) (.ret (.d (.int k) (a.fdiv (2 ^ min b.toNat k.bits))))
 | _=> .fail
def Rw(op:BinOp)(s t:S8):Tr AV:=match op with
 | .add=> .need (Nat.ble (s.length+t.length) bQ) (.ret (.d .str (aiM s t)))
 | .eql=> .ret (.d .bool (bF s t))
 | .neq=> .ret (.d .bool (!(bF s t)))
 | .lss=> .ret (.d .bool (Op.bytesLess s t))
 | .leq=> .ret (.d .bool (Op.bytesLess s t||bF s t))
 | .gtr=> .ret (.d .bool (!(Op.bytesLess s t||bF s t)))
 | .geq=> .ret (.d .bool (!(Op.bytesLess s t)))
 | _=> .fail
def yJ:BinOp->Bool | .shl | .shr=>true | _=>false
def acS(isB:Bool)(op:BinOp)(x y:TV):Tr AV:=match x.int?,y.int? with
 | some (k,a),some (k',b)=>bif yJ op then Eg op k a b else bif k == k' then Pp op k a b else .fail
 | _,_=>match x.pr,y.pr with
   | some s,some t=>Rw op s t
   | _,_=>match x.bool?,y.bool? with
     | some a,some b=>bif !isB then .fail else (match op with | .eql=> .ret (.d .bool (eqB a b)) | .neq=> .ret (.d .bool (!(eqB a b))) | _=> .fail)
     | _,_=> .fail
def unT(op:UnOp)(x:TV):Tr AV:=match op,x.bool?,x.int? with
 | .not,some a,_=> .ret (.d .bool (!a))
 | .neg,_,some (k,a)=> .ret (.d (.int k) (k.wrap (0-a)))
 | _,_,_=> .fail
def ads(x:TV):Tr AV:=match x with
 | .v (.lb a)=> .ret (.lb (!a))
 | x=>unT .not x
inductive Xv where
 | c (agg:Bool) (ks:List K)
 | p (ks:List K)
def UY:List Xv->Type
 | []=>Unit
 | .c _ ks::r=>Tl ks×UY r
 | .p ks::r=>Tl ks×UY r
def BT:List (Bool×K)->Type
 | []=>Unit
 | p::r=>T p.2×BT r
inductive PK where
 | c (agg:Bool) (ks:List K)
 | pt (ks:List K)
 | nil
 | fn (f:Nat) (cR:List Xv)
 | io (agg:Bool) (ks:List K)
 | mv (k:K)
 | pw (cs:List (Bool×K))
def CT:List (Bool×List K)->Type
 | []=>Unit
 | p::r=>Tl p.2×CT r
def PT:List PK->Type
 | []=>Unit
 | .c _ ks::r=>Tl ks×PT r
 | .pt ks::r=>Tl ks×PT r
 | .nil::r=>PT r
 | .fn _ cR::r=>UY cR×PT r
 | .io _ ks::r=>Tl ks×PT r
 | .mv k::r=>T k×PT r
 | .pw cs::r=>BT cs×PT r
def uy:List PK->Type
 | []=>Unit
 | .io _ ks::r=>Tl ks×uy r
 | .c _ _::r=>uy r
 | .pt _::r=>uy r
 | .nil::r=>uy r
 | .fn _ _::r=>uy r
 | .mv _::r=>uy r
 | .pw cs::r=>BT cs×uy r
structure Su where
 ps:List PK
 rs:List (Bool×List K)
 fresh:Bool
 f:Sum (PT ps->Option (uy ps×CT rs)) (PT ps->CT rs)
def jz:List PK->Bool
 | []=>true
 | .c _ _::r=>jz r
 | .pt _::r=>jz r
 | .nil::r=>jz r
 | .fn _ _::r=>jz r
 | .io _ _::_=>false
 | .mv _::_=>false
 | .pw _::_=>false
def cw:Bool->Bool->Bool | true,true=>true | false,false=>true | _,_=>false
def oZ(c:RC):Bool:=match c.v with | .av a=>a.bV | _=>false
def wT(c:RC):AV:=match c.v with | .av a=>a | _=> .dead
def St.kz(st:St)(box:Bool)(ks:List K):AV->Option (Tl ks)
 | .rp none _ bZ xs i 0=>By bZ ks (xs.getD i (jv bZ))
 | .ptr r 0=>bif box then (match look st.rt r with
   | some R=>bif R.box&&R.cells.all oZ then st.readAll ks (R.cells.map wT)else none
   | none=>none)else none
 | _=>none
def St.bR(st:St)(box:Bool):(cs:List Xv)->List (Bool×List AV)->Option (UY cs)
 | [],[]=>some ()
 | .c g ks::cs,(g',l)::r=>bif cw g g'&&l.all AV.bV then (match st.readAll ks l,st.bR box cs r with | some x,some y=>some (x,y) | _,_=>none)else none
 | .p ks::cs,(false,[a])::r=>(match st.kz box ks a,st.bR box cs r with | some x,some y=>some (x,y) | _,_=>none)
 | _,_=>none
def fX:TV->Bool
 | .v .nil=>true
 | _=>false
def St.args(st:St)(bV:Bool):(ps:List PK)->List TV->Option (PT ps)
 | [],[]=>some ()
 | .c g ks::ps,tv::r=>match tv.dw with
   | some (g',l)=>bif cw g g'&&(!bV||l.all AV.bV)then (match st.readAll ks l,st.args bV ps r with | some x,some y=>some (x,y) | _,_=>none)else none
   | none=>none
 | .pt ks::ps,.v a::r=>(match st.kz (!bV) ks a,st.args bV ps r with | some x,some y=>some (x,y) | _,_=>none)
 | .nil::ps,tv::r=>bif fX tv then st.args bV ps r else none
 | .fn f cs::ps,.fn f' cR::r=>bif Nat.beq f f' then (match st.bR (!bV) cs cR,st.args bV ps r with | some x,some y=>some (x,y) | _,_=>none)else none
 | _,_=>none
def fZ(dst:Nat)(fresh:Bool):(ks:List K)->Tl ks->Nat->List AV
 | [],_,_=>[]
 | .sl e bZ::ks,x,j=>(bif fresh then .ref dst j 0 else .d (.sl e bZ) x.1)::fZ dst fresh ks x.2 (bif fresh then j+1 else j)
 | k::ks,x,j=> .d k x.1::fZ dst fresh ks x.2 j
def mB:(ks:List K)->Tl ks->List RC
 | [],_=>[]
 | .sl e bZ::ks,x=>⟨0,0,.own (.sl e bZ) x.1⟩::mB ks x.2
 | _::ks,x=>mB ks x.2
def bU:List K->Nat
 | []=>0
 | .sl _ _::ks=>bU ks+1
 | _::ks=>bU ks
def tC(dst:Nat)(fresh:Bool):(rs:List (Bool×List K))->CT rs->Nat->List (Bool×List AV)
 | [],_,_=>[]
 | (g,ks)::rs,x,j=>(g,fZ dst fresh ks x.1 j)::tC dst fresh rs x.2 (bif fresh then j+bU ks else j)
def cO:(rs:List (Bool×List K))->CT rs->List RC
 | [],_=>[]
 | (_,ks)::rs,x=>mB ks x.1++cO rs x.2
def js:List (Bool×List AV)->Option TV
 | [(true,l)]=>some (.agg l)
 | [(false,[a])]=>some (.v a)
 | [(false,_)]=>none
 | l=>some (.tup l)
def lJ:List (Bool×List K)->Bool
 | []=>false
 | (_,ks)::rs=> !Nat.beq (bU ks) 0||lJ rs
def fc(dst:Nat)(s:Su)(y:CT s.rs):Option (TV×Option Rt):=
 match js (tC dst s.fresh s.rs y 0)with
 | some tv=>some (tv,bif s.fresh&&lJ s.rs then some ⟨false,cO s.rs y⟩else none)
 | none=>none
def St.xG(st:St)(dst:Nat):List Su->List TV->Tr (TV×Option Rt)
 | [],_=> .fail
 | s::r,l=>bif jz s.ps then (match st.args (!s.fresh) s.ps l with
    | some x=>(match s.f with
      | .inr g=>Tr.cu (fc dst s (g x)) .ret
      | .inl f=> .call (f x) fun y=>Tr.cu (fc dst s y.2) .ret)
    | none=>st.xG dst r l)else st.xG dst r l
inductive SE where
 | d (t:Nat) (k:K)
 | own (t:Nat) (k:K)
 | fn (t f:Nat) (cR:List Xv)
 | ag (t:Nat) (ks:List K)
 | box (r:Nat) (cs:List (Bool×K))
 | al (t t2:Nat)
 | fr (t f r:Nat)
def fg:List SE->Type
 | []=>Unit
 | .d _ k::r=>T k×fg r
 | .own _ k::r=>T k×fg r
 | .fn _ _ cR::r=>UY cR×fg r
 | .ag _ ks::r=>Tl ks×fg r
 | .box _ cs::r=>BT cs×fg r
 | .al _ _::r=>Unit×fg r
 | .fr _ _ _::r=>Unit×fg r
def cn(t:Nat):Nat:=100000+t
def cf:(cs:List (Bool×K))->BT cs->List RC
 | [],_=>[]
 | (true,k)::cs,x=>⟨0,0,.own k x.1⟩::cf cs x.2
 | (false,k)::cs,x=>⟨0,0,.av (.d k x.1)⟩::cf cs x.2
def uO:(cs:List Xv)->UY cs->List (Bool×List AV)
 | [],_=>[]
 | .c g ks::cs,x=>(g,fZ 0 false ks x.1 0)::uO cs x.2
 | .p ks::cs,x=>(false,[.rp none 0 ks [x.1] 0 0])::uO cs x.2
def oH:(σ:List SE)->fg σ->List (Nat×TV)
 | [],_=>[]
 | .d t k::σ,x=>(t,.v (.d k x.1))::oH σ x.2
 | .own t k::σ,x=>(t,.v (.ref (cn t) 0 0))::oH σ x.2
 | .fn t f cR::σ,x=>(t,.fn f (uO cR x.1))::oH σ x.2
 | .ag t ks::σ,x=>(t,.agg (fZ 0 false ks x.1 0))::oH σ x.2
 | .box r _::σ,x=>(r,.v (.ptr r 0))::oH σ x.2
 | .al t t2::σ,x=>(t,.v (.ref (cn t2) 0 0))::oH σ x.2
 | .fr t f r::σ,x=>(t,.fn f [(false,[.ptr r 0])])::oH σ x.2
def fO:(σ:List SE)->fg σ->List (Nat×Rt)
 | [],_=>[]
 | .d _ _::σ,x=>fO σ x.2
 | .own t k::σ,x=>(cn t,⟨false,[⟨0,0,.own k x.1⟩]⟩)::fO σ x.2
 | .fn _ _ _::σ,x=>fO σ x.2
 | .ag _ _::σ,x=>fO σ x.2
 | .box r cs::σ,x=>(r,⟨true,cf cs x.1⟩)::fO σ x.2
 | .al _ _::σ,x=>fO σ x.2
 | .fr _ _ _::σ,x=>fO σ x.2
def enc(σ:List SE)(x:fg σ):St:=⟨oH σ x,fO σ x⟩
def upd{α:Type}(l:List (Nat×α))(n:Nat)(x:α):List (Nat×α):=match l with
 | []=>[]
 | (m,y)::r=>bif Nat.beq m n then (m,x)::r else (m,y)::upd r n x
def mq{α:Type}:List α->Nat->α->List α
 | [],_,_=>[]
 | _::r,0,x=>x::r
 | y::r,n+1,x=>y::mq r n x
def St.setCell(st:St)(r j:Nat)(c:RC):St:=match look st.rt r with
 | some R=>⟨st.tm,upd st.rt r ⟨R.box,mq R.cells j c⟩⟩
 | none=>st
def St.take(st:St):AV->Option (St×((k:K)×T k))
 | .ref r j s=>match st.cell r j with
   | some ⟨s',m,.own k x⟩=>bif Nat.beq s' s then some (st.setCell r j ⟨s'+1,m+1,.av .dead⟩,⟨k,x⟩)else none
   | _=>none
 | .cut r j s n=>match st.cell r j with
   | some ⟨s',m,.own (.sl e ks) x⟩=>bif Nat.beq s' s then some (st.setCell r j ⟨s'+1,m+1,.av .dead⟩,⟨.sl e ks,List.take n (aW x)⟩)else none
   | _=>none
 | _=>none
def St.cU(st:St)(k:K)(a:AV):Option (St×T k):=match a,k with
 | .nil,.sl _ ks=>some (st,([]:List (Tl ks)))
 | a,k=>match st.take a with | some (ay,⟨k',x⟩)=>(match gJ k' k x with | some y=>some (ay,y) | none=>none) | none=>none
def eS(st:St):(cs:List (Bool×K))->List RC->Option (BT cs)
 | [],[]=>some ()
 | (true,k)::cs,⟨_,_,.own k' x⟩::r=>match gJ k' k x,eS st cs r with | some y,some z=>some (y,z) | _,_=>none
 | (false,k)::cs,⟨_,_,.av a⟩::r=>bif a.bV then (match st.bI k a,eS st cs r with | some y,some z=>some (y,z) | _,_=>none)else none
 | _,_=>none
def rO(t:Nat):List SE->Bool
 | []=>false
 | .own t' _::σ=>Nat.beq t' t||rO t σ
 | _::σ=>rO t σ
def zF(r:Nat):List SE->Bool
 | []=>true
 | .own _ _::_=>false
 | .box r' _::σ=> !Nat.beq r' r&&zF r σ
 | _::σ=>zF r σ
def TS(st:St)(r j s:Nat):Bool:=match st.cell r j with
 | some c=>Nat.beq c.s s
 | none=>false
def JQ(l:List (Nat×TV))(t:Nat):Bool:=match look l t with
 | some (.v (.ref q 0 0))=>Nat.beq q (cn t)
 | _=>false
def DG(l:List (Nat×Rt))(r:Nat):Bool:=match look l r with | some R=>R.box | none=>false
def dec:(σ:List SE)->St->Option (fg σ)
 | [],_=>some ()
 | .d t k::σ,st=>match st.tv t with
   | some (.v a)=>bif a.bV then (match st.bI k a,dec σ st with | some x,some y=>some (x,y) | _,_=>none)else none
   | _=>none
 | .own t k::σ,st=>match st.tv t with
   | some (.v a)=>bif rO t σ then none else (match st.cU k a with | some (ay,x)=>(match dec σ ay with | some y=>some (x,y) | none=>none) | none=>none)
   | _=>none
 | .fn t f cR::σ,st=>match st.tv t with
   | some (.fn f' l)=>bif Nat.beq f f' then (match st.bR false cR l,dec σ st with | some x,some y=>some (x,y) | _,_=>none)else none
   | _=>none
 | .ag t ks::σ,st=>match st.tv t with
   | some (.agg l)=>bif l.all AV.bV then (match st.readAll ks l,dec σ st with | some x,some y=>some (x,y) | _,_=>none)else none
   | _=>none
 | .box r cs::σ,st=>match st.tv r,look st.rt r with
   | some (.v (.ptr r' 0)),some ⟨true,l⟩=>bif Nat.beq r r'&&Nat.blt r 100000&&zF r σ then (match eS st cs l,dec σ st with | some x,some y=>some (x,y) | _,_=>none)else none
   | _,_=>none
 | .al t t2::σ,st=>match st.tv t,st.tv t2 with
   | some (.v (.ref r j s)),some (.v (.ref r2 j2 s2))=>bif Nat.beq r r2&&(Nat.beq j j2&&(Nat.beq s s2&&TS st r j s))then (match dec σ st with | some y=>bif JQ (oH σ y) t2 then some ((),y)else none | none=>none)else none
   | _,_=>none
 | .fr t f r::σ,st=>match st.tv t with
   | some (.fn f' [(false,[.ptr r' 0])])=>bif Nat.beq f f'&&Nat.beq r r' then (match dec σ st with | some y=>bif DG (fO σ y) r then some ((),y)else none | none=>none)else none
   | _=>none
structure Lo (ρ:List SE) where
 σ:List SE
 f:fg σ->Option (Sum (fg σ) (fg ρ))
structure Sc where
 e:TypeId
 ks:List K
 HV:Nat
structure En where
 nt:Nat
 tt:List (Nat×TI)
 ga:Nat->List Su
 ρ:List SE
 lo:Nat->Option (Lo ρ)
 pins:List Nat
 rg:Nat->Option (St->Tr St)
 gc:Nat->Option Sc
def jb:List Nat->Nat->Bool
 | [],_=>false
 | x::r,n=>Nat.beq x n||jb r n
def En.dB(E:En)(d:Nat):Bool:=Nat.blt d E.nt&& !jb E.pins d
def En.ti(E:En)(t:Nat):Option TI:=look E.tt t
def NX(l:List (Nat×Nat))(i:Nat):Option (Nat×Nat):=match l,i with
 | [],_=>none
 | x::_,0=>some x
 | _::r,n+1=>NX r n
def ze(n:Nat):AV->Option AV
 | .ptr r j=>some (.ptr r (j+n))
 | .pel r j s i c=>some (.pel r j s i (c+n))
 | .rp dep e ks xs i c=>some (.rp dep e ks xs i (c+n))
 | _=>none
def tj(l:List AV)(o n:Nat):List AV:=(l.drop o).take n
def putAt(l:List AV)(o:Nat)(p:List AV):List AV:=l.take o++p++l.drop (o+p.length)
def kY{α β:Type}(step:α->β->Option α):α->List β->Option α
 | l,[]=>some l
 | l,q::r=>match step l q with | some l'=>kY step l' r | none=>none
def vu(E:En)(st:St)(pV:List (Nat×Nat))(l:List AV)(q:Nat×Operand):Option (List AV):=match NX pV q.1,st.get q.2 with
 | some (o,t),some tv=>(match tv.dw,E.ti t with
   | some (_,p),some ti=>bif Nat.beq p.length ti.ks.length&&p.all st.live&&Nat.ble (o+p.length) l.length then some (putAt l o p)else none
   | _,_=>none)
 | _,_=>none
def lenOf(y:Option ((k:K)×T k))(isS:Bool):Option Int:=match y,isS with
 | some ⟨.sl _ _,x⟩,false=>some (aW x).length
 | some ⟨.str,s⟩,true=>some (List.length (α:=UInt8) s)
 | _,_=>none
def St.len(st:St)(isS:Bool):TV->Option Int
 | .v .nil=>bif isS then none else some 0
 | .v a=>lenOf (st.read a) isS
 | _=>none
def FT(s:S8)(i:Nat):Int:=((s.getD i 0).toNat:Int)
def pQ(n:Int)(len:Nat):Bool:=cl 0 n&&aE n (len:Int)
def En.sl(E:En)(t:Nat):Option TI:=match E.ti t with
 | some ⟨false,[.sl _ _],e,_,_⟩=>E.ti e
 | _=>none
def En.str(E:En)(t:Nat):Bool:=match E.ti t with
 | some ⟨false,[.str],_,_,_⟩=>true
 | _=>false
def En.u8(E:En)(t:Nat):Bool:=match E.ti t with
 | some ⟨false,[.int .u8],_,_,_⟩=>true
 | _=>false
def En.i64(E:En)(t:Nat):Bool:=match E.ti t with
 | some ⟨false,[.int .i64],_,_,_⟩=>true
 | _=>false
def En.bool(E:En)(t:Nat):Bool:=match E.ti t with
 | some ⟨false,[.bool],_,_,_⟩=>true
 | _=>false
def St.indexAddr(st:St)(sz:Nat)(x:TV)(n:Int):Tr AV:=match x with
 | .v (.ref r j s)=>(match st.cell r j with
   | some ⟨s',_,.own (.sl e ks) xs⟩=>bif Nat.beq s' s&&Nat.beq ks.length sz then .need (pQ n (aW xs).length) (.ret (.pel r j s n.toNat 0))else .fail
   | _=> .fail)
 | .v (.d (.sl e ks) xs)=>bif Nat.beq ks.length sz then .need (pQ n (aW xs).length) (.ret (.rp none e ks (aW xs) n.toNat 0))else .fail
 | .v (.b r j s m (.sl e ks) xs)=>(match st.cell r j with
   | some rc=>bif Nat.beq rc.s s&&Nat.beq rc.m m&&Nat.beq ks.length sz then .need (pQ n (aW xs).length) (.ret (.rp (some (r,j,s,m)) e ks (aW xs) n.toNat 0))else .fail
   | none=> .fail)
 | .v (.pref r j s m i c)=>(match st.cell r j with
   | some ⟨s',m',.own (.sl e0 gn) x0⟩=>bif Nat.beq s' s&&Nat.beq m' m then (match cellAt gn (hE x0 i) c with
     | some ⟨.sl e ks,xs⟩=>bif Nat.beq ks.length sz then .need (pQ n (aW xs).length) (.ret (.rp (some (r,j,s,m)) e ks (aW xs) n.toNat 0))else .fail
     | _=> .fail)else .fail
   | _=> .fail)
 | _=> .fail
def o6(st:St)(lo hi:Option Operand)(len:Nat):Option (Int×Int):=
 match (match lo with | none=>some 0 | some x=>(match st.get x with | some tv=>(match tv.int? with | some (_,n)=>some n | none=>none) | none=>none)),
  (match hi with | none=>some (len:Int) | some x=>(match st.get x with | some tv=>(match tv.int? with | some (_,n)=>some n | none=>none) | none=>none))with
 | some a,some b=>some (a,b)
 | _,_=>none
def jS(lo hi:Int)(len:Nat):Bool:=cl 0 lo&&(cl lo hi&&cl hi (len:Int))
def sub{α:Type}(l:List α)(lo hi:Int):List α:=(l.take hi.toNat).drop lo.toNat
def St.qK(st:St)(x:TV)(lo hi:Option Operand):Tr AV:=match x.pr with
 | some s=>Tr.cu (o6 st lo hi s.length) fun p=> .need (jS p.1 p.2 s.length) (.ret (.d .str (sub s p.1 p.2)))
 | none=> .fail
def St.qJ(st:St)(sz:Nat)(x:TV)(lo hi:Option Operand):Tr AV:=match x with
 | .v .nil=>Tr.cu (o6 st lo hi 0) fun p=> .need (jS p.1 p.2 0) (.ret .nil)
 | .v (.d (.sl e ks) xs)=>bif Nat.beq ks.length sz then Tr.cu (o6 st lo hi (aW xs).length) fun p=> .need (jS p.1 p.2 (aW xs).length) (.ret (.d (.sl e ks) (sub (aW xs) p.1 p.2)))else .fail
 | .v (.b r j s m (.sl e ks) xs)=>(match st.cell r j with
   | some rc=>bif Nat.beq rc.s s&&Nat.beq rc.m m&&Nat.beq ks.length sz then Tr.cu (o6 st lo hi (aW xs).length) fun p=> .need (jS p.1 p.2 (aW xs).length) (.ret (.b r j s m (.sl e ks) (sub (aW xs) p.1 p.2)))else .fail
   | none=> .fail)
 | .v (.pref r j s m i c)=>(match st.cell r j with
   | some ⟨s',m',.own (.sl e0 gn) x0⟩=>bif Nat.beq s' s&&Nat.beq m' m then (match cellAt gn (hE x0 i) c with
     | some ⟨.sl e ks,xs⟩=>bif Nat.beq ks.length sz then Tr.cu (o6 st lo hi (aW xs).length) fun p=> .need (jS p.1 p.2 (aW xs).length) (.ret (.b r j s m (.sl e ks) (sub (aW xs) p.1 p.2)))else .fail
     | _=> .fail)else .fail
   | _=> .fail)
 | .v (.ref r j s)=>(match st.cell r j with
   | some ⟨s',m,.own (.sl e ks) xs⟩=>bif Nat.beq s' s&&Nat.beq ks.length sz then Tr.cu (o6 st lo hi (aW xs).length) fun p=> .need (jS p.1 p.2 (aW xs).length)
      (match lo with | none=> .ret (.cut r j s p.2.toNat) | some _=> .ret (.b r j s m (.sl e ks) (sub (aW xs) p.1 p.2)))else .fail
   | _=> .fail)
 | _=> .fail
def flat:List K->Bool
 | []=>true
 | .sl _ _::_=>false
 | _::ks=>flat ks
def chunks(st:St)(ks:List K):Nat->List AV->Option (List (Tl ks))
 | 0,[]=>some []
 | 0,_::_=>none
 | n+1,l=>match st.readAll ks (l.take ks.length),chunks st ks n (l.drop ks.length)with | some x,some r=>some (x::r) | _,_=>none
def oo(st:St)(size:Nat)(l:List AV)(q:Nat×Operand):Option (List AV):=match st.get q.2 with
 | some tv=>(match tv.dw with
   | some (_,p)=>bif Nat.beq p.length size&&p.all st.live&&Nat.ble (q.1 * size+p.length) l.length then some (putAt l (q.1 * size) p)else none
   | none=>none)
 | none=>none
def qT(a:AV):Bool:=match a with | .nil=>true | .d k _=> !tB k | .lb _=>true | _=>false
def rM{α:Type}(n:Nat)(l:List α):List α:=match n with | 0=>[] | n+1=>l++rM n l
def asc(n:Int):S8:=[UInt8.ofNat n.toNat]
def L3(n:Int):Bool:=cl 0 n&&cl n 127
def strOf(xs:List (Tl [.int .u8])):S8:=xs.map fun x=>UInt8.ofNat (Int.toNat x.1)
def bytesOf(s:S8):List (Tl [.int .u8]):=s.map fun c=>((c.toNat:Int),())
def St.getAll(st:St):List Operand->Option (List TV)
 | []=>some []
 | x::l=>match st.get x,st.getAll l with | some a,some r=>some (a::r) | _,_=>none
def lists:List TV->Option (List (Bool×List AV))
 | []=>some []
 | x::l=>match x.dw,lists l with | some p,some r=>some (p::r) | _,_=>none
def UT(a b:Int):Int:=if b<a then b else a
def Jd(a b:Int):Int:=if a<b then b else a
def St.side(st:St)(c:Operand)(want:Bool)(o:Operand):Option ((k:K)×T k):=match st.get o,c with
 | some (.v a),_=>bif a.bV then st.read a else none
 | some (.may t w _ false [a]),.tmp t'=>bif Nat.beq t t'&&cw w want&&a.bV then st.read a else none
 | _,_=>none
def St.rQ(st:St)(dst:Nat)(s:Sc):List TV->Tr (TV×Option Rt)
 | [.v a]=>bif a.bV then Tr.cu (st.bI (.sl s.e s.ks) a) fun x=> .need (Nat.ble ((aW x).length * s.HV) bQ) (.ret (.bc dst 0 0 0 s.e s.ks (aW x),some ⟨false,[⟨0,0,.own (.sl s.e s.ks) ([]:List (Tl s.ks))⟩]⟩))else .fail
 | _=> .fail
def yU(E:En)(st:St)(dst:Nat)(op:Op):Tr (TV×Option Rt):=
 let v (t:Tr AV):Tr (TV×Option Rt):=t.bind fun a=> .ret (.v a,none)
 match op with
 | .move x=>Tr.cu (st.get x) fun tv=> .ret (tv,none)
 | .assign x=>Tr.cu (st.get x) fun tv=> .ret (tv,none)
 | .pick c a b=>(match st.get c with
   | some (.v (.lb true))=>Tr.cu (st.get a) fun tv=> .ret (tv,none)
   | some (.v (.lb false))=>Tr.cu (st.get b) fun tv=> .ret (tv,none)
   | some (.v (.d .bool g))=>
     (match st.side c true a,st.side c false b with
     | some ⟨k,x⟩,some ⟨k',y⟩=>(match gJ k' k y with | some y'=> .ret (.v (.d k (cond g x y')),none) | none=> .fail)
     | _,_=> .fail)
   | _=> .fail)
 | .alloc t=>Tr.cu (E.ti t) fun ti=> .ret (.v (.ptr dst 0),some ⟨true,ti.ks.map pF⟩)
 | .box t x=>Tr.cu (E.ti t) fun ti=>Tr.cu (st.get x) fun tv=>Tr.cu tv.dw fun p=>bif Nat.beq p.2.length ti.ks.length then Tr.cu (st.mM p.2) fun l=> .ret (.v (.ptr dst 0),some ⟨true,l⟩)else .fail
 | .build t parts=>Tr.cu (E.ti t) fun ti=>bif !ti.agg then .fail else Tr.cu (kY (vu E st ti.pV) (ti.ks.map nG) parts.toList) fun l=> .ret (.agg l,none)
 | .buildSlice t n parts=>Tr.cu (E.ti t) fun ti=>Tr.cu (E.sl t) fun te=>Tr.cu (kY (oo st te.ks.length) (rM n (te.ks.map nG)) parts.toList) fun l=>bif Nat.ble (n * te.ks.length) 1000&&Nat.ble n 1000 then
    Tr.cu (chunks st te.ks n l) fun xs=>bif (flat te.ks||l.all qT)&& !(jb E.pins 999999&&l.all AV.bV)
     then .ret (.v (.ref dst 0 0),some ⟨false,[⟨0,0,.own (.sl ti.elem te.ks) xs⟩]⟩)
     else bif l.all AV.bV then .ret (.v (.d (.sl ti.elem te.ks) xs),none)else .ret (.v (.qO dst n),some ⟨true,l.map fun a=>⟨0,0,.av a⟩⟩)
    else .fail
 | .load t a=>Tr.cu (E.ti t) fun ti=>Tr.cu (st.get a) fun tv=>Tr.cu tv.Ii fun a=>Tr.cu (st.load ti.ks.length a) fun l=>Tr.cu (iH ti.agg l) fun tv=> .ret (tv,none)
 | .nilCheck x=>Tr.cu (st.get x) fun tv=>(match tv with
   | .v (.ptr r j)=> .ret (.v (.ptr r j),none)
   | .v (.pel r j s i c)=>bif st.live (.pel r j s i c)then .ret (.v (.pel r j s i c),none)else .fail
   | _=> .fail)
 | .binOp op t x y _=>Tr.cu (st.get x) fun a=>Tr.cu (st.get y) fun b=>v (acS (E.bool t) op a b)
 | .unOp op _ x=>Tr.cu (st.get x) fun a=>v (match op with | .not=>ads a | _=>unT op a)
 | .convert s d x=>Tr.cu (E.ti s) fun ts=>Tr.cu (E.ti d) fun td=>Tr.cu (st.get x) fun tv=>bif ts.agg||td.agg then .fail else (match ts.ks,td.ks with
   | [.int _],[.int k]=>Tr.cu tv.int? fun p=>v (.ret (.d (.int k) (k.wrap p.2)))
   | [.int _],[.str]=>Tr.cu tv.int? fun p=> .need (cl 0 p.2&&cl p.2 127) (v (.ret (.d .str (asc p.2))))
   | [.str],[.sl e [.int .u8]]=>bif !E.u8 td.elem then .fail else Tr.cu tv.pr fun s=> .ret (.v (.ref dst 0 0),some ⟨false,[⟨0,0,.own (.sl e [.int .u8]) (bytesOf s)⟩]⟩)
   | [.sl e [.int .u8]],[.str]=>bif !E.u8 ts.elem then .fail else Tr.cu tv.Ii fun a=>Tr.cu (st.bI (.sl e [.int .u8]) a) fun xs=>v (.ret (.d .str (strOf (aW xs))))
   | [.str],[.str]=>Tr.cu tv.pr fun s=>v (.ret (.d .str s))
   | _,_=> .fail)
 | .makeSlice t (.tmp n) (.tmp n')=>Tr.cu (E.ti t) fun ti=>Tr.cu (E.sl t) fun te=>Tr.cu (st.tv n) fun tv=>Tr.cu tv.int? fun p=>bif Nat.beq n n' then
    .need (cl 0 p.2&&(cl (p.2 * te.bytes) bQ&&Nat.blt 0 te.bytes)) (.ret (.v (.ref dst 0 0),some ⟨false,[⟨0,0,.own (.sl ti.elem te.ks) (List.replicate p.2.toNat (jv te.ks))⟩]⟩))else .fail
 | .makeSlice t (.const (.int _ n)) (.const (.int _ n'))=>Tr.cu (E.ti t) fun ti=>Tr.cu (E.sl t) fun te=>bif n == n'&&(cl 0 n&&(cl (n * te.bytes) bQ&&Nat.blt 0 te.bytes))then
    .ret (.v (.ref dst 0 0),some ⟨false,[⟨0,0,.own (.sl ti.elem te.ks) (List.replicate n.toNat (jv te.ks))⟩]⟩)else .fail
 | .slice t x lo hi none=>Tr.cu (st.get x) fun tv=>(match E.sl t with
   | some te=>v (st.qJ te.ks.length tv lo hi)
   | none=>bif E.str t then v (st.qK tv lo hi)else .fail)
 | .fieldAddr t x f=>Tr.cu (E.ti t) fun ti=>Tr.cu (NX ti.pV f) fun p=>Tr.cu (st.get x) fun tv=>Tr.cu tv.Ii fun a=>bif ti.agg&&st.live a then Tr.cu (ze p.1 a) fun a=> .ret (.v a,none)else .fail
 | .field t x f=>Tr.cu (E.ti t) fun ti=>Tr.cu (NX ti.pV f) fun p=>Tr.cu (E.ti p.2) fun tf=>Tr.cu (st.get x) fun tv=>(match tv with
   | .agg l=>bif ti.agg&&Nat.ble (p.1+tf.ks.length) l.length then Tr.cu (iH tf.agg (tj l p.1 tf.ks.length)) fun tv=> .ret (tv,none)else .fail
   | _=> .fail)
 | .indexAddr t x i=>Tr.cu (E.sl t) fun te=>Tr.cu (st.get x) fun tv=>Tr.cu (st.get i) fun ti=>Tr.cu ti.int? fun p=>v (st.indexAddr te.ks.length tv p.2)
 | .index t x i=>bif !E.str t then .fail else Tr.cu (st.get x) fun tv=>Tr.cu (st.get i) fun ti=>Tr.cu ti.int? fun p=>Tr.cu tv.pr fun s=> .need (pQ p.2 s.length) (v (.ret (.d (.int .u8) (FT s p.2.toNat))))
 | .extract x i=>Tr.cu (st.get x) fun tv=>(match tv with
   | .tup l=>(match l[i]? with
     | some (g,l)=>Tr.cu (iH g l) fun tv=> .ret (tv,none)
     | none=> .fail)
   | _=> .fail)
 | .makeFunc (.func f) first cR=>bif Nat.beq first.size 0 then Tr.cu (st.getAll cR.toList) fun l=>Tr.cu (lists l) fun l=> .ret (.fn f l,none)else .fail
 | .call c=>(match c.callee with
   | .builtin .len=>(match c.args.toList,c.argTypes.toList with | [x],t::_=>bif E.str t then Tr.cu (st.get x) fun tv=>Tr.cu (st.len true tv) fun n=>v (.ret (.d (.int .i64) n))else Tr.cu (E.sl t) fun _=>Tr.cu (st.get x) fun tv=>Tr.cu (st.len false tv) fun n=>v (.ret (.d (.int .i64) n)) | _,_=> .fail)
   | .builtin .cap=>(match c.args.toList,c.argTypes.toList with | [x],t::_=>Tr.cu (E.sl t) fun _=>Tr.cu (st.get x) fun tv=>bif fX tv then v (.ret (.d (.int .i64) (0:Int)))else .fail | _,_=> .fail)
   | .builtin .min=>(match c.args.toList with | [x,y]=>Tr.cu (st.get x) fun a=>Tr.cu (st.get y) fun b=>Tr.cu a.int? fun p=>Tr.cu b.int? fun q=>bif p.1 == q.1 then v (.ret (.d (.int p.1) (UT p.2 q.2)))else .fail | _=> .fail)
   | .builtin .max=>(match c.args.toList with | [x,y]=>Tr.cu (st.get x) fun a=>Tr.cu (st.get y) fun b=>Tr.cu a.int? fun p=>Tr.cu b.int? fun q=>bif p.1 == q.1 then v (.ret (.d (.int p.1) (Jd p.2 q.2)))else .fail | _=> .fail)
   | .value f=>Tr.cu (st.get f) fun tf=>(match tf with
     | .fn g cR=>Tr.cu (st.getAll c.args.toList) fun l=>(match E.gc g,cR with | some s,[]=>st.rQ dst s l | _,_=>st.xG dst (E.ga g) (l++cR.map fun p=>bif p.1 then .agg p.2 else (match p.2 with | [a]=> .v a | _=> .agg p.2)))
     | _=> .fail)
   | _=> .fail)
 | _=> .fail
def St.ba(st:St)(dst:Nat)(p:TV×Option Rt):St:=⟨(dst,p.1)::st.tm,match p.2 with | some R=>(dst,R)::st.rt | none=>st.rt⟩
def St.free(st:St)(dst:Nat):Bool:=match look st.rt dst with | none=>true | some _=>false
def St.bump(st:St)(r j:Nat)(v:RV):Option St:=match st.cell r j with | some c=>some (st.setCell r j ⟨c.s+1,c.m+1,v⟩) | none=>none
def St.dp(st:St)(r:Nat):Nat->List K->List AV->Option St
 | _,[],[]=>some st
 | j,k::ks,a::l=>match a with
   | .ref r2 j2 s2=>bif Nat.beq r r2&&Nat.beq j j2 then (match st.cell r j with | some c=>bif Nat.beq c.s s2 then st.dp r (j+1) ks l else none | none=>none)
     else (match st.cU k (.ref r2 j2 s2)with | some (ay,x)=>(match ay.bump r j (.own k x)with | some ay=>ay.dp r (j+1) ks l | none=>none) | none=>none)
   | .cut r2 j2 s2 n=>(match st.cU k (.cut r2 j2 s2 n)with | some (ay,x)=>(match ay.bump r j (.own k x)with | some ay=>ay.dp r (j+1) ks l | none=>none) | none=>none)
   | .nil=>(match k with
     | .sl e bZ=>(match st.bump r j (.own (.sl e bZ) ([]:List (Tl bZ)))with | some ay=>ay.dp r (j+1) ks l | none=>none)
     | _=>none)
   | a=>(match st.kG a with | some c=>(match st.bump r j c.v with | some ay=>ay.dp r (j+1) ks l | none=>none) | none=>none)
 | _,_,_=>none
def sY(r j s m c:Nat):AV->Bool
 | .pref r' j' s' m' _ q=>Nat.beq r' r&&(Nat.beq j' j&&(Nat.beq s' s&&(Nat.beq m' m&&Nat.beq q c)))
 | _=>false
def St.oK(st:St)(r j s m c:Nat)(a:AV):Bool:=sY r j s m c a&&(match st.cell r j with | some ⟨s',_,.own (.sl _ _) _⟩=>Nat.beq s' s | _=>false)
def o5(r j s m i:Nat):Nat->List AV->Bool
 | _,[]=>true
 | c,a::l=>bif sY r j s m c a then (match a with | .pref _ _ _ _ i' _=>Nat.beq i' i&&o5 r j s m i (c+1) l | _=>o5 r j s m i (c+1) l)else o5 r j s m i (c+1) l
def St.Hy(st:St)(r j:Nat):Nat:=match st.cell r j with | some c=>c.m | none=>0
def St.LY(st:St)(a:AV)(l:List AV):Bool:=match a with | .pel r j s i c=>o5 r j s (st.Hy r j) i c l | _=>true
def St.kJ(st:St)(r j s i m0:Nat):Nat->List K->List AV->Option St
 | _,[],[]=>some st
 | c,k::bZ,a::l=>bif st.oK r j s m0 c a then st.kJ r j s i m0 (c+1) bZ l else
   match (match k with
    | .sl _ _=>st.cU k a
    | _=>(match st.bI k a with | some x=>bif a.bV then some (st,x)else none | none=>none))with
   | some (ay,x)=>(match ay.cell r j with
     | some ⟨s',m,.own (.sl e ks) xs⟩=>bif Nat.beq s' s then (match setAt ks (hE xs i) c k x with
       | some y=>(ay.setCell r j ⟨s',m+1,.own (.sl e ks) (List.set (aW xs) i y)⟩).kJ r j s i m0 (c+1) bZ l
       | none=>none)else none
     | _=>none)
   | none=>none
 | _,_,_=>none
def St.gZ(st:St)(r j s i m0:Nat)(gn:List K)(z0:Tl gn):Nat->(ks:List K)->List AV->Option (St×Tl ks)
 | _,[],[]=>some (st,())
 | c,k::bZ,a::l=>bif st.oK r j s m0 c a then (match cellAt gn z0 c with
    | some z=>(match gJ z.1 k z.2,st.gZ r j s i m0 gn z0 (c+1) bZ l with | some x,some q=>some (q.1,(x,q.2)) | _,_=>none)
    | none=>none)else
   match (match k with
    | .sl _ _=>st.cU k a
    | _=>(match st.bI k a with | some x=>bif a.bV then some (st,x)else none | none=>none))with
   | some (ay,x)=>(match ay.cell r j with
     | some ⟨s',m,.own (.sl e ks) xs⟩=>bif Nat.beq s' s&&Nat.beq m (st.Hy r j)then (match setAt ks (hE xs i) c k x with
       | some y=>(match (ay.setCell r j ⟨s',m+1,.own (.sl e ks) (List.set (aW xs) i y)⟩).gZ r j s i m0 gn z0 (c+1) bZ l with | some q=>some (q.1,(x,q.2)) | none=>none)
       | none=>none)else none
     | _=>none)
   | none=>none
 | _,_,_=>none
def St.xA(st:St)(r j s i:Nat)(ks:List K)(l:List AV):Option St:=match st.cell r j with
 | some ⟨_,m,.own (.sl e gn) xs⟩=>(match st.gZ r j s i m gn (hE xs i) 0 ks l with
   | some q=>(match By ks gn q.2,q.1.cell r j with
     | some y,some c1=>bif Nat.blt m c1.m then some (q.1.setCell r j ⟨c1.s,c1.m,.own (.sl e gn) (List.set (aW xs) i y)⟩)else none
     | _,_=>none)
   | none=>none)
 | _=>none
def St.store(st:St)(ks:List K)(l:List AV):AV->Option St
 | .ptr r j=>st.dp r j ks l
 | .pel r j s i c=>bif st.live (.pel r j s i c)then (bif Nat.beq c 0&&Nat.ble 8 l.length then st.xA r j s i ks l else st.kJ r j s i (st.Hy r j) c ks l)else none
 | _=>none
def AZ{e:TypeId}{ks:List K}(o:Option (T (.sl e ks))):Bool:=match o with | some x=>(match aW x with | []=>true | _=>false) | none=>false
def jV(st:St)(fresh:Bool):(ks:List K)->List AV->Option (St×Tl ks)
 | [],[]=>some (st,())
 | .sl e bZ::ks,a::l=>(match (bif fresh then st.cU (.sl e bZ) a else bif a.bV||AZ (st.bI (.sl e bZ) a)then (match st.bI (.sl e bZ) a with | some x=>some (st,x) | none=>none)else none)with
   | some (ay,x)=>(match jV ay fresh ks l with | some y=>some (y.1,(x,y.2)) | none=>none)
   | none=>none)
 | k::ks,a::l=>(match st.bI k a,a.bV,jV st fresh ks l with | some x,true,some y=>some (y.1,(x,y.2)) | _,_,_=>none)
 | _,_=>none
def St.source(st:St)(k:K)(ks:List K)(a:AV):Option (St×T k):=
 bif flat ks then (match st.bI k a with | some x=>some (st,x) | none=>none)else st.cU k a
def St.news(st:St)(e:Nat)(ks:List K):TV->Option (St×List (Tl ks))
 | .v (.d .str s)=>match gJ (.sl e [.int .u8]) (.sl e ks) (bytesOf s)with | some z=>some (st,aW z) | none=>none
 | .v (.qO r n)=>bif Nat.beq n 1 then (match look st.rt r with
   | some ⟨true,l⟩=>(match jV st true ks (l.map wT)with | some (ay,x)=>some (ay,[x]) | none=>none)
   | _=>none)else none
 | .v b=>match st.source (.sl e ks) ks b with | some (ay,z)=>some (ay,aW z) | none=>none
 | _=>none
def St.append(st:St)(dst:Nat)(e:Nat)(te:TI)(x y:TV):Tr St:=
 Tr.cu x.Ii fun a=>Tr.cu (st.cU (.sl e te.ks) a) fun p=>Tr.cu (p.1.news e te.ks y) fun q=>
  bif q.1.free dst&&Nat.blt 0 te.bytes then
   .need (Nat.ble (((aW p.2).length+q.2.length) * te.bytes) bQ)
    (.ret (q.1.ba dst (.v (.ref dst 0 0),some ⟨false,[⟨0,0,.own (.sl e te.ks) (cat te.ks (aW p.2) q.2)⟩]⟩)))
  else .fail
def ahL(l:List RC):Bool:=l.any fun c=>match c.v with | .av (.d (.sl _ _) _)=>true | _=>false
def St.S1(st:St)(ks:List K):TV->TV->Bool
 | .bc _ _ _ _ _ _ _,_=>true
 | _,.v (.qO r _)=>(match look st.rt r with | some R=>ahL R.cells | none=>false)
 | _,.v (.d (.sl _ _) _)=> !flat ks
 | _,_=>false
def St.Ht(st:St)(e:TypeId)(ks:List K):TV->Option (St×T (.sl e ks))
 | .bc r j s m e' bZ x=>(match st.cell r j with
   | some c=>bif Nat.beq c.s s&&Nat.beq c.m m then (match gJ (.sl e' bZ) (.sl e ks) x with | some y=>some (st.setCell r j ⟨c.s+1,c.m+1,.av .dead⟩,y) | none=>none)else none
   | none=>none)
 | .v a=>st.cU (.sl e ks) a
 | _=>none
def St.F3(st:St)(e:TypeId)(ks:List K):TV->Option (List (Tl ks))
 | .v (.qO r n)=>bif Nat.beq n 1 then (match look st.rt r with
   | some ⟨true,l⟩=>bif l.all oZ then (match st.readAll ks (l.map wT)with | some x=>some [x] | none=>none)else none
   | _=>none)else none
 | .v (.d k x)=>(match gJ k (.sl e ks) x with | some z=>some (aW z) | none=>none)
 | _=>none
def St.oX(st:St)(dst:Nat)(e:Nat)(te:TI)(x y:TV):Tr St:=
 Tr.cu (st.Ht e te.ks x) fun p=>Tr.cu (p.1.F3 e te.ks y) fun ys=>
  bif p.1.free dst&&Nat.blt 0 te.bytes then
   .need (Nat.ble (((aW p.2).length+ys.length) * te.bytes) bQ)
    (.ret (p.1.ba dst (.bc dst 0 0 0 e te.ks (cat te.ks (aW p.2) ys),some ⟨false,[⟨0,0,.own (.sl e te.ks) ([]:List (Tl te.ks))⟩]⟩)))
  else .fail
def St.pK(st:St)(dst:Nat)(e:Nat)(te:TI)(n:Int):Tr St:=
 bif st.free dst&&Nat.blt 0 te.bytes then .need (cl 0 n&&cl (n * te.bytes) bQ) (.ret (st.ba dst (.v (.ref dst 0 0),some ⟨false,[⟨0,0,.own (.sl e te.ks) (List.replicate n.toNat (jv te.ks))⟩]⟩)))else .fail
def St.ic(st:St):(ps:List PK)->List TV->Option (St×PT ps)
 | [],[]=>some (st,())
 | .c g ks::ps,tv::r=>match tv.dw with
   | some (g',l)=>bif cw g g'&&l.all AV.bV then (match st.readAll ks l,st.ic ps r with | some x,some y=>some (y.1,(x,y.2)) | _,_=>none)else none
   | none=>none
 | .fn f cs::ps,.fn f' cR::r=>bif Nat.beq f f' then (match st.bR true cs cR,st.ic ps r with | some x,some y=>some (y.1,(x,y.2)) | _,_=>none)else none
 | .mv k::ps,.v a::r=>match st.cU k a with | some (ay,x)=>(match ay.ic ps r with | some y=>some (y.1,(x,y.2)) | none=>none) | none=>none
 | _,_=>none
def St.xH(st:St)(dst:Nat):List Su->List TV->Tr St
 | [],_=> .fail
 | s::r,l=>bif jz s.ps|| !s.fresh then st.xH dst r l else (match st.ic s.ps l with
    | some (ay,x)=>(match s.f with
      | .inl f=> .call (f x) fun y=>Tr.cu (fc dst s y.2) fun p=>bif ay.free dst then .ret (ay.ba dst p)else .fail
      | .inr g=>Tr.cu (fc dst s (g x)) fun p=>bif ay.free dst then .ret (ay.ba dst p)else .fail)
    | none=>st.xH dst r l)
structure Ln where
 r:Nat
 j:Nat
 pl:Option (Nat×Nat)
def St.FF(st:St)(k:K):AV->Option (Ln×T k)
 | .ref r j s=>match st.cell r j with
   | some ⟨s',_,.own k' x⟩=>bif Nat.beq s' s then (match gJ k' k x with | some y=>some (⟨r,j,none⟩,y) | none=>none)else none
   | _=>none
 | .pref r j s m i c=>match st.cell r j with
   | some ⟨s',m',.own (.sl _ ks) x⟩=>bif Nat.beq s' s&&Nat.beq m' m then (match cellAt ks (hE x i) c with
     | some ⟨k',y⟩=>(match gJ k' k y with | some y=>some (⟨r,j,some (i,c)⟩,y) | none=>none)
     | none=>none)else none
   | _=>none
 | _=>none
def St.qo(st:St):(ks:List K)->List AV->Option (List Ln×Tl ks)
 | [],[]=>some ([],())
 | .sl e bZ::ks,a::l=>(match st.FF (.sl e bZ) a,st.qo ks l with | some p,some q=>some (p.1::q.1,(p.2,q.2)) | _,_=>none)
 | k::ks,a::l=>(match st.bI k a,a.bV,st.qo ks l with | some x,true,some q=>some (q.1,(x,q.2)) | _,_,_=>none)
 | _,_=>none
def St.cy(st:St):(ps:List PK)->List TV->Option (List Ln×PT ps)
 | [],[]=>some ([],())
 | .c g ks::ps,tv::r=>match tv.dw with
   | some (g',l)=>bif cw g g'&&l.all AV.bV then (match st.readAll ks l,st.cy ps r with | some x,some y=>some (y.1,(x,y.2)) | _,_=>none)else none
   | none=>none
 | .fn f cs::ps,.fn f' cR::r=>bif Nat.beq f f' then (match st.bR true cs cR,st.cy ps r with | some x,some y=>some (y.1,(x,y.2)) | _,_=>none)else none
 | .io g ks::ps,tv::r=>match tv.dw with
   | some (g',l)=>bif cw g g' then (match st.qo ks l,st.cy ps r with | some p,some q=>some (p.1++q.1,(p.2,q.2)) | _,_=>none)else none
   | none=>none
 | _,_=>none
def K4(r j:Nat):List Ln->Bool
 | []=>false
 | n::l=>(Nat.beq n.r r&&Nat.beq n.j j)||K4 r j l
def noTwo:List Ln->Bool
 | []=>true
 | n::l=> !K4 n.r n.j l&&noTwo l
def z8:(ks:List K)->Tl ks->List ((k:K)×T k)
 | [],_=>[]
 | .sl e bZ::ks,x=>⟨.sl e bZ,x.1⟩::z8 ks x.2
 | _::ks,x=>z8 ks x.2
def lD:(ps:List PK)->uy ps->List ((k:K)×T k)
 | [],_=>[]
 | .io _ ks::ps,y=>z8 ks y.1++lD ps y.2
 | .c _ _::ps,y=>lD ps y
 | .pt _::ps,y=>lD ps y
 | .nil::ps,y=>lD ps y
 | .fn _ _::ps,y=>lD ps y
 | .mv _::ps,y=>lD ps y
 | .pw _::ps,y=>lD ps y.2
def St.D3(st:St)(n:Ln)(y:(k:K)×T k):Option RC:=match st.cell n.r n.j,n.pl with
 | some ⟨s,m,_⟩,none=>some ⟨s,m+1,.own y.1 y.2⟩
 | some ⟨s,m,.own (.sl e ks) x⟩,some (i,c)=>(match setAt ks (hE x i) c y.1 y.2 with | some z=>some ⟨s,m+1,.own (.sl e ks) (List.set (aW x) i z)⟩ | none=>none)
 | _,_=>none
def St.uZ(st:St):List Ln->List ((k:K)×T k)->Option (List (Nat×Nat×RC))
 | [],[]=>some []
 | n::l,y::r=>(match st.D3 n y,st.uZ l r with | some c,some q=>some ((n.r,n.j,c)::q) | _,_=>none)
 | _,_=>none
def St.setCells(st:St):List (Nat×Nat×RC)->St
 | []=>st
 | (r,j,c)::l=>(st.setCells l).setCell r j c
def St.FA(st:St)(dst:Option Nat)(tv:TV):St:=match dst with | some d=>st.ba d (tv,none) | none=>st
def St.qD(st:St)(dst:Option Nat):List Su->List TV->Tr St
 | [],_=> .fail
 | s::r,l=>bif lJ s.rs|| !s.fresh then st.qD dst r l else (match st.cy s.ps l with
   | some (ns,x)=>(match s.f with
     | .inl f=>bif noTwo ns then .call (f x) fun y=>Tr.cu (js (tC 0 true s.rs y.2 0)) fun tv=>Tr.cu (st.uZ ns (lD s.ps y.1)) fun q=> .ret ((st.setCells q).FA dst tv)else .fail
     | .inr _=> .fail)
   | none=>st.qD dst r l)
def St.cG(st:St):(ps:List PK)->List TV->Option (Option (Nat×List RC)×PT ps)
 | [],[]=>some (none,())
 | .c g ks::ps,tv::r=>match tv.dw with
   | some (g',l)=>bif cw g g'&&l.all AV.bV then (match st.readAll ks l,st.cG ps r with | some x,some y=>some (y.1,(x,y.2)) | _,_=>none)else none
   | none=>none
 | .fn f cs::ps,.fn f' cR::r=>bif Nat.beq f f' then (match st.bR false cs cR,st.cG ps r with | some x,some y=>some (y.1,(x,y.2)) | _,_=>none)else none
 | .pw cs::ps,.v (.ptr q 0)::r=>match look st.rt q with
   | some ⟨true,l⟩=>bif Nat.ble l.length 200000 then (match eS st cs l,st.cG ps r with | some x,some (none,y)=>some (some (q,l),(x,y)) | _,_=>none)else none
   | _=>none
 | _,_=>none
def jL:(ps:List PK)->uy ps->List RC
 | [],_=>[]
 | .pw cs::_,y=>cf cs y.1
 | .io _ _::ps,y=>jL ps y.2
 | .c _ _::ps,y=>jL ps y
 | .pt _::ps,y=>jL ps y
 | .nil::ps,y=>jL ps y
 | .fn _ _::ps,y=>jL ps y
 | .mv _::ps,y=>jL ps y
def kt:List RC->List RC->List RC
 | c::l,c'::r=>⟨c.s+1,c.m+1,c'.v⟩::kt l r
 | _,_=>[]
def St.wV(st:St)(dst:Option Nat):List Su->List TV->Tr St
 | [],_=> .fail
 | s::r,l=>match st.cG s.ps l with
   | some (some (q,l0),x)=>(match s.f with
     | .inl f=> .call (f x) fun y=>(match dst with
       | none=> .ret ⟨st.tm,(q,⟨true,kt l0 (jL s.ps y.1)⟩)::st.rt⟩
       | some d=>Tr.cu (fc d s y.2) fun p=>bif !(s.fresh&&lJ s.rs)||St.free ⟨st.tm,(q,⟨true,kt l0 (jL s.ps y.1)⟩)::st.rt⟩ d then .ret (St.ba ⟨st.tm,(q,⟨true,kt l0 (jL s.ps y.1)⟩)::st.rt⟩ d p)else .fail)
     | .inr _=> .fail)
   | _=>st.wV dst r l
def Zs:List PK->Bool
 | []=>false
 | .pw _::_=>true
 | _::ps=>Zs ps
def Sl:List Su->Bool
 | []=>false
 | s::r=>Zs s.ps||Sl r
def nh:List PK->Bool
 | []=>false
 | .io _ _::_=>true
 | .pw _::_=>true
 | _::ps=>nh ps
def Qz:List Su->Bool
 | []=>false
 | s::r=>nh s.ps||Qz r
def St.rebind(st:St)(x:Operand)(d:Nat)(g:Bool)(n:Nat):St:=match x with
 | .tmp t=>bif Nat.beq t d then st else (match st.dV d 0 n with | some l=>⟨(t,fP g l)::st.tm,st.rt⟩ | none=>st)
 | _=>st
def Cc(E:En)(st:St)(dst:Option Nat)(op:Op):Tr St:=match op,dst with
 | .store t a x,none=>Tr.cu (E.ti t) fun ti=>Tr.cu (st.get a) fun ta=>Tr.cu ta.Ii fun a=>Tr.cu (st.get x) fun tx=>Tr.cu tx.dw fun p=>bif p.2.all st.live&&Nat.beq p.2.length ti.ks.length then .need (st.LY a p.2) (Tr.cu (st.store ti.ks p.2 a) .ret)else .fail
 | .assign x,some d=>Tr.cu (st.get x) fun tv=> .ret (st.ba d (tv,none))
 | .move x,some d=>Tr.cu (st.get x) fun tv=> .ret (st.ba d (tv,none))
 | .box t x,some d=>Tr.cu (E.ti t) fun ti=>Tr.cu (st.get x) fun tv=>Tr.cu tv.dw fun p=>bif st.free d&&p.2.all st.live&&Nat.beq p.2.length ti.ks.length then
    Tr.cu ((st.ba d (.v (.ptr d 0),some ⟨true,ti.ks.map pF⟩)).dp d 0 ti.ks p.2) fun ay=> .ret (ay.rebind x d p.1 ti.ks.length)else .fail
 | .call c,d=>(match c.callee,c.args.toList with
   | .builtin .append,[x,y]=>(match d,c.argTypes.toList with
     | some d,t::t2::_=>Tr.cu (E.ti t) fun ti=>Tr.cu (E.sl t) fun te=>Tr.cu (st.get x) fun a=>Tr.cu (st.get y) fun b=>bif E.str t2||(E.sl t2).isSome then (bif st.S1 te.ks a b then st.oX d ti.elem te a b else st.append d ti.elem te a b)else (bif E.i64 t2&&fX a then Tr.cu b.int? fun p=>st.pK d ti.elem te p.2 else .fail)
     | _,_=> .fail)
   | .value f,l=>Tr.cu (st.get f) fun tf=>(match tf with
     | .fn g cR=>Tr.cu (st.getAll l) fun l=>bif Sl (E.ga g)then st.wV d (E.ga g) (l++cR.map fun p=>bif p.1 then .agg p.2 else (match p.2 with | [a]=> .v a | _=> .agg p.2))else bif Qz (E.ga g)then st.qD d (E.ga g) (l++cR.map fun p=>bif p.1 then .agg p.2 else (match p.2 with | [a]=> .v a | _=> .agg p.2))else (match d with | some d=>st.xH d (E.ga g) (l++cR.map fun p=>bif p.1 then .agg p.2 else (match p.2 with | [a]=> .v a | _=> .agg p.2)) | none=> .fail)
     | _=> .fail)
   | _,_=> .fail)
 | _,_=> .fail
def St.under(st:St)(g:Nat)(want:Bool):St:=⟨st.tm.map fun p=>match p.2 with | .may t w _ g' l=>bif Nat.beq t g&&cw w want then (p.1,fP g' l)else p | _=>p,st.rt⟩
def my(ops:List Oper)(i:Nat):Option Nat:=match ops[i]? with | some o=>o.dst | none=>none
def TU(ops:List Oper)(i:Nat):Bool:=ops.any fun o=>match o.guard with | some (j,_)=>Nat.beq j i | none=>false
def Hk(g:Nat)(want y:Bool):Tr (TV×Option Rt)->Option TV
 | .ret (.v a,none)=>some (.may g want y false [a])
 | .ret (.agg l,none)=>some (.may g want y true l)
 | _=>none
def St.TO(st:St)(t:Nat)(x:Bool):St:=⟨(t,.v (.lb x))::st.tm,st.rt⟩
def St.sure(st:St):St:=⟨st.tm.filter fun p=>match p.2 with | .may _ _ _ _ _=>false | _=>true,st.rt⟩
def bO(ops:List Oper):Bool:=ops.any fun o=>match o.guard with | some _=>true | none=>false
def lz(hg:Bool)(st:St):St:=bif hg then st.sure else st
def eV(e:Edge):Bool:=Region.binds .any e
def bM:List Oper->List Nat->List Nat
 | [],acc=>acc
 | o::r,acc=>bM r (acc++[o.after.toList.foldl (fun s e=>bif eV e then s ||| 2 ^ e.on ||| acc.getD e.on 0 else s) 0])
def kh:List Oper->Nat->Bool
 | [],_=>true
 | o::r,i=>o.after.toList.all (fun e=> !eV e||Nat.blt e.on i)&&kh r (i+1)
abbrev Bd:=List (Nat×Nat×(TV×Option Rt))
def view(base:St)(mask:Nat):Bd->St
 | []=>base
 | (i,t,p)::r=>bif mask.testBit i then (view base mask r).ba t p else view base mask r
def aG(base:St):Bd->St
 | []=>base
 | (_,t,p)::r=>(aG base r).ba t p
def cW:Nat:=2 ^ 200-1
def j6(ns:List Nat)(i:Nat):Bool:=(List.range i).all (fun j=>(ns.getD i 0).testBit j)&&(List.range (ns.length-i-1)).all (fun j=>(ns.getD (i+1+j) 0).testBit i)
def ib(g:Nat)(x:Bool):Bd->Bd
 | []=>[]
 | (i,t,p)::r=>bif Nat.beq t g then (i,t,(.v (.lb x),p.2))::r else (i,t,p)::ib g x r
def lL(g:Nat):Bd->Bool
 | []=>false
 | (_,t,_)::r=>Nat.beq t g||lL g r
def pR(st:St)(d:Nat):Bool:=match look st.tm d with | none=>true | some _=>false
def qx:Op->Bool | .assign _=>true | _=>false
def Ai(E:En)(mask:Nat)(o:Oper)(d:Nat)(base:St)(bs:Bd)(lax:Bool):Tr (TV×Option Rt):=
 bif qx o.op&& !lax then .fail else bif E.dB d&&pR base d&&base.free d&& !lL d bs then yU E (view base mask bs) d o.op else .fail
def yc(E:En):Option Nat->Bool | some d=>E.dB d | none=>true
def fS(E:En)(dr:Bool)(ops:List Oper)(ns:List Nat):List Oper->Nat->St->Bd->Tr St
 | [],_,base,bs=> .ret (lz (bO ops) (aG base bs))
 | o::r,i,base,bs=>match o.guard with
   | none=>(match o.dst with
     | some d=>(match Ai E (ns.getD i cW) o d base bs (dr&& !j6 ns i)with
       | .fail=>bif (!dr||j6 ns i)&&yc E o.dst then (Cc E (lz (bO ops) (aG base bs)) o.dst o.op).bind fun ay=>fS E dr ops ns r (i+1) ay []else .fail
       | t=>t.bind fun p=>fS E dr ops ns r (i+1) base ((i,d,p)::bs))
     | none=>bif !dr||j6 ns i then (Cc E (lz (bO ops) (aG base bs)) none o.op).bind fun ay=>fS E dr ops ns r (i+1) ay []else .fail)
   | some (j,want)=>match my ops j,o.dst with
     | some g,some d=>bif E.dB d&&pR base d&&base.free d&& !lL d bs&& !qx o.op then (match (view base (ns.getD i cW) bs).tv g with
       | some (.v (.lb x))=>bif cw x want then (yU E (view base (ns.getD i cW) bs) d o.op).bind fun p=>fS E dr ops ns r (i+1) base ((i,d,p)::bs)
          else fS E dr ops ns r (i+1) base ((i,d,(.tup [],none))::bs)
       | some (.v (.d .bool x))=>(match (bif TU ops i then none else Hk g want x (yU E ((view base (ns.getD i cW) bs).under g want) d o.op))with
          | some tv=>fS E dr ops ns r (i+1) base ((i,d,(tv,none))::bs)
          | none=>bif lL g bs then .br x
            (match want with
              | true=>(yU E (view base (ns.getD i cW) (ib g true bs)) d o.op).bind fun p=>fS E dr ops ns r (i+1) base ((i,d,p)::ib g true bs)
              | false=>fS E dr ops ns r (i+1) base ((i,d,(.tup [],none))::ib g true bs))
            (match want with
              | false=>(yU E (view base (ns.getD i cW) (ib g false bs)) d o.op).bind fun p=>fS E dr ops ns r (i+1) base ((i,d,p)::ib g false bs)
              | true=>fS E dr ops ns r (i+1) base ((i,d,(.tup [],none))::ib g false bs))else .fail)
       | some (.tup [])=>fS E dr ops ns r (i+1) base ((i,d,(.tup [],none))::bs)
       | _=> .fail)else .fail
     | _,_=> .fail
inductive Ou where
 | qP (st:St)
 | ext (id:Nat) (st:St)
 | ret (st:St)
def da(E:En):Code->St->Tr Ou
 | .skip,st=> .ret (.qP st)
 | .region id ops false,st=>match E.rg id with
   | some F=>(F st).bind fun ay=> .ret (.qP ay)
   | none=>(fS E false ops.toList [] ops.toList 0 st []).bind fun ay=> .ret (.qP ay)
 | .region id ops true,st=>match E.rg id with
   | some F=>(F st).bind fun ay=> .ret (.qP ay)
   | none=>bif kh ops.toList 0 then (fS E true ops.toList (bM ops.toList []) ops.toList 0 st []).bind fun ay=> .ret (.qP ay)else .fail
 | .seq a b,st=>(da E a st).bind fun o=>match o with | .qP ay=>da E b ay | o=> .ret o
 | .cond c a b,st=>match st.get c,c with
   | some (.v (.lb true)),_=>da E a st
   | some (.v (.lb false)),_=>da E b st
   | some (.v (.d .bool x)),.tmp t=> .br x (da E a (st.TO t true)) (da E b (st.TO t false))
   | _,_=> .fail
 | .block id c,st=>match E.lo id with
   | some L=>Tr.cu (dec L.σ st) fun x=> .alt (L.f x) (fun y=> .ret (.qP (enc L.σ y))) fun z=> .ret (.ret (enc E.ρ z))
   | none=>(da E c st).bind fun o=>match o with
     | .ext E7 ay=>bif Nat.beq E7 id then .ret (.qP ay)else .ret (.ext E7 ay)
     | o=> .ret o
 | .exit id,st=> .ret (.ext id st)
 | .ret,st=> .ret (.ret st)
 | .loop c,st=>(da E c st).bind fun o=>match o with | .qP _=> .fail | o=> .ret o
 | _,_=> .fail
def nE(E:En)(id:Nat)(σ:List SE)(body:Code)(x:fg σ):Tr (Sum (fg σ) (Sum (fg σ) (fg E.ρ))):=
 (da E body (enc σ x)).bind fun o=>match o with
   | .qP st=>Tr.cu (dec σ st) fun y=> .ret (.inl y)
   | .ext E7 st=>bif Nat.beq E7 id then Tr.cu (dec σ st) fun y=> .ret (.inr (.inl y))else .fail
   | .ret st=>Tr.cu (dec E.ρ st) fun y=> .ret (.inr (.inr y))
def iter{X Y:Type}(step:X->Option (Sum X Y)):Nat->X->Option Y
 | 0,_=>none
 | n+1,x=>match step x with
   | some (.inl x')=>iter step n x'
   | some (.inr y)=>some y
   | none=>none
def pL:(ps:List PK)->PT ps->Nat->List (Nat×TV)
 | [],_,_=>[]
 | .c g ks::ps,x,i=>(i,fP g (fZ 0 false ks x.1 0))::pL ps x.2 (i+1)
 | .pt ks::ps,x,i=>(i,.v (.rp none 0 ks [x.1] 0 0))::pL ps x.2 (i+1)
 | .nil::ps,x,i=>(i,.v .nil)::pL ps x (i+1)
 | .fn f cR::ps,x,i=>(i,.fn f (uO cR x.1))::pL ps x.2 (i+1)
 | .io g ks::ps,x,i=>(i,fP g (fZ (cn i) true ks x.1 0))::pL ps x.2 (i+1)
 | .mv k::ps,x,i=>(i,.v (.ref (cn i) 0 0))::pL ps x.2 (i+1)
 | .pw _::ps,x,i=>(i,.v (bif Nat.blt i 100000 then .ptr i 0 else .dead))::pL ps x.2 (i+1)
def gb:(ps:List PK)->PT ps->Nat->List (Nat×Rt)
 | [],_,_=>[]
 | .c _ _::ps,x,i=>gb ps x.2 (i+1)
 | .pt _::ps,x,i=>gb ps x.2 (i+1)
 | .nil::ps,x,i=>gb ps x (i+1)
 | .fn _ _::ps,x,i=>gb ps x.2 (i+1)
 | .io _ ks::ps,x,i=>(cn i,⟨false,mB ks x.1⟩)::gb ps x.2 (i+1)
 | .mv k::ps,x,i=>(cn i,⟨false,[⟨0,0,.own k x.1⟩]⟩)::gb ps x.2 (i+1)
 | .pw cs::ps,x,i=>bif Nat.blt i 100000 then (i,⟨true,cf cs x.1⟩)::gb ps x.2 (i+1)else gb ps x.2 (i+1)
def start(ps:List PK)(x:PT ps):St:=⟨pL ps x 0,gb ps x 0⟩
def ml(E:En)(st:St):List ResultVar->Option (List (Bool×List AV))
 | []=>some []
 | .tmp t::r=>match st.tv t,ml E st r with
   | some tv,some l=>(match tv.dw with | some p=>some (p::l) | none=>none)
   | _,_=>none
 | .cell t ty::r=>match st.tv t,E.ti ty,ml E st r with
   | some (.v (.ptr r' j)),some ti,some l=>(match st.load ti.ks.length (.ptr r' j)with | some cs=>some ((ti.agg,cs)::l) | none=>none)
   | _,_,_=>none
def A3(st:St)(fresh:Bool):(rs:List (Bool×List K))->List (Bool×List AV)->Option (St×CT rs)
 | [],[]=>some (st,())
 | (g,ks)::rs,(g',l)::r=>bif cw g g' then (match jV st fresh ks l with
   | some (ay,x)=>(match A3 ay fresh rs r with | some y=>some (y.1,(x,y.2)) | none=>none)
   | none=>none)else none
 | _,_=>none
def gS(st:St):(ks:List K)->List AV->Option (Tl ks)
 | [],[]=>some ()
 | .sl e bZ::ks,.ref r j s::l=>(match st.cell r j,gS st ks l with
   | some ⟨s',_,.own k' x⟩,some y=>bif Nat.beq s' s then (match gJ k' (.sl e bZ) x with | some x'=>some (x',y) | none=>none)else none
   | _,_=>none)
 | k::ks,a::l=>bif tB k then none else (match st.bI k a,a.bV,gS st ks l with | some x,true,some y=>some (x,y) | _,_,_=>none)
 | _,_=>none
def gR:List AV->List (Nat×Nat)
 | []=>[]
 | .ref r j _::l=>(r,j)::gR l
 | _::l=>gR l
def hasName(r j:Nat):List (Nat×Nat)->Bool
 | []=>false
 | n::l=>(Nat.beq n.1 r&&Nat.beq n.2 j)||hasName r j l
def Bk:List (Nat×Nat)->Bool
 | []=>true
 | n::l=> !hasName n.1 n.2 l&&Bk l
def dW(r:Nat):List (Bool×K)->Nat->List (Nat×Nat)
 | [],_=>[]
 | _::cs,j=>(r,j)::dW r cs (j+1)
def lI(st:St):List PK->Nat->List (Nat×Nat)
 | [],_=>[]
 | .io _ _::ps,i=>(match look st.tm i with | some tv=>(match tv.dw with | some p=>gR p.2 | none=>[]) | none=>[])++lI st ps (i+1)
 | .mv _::ps,i=>(300000+i,0)::lI st ps (i+1)
 | .c _ _::ps,i=>lI st ps (i+1)
 | .pt _::ps,i=>lI st ps (i+1)
 | .nil::ps,i=>lI st ps (i+1)
 | .fn _ _::ps,i=>lI st ps (i+1)
 | .pw cs::ps,i=>(i,200000)::(dW i cs 0++lI st ps (i+1))
def ki(pins:List Nat)(st:St):(ps:List PK)->Nat->Option (uy ps)
 | [],_=>some ()
 | .c _ _::ps,i=>ki pins st ps (i+1)
 | .pt _::ps,i=>ki pins st ps (i+1)
 | .nil::ps,i=>ki pins st ps (i+1)
 | .fn _ _::ps,i=>ki pins st ps (i+1)
 | .mv _::ps,i=>ki pins st ps (i+1)
 | .pw cs::ps,i=>match look st.tm i,look st.rt i with
   | some (.v (.ptr r 0)),some ⟨true,l⟩=>bif Nat.beq r i&&jb pins i then (match eS st cs l,ki pins st ps (i+1)with | some x,some y=>some (x,y) | _,_=>none)else none
   | _,_=>none
 | .io g ks::ps,i=>match look st.tm i with
   | some tv=>(match tv.dw with
     | some (g',l)=>bif cw g g'&&jb pins i then (match gS st ks l,ki pins st ps (i+1)with | some x,some y=>some (x,y) | _,_=>none)else none
     | none=>none)
   | none=>none
def sW(pins:List Nat)(st:St)(ps:List PK)(i:Nat):Option (uy ps):=bif Bk (lI st ps i)then ki pins st ps i else none
def Ik(E:En)(body:Code)(res:List ResultVar)(ps:List PK)(rs:List (Bool×List K))(fresh:Bool)(x:PT ps):Tr (uy ps×CT rs):=
 (da E body (start ps x)).bind fun o=>match o with
   | .ext _ _=> .fail
   | .qP st=>Tr.cu (ml E st res) fun l=>Tr.cu (A3 st fresh rs l) fun p=>Tr.cu (sW E.pins p.1 ps 0) fun z=> .ret (z,p.2)
   | .ret st=>Tr.cu (ml E st res) fun l=>Tr.cu (A3 st fresh rs l) fun p=>Tr.cu (sW E.pins p.1 ps 0) fun z=> .ret (z,p.2)
structure Gh where
 be:Nat->Nat
 cv:Nat->Nat->Value
 fp:Nat->Nat->Nat->Prop
def bC(Z:Nat->Prop)(g:Gh)(st:St)(w:World):AV->Value->Prop
 | .dead,_=>True
 | .lb x,v=>v= .bool x
 | .d k x,v=>RO Z w k x v
 | .nil,v=>v= .slice none 0 0
 | .b r j s m k x,v=>∃ c,st.cell r j=some c/\s<=c.s/\m<=c.m/\(c.s=s->c.m=m->RO (fun q=>Z q∨g.fp r j q) w k x v)
 | .ref r j s,v=>∃ c,st.cell r j=some c/\s<=c.s/\(c.s=s->v=g.cv r j)
 | .cut r j s n,v=>∃ c,st.cell r j=some c/\s<=c.s/\(c.s=s->∃ a l cap,g.cv r j= .slice a l cap/\n<=l/\v= .slice a n cap)
 | .pre r j s n,v=>∃ c,st.cell r j=some c/\s<=c.s/\(c.s=s->∃ e ks xs,c.v= .own (.sl e ks) xs/\∃ a l cap,v= .slice a l cap/\n<=l/\l<=cap/\l=n+(aW xs).length/\g.cv r j= .slice (if cap=n then a else a.map (·.add (n * ks.length))) (l-n) (cap-n))
 | .pref r j s m i q,v=>∃ c,st.cell r j=some c/\s<=c.s/\m<=c.m/\(c.s=s->c.m=m->∃ e ks xs,c.v= .own (.sl e ks) xs/\i<(aW xs).length/\q<ks.length/\∃ b o l cap,g.cv r j= .slice (some ⟨b,o,none⟩) l cap/\w.cell? ⟨b,o+i * ks.length+q,none⟩=some v)
 | .ptr r j,v=>∃ R,look st.rt r=some R/\R.box=true/\v= .pointer (some ⟨g.be r,j,none⟩)
 | .pel r j s i q,v=>∃ c,st.cell r j=some c/\s<=c.s/\(c.s=s->∃ e ks xs,c.v= .own (.sl e ks) xs/\i<(aW xs).length/\∃ b o l cap,g.cv r j= .slice (some ⟨b,o,none⟩) l cap/\v= .pointer (some ⟨b,o+i * ks.length+q,none⟩))
 | .qO r n,v=>∃ R,look st.rt r=some R/\R.box=true/\v= .slice (some ⟨g.be r,0,none⟩) n n
 | .rp none e ks xs i q,v=>i<xs.length/\∃ b o,Z b/\b<w.heap.size/\v= .pointer (some ⟨b,o+i * ks.length+q,none⟩)/\∀ i x,xs[i]? = some x->rR Z w ks x b (o+i * ks.length)
 | .rp (some (r,j,s,m)) e ks xs i q,v=>∃ c,st.cell r j=some c/\s<=c.s/\m<=c.m/\(c.s=s->c.m=m->i<xs.length/\∃ b o,(Z b∨g.fp r j b)/\b<w.heap.size/\v= .pointer (some ⟨b,o+i * ks.length+q,none⟩)/\∀ i x,xs[i]? = some x->rR (fun q=>Z q∨g.fp r j q) w ks x b (o+i * ks.length))
def a8(Z:Nat->Prop)(g:Gh)(st:St)(w:World):List AV->List Value->Prop
 | [],[]=>True
 | a::l,v::vs=>bC Z g st w a v/\a8 Z g st w l vs
 | _,_=>False
def vw(Z:Nat->Prop)(g:Gh)(st:St)(w:World)(p:Bool×List AV)(v:Value):Prop:=
 match p with
 | (true,l)=>∃ vs:Array Value,v= .agg vs/\a8 Z g st w l vs.toList
 | (false,[a])=>bC Z g st w a v
 | (false,_)=>False
def iK(Z:Nat->Prop)(g:Gh)(st:St)(w:World):List (Bool×List AV)->List Value->Prop
 | [],[]=>True
 | p::l,v::vs=>vw Z g st w p v/\iK Z g st w l vs
 | _,_=>False
def Sh(Z F:Nat->Prop)(w:World)(ks:List K)(xs:List (Tl ks))(v:Value):Prop:=
 ∃ a c,v= .slice a xs.length c/\xs.length<=c/\xs.length<=bQ/\(a=none->c=0) /\
  ∀ a',a=some a'->∃ b o cs e fr,a'=⟨b,o,none⟩/\F b/\w.heap[b]? = some (.cells cs e fr)/\(∀ q,q<cs.size+YK ks->¬ (fr.1<=q/\q<fr.2))/\o+c * ks.length<=cs.size /\
   ∀ i x,xs[i]? = some x->rR (fun q=>Z q∨F q/\q≠b) w ks x b (o+i * ks.length)
theorem KG{w:World}{b:Nat}{o:Obj}(h:w.heap[b]? = some o):b<w.heap.size:=by
 rcases amz b w.heap.size with h1 | h1
 . exact h1
 . simp[amC h1]at h
theorem Sh.mono{Z Z' F F':Nat->Prop}{w w':World}{ks:List K}{xs:List (Tl ks)}{v:Value}(hs:w.heap.size<=w'.heap.size)(hZ:∀ b,Z b->b<w.heap.size->Z' b/\w'.heap[b]? = w.heap[b]?)(hF:∀ b,F b->b<w.heap.size->F' b/\w'.heap[b]? = w.heap[b]?)(h:Sh Z F w ks xs v):Sh Z' F' w' ks xs v:=by
 obtain⟨a,c,h1,h2,h3,h4,h5⟩:=h;refine⟨a,c,h1,h2,h3,h4,fun a' ha=>?_⟩;obtain⟨b,o,cs,e,fr,g1,g2,g3,g4,g5,g6⟩:=h5 a' ha;have hb:=hF b g2 (KG g3);exact⟨b,o,cs,e,fr,g1,hb.1,by rw[hb.2];exact g3,g4,g5,fun i x hx=>rR.mono hs (fun q hq aV=>by
  rcases hq with hq | hq
  . exact⟨.inl (hZ q hq aV).1,(hZ q hq aV).2⟩
  . exact⟨.inr ⟨(hF q hq.1 aV).1,hq.2⟩,(hF q hq.1 aV).2⟩) ks x b _ hb.2 (g6 i x hx)⟩
theorem Sh.ro{Z F:Nat->Prop}{w:World}{e:TypeId}{ks:List K}{xs:List (Tl ks)}{v:Value}(h:Sh Z F w ks xs v):RO (fun q=>Z q∨F q) w (.sl e ks) xs v:=by
 obtain⟨a,c,h1,h2,h3,h4,h5⟩:=h;refine⟨a,c,h1,h2,h3,h4,fun cY=>?_⟩;have cY:xs≠[]:=cY;cases a with
 | none=>have:=h4 rfl;exact absurd (am2.1 (by omega)) cY
 | some a'=>obtain⟨b,o,cs,e,fr,g1,g2,g3,g4,g5,g6⟩:=h5 a' rfl;exact⟨b,o,by rw[g1],.inr g2,KG g3,fun i x hx=>rR.mono (oR _) (fun q hq _=>⟨hq.imp id And.left,rfl⟩) ks x b _ rfl (g6 i x hx)⟩
def bW(Z:Nat->Prop)(g:Gh)(st:St)(w:World):TV->Value->Prop
 | .v a,v=>bC Z g st w a v
 | .may _ want y gg l,v=>y=want->(match fP gg l with | .v a=>bC Z g st w a v | .agg l=>∃ vs:Array Value,v= .agg vs/\a8 Z g st w l vs.toList | _=>True)
 | .agg l,v=>∃ vs:Array Value,v= .agg vs/\a8 Z g st w l vs.toList
 | .tup l,v=>∃ vs:Array Value,v= .tuple vs/\iK Z g st w l vs.toList
 | .fn f cR,v=>∃ vs:Array Value,v= .func (.func f) #[] vs/\iK Z g st w cR vs.toList
 | .bc r j s m e ks x,v=>∃ c,st.cell r j=some c/\s<=c.s/\m<=c.m/\(c.s=s->c.m=m->Sh Z (g.fp r j) w ks x v)
structure LI (w w':World) (g g':Gh) (r j:Nat) (c c':RC):Prop where
 s:c.s<=c'.s
 m:c.m<=c'.m
 cv:c'.s=c.s->g'.cv r j=g.cv r j
 sl:c'.s=c.s->∀ e ks xs,c.v= .own (.sl e ks) xs->∃ rW,c'.v= .own (.sl e ks) rW/\(aW rW).length=(aW xs).length
 all:c'.s=c.s->c'.m=c.m->c'.v=c.v/\∀ b,g.fp r j b->b<w.heap.size->g'.fp r j b/\w'.heap[b]? = w.heap[b]?
structure nW (Z Z':Nat->Prop) (w w':World) (g g':Gh) (st ay:St):Prop where
 size:w.heap.size<=w'.heap.size
 z:∀ b,Z b->b<w.heap.size->Z' b/\w'.heap[b]? = w.heap[b]?
 root:∀ r R,look st.rt r=some R->∃ R',look ay.rt r=some R'/\R'.box=R.box/\(R.box=true->g'.be r=g.be r)
 cell:∀ r j c,st.cell r j=some c->∃ c',ay.cell r j=some c'/\LI w w' g g' r j c c'
 own:∀ r j b,g.fp r j b->b<w.heap.size
 block:∀ r j c e ks xs,st.cell r j=some c->c.v= .own (.sl e ks) xs->∀ b o l cap,g.cv r j= .slice (some ⟨b,o,none⟩) l cap->g.fp r j b
theorem LI.refl(w:World)(g:Gh)(r j:Nat)(c:RC):LI w w g g r j c c:=
 ⟨oR _,oR _,fun _=>rfl,fun _ e ks xs h=>⟨xs,h,rfl⟩,fun _ _=>⟨rfl,fun b h _=>⟨h,rfl⟩⟩⟩
theorem Hg{w w':World}{b o:Nat}(h:w'.heap[b]? = w.heap[b]?):w'.cell? ⟨b,o,none⟩=w.cell? ⟨b,o,none⟩:=by simp only[World.cell?,h]
theorem Gj{w:World}{b o:Nat}{v:Value}(h:w.cell? ⟨b,o,none⟩=some v):b<w.heap.size:=by
 rcases amz b w.heap.size with h1 | h1
 . exact h1
 . simp[World.cell?,amC h1]at h
theorem bC.cI{Z Z':Nat->Prop}{w w':World}{g g':Gh}{st ay:St}(k:nW Z Z' w w' g g' st ay):∀(a:AV) (v:Value),bC Z g st w a v->bC Z' g' ay w' a v
 | .dead,_,_=>trivial
 | .lb _,_,h=>h
 | .d kk x,v,h=>RO.mono k.size k.z kk x v h
 | .nil,_,h=>h
 | .b r j s m kk x,v,h=>by
   obtain⟨c,h1,h2,h3,h4⟩:=h;obtain⟨c',vP,kc⟩:=k.cell r j c h1;refine⟨c',vP,amp h2 kc.s,amp h3 kc.m,fun es em=>?_⟩;have e1:c.s=s:=anW (es ▸ kc.s) h2;have e2:c.m=m:=anW (em ▸ kc.m) h3;have ka:=kc.all (by omega) (by omega);exact RO.mono k.size (fun b hb aV=>by
    rcases hb with hb | hb
    . exact⟨.inl (k.z b hb aV).1,(k.z b hb aV).2⟩
    . exact⟨.inr (ka.2 b hb aV).1,(ka.2 b hb aV).2⟩) kk x v (h4 e1 e2)
 | .ref r j s,v,h=>by obtain⟨c,h1,h2,h3⟩:=h;obtain⟨c',vP,kc⟩:=k.cell r j c h1;refine⟨c',vP,amp h2 kc.s,fun es=>?_⟩;have e1:c.s=s:=anW (es ▸ kc.s) h2;rw[kc.cv (by omega)];exact h3 e1
 | .cut r j s n,v,h=>by obtain⟨c,h1,h2,h3⟩:=h;obtain⟨c',vP,kc⟩:=k.cell r j c h1;refine⟨c',vP,amp h2 kc.s,fun es=>?_⟩;have e1:c.s=s:=anW (es ▸ kc.s) h2;rw[kc.cv (by omega)];exact h3 e1
 | .pre r j s n,v,h=>by obtain⟨c,h1,h2,h3⟩:=h;obtain⟨c',vP,kc⟩:=k.cell r j c h1;refine⟨c',vP,amp h2 kc.s,fun es=>?_⟩;have e1:c.s=s:=anW (es ▸ kc.s) h2;obtain⟨e,ks,xs,g1,a,l,cap,g2,g3,g4,g5,g6⟩:=h3 e1;obtain⟨rW,O7,Yc⟩:=kc.sl (by omega) e ks xs g1;exact⟨e,ks,rW,O7,a,l,cap,g2,g3,g4,by omega,by rw[kc.cv (by omega)];exact g6⟩
 | .pref r j s m i q,v,h=>by obtain⟨c,h1,h2,h3,h4⟩:=h;obtain⟨c',vP,kc⟩:=k.cell r j c h1;refine⟨c',vP,amp h2 kc.s,amp h3 kc.m,fun es em=>?_⟩;have e1:c.s=s:=anW (es ▸ kc.s) h2;have e2:c.m=m:=anW (em ▸ kc.m) h3;obtain⟨e,ks,xs,g1,g2,g3,b,o,l,cap,g4,g5⟩:=h4 e1 e2;have ka:=kc.all (by omega) (by omega);refine⟨e,ks,xs,by rw[ka.1];exact g1,g2,g3,b,o,l,cap,by rw[kc.cv (by omega)];exact g4,?_⟩;rw[Hg (ka.2 b (k.block r j c e ks xs h1 g1 b o l cap g4) (Gj g5)).2];exact g5
 | .ptr r j,v,h=>by obtain⟨R,h1,h2,h3⟩:=h;obtain⟨R',vP,O9,h3'⟩:=k.root r R h1;exact⟨R',vP,by rw[O9,h2],by rw[h3' h2];exact h3⟩
 | .pel r j s i q,v,h=>by obtain⟨c,h1,h2,h3⟩:=h;obtain⟨c',vP,kc⟩:=k.cell r j c h1;refine⟨c',vP,amp h2 kc.s,fun es=>?_⟩;have e1:c.s=s:=anW (es ▸ kc.s) h2;obtain⟨e,ks,xs,g1,g2,b,o,l,cap,g4,g5⟩:=h3 e1;obtain⟨rW,O7,Yc⟩:=kc.sl (by omega) e ks xs g1;exact⟨e,ks,rW,O7,by omega,b,o,l,cap,by rw[kc.cv (by omega)];exact g4,g5⟩
 | .qO r n,v,h=>by obtain⟨R,h1,h2,h3⟩:=h;obtain⟨R',vP,O9,h3'⟩:=k.root r R h1;exact⟨R',vP,by rw[O9,h2],by rw[h3' h2];exact h3⟩
 | .rp none e ks xs i q,v,h=>by obtain⟨h0,b,o,h1,h2,h3,h4⟩:=h;exact⟨h0,b,o,(k.z b h1 h2).1,amG h2 k.size,h3,fun i x hx=>rR.mono k.size k.z ks x b _ (k.z b h1 h2).2 (h4 i x hx)⟩
 | .rp (some (r,j,s,m)) e ks xs i q,v,h=>by
   obtain⟨c,h1,h2,h3,h4⟩:=h;obtain⟨c',vP,kc⟩:=k.cell r j c h1;refine⟨c',vP,amp h2 kc.s,amp h3 kc.m,fun es em=>?_⟩;have e1:c.s=s:=anW (es ▸ kc.s) h2;have e2:c.m=m:=anW (em ▸ kc.m) h3;have ka:=kc.all (by omega) (by omega);have hz:∀ b,(Z b∨g.fp r j b)->b<w.heap.size->(Z' b∨g'.fp r j b)/\w'.heap[b]? = w.heap[b]? :=fun b hb aV=>by
    rcases hb with hb | hb
    . exact⟨.inl (k.z b hb aV).1,(k.z b hb aV).2⟩
    . exact⟨.inr (ka.2 b hb aV).1,(ka.2 b hb aV).2⟩
   obtain⟨h0,b,o,g1,g2,g3,g4⟩:=h4 e1 e2;exact⟨h0,b,o,(hz b g1 g2).1,amG g2 k.size,g3,fun i x hx=>rR.mono k.size hz ks x b _ (hz b g1 g2).2 (g4 i x hx)⟩
theorem a8.cI{Z Z':Nat->Prop}{w w':World}{g g':Gh}{st ay:St}(k:nW Z Z' w w' g g' st ay):∀(l:List AV) (vs:List Value),a8 Z g st w l vs->a8 Z' g' ay w' l vs
 | [],[],_=>trivial
 | a::l,v::vs,h=>⟨bC.cI k a v h.1,a8.cI k l vs h.2⟩
 | [],_::_,h=>h.elim
 | _::_,[],h=>h.elim
theorem vw.cI{Z Z':Nat->Prop}{w w':World}{g g':Gh}{st ay:St}(k:nW Z Z' w w' g g' st ay)(p:Bool×List AV)(v:Value)(h:vw Z g st w p v):vw Z' g' ay w' p v:=by
 match p,h with
 | (true,l),⟨vs,e,h⟩=>exact⟨vs,e,a8.cI k l _ h⟩
 | (false,[a]),h=>exact bC.cI k a v h
theorem iK.cI{Z Z':Nat->Prop}{w w':World}{g g':Gh}{st ay:St}(k:nW Z Z' w w' g g' st ay):∀(l:List (Bool×List AV)) (vs:List Value),iK Z g st w l vs->iK Z' g' ay w' l vs
 | [],[],_=>trivial
 | a::l,v::vs,h=>⟨vw.cI k a v h.1,iK.cI k l vs h.2⟩
 | [],_::_,h=>h.elim
 | _::_,[],h=>h.elim
theorem bW.cI{Z Z':Nat->Prop}{w w':World}{g g':Gh}{st ay:St}(k:nW Z Z' w w' g g' st ay):∀(t:TV) (v:Value),bW Z g st w t v->bW Z' g' ay w' t v
 | .v a,v,h=>bC.cI k a v h
 | .may t want y gg l,v,h=>fun e=>by
   have:=h e;split at this
   . exact bC.cI k _ v this
   . obtain⟨vs,e,h⟩:=this;exact⟨vs,e,a8.cI k _ _ h⟩
   . trivial
 | .agg l,v,⟨vs,e,h⟩=>⟨vs,e,a8.cI k l _ h⟩
 | .tup l,v,⟨vs,e,h⟩=>⟨vs,e,iK.cI k l _ h⟩
 | .fn f cR,v,⟨vs,e,h⟩=>⟨vs,e,iK.cI k cR _ h⟩
 | .bc r j s m e ks x,v,⟨c,h1,h2,h3,h4⟩=>by obtain⟨c',vP,kc⟩:=k.cell r j c h1;refine⟨c',vP,amp h2 kc.s,amp h3 kc.m,fun es em=>?_⟩;have ka:=kc.all (by have:=kc.s;omega) (by have:=kc.m;omega);exact Sh.mono k.size k.z ka.2 (h4 (by have:=kc.s;omega) (by have:=kc.m;omega))
def lh(Z:Nat->Prop)(g:Gh)(st:St)(w:World):RV->Value->(Nat->Prop)->Prop
 | .own k x,v,F=>dG w k x v F
 | .av a,v,_=>bC Z g st w a v
theorem lh.cI{Z Z':Nat->Prop}{w w':World}{g g':Gh}{st ay:St}(k:nW Z Z' w w' g g' st ay)(rv:RV)(v:Value)(F F':Nat->Prop)(h:lh Z g st w rv v F)
 (hF:∀ b,F b->F' b)(hw:∀ b,F b->b<w.heap.size->w'.heap[b]? = w.heap[b]?):lh Z' g' ay w' rv v F':=by
 cases rv with
 | own kk x=>exact dG.frame kk x v F F' hF hw h
 | av a=>exact bC.cI k a v h
def abl(k:IntKind)(zs:List Int)(o:Option Obj):Prop:=∃ e fr,o=some (.cells (zs.map fun z=>Value.int k z).toArray e fr)
def ae6(o:Option Obj):Prop:=∃ m cs e fr,o=some (.cells cs e fr)/\cs[0]? = some (Value.int .i64 m)
def ifP(o:Option Obj):Prop:=∃ ev cs e fr,o=some (.cells cs e fr)/\cs[0]? = some ev/\(ev= .nilIface∨∃ te pe,ev= .iface te pe)
def gl0:List (String × (Option Obj → Prop)):=[("internal/strconv.uint64pow10", abl .u64 Lib.pow10Tab), ("internal/bytealg.MaxLen", ae6), ("strconv.ErrSyntax", ifP), ("strconv.ErrRange", ifP)]
def Gl(P:Program)(w:World)(Z:Nat->Prop):Prop:=∀ t∈gl0,∀ g,P.globalNamed t.1=some g->t.2 w.heap[g]? /\ Z g/\g<w.heap.size
theorem Gl.mono{P:Program}{w w':World}{Z Z':Nat->Prop}(h:Gl P w Z)(hs:w.heap.size<=w'.heap.size)(hz:∀ b,Z b->b<w.heap.size->Z' b/\w'.heap[b]? = w.heap[b]?):Gl P w' Z':=fun t ht g hg=>by obtain⟨h1,h2,h3⟩:=h t ht g hg;obtain⟨h4,h5⟩:=hz g h2 h3;exact⟨h5 ▸ h1,h4,amG h3 hs⟩
structure Cx (P:Program) where
 w0:World
 F0:Nat->Prop
 Z0:Nat->Prop
 nz:Nat->Option Value
 gl:Gl P w0 Z0
 z0F:∀ b,Z0 b->b<w0.heap.size->¬ F0 b
def kR{P:Program}(cx:Cx P)(a:Act)(d:Nat):Prop:=d<a.tmps.size/\cx.nz d=none
structure Rel {P:Program} (cx:Cx P) (Z:Nat->Prop) (g:Gh) (st:St) (a:Act) (w:World):Prop where
 os:w.os=cx.w0.os
 tape:w.tape=cx.w0.tape
 output:w.output=cx.w0.output
 size:cx.w0.heap.size<=w.heap.size
 block:∀ b,b<cx.w0.heap.size->¬ cx.F0 b->w.heap[b]? = cx.w0.heap[b]?
 cq:∀ b,Z b->b<w.heap.size/\(cx.Z0 b∨cx.w0.heap.size<=b)
 z0:∀ b,cx.Z0 b->b<cx.w0.heap.size->Z b
 fp:∀ r j b,g.fp r j b->b<w.heap.size/\(cx.F0 b∨cx.w0.heap.size<=b)/\¬ Z b/\∃ c k x,st.cell r j=some c/\c.v= .own k x
 cS:∀ r j r' j' b,g.fp r j b->g.fp r' j' b->r=r'/\j=j'
 box:∀ r R,look st.rt r=some R->R.box=true->(cx.F0 (g.be r)∨cx.w0.heap.size<=g.be r)/\¬ Z (g.be r)/\(∀ r' j',¬ g.fp r' j' (g.be r))/\(∀ r' R',look st.rt r'=some R'->R'.box=true->g.be r'=g.be r->r'=r) /\
  ∃ cs e fr,w.heap[g.be r]? = some (.cells cs e fr)/\(∀ q,q<cs.size->¬ (fr.1<=q/\q<fr.2))/\cs.size=R.cells.length/\∀ j,j<cs.size->cs[j]? = some (g.cv r j)
 cell:∀ r j c,st.cell r j=some c->lh Z g st w c.v (g.cv r j) (g.fp r j)
 tm:∀ t tv,look st.tm t=some tv->t<a.tmps.size/\bW Z g st w tv (a.tmps.getD t undef)
 defers:a.defers=[]
 nz:∀ t v,cx.nz t=some v->a.tmps.getD t undef=v
theorem Rel.gl{P:Program}{cx:Cx P}{Z:Nat->Prop}{g:Gh}{st:St}{a:Act}{w:World}(h:Rel cx Z g st a w):Gl P w Z:=
 cx.gl.mono h.size fun b hb hl=>⟨h.z0 b hb hl,h.block b hl (cx.z0F b hb hl)⟩
def Cons(st:St):Prop:=∀ d t want y g l,look st.tm d=some (.may t want y g l)->∀ x,(look st.tm t=some (.v (.lb x))->x=y)/\(look st.tm t=some (.v (.d .bool x))->x=y)
theorem T8(s:ByteArray):fQ s.data.toList=s:=by cases s;simp[fQ]
theorem TZ{Z:Nat->Prop}{g:Gh}{st:St}{w:World}{gg:Bool}{l:List AV}{v:Value}(h:match fP gg l with | .v a=>bC Z g st w a v | .agg l=>∃ vs:Array Value,v= .agg vs/\a8 Z g st w l vs.toList | _=>True):bW Z g st w (fP gg l) v:=by
 unfold fP at *
 split <;> simp_all[bW]
section
variable{P:Program}{cx:Cx P}{Z:Nat->Prop}{g:Gh}{st:St}{a:Act}{w:World}
theorem jA(h:Rel cx Z g st a w)(hc:Cons st){t:Nat}{tv:TV}(ht:st.tv t=some tv):bW Z g st w tv (a.tmps.getD t undef):=by
 unfold St.tv at ht;cases hl:look st.tm t with
 | none=>simp[hl]at ht
 | some xq=>
   have h0:=(h.tm t xq hl).2;rw[hl]at ht;cases xq with
   | may q want y gg l=>
     simp only at ht;cases hq:look st.tm q with
     | none=>simp[hq]at ht
     | some tq=>
       simp only[hq]at ht;have hcq:=hc t q want y gg l hl;split at ht
       . rename_i x he;injection he with he
         subst he;have:=(hcq x).1 hq;subst this;split at ht
         . simp only[amh]at ht;subst ht;exact TZ (h0 rfl)
         . simp only[amh]at ht;subst ht;exact TZ (h0 rfl)
         . simp at ht
       . simp only[amh]at ht;subst ht;exact h0
       . simp_all
   | _=>simp only[amh]at ht;subst ht;exact h0
theorem wX:∀(vs:List Value) (l:List AV),cells vs=some l->a8 Z g st w l vs
 | [],l,h=>by simp[cells]at h;subst h;trivial
 | v::r,l,h=>by
   simp only[cells]at h;split at h
   . rename_i a l' ha hl;simp only[amh]at h;subst h;refine⟨?_,wX r l' hl⟩;split at ha
     . rename_i k n;cases hk:(decide (k.min<=n)&&decide (n<=k.max))with
       | false=>simp[hk]at ha
       | true=>simp only[hk,oT,amh]at ha;subst ha;simp only[ami,anH]at hk;exact⟨rfl,hk⟩
     . simp only[amh]at ha;subst ha;rfl
     . rename_i s;cases hk:Nat.ble s.data.toList.length bQ with
       | false=>simp only[hk,oF,reduceCtorEq]at ha
       | true=>simp only[hk,oT,amh]at ha;subst ha;exact⟨by rw[T8],amE hk⟩
     . simp only[amh]at ha;subst ha;rfl
     . simp at ha
   . simp at h
theorem Ni{v:Value}{tv:TV}(h:uJ v=some tv):bW Z g st w tv v:=by
 unfold uJ at h;split at h
 . rename_i cs;split at h
   . rename_i l hl;simp only[amh]at h;subst h;exact⟨cs,rfl,wX _ _ hl⟩
   . simp at h
 . rename_i vs;split at h
   . rename_i e;simp only[amh]at h;subst h;exact⟨vs,rfl,by rw[e];trivial⟩
   . simp at h
 . rename_i f x y;split at h
   . rename_i e1 e2;simp only[amh]at h;subst h;obtain rfl:x = #[]:=by cases x;simp_all
     exact⟨y,rfl,by rw[e2];trivial⟩
   . simp at h
 . split at h
   . rename_i a ha;simp only[amh]at h;subst h;exact(wX [v] _ ha).1
   . simp at h
theorem bg(h:Rel cx Z g st a w)(hc:Cons st){o:Operand}{tv:TV}(ht:st.get o=some tv):bW Z g st w tv (a.eval o):=by
 cases o with
 | tmp t=>exact jA h hc ht
 | const v=>exact Ni ht
 | global n=>simp[St.get]at ht
 | func f=>simp only[St.get,amh]at ht;subst ht;exact⟨#[],rfl,trivial⟩
theorem qi{Z:Nat->Prop}{w:World}:∀(ks:List K) (x:Tl ks) (b o c:Nat) (k:K) (y:T k),rR Z w ks x b o->cellAt ks x c=some ⟨k,y⟩->∃ v,w.cell? ⟨b,o+c,none⟩=some v/\RO Z w k y v
 | [],_,_,_,_,_,_,_,h=>by simp[cellAt]at h
 | k0::ks,x,b,o,0,k,y,h,hc=>by simp only[cellAt,amh,Sigma.mk.injEq]at hc;obtain⟨rfl,hc⟩:=hc;have:=aox hc;subst this;exact h.1
 | k0::ks,x,b,o,c+1,k,y,h,hc=>by obtain⟨v,h1,h2⟩:=qi ks x.2 b (o+1) c k y h.2 hc;exact⟨v,by rw[show o+(c+1)=o+1+c by omega];exact h1,h2⟩
theorem CS:∀(ks:List K) (x:Tl ks) (c:Nat) (k:K) (y:T k),cellAt ks x c=some ⟨k,y⟩->c<ks.length
 | [],_,_,_,_,h=>by simp[cellAt]at h
 | _::_,_,0,_,_,_=>by simp
 | _::ks,x,c+1,k,y,h=>by have:=CS ks x.2 c k y h;simp;omega
theorem nY{e:TypeId}{ks:List K}(xs:T (.sl e ks)){i:Nat}(h:i<(aW xs).length):(aW xs)[i]? = some (hE xs i):=by simp[hE,List.getD,h]
def iR(w:World):Nat->Prop:=fun b=>b<w.heap.size
theorem RO.cq{Z Z':Nat->Prop}{w:World}{k:K}{x:T k}{v:Value}(h:RO Z w k x v)(hz:∀ b,Z b->b<w.heap.size->Z' b):RO Z' w k x v:=
 RO.mono (oR _) (fun b hb hl=>⟨hz b hb hl,rfl⟩) k x v h
theorem RO.all{Z:Nat->Prop}{w:World}{k:K}{x:T k}{v:Value}(h:RO Z w k x v):RO (iR w) w k x v:=h.cq fun _ _ h=>h
theorem Wb{Z:Nat->Prop}{w:World}{e:TypeId}{ks:List K}{xs:T (.sl e ks)}{a:Option Addr}{l cap n:Nat}(h:RO Z w (.sl e ks) xs (.slice a l cap))(hn:n<=l):RO Z w (.sl e ks) (List.take n (aW xs)) (.slice a n cap):=by
 obtain⟨a',c',h1,h2,h3,h4,h5⟩:=h;simp only[anj]at h1;obtain⟨rfl,rfl,rfl⟩:=h1;have hlen:(aW (e:=e) (ks:=ks) (List.take n (aW xs))).length=n:=(am9 (l:=aW xs) (i:=n)).trans (ao1 hn);refine⟨a,cap,by rw[hlen],by omega,by omega,h4,fun cY=>?_⟩;have HW:aW xs≠[]:=by intro h0;apply cY;show List.take n (aW xs)=[];rw[h0];exact List.take_nil
 obtain⟨b,o,g1,g2,g3,g4⟩:=h5 HW;refine⟨b,o,g1,g2,g3,fun i x hx=>g4 i x ?_⟩;have lQ:(List.take n (aW xs))[i]? = some x:=hx;rw[anp]at lQ;split at lQ
 . exact lQ
 . simp at lQ
theorem fj(h:Rel cx Z g st a w){r j:Nat}{c:RC}{k:K}{x:T k}(hc:st.cell r j=some c)(hv:c.v= .own k x):dG w k x (g.cv r j) (g.fp r j):=by have:=h.cell r j c hc;rw[hv]at this;exact this
theorem yC(h:Rel cx Z g st a w){r j:Nat}{c:RC}{x:AV}(hc:st.cell r j=some c)(hv:c.v= .av x):bC Z g st w x (g.cv r j):=by have:=h.cell r j c hc;rw[hv]at this;exact this
theorem Cu{w:World}{e:TypeId}{ks:List K}{xs:T (.sl e ks)}{v:Value}{F:Nat->Prop}{b o l cap:Nat}(h:dG w (.sl e ks) xs v F)(hv:v= .slice (some ⟨b,o,none⟩) l cap):F b/\l=(aW xs).length:=by obtain⟨a,c,h1,h2,h3,h4,h5⟩:=h;rw[hv]at h1;simp only[anj]at h1;obtain⟨rfl,rfl,rfl⟩:=h1;obtain⟨b',o',cs,e',fr,g1,g2,_⟩:=h5 _ rfl;simp only[anJ,anQ]at g1;obtain⟨rfl,rfl⟩:=g1;exact⟨g2,rfl⟩
theorem DJ(h:Rel cx Z g st a w){x:AV}{v:Value}(hr:bC Z g st w x v){k:K}{y:T k}(hy:st.read x=some ⟨k,y⟩):RO (iR w) w k y v:=by
 cases x with
 | dead=>simp[St.read]at hy
 | lb b=>simp only[St.read,amh]at hy;cases hy;exact hr
 | d k' x'=>simp only[St.read,amh]at hy;cases hy;exact RO.all hr
 | nil=>simp[St.read]at hy
 | pre=>simp[St.read]at hy
 | b r j s m k' x'=>
   obtain⟨c,h1,h2,h3,h4⟩:=hr;simp only[St.read,h1]at hy;cases hb:Nat.beq c.s s&&Nat.beq c.m m with
   | false=>simp[hb]at hy
   | true=>simp only[hb,oT,amh]at hy;cases hy;simp only[ami]at hb;exact RO.all (h4 (anx hb.1) (anx hb.2))
 | ref r j s=>
   obtain⟨c,h1,h2,h3⟩:=hr;obtain⟨cs,cm,cv⟩:=c;cases cv with
   | av _=>simp[St.read,h1]at hy
   | own k' x'=>
     simp only[St.read,h1]at hy;cases hb:Nat.beq cs s with
     | false=>simp[hb]at hy
     | true=>simp only[hb,oT,amh]at hy;cases hy;rw[h3 (anx hb)];exact dG.ro _ _ _ _ (fun b hb=>(h.fp r j b hb).1) (fj h h1 rfl)
 | cut r j s n=>
   obtain⟨c,h1,h2,h3⟩:=hr;obtain⟨cs,cm,cv⟩:=c;cases cv with
   | av _=>simp[St.read,h1]at hy
   | own k' x'=>
     cases k' with
     | int _=>simp[St.read,h1]at hy
     | bool=>simp[St.read,h1]at hy
     | str=>simp[St.read,h1]at hy
     | sl e ks=>
       simp only[St.read,h1]at hy;cases hb:Nat.beq cs s with
       | false=>simp[hb]at hy
       | true=>simp only[hb,oT,amh]at hy;cases hy;obtain⟨aa,l,cap,e1,e2,rfl⟩:=h3 (anx hb);have:=dG.ro (Z:=iR w) _ _ _ _ (fun b hb=>(h.fp r j b hb).1) (fj h h1 rfl);rw[e1]at this;exact Wb this e2
 | pref r j s m i q=>
   obtain⟨c,h1,h2,h3,h4⟩:=hr;obtain⟨cs,cm,cv⟩:=c;cases cv with
   | av _=>simp[St.read,h1]at hy
   | own k' x'=>
     cases k' with
     | int _=>simp[St.read,h1]at hy
     | bool=>simp[St.read,h1]at hy
     | str=>simp[St.read,h1]at hy
     | sl e ks=>
       simp only[St.read,h1]at hy;cases hb:Nat.beq cs s&&Nat.beq cm m with
       | false=>simp[hb]at hy
       | true=>simp only[hb,oT]at hy;simp only[ami]at hb;obtain⟨e',bZ,rW,g1,g2,g3,b,o,l,cap,g4,g5⟩:=h4 (anx hb.1) (anx hb.2);simp only[RV.own.injEq,K.sl.injEq]at g1;obtain⟨⟨rfl,rfl⟩,g1⟩:=g1;have:=aox g1;subst this;have ur:=dG.ro (Z:=iR w) _ _ _ _ (fun b hb=>(h.fp r j b hb).1) (fj h h1 rfl);rw[g4]at ur;obtain⟨aa,c',u1,u2,u3,u4,u5⟩:=ur;simp only[anj]at u1;obtain⟨rfl,rfl,rfl⟩:=u1;obtain⟨b',o',v1,v2,v3,v4⟩:=u5 (by intro h0;rw[h0]at g2;simp at g2);simp only[amh,anJ,anQ]at v1;obtain⟨rfl,rfl⟩:=v1;obtain⟨v',U5,hv2⟩:=qi ks _ b _ q k y (v4 i _ (nY x' g2)) hy;rw[g5]at U5;simp only[amh]at U5;subst U5;exact hv2
 | ptr _ _=>simp[St.read]at hy
 | pel _ _ _ _ _=>simp[St.read]at hy
 | qO _ _=>simp[St.read]at hy
 | rp _ _ _ _ _ _=>simp[St.read]at hy
theorem Sy{Z:Nat->Prop}{w:World}(e:TypeId)(ks:List K):RO Z w (.sl e ks) ([]:List (Tl ks)) (.slice none 0 0):=
 ⟨none,0,rfl,oR _,amv _,fun _=>rfl,fun h=>absurd rfl h⟩
theorem kP{F:Nat->Prop}{w:World}(e:TypeId)(ks:List K):dG w (.sl e ks) ([]:List (Tl ks)) (.slice none 0 0) F:=
 ⟨none,0,rfl,oR _,amv _,fun _=>rfl,fun a' h=>by simp at h⟩
theorem oq(h:Rel cx Z g st a w){x:AV}{v:Value}(hr:bC Z g st w x v){k:K}{y:T k}(hy:st.bI k x=some y):RO (iR w) w k y v:=by
 unfold St.bI at hy;split at hy
 . rename_i ks;cases hy;have:v= .slice none 0 0:=hr;subst this;exact Sy _ _
 . split at hy
   . rename_i k' x' hx;obtain⟨e,hy⟩:=cN hy;subst e;subst hy;exact DJ h hr hx
   . simp at hy
theorem cB(h:Rel cx Z g st a w){x:AV}{v:Value}(hr:bC Z g st w x v)(hf:x.bV=true){k:K}{y:T k}(hy:st.bI k x=some y):RO Z w k y v:=by
 unfold St.bI at hy;split at hy
 . cases hy;have:v= .slice none 0 0:=hr;subst this;exact Sy _ _
 . split at hy
   . rename_i k' x' hx;obtain⟨e,hy⟩:=cN hy;subst e;subst hy;cases x with
     | lb b=>simp only[St.read,amh]at hx;cases hx;exact hr
     | d k' x'=>simp only[St.read,amh]at hx;cases hx;exact hr
     | nil=>simp[St.read]at hx
     | _=>simp[AV.bV]at hf
   . simp at hy
def tT(Z:Nat->Prop)(w:World):(ks:List K)->Tl ks->List Value->Prop
 | [],_,[]=>True
 | k::ks,x,v::vs=>RO Z w k x.1 v/\tT Z w ks x.2 vs
 | _,_,_=>False
theorem Bt(h:Rel cx Z g st a w):∀(ks:List K) (l:List AV) (vs:List Value) (y:Tl ks),a8 Z g st w l vs->st.readAll ks l=some y->tT (iR w) w ks y vs
 | [],[],[],_,_,_=>trivial
 | [],[],_::_,_,h1,_=>h1.elim
 | k::ks,x::l,[],_,h1,_=>h1.elim
 | k::ks,x::l,v::vs,y,h1,h2=>by
   unfold St.readAll at h2;split at h2
   . rename_i z zs hz mR;cases h2;exact⟨oq h h1.1 hz,Bt h ks l vs zs h1.2 mR⟩
   . simp at h2
 | [],_::_,_,_,_,h2=>by simp[St.readAll]at h2
 | _::_,[],_,_,_,h2=>by simp[St.readAll]at h2
theorem dH(h:Rel cx Z g st a w):∀(ks:List K) (l:List AV) (vs:List Value) (y:Tl ks),a8 Z g st w l vs->l.all AV.bV=true->st.readAll ks l=some y->tT Z w ks y vs
 | [],[],[],_,_,_,_=>trivial
 | [],[],_::_,_,h1,_,_=>h1.elim
 | k::ks,x::l,[],_,h1,_,_=>h1.elim
 | k::ks,x::l,v::vs,y,h1,hf,h2=>by
   simp only[anc,ami]at hf;unfold St.readAll at h2;split at h2
   . rename_i z zs hz mR;cases h2;exact⟨cB h h1.1 hf.1 hz,dH h ks l vs zs h1.2 hf.2 mR⟩
   . simp at h2
 | [],_::_,_,_,_,_,h2=>by simp[St.readAll]at h2
 | _::_,[],_,_,_,_,h2=>by simp[St.readAll]at h2
end
theorem aN{β:Type}(m:Nat)(x:β)(r:List (Nat×β))(n:Nat):look ((m,x)::r) n=if m=n then some x else look r n:=by
 simp only[look];cases h:Nat.beq m n with
 | true=>simp[anx h]
 | false=>simp[ant h]
theorem beq_eq{a b:Nat}(h:Nat.beq a b=true):a=b:=anx h
theorem Sb(a:Act)(d:Nat)(v:Value):(a.put (some d) v).tmps=a.tmps.setIfInBounds d v:=rfl
theorem put_defers(a:Act)(d:Option Nat)(v:Value):(a.put d v).defers=a.defers:=by cases d <;> rfl
theorem vg(a:Act)(d:Option Nat)(v:Value):(a.put d v).tmps.size=a.tmps.size:=by cases d <;> simp[Act.put]
theorem ET(a:Act)(d t:Nat)(v:Value)(hd:d<a.tmps.size):(a.put (some d) v).tmps.getD t undef=if d=t then v else a.tmps.getD t undef:=by
 simp only[Sb,amr,ang];by_cases h:d=t
 . subst h;simp[hd]
 . simp[h]
section
variable{P:Program}{cx:Cx P}{Z:Nat->Prop}{g:Gh}{st:St}{a:Act}{w:World}
theorem fY(h:Rel cx Z g st a w){ay:St}{w':World}(hs:ay.rt=st.rt)(hw:w'.heap=w.heap):nW Z Z w w' g g st ay where
 size:=by rw[hw];exact oR _
 z:=fun b hb _=>⟨hb,by rw[hw]⟩
 root:=fun r R hR=>⟨R,by rw[hs];exact hR,rfl,fun _=>rfl⟩
 cell:=fun r j c hc=>⟨c,by simp only[St.cell,hs];exact hc,oR _,oR _,fun _=>rfl,fun _ e ks xs hh=>⟨xs,hh,rfl⟩,fun _ _=>⟨rfl,fun b hb _=>⟨hb,by rw[hw]⟩⟩⟩
 own:=fun r j b hb=>(h.fp r j b hb).1
 block:=fun r j c e ks xs hc hv b o l cap hg=>by have:=fj h hc hv;rw[hg]at this;exact(Cu this rfl).1
theorem Lr(h:Rel cx Z g st a w){d:Nat}(hd:kR cx a d)(u:Value):∀ t v,cx.nz t=some v->(a.put (some d) u).tmps.getD t undef=v:=fun t v ht=>by rw[ET _ _ _ _ hd.1,if_neg (fun e=>by subst e;rw[hd.2]at ht;simp at ht)];exact h.nz t v ht
theorem Rel.nS(h:Rel cx Z g st a w){d:Nat}{tv:TV}{v:Value}(hd:kR cx a d)(ht:bW Z g st w tv v):Rel cx Z g (st.ba d (tv,none)) (a.put (some d) v) w:=by
 have k:=fY h (ay:=st.ba d (tv,none)) (w':=w) rfl rfl
 exact { os:=h.os,tape:=h.tape,output:=h.output,size:=h.size,block:=h.block,cq:=h.cq,z0:=h.z0
         fp:=h.fp,cS:=h.cS,box:=h.box
         cell:=fun r j c hc=>lh.cI k _ _ _ _ (h.cell r j c hc) (fun _ h=>h) (fun _ _ _=>rfl)
         tm:=fun t kq ym=>by
          have xr:look ((d,tv)::st.tm) t=some kq:=ym;rw[aN]at xr;rw[vg,ET _ _ _ _ hd.1];by_cases hh:d=t
          . rw[if_pos hh]at xr ⊢;cases xr;exact⟨hh ▸ hd.1,bW.cI k _ _ ht⟩
          . rw[if_neg hh]at xr ⊢;exact⟨(h.tm t kq xr).1,bW.cI k _ _ (h.tm t kq xr).2⟩
         defers:=by rw[put_defers];exact h.defers
         nz:=Lr h hd v }
theorem Rel.world(h:Rel cx Z g st a w){w':World}(hw:w'.heap=w.heap)(h1:w'.os=w.os)(h2:w'.tape=w.tape)(h3:w'.output=w.output):Rel cx Z g st a w':=by
 have k:=fY h (ay:=st) (w':=w') rfl hw
 exact { os:=h1.trans h.os,tape:=h2.trans h.tape,output:=h3.trans h.output,size:=by rw[hw];exact h.size
         block:=fun b hb hf=>by rw[hw];exact h.block b hb hf
         cq:=fun b hb=>by rw[hw];exact h.cq b hb
         z0:=h.z0
         fp:=fun r j b hb=>by rw[hw];exact h.fp r j b hb
         cS:=h.cS
         box:=fun r R hR hb=>by rw[hw];exact h.box r R hR hb
         cell:=fun r j c hc=>lh.cI k _ _ _ _ (h.cell r j c hc) (fun _ h=>h) (fun b _ _=>by rw[hw])
         tm:=fun t tv ht=>⟨(h.tm t tv ht).1,bW.cI k _ _ (h.tm t tv ht).2⟩
         defers:=h.defers,nz:=h.nz }
structure ahz (Z Z':Nat->Prop) (w w':World) (g':Gh) (ay:St) (d:Nat) (R:Rt):Prop where
 os:w'.os=w.os
 tape:w'.tape=w.tape
 output:w'.output=w.output
 size:w.heap.size<=w'.heap.size
 block:∀ b,b<w.heap.size->w'.heap[b]? = w.heap[b]?
 cq:∀ b,Z' b->Z b∨(w.heap.size<=b/\b<w'.heap.size)
 zle:∀ b,Z b->Z' b
 fp:∀ j b,g'.fp d j b->w.heap.size<=b/\b<w'.heap.size/\¬ Z' b/\∃(c:RC) (k:K) (x:T k),R.cells[j]? = some c/\c.v= .own k x
 cS:∀ j j' b,g'.fp d j b->g'.fp d j' b->j=j'
 box:R.box=true->w.heap.size<=g'.be d/\¬ Z' (g'.be d)/\(∀ j,¬ g'.fp d j (g'.be d)) /\
  ∃ cs e fr,w'.heap[g'.be d]? = some (.cells cs e fr)/\(∀ q,q<cs.size->¬ (fr.1<=q/\q<fr.2))/\cs.size=R.cells.length/\∀ j,j<cs.size->cs[j]? = some (g'.cv d j)
 cell:∀(j:Nat) (c:RC),R.cells[j]? = some c->lh Z' g' ay w' c.v (g'.cv d j) (g'.fp d j)
theorem kB{d:Nat}(h:st.free d=true):look st.rt d=none:=by
 unfold St.free at h;split at h
 . assumption
 . simp at h
def Gh.at(g:Gh)(d:Nat)(be:Nat)(cv:Nat->Value)(fp:Nat->Nat->Prop):Gh:=
 ⟨fun r=>if r=d then be else g.be r,fun r j=>if r=d then cv j else g.cv r j,fun r j=>if r=d then fp j else g.fp r j⟩
theorem Gy(h:Rel cx Z g st a w){d:Nat}{tv:TV}{R:Rt}{Z':Nat->Prop}{w':World}{be:Nat}{cv:Nat->Value}{fp:Nat->Nat->Prop}(hf:st.free d=true)
 (hs:w.heap.size<=w'.heap.size)(hb:∀ b,b<w.heap.size->w'.heap[b]? = w.heap[b]?)(hz:∀ b,Z b->Z' b) :
 nW Z Z' w w' g (g.at d be cv fp) st (st.ba d (tv,some R)) where
 size:=hs
 z:=fun b cz aV=>⟨hz b cz,hb b aV⟩
 root:=fun r R' hR=>by
  have cY:d≠r:=fun e=>by rw[<- e,kB hf]at hR;simp at hR
  refine⟨R',?_,rfl,fun _=>by simp[Gh.at,Ne.symm cY]⟩;show look ((d,R)::st.rt) r=_;rw[aN,if_neg cY];exact hR
 cell:=fun r j c hc=>by
  have cY:d≠r:=fun e=>by simp only[St.cell,<- e,kB hf]at hc;simp at hc
  have HW:¬ r=d:=fun e=>cY e.symm
  refine⟨c,?_,oR _,oR _,fun _=>by simp[Gh.at,HW],fun _ e ks xs hh=>⟨xs,hh,rfl⟩,fun _ _=>⟨rfl,fun b cz aV=>⟨by simp[Gh.at,HW];exact cz,hb b aV⟩⟩⟩;show(match look ((d,R)::st.rt) r with | some R=>R.cells[j]? | none=>none)=_;rw[aN,if_neg cY];exact hc
 own:=fun r j b cz=>(h.fp r j b cz).1
 block:=fun r j c e ks xs hc hv b o l cap hg=>by have:=fj h hc hv;rw[hg]at this;exact(Cu this rfl).1
theorem Rel.yB(h:Rel cx Z g st a w){d:Nat}{tv:TV}{R:Rt}{v:Value}{Z':Nat->Prop}{w':World}{be:Nat}{cv:Nat->Value}{fp:Nat->Nat->Prop}(hd:kR cx a d)(hf:st.free d=true)
 (hn:ahz Z Z' w w' (g.at d be cv fp) (st.ba d (tv,some R)) d R)(ht:bW Z' (g.at d be cv fp) (st.ba d (tv,some R)) w' tv v) :
 Rel cx Z' (g.at d be cv fp) (st.ba d (tv,some R)) (a.put (some d) v) w':=by
 have k:=Gy (tv:=tv) (R:=R) (be:=be) (cv:=cv) (fp:=fp) h hf hn.size hn.block hn.zle;have mO:∀ r,look (st.ba d (tv,some R)).rt r=if d=r then some R else look st.rt r:=fun r=>aN _ _ _ _
 have HX:∀ r j,r≠d->(g.at d be cv fp).fp r j=g.fp r j:=fun r j hr=>by simp[Gh.at,hr]
 have Pb:∀ r j,r≠d->(g.at d be cv fp).cv r j=g.cv r j:=fun r j hr=>by simp[Gh.at,hr]
 have hg3:∀ r,r≠d->(g.at d be cv fp).be r=g.be r:=fun r hr=>by simp[Gh.at,hr]
 have bD:∀ r j,(st.ba d (tv,some R)).cell r j=if d=r then R.cells[j]? else st.cell r j:=fun r j=>by simp only[St.cell,mO];by_cases hh:d=r <;> simp[hh]
 refine { os:=hn.os.trans h.os,tape:=hn.tape.trans h.tape,output:=hn.output.trans h.output,size:=amp h.size hn.size,block:=?_,cq:=?_,z0:=fun b h1 h2=>hn.zle b (h.z0 b h1 h2),fp:=?_,cS:=?_,box:=?_,cell:=?_,tm:=?_,defers:=by rw[put_defers];exact h.defers,nz:=Lr h hd v }
 . exact fun b hb hfb=>(hn.block b (amG hb h.size)).trans (h.block b hb hfb)
 . intro b hb;rcases hn.cq b hb with h1 | ⟨h1,h2⟩
   . exact⟨amG (h.cq b h1).1 hn.size,(h.cq b h1).2⟩
   . exact⟨h2,.inr (amp h.size h1)⟩
 . intro r j b hb;by_cases hr:r=d
   . subst hr;obtain⟨h1,h2,h3,c,kk,x,h4,h5⟩:=hn.fp j b hb;exact⟨h2,.inr (amp h.size h1),h3,c,kk,x,by rw[bD,if_pos rfl];exact h4,h5⟩
   . rw[HX r j hr]at hb;obtain⟨h1,h2,h3,c,kk,x,h4,h5⟩:=h.fp r j b hb;refine⟨amG h1 hn.size,h2,fun hz=>?_,c,kk,x,by rw[bD,if_neg (fun e=>hr e.symm)];exact h4,h5⟩;rcases hn.cq b hz with hz | ⟨hz,_⟩
     . exact h3 hz
     . omega
 . intro r j r' j' b h1 h2;by_cases hr:r=d
   . by_cases nO:r'=d
     . subst hr;subst nO;exact⟨rfl,hn.cS j j' b h1 h2⟩
     . subst hr;rw[HX r' j' nO]at h2;have:=(hn.fp j b h1).1;have:=(h.fp r' j' b h2).1;omega
   . by_cases nO:r'=d
     . subst nO;rw[HX r j hr]at h1;have:=(hn.fp j' b h2).1;have:=(h.fp r j b h1).1;omega
     . rw[HX r j hr]at h1;rw[HX r' j' nO]at h2;exact h.cS r j r' j' b h1 h2
 . intro r R' hR hb;rw[mO]at hR;by_cases hr:r=d
   . subst hr;rw[if_pos rfl]at hR;simp only[amh]at hR;subst hR;obtain⟨b1,b2,b3,b4⟩:=hn.box hb;refine⟨.inr (amp h.size b1),b2,fun r' j' yn=>?_,fun r' Yd mP xt he=>?_,b4⟩
     . by_cases nO:r'=r
       . subst nO;exact b3 j' yn
       . rw[HX r' j' nO]at yn;have:=(h.fp r' j' _ yn).1;omega
     . rw[mO]at mP;by_cases nO:r=r'
       . exact nO.symm
       . rw[if_neg nO]at mP;rw[hg3 r' (fun e=>nO e.symm)]at he;obtain⟨_,_,_,_,cs,e,fr,lE,_⟩:=h.box r' Yd mP xt;have:g.be r'<w.heap.size:=by
          rcases amz (g.be r') w.heap.size with hh | hh
          . exact hh
          . simp[amC hh]at lE
         omega
   . rw[if_neg (fun e=>hr e.symm)]at hR;obtain⟨b1,b2,b3,b4,cs,e,fr,b5,b6⟩:=h.box r R' hR hb;have aV:g.be r<w.heap.size:=by
      rcases amz (g.be r) w.heap.size with hh | hh
      . exact hh
      . simp[amC hh]at b5
     rw[hg3 r hr];refine⟨b1,fun hz=>?_,fun r' j' yn=>?_,fun r' Yd mP xt he=>?_,cs,e,fr,by rw[hn.block _ aV];exact b5,b6.1,b6.2.1,fun j hj=>by rw[Pb r j hr];exact b6.2.2 j hj⟩
     . rcases hn.cq _ hz with hz | ⟨hz,_⟩
       . exact b2 hz
       . omega
     . by_cases nO:r'=d
       . subst nO;have:=(hn.fp j' _ yn).1;omega
       . rw[HX r' j' nO]at yn;exact b3 r' j' yn
     . rw[mO]at mP;by_cases nO:d=r'
       . subst nO;rw[if_pos rfl]at mP;simp only[amh]at mP;subst mP;have:=(hn.box xt).1;omega
       . rw[if_neg nO]at mP;rw[hg3 r' (fun e=>nO e.symm)]at he;exact b4 r' Yd mP xt he
 . intro r j c hc;rw[bD]at hc;by_cases hr:d=r
   . subst hr;rw[if_pos rfl]at hc;exact hn.cell j c hc
   . rw[if_neg hr]at hc;have nO:r≠d:=fun e=>hr e.symm
     rw[Pb r j nO,HX r j nO];exact lh.cI k _ _ _ _ (h.cell r j c hc) (fun _ h=>h) (fun b _ aV=>hn.block b aV)
 . intro t kq ym;have xr:look ((d,tv)::st.tm) t=some kq:=ym;rw[aN]at xr;rw[vg,ET _ _ _ _ hd.1];by_cases hh:d=t
   . rw[if_pos hh]at xr ⊢;cases xr;exact⟨hh ▸ hd.1,ht⟩
   . rw[if_neg hh]at xr ⊢;exact⟨(h.tm t kq xr).1,bW.cI k _ _ (h.tm t kq xr).2⟩
theorem Rel.DX(h:Rel cx Z g st a w){Z':Nat->Prop}{w':World}(h1:w'.os=w.os)(h2:w'.tape=w.tape)(h3:w'.output=w.output)(hs:w.heap.size<=w'.heap.size)
 (hb:∀ b,b<w.heap.size->w'.heap[b]? = w.heap[b]?)(hz:∀ b,Z b->Z' b)(uu:∀ b,Z' b->Z b∨(w.heap.size<=b/\b<w'.heap.size)):Rel cx Z' g st a w':=by
 have k:nW Z Z' w w' g g st st:=
  { size:=hs,z:=fun b cz aV=>⟨hz b cz,hb b aV⟩,root:=fun r R hR=>⟨R,hR,rfl,fun _=>rfl⟩
    cell:=fun r j c hc=>⟨c,hc,oR _,oR _,fun _=>rfl,fun _ e ks xs hh=>⟨xs,hh,rfl⟩,fun _ _=>⟨rfl,fun b cz aV=>⟨cz,hb b aV⟩⟩⟩
    own:=fun r j b cz=>(h.fp r j b cz).1
    block:=(fY h (ay:=st) (w':=w) rfl rfl).block }
 refine { os:=h1.trans h.os,tape:=h2.trans h.tape,output:=h3.trans h.output,size:=amp h.size hs,block:=?_,cq:=?_,z0:=fun b h1 h2=>hz b (h.z0 b h1 h2),fp:=?_,cS:=h.cS,box:=?_,cell:=?_,tm:=?_,defers:=h.defers,nz:=h.nz }
 . exact fun b cz hfb=>(hb b (amG cz h.size)).trans (h.block b cz hfb)
 . intro b cz;rcases uu b cz with h1 | ⟨h1,h2⟩
   . exact⟨amG (h.cq b h1).1 hs,(h.cq b h1).2⟩
   . exact⟨h2,.inr (amp h.size h1)⟩
 . intro r j b cz;obtain⟨h1,h2,h3,h4⟩:=h.fp r j b cz;refine⟨amG h1 hs,h2,fun Uc=>?_,h4⟩;rcases uu b Uc with Uc | ⟨Uc,_⟩
   . exact h3 Uc
   . omega
 . intro r R hR nP;obtain⟨b1,b2,b3,b4,cs,e,fr,b5,b6⟩:=h.box r R hR nP;have aV:g.be r<w.heap.size:=by
    rcases amz (g.be r) w.heap.size with hh | hh
    . exact hh
    . simp[amC hh]at b5
   refine⟨b1,fun Uc=>?_,b3,b4,cs,e,fr,by rw[hb _ aV];exact b5,b6⟩;rcases uu _ Uc with Uc | ⟨Uc,_⟩
   . exact b2 Uc
   . omega
 . intro r j c hc;exact lh.cI k _ _ _ _ (h.cell r j c hc) (fun _ h=>h) (fun b _ aV=>hb b aV)
 . exact fun t tv ht=>⟨(h.tm t tv ht).1,bW.cI k _ _ (h.tm t tv ht).2⟩
end
def zV:K->Value
 | .int k=> .int k 0
 | .bool=> .bool false
 | .str=> .string (fQ [])
 | .sl _ _=> .slice none 0 0
def jE(P:Program)(ti:TI):TypeDesc->Prop
 | .struct fs=>ti.agg=true/\(∀ f o u,NX ti.pV f=some (o,u)->∃ fi,fs[f]? = some fi/\fi.offset=o/\fi.type=u)/\(∀ fi,fi∈fs.toList->∃ i,P.info? fi.type=some i/\i.size≠0)
 | .slice e=>ti.agg=false/\∃ ks,ti.ks=[.sl e ks]/\ti.elem=e
 | .int k=>ti.agg=false/\ti.ks=[.int k]
 | .bool=>ti.agg=false/\ti.ks=[.bool]
 | .string=>ti.agg=false/\ti.ks=[.str]
 | _=>False
structure rH (P:Program) (t:Nat) (ti:TI):Prop where
 info:∃ i,P.info? t=some i/\i.size=ti.ks.length/\i.bytes=ti.bytes/\∃ z,i.zero=some z/\z.cells.toList=ti.ks.map zV
 desc:∃ d,P.underlying t=some d/\jE P ti d
def cH(P:Program)(E:En):Prop:=∀ t ti,E.ti t=some ti->rH P t ti
section
variable{P:Program}{cx:Cx P}{Z:Nat->Prop}{g:Gh}{st:St}{a:Act}{w:World}{E:En}
theorem dz{t:TypeId}{ti:TI}(h:rH P t ti)(w:World):(sizeOf t).run P w= .ok ti.ks.length w:=by obtain⟨i,h1,h2,_⟩:=h.info;simp[sizeOf,typeInfo,h1,h2]
theorem Ca{t:TypeId}{ti:TI}(h:rH P t ti)(w:World):∃ i,(typeInfo t).run P w= .ok i w/\i.size=ti.ks.length/\i.bytes=ti.bytes:=by obtain⟨i,h1,h2,h3,_⟩:=h.info;exact⟨i,by simp[typeInfo,h1],h2,h3⟩
theorem uV{t:TypeId}{ti:TI}(h:rH P t ti)(w:World):∃ z,(zeroValue t).run P w= .ok z w/\z.cells.toList=ti.ks.map zV:=by obtain⟨i,h1,h2,h3,z,h4,h5⟩:=h.info;exact⟨z,by simp[zeroValue,typeInfo,h1,h4],h5⟩
theorem rB{t:TypeId}{ti:TI}(h:rH P t ti)(w:World):(isAgg t).run P w= .ok ti.agg w:=by obtain⟨d,h1,h2⟩:=h.desc;cases d <;> simp only[jE]at h2 <;> simp[isAgg,amM h1,h2.1]
theorem gO(b o n:Nat):(⟨b,o,none⟩:Addr).add n=⟨b,o+n,none⟩:=by
 unfold Addr.add;split
 . rename_i h;subst h;rfl
 . rfl
def lR(w:World)(b o:Nat)(vs:List Value):Prop:=∀(j:Nat) (v:Value),vs[j]? = some v->w.cell? ⟨b,o+j,none⟩=some v
theorem lR.cons{w:World}{b o:Nat}{v:Value}{vs:List Value}(h1:w.cell? ⟨b,o,none⟩=some v)(h2:lR w b (o+1) vs):lR w b o (v::vs):=fun j u hj=>by
 cases j with
 | zero=>simp at hj;subst hj;exact h1
 | succ j=>simp at hj;rw[show o+(j+1)=o+1+j by omega];exact h2 j u hj
theorem xE{t:TypeId}{ti:TI}(h:rH P t ti){w:World}{b o:Nat}{vs:List Value}(hl:vs.length=ti.ks.length)(hc:lR w b o vs) :
 ∃ v,(loadVar t ⟨b,o,none⟩).run P w= .ok v w/\(match ti.agg with | true=>v= .agg vs.toArray | false=>vs=[v]):=by
 cases HY:ti.agg with
 | true=>refine⟨.agg vs.toArray,?_,rfl⟩;have hr:=rB h w;rw[HY]at hr;have hll:=run_loadCells_list (P:=P) w ⟨b,o,none⟩ vs (fun j v hj=>by rw[gO];exact hc j v hj);rw[hl]at hll;simp[loadVar,hr,dz h w,hll]
 | false=>
   have hr:=rB h w;rw[HY]at hr;obtain⟨d,h1,h2⟩:=h.desc;have ON:ti.ks.length=1:=by
    cases d <;> simp only[jE]at h2
    all_goals first
     | (simp[h2.2];done)
     | (obtain⟨_,ks,e,_⟩:=h2;simp[e];done)
     | (rw[h2.1]at HY;simp at HY;done)
   match vs,hl with
   | [],hl=>simp[ON]at hl
   | [v],hl=>have:=hc 0 v rfl;simp only[amN]at this;exact⟨v,by simp[loadVar,hr,this],rfl⟩
   | _::_::_,hl=>simp[ON]at hl
theorem JD{Z:Nat->Prop}{w:World}{ks:List K}{x:Tl ks}{b o c:Nat}{sl:(k:K)->T k->AV}{av:AV}(h:rR Z w ks x b o)(hc:Jq ks x c sl=some av) :
 ∃ v k y,w.cell? ⟨b,o+c,none⟩=some v/\cellAt ks x c=some ⟨k,y⟩/\RO Z w k y v/\((∃ e bZ,k= .sl e bZ)/\av=sl k y∨(tB k=false)/\av= .d k y):=by
 unfold Jq at hc;split at hc
 . rename_i e bZ y hy;simp only[amh]at hc;obtain⟨v,h1,h2⟩:=qi ks x b o c _ _ h hy;exact⟨v,_,_,h1,hy,h2,.inl ⟨⟨e,bZ,rfl⟩,hc.symm⟩⟩
 . rename_i k y hns hy;simp only[amh]at hc;obtain⟨v,h1,h2⟩:=qi ks x b o c _ _ h hy;refine⟨v,k,y,h1,hy,h2,.inr ⟨?_,hc.symm⟩⟩;cases k with
   | sl e bZ=>exact(hns e bZ y rfl HEq.rfl).elim
   | _=>rfl
 . simp at hc
theorem gL{Z Z':Nat->Prop}{w:World}{k:K}{y:T k}{v:Value}(hk:tB k=false)(h:RO Z w k y v):RO Z' w k y v:=by
 cases k with
 | sl e ks=>simp[tB]at hk
 | _=>exact h
theorem zj(h:Rel cx Z g st a w){p:AV}{v:Value}{n:Nat}{l:List AV}(hp:bC Z g st w p v)(hl:st.load n p=some l) :
 ∃ b o vs,v= .pointer (some ⟨b,o,none⟩)/\vs.length=n/\lR w b o vs/\a8 Z g st w l vs:=by
 have els_go:∀(ks:List K) (x:Tl ks) (b o:Nat) (Z':Nat->Prop) (sl:Nat->(k:K)->T k->AV),rR Z' w ks x b o ->
  (∀ c k y v,cellAt ks x c=some ⟨k,y⟩->w.cell? ⟨b,o+c,none⟩=some v->RO Z' w k y v->bC Z g st w (sl c k y) v) ->
  ∀(n c:Nat) (l:List AV),pG ks x sl c n=some l->∃ vs,vs.length=n/\lR w b (o+c) vs/\a8 Z g st w l vs:=by
  intro ks x b o Z' sl ur E8 n;induction n with
  | zero=>intro c l hl;simp only[pG,amh]at hl;subst hl;exact⟨[],rfl,fun j v hj=>by simp at hj,trivial⟩
  | succ n ih=>
    intro c l hl;simp only[pG]at hl;split at hl
    . rename_i av l' h1 h2;simp only[amh]at hl;subst hl;obtain⟨vs,e1,e2,e3⟩:=ih (c+1) l' h2;obtain⟨v,k,y,g1,g2,g3,g4⟩:=JD ur h1;refine⟨v::vs,by simp[e1],lR.cons g1 (by rw[show o+c+1=o+(c+1)by omega];exact e2),?_,e3⟩;rcases g4 with ⟨_,rfl⟩ | ⟨hk,rfl⟩
      . exact E8 c k y v g2 g1 g3
      . exact gL hk g3
    . simp at hl
 cases p with
 | ptr r j=>
   obtain⟨R,h1,h2,rfl⟩:=hp;obtain⟨_,_,_,_,cs,e,fr,b1,b2,b3,b4⟩:=h.box r R h1 h2;refine⟨g.be r,j,?_⟩;simp only[St.load]at hl;have key:∀(n j:Nat) (l:List AV),st.dV r j n=some l->∃ vs,vs.length=n/\lR w (g.be r) j vs/\a8 Z g st w l vs:=by
    intro n;induction n with
    | zero=>intro j l hl;simp only[St.dV,amh]at hl;subst hl;exact⟨[],rfl,fun j v hj=>by simp at hj,trivial⟩
    | succ n ih=>
      intro j l hl;simp only[St.dV]at hl;split at hl
      . rename_i av l' g1 g2;simp only[amh]at hl;subst hl;obtain⟨vs,e1,e2,e3⟩:=ih (j+1) l' g2;unfold St.kH at g1;cases hc:st.cell r j with
        | none=>simp[hc]at g1
        | some c=>
          have hcj:R.cells[j]? = some c:=by simpa[St.cell,h1]using hc
          have aln:j<cs.size:=by
           rw[b3];rcases amz j R.cells.length with hh | hh
           . exact hh
           . simp[amA hh]at hcj
          refine⟨g.cv r j::vs,by simp[e1],lR.cons (by simp[World.cell?,b1,b4 j aln]) e2,?_,e3⟩;obtain⟨fT,cm,cv⟩:=c;cases cv with
          | own k x=>simp only[hc,amh]at g1;subst g1;exact⟨_,hc,oR _,fun _=>rfl⟩
          | av x=>simp only[hc,amh]at g1;subst g1;exact yC h hc rfl
      . simp at hl
   obtain⟨vs,e1,e2,e3⟩:=key n j l hl;exact⟨vs,rfl,e1,e2,e3⟩
 | pel r j s i q=>
   obtain⟨c,h1,h2,h3⟩:=hp;obtain⟨cs,cm,cv⟩:=c;cases cv with
   | av _=>simp[St.load,h1]at hl
   | own k x=>
     cases k with
     | int _=>simp[St.load,h1]at hl
     | bool=>simp[St.load,h1]at hl
     | str=>simp[St.load,h1]at hl
     | sl e ks=>
       simp only[St.load,h1]at hl;cases hb:Nat.beq cs s with
       | false=>simp[hb]at hl
       | true=>simp only[hb,oT]at hl;obtain⟨e',bZ,rW,g1,g2,b,o,len,cap,g4,rfl⟩:=h3 (beq_eq hb);simp only[RV.own.injEq,K.sl.injEq]at g1;obtain⟨⟨rfl,rfl⟩,g1⟩:=g1;cases g1;have ur:=dG.ro (Z:=iR w) _ _ _ _ (fun b hb=>(h.fp r j b hb).1) (fj h h1 rfl);rw[g4]at ur;obtain⟨aa,c',u1,u2,u3,u4,u5⟩:=ur;simp only[anj]at u1;obtain⟨rfl,rfl,rfl⟩:=u1;obtain⟨b',o',v1,v2,v3,v4⟩:=u5 (by intro h0;rw[h0]at g2;simp at g2);simp only[amh,anJ,anQ]at v1;obtain⟨rfl,rfl⟩:=v1;obtain⟨vs,e1,e2,e3⟩:=els_go ks (hE x i) b (o+i * ks.length) (iR w) (fun c' _ _=> .pref r j s cm i c') (v4 i _ (nY x g2)) (fun c k y v hy hv hr=>⟨_,h1,by rw[beq_eq hb];exact oR _,oR _,fun _ _=>⟨e,ks,x,rfl,g2,CS _ _ _ _ _ hy,b,o,_,cap,g4,hv⟩⟩) n q l hl;exact⟨b,o+i * ks.length+q,vs,rfl,e1,e2,e3⟩
 | rp dep e ks xs i q=>
   cases dep with
   | none=>
     obtain⟨h0,b,o,g1,g2,rfl,g4⟩:=hp;simp only[St.load]at hl;have hx:xs[i]? = some (xs.getD i (jv ks)):=by simp[List.getD,h0]
     obtain⟨vs,e1,e2,e3⟩:=els_go ks _ b (o+i * ks.length) Z (fun _ k y=> .d k y) (g4 i _ hx) (fun c k y v _ _ hr=>hr) n q l hl;exact⟨b,o+i * ks.length+q,vs,rfl,e1,e2,e3⟩
   | some dd=>
     obtain⟨r,j,s,m⟩:=dd;obtain⟨c,h1,h2,h3,h4⟩:=hp;simp only[St.load,h1]at hl;cases hb:Nat.beq c.s s&&Nat.beq c.m m with
     | false=>simp[hb]at hl
     | true=>
       simp only[hb,oT]at hl;simp only[ami]at hb;obtain⟨h0,b,o,g1,g2,rfl,g4⟩:=h4 (beq_eq hb.1) (beq_eq hb.2);have hx:xs[i]? = some (xs.getD i (jv ks)):=by simp[List.getD,h0]
       obtain⟨vs,e1,e2,e3⟩:=els_go ks _ b (o+i * ks.length) _ (fun _ k y=> .b r j s m k y) (g4 i _ hx) (fun c' k y v _ _ hr=>⟨c,h1,h2,h3,fun _ _=>hr⟩) n q l hl;exact⟨b,o+i * ks.length+q,vs,rfl,e1,e2,e3⟩
 | _=>simp[St.load]at hl
end
theorem hU(k:IntKind)(n:Int):pT k (k.wrap n):=by
 unfold pT
 cases k <;> simp only[IntKind.wrap,IntKind.min,IntKind.max,IntKind.signed,IntKind.bits,aoh,Bool.false_and,if_true] <;> (try simp only[am1,anz]) <;>
  (constructor <;> (try split) <;> simp_all <;> omega)
theorem Lk{k:IntKind}{n:Int}(h:pT k n):k.wrap n=n:=by
 unfold pT at h
 cases k <;> simp only[IntKind.wrap,IntKind.min,IntKind.max,IntKind.signed,IntKind.bits,aoh,Bool.false_and,if_true,am1,anz]at h ⊢ <;>
  (try split) <;> simp_all <;> omega
theorem xM{k:IntKind}{n m:Int}(h:pT k m)(h1:(m<=n/\n<=0)∨(0<=n/\n<=m)∨(m<=n/\n <= -1)):pT k n:=by
 unfold pT at *
 cases k <;> simp only[IntKind.min,IntKind.max,IntKind.signed,IntKind.bits,if_true,am1,anz]at h ⊢ <;> simp at h ⊢ <;> omega
theorem S9{k:IntKind}{m:Int}(b:Int)(h:pT k m):pT k (m.tmod b):=by
 refine xM h ?_;rcases Int.le_total 0 m with h1 | h1
 . have:=Int.tmod_nonneg b h1;have h2:m.tmod b<=m:=by
    have e:=anB (b:=b) h1;rw[e];rcases Int.lt_trichotomy b 0 with hb | hb | hb
    . have h3:=Int.emod_neg m b;have:=Int.emod_nonneg m (show -b≠0 by omega);have h5:=aon m (-b);have h6:0<=m / (-b):=aoy h1 (by omega);have h7:0<=(-b) * (m / (-b)):=aoR (by omega) h6;omega
    . subst hb;simp
    . have h5:=aon m b;have h6:0<=m / b:=aoy h1 (by omega);have h7:0<=b * (m / b):=aoR (by omega) h6;omega
   exact .inr (.inl ⟨this,h2⟩)
 . refine .inl ?_;have e:m.tmod b = -((-m).tmod b):=by rw[Int.neg_tmod,Int.neg_neg]
   have vP:0 <= -m:=by omega
   have:=Int.tmod_nonneg b vP;have h2:(-m).tmod b <= -m:=by
    have e:=anB (b:=b) vP;rw[e];rcases Int.lt_trichotomy b 0 with hb | hb | hb
    . have h3:=Int.emod_neg (-m) b;have h5:=aon (-m) (-b);have h6:0<=(-m) / (-b):=aoy vP (by omega);have h7:0<=(-b) * ((-m) / (-b)):=aoR (by omega) h6;omega
    . subst hb;simp
    . have h5:=aon (-m) b;have h6:0<=(-m) / b:=aoy vP (by omega);have h7:0<=b * ((-m) / b):=aoR (by omega) h6;omega
   omega
theorem Rf{k:IntKind}{m:Int}(n:Nat)(h:pT k m):pT k (m.fdiv (2 ^ n)):=by
 refine xM h ?_;have hp:(0:Int)<2 ^ n:=Int.pow_pos (by decide);have yo:(1:Int)<=2 ^ n:=hp;have e:m.fdiv (2 ^ n)=m / 2 ^ n:=Int.fdiv_eq_ediv_of_nonneg m (by omega);rw[e];generalize (2:Int) ^ n=q at *
 have h5:=aon m q;have h6:=Int.emod_nonneg m (show q≠0 by omega);have h7:=Int.emod_lt_of_pos m hp;rcases Int.le_total 0 m with h1 | h1
 . have h8:0<=m / q:=aoy h1 (by omega);have h9:m / q<=q * (m / q):=by
    have:=Int.mul_le_mul_of_nonneg_right yo h8;simpa using this
   exact .inr (.inl ⟨h8,by omega⟩)
 . rcases Int.lt_or_le (m / q) 0 with h8 | h8
   . refine .inr (.inr ⟨?_,by omega⟩);rcases Int.lt_or_le (m / q) m with h9 | h9
     . exfalso;have E9:q * (m / q)<=q * (m-1):=aoA (by omega) (by omega);have h11:q * (m-1)<=1 * (m-1):=by
        have:=Int.mul_le_mul_of_nonpos_right yo (show m-1<=0 by omega);simpa using this
       have h12:q * (m-1)=q * m-q:=by rw[Int.mul_sub,Int.mul_one]
       have h13:q * m<=1 * m:=Int.mul_le_mul_of_nonpos_right yo h1;omega
     . exact h9
   . have E9:0<=q * (m / q):=aoR (by omega) h8;exact .inl ⟨by omega,by
      rcases Int.lt_or_le 0 (m / q)with h11 | h11
      . have h12:q * 1<=q * (m / q):=aoA (by omega) (by omega);omega
      . exact h11⟩
section
variable{P:Program}{cx:Cx P}{Z:Nat->Prop}{g:Gh}{st:St}{a:Act}{w:World}{E:En}
theorem gG{tv:TV}{v:Value}{k:IntKind}{n:Int}(h:bW Z g st w tv v)(hi:tv.int? = some (k,n)):v= .int k n/\pT k n:=by
 cases tv with
 | v a=>
   cases a with
   | d kk x=>
     cases kk with
     | int k'=>simp only[TV.int?,AV.int?,amh,amO]at hi;obtain⟨rfl,rfl⟩:=hi;exact h
     | _=>simp[TV.int?,AV.int?]at hi
   | _=>simp[TV.int?,AV.int?]at hi
 | _=>simp[TV.int?]at hi
theorem wo{tv:TV}{v:Value}{x:Bool}(h:bW Z g st w tv v)(hi:tv.bool? = some x):v= .bool x:=by
 cases tv with
 | v a=>
   cases a with
   | lb y=>simp only[TV.bool?,AV.bool?,amh]at hi;subst hi;exact h
   | d kk y=>
     cases kk with
     | bool=>simp only[TV.bool?,AV.bool?]at hi;cases hi;exact h
     | _=>simp[TV.bool?,AV.bool?]at hi
   | _=>simp[TV.bool?,AV.bool?]at hi
 | _=>simp[TV.bool?]at hi
theorem oO{tv:TV}{v:Value}{s:S8}(h:bW Z g st w tv v)(hi:tv.pr = some s):v= .string (fQ s)/\s.length<=bQ:=by
 cases tv with
 | v a=>
   cases a with
   | d kk y=>
     cases kk with
     | str=>simp only[TV.pr,AV.pr]at hi;cases hi;exact h
     | _=>simp[TV.pr,AV.pr]at hi
   | _=>simp[TV.pr,AV.pr]at hi
 | _=>simp[TV.pr]at hi
theorem Qf{r j s m:Nat}{e:TypeId}{ks:List K}{x:List (Tl ks)}{v:Value}(h:bW Z g st w (.bc r j s m e ks x) v):bC Z g st w (.b r j s m (.sl e ks) x) v:=by obtain⟨c,h1,h2,h3,h4⟩:=h;exact⟨c,h1,h2,h3,fun e1 e2=>(h4 e1 e2).ro⟩
theorem uW{tv:TV}{v:Value}{x:AV}(h:bW Z g st w tv v)(hi:tv.Ii = some x):bC Z g st w x v:=by
 cases tv with
 | v a=>simp only[TV.Ii,amh]at hi;subst hi;exact h
 | bc r j s m e ks x=>simp only[TV.Ii,amh]at hi;subst hi;exact Qf h
 | _=>simp[TV.Ii]at hi
theorem lj(s:S8):(fQ s).size=s.length:=by simp[fQ,ByteArray.size]
theorem Js(s t:S8):fQ s++fQ t=fQ (s++t):=by apply apd;simp[fQ]
theorem kE(s:S8):(fQ s).toList=s:=ByteArray.toList_mk s
theorem M0{op:BinOp}{k:IntKind}{x y:Int}{av:AV}(hx:pT k x)(hs:yJ op=false)(h:(Pp op k x y).run=some av)(t:TypeId)(ox oy:Operand)(w:World) :
 ∃ v,((do eqGuard op t ox oy (.int k x) (.int k y);binOp op t (.int k x) (.int k y)):Sem Value).run P w= .ok v w/\bC Z g st w av v/\v.oneCell'=true:=by
 have hg:∀ w,(eqGuard op t ox oy (.int k x) (.int k y)).run P w= .ok () w:=fun w=>by unfold eqGuard;cases op <;> simp
 cases op <;> simp only[yJ,Bool.true_eq_false,am1]at hs <;> simp only[Pp,Tr.run,amh,reduceCtorEq]at h
 case add=>subst h;exact⟨.int k (k.wrap (x+y)),by simp[hg,binOp,Op.intArith],⟨rfl,hU _ _⟩,rfl⟩
 case sub=>subst h;exact⟨.int k (k.wrap (x-y)),by simp[hg,binOp,Op.intArith],⟨rfl,hU _ _⟩,rfl⟩
 case mul=>subst h;exact⟨.int k (k.wrap (x * y)),by simp[hg,binOp,Op.intArith],⟨rfl,hU _ _⟩,rfl⟩
 case quo=>
  obtain⟨h0,h⟩:=Tr.bT h;simp only[Tr.run,amh]at h;subst h;have hy:y≠0:=by simpa[aj]using h0
  exact⟨.int k (k.wrap (x.tdiv y)),by simp[hg,binOp,Op.intDiv,hy],⟨rfl,hU _ _⟩,rfl⟩
 case rem=>
  obtain⟨h0,h⟩:=Tr.bT h;simp only[Tr.run,amh]at h;subst h;have hy:y≠0:=by simpa[aj]using h0
  exact⟨.int k (x.tmod y),by simp[hg,binOp,Op.intDiv,hy],⟨rfl,S9 _ hx⟩,rfl⟩
 case and=>subst h;exact⟨.int k (k.wrap ((BitVec.ofInt k.bits x &&& BitVec.ofInt k.bits y).toNat:Int)),by simp[hg,binOp,Op.intBits],⟨rfl,hU _ _⟩,rfl⟩
 case or=>subst h;exact⟨.int k (k.wrap ((BitVec.ofInt k.bits x ||| BitVec.ofInt k.bits y).toNat:Int)),by simp[hg,binOp,Op.intBits],⟨rfl,hU _ _⟩,rfl⟩
 case xor=>subst h;exact⟨.int k (k.wrap ((BitVec.ofInt k.bits x ^^^ BitVec.ofInt k.bits y).toNat:Int)),by simp[hg,binOp,Op.intBits],⟨rfl,hU _ _⟩,rfl⟩
 case eql=>subst h;exact⟨.bool (x == y),by simp[hg,binOp,Op.intCmp],rfl,rfl⟩
 case neq=>subst h;exact⟨.bool (x != y),by simp[hg,binOp,Op.intCmp],rfl,rfl⟩
 case lss=>subst h;exact⟨.bool (decide (x<y)),by simp[hg,binOp,Op.intCmp],rfl,rfl⟩
 case leq=>subst h;exact⟨.bool (decide (x<=y)),by simp[hg,binOp,Op.intCmp],rfl,rfl⟩
 case gtr=>subst h;exact⟨.bool (decide (x > y)),by simp[hg,binOp,Op.intCmp],rfl,rfl⟩
 case geq=>subst h;exact⟨.bool (decide (x ≥ y)),by simp[hg,binOp,Op.intCmp],rfl,rfl⟩
theorem G9{op:BinOp}{k k':IntKind}{x y:Int}{av:AV}(hx:pT k x)(h:(Eg op k x y).run=some av)(t:TypeId)(ox oy:Operand)(w:World) :
 ∃ v,((do eqGuard op t ox oy (.int k x) (.int k' y);binOp op t (.int k x) (.int k' y)):Sem Value).run P w= .ok v w/\bC Z g st w av v/\v.oneCell'=true:=by
 have hg:∀ w,(eqGuard op t ox oy (.int k x) (.int k' y)).run P w= .ok () w:=fun w=>by unfold eqGuard;cases op <;> simp
 cases op <;> simp only[Eg,Tr.run,amh,reduceCtorEq]at h
 case shl=>
  obtain⟨h0,h⟩:=Tr.bT h;simp only[Tr.run,amh]at h;subst h
  have hy:¬ y<0:=by have:0<=y:=by simpa using h0
                    omega
  exact⟨.int k (k.wrap (x * 2 ^ min y.toNat k.bits)),by simp[hg,binOp,Op.shift,hy],⟨rfl,hU _ _⟩,rfl⟩
 case shr=>
  obtain⟨h0,h⟩:=Tr.bT h;simp only[Tr.run,amh]at h;subst h
  have hy:¬ y<0:=by have:0<=y:=by simpa using h0
                    omega
  exact⟨.int k (x.fdiv (2 ^ min y.toNat k.bits)),by simp[hg,binOp,Op.shift,hy],⟨rfl,Rf _ hx⟩,rfl⟩
theorem Mx{op:BinOp}{s u:S8}{av:AV}(h:(Rw op s u).run=some av)(t:TypeId)(ox oy:Operand)(w:World) :
 ∃ v,((do eqGuard op t ox oy (.string (fQ s)) (.string (fQ u));binOp op t (.string (fQ s)) (.string (fQ u))):Sem Value).run P w= .ok v w/\bC Z g st w av v/\v.oneCell'=true:=by
 have hg:∀ w,(eqGuard op t ox oy (.string (fQ s)) (.string (fQ u))).run P w= .ok () w:=fun w=>by unfold eqGuard;cases op <;> simp
 cases op <;> simp only[Rw,Tr.run,amh,reduceCtorEq]at h
 case add=>
  obtain⟨h0,h⟩:=Tr.bT h;simp only[Tr.run,amh]at h;subst h;have hb:s.length+u.length<=bQ:=amE h0;have cz:¬ ((((fQ s).size+(fQ u).size:Nat):Int) > IntKind.i64.max):=by
   rw[lj,lj];have:IntKind.i64.max=9223372036854775807:=by rfl
   rw[this];unfold bQ at hb;omega
  exact⟨.string (fQ (s++u)),by simp only[amJ,hg,amu,binOp,Op.stringOp,cz,anz,Js];rfl,⟨rfl,by show(s++u).length<=bQ;rw[amj];exact hb⟩,rfl⟩
 case eql=>subst h;exact⟨.bool (s == u),by simp[hg,binOp,Op.stringOp,kE],rfl,rfl⟩
 case neq=>subst h;exact⟨.bool (!(s == u)),by simp[hg,binOp,Op.stringOp,kE],rfl,rfl⟩
 case lss=>subst h;exact⟨.bool (Op.bytesLess s u),by simp[hg,binOp,Op.stringOp,kE],rfl,rfl⟩
 case leq=>subst h;exact⟨.bool (Op.bytesLess s u||s == u),by simp[hg,binOp,Op.stringOp,kE],rfl,rfl⟩
 case gtr=>subst h;exact⟨.bool (!(Op.bytesLess s u||s == u)),by simp[hg,binOp,Op.stringOp,kE],rfl,rfl⟩
 case geq=>subst h;exact⟨.bool (!(Op.bytesLess s u)),by simp[hg,binOp,Op.stringOp,kE],rfl,rfl⟩
end
def ea(P:Program)(cx:Cx P)(st:St)(a:Act)(w:World)(o:Oper)(d:Nat)(p:TV×Option Rt):Prop:=
 ∀(next:Act->World->Prop) (Q:Exit->Act->World->Prop),(∀ Z' g' v w',Rel cx Z' g' (st.ba d p) (a.put (some d) v) w'->next (a.put (some d) v) w')->o.wp P a w next Q
theorem qk{Z:Nat->Prop}{w:World}{k:K}{x:T k}{v:Value}(h:RO Z w k x v):v.cells = #[v]/\v.oneCell'=true:=by
 cases k with
 | int _=>obtain⟨rfl,_⟩:=h;exact⟨rfl,rfl⟩
 | bool=>cases h;exact⟨rfl,rfl⟩
 | str=>obtain⟨rfl,_⟩:=h;exact⟨rfl,rfl⟩
 | sl e ks=>obtain⟨a,c,rfl,_⟩:=h;exact⟨rfl,rfl⟩
theorem EM{w:World}{k:K}{x:T k}{v:Value}{F:Nat->Prop}(h:dG w k x v F):v.cells = #[v]/\v.oneCell'=true:=by
 cases k with
 | int _=>obtain⟨rfl,_⟩:=h;exact⟨rfl,rfl⟩
 | bool=>cases h;exact⟨rfl,rfl⟩
 | str=>obtain⟨rfl,_⟩:=h;exact⟨rfl,rfl⟩
 | sl e ks=>obtain⟨a,c,rfl,_⟩:=h;exact⟨rfl,rfl⟩
section
variable{P:Program}{cx:Cx P}{Z:Nat->Prop}{g:Gh}{st:St}{a:Act}{w:World}{E:En}
theorem cK(h:Rel cx Z g st a w){o:Oper}{d:Nat}(hd:o.dst=some d)(cE:kR cx a d){v:Value}{tv:TV}(au:(execOp a.eval o).run P w= .ok (.value v) w)(ht:bW Z g st w tv v) :
 ea P cx st a w o d (tv,none):=by
 intro next Q hk;unfold Oper.wp;rw[au,anl,hd];exact hk _ _ _ _ (h.nS cE ht)
theorem Rel.DS(h:Rel cx Z g st a w){d:Nat}(cE:kR cx a d)(hf:st.free d=true){cs:Array Value}{e:TypeId}{l:List RC}(hl:l.length=cs.size)
 (hc:∀(j:Nat) (c:RC) (v:Value),l[j]? = some c->cs[j]? = some v->(∃ k0,c=pF k0/\v=zV k0)∨(∃ av,c.v= .av av/\bC Z g st w av v)){tv:TV}{v:Value}
 (ht:(tv= .v (.ptr d 0)/\v= .pointer (some ⟨w.heap.size,0,none⟩))∨(∃ n,tv= .v (.qO d n)/\v= .slice (some ⟨w.heap.size,0,none⟩) n n)) :
 ∃ g',Rel cx Z g' (st.ba d (tv,some ⟨true,l⟩)) (a.put (some d) v) (w.alloc (.cells cs e (0,0)))/\nW Z Z w (w.alloc (.cells cs e (0,0))) g g' st (st.ba d (tv,some ⟨true,l⟩))/\g'.be d=w.heap.size:=by
 have jn:(w.alloc (.cells cs e (0,0))).heap=w.heap.push (.cells cs e (0,0)):=rfl;have dh:(w.alloc (.cells cs e (0,0))).heap.size=w.heap.size+1:=by rw[jn,anN]
 have hold:∀ b,b<w.heap.size->(w.alloc (.cells cs e (0,0))).heap[b]? = w.heap[b]? :=fun b hb=>by rw[jn,amW,if_neg (by omega)]
 have hk:=Gy (tv:=tv) (R:=⟨true,l⟩) (be:=w.heap.size) (cv:=fun j=>cs.getD j undef) (fp:=fun _ _=>False) (Z':=Z) (w':=w.alloc (.cells cs e (0,0))) h hf (by omega) hold (fun _ h=>h);refine⟨g.at d w.heap.size (fun j=>cs.getD j undef) (fun _ _=>False),Rel.yB h cE hf ?_ ?_,hk,by simp[Gh.at]⟩
 . refine { os:=rfl,tape:=rfl,output:=rfl,size:=by omega,block:=hold,cq:=fun b hb=> .inl hb,zle:=fun b hb=>hb,fp:=?_,cS:=?_,box:=?_,cell:=?_ }
   . intro j b hb;simp[Gh.at]at hb
   . intro j j' b hb;simp[Gh.at]at hb
   . intro _;refine⟨by simp[Gh.at],fun hz=>?_,fun j hb=>by simp[Gh.at]at hb,cs,e,(0,0),?_,fun q _=>by simp,hl.symm,fun j hj=>?_⟩
     . have:=(h.cq _ hz).1;simp[Gh.at]at this
     . simp only[Gh.at,if_true];rw[jn,amW,if_pos rfl]
     . simp[Gh.at,amr,hj]
   . intro j c hj;have nQ:j<cs.size:=by
      rw[<- hl];rcases amz j l.length with hh | hh
      . exact hh
      . simp[amA hh]at hj
     have Pc:(g.at d w.heap.size (fun j=>cs.getD j undef) (fun _ _=>False)).cv d j=cs[j]:=by simp[Gh.at,amr,nQ]
     rw[Pc];rcases hc j c cs[j] hj (by simp[nQ])with ⟨k0,rfl,hv⟩ | ⟨av,hav,hr⟩
     . rw[hv];cases k0 with
       | int k=>exact⟨rfl,by have:=hU k 0;unfold pT;cases k <;> simp[IntKind.min,IntKind.max,IntKind.signed,IntKind.bits]⟩
       | bool=>rfl
       | str=>exact⟨rfl,amv _⟩
       | sl e ks=>exact kP e ks
     . rw[hav];exact bC.cI hk av _ hr
 . rcases ht with ⟨rfl,rfl⟩ | ⟨n,rfl,rfl⟩
   . exact⟨⟨true,l⟩,by show look ((d,_)::st.rt) d=_;rw[aN,if_pos rfl],rfl,by simp[Gh.at]⟩
   . exact⟨⟨true,l⟩,by show look ((d,_)::st.rt) d=_;rw[aN,if_pos rfl],rfl,by simp[Gh.at]⟩
theorem Rel.newRow(h:Rel cx Z g st a w){d:Nat}(cE:kR cx a d)(hf:st.free d=true){w':World}{cs:Array Value}{e0:TypeId}{fr:Nat×Nat}(h1:w'.os=w.os)(h2:w'.tape=w.tape)(h3:w'.output=w.output)
 (hh:w'.heap=w.heap.push (.cells cs e0 fr)){k:K}{x:T k}{v:Value}(ho:dG w' k x v (fun b=>b=w.heap.size)) :
 ∃ g',Rel cx Z g' (st.ba d (.v (.ref d 0 0),some ⟨false,[⟨0,0,.own k x⟩]⟩)) (a.put (some d) v) w':=by
 have dh:w'.heap.size=w.heap.size+1:=by rw[hh,anN]
 have hold:∀ b,b<w.heap.size->w'.heap[b]? = w.heap[b]? :=fun b hb=>by rw[hh,amW,if_neg (by omega)]
 refine⟨g.at d 0 (fun _=>v) (fun j b=>j=0/\b=w.heap.size),Rel.yB h cE hf ?_ ?_⟩
 . refine { os:=h1,tape:=h2,output:=h3,size:=by omega,block:=hold,cq:=fun b hb=> .inl hb,zle:=fun b hb=>hb,fp:=?_,cS:=?_,box:=fun hb=>by simp at hb,cell:=?_ }
   . intro j b hb;simp only[Gh.at,if_true]at hb;obtain⟨rfl,rfl⟩:=hb;exact⟨oR _,by omega,fun hz=>by have:=(h.cq _ hz).1;omega,_,k,x,rfl,rfl⟩
   . intro j j' b hb cz;simp only[Gh.at,if_true]at hb cz;rw[hb.1,cz.1]
   . intro j c hj
     match j with
     | 0=>
       simp only[amn,amh]at hj;subst hj;have e1:(g.at d 0 (fun _=>v) (fun j b=>j=0/\b=w.heap.size)).cv d 0=v:=by simp[Gh.at]
       have e2:(g.at d 0 (fun _=>v) (fun j b=>j=0/\b=w.heap.size)).fp d 0=fun b=>b=w.heap.size:=by funext b;simp[Gh.at]
       rw[e1,e2];exact ho
     | j+1=>simp at hj
 . exact⟨⟨0,0,.own k x⟩,by show(match look ((d,_)::st.rt) d with | some R=>R.cells[0]? | none=>none)=_;rw[aN,if_pos rfl];rfl,oR _,fun _=>by simp[Gh.at]⟩
theorem Ke(h:Rel cx Z g st a w)(hc:Cons st){o:Oper}{d:Nat}(hd:o.dst=some d)(cE:kR cx a d){x:Operand}(ho:o.op= .move x∨o.op= .assign x){tv:TV}(hq:st.get x=some tv):ea P cx st a w o d (tv,none):=
 cK h hd cE (v:=a.eval x) (by rcases ho with ho | ho <;> simp[execOp,ho]) (bg h hc hq)
theorem ago(hT:cH P E)(h:Rel cx Z g st a w)(hc:Cons st){o:Oper}{d:Nat}(hd:o.dst=some d)(cE:kR cx a d){op:BinOp}{t t':TypeId}{x y:Operand}(ho:o.op= .binOp op t x y t'){tx ty:TV}{av:AV}
 (hx:st.get x=some tx)(hy:st.get y=some ty)(hb:(acS (E.bool t) op tx ty).run=some av):ea P cx st a w o d (.v av,none):=by
 have rx:=bg h hc hx;have ry:=bg h hc hy;have key:∃ v,((do eqGuard op t x y (a.eval x) (a.eval y);binOp op t (a.eval x) (a.eval y)):Sem Value).run P w= .ok v w/\bC Z g st w av v:=by
  unfold acS at hb;split at hb
  . rename_i k n k' m hix hiy;obtain⟨ex,rix⟩:=gG rx hix;obtain⟨ey,riy⟩:=gG ry hiy;rw[ex,ey];cases hs:yJ op with
    | true=>simp only[hs,oT]at hb;obtain⟨v,e1,e2,_⟩:=G9 (P:=P) (Z:=Z) (g:=g) (st:=st) (k':=k') rix hb t x y w;exact⟨v,e1,e2⟩
    | false=>
      simp only[hs,oF]at hb;cases hk:(k == k')with
      | false=>simp[hk,Tr.run]at hb
      | true=>
        simp only[hk,oT]at hb;have:k=k':=by simpa using hk
        subst this;obtain⟨v,e1,e2,_⟩:=M0 (P:=P) (Z:=Z) (g:=g) (st:=st) rix hs hb t x y w;exact⟨v,e1,e2⟩
  . split at hb
    . rename_i s u hsx hsy;obtain⟨ex,_⟩:=oO rx hsx;obtain⟨ey,_⟩:=oO ry hsy;rw[ex,ey];obtain⟨v,e1,e2,_⟩:=Mx (P:=P) (Z:=Z) (g:=g) (st:=st) hb t x y w;exact⟨v,e1,e2⟩
    . split at hb
      . rename_i p q nP v8;have ex:=wo rx nP;have ey:=wo ry v8;rw[ex,ey];cases hB:E.bool t with
        | false=>simp[hB,Tr.run]at hb
        | true=>
          simp only[hB,oN,oF]at hb;unfold En.bool at hB;split at hB
          . rename_i el HV fl iy
            obtain⟨dd,hu,mW⟩:=(hT t _ iy).desc;have Ye:P.underlying t=some .bool:=by cases dd <;> simp[jE]at mW;exact hu
            have hg:∀ w,(eqGuard op t x y (.bool p) (.bool q)).run P w= .ok () w:=fun w=>by unfold eqGuard;cases op <;> simp
            have he:∀ w,(Op.equal t (.bool p) (.bool q)).run P w= .ok (p == q) w:=fun w=>by show(Op.equalIn (9999+1) t (.bool p) (.bool q)).run P w=_;unfold Op.equalIn;simp[amM Ye]
            split at hb
            . simp only[Tr.run,amh]at hb;subst hb;exact⟨.bool (p == q),by simp[hg,binOp,he],rfl⟩
            . simp only[Tr.run,amh]at hb;subst hb;exact⟨.bool (!(p == q)),by simp[hg,binOp,he],rfl⟩
            . simp[Tr.run]at hb
          . simp at hB
      . simp[Tr.run]at hb
 obtain⟨v,e1,e2⟩:=key;exact cK h hd cE (v:=v) (by simp only[execOp,ho,amJ,e1,amu];rfl) e2
theorem DY{op:UnOp}{tx:TV}{vx:Value}(rx:bW Z g st w tx vx){av:AV}(hb:(unT op tx).run=some av):∃ v,(Op.unary op vx).run P w= .ok v w/\bC Z g st w av v:=by
 unfold unT at hb;split at hb
 . rename_i p nP;rw[wo rx nP];simp only[Tr.run,amh]at hb;subst hb;exact⟨.bool (!p),by simp[Op.unary],rfl⟩
 . rename_i k n hix;rw[(gG rx hix).1];simp only[Tr.run,amh]at hb;subst hb;exact⟨.int k (k.wrap (0-n)),by simp[Op.unary,Op.intArith],rfl,hU _ _⟩
 . simp[Tr.run]at hb
theorem ajj(h:Rel cx Z g st a w)(hc:Cons st){o:Oper}{d:Nat}(hd:o.dst=some d)(cE:kR cx a d){op:UnOp}{t:TypeId}{x:Operand}(ho:o.op= .unOp op t x){tx:TV}{av:AV}
 (hx:st.get x=some tx)(hb:(match op with | .not=>ads tx | _=>unT op tx).run=some av):ea P cx st a w o d (.v av,none):=by
 have rx:=bg h hc hx;have key:∃ v,(Op.unary op (a.eval x)).run P w= .ok v w/\bC Z g st w av v:=by
  cases op with
  | not=>
    simp only at hb;unfold ads at hb;split at hb
    . rename_i p;simp only[Tr.run,amh]at hb;subst hb;have:a.eval x= .bool p:=rx;rw[this];exact⟨.bool (!p),by simp[Op.unary],rfl⟩
    . exact DY rx hb
  | neg=>exact DY rx hb
  | xor=>exact DY rx hb
  | plus=>exact DY rx hb
 obtain⟨v,e1,e2⟩:=key;exact cK h hd cE (v:=v) (by simp[execOp,ho,e1]) e2
theorem adO(hT:cH P E)(h:Rel cx Z g st a w)(hc:Cons st){o:Oper}{d:Nat}(hd:o.dst=some d)(cE:kR cx a d){t:TypeId}{x:Operand}(ho:o.op= .load t x){ti:TI}{tx:TV}{p:AV}{l:List AV}{tv:TV}
 (iy:E.ti t=some ti)(hx:st.get x=some tx)(hp:tx.Ii = some p)(hl:st.load ti.ks.length p=some l)(hw:iH ti.agg l=some tv):ea P cx st a w o d (tv,none):=by
 obtain⟨b,of,vs,e1,e2,e3,e4⟩:=zj h (uW (bg h hc hx) hp) hl;obtain⟨v,e5,e6⟩:=xE (hT t ti iy) e2 e3;refine cK h hd cE (v:=v) (by simp[execOp,ho,e1,Instr.loadAt,Instr.sureAddr,e5]) ?_;unfold iH at hw;split at hw
 . rename_i l' ye;simp only[amh]at hw;subst hw;rw[ye]at e6;exact⟨vs.toArray,e6,by simpa using e4⟩
 . rename_i av ye;simp only[amh]at hw;subst hw;rw[ye]at e6;subst e6;exact e4.1
 . simp at hw
theorem eU:∀ {l:List AV} {vs:List Value},a8 Z g st w l vs->l.length=vs.length
 | [],[],_=>rfl
 | _::l,_::vs,h=>by simp[eU h.2]
 | [],_::_,h=>h.elim
 | _::_,[],h=>h.elim
theorem sx:∀ {l:List AV} {vs:List Value},a8 Z g st w l vs->∀(j:Nat) (x:AV) (v:Value),l[j]? = some x->vs[j]? = some v->bC Z g st w x v
 | [],[],_,_,_,_,h,_=>by simp at h
 | _::l,_::vs,h,j,x,v,h1,h2=>by
   cases j with
   | zero=>simp at h1 h2;subst h1;subst h2;exact h.1
   | succ j=>simp at h1 h2;exact sx h.2 j x v h1 h2
 | [],_::_,h,_,_,_,_,_=>h.elim
 | _::_,[],h,_,_,_,_,_=>h.elim
theorem lW:∀ {l:List AV} {vs:List Value},l.length=vs.length->(∀(j:Nat) (x:AV) (v:Value),l[j]? = some x->vs[j]? = some v->bC Z g st w x v)->a8 Z g st w l vs
 | [],[],_,_=>trivial
 | x::l,v::vs,hl,h=>⟨h 0 x v rfl rfl,lW (by simpa using hl) (fun j y u h1 h2=>h (j+1) y u (by simpa using h1) (by simpa using h2))⟩
 | [],_::_,hl,_=>by simp at hl
 | _::_,[],hl,_=>by simp at hl
theorem wy(h:Rel cx Z g st a w){x:AV}{v:Value}(hr:bC Z g st w x v)(hl:st.live x=true):v.cells = #[v]/\v.oneCell'=true:=by
 cases x with
 | dead=>simp[St.live]at hl
 | pre=>simp[St.live]at hl
 | lb b=>cases hr;exact⟨rfl,rfl⟩
 | d k y=>exact qk hr
 | nil=>cases hr;exact⟨rfl,rfl⟩
 | b r j s m k y=>obtain⟨c,h1,h2,h3,h4⟩:=hr;simp only[St.live,h1,ami]at hl;exact qk (h4 (beq_eq hl.1) (beq_eq hl.2))
 | ref r j s=>
   obtain⟨c,h1,h2,h3⟩:=hr;obtain⟨cs,cm,cv⟩:=c;cases cv with
   | av _=>simp[St.live,h1]at hl
   | own k y=>
     cases k with
     | sl e ks=>simp only[St.live,h1]at hl;rw[h3 (beq_eq hl)];exact EM (fj h h1 rfl)
     | _=>simp[St.live,h1]at hl
 | cut r j s n=>
   obtain⟨c,h1,h2,h3⟩:=hr;obtain⟨cs,cm,cv⟩:=c;cases cv with
   | av _=>simp[St.live,h1]at hl
   | own k y=>
     cases k with
     | sl e ks=>simp only[St.live,h1]at hl;obtain⟨_,_,_,_,_,rfl⟩:=h3 (beq_eq hl);exact⟨rfl,rfl⟩
     | _=>simp[St.live,h1]at hl
 | pref r j s m i c=>
   have nO:=hr;obtain⟨cc,h1,_⟩:=hr;obtain⟨cs,cm,cv⟩:=cc;cases cv with
   | av _=>simp[St.live,h1]at hl
   | own k y=>
     cases k with
     | sl e ks=>
       simp only[St.live,h1,ami]at hl;obtain⟨⟨e1,e2⟩,e3⟩:=hl;obtain⟨⟨k,z⟩,hz⟩:=Option.isSome_iff_exists.1 e3;refine qk (DJ h (x:= .pref r j s m i c) (k:=k) (y:=z) ?_ ?_)
       . exact nO
       . simp only[St.read,h1,e1,e2,Bool.and_self,oT,hz]
     | _=>simp[St.live,h1]at hl
 | ptr r j=>obtain⟨_,_,_,rfl⟩:=hr;exact⟨rfl,rfl⟩
 | qO r n=>obtain⟨_,_,_,rfl⟩:=hr;exact⟨rfl,rfl⟩
 | pel r j s i c=>obtain⟨cc,h1,_,h3⟩:=hr;simp only[St.live,h1]at hl;obtain⟨_,_,_,_,_,_,_,_,_,_,rfl⟩:=h3 (beq_eq hl);exact⟨rfl,rfl⟩
 | rp dep e ks xs i c=>
   cases dep with
   | none=>obtain⟨_,_,_,_,_,rfl,_⟩:=hr;exact⟨rfl,rfl⟩
   | some dd=>obtain⟨r,j,s,m⟩:=dd;obtain⟨cc,h1,_,_,h3⟩:=hr;simp only[St.live,h1,ami]at hl;obtain⟨_,_,_,_,_,rfl,_⟩:=h3 (beq_eq hl.1) (beq_eq hl.2);exact⟨rfl,rfl⟩
theorem Co{x:AV}{c:RC}(h:st.kG x=some c):st.live x=true:=by
 cases x with
 | lb _=>rfl
 | d _ _=>rfl
 | nil=>rfl
 | b r j s m k y=>
   simp only[St.kG]at h;cases hl:st.live (.b r j s m k y)with
   | true=>rfl
   | false=>simp[hl]at h
 | pref r j s m i c=>
   simp only[St.kG]at h;cases hl:st.live (.pref r j s m i c)with
   | true=>rfl
   | false=>simp[hl]at h
 | _=>simp[St.kG]at h
theorem SO(h:Rel cx Z g st a w){x:AV}{v:Value}{c:RC}(hr:bC Z g st w x v)(hc:st.kG x=some c):∃ av,c.v= .av av/\bC Z g st w av v:=by
 cases x with
 | lb _=>simp only[St.kG,amh]at hc;subst hc;exact⟨_,rfl,hr⟩
 | d _ _=>simp only[St.kG,amh]at hc;subst hc;exact⟨_,rfl,hr⟩
 | nil=>simp only[St.kG,amh]at hc;subst hc;exact⟨_,rfl,hr⟩
 | b r j s m k y=>
   simp only[St.kG]at hc;cases hl:st.live (.b r j s m k y)with
   | true=>simp only[hl,oT,amh]at hc;subst hc;exact⟨_,rfl,hr⟩
   | false=>simp[hl]at hc
 | pref r j s m i q=>
   simp only[St.kG]at hc;cases hl:st.live (.pref r j s m i q)with
   | true=>simp only[hl,oT,amh]at hc;subst hc;exact⟨_,rfl,hr⟩
   | false=>simp[hl]at hc
 | _=>simp[St.kG]at hc
theorem wz(h:Rel cx Z g st a w):∀(l:List AV) (vs:List Value) (cs:List RC),a8 Z g st w l vs->st.mM l=some cs->cs.length=vs.length/\(∀ v∈vs,v.cells = #[v]/\v.oneCell'=true) /\
 ∀(j:Nat) (c:RC) (v:Value),cs[j]? = some c->vs[j]? = some v->∃ av,c.v= .av av/\bC Z g st w av v
 | [],[],cs,_,hc=>by simp only[St.mM,amh]at hc;subst hc;exact⟨rfl,by simp,by simp⟩
 | x::l,v::vs,cs,hr,hc=>by
   simp only[St.mM]at hc;split at hc
   . rename_i c fT h1 h2;simp only[amh]at hc;subst hc;obtain⟨e1,e2,e3⟩:=wz h l vs fT hr.2 h2;refine⟨by simp[e1],?_,?_⟩
     . intro u hu;rcases ams.1 hu with rfl | hu
       . exact wy h hr.1 (Co h1)
       . exact e2 u hu
     . intro j c' u hj hu;cases j with
       | zero=>simp at hj hu;subst hj;subst hu;exact SO h hr.1 h1
       | succ j=>simp at hj hu;exact e3 j c' u hj hu
   . simp at hc
 | [],_::_,_,hr,_=>hr.elim
 | _::_,[],_,hr,_=>hr.elim
theorem nc(h:Rel cx Z g st a w){tv:TV}{v:Value}{p:Bool×List AV}(hr:bW Z g st w tv v)(hp:tv.dw = some p)(hl:p.2.all st.live=true):a8 Z g st w p.2 v.cells.toList/\v.cells.size=p.2.length:=by
 cases tv with
 | v x=>simp only[TV.dw,amh]at hp;subst hp;simp only[anc,List.all_nil,aoY]at hl;have:=(wy h hr hl).1;rw[this];exact⟨⟨hr,trivial⟩,rfl⟩
 | agg l=>simp only[TV.dw,amh]at hp;subst hp;obtain⟨vs,rfl,hr⟩:=hr;exact⟨hr,by show vs.size=l.length;have:=eU hr;simpa using this.symm⟩
 | bc r j s m e ks x=>simp only[TV.dw,amh]at hp;subst hp;simp only[anc,List.all_nil,aoY]at hl;have:=(wy h (Qf hr) hl).1;rw[this];exact⟨⟨Qf hr,trivial⟩,rfl⟩
 | _=>simp[TV.dw]at hp
theorem zo:∀(l:List AV) (cs:List RC),st.mM l=some cs->l.all st.live=true
 | [],_,_=>rfl
 | x::l,cs,hc=>by
   simp only[St.mM]at hc;split at hc
   . rename_i c fT h1 h2;simp[Co h1,zo l fT h2]
   . simp at hc
theorem Wx(hT:cH P E)(h:Rel cx Z g st a w){o:Oper}{d:Nat}(hd:o.dst=some d)(cE:kR cx a d)(hf:st.free d=true){t:TypeId}(ho:o.op= .alloc t){ti:TI}(iy:E.ti t=some ti) :
 ea P cx st a w o d (.v (.ptr d 0),some ⟨true,ti.ks.map pF⟩):=by
 obtain⟨z,hz,hzc⟩:=uV (hT t ti iy) w;intro next Q hk;have au:(execOp a.eval o).run P w= .ok (.value (.pointer (some ⟨w.heap.size,0,none⟩))) (w.alloc (.cells z.cells t (0,0))):=by simp[execOp,ho,Instr.alloc,hz,newVar,newRow]
 unfold Oper.wp;rw[au,anl,hd];obtain⟨g',hg,_⟩:=h.DS (d:=d) cE hf (cs:=z.cells) (e:=t) (l:=ti.ks.map pF) (by rw[<- amT,hzc];simp) (fun j c v hj hv=>by left;rw[<- aml,hzc]at hv;simp only[amX,anT]at hj hv;obtain⟨k0,e1,rfl⟩:=hj;obtain⟨k1,e2,rfl⟩:=hv;rw[e1]at e2;simp only[amh]at e2;subst e2;exact⟨k0,rfl,rfl⟩) (tv:= .v (.ptr d 0)) (v:= .pointer (some ⟨w.heap.size,0,none⟩)) (.inl ⟨rfl,rfl⟩);exact hk _ _ _ _ hg
theorem ag0(hT:cH P E)(h:Rel cx Z g st a w)(hc:Cons st){o:Oper}{d:Nat}(hd:o.dst=some d)(cE:kR cx a d)(hf:st.free d=true){t:TypeId}{x:Operand}(ho:o.op= .box t x){tv:TV}{p:Bool×List AV}{l:List RC}
 (hx:st.get x=some tv)(hp:tv.dw = some p)(hl:st.mM p.2=some l):ea P cx st a w o d (.v (.ptr d 0),some ⟨true,l⟩):=by
 have hr:=bg h hc hx;obtain⟨h1,h2⟩:=nc h hr hp (zo _ _ hl);obtain⟨e1,e2,e3⟩:=wz h _ _ _ h1 hl;intro next Q hk;have au:(execOp a.eval o).run P w= .ok (.value (.pointer (some ⟨w.heap.size,0,none⟩))) (w.alloc (.cells (a.eval x).cells t (0,0))):=by simp[execOp,ho,Instr.box,newVar,newRow]
 unfold Oper.wp;rw[au,anl,hd];obtain⟨g',hg,_⟩:=h.DS (d:=d) cE hf (cs:=(a.eval x).cells) (e:=t) (l:=l) (by rw[e1];simp) (fun j c v hj hv=> .inr (e3 j c v hj (by rw[aml];exact hv))) (tv:= .v (.ptr d 0)) (v:= .pointer (some ⟨w.heap.size,0,none⟩)) (.inl ⟨rfl,rfl⟩);exact hk _ _ _ _ hg
theorem A6(h:Rel cx Z g st a w)(hc:Cons st){o:Oper}{d:Nat}(hd:o.dst=some d)(cE:kR cx a d){x:Operand}(ho:o.op= .nilCheck x){av:AV}(hx:st.get x=some (.v av))(hp:(∃ r j,av= .ptr r j)∨(∃ r j s i c,av= .pel r j s i c)/\st.live av=true) :
 ea P cx st a w o d (.v av,none):=by
 have hr:bC Z g st w av (a.eval x):=bg h hc hx;have:∃ ad,a.eval x= .pointer (some ad):=by
  rcases hp with ⟨r,j,rfl⟩ | ⟨⟨r,j,s,i,c,rfl⟩,hl⟩
  . obtain⟨_,_,_,e⟩:=hr;exact⟨_,e⟩
  . obtain⟨cc,h1,_,h3⟩:=hr;simp only[St.live,h1]at hl;obtain⟨_,_,_,_,_,_,_,_,_,_,e⟩:=h3 (beq_eq hl);exact⟨_,e⟩
 obtain⟨ad,e⟩:=this;exact cK h hd cE (v:=a.eval x) (by simp[execOp,ho,e]) hr
theorem OH{x y:AV}{n:Nat}{v:Value}(hr:bC Z g st w x v)(hy:ze n x=some y)(hl:st.live x=true):∃ b o,v= .pointer (some ⟨b,o,none⟩)/\bC Z g st w y (.pointer (some ⟨b,o+n,none⟩)):=by
 cases x with
 | ptr r j=>simp only[ze,amh]at hy;subst hy;obtain⟨R,h1,h2,rfl⟩:=hr;exact⟨_,_,rfl,R,h1,h2,rfl⟩
 | pel r j s i c=>simp only[ze,amh]at hy;subst hy;obtain⟨cc,h1,h2,h3⟩:=hr;simp only[St.live,h1]at hl;obtain⟨e,ks,xs,g1,g2,b,o,len,cap,g4,rfl⟩:=h3 (beq_eq hl);exact⟨_,_,rfl,cc,h1,h2,fun _=>⟨e,ks,xs,g1,g2,b,o,len,cap,g4,by rw[anm]⟩⟩
 | rp dep e ks xs i c=>
   simp only[ze,amh]at hy;subst hy;cases dep with
   | none=>obtain⟨h0,b,o,h1,h2,rfl,h4⟩:=hr;exact⟨_,_,rfl,h0,b,o,h1,h2,by rw[anm],h4⟩
   | some dd=>obtain⟨r,j,s,m⟩:=dd;obtain⟨cc,h1,h2,h3,h4⟩:=hr;simp only[St.live,h1,ami]at hl;obtain⟨h0,b,o,g1,g2,rfl,g4⟩:=h4 (beq_eq hl.1) (beq_eq hl.2);exact⟨_,_,rfl,cc,h1,h2,h3,fun _ _=>⟨h0,b,o,g1,g2,by rw[anm],g4⟩⟩
 | _=>simp[ze]at hy
theorem xF(hT:cH P E){t:TypeId}{ti:TI}(iy:E.ti t=some ti){f o u:Nat}(hf:NX ti.pV f=some (o,u))(ye:ti.agg=true) :
 ∃ fs fi,P.underlying t=some (.struct fs)/\fs[f]? = some fi/\fi.offset=o/\fi.type=u/\∃ i,P.info? u=some i/\i.size≠0:=by
 obtain⟨dd,hu,mW⟩:=(hT t ti iy).desc;cases dd with
 | struct fs=>obtain⟨_,h1,h2⟩:=mW;obtain⟨fi,e1,e2,e3⟩:=h1 f o u hf;obtain⟨i,e4,e5⟩:=h2 fi (by rw[<- aml]at e1;exact amo e1);exact⟨fs,fi,hu,e1,e2,e3,i,by rw[<- e3];exact e4,e5⟩
 | _=>simp[jE,ye]at mW
theorem Gf(hT:cH P E)(h:Rel cx Z g st a w)(hc:Cons st){o:Oper}{d:Nat}(hd:o.dst=some d)(cE:kR cx a d){t:TypeId}{x:Operand}{f:Nat}(ho:o.op= .fieldAddr t x f){ti:TI}{p:Nat×Nat}{tv:TV}{av av':AV}
 (iy:E.ti t=some ti)(ye:ti.agg=true)(hf:NX ti.pV f=some p)(hx:st.get x=some tv)(ha:tv.Ii = some av)(hl:st.live av=true)(jY:ze p.1 av=some av'):ea P cx st a w o d (.v av',none):=by
 obtain⟨b,of,e1,e2⟩:=OH (uW (bg h hc hx) ha) jY hl;obtain⟨fs,fi,hu,g1,g2,g3,i,g4,g5⟩:=xF hT iy (o:=p.1) (u:=p.2) hf ye;refine cK h hd cE (v:= .pointer (some ⟨b,of+p.1,none⟩)) ?_ e2;have g4':P.info? fi.type=some i:=by rw[g3];exact g4
 have dh:∀ w,(sizeOf fi.type).run P w= .ok i.size w:=fun w=>by simp[sizeOf,typeInfo,g4']
 simp[execOp,ho,Instr.fieldAt,amM hu,g1,e1,Instr.sureAddr,fieldPlace,dh,g5,g2,gO]
theorem Be{l:List AV}{vs:List Value}(h:a8 Z g st w l vs)(o n:Nat):a8 Z g st w (tj l o n) ((vs.drop o).take n):=by
 refine lW ?_ ?_
 . simp[tj,eU h]
 . intro j x v hx hv;unfold tj at hx;rw[anp]at hx hv;split at hx
   . rename_i hj;rw[if_pos hj]at hv;rw[anq]at hx hv;exact sx h _ _ _ hx hv
   . simp at hx
theorem Xe(hT:cH P E)(h:Rel cx Z g st a w)(hc:Cons st){o:Oper}{d:Nat}(hd:o.dst=some d)(cE:kR cx a d){t:TypeId}{x:Operand}{f:Nat}(ho:o.op= .field t x f){ti tf:TI}{p:Nat×Nat}{l:List AV}{tv:TV}
 (iy:E.ti t=some ti)(ye:ti.agg=true)(hf:NX ti.pV f=some p)(htf:E.ti p.2=some tf)(hx:st.get x=some (.agg l))(hlen:p.1+tf.ks.length<=l.length)(hw:iH tf.agg (tj l p.1 tf.ks.length)=some tv):ea P cx st a w o d (tv,none):=by
 obtain⟨vs,e1,e2⟩:=bg h hc hx;obtain⟨fs,fi,hu,g1,g2,g3,i,g4,g5⟩:=xF hT iy (o:=p.1) (u:=p.2) hf ye;have hT2:=hT p.2 tf htf;have hl:=eU e2;have hs:=Be e2 p.1 tf.ks.length;unfold iH at hw;split at hw
 . rename_i l' HY;simp only[amh]at hw;subst hw;have hia:=rB hT2 w;rw[HY]at hia;refine cK h hd cE (v:= .agg (vs.extract p.1 (p.1+tf.ks.length))) ?_ ⟨_,rfl,?_⟩
   . simp[execOp,ho,Instr.field,amM hu,g1,e1,asAgg,part,g3,hia,dz hT2 w,g2]
   . rw[Array.toList_extract];simpa[List.extract,am6]using hs
 . rename_i av HY hss;simp only[amh]at hw;subst hw;have hia:=rB hT2 w;rw[HY]at hia;rw[hss]at hs;have h1:tf.ks.length=1:=by
    have:=amP List.length hss;simp[tj]at this;omega
   have aV:p.1<vs.size:=by
    have:l.length=vs.size:=by simpa using hl
    omega
   have hv:(vs.toList.drop p.1).take tf.ks.length=[vs[p.1]]:=by rw[h1];rw[aos (by simpa using aV)];simp
   rw[hv]at hs;refine cK h hd cE (v:=vs[p.1]) ?_ hs.1;simp[execOp,ho,Instr.field,amM hu,g1,e1,asAgg,part,g3,hia,g2,aV]
 . simp at hw
end
theorem Cf{α:Type}(l:List α)(n:Nat)(c:α)(h:n<l.length):(l.set n c).take (n+1)=l.take n++[c]:=by rw[List.take_succ_eq_append_getElem (by simpa using h)];rw[List.take_set,List.set_eq_of_length_le (by rw[am9];omega)];simp
theorem C4:∀(p:List Value) (s off:Nat) (cs:Array Value),off+s+p.length<=cs.size ->
 ((p.zipIdx s).foldl (fun(cs:Array Value) (x:Value×Nat)=>cs.setIfInBounds (off+x.2) x.1) cs).toList=cs.toList.take (off+s)++p++cs.toList.drop (off+s+p.length)
 | [],s,off,cs,_=>by simp
 | c::r,s,off,cs,h=>by simp only[amw]at h;rw[List.zipIdx_cons,anb];rw[C4 r (s+1) off _ (by simp;omega)];simp only[Array.toList_setIfInBounds];rw[show off+(s+1)=off+s+1 by omega,Cf _ _ _ (by simp;omega)];rw[List.drop_set,if_pos (by omega)];simp only[amw,amH,List.cons_append,an5];rw[show off+s+1+r.length=off+s+(r.length+1)by omega]
section
variable{P:Program}{cx:Cx P}{Z:Nat->Prop}{g:Gh}{st:St}{a:Act}{w:World}{E:En}
theorem kS:∀ {l l':List AV} {vs vs':List Value},a8 Z g st w l vs->a8 Z g st w l' vs'->a8 Z g st w (l++l') (vs++vs')
 | [],_,[],_,_,h=>h
 | _::l,_,_::vs,_,h1,h2=>⟨h1.1,kS h1.2 h2⟩
 | [],_,_::_,_,h,_=>h.elim
 | _::_,_,[],_,h,_=>h.elim
theorem qA{l:List AV}{vs:List Value}(h:a8 Z g st w l vs)(n:Nat):a8 Z g st w (l.take n) (vs.take n):=by have:=Be h 0 n;simpa[tj]using this
theorem mY:∀ {l:List AV} {vs:List Value},a8 Z g st w l vs->∀ n,a8 Z g st w (l.drop n) (vs.drop n)
 | l,vs,h,0=>by simpa using h
 | [],[],_,n+1=>by simp;trivial
 | _::l,_::vs,h,n+1=>by simpa using mY h.2 n
 | [],_::_,h,_+1=>h.elim
 | _::_,[],h,_+1=>h.elim
theorem Nz{l p:List AV}{vs ps:List Value}(h1:a8 Z g st w l vs)(h2:a8 Z g st w p ps)(o:Nat):a8 Z g st w (putAt l o p) (vs.take o++ps++vs.drop (o+ps.length)):=by unfold putAt;rw[eU h2];exact kS (kS (qA h1 o) h2) (mY h1 _)
theorem AF(h:Rel cx Z g st a w)(hc:Cons st){place:Nat->Option (Nat×Nat)}{step:List AV->Nat×Operand->Option (List AV)}
 (oS:∀ l l' i x,step l (i,x)=some l'->∃ tv p o,st.get x=some tv/\tv.dw = some p/\p.2.all st.live=true/\place i=some (o,p.2.length)/\o+p.2.length<=l.length/\l'=putAt l o p.2) :
 ∀(parts:List (Nat×Operand)) (l l':List AV) (cs:Array Value),a8 Z g st w l cs.toList->kY step l parts=some l'->∃ fT,Instr.fill place cs (parts.map fun q=>(q.1,a.eval q.2))=some fT/\a8 Z g st w l' fT.toList
 | [],l,l',cs,hr,hf=>by simp only[kY,amh]at hf;subst hf;exact⟨cs,rfl,hr⟩
 | (i,x)::r,l,l',cs,hr,hf=>by
   simp only[kY]at hf;cases hs:step l (i,x)with
   | none=>simp[hs]at hf
   | some l1=>
     simp only[hs]at hf;obtain⟨tv,p,o,e1,e2,e3,e4,e5,rfl⟩:=oS l l1 i x hs;obtain⟨hv,dh⟩:=nc h (bg h hc e1) e2 e3;have hlen:l.length=cs.size:=by simpa using eU hr
     have xu:=C4 (a.eval x).cells.toList 0 o cs (by simp only[amT];omega);have eQ:=Nz hr hv o;have alo:((a.eval x).cells.zipIdx.foldl (fun(cs:Array Value) (x:Value×Nat)=>cs.setIfInBounds (o+x.2) x.1) cs).toList=cs.toList.take o++(a.eval x).cells.toList++cs.toList.drop (o+(a.eval x).cells.toList.length):=by rw[amN]at xu;rw[<- xu,<- Array.foldl_toList,Array.toList_zipIdx]
     obtain⟨fT,e6,e7⟩:=AF h hc oS r _ l' ((a.eval x).cells.zipIdx.foldl (fun(cs:Array Value) (x:Value×Nat)=>cs.setIfInBounds (o+x.2) x.1) cs) (by rw[alo];exact eQ) hf;refine⟨fT,?_,e7⟩;simp only[amS,Instr.fill,e4];rw[if_neg (by simp[dh];omega)];exact e6
theorem XJ(hT:cH P E)(h:Rel cx Z g st a w)(hc:Cons st){o:Oper}{d:Nat}(hd:o.dst=some d)(cE:kR cx a d){t:TypeId}{parts:Array (Nat×Operand)}(ho:o.op= .build t parts){ti:TI}{l:List AV}
 (iy:E.ti t=some ti)(ye:ti.agg=true)(hl:kY (vu E st ti.pV) (ti.ks.map nG) parts.toList=some l):ea P cx st a w o d (.agg l,none):=by
 have Yf:=hT t ti iy;obtain⟨i,e1,e2,e3,z,e4,e5⟩:=Yf.info;obtain⟨dd,hu,mW⟩:=Yf.desc;cases dd with
 | struct fs=>
   obtain⟨_,h1,h2⟩:=mW;have hm:∀(L:List Go.Field),(∀ fi∈L,∃ i,P.info? fi.type=some i/\i.size≠0)->∃ places,L.mapM (fun f=>(P.info? f.type).map fun i=>(f.offset,i.size))=some places/\∀(j:Nat) (fi:Go.Field) (i:TypeInfo),L[j]? = some fi->P.info? fi.type=some i->places[j]? = some (fi.offset,i.size):=by
    intro L;induction L with
    | nil=>intro _;exact⟨[],by simp,by simp⟩
    | cons fi L ih=>
      intro hL;obtain⟨i,g1,_⟩:=hL fi (by simp);obtain⟨places,g2,g3⟩:=ih (fun f hf=>hL f (by simp[hf]));refine⟨(fi.offset,i.size)::places,by simp[List.mapM_cons,g1,g2],?_⟩;intro j f' i' hj wa;cases j with
      | zero=>simp at hj;subst hj;rw[g1]at wa;simp at wa;subst wa;rfl
      | succ j=>simp at hj ⊢;exact g3 j f' i' hj wa
   obtain⟨places,yo,Ck⟩:=hm fs.toList h2;have hz:a8 Z g st w (ti.ks.map nG) z.cells.toList:=by
    rw[e5];refine lW (by simp) ?_;intro j x v hx hv;simp only[amX,anT]at hx hv;obtain⟨k0,q1,rfl⟩:=hx;obtain⟨k1,q2,rfl⟩:=hv;rw[q1]at q2;simp only[amh]at q2;subst q2;cases k0 with
    | int k=>exact⟨rfl,by unfold pT;cases k <;> simp[IntKind.min,IntKind.max,IntKind.signed,IntKind.bits]⟩
    | bool=>rfl
    | str=>exact⟨rfl,amv _⟩
    | sl e ks=>rfl
   obtain⟨fT,q1,q2⟩:=AF h hc (place:=(places.toArray[·]?)) (step:=vu E st ti.pV) (fun l l' i x hs=>by
    unfold vu at hs;split at hs
    . rename_i of u tv hf hg;split at hs
      . rename_i gg p tu hp htu;cases hb:Nat.beq p.length tu.ks.length&&p.all st.live&&Nat.ble (of+p.length) l.length with
        | false=>simp[hb]at hs
        | true=>simp only[hb,oT,amh]at hs;simp only[ami]at hb;obtain⟨fi,s1,s2,s3⟩:=h1 _ _ _ hf;obtain⟨iu,t1,t2,_⟩:=(hT u tu htu).info;have:places[i]? = some (fi.offset,iu.size):=Ck i fi iu (by rw[aml];exact s1) (by rw[s3];exact t1);refine⟨tv,(gg,p),of,hg,hp,hb.1.2,?_,amE hb.2,hs.symm⟩;simp only[amU,this,s2,t2];rw[beq_eq hb.1.1]
      . simp at hs
    . simp at hs) parts.toList _ l z.cells hz hl
   have hb:P.built t (parts.map fun q=>(q.1,a.eval q.2)).toList=some fT:=by simp only[Program.built,e1,hu,e4,yo,Array.toList_map];exact q1
   have au:=run_build (P:=P) w t (parts.map fun q=>(q.1,a.eval q.2)) fT hb;exact cK h hd cE (v:= .agg fT) (by simp only[execOp,ho];simp[au]) ⟨fT,rfl,q2⟩
 | _=>simp[jE,ye]at mW
end
theorem vm{α:Type}:∀(n:Nat) (l:List α),(rM n l).length=n * l.length
 | 0,_=>by simp[rM]
 | n+1,l=>by simp[rM,vm n l,Nat.succ_mul];omega
theorem AY{α:Type}:∀(n:Nat) (l:List α) (i:Nat),i<n * l.length->(rM n l)[i]? = l[i % l.length]?
 | 0,_,_,h=>by simp at h
 | n+1,l,i,h=>by
   simp only[rM];by_cases hi:i<l.length
   . rw[am0 hi,aoE hi]
   . rw[amY (by omega),AY n l (i-l.length) (by rw[amV,aoI]at h;omega)];rw[<- Nat.mod_eq_sub_mod (by omega)]
theorem uB(n:Nat)(z:Array Value):((Array.range (n * z.size)).map fun i=>z[i % z.size]!).toList=rM n z.toList:=by
 apply aoU;intro i;by_cases hi:i<n * z.size
 . rw[AY n z.toList i (by simpa using hi)];have hz:0<z.size:=by
    rcases aob z.size with h | h
    . rw[h,Nat.mul_zero]at hi;omega
    . exact h
   have hm:i % z.size<z.size:=Nat.mod_lt _ hz;simp only[Array.toList_map,amX,aml,amT];rw[aot (by simpa using hi),aot hm];simp[hm]
 . rw[amA (by simp;omega),amA (by rw[vm];simpa using hi)]
section
variable{P:Program}{cx:Cx P}{Z:Nat->Prop}{g:Gh}{st:St}{a:Act}{w:World}{E:En}
theorem Sa(ks:List K):a8 Z g st w (ks.map nG) (ks.map zV):=by
 refine lW (by simp) ?_;intro j x v hx hv;simp only[amX,anT]at hx hv;obtain⟨k0,q1,rfl⟩:=hx;obtain⟨k1,q2,rfl⟩:=hv;rw[q1]at q2;simp only[amh]at q2;subst q2;cases k0 with
 | int k=>exact⟨rfl,by unfold pT;cases k <;> simp[IntKind.min,IntKind.max,IntKind.signed,IntKind.bits]⟩
 | bool=>rfl
 | str=>exact⟨rfl,amv _⟩
 | sl e ks=>rfl
theorem GL{l:List AV}{vs:List Value}(h:a8 Z g st w l vs):∀ n,a8 Z g st w (rM n l) (rM n vs)
 | 0=>trivial
 | n+1=>kS h (GL h n)
theorem tw:∀(n:Nat) (ks:List K) (l:List AV) (xs:List (Tl ks)),chunks st ks n l=some xs->l.length=n * ks.length->xs.length=n/\∀(i:Nat) (x:Tl ks),xs[i]? = some x->st.readAll ks ((l.drop (i * ks.length)).take ks.length)=some x
 | 0,ks,l,xs,h,hl=>by have Il:l=[]:=am2.1 (by simpa using hl);subst Il;simp only[chunks,amh]at h;subst h;exact⟨rfl,by simp⟩
 | n+1,ks,l,xs,h,hl=>by
   simp only[chunks]at h;split at h
   . rename_i x r h1 h2;simp only[amh]at h;subst h;obtain⟨e1,e2⟩:=tw n ks _ r h2 (by rw[aoa,hl,Nat.succ_mul];omega);refine⟨by simp[e1],fun i y hi=>?_⟩;cases i with
     | zero=>simp at hi;subst hi;simpa using h1
     | succ i=>simp at hi;have:=e2 i y hi;rw[List.drop_drop]at this;rw[show(i+1) * ks.length=ks.length+i * ks.length by rw[Nat.succ_mul];omega];exact this
   . simp at h
theorem CN{Z Z':Nat->Prop}{w w':World}(hs:w.heap.size<=w'.heap.size)(hZ:∀ b,Z b->b<w.heap.size->Z' b/\w'.heap[b]? = w.heap[b]?):∀(ks:List K) (x:Tl ks) (vs:List Value) (b o:Nat),tT Z w ks x vs->(∀(j:Nat) (v:Value),vs[j]? = some v->w'.cell? ⟨b,o+j,none⟩=some v)->rR Z' w' ks x b o
 | [],_,_,_,_,_,_=>trivial
 | k::ks,x,[],_,_,h,_=>h.elim
 | k::ks,x,v::vs,b,o,h,hc=>⟨⟨v,hc 0 v rfl,RO.mono hs hZ k _ v h.1⟩,CN hs hZ ks x.2 vs b (o+1) h.2 (fun j u hj=>by rw[show o+1+j=o+(j+1)by omega];exact hc (j+1) u (by simpa using hj))⟩
theorem Dc(h:Rel cx Z g st a w){w':World}(hs:w.heap.size<=w'.heap.size){F:Nat->Nat->Prop}:∀(ks:List K) (l:List AV) (vs:List Value) (x:Tl ks) (j:Nat) (cs:Array Value) (o:Nat),(flat ks=true∨l.all qT=true)->a8 Z g st w l vs->st.readAll ks l=some x ->
 (∀(i:Nat) (v:Value),vs[i]? = some v->cs[o+i]? = some v)->gx w' ks x j F cs o
 | [],_,_,_,_,_,_,_,_,_,_=>trivial
 | k::ks,[],_,_,_,_,_,_,_,hx,_=>by simp[St.readAll]at hx
 | k::ks,av::l,[],_,_,_,_,_,hr,_,_=>hr.elim
 | k::ks,av::l,v::vs,x,j,cs,o,hf,hr,hx,hc=>by
   unfold St.readAll at hx;split at hx
   . rename_i y z hy hz;cases hx;refine⟨⟨v,hc 0 v rfl,?_⟩,Dc h hs ks l vs z (j+1) cs (o+1) ?_ hr.2 hz (fun i u hi=>by rw[show o+1+i=o+(i+1)by omega];exact hc (i+1) u (by simpa using hi))⟩
     . have ur:=oq h hr.1 hy;cases k with
       | int _=>exact ur
       | bool=>exact ur
       | str=>exact ur
       | sl e bZ=>
         rcases hf with hf | hf
         . simp[flat]at hf
         . simp only[anc,ami]at hf;cases av with
           | nil=>simp only[St.bI,amh]at hy;cases hy;have:v= .slice none 0 0:=hr.1;subst this;exact kP e bZ
           | d k' y'=>simp only[qT,am4]at hf;simp only[St.bI,St.read]at hy;obtain⟨e1,_⟩:=cN hy;rw[e1]at hf;simp[tB]at hf
           | lb b=>simp only[St.bI,St.read]at hy;obtain⟨e1,_⟩:=cN hy;cases e1
           | _=>simp[qT]at hf
     . rcases hf with hf | hf
       . cases k <;> simp[flat]at hf <;> exact .inl hf
       . simp only[anc,ami]at hf;exact .inr hf.2
   . simp at hx
theorem A9{size:Nat}(l l':List AV)(i:Nat)(x:Operand)(hs:oo st size l (i,x)=some l'):∃ tv p o,st.get x=some tv/\tv.dw = some p/\p.2.all st.live=true/\(fun i=>some (i * size,size)) i=some (o,p.2.length)/\o+p.2.length<=l.length/\l'=putAt l o p.2:=by
 unfold oo at hs;split at hs
 . rename_i tv hg;split at hs
   . rename_i gg p hp;cases hb:Nat.beq p.length size&&p.all st.live&&Nat.ble (i * size+p.length) l.length with
     | false=>simp[hb]at hs
     | true=>simp only[hb,oT,amh]at hs;simp only[ami]at hb;exact⟨tv,(gg,p),i * size,hg,hp,hb.1.2,by rw[beq_eq hb.1.1],amE hb.2,hs.symm⟩
   . simp at hs
 . simp at hs
theorem C8{step:List AV->Nat×Operand->Option (List AV)}(oS:∀ l l' q,step l q=some l'->l'.length=l.length):∀(parts:List (Nat×Operand)) (l l':List AV),kY step l parts=some l'->l'.length=l.length
 | [],l,l',h=>by simp only[kY,amh]at h;rw[h]
 | q::r,l,l',h=>by
   simp only[kY]at h;split at h
   . rename_i l1 h1;rw[C8 oS r l1 l' h,oS l l1 q h1]
   . simp at h
theorem mg(hT:cH P E)(h:Rel cx Z g st a w)(hc:Cons st){o:Oper}{t:TypeId}{n:Nat}{parts:Array (Nat×Operand)}(ho:o.op= .buildSlice t n parts){te:TI}{l:List AV}(E8:∃ ti ks,E.ti t=some ti/\ti.agg=false/\ti.ks=[.sl ti.elem ks]/\E.ti ti.elem=some te)
 (hl:kY (oo st te.ks.length) (rM n (te.ks.map nG)) parts.toList=some l)(hn:n * te.ks.length<=1000) :
 ∃ cs e0,(execOp a.eval o).run P w= .ok (.value (.slice (some ⟨w.heap.size,0,none⟩) n n)) (w.alloc (.cells cs e0 (0,0)))/\a8 Z g st w l cs.toList/\l.length=n * te.ks.length:=by
 obtain⟨ti,ks,iy,ye,Kf,Fa⟩:=E8;obtain⟨dd,hu,mW⟩:=(hT t ti iy).desc;have Ye:P.underlying t=some (.slice ti.elem):=by cases dd <;> simp[jE,ye,Kf]at mW;rename_i e;rw[mW];exact hu
 obtain⟨z,hz,hzc⟩:=uV (hT _ te Fa) w;have mR:z.cells.size=te.ks.length:=by rw[<- amT,hzc];simp
 have ahQ:a8 Z g st w (rM n (te.ks.map nG)) ((Array.range (n * z.cells.size)).map fun i=>z.cells[i % z.cells.size]!).toList:=by rw[uB,hzc];exact GL (Sa te.ks) n
 obtain⟨fT,q1,q2⟩:=AF h hc (place:=fun i=>some (i * te.ks.length,te.ks.length)) (step:=oo st te.ks.length) (fun l l' i x hs=>A9 l l' i x hs) parts.toList _ l _ ahQ hl;refine⟨fT,ti.elem,?_,q2,?_⟩
 . have Fb:(if n * te.ks.length=0 then (#[]:Array Value)else z.cells)=(if n * te.ks.length=0 then #[]else z.cells):=rfl;have h24:¬ (n * te.ks.length > 2 ^ 24):=by omega
   simp only[execOp,ho,Instr.buildSlice,amJ,amM Ye,amu,dz (hT _ te Fa),if_neg h24];by_cases h0:n * te.ks.length=0
   . have hn0:n * z.cells.size=0:=by rw[mR];exact h0
     have q1':=q1;rw[hn0]at q1';simp only[h0,if_true,amR,amu,amJ];have e1:((Array.range 0).map fun i=>(#[]:Array Value)[i % (#[]:Array Value).size]!)=((Array.range 0).map fun i=>z.cells[i % z.cells.size]!):=by simp
     have e2:(Array.map (fun x=>(x.1,a.eval x.2)) parts).toList=parts.toList.map fun q=>(q.1,a.eval q.2):=by simp
     simp only[e1,e2,q1'];simp[newRow]
   . have e2:(Array.map (fun x=>(x.1,a.eval x.2)) parts).toList=parts.toList.map fun q=>(q.1,a.eval q.2):=by simp
     rw[mR]at q1;simp only[h0,anz,amJ,hz,amu,amR,e2,mR,q1];simp[newRow]
 . rw[C8 (fun l l' q hs=>by
    obtain⟨tv,p,o,_,_,_,_,hle,rfl⟩:=A9 l l' q.1 q.2 hs;simp only[putAt,amj,am9,aoa];omega) parts.toList _ l hl,vm]
   simp
theorem jF(w:World)(o:Obj):(w.alloc o).heap=w.heap.push o:=rfl
theorem alloc_old(w:World)(o:Obj)(b:Nat)(h:b<w.heap.size):(w.alloc o).heap[b]? = w.heap[b]? :=by rw[jF,amW,if_neg (by omega)]
theorem wN(w:World)(o:Obj):(w.alloc o).heap[w.heap.size]? = some o:=by rw[jF,amW,if_pos rfl]
theorem F7(hT:cH P E)(h:Rel cx Z g st a w)(hc:Cons st){o:Oper}{d:Nat}(hd:o.dst=some d)(cE:kR cx a d)(hf:st.free d=true){t:TypeId}{n:Nat}{parts:Array (Nat×Operand)}(ho:o.op= .buildSlice t n parts){ti te:TI}{l:List AV}{xs:List (Tl te.ks)}
 (iy:∃ ks,E.ti t=some ti/\ti.agg=false/\ti.ks=[.sl ti.elem ks]/\E.ti ti.elem=some te)(hl:kY (oo st te.ks.length) (rM n (te.ks.map nG)) parts.toList=some l)(hn:n * te.ks.length<=1000)
 (hx:chunks st te.ks n l=some xs)(Pd:flat te.ks=true∨l.all qT=true)(bo:n<=bQ):ea P cx st a w o d (.v (.ref d 0 0),some ⟨false,[⟨0,0,.own (.sl ti.elem te.ks) xs⟩]⟩):=by
 obtain⟨ks,h1,h2,h3,h4⟩:=iy;obtain⟨cs,e0,au,eQ,hlen⟩:=mg hT h hc ho ⟨ti,ks,h1,h2,h3,h4⟩ hl hn;obtain⟨c1,c2⟩:=tw n te.ks l xs hx hlen;have Yg:cs.size=n * te.ks.length:=by have:=eU eQ;simp at this;omega
 intro next Q hk;unfold Oper.wp;rw[au,anl,hd];have kn:dG (w.alloc (.cells cs e0 (0,0))) (.sl ti.elem te.ks) xs (.slice (some ⟨w.heap.size,0,none⟩) n n) (fun b=>b=w.heap.size):=by
  refine⟨some ⟨w.heap.size,0,none⟩,n,by rw[show(aW (e:=ti.elem) xs).length=n from c1],by rw[show(aW (e:=ti.elem) xs).length=n from c1];exact oR _,by rw[show(aW (e:=ti.elem) xs).length=n from c1];exact bo,by simp,fun a' rX=>?_⟩;simp only[amh]at rX;subst rX;refine⟨w.heap.size,0,cs,e0,(0,0),rfl,rfl,wN _ _,by simp,by rw[Yg];omega,fun _ _ _=>False,fun _ _ _ hh=>hh.elim,fun _ _ _ _ _ hh=>hh.elim,fun i x hi=>?_⟩;have Dp:i<n:=by
   rcases amz i n with hh | hh
   . exact hh
   . have:xs[i]? = none:=amA (by omega);rw[show(aW (e:=ti.elem) xs)[i]? = xs[i]? from rfl,this]at hi;simp at hi
  have hm:=amL te.ks.length Dp;rw[Nat.succ_mul]at hm;refine Dc h (by rw[jF,anN];omega) te.ks _ (((cs.toList.drop (i * te.ks.length)).take te.ks.length)) x 0 cs _ ?_ (qA (mY eQ _) _) (c2 i x hi) ?_
  . rcases Pd with hh | hh
    . exact .inl hh
    . right;rw[amB]at hh ⊢;exact fun y hy=>hh y (aoF (ao2 hy))
  . intro j v hj;rw[anp]at hj;split at hj
    . rw[anq,aml]at hj;rw[amt];exact hj
    . simp at hj
 obtain⟨g',hg⟩:=h.newRow (d:=d) cE hf (w':=w.alloc (.cells cs e0 (0,0))) rfl rfl rfl (jF _ _) kn;exact hk _ _ _ _ hg
theorem Jt(hT:cH P E)(h:Rel cx Z g st a w)(hc:Cons st){o:Oper}{d:Nat}(hd:o.dst=some d)(cE:kR cx a d){t:TypeId}{n:Nat}{parts:Array (Nat×Operand)}(ho:o.op= .buildSlice t n parts){ti te:TI}{l:List AV}{xs:List (Tl te.ks)}
 (iy:∃ ks,E.ti t=some ti/\ti.agg=false/\ti.ks=[.sl ti.elem ks]/\E.ti ti.elem=some te)(hl:kY (oo st te.ks.length) (rM n (te.ks.map nG)) parts.toList=some l)(hn:n * te.ks.length<=1000)
 (hx:chunks st te.ks n l=some xs)(Pd:l.all AV.bV=true)(bo:n<=bQ):ea P cx st a w o d (.v (.d (.sl ti.elem te.ks) xs),none):=by
 obtain⟨ks,h1,h2,h3,h4⟩:=iy;obtain⟨cs,e0,au,eQ,hlen⟩:=mg hT h hc ho ⟨ti,ks,h1,h2,h3,h4⟩ hl hn;obtain⟨c1,c2⟩:=tw n te.ks l xs hx hlen;have Yg:cs.size=n * te.ks.length:=by have:=eU eQ;simp at this;omega
 intro next Q hk;unfold Oper.wp;rw[au,anl,hd];have hs:w.heap.size<=(w.alloc (.cells cs e0 (0,0))).heap.size:=by rw[jF,anN];omega
 have hs':(w.alloc (.cells cs e0 (0,0))).heap.size=w.heap.size+1:=by rw[jF,anN]
 have hz:=h.DX (Z':=fun b=>Z b∨b=w.heap.size) (w':=w.alloc (.cells cs e0 (0,0))) rfl rfl rfl hs (fun b hb=>alloc_old _ _ _ hb) (fun b hb=> .inl hb) (fun b hb=>hb.imp id (fun e=>⟨by omega,by omega⟩));refine hk _ _ _ _ (hz.nS cE ?_);show RO _ _ _ _ _;refine⟨some ⟨w.heap.size,0,none⟩,n,by rw[show(aW (e:=ti.elem) xs).length=n from c1],by rw[show(aW (e:=ti.elem) xs).length=n from c1];exact oR _,by rw[show(aW (e:=ti.elem) xs).length=n from c1];exact bo,by simp,fun _=>⟨w.heap.size,0,rfl,.inr rfl,by omega,fun i x hi=>?_⟩⟩;refine CN (Z:=Z) hs (fun b hb aV=>⟨.inl hb,alloc_old _ _ _ aV⟩) te.ks x ((cs.toList.drop (i * te.ks.length)).take te.ks.length) _ _ (dH h te.ks _ _ x (qA (mY eQ _) _) ?_ (c2 i x hi)) ?_
 . rw[amB]at Pd ⊢;exact fun y hy=>Pd y (aoF (ao2 hy))
 . intro j v hj;rw[anp]at hj;split at hj
   . rw[anq,aml]at hj;simp only[World.cell?,wN,amt];simpa using hj
   . simp at hj
theorem Ev(hT:cH P E)(h:Rel cx Z g st a w)(hc:Cons st){o:Oper}{d:Nat}(hd:o.dst=some d)(cE:kR cx a d)(hf:st.free d=true){t:TypeId}{n:Nat}{parts:Array (Nat×Operand)}(ho:o.op= .buildSlice t n parts){ti te:TI}{l:List AV}
 (iy:∃ ks,E.ti t=some ti/\ti.agg=false/\ti.ks=[.sl ti.elem ks]/\E.ti ti.elem=some te)(hl:kY (oo st te.ks.length) (rM n (te.ks.map nG)) parts.toList=some l)(hn:n * te.ks.length<=1000) :
 ea P cx st a w o d (.v (.qO d n),some ⟨true,l.map fun a=>⟨0,0,.av a⟩⟩):=by
 obtain⟨ks,h1,h2,h3,h4⟩:=iy;obtain⟨cs,e0,au,eQ,hlen⟩:=mg hT h hc ho ⟨ti,ks,h1,h2,h3,h4⟩ hl hn;intro next Q hk;unfold Oper.wp;rw[au,anl,hd];obtain⟨g',hg,_⟩:=h.DS (d:=d) cE hf (cs:=cs) (e:=e0) (l:=l.map fun a=>⟨0,0,.av a⟩) (by have:=eU eQ;simpa using this) (fun j c v hj hv=>by right;simp only[amX,anT]at hj;obtain⟨av,e1,rfl⟩:=hj;exact⟨av,rfl,sx eQ j av v e1 (by rw[aml];exact hv)⟩) (tv:= .v (.qO d n)) (v:= .slice (some ⟨w.heap.size,0,none⟩) n n) (.inr ⟨n,rfl,rfl⟩);exact hk _ _ _ _ hg
theorem ri{w:World}{F:Nat->Nat->Prop}:∀(ks:List K) (j:Nat) (cs:Array Value) (o:Nat),(∀(i:Nat) (v:Value),(ks.map zV)[i]? = some v->cs[o+i]? = some v)->gx w ks (jv ks) j F cs o
 | [],_,_,_,_=>trivial
 | k::ks,j,cs,o,h=>by
   refine⟨⟨zV k,h 0 _ rfl,?_⟩,ri ks (j+1) cs (o+1) (fun i v hi=>by rw[show o+1+i=o+(i+1)by omega];exact h (i+1) v (by simpa using hi))⟩;cases k with
   | int k=>exact⟨rfl,by unfold pT;cases k <;> simp[jv,dfl,IntKind.min,IntKind.max,IntKind.signed,IntKind.bits]⟩
   | bool=>rfl
   | str=>exact⟨rfl,amv _⟩
   | sl e ks=>exact kP e ks
theorem FX(hT:cH P E)(h:Rel cx Z g st a w){o:Oper}{d:Nat}(hd:o.dst=some d)(cE:kR cx a d)(hf:st.free d=true){t:TypeId}{xn xc:Operand}(ho:o.op= .makeSlice t xn xc){k k':IntKind}{n:Int}(h1:a.eval xn= .int k n)(h2:a.eval xc= .int k' n)
 {ti te:TI}(iy:∃ ks,E.ti t=some ti/\ti.agg=false/\ti.ks=[.sl ti.elem ks]/\E.ti ti.elem=some te)(h0:0<=n)(hb:n * te.bytes<=bQ)(v8:0<te.bytes) :
 ea P cx st a w o d (.v (.ref d 0 0),some ⟨false,[⟨0,0,.own (.sl ti.elem te.ks) (List.replicate n.toNat (jv te.ks))⟩]⟩):=by
 obtain⟨ks,e1,e2,e3,e4⟩:=iy;obtain⟨dd,hu,mW⟩:=(hT t ti e1).desc;have Ye:P.underlying t=some (.slice ti.elem):=by cases dd <;> simp[jE,e2,e3]at mW;rw[mW];exact hu
 obtain⟨z,hz,hzc⟩:=uV (hT _ te e4) w;have mR:z.cells.size=te.ks.length:=by rw[<- amT,hzc];simp
 obtain⟨i,Ud,hi2,hi3⟩:=Ca (hT _ te e4) w;have U6:n<=bQ:=by have:n * 1<=n * te.bytes:=aoA (by omega) h0;omega
 have bo:(bQ:Int)=140737488355328:=rfl;have ahR:IntKind.i64.wrap n=n:=Lk (by unfold pT;simp[IntKind.min,IntKind.max,IntKind.signed,IntKind.bits];omega);let m:=n.toNat;have hm:(m:Int)=n:=Int.toNat_of_nonneg h0;let cs:Array Value:=(Array.range (m * z.cells.size)).map fun i=>z.cells[i % z.cells.size]!
 have Mg:cs.toList=rM m (te.ks.map zV):=by show((Array.range (m * z.cells.size)).map _).toList=_;rw[uB,hzc]
 have au:(execOp a.eval o).run P w= .ok (.value (.slice (some ⟨w.heap.size,0,none⟩) m m)) (w.alloc (.cells cs ti.elem (0,0))):=by
  have hbt:¬ ((te.bytes:Int) * n > 2 ^ 48):=by rw[Int.mul_comm];omega
  have vQ:¬ (n.toNat * te.bytes > roomBytes):=by
   have:((n.toNat * te.bytes:Nat):Int)<=bQ:=by push_cast;rw[hm];exact hb
   unfold roomBytes;unfold bQ at this;omega
  simp only[execOp,ho,Instr.makeSlice,amJ,amM Ye,amu,h1,h2,asInt,asIntOf,amR,Ud,hi3,ahR];have c1:(decide (n<0))=false:=by simp;omega
  have c2:(decide ((te.bytes:Int) * n > 2 ^ 48))=false:=by simp only[aoj];exact hbt
  have c3:(decide (n > n))=false:=by simp
  simp only[c1,c2,c3,Bool.or_self,am1,anz,askRoom,vQ,amR,amu,dz (hT _ te e4),amJ];by_cases h0':n.toNat * te.ks.length=0
  . have hn0:m * z.cells.size=0:=by rw[mR];exact h0'
    have:cs = #[]:=by show(Array.range (m * z.cells.size)).map _=_;rw[hn0];simp
    simp[h0',newRow,this];exact⟨rfl,amP (fun c=>w.alloc (Obj.cells c ti.elem (0,0))) (by simp)⟩
  . have alp:((Array.range (n.toNat * te.ks.length)).map fun i=>z.cells[i % z.cells.size]!)=cs:=by show _=(Array.range (m * z.cells.size)).map _;rw[mR]
    simp only[h0',anz,amJ,hz,amu,amR,alp];simp[newRow];rfl
 intro next Q hk;unfold Oper.wp;rw[au,anl,hd];have hlen:(aW (e:=ti.elem) (List.replicate n.toNat (jv te.ks))).length=m:=anr;have kn:dG (w.alloc (.cells cs ti.elem (0,0))) (.sl ti.elem te.ks) (List.replicate n.toNat (jv te.ks)) (.slice (some ⟨w.heap.size,0,none⟩) m m) (fun b=>b=w.heap.size):=by
  refine⟨some ⟨w.heap.size,0,none⟩,m,by rw[hlen],by rw[hlen];exact oR _,by rw[hlen];omega,by simp,fun a' rX=>?_⟩;simp only[amh]at rX;subst rX;have Yg:cs.size=m * te.ks.length:=by rw[<- amT,Mg,vm];simp
  refine⟨w.heap.size,0,cs,ti.elem,(0,0),rfl,rfl,wN _ _,by simp,by rw[Yg];omega,fun _ _ _=>False,fun _ _ _ hh=>hh.elim,fun _ _ _ _ _ hh=>hh.elim,fun i x hi=>?_⟩;have wa:(List.replicate n.toNat (jv te.ks))[i]? = some x:=hi;rw[aoS]at wa;split at wa
  . rename_i aV;simp only[amh]at wa;subst wa;refine ri te.ks 0 cs _ (fun j v hj=>?_);have nQ:j<te.ks.length:=by
     rcases amz j te.ks.length with hh | hh
     . exact hh
     . simp[amA hh]at hj
    have hmul:=amL te.ks.length (show i+1<=m from aV);rw[amV,aoI]at hmul;rw[<- aml,Mg,AY m _ _ (by simp;omega)];simp only[anO,amt];rw[aoN i,Nat.mul_add_mod,aoE nQ];exact hj
  . simp at wa
 obtain⟨g',hg⟩:=h.newRow (d:=d) cE hf (w':=w.alloc (.cells cs ti.elem (0,0))) rfl rfl rfl (jF _ _) kn;exact hk _ _ _ _ hg
theorem j5(hT:cH P E){t:Nat}{te:TI}(h:E.sl t=some te):∃ ti ks,E.ti t=some ti/\ti.agg=false/\ti.ks=[.sl ti.elem ks]/\E.ti ti.elem=some te/\P.underlying t=some (.slice ti.elem):=by
 unfold En.sl at h;split at h
 . rename_i e0 ks e b fl iy;obtain⟨dd,hu,mW⟩:=(hT t _ iy).desc;have:dd= .slice e/\e0=e:=by
    cases dd with
    | slice e'=>obtain⟨_,bZ,h1,h2⟩:=mW;simp only[aoJ,K.sl.injEq,anQ]at h1;simp only at h2;rw[h2];exact⟨rfl,h1.1⟩
    | _=>simp[jE]at mW
   rw[this.1]at hu;exact⟨_,ks,iy,rfl,by rw[this.2],h,hu⟩
 . simp at h
theorem ql(hT:cH P E){t:Nat}(h:E.str t=true):P.underlying t=some .string:=by
 unfold En.str at h;split at h
 . rename_i e b fl iy;obtain⟨dd,hu,mW⟩:=(hT t _ iy).desc;cases dd <;> simp[jE]at mW;exact hu
 . simp at h
theorem uj{Z:Nat->Prop}{w:World}{e:TypeId}{ks:List K}{xs:T (.sl e ks)}{v:Value}(h:RO Z w (.sl e ks) xs v):∃ a c,v= .slice a (aW xs).length c/\(aW xs).length<=c/\(aW xs).length<=bQ/\(a=none->c=0) /\
 (aW xs≠[]->∃ b o,a=some ⟨b,o,none⟩/\Z b/\b<w.heap.size/\∀ i x,(aW xs)[i]? = some x->rR Z w ks x b (o+i * ks.length)):=h
theorem ma{n:Int}{len:Nat}(h:pQ n len=true):0<=n/\n<len/\n.toNat<len:=by simp only[pQ,cl,aE,ami,anH]at h;exact⟨h.1,h.2,by omega⟩
theorem Ky(h:Rel cx Z g st a w){r j s m i q s' m':Nat}{e0:TypeId}{gn:List K}{x0:T (.sl e0 gn)}{k:K}{y:T k}{v:Value}(hr:bC Z g st w (.pref r j s m i q) v)(hc:st.cell r j=some ⟨s',m',.own (.sl e0 gn) x0⟩)(es:s'=s)(em:m'=m)(hy:cellAt gn (hE x0 i) q=some ⟨k,y⟩) :
 RO (fun q=>Z q∨g.fp r j q) w k y v:=by
 obtain⟨cc,h1,h2,h3,h4⟩:=hr;rw[hc]at h1;simp only[amh]at h1;subst h1;obtain⟨e,ks,xs,g1,g2,g3,b,o,l,cap,g4,g5⟩:=h4 es em;simp only[RV.own.injEq,K.sl.injEq]at g1;obtain⟨⟨rfl,rfl⟩,g1⟩:=g1;cases g1;have ur:=dG.ro (Z:=fun q=>Z q∨g.fp r j q) _ _ _ _ (fun b hb=> .inr hb) (fj h hc rfl);rw[g4]at ur;obtain⟨aa,c',u1,u2,u3,u4,u5⟩:=ur;simp only[anj]at u1;obtain⟨rfl,rfl,rfl⟩:=u1;obtain⟨b',o',v1,v2,v3,v4⟩:=u5 (by intro h0;rw[h0]at g2;simp at g2);simp only[amh,anJ,anQ]at v1;obtain⟨rfl,rfl⟩:=v1;obtain⟨v',U5,hv2⟩:=qi gn _ b _ q k y (v4 i _ (nY x0 g2)) hy;rw[g5]at U5;simp only[amh]at U5;subst U5;exact hv2
theorem FD{t:TypeId}{e:TypeId}{sz:Nat}(hu:P.underlying t=some (.slice e))(hs:∀ w,(sizeOf e).run P w= .ok sz w){b o len cap:Nat}{k:IntKind}{n:Int}(h0:0<=n)(aV:n<len) :
 (Instr.indexAt t (.slice (some ⟨b,o,none⟩) len cap) (.int k n)).run P w= .ok (.pointer (some ⟨b,o+n.toNat * sz,none⟩)) w:=by
 have h1:(decide (0<=n/\n<(len:Int)))=true:=by simp;omega
 simp[Instr.indexAt,asIntOf,amM hu,h0,aV,hs,gO]
theorem HT(hT:cH P E)(h:Rel cx Z g st a w)(hc:Cons st){o:Oper}{d:Nat}(hd:o.dst=some d)(cE:kR cx a d){t:TypeId}{x i:Operand}(ho:o.op= .indexAddr t x i){te:TI}{tv ti:TV}{p:IntKind×Int}{av:AV}
 (ht:E.sl t=some te)(hx:st.get x=some tv)(hi:st.get i=some ti)(hp:ti.int? = some p)(hq:(st.indexAddr te.ks.length tv p.2).run=some av):ea P cx st a w o d (.v av,none):=by
 obtain⟨tt,ks,t1,t2,t3,t4,hu⟩:=j5 hT ht;have hs:=fun w=>dz (hT _ te t4) (P:=P) w
 obtain⟨k,n⟩:=p;have hiv:=(gG (bg h hc hi) hp).1;have rx:=bg h hc hx;have fin:∀(b o' len cap:Nat),a.eval x= .slice (some ⟨b,o',none⟩) len cap->0<=n->n<len->bC Z g st w av (.pointer (some ⟨b,o'+n.toNat * te.ks.length,none⟩))->ea P cx st a w o d (.v av,none):=by intro b o' len cap e1 e2 e3 e4;refine cK h hd cE (v:= .pointer (some ⟨b,o'+n.toNat * te.ks.length,none⟩)) ?_ e4;have:=FD (P:=P) (w:=w) hu hs (b:=b) (o:=o') (cap:=cap) (k:=k) e2 e3;simp only[execOp,ho,e1,hiv];simp[this]
 unfold St.indexAddr at hq;split at hq
 . rename_i r j s;obtain⟨cc,h1,h2,h3⟩:=rx;split at hq
   . rename_i s' m e bZ xs bD;rw[bD]at h1;simp only[amh]at h1;subst h1;cases hb:Nat.beq s' s&&Nat.beq bZ.length te.ks.length with
     | false=>simp[hb,Tr.run]at hq
     | true=>
       simp only[hb,oT]at hq;simp only[ami]at hb;obtain⟨hn,hq⟩:=Tr.bT hq;simp only[Tr.run,amh]at hq;subst hq;obtain⟨n0,n1,n2⟩:=ma hn;have kn:=fj h bD rfl;obtain⟨aa,c,u1,u2,u3,u4,u5⟩:=kn;cases aa with
       | none=>have:=u4 rfl;omega
       | some aa=>obtain⟨b,o',_,_,_,rfl,_⟩:=u5 aa rfl;have ev:a.eval x=g.cv r j:=h3 (beq_eq hb.1);refine fin b o' _ c (by rw[ev,u1]) n0 n1 ⟨_,bD,h2,fun _=>⟨e,bZ,xs,rfl,n2,b,o',_,c,u1,by rw[<- beq_eq hb.2];rfl⟩⟩
   . simp[Tr.run]at hq
 . rename_i e bZ xs;cases hb:Nat.beq bZ.length te.ks.length with
   | false=>simp[hb,Tr.run]at hq
   | true=>simp only[hb,oT]at hq;obtain⟨hn,hq⟩:=Tr.bT hq;simp only[Tr.run,amh]at hq;subst hq;obtain⟨n0,n1,n2⟩:=ma hn;have HZ:RO Z w (.sl e bZ) xs (a.eval x):=rx;obtain⟨aa,c,u1,u2,u3,u4,u5⟩:=uj HZ;obtain⟨b,o',rfl,v2,v3,v4⟩:=u5 (by intro h0;rw[h0]at n2;simp at n2);exact fin b o' _ c u1 n0 n1 ⟨n2,b,o',v2,v3,by rw[<- beq_eq hb];rfl,v4⟩
 . rename_i r j s m e bZ xs;obtain⟨cc,h1,h2,h3,h4⟩:=rx;split at hq
   . rename_i rc bD;rw[bD]at h1;simp only[amh]at h1;subst h1;cases hb:Nat.beq rc.s s&&Nat.beq rc.m m&&Nat.beq bZ.length te.ks.length with
     | false=>simp[hb,Tr.run]at hq
     | true=>simp only[hb,oT]at hq;simp only[ami]at hb;obtain⟨hn,hq⟩:=Tr.bT hq;simp only[Tr.run,amh]at hq;subst hq;obtain⟨n0,n1,n2⟩:=ma hn;have HZ:=h4 (beq_eq hb.1.1) (beq_eq hb.1.2);obtain⟨aa,c,u1,u2,u3,u4,u5⟩:=uj HZ;obtain⟨b,o',rfl,v2,v3,v4⟩:=u5 (by intro h0;rw[h0]at n2;simp at n2);exact fin b o' _ c u1 n0 n1 ⟨rc,bD,h2,h3,fun _ _=>⟨n2,b,o',v2,v3,by rw[<- beq_eq hb.2];rfl,v4⟩⟩
   . simp[Tr.run]at hq
 . rename_i r j s m i' q;have rx0:bC Z g st w (.pref r j s m i' q) (a.eval x):=rx;obtain⟨cc,h1,h2,h3,h4⟩:=rx;split at hq
   . rename_i s' m' e0 gn x0 bD;cases hb:Nat.beq s' s&&Nat.beq m' m with
     | false=>simp[hb,Tr.run]at hq
     | true=>
       simp only[hb,oT]at hq;simp only[ami]at hb;split at hq
       . rename_i e bZ xs hy;cases l6:Nat.beq bZ.length te.ks.length with
         | false=>simp[l6,Tr.run]at hq
         | true=>simp only[l6,oT]at hq;obtain⟨hn,hq⟩:=Tr.bT hq;simp only[Tr.run,amh]at hq;subst hq;obtain⟨n0,n1,n2⟩:=ma hn;have HZ:=Ky h rx0 bD (beq_eq hb.1) (beq_eq hb.2) hy;obtain⟨aa,c,u1,u2,u3,u4,u5⟩:=uj HZ;obtain⟨b,o',rfl,v2,v3,v4⟩:=u5 (by intro h0;rw[h0]at n2;simp at n2);rw[bD]at h1;simp only[amh]at h1;subst h1;exact fin b o' _ c u1 n0 n1 ⟨_,bD,h2,h3,fun _ _=>⟨n2,b,o',v2,v3,by rw[<- beq_eq l6];rfl,v4⟩⟩
       . simp[Tr.run]at hq
   . simp[Tr.run]at hq
 . simp[Tr.run]at hq
theorem OJ{s:S8}{n:Nat}(h:n<s.length):(fQ s)[n]? = some (s.getD n 0):=by
 have aV:n<(fQ s).size:=by rw[lj];exact h
 rw[getElem?_pos (fQ s) n aV];have h1:(fQ s)[n]=(fQ s).data[n]'aV:=rfl;have h2:(fQ s).data[n]'aV=s[n]'h:=by simp only[fQ,List.getElem_toArray]
 rw[h1,h2];simp only[List.getD,amm h,anF]
theorem Xt(hT:cH P E)(h:Rel cx Z g st a w)(hc:Cons st){o:Oper}{d:Nat}(hd:o.dst=some d)(cE:kR cx a d){t:TypeId}{x i:Operand}(ho:o.op= .index t x i){tv ti:TV}{p:IntKind×Int}{s:S8}
 (ht:E.str t=true)(hx:st.get x=some tv)(hi:st.get i=some ti)(hp:ti.int? = some p)(hs:tv.pr = some s)(hn:pQ p.2 s.length=true):ea P cx st a w o d (.v (.d (.int .u8) (FT s p.2.toNat)),none):=by
 have hu:=ql hT ht;have hiv:=(gG (bg h hc hi) hp).1;have hxv:=(oO (bg h hc hx) hs).1;obtain⟨n0,n1,n2⟩:=ma hn;refine cK h hd cE (v:= .int .u8 ((s.getD p.2.toNat 0).toNat:Int)) ?_ ⟨rfl,?_⟩
 . simp[execOp,ho,hiv,hxv,Instr.index,asIntOf,amM hu,n0,OJ n2]
 . have:=(s.getD p.2.toNat 0).toNat_lt;have e1:IntKind.u8.min=0:=rfl;have e2:IntKind.u8.max=255:=rfl;unfold pT FT;rw[e1,e2];omega
end
theorem GD(s:S8)(l h:Nat):(fQ s).extract l h=fQ ((s.take h).drop l):=by apply apd;rw[ByteArray.data_extract];apply Array.ext';simp only[fQ,Array.toList_extract,List.extract_eq_take_drop];rw[List.drop_take]
section
variable{P:Program}{cx:Cx P}{Z:Nat->Prop}{g:Gh}{st:St}{a:Act}{w:World}{E:En}
theorem jM{lo hi:Int}{len:Nat}(h:jS lo hi len=true):0<=lo/\lo<=hi/\hi<=len:=by simp only[jS,cl,ami,anH]at h;exact⟨h.1,h.2.1,h.2.2⟩
theorem rz{v:Value}{k:IntKind}{n:Int}{y:Nat}(hv:v= .int k n)(h0:0<=n)(h1:n<=y)(c:BoundsCode)(w:World):(Instr.sliceBound v y c).run P w= .ok n.toNat w:=by subst hv;have:0<=n/\n<=(y:Int):=⟨h0,h1⟩;simp only[Instr.sliceBound,asIntOf,amJ,amR,amu,if_pos this]
theorem zE(h:Rel cx Z g st a w)(hc:Cons st){x:Operand}{n:Int}(hx:(match st.get x with | some tv=>(match tv.int? with | some (_,n)=>some n | none=>none) | none=>none)=some n):∃ k,a.eval x= .int k n:=by
 split at hx
 . rename_i tv hg;split at hx
   . rename_i k m hi;simp only[amh]at hx;subst hx;exact⟨k,(gG (bg h hc hg) hi).1⟩
   . simp at hx
 . simp at hx
theorem sO(h:Rel cx Z g st a w)(hc:Cons st){lo hi:Option Operand}{len cap:Nat}{p:Int×Int}(tB:Bool)(hl:o6 st lo hi len=some p)(hk:jS p.1 p.2 len=true)(vR:len<=cap) :
 (Instr.sliceBounds tB len cap (lo.map a.eval) (hi.map a.eval) none).run P w= .ok (p.1.toNat,p.2.toNat,cap) w:=by
 obtain⟨k0,k1,k2⟩:=jM hk;unfold o6 at hl;split at hl
 . rename_i x y hx hy;simp only[amh]at hl;subst hl;simp only at k0 k1 k2;cases hi with
   | none=>
     simp only[amh]at hy;subst hy;cases lo with
     | none=>simp only[amh]at hx;subst hx;simp[Instr.sliceBounds]
     | some l=>obtain⟨k,hv⟩:=zE h hc hx;simp only[Instr.sliceBounds,amI,aoo,amJ,amR,amu,rz hv k0 k1];simp
   | some u=>
     obtain⟨ku,hu⟩:=zE h hc hy;cases lo with
     | none=>simp only[amh]at hx;subst hx;simp only[Instr.sliceBounds,amI,aoo,amJ,amR,amu,rz (P:=P) (y:=cap) hu (by omega) (by omega)];simp
     | some l=>obtain⟨k,hv⟩:=zE h hc hx;simp only[Instr.sliceBounds,amI,aoo,amJ,amR,amu,rz (P:=P) (y:=cap) hu (by omega) (by omega),rz (P:=P) (y:=y.toNat) hv k0 (by omega)]
 . simp at hl
theorem Kr{α:Type}(l:List α){lo hi:Int}(h:jS lo hi l.length=true):(sub l lo hi).length=hi.toNat-lo.toNat:=by obtain⟨k0,k1,k2⟩:=jM h;simp only[sub,aoa,am9];omega
theorem Ef{Z:Nat->Prop}{w:World}{e:TypeId}{ks:List K}{xs:T (.sl e ks)}{aa:Option Addr}{c:Nat}{lo hi:Int}(h:RO Z w (.sl e ks) xs (.slice aa (aW xs).length c))(hk:jS lo hi (aW xs).length=true) :
 RO Z w (.sl e ks) (sub (aW xs) lo hi) (.slice (if c=lo.toNat then aa else aa.map (·.add (lo.toNat * ks.length))) (hi.toNat-lo.toNat) (c-lo.toNat)):=by
 obtain⟨k0,k1,k2⟩:=jM hk;obtain⟨aa',c',u1,u2,u3,u4,u5⟩:=h;simp only[anj]at u1;obtain⟨rfl,_,rfl⟩:=u1;have hl:(aW (e:=e) (ks:=ks) (sub (aW xs) lo hi)).length=hi.toNat-lo.toNat:=Kr (aW xs) hk;refine⟨_,c-lo.toNat,by rw[hl],by rw[hl];omega,by rw[hl];omega,fun hn=>?_,fun cY=>?_⟩
 . split at hn
   . omega
   . cases aa with
     | none=>have:=u4 rfl;omega
     | some _=>simp at hn
 . have Kg:0<hi.toNat-lo.toNat:=by
    rw[<- hl];exact ao7.2 cY
   have HW:aW xs≠[]:=by intro h0;rw[h0]at k2;simp at k2;omega
   obtain⟨b,o,rfl,v2,v3,v4⟩:=u5 HW;refine⟨b,o+lo.toNat * ks.length,?_,v2,v3,fun i x wa=>?_⟩
   . rw[if_neg (by omega)];simp[gO]
   . have Yh:(sub (aW xs) lo hi)[i]? = some x:=wa;simp only[sub,anq,anp]at Yh;split at Yh
     . have:=v4 _ x Yh;rw[amV]at this;rw[anm];exact this
     . simp at Yh
theorem C6{t e:TypeId}{sz:Nat}(hu:P.underlying t=some (.slice e))(hs:∀ w,(sizeOf e).run P w= .ok sz w){aa:Option Addr}{len cap:Nat}{lo hi:Option Value}{l hh:Nat}
 (hb:(Instr.sliceBounds true len cap lo hi none).run P w= .ok (l,hh,cap) w) :
 (Instr.sliceAt t (.slice aa len cap) lo hi none).run P w= .ok (.slice (if cap=l then aa else aa.map (·.add (l * sz))) (hh-l) (cap-l)) w:=by
 simp only[Instr.sliceAt,amJ,amM hu,amu,Instr.slice,hb,hs,amR]
theorem V8(hT:cH P E)(h:Rel cx Z g st a w)(hc:Cons st){o:Oper}{d:Nat}(hd:o.dst=some d)(cE:kR cx a d){t:TypeId}{x:Operand}{lo hi:Option Operand}(ho:o.op= .slice t x lo hi none){te:TI}{tv:TV}{av:AV}
 (ht:E.sl t=some te)(hx:st.get x=some tv)(hq:(st.qJ te.ks.length tv lo hi).run=some av):ea P cx st a w o d (.v av,none):=by
 obtain⟨tt,ks,t1,t2,t3,t4,hu⟩:=j5 hT ht;have hs:=fun w=>dz (hT _ te t4) (P:=P) w
 have rx:=bg h hc hx
 have fin:∀(aa:Option Addr) (len cap:Nat) (p:Int×Int),a.eval x= .slice aa len cap->len<=cap->o6 st lo hi len=some p->jS p.1 p.2 len=true ->
  bC Z g st w av (.slice (if cap=p.1.toNat then aa else aa.map (·.add (p.1.toNat * te.ks.length))) (p.2.toNat-p.1.toNat) (cap-p.1.toNat))->ea P cx st a w o d (.v av,none):=by
  intro aa len cap p e1 e2 e3 e4 e5;refine cK h hd cE ?_ e5;simp only[execOp,ho,e1,aoo,amJ,C6 hu hs (sO (P:=P) h hc true e3 e4 e2),amu];rfl
 unfold St.qJ at hq;split at hq
 . obtain⟨p,hp,hq⟩:=Tr.ai hq;obtain⟨hk,hq⟩:=Tr.bT hq;simp only[Tr.run,amh]at hq;subst hq;have ex:a.eval x= .slice none 0 0:=rx;obtain⟨k0,k1,k2⟩:=jM hk;refine fin none 0 0 p ex (oR _) hp hk ?_;have e1:p.1.toNat=0:=by omega
   have e2:p.2.toNat=0:=by omega
   rw[e1,e2];rfl
 . rename_i e bZ xs;cases hb:Nat.beq bZ.length te.ks.length with
   | false=>simp[hb,Tr.run]at hq
   | true=>simp only[hb,oT]at hq;obtain⟨p,hp,hq⟩:=Tr.ai hq;obtain⟨hk,hq⟩:=Tr.bT hq;simp only[Tr.run,amh]at hq;subst hq;have HZ:RO Z w (.sl e bZ) xs (a.eval x):=rx;have ⟨aa,c,u1,u2,_⟩:=uj HZ;rw[u1]at HZ;have:=Ef HZ hk;rw[beq_eq hb]at this;exact fin aa _ c p u1 u2 hp hk this
 . rename_i r j s m e bZ xs;obtain⟨cc,h1,h2,h3,h4⟩:=rx;split at hq
   . rename_i rc bD;rw[bD]at h1;simp only[amh]at h1;subst h1;cases hb:Nat.beq rc.s s&&Nat.beq rc.m m&&Nat.beq bZ.length te.ks.length with
     | false=>simp[hb,Tr.run]at hq
     | true=>simp only[hb,oT]at hq;simp only[ami]at hb;obtain⟨p,hp,hq⟩:=Tr.ai hq;obtain⟨hk,hq⟩:=Tr.bT hq;simp only[Tr.run,amh]at hq;subst hq;have HZ:=h4 (beq_eq hb.1.1) (beq_eq hb.1.2);have ⟨aa,c,u1,u2,_⟩:=uj HZ;rw[u1]at HZ;have:=Ef HZ hk;rw[beq_eq hb.2]at this;exact fin aa _ c p u1 u2 hp hk ⟨rc,bD,h2,h3,fun _ _=>this⟩
   . simp[Tr.run]at hq
 . rename_i r j s m i' q;have rx0:bC Z g st w (.pref r j s m i' q) (a.eval x):=rx;obtain⟨cc,h1,h2,h3,h4⟩:=rx;split at hq
   . rename_i s' m' e0 gn x0 bD;cases hb:Nat.beq s' s&&Nat.beq m' m with
     | false=>simp[hb,Tr.run]at hq
     | true=>
       simp only[hb,oT]at hq;simp only[ami]at hb;split at hq
       . rename_i e bZ xs hy;cases l6:Nat.beq bZ.length te.ks.length with
         | false=>simp[l6,Tr.run]at hq
         | true=>simp only[l6,oT]at hq;obtain⟨p,hp,hq⟩:=Tr.ai hq;obtain⟨hk,hq⟩:=Tr.bT hq;simp only[Tr.run,amh]at hq;subst hq;have HZ:=Ky h rx0 bD (beq_eq hb.1) (beq_eq hb.2) hy;have ⟨aa,c,u1,u2,_⟩:=uj HZ;rw[u1]at HZ;have:=Ef HZ hk;rw[beq_eq l6]at this;rw[bD]at h1;simp only[amh]at h1;subst h1;exact fin aa _ c p u1 u2 hp hk ⟨_,bD,h2,h3,fun _ _=>this⟩
       . simp[Tr.run]at hq
   . simp[Tr.run]at hq
 . rename_i r j s;obtain⟨cc,h1,h2,h3⟩:=rx;split at hq
   . rename_i s' m e bZ xs bD;rw[bD]at h1;simp only[amh]at h1;subst h1;cases hb:Nat.beq s' s&&Nat.beq bZ.length te.ks.length with
     | false=>simp[hb,Tr.run]at hq
     | true=>
       simp only[hb,oT]at hq;simp only[ami]at hb;obtain⟨p,hp,hq⟩:=Tr.ai hq;obtain⟨hk,hq⟩:=Tr.bT hq;have ev:a.eval x=g.cv r j:=h3 (beq_eq hb.1);have kn:=fj h bD rfl;have ur:=dG.ro (Z:=fun q=>Z q∨g.fp r j q) _ _ _ _ (fun b hb=> .inr hb) kn;have ⟨aa,c,u1,u2,_⟩:=uj ur;rw[u1]at ur;split at hq
       . rename_i Pe;simp only[Tr.run,amh]at hq;subst hq;refine fin aa _ c p (by rw[ev,u1]) u2 hp hk ⟨_,bD,h2,fun _=>⟨aa,_,c,u1,?_,?_⟩⟩
         . obtain⟨k0,k1,k2⟩:=jM hk;omega
         . have yo:p.1=0:=by
            unfold o6 at hp;simp only at hp;split at hp
            . rename_i y hy e1;simp only[amh]at hp e1;subst hp;simp_all
            . simp at hp
           rw[yo];simp only[Int.toNat_zero,Nat.zero_mul,Nat.sub_zero];congr 1;split
           . rfl
           . cases aa with
             | none=>rfl
             | some q=>simp[Addr.add]
       . rename_i Pe;simp only[Tr.run,amh]at hq;subst hq;have:=Ef ur hk;rw[beq_eq hb.2]at this;exact fin aa _ c p (by rw[ev,u1]) u2 hp hk ⟨_,bD,by rw[beq_eq hb.1];exact oR _,oR _,fun _ _=>this⟩
   . simp[Tr.run]at hq
 . simp[Tr.run]at hq
theorem Tj(hT:cH P E)(h:Rel cx Z g st a w)(hc:Cons st){o:Oper}{d:Nat}(hd:o.dst=some d)(cE:kR cx a d){t:TypeId}{x:Operand}{lo hi:Option Operand}(ho:o.op= .slice t x lo hi none){tv:TV}{av:AV}
 (ht:E.str t=true)(hx:st.get x=some tv)(hq:(st.qK tv lo hi).run=some av):ea P cx st a w o d (.v av,none):=by
 have hu:=ql hT ht;unfold St.qK at hq;split at hq
 . rename_i s hs;obtain⟨ev,hb⟩:=oO (bg h hc hx) hs;obtain⟨p,hp,hq⟩:=Tr.ai hq;obtain⟨hk,hq⟩:=Tr.bT hq;simp only[Tr.run,amh]at hq;subst hq;have Pf:=sO (P:=P) h hc false hp hk (oR _);refine cK h hd cE (v:= .string (fQ (sub s p.1 p.2))) ?_ ⟨rfl,?_⟩
   . have dh:(fQ s).size=s.length:=lj s;simp only[execOp,ho,ev,aoo,Instr.sliceAt,amJ,amM hu,amu,Instr.slice,dh,Pf,anD,am1,anz,amR];rw[GD];rfl
   . have:=Kr s hk;show(sub s p.1 p.2).length<=bQ;obtain⟨k0,k1,k2⟩:=jM hk;omega
 . simp[Tr.run]at hq
theorem CM:∀ {l:List (Bool×List AV)} {vs:List Value},iK Z g st w l vs->∀(j:Nat) (p:Bool×List AV),l[j]? = some p->∃ v,vs[j]? = some v/\vw Z g st w p v
 | [],[],_,_,_,h=>by simp at h
 | _::l,v::vs,h,j,p,h1=>by
   cases j with
   | zero=>simp at h1;subst h1;exact⟨v,rfl,h.1⟩
   | succ j=>simp at h1 ⊢;exact CM h.2 j p h1
 | [],_::_,h,_,_,_=>h.elim
 | _::_,[],h,_,_,_=>h.elim
theorem Oi{gg:Bool}{l:List AV}{v:Value}{tv:TV}(h:vw Z g st w (gg,l) v)(hw:iH gg l=some tv):bW Z g st w tv v:=by
 unfold iH at hw;split at hw
 . simp only[amh]at hw;subst hw;exact h
 . simp only[amh]at hw;subst hw;exact h
 . simp at hw
theorem Na(h:Rel cx Z g st a w)(hc:Cons st){o:Oper}{d:Nat}(hd:o.dst=some d)(cE:kR cx a d){x:Operand}{i:Nat}(ho:o.op= .extract x i){l:List (Bool×List AV)}{gg:Bool}{l':List AV}{tv:TV}
 (hx:st.get x=some (.tup l))(hi:l[i]? = some (gg,l'))(hw:iH gg l'=some tv):ea P cx st a w o d (tv,none):=by
 obtain⟨vs,e1,e2⟩:=bg h hc hx;obtain⟨v,e3,e4⟩:=CM e2 i _ hi;refine cK h hd cE (v:=v) ?_ (Oi e4 hw);rw[aml]at e3;simp[execOp,ho,e1,Instr.extract,e3]
theorem lS{tv:TV}{v:Value}{p:Bool×List AV}(hr:bW Z g st w tv v)(hp:tv.dw = some p):vw Z g st w p v:=by
 cases tv with
 | v a=>simp only[TV.dw,amh]at hp;subst hp;exact hr
 | agg l=>simp only[TV.dw,amh]at hp;subst hp;exact hr
 | bc r j s m e ks x=>simp only[TV.dw,amh]at hp;subst hp;exact Qf hr
 | _=>simp[TV.dw]at hp
theorem xP(h:Rel cx Z g st a w)(hc:Cons st):∀(os:List Operand) (l:List TV) (r:List (Bool×List AV)),st.getAll os=some l->lists l=some r->iK Z g st w r (os.map a.eval)
 | [],l,r,h1,h2=>by simp only[St.getAll,amh]at h1;subst h1;simp only[lists,amh]at h2;subst h2;trivial
 | o::os,l,r,h1,h2=>by
   simp only[St.getAll]at h1;split at h1
   . rename_i x l' hx hl;simp only[amh]at h1;subst h1;simp only[lists]at h2;split at h2
     . rename_i p q hp hq;simp only[amh]at h2;subst h2;exact⟨lS (bg h hc hx) hp,xP h hc os l' q hl hq⟩
     . simp at h2
   . simp at h1
theorem Iu(h:Rel cx Z g st a w)(hc:Cons st){o:Oper}{d:Nat}(hd:o.dst=some d)(cE:kR cx a d){f:Nat}{first cR:Array Operand}(ho:o.op= .makeFunc (.func f) first cR){l:List TV}{r:List (Bool×List AV)}
 (hf:first.size=0)(hl:st.getAll cR.toList=some l)(hr:lists l=some r):ea P cx st a w o d (.fn f r,none):=by
 have h1:=xP h hc _ _ _ hl hr;have hf':first = #[]:=Array.eq_empty_of_size_eq_zero hf
 refine cK h hd cE (v:= .func (.func f) #[] (cR.map a.eval)) ?_ ⟨_,rfl,by simpa using h1⟩;simp[execOp,ho,Instr.makeFunc,hf']
theorem Vm(h:Rel cx Z g st a w){isS:Bool}{tv:TV}{v:Value}(hr:bW Z g st w tv v){n:Int}(hn:st.len isS tv=some n):0<=n/\n<=bQ/\(isS=false->∃ aa c,v= .slice aa n.toNat c)/\(isS=true->∃ s,v= .string (fQ s)/\(s.length:Int)=n):=by
 unfold St.len at hn;split at hn
 . cases isS with
   | true=>simp at hn
   | false=>simp only[oF,amh]at hn;subst hn;cases hr;exact⟨by omega,by decide,fun _=>⟨none,0,rfl⟩,fun h=>(by simp at h)⟩
 . rename_i x _;cases hy:st.read x with
   | none=>rw[hy]at hn;cases isS <;> simp[lenOf]at hn
   | some y=>
     obtain⟨k,y⟩:=y;rw[hy]at hn;have ur:=DJ h hr hy;cases isS with
     | false=>
       cases k with
       | sl e ks=>simp only[lenOf,amh]at hn;subst hn;obtain⟨aa,c,u1,u2,u3,_⟩:=ur;exact⟨by omega,by omega,fun _=>⟨aa,c,by simpa using u1⟩,fun h=>(by simp at h)⟩
       | _=>simp[lenOf]at hn
     | true=>
       cases k with
       | str=>simp only[lenOf,amh]at hn;subst hn;obtain⟨u1,u2⟩:=ur;exact⟨by omega,by exact_mod_cast u2,fun h=>(by simp at h),fun _=>⟨y,u1,rfl⟩⟩
       | _=>simp[lenOf]at hn
 . simp at hn
theorem Wh{n:Int}(n0:0<=n)(n1:n<=bQ):pT .i64 n:=by have e1:IntKind.i64.min = -9223372036854775808:=rfl;have e2:IntKind.i64.max=9223372036854775807:=rfl;have e3:(bQ:Int)=140737488355328:=rfl;unfold pT;rw[e1,e2];omega
theorem aay(hT:cH P E)(h:Rel cx Z g st a w)(hc:Cons st){o:Oper}{d:Nat}(hd:o.dst=some d)(cE:kR cx a d){c:Call}(ho:o.op= .call c)(fe:c.callee= .builtin .len){x:Operand}{t:Nat}{ts:List Nat}(cF:c.args.toList=[x])(yN:c.argTypes.toList=t::ts){isS:Bool}{tv:TV}{n:Int}
 (ht:match isS with | true=>E.str t=true | false=>∃ te,E.sl t=some te)(hx:st.get x=some tv)(hn:st.len isS tv=some n):ea P cx st a w o d (.v (.d (.int .i64) n),none):=by
 obtain⟨n0,n1,n2,n3⟩:=Vm h (bg h hc hx) hn;have iv:c.args = #[x]:=by rw[<- anh (xs:=c.args),cF]
 have Kh:c.argTypes[0]? = some t:=by rw[<- aml,yN];rfl
 have au:(execOp a.eval o).run P w= .ok (.value (.int .i64 n)) w:=by
  have hb:(Builtin.len_ c.argTypes o.type (c.args.map a.eval)).run P w= .ok (.int .i64 n) w:=by
   cases isS with
   | true=>have hu:=ql hT ht;obtain⟨s,ev,hs⟩:=n3 rfl;simp only[Builtin.len_,Kh,iv,anZ,amS,aok,amU,amn,amJ,amM hu,amu,ev,amR,goInt,lj,hs]
   | false=>obtain⟨te,ht⟩:=ht;obtain⟨_,_,_,_,_,_,hu⟩:=j5 hT ht;obtain⟨aa,cc,ev⟩:=n2 rfl;have:((n.toNat:Nat):Int)=n:=Int.toNat_of_nonneg n0;simp only[Builtin.len_,Kh,iv,anZ,amS,aok,amU,amn,amJ,amM hu,amu,ev,amR,goInt,this]
  simp only[execOp,ho,resolve,fe,amJ,amR,amu,invoke,builtin,hb]
 exact cK h hd cE au ⟨rfl,Wh n0 n1⟩
theorem GK(h:Rel cx Z g st a w)(hc:Cons st){o:Oper}{d:Nat}(hd:o.dst=some d)(cE:kR cx a d){c:Call}(ho:o.op= .call c){mn:Bool}(fe:c.callee= .builtin (match mn with | true=> .min | false=> .max)){x y:Operand}(cF:c.args.toList=[x,y]){tx ty:TV}{p q:IntKind×Int}
 (hx:st.get x=some tx)(hy:st.get y=some ty)(hp:tx.int? = some p)(hq:ty.int? = some q)(hk:p.1=q.1):ea P cx st a w o d (.v (.d (.int p.1) (match mn with | true=>UT p.2 q.2 | false=>Jd p.2 q.2)),none):=by
 obtain⟨ex,rx⟩:=gG (bg h hc hx) hp;obtain⟨ey,ry⟩:=gG (bg h hc hy) hq;have iv:c.args = #[x,y]:=by rw[<- anh (xs:=c.args),cF]
 cases mn with
 | true=>
   refine cK h hd cE (v:= .int p.1 (UT p.2 q.2)) ?_ ⟨rfl,?_⟩
   . simp only[execOp,ho,resolve,fe,iv,amJ,amR,amu,invoke,builtin,Builtin.min_,anZ,amS,aok,List.foldlM_cons,List.foldlM_nil,ex,ey,Builtin.min2,UT]
   . show pT p.1 (UT p.2 q.2);unfold UT;split
     . rw[hk];exact ry
     . exact rx
 | false=>
   refine cK h hd cE (v:= .int p.1 (Jd p.2 q.2)) ?_ ⟨rfl,?_⟩
   . simp only[execOp,ho,resolve,fe,iv,amJ,amR,amu,invoke,builtin,Builtin.max_,anZ,amS,aok,List.foldlM_cons,List.foldlM_nil,ex,ey,Builtin.max2,Jd,gt_iff_lt]
   . show pT p.1 (Jd p.2 q.2);unfold Jd;split
     . rw[hk];exact ry
     . exact rx
def uL(P:Program)(t:Nat)(ti:TI):K->Prop
 | .int k=>P.underlying t=some (.int k)
 | .bool=>P.underlying t=some .bool
 | .str=>P.underlying t=some .string
 | .sl e _=>P.underlying t=some (.slice e)/\ti.elem=e
theorem gY(hT:cH P E){t:Nat}{ti:TI}(iy:E.ti t=some ti)(ye:ti.agg=false){k:K}(hk:ti.ks=[k]):uL P t ti k:=by
 obtain⟨dd,hu,mW⟩:=(hT t _ iy).desc;cases dd with
 | struct fs=>simp[jE,ye]at mW
 | int k'=>obtain⟨_,h1⟩:=mW;rw[hk]at h1;simp only[aoJ,anQ]at h1;subst h1;exact hu
 | bool=>obtain⟨_,h1⟩:=mW;rw[hk]at h1;simp only[aoJ,anQ]at h1;subst h1;exact hu
 | string=>obtain⟨_,h1⟩:=mW;rw[hk]at h1;simp only[aoJ,anQ]at h1;subst h1;exact hu
 | slice e=>obtain⟨_,ks,h1,h2⟩:=mW;rw[hk]at h1;simp only[aoJ,anQ]at h1;subst h1;exact⟨hu,h2⟩
 | _=>simp[jE]at mW
theorem KZ(hT:cH P E){t:Nat}(h:E.u8 t=true):P.underlying t=some (.int .u8):=by
 unfold En.u8 at h;split at h
 . rename_i iy;exact gY hT iy rfl rfl
 . simp at h
theorem Jc(hT:cH P E)(h:Rel cx Z g st a w)(hc:Cons st){o:Oper}{d:Nat}(hd:o.dst=some d)(cE:kR cx a d){s t:TypeId}{x:Operand}(ho:o.op= .convert s t x){ts td:TI}{tv:TV}{p:IntKind×Int}{k k0:IntKind}
 (h1:E.ti s=some ts)(h2:E.ti t=some td)(a1:ts.agg=false)(a2:td.agg=false)(k1:ts.ks=[.int k0])(k2:td.ks=[.int k])(hx:st.get x=some tv)(hp:tv.int? = some p):ea P cx st a w o d (.v (.d (.int k) (k.wrap p.2)),none):=by
 have u1:uL P s ts _:=gY hT h1 a1 k1;have u2:uL P t td _:=gY hT h2 a2 k2;obtain⟨ev,_⟩:=gG (bg h hc hx) hp;refine cK h hd cE (v:= .int k (k.wrap p.2)) ?_ ⟨rfl,hU _ _⟩;simp only[execOp,ho,convert,amJ,amM u1,amM u2,amu,ev,Conv.intToInt,amR]
theorem XQ{n:Int}(h0:0<=n)(h1:n<=127):Utf8.encode n=fQ (asc n):=by
 have hv:Utf8.valid n=true:=by unfold Utf8.valid;have e1:decide (0<=n)=true:=amk h0;have e2:decide (n<0xD800)=true:=amk (by omega);rw[e1,e2];rfl
 unfold Utf8.encode;simp only[hv,if_true];rw[if_pos (by omega)];rfl
theorem GB(hT:cH P E)(h:Rel cx Z g st a w)(hc:Cons st){o:Oper}{d:Nat}(hd:o.dst=some d)(cE:kR cx a d){s t:TypeId}{x:Operand}(ho:o.op= .convert s t x){ts td:TI}{tv:TV}{p:IntKind×Int}{k0:IntKind}
 (h1:E.ti s=some ts)(h2:E.ti t=some td)(a1:ts.agg=false)(a2:td.agg=false)(k1:ts.ks=[.int k0])(k2:td.ks=[.str])(hx:st.get x=some tv)(hp:tv.int? = some p)(hn:(cl 0 p.2&&cl p.2 127)=true):ea P cx st a w o d (.v (.d .str (asc p.2)),none):=by
 have u1:uL P s ts _:=gY hT h1 a1 k1;have u2:uL P t td _:=gY hT h2 a2 k2;obtain⟨ev,_⟩:=gG (bg h hc hx) hp;simp only[ami]at hn;refine cK h hd cE (v:= .string (fQ (asc p.2))) ?_ ⟨rfl,by show 1<=bQ;unfold bQ;omega⟩;simp only[execOp,ho,convert,amJ,amM u1,amM u2,amu,ev,Conv.intToString,XQ (anf hn.1) (anf hn.2),amR]
theorem JJ(hT:cH P E)(h:Rel cx Z g st a w)(hc:Cons st){o:Oper}{d:Nat}(hd:o.dst=some d)(cE:kR cx a d){s t:TypeId}{x:Operand}(ho:o.op= .convert s t x){ts td:TI}{tv:TV}{u:S8}
 (h1:E.ti s=some ts)(h2:E.ti t=some td)(a1:ts.agg=false)(a2:td.agg=false)(k1:ts.ks=[.str])(k2:td.ks=[.str])(hx:st.get x=some tv)(hp:tv.pr = some u):ea P cx st a w o d (.v (.d .str u),none):=by
 have u1:uL P s ts _:=gY hT h1 a1 k1;have u2:uL P t td _:=gY hT h2 a2 k2;obtain⟨ev,hb⟩:=oO (bg h hc hx) hp;refine cK h hd cE (v:= .string (fQ u)) ?_ ⟨rfl,hb⟩;simp only[execOp,ho,convert,amJ,amM u1,amM u2,amu,ev,amR]
def FP:List (Tl [.int .u8])->List Int
 | []=>[]
 | z::r=>z.1::FP r
theorem vB:∀(xs:List (Tl [.int .u8])),(FP xs).length=xs.length
 | []=>rfl
 | _::r=>amP (· + 1) (vB r)
theorem zc:∀(xs:List (Tl [.int .u8])) (i:Nat) (hi:i<xs.length),(FP xs).getD i 0=(xs[i]).1
 | [],i,hi=>by simp at hi
 | _::r,0,hi=>rfl
 | _::r,i+1,hi=>zc r i (by simpa using hi)
theorem CQ:∀(xs:List (Tl [.int .u8])),(FP xs).map (fun n=>UInt8.ofNat n.toNat)=strOf xs
 | []=>rfl
 | z::r=>amP (UInt8.ofNat (Int.toNat z.1) :: ·) (CQ r)
theorem DE(hT:cH P E)(h:Rel cx Z g st a w)(hc:Cons st){o:Oper}{d:Nat}(hd:o.dst=some d)(cE:kR cx a d){s t:TypeId}{x:Operand}(ho:o.op= .convert s t x){ts td:TI}{tv:TV}{av:AV}{e:TypeId}{xs:T (.sl e [.int .u8])}
 (h1:E.ti s=some ts)(h2:E.ti t=some td)(a1:ts.agg=false)(a2:td.agg=false)(k1:ts.ks=[.sl e [.int .u8]])(k2:td.ks=[.str])(hu8:E.u8 ts.elem=true)(hx:st.get x=some tv)(hv:tv.Ii = some av)(hp:st.bI (.sl e [.int .u8]) av=some xs):ea P cx st a w o d (.v (.d .str (strOf (aW xs))),none):=by
 obtain⟨u1,ue⟩:=gY hT h1 a1 k1;have u2:uL P t td _:=gY hT h2 a2 k2;have u3:P.underlying e=some (.int .u8):=by rw[<- ue];exact KZ hT hu8
 obtain⟨aa,c,e1,e2,e3,e4,e5⟩:=oq h (uW (bg h hc hx) hv) hp;have hlen:(strOf (aW xs)).length=(aW xs).length:=by simp[strOf]
 refine cK h hd cE (v:= .string (fQ (strOf (aW xs)))) ?_ ⟨rfl,by show(strOf (aW xs)).length<=bQ;omega⟩;have Ue:(convert s t (a.eval x)).run P w= .ok (.string (fQ (strOf (aW xs)))) w:=by
  rw[e1];cases aa with
  | none=>have h0:aW xs=[]:=am2.1 (by have:=e4 rfl;omega);rw[run_convert_bytes_nil w s e u1 u3 _ c t u2];rw[h0];rfl
  | some q=>
    by_cases cY:aW xs=[]
    . have hq:∃ b o sp,q=⟨b,o,sp⟩:=⟨_,_,_,rfl⟩;have Il:(aW xs).length=0:=by rw[cY];rfl
      have:=run_convert_bytes_string (P:=P) w s t e (some q) (aW xs).length c u1 u3 u2;rw[this,Il,cY];have hll:(loadCells q 0).run P w= .ok #[] w:=by simp[loadCells,loadCellsFrom]
      have:=run_bytesToString (P:=P) w q 0 c [] (by simpa using hll);rw[this];rfl
    . obtain⟨b,of,hq,_,_,vS⟩:=e5 cY;simp only[amh]at hq;subst hq;rw[run_convert_bytes_arg w s e u1 u3 b of _ c (FP (aW xs)) (vB _) (fun i hi=>?_) t u2]
      . rw[<- CQ (aW xs)];rfl
      . have lQ:=vS i _ (amm hi);obtain⟨⟨vv,g1,g2,_⟩,_⟩:=lQ;simp only[amw,am3,Nat.mul_one,amt]at g1;rw[g1,g2,zc _ i hi]
 simp only[execOp,ho,amJ,Ue,amu];rfl
theorem bytesOf_length(s:S8):(bytesOf s).length=s.length:=anO ..
theorem qp:∀(s:S8) (i:Nat) (x:Tl [.int .u8]),(bytesOf s)[i]? = some x->i<s.length/\x=(((s.getD i 0).toNat:Int),())
 | [],i,x,h=>by cases h
 | c::s,0,x,h=>by have h:some (((c.toNat:Int),()):Tl [.int .u8])=some x:=h;exact⟨by simp,(am5 h).symm⟩
 | c::s,i+1,x,h=>by obtain⟨h1,h2⟩:=qp s i x h;exact⟨by simpa using h1,h2⟩
theorem Bl(hT:cH P E)(h:Rel cx Z g st a w)(hc:Cons st){o:Oper}{d:Nat}(hd:o.dst=some d)(cE:kR cx a d)(hf:st.free d=true){s t:TypeId}{x:Operand}(ho:o.op= .convert s t x){ts td:TI}{tv:TV}{u:S8}{e:TypeId}
 (h1:E.ti s=some ts)(h2:E.ti t=some td)(a1:ts.agg=false)(a2:td.agg=false)(k1:ts.ks=[.str])(k2:td.ks=[.sl e [.int .u8]])(hu8:E.u8 td.elem=true)(hx:st.get x=some tv)(hp:tv.pr = some u) :
 ea P cx st a w o d (.v (.ref d 0 0),some ⟨false,[⟨0,0,.own (.sl e [.int .u8]) (bytesOf u)⟩]⟩):=by
 have u1:uL P s ts _:=gY hT h1 a1 k1;obtain⟨u2,ue⟩:=gY hT h2 a2 k2;have u3:P.underlying e=some (.int .u8):=by rw[<- ue];exact KZ hT hu8
 obtain⟨ev,hb⟩:=oO (bg h hc hx) hp;have Ue:=Lib.run_convert_string_bytes (P:=P) w s t e (fQ u) u1 u2 u3;intro next Q hk;unfold Oper.wp;simp only[execOp,ho,amJ,ev,Ue,amu];show o.upon P a next Q (.ok (.value _) _);rw[anl,hd];have dh:(fQ u).size=u.length:=lj u;have vR:u.length<=grownCap w (fQ u).size 0 e:=by rw[<- dh];unfold grownCap;simp[Question.cut]
 have hbc:(Lib.bytesCells w e (fQ u)).size=grownCap w (fQ u).size 0 e:=by
  have:(fQ u).data.size=u.length:=by simp[fQ]
  simp only[Lib.bytesCells,aor,Array.size_map,Array.size_replicate,this];omega
 have nM:=Lib.bytesWorld_at_new w e (fQ u);have jn:(Lib.bytesWorld w e (fQ u)).heap=w.heap.push (.cells (Lib.bytesCells w e (fQ u)) e ((Lib.bytesCells w e (fQ u)).size,(Lib.bytesCells w e (fQ u)).size+1)):=by
  apply aoc;intro i;rcases aoV i w.heap.size with hi | hi | hi
  . rw[Lib.bytesWorld_at_old w e (fQ u) i hi,amW,if_neg (by omega)]
  . subst hi;rw[nM,amW,if_pos rfl]
  . rw[amC (by rw[Lib.bytesWorld_size];omega),amC (by rw[anN];omega)]
 have hlen:(aW (e:=e) (bytesOf u)).length=u.length:=bytesOf_length u;have kn:dG (Lib.bytesWorld w e (fQ u)) (.sl e [.int .u8]) (bytesOf u) (.slice (some ⟨w.heap.size,0,none⟩) (fQ u).size (grownCap w (fQ u).size 0 e)) (fun b=>b=w.heap.size):=by
  refine⟨_,_,by rw[hlen,dh],by rw[hlen];exact vR,by rw[hlen];exact hb,by simp,fun a' rX=>?_⟩;simp only[amh]at rX;subst rX;refine⟨w.heap.size,0,_,e,_,rfl,rfl,nM,?_,?_,fun _ _ _=>False,fun _ _ _ hh=>hh.elim,fun _ _ _ _ _ hh=>hh.elim,fun i x hi=>?_⟩
  . intro q hq hh;simp only[YK,amN]at hq;omega
  . rw[hbc];simp;rw[dh];exact oR _
  . obtain⟨Ud,rfl⟩:=qp u i x hi;refine⟨⟨_,?_,rfl,?_⟩,trivial⟩
    . have bD:=Lib.bytesWorld_cell w e (fQ u) i (by rw[dh];exact Ud);simp only[World.cell?,nM]at bD;have hd:(fQ u).data.toList=u:=by simp[fQ]
      rw[hd]at bD;simpa using bD
    . have:=(u.getD i 0).toNat_lt;have e1:IntKind.u8.min=0:=rfl;have e2:IntKind.u8.max=255:=rfl;unfold pT;rw[e1,e2];show 0<=((u.getD i 0).toNat:Int)/\((u.getD i 0).toNat:Int)<=255;omega
 obtain⟨g',hg⟩:=h.newRow (d:=d) cE hf (w':=Lib.bytesWorld w e (fQ u)) rfl rfl rfl jn kn;exact hk _ _ _ _ hg
end
theorem eL{a b:Bool}(h:cw a b=true):a=b:=by cases a <;> cases b <;> simp_all[cw]
theorem l5{gg:Bool}{l:List AV}{t:Nat}{want y:Bool}{g':Bool}{l':List AV}(h:fP gg l= .may t want y g' l'):False:=by unfold fP at h;split at h <;> simp at h
section
variable{P:Program}{cx:Cx P}{Z:Nat->Prop}{g:Gh}{st:St}{a:Act}{w:World}{E:En}
def ia(tq:TV)(y:Bool):Prop:=∀(Z:Nat->Prop) (g:Gh) (st:St) (w:World) (v:Value),bW Z g st w tq v->v= .bool y
def qL(st:St):Prop:=∀ d q want y g l,look st.tm d=some (.may q want y g l)->∀ tq,look st.tm q=some tq->ia tq y
theorem ia.lb{x y:Bool}(h:ia (.v (.lb x)) y):x=y:=by have:=h (fun _=>False) ⟨fun _=>0,fun _ _=>undef,fun _ _ _=>False⟩ ⟨[],[]⟩ default (.bool x) rfl;simpa using this
theorem ia.d{x y:Bool}(h:ia (.v (.d .bool x)) y):x=y:=by have:=h (fun _=>False) ⟨fun _=>0,fun _ _=>undef,fun _ _ _=>False⟩ ⟨[],[]⟩ default (.bool x) rfl;simpa using this
theorem qL.cons(hv:qL st):Cons st:=by intro d t want y gg l hl x;exact⟨fun h3=>(hv d t want y gg l hl _ h3).lb,fun h3=>(hv d t want y gg l hl _ h3).d⟩
theorem L6{o:Operand}{t:Nat}{want y gg:Bool}{l:List AV}(h:st.get o=some (.may t want y gg l)):∃ d,look st.tm d=some (.may t want y gg l)/\o= .tmp d:=by
 cases o with
 | tmp d=>
   refine⟨d,?_,rfl⟩;have h:st.tv d=_:=h;unfold St.tv at h;cases hl:look st.tm d with
   | none=>simp[hl]at h
   | some xq=>
     rw[hl]at h;cases xq with
     | may q w' y' g' l'=>
       simp only at h;split at h
       . split at h
         . exact(l5 (am5 h)).elim
         . exact(l5 (am5 h)).elim
         . simp at h
       . exact h
       . simp at h
     | _=>simp at h
 | const v=>exfalso;have h:uJ v=_:=h;unfold uJ at h;split at h <;> (try split at h) <;> simp at h
 | func f=>simp[St.get]at h
 | global n=>simp[St.get]at h
theorem Dd(h:Rel cx Z g st a w){x:AV}{v:Value}(hr:bC Z g st w x v)(hf:x.bV=true){k:K}{y:T k}(hy:st.read x=some ⟨k,y⟩):RO Z w k y v:=by
 cases x with
 | lb b=>simp only[St.read,amh]at hy;cases hy;exact hr
 | d k' x'=>simp only[St.read,amh]at hy;cases hy;exact hr
 | nil=>simp[St.read]at hy
 | _=>simp[AV.bV]at hf
theorem Gx(h:Rel cx Z g st a w)(hv:qL st){c o:Operand}{want y:Bool}{k:K}{x:T k}(hs:st.side c want o=some ⟨k,x⟩)(hg:a.eval c= .bool want)(hcg:st.get c=some (.v (.d .bool y))):RO Z w k x (a.eval o):=by
 have hc:=hv.cons;unfold St.side at hs;split at hs
 . rename_i _ av lF;cases hf:av.bV with
   | false=>simp[hf]at hs
   | true=>simp only[hf,oT]at hs;exact Dd h (bg h hc lF) hf hs
 . rename_i t w' y' av t' lF;cases hb:Nat.beq t t'&&cw w' want&&av.bV with
   | false=>simp[hb]at hs
   | true=>
     simp only[hb,oT]at hs;simp only[ami]at hb;obtain⟨⟨h1,h2⟩,h3⟩:=hb;have h1:=beq_eq h1;have h2:=eL h2;subst h1;subst h2;obtain⟨d,hd,rfl⟩:=L6 lF;obtain⟨tq,vT⟩:∃ tq,look st.tm t=some tq:=by
      have hcg:st.tv t=_:=hcg;unfold St.tv at hcg;cases hl:look st.tm t with
      | none=>simp[hl]at hcg
      | some tq=>exact⟨tq,rfl⟩
     have e1:=hv d _ _ _ _ _ hd tq vT _ _ _ _ _ (h.tm t tq vT).2;have hg:a.tmps.getD t undef=_:=hg;rw[hg]at e1;exact Dd h (bg h hc lF (by simpa using e1.symm)) h3 hs
 . simp at hs
theorem abV(h:Rel cx Z g st a w)(hv:qL st){o:Oper}{d:Nat}(hd:o.dst=some d)(cE:kR cx a d){c x y:Operand}(ho:o.op= .pick c x y){gd:Bool}(hg:st.get c=some (.v (.d .bool gd)))
 {k k':K}{p:T k}{q:T k'}{q':T k}(h1:st.side c true x=some ⟨k,p⟩)(h2:st.side c false y=some ⟨k',q⟩)(h3:gJ k' k q=some q'):ea P cx st a w o d (.v (.d k (cond gd p q')),none):=by
 have hc:=hv.cons;have ec:a.eval c= .bool gd:=bg h hc hg;obtain⟨e,h3⟩:=cN h3;subst e;subst h3;cases gd with
 | true=>refine cK h hd cE (v:=a.eval x) (by simp[execOp,ho,ec,asBool]) ?_;exact Gx h hv h1 ec hg
 | false=>refine cK h hd cE (v:=a.eval y) (by simp[execOp,ho,ec,asBool]) ?_;exact Gx h hv h2 ec hg
theorem Cy(h:Rel cx Z g st a w)(hv:qL st){o:Oper}{d:Nat}(hd:o.dst=some d)(cE:kR cx a d){c x y:Operand}(ho:o.op= .pick c x y){gd:Bool}(hg:st.get c=some (.v (.lb gd)))
 {tv:TV}(h1:st.get (match gd with | true=>x | false=>y)=some tv):ea P cx st a w o d (tv,none):=by
 have hc:=hv.cons;have ec:a.eval c= .bool gd:=bg h hc hg;have:=bg h hc h1;cases gd with
 | true=>exact cK h hd cE (v:=a.eval x) (by simp[execOp,ho,ec,asBool]) this
 | false=>exact cK h hd cE (v:=a.eval y) (by simp[execOp,ho,ec,asBool]) this
end
structure Ext (st ay:St):Prop where
 tm:∀ t tv,look st.tm t=some tv->look ay.tm t=some tv
 rt:∀ r R,look st.rt r=some R->look ay.rt r=some R
section
variable{st ay:St}{E:En}
theorem Ext.cell(x:Ext st ay){r j:Nat}{c:RC}(h:st.cell r j=some c):ay.cell r j=some c:=by
 unfold St.cell at h ⊢;cases hl:look st.rt r with
 | none=>simp[hl]at h
 | some R=>rw[hl]at h;rw[x.rt r R hl];exact h
theorem Ext.tv(x:Ext st ay){t:Nat}{tv:TV}(h:st.tv t=some tv):ay.tv t=some tv:=by
 unfold St.tv at h ⊢;cases hl:look st.tm t with
 | none=>simp[hl]at h
 | some xq=>
   rw[hl]at h;rw[x.tm t xq hl];cases xq with
   | may q w' y' g' l'=>
     simp only at h ⊢;cases hq:look st.tm q with
     | none=>simp[hq]at h
     | some tq=>rw[hq]at h;rw[x.tm q tq hq];exact h
   | _=>exact h
theorem Ext.get(x:Ext st ay){o:Operand}{tv:TV}(h:st.get o=some tv):ay.get o=some tv:=by
 cases o with
 | tmp t=>exact x.tv h
 | _=>exact h
theorem Ext.getAll(x:Ext st ay):∀ {os:List Operand} {l:List TV},st.getAll os=some l->ay.getAll os=some l
 | [],l,h=>h
 | o::os,l,h=>by
   simp only[St.getAll]at h ⊢;split at h
   . rename_i a r h1 h2;rw[x.get h1,Ext.getAll x h2];exact h
   . simp at h
theorem Ext.read(x:Ext st ay){a:AV}{y:(k:K)×T k}(h:st.read a=some y):ay.read a=some y:=by
 cases a with
 | b r j s m k z=>
   simp only[St.read]at h ⊢;cases hc:st.cell r j with
   | none=>simp[hc]at h
   | some c=>rw[hc]at h;rw[x.cell hc];exact h
 | ref r j s=>
   simp only[St.read]at h ⊢;cases hc:st.cell r j with
   | none=>simp[hc]at h
   | some c=>rw[hc]at h;rw[x.cell hc];exact h
 | cut r j s n=>
   simp only[St.read]at h ⊢;cases hc:st.cell r j with
   | none=>simp[hc]at h
   | some c=>rw[hc]at h;rw[x.cell hc];exact h
 | pref r j s m i c=>
   simp only[St.read]at h ⊢;cases hc:st.cell r j with
   | none=>simp[hc]at h
   | some c=>rw[hc]at h;rw[x.cell hc];exact h
 | _=>exact h
theorem Ext.live(x:Ext st ay){a:AV}(h:st.live a=true):ay.live a=true:=by
 cases a with
 | b r j s m k z=>
   simp only[St.live]at h ⊢;cases hc:st.cell r j with
   | none=>simp[hc]at h
   | some c=>rw[hc]at h;rw[x.cell hc];exact h
 | ref r j s=>
   simp only[St.live]at h ⊢;cases hc:st.cell r j with
   | none=>simp[hc]at h
   | some c=>rw[hc]at h;rw[x.cell hc];exact h
 | cut r j s n=>
   simp only[St.live]at h ⊢;cases hc:st.cell r j with
   | none=>simp[hc]at h
   | some c=>rw[hc]at h;rw[x.cell hc];exact h
 | pref r j s m i c=>
   simp only[St.live]at h ⊢;cases hc:st.cell r j with
   | none=>simp[hc]at h
   | some c=>rw[hc]at h;rw[x.cell hc];exact h
 | pel r j s i c=>
   simp only[St.live]at h ⊢;cases hc:st.cell r j with
   | none=>simp[hc]at h
   | some c=>rw[hc]at h;rw[x.cell hc];exact h
 | rp dep e ks xs i c=>
   cases dep with
   | none=>exact h
   | some p=>
     obtain⟨r,j,s,m⟩:=p;simp only[St.live]at h ⊢;cases hc:st.cell r j with
     | none=>simp[hc]at h
     | some c=>rw[hc]at h;rw[x.cell hc];exact h
 | _=>exact h
theorem Ext.KP(x:Ext st ay){l:List AV}(h:l.all st.live=true):l.all ay.live=true:=by rw[amB]at h ⊢;exact fun a ha=>x.live (h a ha)
theorem Ext.bI(x:Ext st ay){k:K}{a:AV}{y:T k}(h:st.bI k a=some y):ay.bI k a=some y:=by
 have key:∀ z,(∀ s:St,s.bI k a=(match s.read a with | some ⟨k',x⟩=>gJ k' k x | none=>none))->z=a->ay.bI k a=some y:=fun z e _=>by
  rw[e]at h ⊢;cases hr:st.read a with
  | none=>simp[hr]at h
  | some z=>rw[hr]at h;rw[x.read hr];exact h
 cases a with
 | nil=>cases k <;> first | exact h | (simp[St.bI,St.read]at h)
 | _=>exact key _ (fun s=>by cases k <;> rfl) rfl
theorem Ext.readAll(x:Ext st ay):∀ {ks:List K} {l:List AV} {y:Tl ks},st.readAll ks l=some y->ay.readAll ks l=some y
 | [],[],_,h=>h
 | k::ks,a::l,y,h=>by
   unfold St.readAll at h ⊢;split at h
   . rename_i z zs hz mR;rw[x.bI hz,Ext.readAll x mR];exact h
   . simp at h
 | [],_::_,_,h=>by simp[St.readAll]at h
 | _::_,[],_,h=>by simp[St.readAll]at h
theorem Ext.kG(x:Ext st ay){a:AV}{c:RC}(h:st.kG a=some c):ay.kG a=some c:=by
 cases a with
 | pref r j s m i q=>
   simp only[St.kG]at h ⊢;cases hl:st.live (.pref r j s m i q)with
   | false=>simp[hl]at h
   | true=>rw[hl]at h;rw[x.live hl];exact h
 | b r j s m k z=>
   simp only[St.kG]at h ⊢;cases hl:st.live (.b r j s m k z)with
   | false=>simp[hl]at h
   | true=>rw[hl]at h;rw[x.live hl];exact h
 | _=>exact h
theorem Ext.mM(x:Ext st ay):∀ {l:List AV} {cs:List RC},st.mM l=some cs->ay.mM l=some cs
 | [],_,h=>h
 | a::l,cs,h=>by
   unfold St.mM at h ⊢;split at h
   . rename_i z zs hz mR;rw[x.kG hz,Ext.mM x mR];exact h
   . simp at h
theorem Ext.kH(x:Ext st ay){r j:Nat}{a:AV}(h:st.kH r j=some a):ay.kH r j=some a:=by
 unfold St.kH at h ⊢;cases hc:st.cell r j with
 | none=>simp[hc]at h
 | some c=>rw[hc]at h;rw[x.cell hc];exact h
theorem Ext.dV(x:Ext st ay):∀ {n j r:Nat} {l:List AV},st.dV r j n=some l->ay.dV r j n=some l
 | 0,_,_,_,h=>h
 | n+1,j,r,l,h=>by
   unfold St.dV at h ⊢;split at h
   . rename_i z zs hz mR;rw[x.kH hz,Ext.dV x mR];exact h
   . simp at h
theorem Ext.load(x:Ext st ay){n:Nat}{a:AV}{l:List AV}(h:st.load n a=some l):ay.load n a=some l:=by
 cases a with
 | ptr r j=>exact x.dV h
 | pel r j s i c=>
   simp only[St.load]at h ⊢;cases hc:st.cell r j with
   | none=>simp[hc]at h
   | some c=>rw[hc]at h;rw[x.cell hc];exact h
 | rp dep e ks xs i c=>
   cases dep with
   | none=>exact h
   | some p=>
     obtain⟨r,j,s,m⟩:=p;simp only[St.load]at h ⊢;cases hc:st.cell r j with
     | none=>simp[hc]at h
     | some c=>rw[hc]at h;rw[x.cell hc];exact h
 | _=>exact h
theorem w8{α β:Type}{f f':α->β->Option α}(hf:∀ l q l',f l q=some l'->f' l q=some l'):∀ {r:List β} {l l':α},kY f l r=some l'->kY f' l r=some l'
 | [],_,_,h=>h
 | q::r,l,l',h=>by
   unfold kY at h ⊢;cases hl:f l q with
   | none=>simp[hl]at h
   | some l1=>rw[hl]at h;rw[hf _ _ _ hl];exact w8 hf h
theorem Ext.vu(x:Ext st ay){pV:List (Nat×Nat)}{l l':List AV}{q:Nat×Operand}(h:vu E st pV l q=some l'):Av.vu E ay pV l q=some l':=by
 unfold Av.vu at h ⊢;split at h
 . rename_i o t tv h1 h2;rw[h1,x.get h2];simp only;split at h
   . rename_i p ti h3 h4;cases hb:Nat.beq p.length ti.ks.length&&p.all st.live&&Nat.ble (o+p.length) l.length with
     | false=>simp[hb]at h
     | true=>rw[hb]at h;simp only[ami]at hb;rw[hb.1.1,x.KP hb.1.2,hb.2];exact h
   . simp at h
 . simp at h
theorem Ext.oo(x:Ext st ay){n:Nat}{l l':List AV}{q:Nat×Operand}(h:oo st n l q=some l'):Av.oo ay n l q=some l':=by
 unfold Av.oo at h ⊢;split at h
 . rename_i tv h2;rw[x.get h2];simp only;split at h
   . rename_i p h3;cases hb:Nat.beq p.length n&&p.all st.live&&Nat.ble (q.1 * n+p.length) l.length with
     | false=>simp[hb]at h
     | true=>rw[hb]at h;simp only[ami]at hb;rw[hb.1.1,x.KP hb.1.2,hb.2];exact h
   . simp at h
 . simp at h
theorem Ext.chunks(x:Ext st ay){ks:List K}:∀ {n:Nat} {l:List AV} {r:List (Tl ks)},chunks st ks n l=some r->Av.chunks ay ks n l=some r
 | 0,[],_,h=>h
 | 0,_::_,_,h=>by simp[Av.chunks]at h
 | n+1,l,r,h=>by
   unfold Av.chunks at h ⊢;split at h
   . rename_i z zs hz mR;rw[x.readAll hz,Ext.chunks x mR];exact h
   . simp at h
theorem Ext.len(x:Ext st ay){b:Bool}{tv:TV}{n:Int}(h:st.len b tv=some n):ay.len b tv=some n:=by
 cases tv with
 | v a=>
   have key:∀ z,(∀ s:St,s.len b (.v a)=lenOf (s.read a) b)->z=a->ay.len b (.v a)=some n:=fun z e _=>by
    rw[e]at h ⊢;cases hr:st.read a with
    | none=>rw[hr]at h;cases b <;> simp[lenOf]at h
    | some z=>rw[hr]at h;rw[x.read hr];exact h
   cases a with
   | nil=>exact h
   | _=>exact key _ (fun s=>rfl) rfl
 | _=>exact h
theorem Ext.o6(x:Ext st ay){lo hi:Option Operand}{n:Nat}{p:Int×Int}(h:o6 st lo hi n=some p):Av.o6 ay lo hi n=some p:=by
 have aux:∀ o,st.get o=none∨ay.get o=st.get o:=fun o=>by
  cases hg:st.get o with
  | none=>exact .inl rfl
  | some tv=>exact .inr (x.get hg)
 unfold Av.o6 at h ⊢;cases lo with
 | none=>cases hi with
   | none=>exact h
   | some o=>
     rcases aux o with e | e
     . simp[e]at h
     . simp only[e]at h ⊢;exact h
 | some q=>
   rcases aux q with e0 | e0
   . simp[e0]at h
   . cases hi with
     | none=>simp only[e0]at h ⊢;exact h
     | some o=>
       rcases aux o with e | e
       . simp only[e]at h;split at h <;> simp_all
       . simp only[e0,e]at h ⊢;exact h
end
end Go.Av
