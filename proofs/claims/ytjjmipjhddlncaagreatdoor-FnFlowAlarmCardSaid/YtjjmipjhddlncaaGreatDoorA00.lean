/-
  PEV, part 1: a symbolic evaluator of loaded Go code over typed payloads. Nothing is proved here.
-/
import GoSem.Dispatch
import Derived.Calls
import Derived.Laws.Sem
import Derived.Deep.MidRow
import Derived.Deep.AppendSrc
import Derived.Laws.Slices
import Derived.Laws.Strings
import Derived.Laws.Concat
import Derived.Laws.BytesArg
import Derived.Laws.StructEq
import Derived.Great.FillDense
import Derived.Deep.Upon
import Derived.Laws.MakeOwn
set_option linter.all false
namespace Go
def a0a:=@List.getElem?_eq_getElem
def a0b:=@if_pos
def a0c:=@Bool.and_eq_true
def a0d:=@Option.bind_some
def a0e:=@if_neg
def a0f:=@decide_eq_true
def a0g:=@List.length_cons
def a0h:=@List.length_nil
def a0i:=@Option.some.injEq
def a0j:=@Int.toNat_natCast
def a0k:=@List.mem_append
def a0l:=@List.getElem_mem
def a0m:=@List.length_append
def a0n:=@decide_eq_false
def a0o:=@Nat.mul_le_mul_right
def a0p:=@List.getElem?_eq_some_iff
def a0q:=@decide_eq_true_eq
def a0r:=@Bool.eq_false_or_eq_true
def a0s:=@List.eq_nil_of_length_eq_zero
def a0t:=@Bool.not_true
def a0u:=@Bool.false_eq_true
def a0v:=@List.mem_singleton
def a0w:=@List.getElem?_eq_none
def a0x:=@Prod.mk.injEq
def a0y:=@Bool.not_false
def a0z:=@of_decide_eq_true
def a1a:=@Nat.add_mul
def a1b:=@List.drop_eq_getElem_cons
def a1c:=@Array.getElem?_eq_some_iff
def a1d:=@Int.le_refl
def a1e:=@List.mem_cons
def a1f:=@Option.some.inj
def a1g:=@List.all_eq_true
def a1h:=@List.getElem_append_left
def a1i:=@List.getElem?_append_left
def a1j:=@List.getElem?_append_right
def a1k:=@Array.getElem?_eq_getElem
def a1l:=@Nat.zero_add
def a1m:=@List.length_take
def a1n:=@Nat.le_refl
def a1o:=@List.length_replicate
def a1p:=@List.getElem?_cons_zero
def a1q:=@List.append_assoc
def a1r:=@cond_true
def a1s:=@if_true
def a1t:=@Option.map_some
def a1u:=@List.getElem_append_right
def a1v:=@List.mem_or_eq_of_mem_set
def a1w:=@List.drop_of_length_le
def a1x:=@congrArg
def a1y:=@Option.bind_eq_some_iff
def a1z:=@if_false
def a2a:=@List.take_length
def a2b:=@Bool.not_eq_true'
def a2c:=@List.nodup_append
def a2d:=@Bool.true_and
def a2e:=@List.ext_getElem?
def a2f:=@List.map_cons
def a2g:=@List.mem_iff_getElem
def a2h:=@List.nodup_nil
def a2i:=@List.mem_range
def a2j:=@List.nil_append
def a2k:=@Nat.add_assoc
def a2l:=@Option.map_eq_some_iff
def a2m:=@List.append_nil
def a2n:=@List.take_succ_eq_append_getElem
def a2o:=@List.foldl_cons
def a2p:=@cond_false
def a2q:=@Option.getD_none
def a2r:=@Option.getD_some
def a2s:=@List.size_toArray
def a2t:=@Nat.one_mul
def a2u:=@List.length_map
def a2v:=@List.take_append_getElem
def a2w:=@List.length_drop
def a2x:=@List.getElem?_drop
def a2y:=@List.mem_map
def a2z:=@Nat.add_zero
def a3a:=@List.take_of_length_le
def a3b:=@List.getElem?_set_ne
def a3c:=@List.mem_cons_of_mem
def a3d:=@List.map_append
def a3e:=@bne_self_eq_false
def a3f:=@beq_iff_eq
def a3g:=@List.getElem_set_ne
def a3h:=@List.map_congr_left
def a3i:=@List.getElem_map
def a3j:=@List.length_set
def a3k:=@Array.size_append
def a3l:=@List.flatten_cons
def a3m:=@List.getElem_set_self
def a3n:=@List.perm_iff_count
def a3o:=@List.singleton_append
def a3p:=@List.mem_of_getElem?
def a3q:=@List.mem_flatMap
def a3r:=@List.take_append_drop
def a3s:=@List.concat_eq_append
def a3t:=@List.range_eq_range'
def a3u:=@Nat.lt_or_ge
def a3v:=@List.filter_cons
def a3w:=@List.any_eq_true
def a3x:=@List.map_nil
def a3y:=@List.not_mem_nil
def a3z:=@List.getElem_replicate
def a4a:=@List.foldl_append
def a4b:=@Int.toNat_zero
def a4c:=@List.foldl_nil
def a4d:=@Array.getElem?_modify
def a4e:=@List.eq_nil_or_concat
def a4f:=@List.getElem?_take
def a4g:=@List.mem_of_mem_take
def a4h:=@List.pairwise_append
def a4i:=@Nat.le_mul_of_pos_right
def a4j:=@List.length_eq_zero_iff
def a4k:=@List.drop_drop
def a4l:=@Array.ext'
def a4m:=@List.flatten_append
def a4n:=@List.nodup_cons
def a4o:=@List.mem_filter
def a4p:=@List.length_zipWith
def a4q:=@List.getElem?_set_self
def a4r:=@or_false
def a4s:=@Array.getElem?_append_left
def a4t:=@List.set_getElem_self
def a4u:=@List.pairwise_cons
def a4v:=@List.drop_zero
def a4w:=@Array.mem_toList_iff
def a4x:=@List.getElem_take
def a4y:=@List.cons.injEq
def a4z:=@Bool.or_eq_true
def a5a:=@List.getElem?_take_of_lt
def a5b:=@List.getElem?_map
def a5c:=@Nat.zero_le
def a5d:=@List.getElem_of_mem
def a5e:=@List.getElem?_cons_succ
def a5f:=@List.reverse_append
def a5g:=@Bool.not_eq_true
def a5h:=@beq_self_eq_true
def a5i:=@List.cons_append
def a5j:=@Array.mem_append
def a5k:=@Int.mul_le_mul_of_nonneg_left
def a5l:=@Option.bind_none
def a5m:=@Nat.le_of_not_lt
def a5n:=@List.zipWith_cons_cons
def a5o:=@Nat.le_trans
def a5p:=@Array.getElem?_toList
def a5q:=@List.length_filter_le
def a5r:=@List.all_append
def a5s:=@List.flatMap_cons
def a5t:=@List.any_eq_false
def a5u:=@Int.tdiv_eq_ediv_of_nonneg
def a5v:=@List.getD_eq_getElem?_getD
def a5w:=@Int.tmod_eq_emod_of_nonneg
def a5x:=@List.dropLast_concat
def a5y:=@Bool.false_and
def a5z:=@Nat.mul_one
def a6a:=@Array.length_toList
def a6b:=@List.filter_eq_self
def a6c:=@List.length_pos_iff
def a6d:=@Nat.mul_comm
def a6e:=@List.eq_of_mem_replicate
def a6f:=@List.all_cons
def a6g:=@Int.natCast_mul
def a6h:=@List.filter_append
def a6i:=@List.getElem?_replicate
def a6j:=@Bool.false_or
def a6k:=@List.not_all_eq_any_not
def a6l:=@Bool.and_self
def a6m:=@Bool.not_eq_false'
def a6n:=@List.getElem_cons_succ
def a6o:=@List.getElem_drop
def a6p:=@List.count_append
def a6q:=@List.filter_congr
def a6r:=@List.length_range
def a6s:=@List.reverse_cons
def a6t:=@false_or
def a6u:=@Nat.succ_mul
def a6v:=@List.perm_append_comm
def a6w:=@BitVec.eq_of_toNat_eq
def a6x:=@gt_iff_lt
def a6y:=@List.reverse_nil
def a6z:=@Array.toArray_toList
def a7a:=@List.mem_of_mem_drop
def a7b:=@Nat.lt_irrefl
def a7c:=@Bool.and_true
def a7d:=@List.perm_append_comm_assoc
def a7e:=@Int.tmod_nonneg
def a7f:=@List.flatMap_append
def a7g:=@BitVec.or_assoc
def a7h:=@Bool.eq_iff_iff
def a7i:=@Int.fdiv_eq_ediv_of_nonneg
def a7j:=@Nat.zero_mul
def a7k:=@Nat.lt_of_lt_of_le
def a7l:=@Nat.sub_zero
def a7m:=@Int.tdiv_neg
def a7n:=@decide_false
def a7o:=@BitVec.toNat_ofInt
def a7p:=@Bool.or_self
def a7q:=@of_decide_eq_false
def a7r:=@List.mapM_cons
def a7s:=@Array.mapM_eq_mapM_toList
def a7t:=@List.pairwise_iff_getElem
def a7u:=@List.rel_of_pairwise_cons
def a7v:=@Decidable.byContradiction
def a7w:=@Option.isSome_iff_exists
def a7x:=@Function.comp_def
def a7y:=@List.Sublist.refl
def a7z:=@List.mem_range'_1
def a8a:=@Int.emod_eq_of_lt
def a8b:=@Int.eq_ofNat_of_zero_le
def a8c:=@Bool.or_false
def a8d:=@decide_eq_false_iff_not
def a8e:=@or_true
def a8f:=@true_or
def a8g:=@Nat.mod_eq_of_lt
def a8h:=@List.range'_succ
def a8i:=@List.flatten_nil
def a8j:=@List.mem_toArray
def a8k:=@List.ext_getElem
def a8l:=@decide_eq_decide
def a8m:=@List.getElem_set
def a8n:=@List.getElem_cons_zero
def a8o:=@List.pairwise_lt_range
def a8p:=@List.getElem?_toArray
def a8q:=@Nat.min_eq_left
def a8r:=@List.map_map
def a8s:=@Int.mul_comm
def a8t:=@List.mem_iff_getElem?
def a8u:=@List.Perm.append_left
def a8v:=@Nat.max_eq_left
def a8w:=@dif_pos
def a8x:=@Int.ediv_nonneg
def a8y:=@Int.natAbs_tmod
def a8z:=@List.length_singleton
def a9a:=@Bool.not_not
def a9b:=@List.range_succ
def a9c:=@List.drop_take
def a9d:=@Nat.mul_le_mul
def a9e:=@Int.mul_nonneg
def a9f:=@BitVec.or_self
def a9g:=@Nat.min_def
def a9h:=@decide_true
def a9i:=@or_self
def a9j:=@Prod.ext
def a9k:=@List.any_beq'
def a9l:=@Nat.mod_lt
def a9m:=@Int.tdiv_one
def a9n:=@Bool.or_true
def a9o:=@Bool.true_or
def a9p:=@true_and
def a9q:=@congrFun
end Go
noncomputable section
namespace Go
def ifNegQ {c:Prop} [Decidable c] (h:¬c:=by omega) {α:Sort _} {t e:α}:ite c t e=e:=a0e h
def ifPosQ {c:Prop} [Decidable c] (h:c:=by omega) {α:Sort _} {t e:α}:ite c t e=t:=a0b h
end Go
namespace Go.Pev
variable {α:Type}
inductive ct (α:Type)where
 |node (a:α) (kids:List (ct α))
def ct.lab {α:Type}:ct α->α| .node a _=>a
def ct.kids {α:Type}:ct α->List (ct α)| .node _ l=>l
inductive Kd where
 |int (k:IntKind)|bool|str|err|any
 |sl (o:Bool) (e:Kd)
 |nil|cons (a b:Kd)
 |tree (a:Kd)
 deriving DecidableEq
@[reducible] def Kd.T:Kd->Type
 | .int _=>Int
 | .bool=>Bool
 | .str=>List UInt8
 | .err=>Bool
 | .any=>TypeId×(Int⊕List UInt8)
 | .sl _ e=>List e.T
 | .nil=>Unit
 | .cons a b=>a.T×b.T
 | .tree a=>ct a.T
def Kd.z:(k:Kd)->k.T
 | .int _=>(0:Int)
 | .bool=>false
 | .str=>([]:List UInt8)
 | .err=>false
 | .any=>(0,.inl 0)
 | .sl _ _=>[]
 | .nil=>()
 | .cons a b=>(a.z,b.z)
 | .tree a=> .node a.z []
def Kd.n:Kd->Nat
 | .nil=>0
 | .cons a b=>a.n+b.n
 |_=>1
def Kd.isSt:Kd->Bool
 | .nil| .cons _ _=>true
 |_=>false
def Kd.leafy:Kd->Bool
 | .nil=>true
 | .cons a b=> !a.isSt&& b.leafy
 |_=>false
def Kd.allOwn:Kd->Bool
 | .sl o e=>o&& e.allOwn
 | .cons a b=>a.allOwn&& b.allOwn
 | .tree _=>false
 |_=>true
def Kd.noOwn:Kd->Bool
 | .sl o e=> !o&& e.noOwn
 | .cons a b=>a.noOwn&& b.noOwn
 | .tree a=>a.noOwn
 |_=>true
def Kd.ch (k:Kd):Kd:=if k.isSt then k else .cons k .nil
def Kd.good (k:Kd):Bool:=k.noOwn&& k.ch.leafy
inductive Sh where
 |pur (kd:Kd)
 |own (k:Kd)
 |row (k:Kd)
 |rows (s:Sh)
 |nrw (s:Sh)
 |box (l:Sh)
 |agg (l:Sh)
 |fn (f:Fn) (n:Nat) (l:Sh)
 |ign|nl
 |nil|cons (a b:Sh)
 deriving DecidableEq
@[reducible] def Sh.T:Sh->Type
 | .pur kd=>kd.T
 | .own k=>List k.T
 | .row k=>List k.T
 | .rows s=>List s.T
 | .nrw s=>List s.T
 | .box l=>l.T
 | .agg l=>l.T
 | .fn _ _ l=>l.T
 | .ign=>Unit
 | .nl=>Unit
 | .nil=>Unit
 | .cons a b=>a.T×b.T
@[reducible] def Sh.Out:Sh->Type
 | .pur _=>Unit
 | .own _=>Unit
 | .row k=>List k.T
 | .rows _=>Unit
 | .nrw s=>List s.T
 | .box l=>l.T
 | .agg l=>l.Out
 | .fn _ _ l=>l.Out
 | .ign=>Unit
 | .nl=>Unit
 | .nil=>Unit
 | .cons a b=>a.Out×b.Out
def Sh.z:(s:Sh)->s.T
 | .pur kd=>kd.z
 | .own _=>[]
 | .row _=>[]
 | .rows _=>[]
 | .nrw _=>[]
 | .box l=>l.z
 | .agg l=>l.z
 | .fn _ _ l=>l.z
 | .ign=>()
 | .nl=>()
 | .nil=>()
 | .cons a b=>(a.z,b.z)
def Sh.zo:(s:Sh)->s.Out
 | .pur _=>()
 | .own _=>()
 | .row _=>[]
 | .rows _=>()
 | .nrw _=>[]
 | .box l=>l.z
 | .agg l=>l.zo
 | .fn _ _ l=>l.zo
 | .ign=>()
 | .nl=>()
 | .nil=>()
 | .cons a b=>(a.zo,b.zo)
def Sh.m:Sh->Nat
 | .own _| .row _| .rows _| .nrw _=>1
 | .box l=>l.m+1
 | .agg l=>l.m
 | .fn _ _ l=>l.m
 | .cons a b=>a.m+b.m
 |_=>0
def Sh.len:Sh->Nat
 | .cons _ b=>b.len+1
 |_=>0
def Sh.fresh:Sh->Bool
 | .pur kd=>kd.allOwn
 | .own k| .row k=>k.allOwn
 | .rows s=>s.fresh
 | .nrw s=>s.fresh
 | .box l| .agg l| .fn _ _ l=>l.fresh
 | .cons a b=>a.fresh&& b.fresh
 |_=>true
def Sh.freshOut:Sh->Bool
 | .row k=>k.allOwn
 | .nrw s=>s.fresh
 | .box l=>l.fresh
 | .agg l| .fn _ _ l=>l.freshOut
 | .cons a b=>a.freshOut&& b.freshOut
 |_=>true
def Sh.w:Sh->Nat
 | .cons _ b=>b.w+1
 | .nil=>0
 |_=>1
def Sh.one:Sh->Bool
 | .cons _ _| .nil=>false
 |_=>true
def Sh.chn:Sh->Bool
 | .nil=>true
 | .cons _ b=>b.chn
 |_=>false
def Sh.elem:Sh->Bool
 | .pur kd=>kd.noOwn&& !kd.isSt
 | .own k=>k.good
 | .rows s=>s.elem
 | .nil=>true
 | .cons a b=>(a.one&& b.chn)&& a.elem&& b.elem
 |_=>false
def Sh.kd:Sh->Kd
 | .pur k=>k
 | .own k=> .sl false k
 | .rows s=> .sl false s.kd
 | .cons a b=> .cons a.kd b.kd
 |_=> .nil
def Sh.kd_T:(s:Sh)->s.elem=true->s.kd.T=s.T
 | .pur _,_=>rfl
 | .own _,_=>rfl
 | .rows s,h=>by
  have:=Sh.kd_T s h;simp only[Sh.kd,Kd.T,Sh.T,this]
 | .nil,_=>rfl
 | .cons a b,h=>by
  simp only[Sh.elem,a0c]at h;have c:=Sh.kd_T a h.1.2;have d:=Sh.kd_T b h.2;simp only[Sh.kd,Kd.T,Sh.T,c,d]
 | .row _,h=>by simp[Sh.elem]at h
 | .nrw _,h=>by simp[Sh.elem]at h
 | .box _,h=>by simp[Sh.elem]at h
 | .agg _,h=>by simp[Sh.elem]at h
 | .fn _ _ _,h=>by simp[Sh.elem]at h
 | .ign,h=>by simp[Sh.elem]at h
 | .nl,h=>by simp[Sh.elem]at h
def Ls (s:Sh) (h:s.elem=true) (l:List s.T):List s.kd.T:=cast (a1x List (Sh.kd_T s h).symm) l
inductive SV where
 |v (k:Kd) (x:k.T)
 |lb (b:Bool)
 |dead
 |agg (l:List SV)
 |nils
 |wh (d j ver:Nat) (path:List (Nat×Nat))
 |os (d j ver:Nat) (path:List (Nat×Nat)) (off len:Nat)
 |bp (d j c:Nat)
 |rp (d j ver:Nat) (path:List (Nat×Nat)) (e c:Nat)
 |ip (k:Kd) (x:k.T)
 |fn (f:Fn) (first capt:List SV)
 |tup (l:List SV)
inductive OB where
 |box (cells:List SV)
 |row (k:Kd) (ver:Nat) (l:List k.T)
 |frow (k:Kd) (ver:Nat) (l:List k.T)
 |nrow (s:Sh) (l:List s.T) (foc:Option (Nat×List SV))
 |lrow (n:Nat)
abbrev OW:=List (List (Option OB))
structure St where
 sl:List SV
 ow:OW
inductive bc (β:Type):Type 1 where
 |ret (b:β)
 |fail
 |chk (c:Bool) (k:bc β)
 |bnd {γ:Type} (z:γ) (m:Option γ) (f:γ->bc β)
 |amb (c:Bool) (f g:bc β)
 |ite (c:Bool) (f g:bc β)
open Classical in
def nq {α:Type} (x y:Option α):Option α:=if x=y then x else none
@[simp] theorem vO {α:Type} (x:Option α):nq x x=x:=by simp[nq]
def Sy (n:Nat) (c:Bool):Bool:=Nat.rec c (λ_ _=>c) n
def Sz {α:Type} (n:Nat) (m:Option α):Option α:=Nat.rec m (λ_ _=>m) n
def br {α:Type} (n:Nat) (c:Bool) (x y:Option α):Option α:=cond (Sy n c) x y
def bd {α β:Type} (n:Nat) (m:Option β) (f:β->Option α):Option α:=(Sz n m).bind f
def jn {α β:Type} (n:Nat) (f:β->Option α) (y:β):Option α:=Nat.rec (f y) (λ_ _=>f y) n
def fL {β:Type} (n:Nat) (f:β->Option α) (y:β):jn n f y=f y:=by cases n<;>rfl
def gZ (n:Nat) (c:Bool) (x y:Option α):br n c x y=cond c x y:=by cases n<;>rfl
def De {β:Type} (n:Nat) (m:Option β) (f:β->Option α):bd n m f=m.bind f:=by cases n<;>rfl
def bc.run {α β:Type} (n:Nat):bc β->(β->Option α)->Option α
 | .ret b,k=>k b
 | .fail,_=>none
 | .chk c t,k=>br n c (t.run n k) none
 | .bnd _ m f,k=>bd n m λy=>(f y).run n k
 | .amb c f g,k=>br n c (nq (f.run n k) (g.run n k)) (g.run n k)
 | .ite c f g,k=>br n c (f.run n k) (g.run n k)
def bc.bind {β γ:Type}:bc β->(β->bc γ)->bc γ
 | .ret b,k=>k b
 | .fail,_=> .fail
 | .chk c t,k=> .chk c (t.bind k)
 | .bnd z m f,k=> .bnd z m λy=>(f y).bind k
 | .amb c f g,k=> .amb c (f.bind k) (g.bind k)
 | .ite c f g,k=> .ite c (f.bind k) (g.bind k)
def bc.ofOpt {β:Type}:Option β->bc β
 |some b=> .ret b
 |none=> .fail
def cy (ow:OW) (d j:Nat):Option OB:=
 match ow[d]? with
 |some l=>(match l[j]? with|some o=>o|none=>none)
 |none=>none
def bo (ow:OW) (d j:Nat) (o:Option OB):OW:=
 match ow[d]? with
 |some l=>ow.set d (l.set j o)
 |none=>ow
def cg (ow:OW) (d:Nat) (l:List OB):Option OW:=
 match l with
 |[]=>some ow
 |_=>(match ow[d]? with
  |some []=>some (ow.set d (l.map some))
  |_=>none)
def P2:(k:Kd)->k.T->k.ch.T
 | .int _,x=>(x,())
 | .bool,x=>(x,())
 | .str,x=>(x,())
 | .err,x=>(x,())
 | .any,x=>(x,())
 | .sl _ _,x=>(x,())
 | .nil,x=>x
 | .cons _ _,x=>x
 | .tree _,x=>(x,())
def jr:(k:Kd)->k.T->Nat->Option (Sigma Kd.T)
 |k,x,0=>some ⟨k,x⟩
 | .cons _ b,x,c+1=>jr b x.2 c
 |_,_,_+1=>none
def di:(k:Kd)->k.T->(c:Kd)->c.T->Option k.T
 |k,x,.nil,_=>some x
 | .cons a b,x,.cons a' b',y=>if h:a'=a then(match di b x.2 b' y.2 with|some r=>some (h▸y.1,r)|none=>none)else none
 |_,_,_,_=>none
def mq:(k:Kd)->k.T->Nat->(a:Kd)->a.T->Option k.T
 |k,x,0,a,y=>di k x a y
 | .cons _ b,x,c+1,a,y=>(match mq b x.2 c a y with|some r=>some (x.1,r)|none=>none)
 |_,_,_+1,_,_=>none
def vP:(k:Kd)->k.ch.T->k.T
 | .int _,x=>x.1
 | .bool,x=>x.1
 | .str,x=>x.1
 | .err,x=>x.1
 | .any,x=>x.1
 | .sl _ _,x=>x.1
 | .nil,x=>x
 | .cons _ _,x=>x
 | .tree _,x=>x.1
def lK:Kd->Nat->Option Kd
 |_,0=>some .nil
 | .cons a b,n+1=>(match lK b n with|some r=>some (.cons a r)|none=>none)
 |_,_+1=>none
def mr:(k:Kd)->k.T->List SV
 | .cons a b,x=> .v a x.1::mr b x.2
 |_,_=>[]
def P3 (k:Kd) (x:k.T):SV:=if k.isSt then .agg (mr k x)else .v k x
def aO {α:Type} (l:List α) (off len:Nat):List α:=(l.drop off).take len
section
variable (P:Program)
def ee (t:TypeId):Option TypeDesc:=P.underlying t
def dS (t:TypeId):Bool:=match ee P t with|some (.struct _)|some (.array _ _)=>true|_=>false
def cV (t:TypeId):Nat:=P.cellsOf t
def df (t:TypeId):Nat:=P.bytesOf t
def Kd.app:Kd->Kd->Kd
 | .cons a b,c=> .cons a (b.app c)
 |_,c=>c
def lp:Nat->TypeId->Option Kd
 |0,_=>none
 |f+1,t=>
  match ee P t with
  |some (.int k)=>some (.int k)
  |some .bool=>some .bool
  |some .string=>some .str
  |some (.slice e)=>(match lp f e with|some k=>some (.sl false k)|none=>none)
  |some (.struct fs)=>fs.toList.foldr (λx a=>match lp f x.type,a with|some k,some r=>some (k.ch.app r)|_,_=>none) (some .nil)
  |some (.interface ms)=>if ms.size=0 then some .any else some .err
  |_=>none
def Kd.own:Kd->Kd
 | .sl _ e=> .sl true e.own
 | .cons a b=> .cons a.own b.own
 |k=>k
def P4 (t:TypeId):Option Kd:=
 match ee P t with
 |some (.pointer s)=>
  (match ee P s with
  |some (.struct fs)=>
   (match fs.toList.getLast? with
   |some f=>(match ee P f.type with
    |some (.slice e)=>if e=t then(match fs.toList.dropLast.foldr (λx b=>match lp P 8 x.type,b with|some k,some r=>some (k.ch.app r)|_,_=>none) (some .nil)with|some a=>if a.leafy then some (.tree a)else none|none=>none)else none
    |_=>none)
   |none=>none)
  |_=>none)
 |_=>none
def P5 (t:TypeId):Option Kd:=match lp P 16 t with|some k=>some k|none=>P4 P t
def lL (t:TypeId):Option TypeId:=match ee P t with|some (.slice e)=>some e|_=>none
def ql (t:TypeId) (j:Nat):Option Field:=match ee P t with|some (.struct fs)=>fs[j]?|_=>none
end
def nP:Nat->Value->SV
 |_,.bool b=> .lb b
 |_,.int k n=> .v (.int k) n
 |_,.string s=> .v .str s.data.toList
 |_,.slice none 0 0=> .nils
 |_,.nilIface=> .v .err false
 |f+1,.agg cs=> .agg (cs.toList.map (nP f))
 |f+1,.func g a b=> .fn g (a.toList.map (nP f)) (b.toList.map (nP f))
 |_,_=> .dead
def vQ {a b:Kd} (h:a=b) (l:List a.T):List b.T:=h▸l
def Ac {a b:Sh} (h:a=b) (l:List a.T):List b.T:=h▸l
def Lt {a b:Kd} (h:a=b) (x:a.T):b.T:=h▸x
def nQ (ow:OW) (d j:Nat) (a:List (Nat×Nat)):Option (Sigma λk:Kd=>List k.T):=
 match a,cy ow d j with
 |[],some (.row k _ l)=>some ⟨k,l⟩
 |[],some (.frow k _ l)=>some ⟨k,l⟩
 |_,_=>none
def yV (ow:OW) (d j:Nat) (a:List (Nat×Nat)):Option (Nat×Nat):=
 match a,cy ow d j with
 |[],some (.row k _ l)=>some (k.n,l.length)
 |[],some (.frow k _ l)=>some (k.n,l.length)
 |[],some (.nrow s l _)=>some (s.w,l.length)
 |_,_=>none
def nR (ow:OW) (d j:Nat) (a:List (Nat×Nat)):Option (Sigma λs:Sh=>List s.T):=
 match a,cy ow d j with
 |[],some (.nrow s l none)=>some ⟨s,l⟩
 |_,_=>none
def vR:(s:Sh)->s.T->List SV
 | .pur kd,x=>[.v kd x]
 | .nil,_=>[]
 | .cons a b,x=>vR a x.1++vR b x.2
 |_,_=>[.dead]
def kU (ow:OW):SV->Option (Sigma λk:Kd=>List k.T)
 | .wh d j _ path=>nQ ow d j path
 | .os d j _ path off len=>(match nQ ow d j path with|some r=>some ⟨r.1,aO r.2 off len⟩|none=>none)
 |_=>none
def jL:SV->Option (Nat×Nat)
 | .wh d j _ _=>some (d,j)
 | .os d j _ _ _ _=>some (d,j)
 |_=>none
def nS (ow:OW) (d j:Nat):Bool:=match cy ow d j with|some (.row _ _ _)=>true|_=>false
def Ad (ow:OW) (d j:Nat):OW:=
 match cy ow d j with
 |some (.row k ver l)=>bo ow d j (some (.frow k ver l))
 |_=>ow
def Fl (ow:OW) (d j:Nat):OW:=
 match nR ow d j []with
 |some r=>if hs:r.1.elem=true then bo ow d j (some (.frow r.1.kd 0 (Ls r.1 hs r.2)))else ow
 |none=>ow
def Kd.nodeK (a:Kd):Kd:=a.app (.cons (.sl false (.tree a)) .nil)
def P6:(a:Kd)->a.T->(b:Kd)->b.T->(a.app b).T
 | .cons _ r,x,b,y=>(x.1,P6 r x.2 b y)
 | .int _,_,_,y=>y
 | .bool,_,_,y=>y
 | .str,_,_,y=>y
 | .err,_,_,y=>y
 | .any,_,_,y=>y
 | .sl _ _,_,_,y=>y
 | .nil,_,_,y=>y
 | .tree _,_,_,y=>y
def Fm (a:Kd) (x:ct a.T):a.nodeK.T:=P6 a x.lab (.cons (.sl false (.tree a)) .nil) (x.kids,())
def eP (k:Kd) (s:SV) (ow:OW):Option (k.T×OW):=
 match s with
 | .v k' x=>if h:k'=k then some (Lt h x,ow)else none
 | .lb b=>(match k with| .bool=>some (b,ow)|_=>none)
 | .nils=>(match k with| .sl false _=>some ([],ow)|_=>none)
 |s=>(match k with
  | .sl false e=>
   (match jL s,kU ow s with
   |some (d,j),some r=>if h:r.1=e then some (vQ h r.2,Ad ow d j)else none
   |some (d,j),none=>(match kU (Fl ow d j) s with|some r=>if h:r.1=e then some (vQ h r.2,Fl ow d j)else none|none=>none)
   |_,_=>none)
  |_=>none)
def bH:(k:Kd)->List SV->OW->Option (k.T×OW)
 | .cons a b,s::r,ow=>
  (match eP a s ow with
  |some x=>(match bH b r x.2 with|some y=>some ((x.1,y.1),y.2)|none=>none)
  |none=>none)
 | .nil,[],ow=>some ((),ow)
 |_,_,_=>none
def iK (ow:OW) (d j:Nat):Bool:=match cy ow d j with|some (.box _)=>true|_=>false
def sH (a:Kd) (d j c:Nat) (ow:OW):Option (ct a.T×OW):=
 match cy ow d j with
 |some (.box cells)=>
  (match bH a (cells.take a.n) ow with
  |some x=>
   (match eP (.sl false (.tree a)) (cells.getD a.n .dead) x.2 with
   |some y=>if c=0/\cells.length=a.n+1/\iK y.2 d j then some (.node x.1 y.1,bo y.2 d j (some (.lrow 0)))else none
   |none=>none)
  |none=>none)
 |_=>none
def vu:(k:Kd)->SV->OW->Option (k.T×OW)
 | .tree a,.bp d j c,ow=>sH a d j c ow
 | .tree a,s,ow=>eP (.tree a) s ow
 | .int k,s,ow=>eP (.int k) s ow
 | .bool,s,ow=>eP .bool s ow
 | .str,s,ow=>eP .str s ow
 | .err,s,ow=>eP .err s ow
 | .any,s,ow=>eP .any s ow
 | .sl o e,s,ow=>eP (.sl o e) s ow
 | .nil,s,ow=>eP .nil s ow
 | .cons a b,s,ow=>eP (.cons a b) s ow
def tR (k:Kd) (s:SV) (ow:OW):Option (k.T×OW):=if k.isSt then(match s with| .agg l=>bH k l ow|_=>none)else vu k s ow
def ic:Option OB->Option OB->Option OB
 |some (.row k v l),some (.frow _ _ _)=>some (.row k v l)
 |some (.nrow s l none),some (.frow _ _ _)=>some (.nrow s l none)
 |_,n=>n
def vS:List (Option OB)->List (Option OB)->List (Option OB)
 |o::os,n::ns=>ic o n::vS os ns
 |_,ns=>ns
def nU:OW->OW->OW
 |o::os,n::ns=>vS o n::nU os ns
 |_,ns=>ns
end Go.Pev
namespace Go.Pev
def re (k:Kd) (v:SV) (ow:OW):Option (List k.T×OW):=
 match jL v,kU ow v with
 |some (d,j),some r=>if nS ow d j then(if h:r.1=k then some (vQ h r.2,bo ow d j none)else none)else none
 |_,_=>none
def fV (s:Sh) (f:List SV->OW->Option (s.T×OW)) (ow:OW) (d j:Nat):Option OW:=
 match cy ow d j with
 |some (.nrow s' l foc)=>
  if s'=s then
   (match foc with
   |none=>some ow
   |some p=>
    (match f p.2 ow with
    |some x=>
     (match cy x.2 d j with
     |some (.nrow s2 l2 _)=>if h:s2=s then some (bo x.2 d j (some (.nrow s ((Ac h l2).set p.1 x.1) none)))else none
     |_=>none)
    |none=>none))
  else none
 |_=>none
def nV (s:Sh) (v:SV) (ow:OW):Option (List s.T×OW):=
 match v with
 | .wh d j _ []=>
  (match cy ow d j with
  |some (.nrow s' l none)=>if h:s'=s then some (Ac h l,bo ow d j none)else none
  |_=>none)
 | .os d j _ [] off len=>
  (match cy ow d j with
  |some (.nrow s' l none)=>if h:s'=s then some (aO (Ac h l) off len,bo ow d j none)else none
  |_=>none)
 |_=>none
def pk:(s:Sh)->List SV->OW->Option (s.T×OW)
 | .pur kd,[v],ow=>tR kd v ow
 | .own k,[v],ow=>(match v with| .nils=>if k.good then some ([],ow)else none|v=>re k v ow)
 | .row k,[v],ow=>(match v with| .wh d j ver path=>re k (.wh d j ver path) ow|_=>none)
 | .rows s,[v],ow=>
  (match v with
  | .nils=>if s.elem then some ([],ow)else none
  |v=>
   (match jL v with
   |some (d,j)=>(match fV s (pk s) ow d j with|some ow1=>nV s v ow1|none=>none)
   |none=>none))
 | .nrw s,[v],ow=>
  (match v with
  | .wh d j ver path=>(match fV s (pk s) ow d j with|some ow1=>nV s (.wh d j ver path) ow1|none=>none)
  |_=>none)
 | .box l,[.bp d j c],ow=>
  (match cy ow d j with
  |some (.box cells)=>if c=0/\cells.length=l.len then pk l cells (bo ow d j none)else none
  |_=>none)
 | .agg l,[.agg cs],ow=>pk l cs ow
 | .fn f n l,[.fn g a b],ow=>if f=g/\a.length=n then pk l (a++b) ow else none
 | .ign,[_],ow=>some ((),ow)
 | .nl,[.nils],ow=>some ((),ow)
 | .nil,[],ow=>some ((),ow)
 | .cons a b,v::r,ow=>
  (match pk a [v] ow with
  |some x=>(match pk b r x.2 with|some y=>some ((x.1,y.1),y.2)|none=>none)
  |none=>none)
 |_,_,_=>none
def kV (ow:OW) (v:SV):OW:=
 match jL v with
 |some (d,j)=>
  (match cy ow d j with
  |some (.nrow s _ (some _))=>(match fV s (pk s) ow d j with|some ow1=>ow1|none=>ow)
  |_=>ow)
 |none=>ow
def Df:SV->List SV
 | .agg l=>l
 |v=>[v]
def kg (l:List SV) (ow:OW):OW:=(l.flatMap Df).foldl kV ow
def bJ (d:Nat):(s:Sh)->s.T->Nat->List SV×List OB
 | .pur kd,x,_=>([P3 kd x],[])
 | .own k,l,j=>([.wh d j 0 []],[.row k 0 l])
 | .row k,l,j=>([.wh d j 0 []],[.row k 0 l])
 | .rows s,l,j=>([.wh d j 0 []],[.nrow s l none])
 | .nrw s,l,j=>([.wh d j 0 []],[.nrow s l none])
 | .box l,x,j=>let r:=bJ d l x (j+1);([.bp d j 0],.box r.1::r.2)
 | .agg l,x,j=>let r:=bJ d l x j;([.agg r.1],r.2)
 | .fn f n l,x,j=>let r:=bJ d l x j;([.fn f (r.1.take n) (r.1.drop n)],r.2)
 | .ign,_,_=>([.dead],[])
 | .nl,_,_=>([.nils],[])
 | .nil,_,_=>([],[])
 | .cons a b,x,j=>let r:=bJ d a x.1 j;let s:=bJ d b x.2 (j+r.2.length);(r.1++s.1,r.2++s.2)
def Sh.noOuts:Sh->Bool
 | .row _| .nrw _| .box _=>false
 | .agg l| .fn _ _ l=>l.noOuts
 | .cons a b=>a.noOuts&& b.noOuts
 |_=>true
def eQ (d:Nat) (e:OW):(s:Sh)->List SV->s.Out->OW×List OB->Option (OW×List OB)
 | .row k,[.wh dd j _ _],y,st=>
  (match cy e dd j with
  |some (.row k' ver _)=>if k'=k then some (bo st.1 dd j (some (.row k (ver+1) y)),st.2)else none
  |_=>none)
 | .nrw s,[.wh dd j _ _],y,st=>
  (match cy e dd j with
  |some (.nrow s' _ none)=>if s'=s then some (bo st.1 dd j (some (.nrow s y none)),st.2)else none
  |_=>none)
 | .box l,[.bp dd j c],y,st=>
  (match cy e dd j with
  |some (.box _)=>if c=0 then some (bo st.1 dd j (some (.box (bJ d l y st.2.length).1)),st.2++(bJ d l y st.2.length).2)else none
  |_=>none)
 | .agg l,[.agg cs],y,st=>eQ d e l cs y st
 | .fn _ _ l,[.fn _ a b],y,st=>eQ d e l (a++b) y st
 | .cons a b,v::r,y,st=>if a.noOuts then eQ d e b r y.2 st else(match eQ d e a [v] y.1 st with|some st=>eQ d e b r y.2 st|none=>none)
 | .pur _,[_],_,st=>some st
 | .own _,[_],_,st=>some st
 | .rows _,[_],_,st=>some st
 | .ign,[_],_,st=>some st
 | .nl,[_],_,st=>some st
 | .nil,[],_,st=>some st
 |_,_,_,_=>none
def gk:(s:Sh)->List SV->OW->Option (s.Out×OW)
 | .row k,l,ow=>pk (.row k) l ow
 | .nrw s,l,ow=>pk (.nrw s) l ow
 | .box s,l,ow=>pk (.box s) l ow
 | .agg l,[.agg cs],ow=>gk l cs ow
 | .fn f n l,[.fn g a b],ow=>if f=g/\a.length=n then gk l (a++b) ow else none
 | .cons a b,v::r,ow=>
  if a.noOuts then(match gk b r ow with|some y=>some ((a.zo,y.1),y.2)|none=>none)else
  (match gk a [v] ow with
  |some x=>(match gk b r x.2 with|some y=>some ((x.1,y.1),y.2)|none=>none)
  |none=>none)
 | .pur _,[_],ow=>some ((),ow)
 | .own _,[_],ow=>some ((),ow)
 | .rows _,[_],ow=>some ((),ow)
 | .ign,[_],ow=>some ((),ow)
 | .nl,[_],ow=>some ((),ow)
 | .nil,[],ow=>some ((),ow)
 |_,_,_=>none
structure jW where
 args:Sh
 res:Sh
 den:args.T->Option (res.T×args.Out)
 al:List (Nat×Nat×Nat×List Nat)
def sI (ow:OW):SV->List Nat->Option SV
 |s,[]=>some s
 | .bp d j c,i::r=>(match cy ow d j with|some (.box cells)=>(match cells[c+i]? with|some s=>sI ow s r|none=>none)|_=>none)
 |_,_=>none
def nW (ow:OW) (s:SV) (c:Nat) (p:List Nat):Option SV:=
 match s with
 | .fn _ a b=>(match(a++b)[c]? with|some s=>sI ow s p|none=>none)
 |_=>none
def PL (ow:OW) (d j:Nat):Bool:=match cy ow d j with|some (.box _)=>true|_=>false
def vT (ow:OW):SV->SV->Bool
 | .bp d j c,.bp d' j' c'=>d==d'&& j==j'&& c==c'&& PL ow d j
 |_,_=>false
def Lu (a:List SV) (ow:OW) (q:Nat×Nat×Nat×List Nat):Bool:=
 match a[q.1]?,a[q.2.1]? with
 |some s,some t=>(match nW ow t q.2.2.1 q.2.2.2 with|some s'=>vT ow s s'|none=>false)
 |_,_=>false
def Of (al:List (Nat×Nat×Nat×List Nat)) (a:List SV) (ow:OW):Bool:=al.all (Lu a ow)
def Lv (ow:OW):List (Nat×Nat×Nat×List Nat)->List SV->List SV
 |[],sl=>sl
 |q::r,sl=>Lv ow r (match sl[q.2.1]? with|some t=>(match nW ow t q.2.2.1 q.2.2.2 with|some s=>sl.set q.1 s|none=>sl)|none=>sl)
def Lw (al:List (Nat×Nat×Nat×List Nat)) (st:St):St:=⟨Lv st.ow al st.sl,st.ow⟩
structure HJ where
 keys:List (Nat×Nat):=[]
 draws:List (Nat×List (List Nat×Bool)):=[]
structure gw where
 P:Program
 sigs:List (FuncId×List jW)
 fuel:Nat
 deep:List (Nat×Sh)
 inl:List (FuncId×List (Nat×HJ))
def gw.deepOf (C:gw) (d:Nat):Option Sh:=match C.deep.find? (λx=>x.1==d)with|some x=>some x.2|none=>none
def gw.sigsOf (C:gw) (f:FuncId):List jW:=match C.sigs.find? (λx=>x.1==f)with|some x=>x.2|none=>[]
structure Fo where
 loops:List (Nat×List (Nat×Sh)):=[]
 joins:List (Nat×List (Nat×Kd)):=[]
 keys:List (Nat×List (List Nat×Bool)):=[]
 heads:List (Nat×List (Nat×Sh)):=[]
 al:List (Nat×Nat×Nat×List Nat):=[]
 lal:List (Nat×Nat×Nat×List Nat):=[]
def vU:SV->Bool
 | .agg _| .tup _| .dead=>false
 |_=>true
def fx (P:Program) (t:TypeId) (s:SV):Option (List SV):=
 if dS P t then(match s with| .agg l=>if l.length=cV P t&& l.all vU then some l else none|_=>none)
 else if vU s&& cV P t=1 then some [s]else none
def dA (P:Program) (t:TypeId) (l:List SV):Option SV:=
 match ee P t with
 |none=>none
 |some _=>
  if dS P t then(if 0<cV P t/\cV P t<=l.length then some (.agg (l.take (cV P t)))else none)
  else(match l with|s::_=>some s|[]=>none)
def sJ (P:Program) (t:TypeId) (p:SV) (ow:OW):bc SV:=
 match p with
 | .bp d j c=>(match cy ow d j with|some (.box cells)=> .ofOpt (dA P t (cells.drop c))|_=> .fail)
 | .rp d j _ path e c=>
  (match nQ ow d j path with
  |some r=> .bnd r.1.z r.2[e]? λx=>(match jr r.1.ch (P2 r.1 x) c with|some y=> .ofOpt (dA P t (mr y.1 y.2))|none=> .fail)
  |none=>(match nR ow d j path with|some r=> .bnd r.1.z r.2[e]? λx=> .ofOpt (dA P t ((vR r.1 x).drop c))|none=> .fail))
 | .ip k x=> .ofOpt (dA P t (mr k x))
 | .v (.tree a) x=>if a.leafy then .ofOpt (dA P t (mr a.nodeK (Fm a x)))else .fail
 |_=> .fail
def js (a:List SV) (c:Nat) (b:List SV):Option (List SV):=if c+b.length<=a.length then some (a.take c++b++a.drop (c+b.length))else none
def HK (k:Kd) (c n:Nat):Option Kd:=match jr k.ch (P2 k k.z) c with|some y=>lK y.1 n|none=>none
def BA (P:Program) (t:TypeId) (p s:SV) (ow:OW):bc OW:=
 match fx P t s with
 |none=> .fail
 |some new=>
  (match p with
  | .bp d j c=>
   (match cy ow d j with
   |some (.box cells)=>(match js cells c new with|some cells'=> .ret (bo ow d j (some (.box cells')))|none=> .fail)
   |_=> .fail)
  | .rp d j _ [] e c=>
   (match cy ow d j with
   |some (.row k ver l)=>
    (match HK k c new.length with
    |some kt=>
     (match bH kt new ow with
     |some y=>
      (match cy y.2 d j with
      |some (.row k' ver' l')=>
       if h:k'=k then .bnd k.z (vQ h l')[e]? λx=>
        (match mq k.ch (P2 k x) c kt y.1 with
        |some x'=> .ret (bo y.2 d j (some (.row k ver' ((vQ h l').set e (vP k x')))))
        |none=> .fail)
       else .fail
      |_=> .fail)
     |none=> .fail)
    |none=> .fail)
   |_=> .fail)
  |_=> .fail)
def kW (P:Program) (t:TypeId) (p:SV) (f:Nat) (ow:OW):bc SV:=
 match ql P t f with
 |none=> .fail
 |some fd=>if cV P fd.type=0 then .fail else
  (match p with
  | .bp d j c=>if iK ow d j then .ret (.bp d j (c+fd.offset))else .fail
  | .rp d j ver path e c=>(match yV ow d j path with|some _=> .ret (.rp d j ver path e (c+fd.offset))|none=> .fail)
  | .ip k x=>(match jr k x fd.offset with|some y=> .ret (.ip y.1 y.2)|none=> .fail)
  | .v (.tree a) x=>if a.leafy then(match jr a.nodeK (Fm a x) fd.offset with|some y=> .ret (.ip y.1 y.2)|none=> .fail)else .fail
  |_=> .fail)
def jg (P:Program) (t:TypeId) (n:Nat):Bool:=
 match ee P t with
 |some (.slice e)=>(match P.info? e with|some i=>i.size==n|none=>false)
 |_=>false
def nX (P:Program) (t:TypeId) (x i:SV) (ow:OW):bc SV:=
 match i with
 | .v (.int _) n=>
  (match x with
  | .v (.sl _ e) l=>if e.ch.leafy&& jg P t e.n then .chk (decide (0<=n)) (.bnd e.z l[n.toNat]? λy=> .ret (.ip e.ch (P2 e y)))else .fail
  | .wh d j ver path=>(match yV ow d j path with|some r=>if jg P t r.1 then .chk (decide (0<=n/\n<r.2)) (.ret (.rp d j ver path n.toNat 0))else .fail|none=> .fail)
  | .os d j ver path off len=>(match yV ow d j path with|some r=>if jg P t r.1 then .chk (decide (0<=n/\n<len)) (.ret (.rp d j ver path (off+n.toNat) 0))else .fail|none=> .fail)
  |_=> .fail)
 |_=> .fail
def Dg {α:Type} (l:List α) (lo hi:Option Int):List α:=
 match lo,hi with
 |none,none=>l
 |some a,none=>l.drop a.toNat
 |none,some b=>l.take b.toNat
 |some a,some b=>(l.take b.toNat).drop a.toNat
def rg (n:Nat) (lo hi:Option Int):Bool:=
 match lo,hi with
 |none,none=>true
 |some a,none=>decide (0<=a/\a<=n)
 |none,some b=>decide (0<=b/\b<=n)
 |some a,some b=>decide (0<=a/\a<=b/\b<=n)
def BB:Option SV->Option (Option Int)
 |none=>some none
 |some (.v (.int _) n)=>some (some n)
 |_=>none
def lq (P:Program) (t:TypeId):Bool:=match ee P t with|some .string=>true|_=>false
def BC (P:Program) (t:TypeId) (x:SV) (lo hi:Option SV) (ow:OW):bc SV:=
 match BB lo,BB hi with
 |some a,some b=>
  (match x with
  | .v .str s=>if lq P t then .chk (rg s.length a b) (.ret (.v .str (Dg s a b)))else .fail
  | .v (.sl o e) l=>if jg P t e.n then .chk (rg l.length a b) (.ret (.v (.sl o e) (Dg l a b)))else .fail
  | .wh d j ver path=>(match yV ow d j path with|some r=>if jg P t r.1 then .chk (rg r.2 a b) (.ret (.os d j ver path (a.getD 0).toNat ((b.getD r.2).toNat-(a.getD 0).toNat)))else .fail|none=> .fail)
  | .os d j ver path off len=>(match yV ow d j path with|some r=>if jg P t r.1 then .chk (rg len a b) (.ret (.os d j ver path (off+(a.getD 0).toNat) ((b.getD len).toNat-(a.getD 0).toNat)))else .fail|none=> .fail)
  |_=> .fail)
 |_,_=> .fail
def fW (P:Program) (t:TypeId):Bool:=match ee P t with|some (.slice _)=>true|_=>false
def PM (ow:OW) (d j:Nat):Option Nat:=
 match cy ow d j with
 |some (.lrow n)=>some n
 |_=>none
def Lx (P:Program) (t:TypeId) (x:SV) (ow:OW):bc SV:=
 match x with
 | .v .str s=>if lq P t then .ret (.v (.int .i64) s.length)else .fail
 |x=>if fW P t then(match x with
  | .v (.sl _ _) l=> .ret (.v (.int .i64) l.length)
  | .nils=> .ret (.v (.int .i64) 0)
  | .wh d j _ path=>(match yV ow d j path with|some r=> .ret (.v (.int .i64) r.2)|none=>(match PM ow d j with|some n=> .ret (.v (.int .i64) n)|none=> .fail))
  | .os d j _ path _ len=>(match yV ow d j path with|some _=> .ret (.v (.int .i64) len)|none=> .fail)
  |_=> .fail)else .fail
def af:Nat:=140737488355328
def rh (k:Kd) (x:SV) (ow:OW):Option (List k.T):=
 match x with
 | .nils=>some []
 | .v (.sl _ k') l=>if h:k'=k then some (vQ h l)else none
 |x=>(match kU ow x with|some r=>if h:r.1=k then some (vQ h r.2)else none|none=>none)
def P7 (ow:OW) (x:SV):Option Kd:=
 match x with
 | .v (.sl _ k) _=>some k
 |x=>(match kU ow x with|some r=>some r.1|none=>none)
def kj (P:Program) (e:TypeId) (k:Kd):Bool:=k.good&& decide (0<k.n)&& decide (k.n=cV P e)&& decide (0<df P e)&& (match(P.info? e).bind (·.zero)with|some z=>decide (z.cells.size=k.n)|none=>false)
def dD:Kd->List Value->Bool
 | .int k,[.int k' n]=>k==k'&& n==0
 | .bool,[.bool b]=> !b
 | .str,[.string s]=>s.data.size==0
 | .err,[.nilIface]=>true
 | .sl false _,[.slice none 0 0]=>true
 | .nil,[]=>true
 | .cons a b,v::r=> !a.isSt&& dD a [v]&& dD b r
 |_,_=>false
def Fp (P:Program) (e:TypeId) (k:Kd):Bool:=match(P.info? e).bind (·.zero)with|some z=>dD k z.cells.toList|none=>false
def Fq (ow:OW) (d j:Nat):OW:=
 match cy ow d j with
 |some (.row _ _ l)=>bo ow d j (some (.lrow l.length))
 |some (.nrow _ l _)=>bo ow d j (some (.lrow l.length))
 |_=>bo ow d j none
def vV (P:Program) (t:TypeId) (s x:SV) (ow:OW) (d:Nat):bc (SV×OW):=
 match lL P t with
 |none=> .fail
 |some e=>
  (match s with
  | .nils=>
   (match x with
   | .nils=>if(P.info? e).isSome then .ret (.nils,ow)else .fail
   |x=>
    (match P7 ow x with
    |some k=>(match rh k x ow with
     |some y=>if kj P e k then .chk (decide (y.length*df P e<=af)) (match cg ow d [.row k 0 y]with|some ow'=> .ret (.wh d 0 0 [],ow')|none=> .fail)else .fail
     |none=> .fail)
    |none=> .fail))
  |s=>
   (match jL s,kU ow s with
   |some (dd,j),some b=>if nS ow dd j then
    (match rh b.1 x ow with
    |some y=>if kj P e b.1 then .chk (decide ((b.2.length+y.length)*df P e<=af)) (match cg (Fq ow dd j) d [.row b.1 0 (b.2++y)]with|some ow'=> .ret (.wh d 0 0 [],ow')|none=> .fail)else .fail
    |none=> .fail)else .fail
   |_,_=> .fail))
def nY (P:Program) (t:TypeId) (n c:SV) (ow:OW) (d:Nat):bc (SV×OW):=
 match lL P t,n,c with
 |some e,.v (.int .i64) n,.v (.int .i64) c=>
  (match lp P 16 e with
  |some k=>if kj P e k&& Fp P e k then
   .chk (decide (0<=n/\n<=c/\c*df P e<=af)) (match cg ow d [.row k 0 (List.replicate n.toNat k.z)]with|some ow'=> .ret (.wh d 0 0 [],ow')|none=> .fail)else .fail
  |none=> .fail)
 |_,_,_=> .fail
def vW (k:Kd):List SV->OW->Option (List k.T×OW)
 |[],ow=>some ([],ow)
 |s::r,ow=>
  (match tR k s ow with
  |some x=>(match vW k r x.2 with|some y=>some (x.1::y.1,y.2)|none=>none)
  |none=>none)
def mu (P:Program) (t:TypeId) (n:Nat) (a:List (Nat×SV)) (ow:OW) (d:Nat):bc (SV×OW):=
 match lL P t with
 |none=> .fail
 |some e=>
  (match P5 P e with
  |none=> .fail
  |some k=>
   if a.map (·.1)=List.range n/\n*cV P e<=16777216/\kj P e k then
    (match vW k (a.map (·.2)) ow with
    |some y=>(match cg y.2 d [.row k 0 y.1]with|some ow'=> .ret (.wh d 0 0 [],ow')|none=> .fail)
    |none=> .fail)
   else .fail)
def lM (P:Program) (t:TypeId):Option (List SV):=
 match P.info? t with
 |some i=>(match i.zero with
  |some v=>if v.cells.size=i.size then some (v.cells.toList.map (nP 4))else none
  |none=>none)
 |none=>none
def HL (P:Program) (t:TypeId):List SV->List (Nat×SV)->Option (List SV)
 |cells,[]=>some cells
 |cells,(f,s)::r=>
  (match ql P t f with
  |some fd=>(match fx P fd.type s with|some new=>(match js cells fd.offset new with|some cells'=>HL P t cells' r|none=>none)|none=>none)
  |none=>none)
def BD (P:Program) (t:TypeId) (a:List (Nat×SV)):bc SV:=
 match lM P t,ee P t with
 |some cells,some (.struct fs)=>if fs.toList.all (λf=>(P.info? f.type).isSome)then(match HL P t cells a with|some r=> .ret (.agg r)|none=> .fail)else .fail
 |_,_=> .fail
def BE (P:Program) (t:TypeId) (x:SV) (f:Nat):bc SV:=
 match x,ql P t f with
 | .agg cs,some fd=> .ofOpt (dA P fd.type (cs.drop fd.offset))
 |_,_=> .fail
def sK (P:Program) (src a:TypeId) (x:SV) (ow:OW):bc SV:=
 match ee P src,ee P a,x with
 |some (.int _),some (.int k),.v (.int _) n=> .ret (.v (.int k) (k.wrap n))
 |some (.slice e),some .string,x=>
  (match ee P e with
  |some (.int .u8)=>
   (match x with
   | .nils=> .ret (.v .str [])
   | .v (.sl _ (.int .u8)) l=> .ret (.v .str (l.map λn:Int=>UInt8.ofNat n.toNat))
   |x=>(match kU ow x with|some ⟨.int .u8,l⟩=> .ret (.v .str (l.map λn:Int=>UInt8.ofNat n.toNat))|_=> .fail))
  |_=> .fail)
 |_,_,_=> .fail
def eR (P:Program):Nat->List Field->List SV->List SV->Option Bool
 |_,[],[],[]=>some true
 |i,f::fs,a::r,b::s=>
  if f.name != "_" && f.offset==i then
   (match a,b with
   | .v (.int k) a,.v (.int k') b=>if k=k' then(match ee P f.type with|some (.int _)=>(match eR P (i+1) fs r s with|some c=>some ((a==b)&& c)|none=>none)|_=>none)else none
   | .v .str a,.v .str b=>(match ee P f.type with|some .string=>(match eR P (i+1) fs r s with|some c=>some ((a==b)&& c)|none=>none)|_=>none)
   | .v .bool a,.v .bool b=>(match ee P f.type with|some .bool=>(match eR P (i+1) fs r s with|some c=>some ((a==b)&& c)|none=>none)|_=>none)
   |_,_=>none)
  else none
 |_,_,_,_=>none
def sL:SV->Option Bool
 | .v .bool b=>some b
 | .lb b=>some b
 |_=>none
def Fs (op:BinOp) (k:IntKind) (a b:Int):bc SV:=
 match op with
 | .add=> .ret (.v (.int k) (k.wrap (a+b)))
 | .sub=> .ret (.v (.int k) (k.wrap (a-b)))
 | .mul=> .ret (.v (.int k) (k.wrap (a*b)))
 | .quo=> .chk (!decide (b=0)) (.ret (.v (.int k) (k.wrap (a.tdiv b))))
 | .rem=> .chk (!decide (b=0)) (.ret (.v (.int k) (a.tmod b)))
 | .and=> .ret (.v (.int k) (k.wrap (BitVec.ofInt k.bits a&&& BitVec.ofInt k.bits b).toNat))
 | .or=> .ret (.v (.int k) (k.wrap (BitVec.ofInt k.bits a|||BitVec.ofInt k.bits b).toNat))
 | .xor=> .ret (.v (.int k) (k.wrap (BitVec.ofInt k.bits a^^^BitVec.ofInt k.bits b).toNat))
 | .andNot=> .ret (.v (.int k) (k.wrap (BitVec.ofInt k.bits a&&& ~~~BitVec.ofInt k.bits b).toNat))
 | .eql=> .ret (.v .bool (a==b))
 | .neq=> .ret (.v .bool (a !=b))
 | .lss=> .ret (.v .bool (decide (a<b)))
 | .leq=> .ret (.v .bool (decide (a<=b)))
 | .gtr=> .ret (.v .bool (decide (a>b)))
 | .geq=> .ret (.v .bool (decide (a>=b)))
 |_=> .fail
def Ly:Int:=9223372036854775807
def Ft (op:BinOp) (a b:List UInt8):bc SV:=
 match op with
 | .add=> .chk (decide (((a.length+b.length:Nat):Int)<=Ly)) (.ret (.v .str (a++b)))
 | .eql=> .ret (.v .bool (a==b))
 | .neq=> .ret (.v .bool (!(a==b)))
 |_=> .fail
def vX (P:Program) (t:TypeId):Bool:=match ee P t with|some (.interface _)=>true|_=>false
def BF (P:Program) (t:TypeId):Bool:=match ee P t with|some .bool=>true|_=>false
def Og (op:BinOp) (c:Bool):Option Bool:=match op with| .eql=>some c| .neq=>some (!c)|_=>none
def Lz (op:BinOp) (c:Bool):bc SV:=match Og op c with|some c=> .ret (.v .bool c)|none=> .fail
def BG (op:BinOp) (e:Bool):bc SV:=match op with| .eql=> .amb e (.ret (.lb true)) (.ret (.lb false))| .neq=> .amb e (.ret (.lb false)) (.ret (.lb true))|_=> .fail
def BH (ow:OW) (x:SV):Option Bool:=
 match x with
 | .v (.sl _ _) l=>some l.isEmpty
 |x=>(match kU ow x with|some r=>some r.2.isEmpty|none=>none)
def LA (P:Program) (op:BinOp) (t:TypeId) (d:Bool) (x y:SV) (ow:OW):bc SV:=
 match x,y with
 | .v (.int k) a,.v (.int k') b=>
  (match op with
  | .shl=> .chk (decide (0<=b)) (.ret (.v (.int k) (k.wrap (a*2^(min b.toNat k.bits)))))
  | .shr=> .chk (decide (0<=b)) (.ret (.v (.int k) (a.fdiv (2^(min b.toNat k.bits)))))
  |op=>if k=k' then Fs op k a b else .fail)
 | .v .str a,.v .str b=>if lq P t then Ft op a b else .fail
 | .v .err a,.v .err b=>if vX P t&& d then .chk (!(a&& b)) (Lz op (a==b))else .fail
 | .agg a,.agg b=>
  (match ee P t with
  |some (.struct fs)=>
   if P.stoodInHeld t||P.eqGuardType P.depth t then .fail else
   (match eR P 0 fs.toList a b with
   |some c=>Lz op c
   |none=> .fail)
  |_=> .fail)
 | .nils,.nils=>if fW P t then(match Og op true with|some c=> .ret (.lb c)|none=> .fail)else .fail
 |x,.nils=>if fW P t then(match BH ow x with|some e=>BG op e|none=> .fail)else .fail
 |x,y=>
  (match sL x,sL y with
  |some a,some b=>if BF P t then Lz op (a==b)else .fail
  |_,_=> .fail)
def P8 (op:UnOp) (x:SV):bc SV:=
 match op,x with
 | .not,.v .bool b=> .ret (.v .bool (!b))
 | .not,.lb b=> .ret (.lb (!b))
 | .neg,.v (.int k) n=> .ret (.v (.int k) (k.wrap (0-n)))
 | .xor,.v (.int k) n=> .ret (.v (.int k) (k.wrap (BitVec.ofInt k.bits (if k.signed then-1 else k.max)^^^BitVec.ofInt k.bits n).toNat))
 |_,_=> .fail
def Fu (c a b:SV):bc SV:=
 match c with
 | .lb c=> .ret (if c then a else b)
 | .v .bool c=>
  (match sL a,sL b with
  |some x,some y=> .ret (.v .bool (cond c x y))
  |_,_=> .fail)
 |_=> .fail
def BI (x i:SV):bc SV:=
 match x,i with
 | .v .str s,.v (.int _) n=> .chk (decide (0<=n)) (.bnd 0 s[n.toNat]? λb=> .ret (.v (.int .u8) b.toNat))
 |_,_=> .fail
def Oh (k:IntKind):List SV->Int->Option Int
 |[],a=>some a
 | .v (.int k') y::r,x=>if k=k' then Oh k r (if(y:Int)<x then y else x)else none
 |_,_=>none
def Oi (k:IntKind):List SV->Int->Option Int
 |[],a=>some a
 | .v (.int k') y::r,x=>if k=k' then Oi k r (if(y:Int)>x then y else x)else none
 |_,_=>none
def Q4 (l:List SV):SV:=match l with|[a]=>a|l=> .tup l
def Fv (a:jW) (ow ow1:OW):OW:=if a.res.fresh&& a.args.freshOut then nU ow ow1 else ow1
def LB (a:jW) (args:List SV) (ow:OW) (d:Nat):Option (bc (SV×OW)):=
 if Of a.al args ow then
 match pk a.args args ow with
 |none=>none
 |some p=>some (.bnd (a.res.z,a.args.zo) (a.den p.1) λy=>
  (match eQ d ow a.args args y.2 (Fv a ow p.2,(bJ d a.res y.1 0).2)with
  |some q=>(match cg q.1 d q.2 with|some ow'=> .ret (Q4 (bJ d a.res y.1 0).1,ow')|none=> .fail)
  |none=> .fail))
 else none
def vv (args:List SV) (ow:OW) (d:Nat):List jW->bc (SV×OW)
 |[]=> .fail
 |sg::r=>(match LB sg args ow d with|some c=>c|none=>vv args ow d r)
def BJ (P:Program) (t:TypeId) (x:SV):bc SV:=
 match ee P t,x with
 |some (.int .i64),.v (.int .i64) n=> .ret (.v .any (t,.inl n))
 |some .string,.v .str s=> .ret (.v .any (t,.inr s))
 |_,_=> .fail
def BK (P:Program) (t:TypeId):Bool:=match(P.info? t).bind (·.zero)with|some (.int .i64 0)=>true|_=>false
def BL (P:Program) (t:TypeId):Bool:=match(P.info? t).bind (·.zero)with|some (.string s)=>s.data.size==0|_=>false
def vY (P:Program) (t:TypeId) (x:SV):bc SV:=
 match ee P t,x with
 |some (.int .i64),.v .any y=>if BK P t then .chk (!(y.1==t)||y.2.isLeft) (.ret (.tup [.v (.int .i64) (cond (y.1==t) (match y.2 with| .inl n=>n| .inr _=>0) 0),.v .bool (y.1==t)]))else .fail
 |some .string,.v .any y=>if BL P t then .chk (!(y.1==t)||y.2.isRight) (.ret (.tup [.v .str (cond (y.1==t) (match y.2 with| .inr s=>s| .inl _=>[]) []),.v .bool (y.1==t)]))else .fail
 |_,_=> .fail
def mv (x:SV) (ow:OW):bc SV:=
 match x with
 | .bp d j c=>if iK ow d j then .ret (.bp d j c)else .fail
 | .rp d j ver path e c=>(match yV ow d j path with|some _=> .ret (.rp d j ver path e c)|none=> .fail)
 | .ip k x=> .ret (.ip k x)
 | .v (.tree a) x=> .ret (.v (.tree a) x)
 | .fn (.func f) a b=> .ret (.fn (.func f) a b)
 |_=> .fail
def pK (P:Program) (o:Op) (ρ:Operand->SV) (ow:OW):bc SV:=
 match o with
 | .move x| .assign x=> .ret (ρ x)
 | .pick c a b=>Fu (ρ c) (ρ a) (ρ b)
 | .build t parts=>BD P t (parts.toList.map λx=>(x.1,ρ x.2))
 | .load t a=>sJ P t (ρ a) ow
 | .nilCheck x=>mv (ρ x) ow
 | .binOp op t x y _=>LA P op t ((x matches .const _)||(y matches .const _)) (ρ x) (ρ y) ow
 | .unOp op _ x=>P8 op (ρ x)
 | .convert s t x=>sK P s t (ρ x) ow
 | .makeFunc f a b=> .ret (.fn f (a.toList.map ρ) (b.toList.map ρ))
 | .makeInterface t x=>BJ P t (ρ x)
 | .typeAssert x _ t true=>vY P t (ρ x)
 | .slice t x lo hi none=>BC P t (ρ x) (lo.map ρ) (hi.map ρ) ow
 | .fieldAddr t x f=>kW P t (ρ x) f ow
 | .field t x f=>BE P t (ρ x) f
 | .indexAddr t x i=>nX P t (ρ x) (ρ i) ow
 | .index t x i=>if lq P t then BI (ρ x) (ρ i)else .fail
 | .extract t i=>(match ρ t with| .tup l=>(match l[i]? with|some s=> .ret s|none=> .fail)|_=> .fail)
 | .call c=>
  (match c.callee with
  | .builtin .len=>(match c.args.toList,c.argTypes.toList with|[x],t::_=>Lx P t (ρ x) ow|_,_=> .fail)
  | .builtin .min=>(match c.args.toList.map ρ with| .v (.int k) a::r=>(match Oh k r a with|some n=> .ret (.v (.int k) n)|none=> .fail)|_=> .fail)
  | .builtin .max=>(match c.args.toList.map ρ with| .v (.int k) a::r=>(match Oi k r a with|some n=> .ret (.v (.int k) n)|none=> .fail)|_=> .fail)
  |_=> .fail)
 |_=> .fail
def aL:Sh->Bool
 | .nil=>true
 | .cons (.pur _) b=>aL b
 |_=>false
def vZ (args:List SV) (ow:OW):List jW->bc SV
 |[]=> .fail
 |sg::r=>
  if aL sg.args&& aL sg.res&& sg.res.fresh&& sg.al.isEmpty then
   (match pk sg.args args ow with
   |some p=> .bnd (sg.res.z,sg.args.zo) (sg.den p.1) λy=> .ret (Q4 (bJ 0 sg.res y.1 0).1)
   |none=>vZ args ow r)
  else vZ args ow r
def Ae (C:gw) (o:Op) (ρ:Operand->SV) (ow:OW):bc SV:=
 match o with
 | .call {callee:= .value f,args,.. }=>(match ρ f with| .fn (.func id) a b=>vZ (a++args.toList.map ρ++b) ow (C.sigsOf id)|_=> .fail)
 |o=>pK C.P o ρ ow
def P9 (ow:OW) (p:SV):Option (Nat×Nat×Nat×Nat×Sh):=
 match p with
 | .rp d j _ [] e c=>(match cy ow d j with|some (.nrow s _ _)=>some (d,j,e,c,s)|_=>none)
 |_=>none
def Af:Sh->List Bool
 | .cons a b=>(match a with| .pur _=>true|_=>false)::Af b
 | .nil=>[]
 | .pur _=>[true]
 |_=>[false]
def Oj (P:Program) (t:TypeId):Nat:=if dS P t then cV P t else 1
def BM (P:Program) (t:TypeId) (p:SV) (d j e c:Nat) (s:Sh) (ow:OW) (dk:Nat):bc (SV×OW):=
 match fV s (pk s) ow d j with
 |none=> .fail
 |some ow1=>
  (match nR ow1 d j []with
  |none=> .fail
  |some r=>
   if((Af r.1).drop c|>.take (Oj P t)).all id then(sJ P t p ow1).bind λv=> .ret (v,ow1)
   else .bnd r.1.z r.2[e]? λx=>
    (match cg (bo ow1 d j (some (.nrow r.1 r.2 (some (e,List.replicate r.1.w .dead))))) dk (bJ dk r.1 x 0).2 with
    |some ow2=>(match dA P t ((bJ dk r.1 x 0).1.drop c)with
     |some v=> .ret (v,bo ow2 d j (some (.nrow r.1 r.2 (some (e,(bJ dk r.1 x 0).1)))))
     |none=> .fail)
    |none=> .fail))
def jO:(s:Sh)->s.T->Nat->List SV->OW->Option (s.T×OW)
 | .cons a b,y,0,v::r,ow=>
  (match pk a [v] ow with
  |some x=>(match jO b y.2 0 r x.2 with|some z=>some ((x.1,z.1),z.2)|none=>none)
  |none=>none)
 | .cons a b,y,0,[],ow=>some (y,ow)
 | .cons a b,y,c+1,new,ow=>(match jO b y.2 c new ow with|some z=>some ((y.1,z.1),z.2)|none=>none)
 | .nil,y,0,[],ow=>some (y,ow)
 | .own k,_,0,[v],ow=>pk (.own k) [v] ow
 | .rows s,_,0,[v],ow=>pk (.rows s) [v] ow
 |_,_,_,_,_=>none
def Ol (ow:OW) (d j:Nat) (a:List SV):Bool:=
 match cy ow d j with
 |some (.nrow _ _ (some p))=>a.any λv=>match jL v with|some k=>p.2.any (λc=>jL c==some k)|none=>false
 |_=>false
def BN (a:List SV) (s:Sh) (ow:OW) (d j:Nat):Option OW:=if Ol ow d j a then none else fV s (pk s) ow d j
def BO {a:List SV} {s:Sh} {ow ow1:OW} {d j:Nat} (h:BN a s ow d j=some ow1):fV s (pk s) ow d j=some ow1:=by
 unfold BN at h;split at h
 ·cases h
 ·exact h
def v6 (P:Program) (t:TypeId) (x:SV) (d j e c:Nat) (s:Sh) (ow:OW):bc OW:=
 match fx P t x with
 |none=> .fail
 |some new=>
  (match BN new s ow d j with
  |some ow1=>
   (match nR ow1 d j []with
   |none=> .fail
   |some r=> .bnd r.1.z r.2[e]? λy=>
    (match jO r.1 y c new ow1 with
    |some z=>
     (match nR z.2 d j []with
     |some r2=>if h:r2.1=r.1 then .ret (bo z.2 d j (some (.nrow r.1 ((Ac h r2.2).set e z.1) none)))else .fail
     |none=> .fail)
    |none=> .fail))
  |none=>
   (match cy ow d j with
   |some (.nrow s' l (some p))=>
    .chk (decide (e=p.1)) (match js p.2 c new with|some cells'=> .ret (bo ow d j (some (.nrow s' l (some (p.1,cells')))))|none=> .fail)
   |_=> .fail))
def kX (P:Program) (e:TypeId) (s:Sh):Bool:=s.elem&& decide (0<s.w)&& decide (s.w=cV P e)&& decide (0<df P e)&& (match(P.info? e).bind (·.zero)with|some z=>decide (z.cells.size=s.w)|none=>false)
def Q7 (P:Program) (e:TypeId) (s:Sh):List SV->OW->Option (List s.T×OW)
 |[],ow=>some ([],ow)
 |v::r,ow=>
  (match fx P e v with
  |some cs=>(match pk s cs ow with
   |some x=>(match Q7 P e s r x.2 with|some y=>some (x.1::y.1,y.2)|none=>none)
   |none=>none)
  |none=>none)
def v7 (P:Program) (t:TypeId) (n:Nat) (a:List (Nat×SV)) (s:Sh) (ow:OW) (d:Nat):bc (SV×OW):=
 match lL P t with
 |none=> .fail
 |some e=>
  if a.map (·.1)=List.range n/\n*cV P e<=16777216/\kX P e s then
   (match Q7 P e s (a.map (·.2)) ow with
   |some y=>(match cg y.2 d [.nrow s y.1 none]with|some ow'=> .ret (.wh d 0 0 [],ow')|none=> .fail)
   |none=> .fail)
  else .fail
def BP:List Value->Bool
 |[.slice none 0 0]=>true
 |_=>false
def lN:Sh->List Value->Bool
 | .pur kd,[v]=>dD kd [v]
 | .own k,vs=>BP vs&& k.good
 | .rows s,vs=>BP vs&& s.elem
 | .nil,[]=>true
 | .cons a b,v::r=>lN a [v]&& lN b r
 |_,_=>false
def BQ (P:Program) (e:TypeId) (s:Sh):Bool:=match(P.info? e).bind (·.zero)with|some z=>lN s z.cells.toList|none=>false
def BR (P:Program) (t:TypeId) (n c:SV) (s:Sh) (ow:OW) (d:Nat):bc (SV×OW):=
 match lL P t,n,c with
 |some e,.v (.int .i64) n,.v (.int .i64) c=>
  if kX P e s&& BQ P e s then
   .chk (decide (0<=n/\n<=c/\c*df P e<=af)) (match cg ow d [.nrow s (List.replicate n.toNat s.z) none]with|some ow'=> .ret (.wh d 0 0 [],ow')|none=> .fail)
  else .fail
 |_,_,_=> .fail
def sM (P:Program) (t:TypeId) (s x:SV) (a:Sh) (ow:OW) (d:Nat):bc (SV×OW):=
 match lL P t with
 |none=> .fail
 |some e=>
  (match pk (.rows a) [s] ow with
  |some y1=>(match pk (.rows a) [x] y1.2 with
   |some y2=>
    if kX P e a then .chk (decide ((y1.1.length+y2.1.length)*df P e<=af)) (match cg y2.2 d [.nrow a (y1.1++y2.1) none]with|some ow'=> .ret (.wh d 0 0 [],ow')|none=> .fail)
    else .fail
   |none=> .fail)
  |none=> .fail)
def Om (s x:SV):Bool:=
 match s,x with
 | .os d j _ _ _ _,.os d' j' _ _ _ _=>d==d'&& j==j'
 |_,_=>false
def Fw (P:Program) (t:TypeId) (s x:SV) (a:Sh) (ow:OW) (d:Nat):bc (SV×OW):=
 match s,x,lL P t with
 | .os d1 j1 _ [] o1 n1,.os d2 j2 _ [] o2 n2,some e=>
  if d1=d2/\j1=j2 then
   (match fV a (pk a) ow d1 j1 with
   |some ow1=>
    (match nR ow1 d1 j1 []with
    |some r=>
     if h:r.1=a then
      if kX P e a then .chk (decide (o1+n1<=o2)) (.chk (decide ((n1+n2)*df P e<=af)) (match cg (bo ow1 d1 j1 none) d [.nrow a (aO (Ac h r.2) o1 n1++aO (Ac h r.2) o2 n2) none]with|some ow'=> .ret (.wh d 0 0 [],ow')|none=> .fail))
      else .fail
     else .fail
    |none=> .fail)
   |none=> .fail)
  else .fail
 |_,_,_=> .fail
def LC (ow:OW) (x:SV):Option Sh:=
 match jL x with
 |some (d,j)=>(match cy ow d j with|some (.nrow s _ _)=>some s|_=>none)
 |none=>none
def On (ow:OW) (s x:SV):Option Sh:=match LC ow s with|some sh=>some sh|none=>LC ow x
def nr (C:gw) (o:Op) (ρ:Operand->SV) (ow:OW) (d:Nat):bc (SV×OW):=
 match o with
 | .alloc t=>(match lM C.P t with|some cells=>(match cg ow d [.box cells]with|some ow'=> .ret (.bp d 0 0,ow')|none=> .fail)|none=> .fail)
 | .box t x=>(match fx C.P t (ρ x)with|some cells=>(match cg ow d [.box cells]with|some ow'=> .ret (.bp d 0 0,ow')|none=> .fail)|none=> .fail)
 | .buildSlice t n parts=>mu C.P t n (parts.toList.map λx=>(x.1,ρ x.2)) ow d
 | .store t a x=>(BA C.P t (ρ a) (ρ x) ow).bind λow'=> .ret (.tup [],ow')
 | .makeSlice t n c=>nY C.P t (ρ n) (ρ c) ow d
 | .call {callee:= .builtin .append,args,argTypes}=>(match args.toList,argTypes.toList with|[s,x],[t,tx]=>if fW C.P tx then vV C.P t (ρ s) (ρ x) ow d else .fail|_,_=> .fail)
 | .call {callee:= .value f,args,.. }=>(match ρ f with| .fn (.func id) a b=>vv (a++args.toList.map ρ++b) (kg (a++args.toList.map ρ++b) ow) d (C.sigsOf id)|_=> .fail)
 |o=>(pK C.P o ρ ow).bind λs=> .ret (s,ow)
def yW (C:gw) (o:Op) (ρ:Operand->SV) (ow:OW) (d:Nat):bc (SV×OW):=
 match o with
 | .load t a=>(match P9 ow (ρ a)with|some q=>BM C.P t (ρ a) q.1 q.2.1 q.2.2.1 q.2.2.2.1 q.2.2.2.2 ow d|none=>nr C (.load t a) ρ ow d)
 | .store t a x=>(match P9 ow (ρ a)with|some q=>(v6 C.P t (ρ x) q.1 q.2.1 q.2.2.1 q.2.2.2.1 q.2.2.2.2 ow).bind λow'=> .ret (.tup [],ow')|none=>nr C (.store t a x) ρ ow d)
 | .buildSlice t n parts=>(match C.deepOf d with|some s=>v7 C.P t n (parts.toList.map λx=>(x.1,ρ x.2)) s ow d|none=>nr C (.buildSlice t n parts) ρ ow d)
 | .makeSlice t n c=>(match C.deepOf d with|some s=>BR C.P t (ρ n) (ρ c) s ow d|none=>nr C (.makeSlice t n c) ρ ow d)
 | .call c=>
  (match c.callee,c.args.toList,c.argTypes.toList with
  | .builtin .append,[s,x],[t,tx]=>(match On ow (ρ s) (ρ x)with|some sh=>if fW C.P tx then(if Om (ρ s) (ρ x)then Fw C.P t (ρ s) (ρ x) sh ow d else sM C.P t (ρ s) (ρ x) sh ow d)else .fail|none=>nr C (.call c) ρ ow d)
  |_,_,_=>nr C (.call c) ρ ow d)
 |o=>nr C o ρ ow d
def iL (a:List SV):Operand->SV
 | .tmp t=>(match a[t]? with|some s=>s|none=> .dead)
 | .const v=>nP 4 v
 | .global _=> .dead
 | .func f=> .fn (.func f) [] []
def bm (a:List SV) (d:Option Tmp) (s:SV):List SV:=match d with|some d=>a.set d s|none=>a
def d9 (a:Array Oper) (i:Nat):Bool:=a.toList.any λo=>match o.guard with|some (j,_)=>j==i|none=>false
def split {α:Type} (n:Nat) (src:Bool) (s:SV) (k:SV->Option α):Option α:=if src then(match s with| .v .bool b=>br n b (k (.lb true)) (k (.lb false))|s=>k s)else k s
def dC (a:Array Oper) (o:Oper) (c:List SV):Option Bool:=
 match o.guard with
 |none=>some true
 |some (j,want)=>
  (match(a[j]?).bind (·.dst)with
  |none=>some false
  |some g=>(match c[g]? with|some (.lb b)=>some (b==want)|some (.tup [])=>some false|_=>none))
def km (a:Array Oper) (o:Oper):List Tmp:=(o.op.operands.toList.filterMap λ| .tmp t=>some t|_=>none)++(match o.guard with|some (g,_)=>((a[g]?).bind (·.dst)).toList|none=>[])
def Fx (a:Array Oper) (x y:Oper):Bool:=
 (match x.dst with|some d=> !(km a y).contains d&& y.dst !=some d|none=>true)&&
 (match y.dst with|some d=> !(km a x).contains d|none=>true)
def ie (a:Array Oper) (i j:Nat):Bool:=match a[i]?,a[j]? with|some x,some y=>Fx a x y|_,_=>false
def nZ (a:List Nat) (o:Oper):Nat:=o.after.toList.foldl (λm e=>if Region.binds .any e then m|||(1<<<e.on)|||a.getD e.on 0 else m) 0
def gl (a:List Oper) (b:List Nat):List Nat:=match a with|[]=>b|o::r=>gl r (b++[nZ b o])
def Oo:Nat->List Oper->Bool
 |_,[]=>true
 |j,o::r=>o.after.toList.all (λe=> !Region.binds .any e||decide (e.on<j))&& Oo (j+1) r
def lO (a:Array Oper) (b:Nat->Nat->Bool):Bool:=
 let ms:=gl a.toList []
 Oo 0 a.toList&& (List.range a.size).all λj=>(List.range j).all λi=>(ms.getD j 0).testBit i||b i j
def sN (src:Bool) (s:SV):bc SV:=if src then(match s with| .v .bool b=> .ite b (.ret (.lb true)) (.ret (.lb false))|s=> .ret s)else .ret s
def bc.noAmb {β:Type}:bc β->bc β
 | .ret b=> .ret b
 | .fail=> .fail
 | .chk c t=> .chk c t.noAmb
 | .bnd z m f=> .bnd z m λy=>(f y).noAmb
 | .amb _ _ _=> .fail
 | .ite c f g=> .ite c f.noAmb g.noAmb
def BS:List (Option OB):=List.replicate 16 none
def aN (K:List Nat):Nat->OW->OW
 |_,[]=>[]
 |i,l::r=>(if K.contains i then l else BS)::aN K (i+1) r
def b8 (K:List Nat):Nat->OW->OW->OW
 |_,[],_=>[]
 |i,a::r,s=>(if K.contains i then s.headD a else a)::b8 K (i+1) r s.tail
def cY (ow:OW):Bool:=ow.all λl=>decide (l.length<=16)
def jP (K:List Nat):Nat->SV->Bool
 |0,_=>false
 |_+1,.wh d _ _ _=>K.contains d
 |_+1,.os d _ _ _ _ _=>K.contains d
 |_+1,.rp d _ _ _ _ _=>K.contains d
 |_+1,.bp d _ _=>K.contains d
 |f+1,.agg l=>l.all (jP K f)
 |f+1,.tup l=>l.all (jP K f)
 |f+1,.fn _ a b=>a.all (jP K f)&& b.all (jP K f)
 |_+1,_=>true
def HM:OB->List SV
 | .box cells=>cells
 | .nrow _ _ (some p)=>p.2
 |_=>[]
def Qa (K:List Nat):Option OB->Bool
 |some o=>(HM o).all (jP K 8)
 |none=>true
def ri (K:List Nat):Nat->OW->Bool
 |_,[]=>true
 |i,l::r=>(if K.contains i then l.all (Qa K)else l.all (·.isNone)&& l.length==16)&& ri K (i+1) r
def Dh (K:List Nat) (ow:OW):Bool:=ri K 0 ow&& cY ow
def Ag (o:Op) (ρ:Operand->SV):Option SV:=
 match o with
 | .move x| .assign x=>some (ρ x)
 | .extract t i=>(match ρ t with| .tup l=>l[i]?|_=>none)
 |_=>none
def RQ:SV->SV
 | .wh d j ver path=> .wh d j ver path
 | .bp d j c=> .bp d j c
 |_=> .dead
def Q8:Option OB->Option OB
 |some (.box cells)=>some (.box (cells.map RQ))
 |_=>none
def n5:List (Option OB)->List (Option OB)
 |[]=>[]
 |o::r=>(match o,n5 r with|none,[]=>[]|o,r'=>o::r')
def yX (ow:OW):OW:=ow.map λl=>n5 (l.map Q8)
def LD:Option OB->Option OB
 |some (.box _)=>some (.box [])
 |_=>none
def n7 (ow:OW):OW:=ow.map λl=>n5 (l.map LD)
def RJ:SV->SV->Bool
 | .wh d j ver path,.wh d' j' ver' path'=>d==d'&& j==j'&& ver==ver'&& path==path'
 | .bp d j c,.bp d' j' c'=>d==d'&& j==j'&& c==c'
 | .dead,.dead=>true
 |_,_=>false
def RK:List SV->List SV->Bool
 |[],[]=>true
 |a::r,b::s=>RJ a b&& RK r s
 |_,_=>false
def Sl:Option OB->Option OB->Bool
 |some (.box a),some (.box b)=>RK a b
 |none,none=>true
 |_,_=>false
def Oq:List (Option OB)->List (Option OB)->Bool
 |[],[]=>true
 |a::r,b::s=>Sl a b&& Oq r s
 |_,_=>false
def v8 (e:Option OB->Option OB) (K:List Nat) (d:Nat) (ow ow':OW):Bool:=K.all λn=>n==d||(match ow[n]?,ow'[n]? with|some a,some b=>Oq (n5 (a.map e)) (n5 (b.map e))|none,none=>true|_,_=>false)
def BT (K:List Nat) (d:Nat) (ow ow':OW):Bool:=v8 Q8 K d ow ow'
def vw (K:List Nat) (d:Nat) (ow ow':OW):Bool:=v8 LD K d ow ow'
def qm (q:List Nat×Bool):Bool:=q.1.contains 1000000
def wa (q:List Nat×Bool):Bool:=q.1.contains 1000001
def vz (q:List Nat×Bool):Bool:=q.1.contains 1000002
def rj (q:List Nat×Bool):Bool:=q.1.contains 1000003
def LF:SV->Bool
 | .wh _ _ _ _=>true
 | .bp _ _ _=>true
 |_=>false
def fM (P:Program) (o:Op) (ρ:Operand->SV) (ow:OW):Option SV:=
 match o with
 | .load t a=>(match ρ a with| .bp d j c=>(match cy ow d j with|some (.box cells)=>dA P t (cells.drop c)|_=>none)|_=>none)
 | .fieldAddr t a f=>(match ρ a,ql P t f with| .bp d j c,some fd=>if cV P fd.type=0 then none else if iK ow d j then some (.bp d j (c+fd.offset))else none|_,_=>none)
 | .nilCheck a=>(match ρ a with| .bp d j c=>if iK ow d j then some (.bp d j c)else none|_=>none)
 |_=>none
def mw (args:List SV) (ow:OW) (d:Nat):List jW->bc (SV×OW)
 |[]=> .fail
 |sg::r=>
  if aL sg.args&& sg.res.fresh&& sg.al.isEmpty then
   (match pk sg.args args ow with
   |some p=> .bnd (sg.res.z,sg.args.zo) (sg.den p.1) λy=>(match cg ow d (bJ d sg.res y.1 0).2 with|some ow'=> .ret (Q4 (bJ d sg.res y.1 0).1,ow')|none=> .fail)
   |none=>mw args ow d r)
  else mw args ow d r
def LG:Op->Bool
 | .call {callee:= .value _,.. }=>true
 |_=>false
def Ah (C:gw) (o:Op) (ρ:Operand->SV):Bool:=
 match o with
 | .call {callee:= .value f,.. }=>(match ρ f with| .fn (.func id) _ _=>(C.sigsOf id).any λa=> !aL a.res|_=>false)
 |_=>false
def tS (C:gw) (o:Op) (ρ:Operand->SV) (ow:OW) (d:Nat):bc (SV×OW):=
 match o with
 | .call {callee:= .value f,args,.. }=>(match ρ f with| .fn (.func id) a b=>mw (a++args.toList.map ρ++b) ow d (C.sigsOf id)|_=> .fail)
 |_=> .fail
def qn (C:gw) (E:bc (SV×OW)) (o:Op) (q:List Nat×Bool) (ρ:Operand->SV) (a:OW) (d:Nat):bc (SV×Option (List Nat×OW)):=
 if q.2 then E.bind λx=>if Dh q.1 x.2&& jP q.1 8 x.1&& (!wa q||BT q.1 d a x.2)&& (!rj q||vw q.1 d a x.2)then .ret (x.1,some (q.1,x.2))else .fail
 else if qm q then(match fM C.P o ρ (yX a)with|some s=>if LF s then .ret (s,none)else .fail|none=> .fail)
 else if vz q then(match fM C.P o ρ (n7 a)with|some s=> .ret (s,none)|none=> .fail)
 else match Ag o ρ with
  |some x=> .ret (x,none)
  |none=>(match fM C.P o ρ a with
   |some s=> .ret (s,none)
   |none=>
    if Ah C o ρ then(tS C o ρ a d).bind λx=>if Dh q.1 x.2&& jP q.1 8 x.1&& q.1.contains d then .ret (x.1,some ([d],x.2))else .fail
    else(Ae C o ρ a).bind λs=>if Dh q.1 a&& jP q.1 8 s then .ret (s,none)else .fail)
def my (ow:OW):Option (List Nat×OW)->OW
 |some s=>b8 s.1 0 ow s.2
 |none=>ow
def Q5 (d:Nat) (o:Op) (q:List Nat×Bool):List Nat:=if q.2 then q.1 else if LG o then [d]else []
def LH (a b:List Nat):Bool:=a.all λd=> !b.contains d
def BU (d:Nat) (o:Op) (x y:List Nat×Bool):Bool:=LH (Q5 d o x) y.1||(x.2&& wa x&& qm y&& !y.2&& !y.1.contains d)||(x.2&& rj x&& !qm y&& vz y&& !y.2&& !y.1.contains d)
def qo (dk:Oper->Nat) (c:Array Oper) (ks:List (List Nat×Bool)) (i j:Nat):Bool:=ie c i j&& (match ks[i]?,ks[j]?,c[i]?,c[j]? with
 |some x,some y,some a,some b=>BU (dk a) a.op x y&& BU (dk b) b.op y x&& LH (Q5 (dk a) a.op x) (Q5 (dk b) b.op y)
 |_,_,_,_=>false)
def rm (o:Oper):Nat:=o.dst.getD 0
def sO (C:gw) (b:Option Nat->Nat) (a:Array Oper):List (Oper×Nat)->St->bc St
 |[],st=> .ret st
 |(o,i)::r,st=>
  match dC a o st.sl with
  |none=> .fail
  |some false=>sO C b a r ⟨bm st.sl o.dst (.tup []),st.ow⟩
  |some true=>(yW C o.op (iL st.sl) st.ow (b o.dst)).bind λx=>(sN (d9 a i) x.1).bind λs=>sO C b a r ⟨bm st.sl o.dst s,x.2⟩
def Ai (C:gw) (a:Array Oper) (ow:OW):List (Oper×Nat)->List SV->bc (List SV)
 |[],sl=> .ret sl
 |(o,i)::r,sl=>
  match dC a o sl with
  |none=> .fail
  |some false=>Ai C a ow r (bm sl o.dst (.tup []))
  |some true=>(Ae C o.op (iL sl) ow).noAmb.bind λx=>(sN (d9 a i) x).bind λs=>Ai C a ow r (bm sl o.dst s)
def pe (C:gw) (a:Option Nat->Nat) (b:Array Oper) (ks:List (List Nat×Bool)):List (Oper×Nat)->St->bc St
 |[],st=> .ret st
 |(o,i)::r,st=>
  match dC b o st.sl with
  |none=> .fail
  |some false=>pe C a b ks r ⟨bm st.sl o.dst (.tup []),st.ow⟩
  |some true=>
   (match ks[i]? with
   |some q=>if cY st.ow then(qn C (yW C o.op (iL st.sl) (aN q.1 0 st.ow) (a o.dst)) o.op q (iL st.sl) (aN q.1 0 st.ow) (a o.dst)).noAmb.bind λx=>(sN (d9 b i) x.1).bind λs=>pe C a b ks r ⟨bm st.sl o.dst s,my st.ow x.2⟩else .fail
   |none=> .fail)
def Qb (A:HJ) (d:Nat) (a:Option Nat):Nat:=match A.keys.find? (λz=>a==some z.1)with|some z=>z.2|none=>d
inductive RR where
 |normal
 |exit (i:Nat)
 |ret
def d7 (C:gw) (A:HJ) (d:Option Nat->Nat):Code->Nat->St->bc (RR×St)
 | .skip,_,st=> .ret (.normal,st)
 | .region id ops draw,_,st=>
  if draw then(match A.draws.find? (λx=>x.1==id)with|some (_,ks)=>if lO ops (qo (λo=>d o.dst) ops ks)then(pe C d ops ks ops.toList.zipIdx st).bind λst=> .ret (.normal,st)else .fail|none=>if lO ops (ie ops)then(Ai C ops st.ow ops.toList.zipIdx st.sl).bind λe=> .ret (.normal,⟨e,st.ow⟩)else .fail)
  else(sO C d ops ops.toList.zipIdx st).bind λst=> .ret (.normal,st)
 | .seq a b,bid,st=>(d7 C A d a bid st).bind λx=>match x.1 with| .normal=>d7 C A d b bid x.2|w=> .ret (w,x.2)
 | .cond c a b,bid,st=>
  (match iL st.sl c with
  | .lb t=>if t then d7 C A d a bid st else d7 C A d b bid st
  | .v .bool t=> .ite t (d7 C A d a bid st) (d7 C A d b bid st)
  |_=> .fail)
 | .block id c,_,st=>(d7 C A d c id st).bind λx=>match x.1 with| .exit i=>if i==id then .ret (.normal,x.2)else .ret (.exit i,x.2)|w=> .ret (w,x.2)
 | .exit id,_,st=> .ret (.exit id,st)
 | .ret,_,st=> .ret (.ret,st)
 |_,_,_=> .fail
def Aj (P:Program) (st:St):List ResultVar->bc (List SV)
 |[]=> .ret []
 | .tmp t::r=>(Aj P st r).bind λl=> .ret (iL st.sl (.tmp t)::l)
 | .cell a t::r=>(sJ P t (iL st.sl (.tmp a)) st.ow).bind λs=>(Aj P st r).bind λl=> .ret (s::l)
def LI (C:gw) (fn:Func) (args:List SV) (ow:OW) (A:HJ) (d:Nat):bc (SV×OW):=
 match fn.body with
 |none=> .fail
 |some c=>
  if args.length<=fn.ntmps then
   (d7 C A (Qb A d) c 0 ⟨args++List.replicate (fn.ntmps-args.length) .dead,ow⟩).bind λx=>match x.1 with
   | .exit _=> .fail
   |_=>(Aj C.P x.2 fn.results.toList).bind λl=> .ret (Q4 l,x.2.ow)
  else .fail
def LJ (C:gw) (f:SV):Option (FuncId×Func×List SV×List SV):=
 match f with
 | .fn (.func id) a b=>if C.inl.any (λx=>x.1==id)then(match C.P.funcs[id]? with|some fn=>if !(fn.name== "runtime.NumGoroutine")&& !fn.body.isNone then some (id,fn,a,b)else none|none=>none)else none
 |_=>none
def RS (C:gw) (f:FuncId) (d:Nat):HJ:=match C.inl.find? (λx=>x.1==f)with|some x=>(match x.2.find? (λy=>y.1==d)with|some y=>y.2|none=> {})|none=> {}
def tT (C:gw) (o:Op) (ρ:Operand->SV) (ow:OW) (d:Nat):bc (SV×OW):=
 match o with
 | .call {callee:= .value f,args,.. }=>(match LJ C (ρ f)with|some q=>LI C q.2.1 (q.2.2.1++args.toList.map ρ++q.2.2.2) ow (RS C q.1 d) d|none=>yW C o ρ ow d)
 |o=>yW C o ρ ow d
def Ak {α:Type} (C:gw) (a:Array Oper):List (Oper×Nat)->St->(St->Option α)->Option α
 |[],st,k=>k st
 |(o,i)::r,st,k=>
  match dC a o st.sl with
  |none=>none
  |some false=>Ak C a r ⟨bm st.sl o.dst (.tup []),st.ow⟩ k
  |some true=>(tT C o.op (iL st.sl) st.ow (o.dst.getD 0)).run C.fuel λx=>split C.fuel (d9 a i) x.1 λs=>Ak C a r ⟨bm st.sl o.dst s,x.2⟩ k
def IH {α:Type} (C:gw) (a:Array Oper) (ow:OW):List (Oper×Nat)->List SV->(List SV->Option α)->Option α
 |[],sl,k=>k sl
 |(o,i)::r,sl,k=>
  match dC a o sl with
  |none=>none
  |some false=>IH C a ow r (bm sl o.dst (.tup [])) k
  |some true=>(Ae C o.op (iL sl) ow).run C.fuel λx=>split C.fuel (d9 a i) x λs=>IH C a ow r (bm sl o.dst s) k
def bc.runA {α β:Type} (n:Nat):bc β->(β->Option α)->Option α
 | .ret b,k=>k b
 | .fail,_=>none
 | .chk c t,k=>br n c (t.runA n k) none
 | .bnd _ m f,k=>bd n m λy=>(f y).runA n k
 | .amb _ _ _,_=>none
 | .ite c f g,k=>br n c (f.runA n k) (g.runA n k)
def wb {α:Type} (C:gw) (a:Array Oper) (ow:OW):List (Oper×Nat)->List SV->(List SV->Option α)->Option α
 |[],sl,k=>k sl
 |(o,i)::r,sl,k=>
  match dC a o sl with
  |none=>none
  |some false=>wb C a ow r (bm sl o.dst (.tup [])) k
  |some true=>(Ae C o.op (iL sl) ow).runA C.fuel λx=>split C.fuel (d9 a i) x λs=>wb C a ow r (bm sl o.dst s) k
def sP {α:Type} (C:gw) (a:Array Oper) (ks:List (List Nat×Bool)):List (Oper×Nat)->St->(St->Option α)->Option α
 |[],st,k=>k st
 |(o,i)::r,st,k=>
  match dC a o st.sl with
  |none=>none
  |some false=>sP C a ks r ⟨bm st.sl o.dst (.tup []),st.ow⟩ k
  |some true=>
   (match ks[i]? with
   |some q=>if cY st.ow then(qn C (tT C o.op (iL st.sl) (aN q.1 0 st.ow) (rm o)) o.op q (iL st.sl) (aN q.1 0 st.ow) (rm o)).run C.fuel λx=>split C.fuel (d9 a i) x.1 λs=>sP C a ks r ⟨bm st.sl o.dst s,my st.ow x.2⟩ k else none
   |none=>none)
def Di:List (Nat×Kd)->Type
 |[]=>Unit
 |(_,k)::r=>k.T×Di r
def n9:(l:List (Nat×Kd))->Di l->List SV->List SV
 |[],_,sl=>sl
 |(d,k)::r,x,sl=>(n9 r x.2 sl).set d (.v k x.1)
def wc (k:Kd) (s:SV):Option k.T:=
 match s with
 | .v k' x=>if h:k'=k then some (Lt h x)else none
 | .lb b=>(match k with| .bool=>some b|_=>none)
 | .nils=>(match k with| .sl false _=>some []|_=>none)
 |_=>none
def kn:(l:List (Nat×Kd))->List SV->Option (Di l)
 |[],_=>some ()
 |(d,k)::r,sl=>
  (match wc k (iL sl (.tmp d))with
  |some x=>(match kn r sl with|some y=>some (x,y)|none=>none)
  |none=>none)
structure Ks (α:Type)where
 normal:St->Option α
 exit:Nat->St->Option α
 ret:St->Option α
def gP:List (Nat×Sh)->Sh
 |[]=> .nil
 |(_,s)::r=> .cons s (gP r)
def ro (nt:Nat):(l:List (Nat×Sh))->(gP l).T->St
 |[],_=>⟨List.replicate nt .dead,List.replicate nt []⟩
 |(s,sh)::r,x=>
  let st:=ro nt r x.2
  let u:=bJ s sh x.1 0
  ⟨st.sl.set s (u.1.headD .dead),st.ow.set s (u.2.map some)⟩
def qp (nt:Nat):List (Nat×Sh)->Bool
 |[]=>true
 |(s,_)::r=>decide (s<nt)&& !(r.map (·.1)).contains s&& qp nt r
def aP {A R:Type} (b:(A->Option R)->A->Option R):Nat->A->Option R
 |0,_=>none
 |n+1,x=>b (aP b n) x
def LK {α:Type} (nt:Nat) (a:List (Nat×Sh)) (al:List (Nat×Nat×Nat×List Nat)) (F:St->(St->Option α)->Option α) (n:Nat) (x:(gP a).T):Option α:=aP (λG x=>F (Lw al (ro nt a x)) λst=>if Of al st.sl st.ow then(match pk (gP a) (a.map λp=>iL st.sl (.tmp p.1)) st.ow with|some y=>G y.1|none=>none)else none) n x
def HN {α:Type} (C:gw) (d:Fo) (e:Nat) (a:Array Oper) (c:Bool) (st:St) (k:St->Option α):Option α:=
 (match d.joins.find? (λx=>x.1==e)with
 |some (_,kept)=>
  if c then(if lO a (ie a)then
   (wb C a st.ow a.toList.zipIdx st.sl λb=>kn kept b).bind λp=>
   k ⟨n9 kept p (a.toList.foldl (λb o=>bm b o.dst .dead) st.sl),st.ow⟩
  else none)else
   (IH C a st.ow a.toList.zipIdx st.sl λb=>kn kept b).bind λp=>
   k ⟨n9 kept p (a.toList.foldl (λb o=>bm b o.dst .dead) st.sl),st.ow⟩
 |none=>
  if c then
   (match d.keys.find? (λx=>x.1==e)with
   |some (_,ks)=>if lO a (qo rm a ks)then sP C a ks a.toList.zipIdx st k else none
   |none=>if lO a (ie a)then wb C a st.ow a.toList.zipIdx st.sl λb=>k ⟨b,st.ow⟩else none)
  else Ak C a a.toList.zipIdx st k)
def ef {α:Type} (C:gw) (d:Fo) (nt:Nat):Code->Nat->St->Ks α->Option α
 | .skip,_,st,K=>K.normal st
 | .region id ops draw,_,st,K=>
  (match d.heads.find? (λx=>x.1==id)with
  |some (_,live)=>if qp nt live then(match pk (gP live) (live.map λp=>iL st.sl (.tmp p.1)) st.ow with
   |some y=>jn C.fuel (λx=>HN C d id ops draw (ro nt live x) K.normal) y.1
   |none=>none)else none
  |none=>HN C d id ops draw st K.normal)
 | .seq a b,bid,st,K=>ef C d nt a bid st {K with normal:=λe=>ef C d nt b bid e K}
 | .cond c a b,bid,st,K=>
  (match iL st.sl c with
  | .lb t=>if t then ef C d nt a bid st K else ef C d nt b bid st K
  | .v .bool t=>br C.fuel t (ef C d nt a bid st K) (ef C d nt b bid st K)
  |_=>none)
 | .block id c,_,st,K=>ef C d nt c id st {K with exit:=λi e=>if i==id then K.normal e else K.exit i e}
 | .loop c,bid,st,K=>
  (match d.loops.find? (λx=>x.1==bid)with
  |none=>none
  |some (_,live)=>if qp nt live then(match pk (gP live) (live.map λp=>iL st.sl (.tmp p.1)) st.ow with
   |some y=>LK nt live ((d.al++d.lal).filter λq=>Lu st.sl st.ow q&& ((live.map (·.1)).contains q.1&& (live.map (·.1)).contains q.2.1)) (λe k=>ef C d nt c bid e {K with normal:=k}) C.fuel y.1
   |none=>none)else none)
 | .exit id,_,st,K=>K.exit id st
 | .ret,_,st,K=>K.ret st
 |_,_,_,_=>none
def nu (nt:Nat):(s:Sh)->s.T->Nat->St
 | .cons a b,x,i=>
  let st:=nu nt b x.2 (i+1)
  let u:=bJ i a x.1 0
  ⟨st.sl.set i (u.1.headD .dead),st.ow.set i (u.2.map some)⟩
 |_,_,_=>⟨List.replicate nt .dead,List.replicate nt []⟩
def kY:Sh->Nat->Bool
 | .cons a _,0=>a.noOuts
 | .cons _ b,i+1=>kY b i
 |_,_=>true
def lP (fr:Nat->Bool):Code->Bool
 | .region _ ops _=>ops.toList.all λo=>match o.dst with|some d=>fr d|none=>true
 | .seq a b=>lP fr a&& lP fr b
 | .cond _ a b=>lP fr a&& lP fr b
 | .block _ c=>lP fr c
 | .loop c=>lP fr c
 |_=>true
def Sh.chain:Sh->Bool
 | .nil=>true
 | .cons _ b=>b.chain
 |_=>false
def LL (C:gw) (fn:Func) (args a:Sh) (st:St):Option (a.T×args.Out):=(Aj C.P st fn.results.toList).run C.fuel λl=>
 (match pk a l (kg l st.ow)with
 |some x=>(match gk args (st.sl.take args.len) x.2 with|some y=>some (x.1,y.1)|none=>none)
 |none=>none)
def ko (C:gw) (b:Fo) (fn:Func) (args a:Sh) (x:args.T):Option (a.T×args.Out):=
 match fn.body with
 |none=>none
 |some c=>
  if args.chain&& decide (args.len<=fn.ntmps)&& lP (kY args) c then
  ef C b fn.ntmps c 0 (Lw b.al (nu fn.ntmps args x 0)) {normal:=LL C fn args a,exit:=λ_ _=>none,ret:=LL C fn args a}
  else none
variable {α:Type} {n:Nat}
def am (h:Array Obj) (b:Nat):Option (Array Value):=
 match h[b]? with
 |some (.cells c _ _)=>some c
 |_=>none
def bY (r:Array Value) (o n:Nat):List Value:=(r.toList.drop o).take n
def bu {α:Type} (R:α->List Value->Prop) (n:Nat) (l:List α) (r:Array Value) (o:Nat):Prop:=o+l.length*n<=r.size/\∀i (hi:i<l.length),R l[i] (bY r (o+i*n) n)
def Qc:Int⊕List UInt8->Value
 | .inl n=> .int .i64 n
 | .inr s=> .string ⟨s.toArray⟩
inductive rq {α:Type} (h:Array Obj) (ok:Nat->Prop) (n:Nat) (R:α->List Value->Prop):ct α->Value->Prop
 |leaf {lab:α} {b o c:Nat} {r:Array Value} {p:Option Addr}:ok b->am h b=some r->o+n+1<=r.size->R lab (bY r o n)->r[o+n]?=some (.slice p 0 c)->rq h ok n R (.node lab []) (.pointer (some ⟨b,o,none⟩))
 |node {lab:α} {kids:List (ct α)} {b o c b' o':Nat} {r r':Array Value}:ok b->am h b=some r->o+n+1<=r.size->R lab (bY r o n)->r[o+n]?=some (.slice (some ⟨b',o',none⟩) kids.length c)->kids.length<=c->ok b'->am h b'=some r'->o'+kids.length<=r'.size->(∀i (hi:i<kids.length) (hr:o'+i<r'.size),rq h ok n R kids[i] r'[o'+i])->rq h ok n R (.node lab kids) (.pointer (some ⟨b,o,none⟩))
def rq.mono {h f:Array Obj} {ok ok':Nat->Prop} {R g:α->List Value->Prop} (a:∀b r,ok b->am h b=some r->ok' b/\am f b=some r) (i:∀x cs,R x cs->g x cs) {x:ct α} {v:Value} (e:rq h ok n R x v):rq f ok' n g x v:=by
 induction e with
 |leaf hb hr hs hl hk=>obtain⟨c,d⟩:=a _ _ hb hr;exact .leaf c d hs (i _ _ hl) hk
 |node hb hr hs hl hk hc hb' hr' hs' _ ih=>obtain⟨c,d⟩:=a _ _ hb hr;obtain⟨j,k⟩:=a _ _ hb' hr';exact .node c d hs (i _ _ hl) hk hc j k hs' ih
def rq.ptr {h:Array Obj} {ok:Nat->Prop} {R:α->List Value->Prop} {x:ct α} {v:Value} (e:rq h ok n R x v):∃b o,v= .pointer (some ⟨b,o,none⟩):=by
 cases e<;>exact⟨_,_,rfl⟩
def cG (h:Array Obj) (ok:Nat->Prop):(k:Kd)->k.T->List Value->Prop
 | .int kk,n,cs=>cs=[.int kk n]
 | .bool,b,cs=>cs=[.bool b]
 | .str,s,cs=>cs=[.string ⟨s.toArray⟩]
 | .err,b,cs=>(b=false/\cs=[.nilIface])\/(b=true/\∃t v,cs=[.iface t v])
 | .any,y,cs=>cs=[.iface y.1 (Qc y.2)]
 | .sl true _,_,_=>False
 | .sl false e,l,cs=>∃a c,cs=[.slice a l.length c]/\l.length<=c/\(l=[]\/∃b o r,a=some ⟨b,o,none⟩/\ok b/\am h b=some r/\bu (λx cs=>cG h ok e x cs) e.n l r o)
 | .nil,_,cs=>cs=[]
 | .cons a b,x,cs=>∃c1 c2,cs=c1++c2/\cG h ok a x.1 c1/\cG h ok b x.2 c2
 | .tree a,x,cs=>∃v,cs=[v]/\rq h ok a.n (λy cs=>cG h ok a y cs) x v
def cG.length {h:Array Obj} {ok:Nat->Prop}:(k:Kd)-> {x:k.T}-> {cs:List Value}->cG h ok k x cs->cs.length=k.n
 | .int _,_,_,e=>by cases e;rfl
 | .bool,_,_,e=>by cases e;rfl
 | .str,_,_,e=>by cases e;rfl
 | .err,_,_,e=>by rcases e with⟨_,rfl⟩|⟨_,_,_,rfl⟩<;>rfl
 | .any,_,_,e=>by cases e;rfl
 | .sl true _,_,_,e=>e.elim
 | .sl false _,_,_,e=>by obtain⟨_,_,rfl,_⟩:=e;rfl
 | .nil,_,_,e=>by cases e;rfl
 | .cons a b,_,_,e=>by
  obtain⟨c1,c2,rfl,c,d⟩:=e;simp[Kd.n,cG.length a c,cG.length b d]
 | .tree _,_,_,e=>by obtain⟨_,rfl,_⟩:=e;rfl
def cG.mono {h j:Array Obj} {ok ok':Nat->Prop} (d:∀b r,ok b->am h b=some r->ok' b/\am j b=some r):(k:Kd)-> {x:k.T}-> {cs:List Value}->cG h ok k x cs->cG j ok' k x cs
 | .int _,_,_,e=>e
 | .bool,_,_,e=>e
 | .str,_,_,e=>e
 | .err,_,_,e=>e
 | .any,_,_,e=>e
 | .sl true _,_,_,e=>e
 | .sl false k,_,_,e=>by
  obtain⟨a,c,rfl,l,e⟩:=e;refine⟨a,c,rfl,l,?_⟩;rcases e with e|⟨b,o,r,ha,hb,hr,hs,he⟩
  ·exact .inl e
  ·obtain⟨f,g⟩:=d b r hb hr
   exact .inr ⟨b,o,r,ha,f,g,hs,λi hi=>cG.mono d k (he i hi)⟩
 | .nil,_,_,e=>e
 | .cons a b,_,_,e=>by
  obtain⟨c1,c2,rfl,m,n⟩:=e;exact⟨c1,c2,rfl,cG.mono d a m,cG.mono d b n⟩
 | .tree a,_,_,e=>by obtain⟨v,rfl,e⟩:=e;exact⟨v,rfl,e.mono d λ_ _ h=>cG.mono d a h⟩
def cG.any_heap {h c:Array Obj} {ok ok':Nat->Prop}:(k:Kd)->k.allOwn=true-> {x:k.T}-> {cs:List Value}->cG h ok k x cs->cG c ok' k x cs
 | .int _,_,_,_,e=>e
 | .bool,_,_,_,e=>e
 | .str,_,_,_,e=>e
 | .err,_,_,_,e=>e
 | .any,_,_,_,e=>e
 | .sl true _,_,_,_,e=>e
 | .sl false _,hk,_,_,_=>by simp[Kd.allOwn]at hk
 | .nil,_,_,_,e=>e
 | .cons a b,hk,_,_,e=>by
  simp[Kd.allOwn]at hk;obtain⟨c1,c2,rfl,d,f⟩:=e;exact⟨c1,c2,rfl,cG.any_heap a hk.1 d,cG.any_heap b hk.2 f⟩
 | .tree _,hk,_,_,_=>by simp[Kd.allOwn]at hk
def bu.mono {R a:α->List Value->Prop} {l:List α} {r:Array Value} {o:Nat} (b:∀x cs,R x cs->a x cs) (e:bu R n l r o):bu a n l r o:=⟨e.1,λi hi=>b _ _ (e.2 i hi)⟩
def oc (h:Array Obj) (ok:Nat->Prop) (k:Kd) (x:k.T) (v:Value):Prop:=cG h ok k x v.cells.toList/\(k.isSt=true->(∃cs,v= .agg cs)/\k.leafy=true)/\(k.isSt=false->v.oneCell'=true)
def sQ (h:Array Obj) (ok:Nat->Prop) (k:Kd) (l:List k.T) (v:Value) (d:List Nat):Prop:=k.good=true/\∃a c,v= .slice a l.length c/\l.length<=c/\((a=none/\l=[]/\c=0/\d=[])\/∃b o r et,a=some ⟨b,o,none⟩/\d=[b]/\h[b]?=some (.cells r et (0,0))/\bu (λx cs=>cG h ok k x cs) k.n l r o/\o+c*k.n<=r.size)
def cA (h:Array Obj) (ok:Nat->Prop):(s:Sh)->s.T->List Value->List Nat->Prop
 | .pur kd,x,vs,fp=>∃v,vs=[v]/\fp=[]/\oc h ok kd x v
 | .own k,l,vs,fp=>∃v,vs=[v]/\sQ h ok k l v fp
 | .row k,l,vs,fp=>∃v,vs=[v]/\sQ h ok k l v fp
 | .rows s,l,vs,fp=>∃v,vs=[v]/\s.elem=true/\∃a c,v= .slice a l.length c/\l.length<=c/\((a=none/\l=[]/\c=0/\fp=[])\/∃(b o:Nat) (r:Array Value) (et:TypeId) (fps:List (List Nat)),a=some ⟨b,o,none⟩/\fp=b::fps.flatten/\h[b]?=some (.cells r et (0,0))/\o+c*s.w<=r.size/\l.length<=fps.length/\(∀e∈fps.flatten,∃r et,h[e]?=some (Obj.cells r et (0,0)))/\∀i (hi:i<l.length) (g:i<fps.length),cA h ok s l[i] (bY r (o+i*s.w) s.w) fps[i])
 | .nrw s,l,vs,fp=>∃v,vs=[v]/\s.elem=true/\∃a c,v= .slice a l.length c/\l.length<=c/\((a=none/\l=[]/\c=0/\fp=[])\/∃(b o:Nat) (r:Array Value) (et:TypeId) (fps:List (List Nat)),a=some ⟨b,o,none⟩/\fp=b::fps.flatten/\h[b]?=some (.cells r et (0,0))/\o+c*s.w<=r.size/\l.length<=fps.length/\(∀e∈fps.flatten,∃r et,h[e]?=some (Obj.cells r et (0,0)))/\∀i (hi:i<l.length) (g:i<fps.length),cA h ok s l[i] (bY r (o+i*s.w) s.w) fps[i])
 | .box l,x,vs,fp=>∃b o r et d,vs=[.pointer (some ⟨b,o,none⟩)]/\fp=b::d/\h[b]?=some (.cells r et (0,0))/\o+l.len<=r.size/\cA h ok l x (bY r o l.len) d
 | .agg l,x,vs,fp=>∃cs,vs=[.agg cs.toArray]/\cA h ok l x cs fp
 | .fn f n l,x,vs,fp=>∃xs ys,vs=[.func f xs.toArray ys.toArray]/\xs.length=n/\cA h ok l x (xs++ys) fp
 | .ign,_,vs,fp=>∃v,vs=[v]/\fp=[]
 | .nl,_,vs,fp=>vs=[.slice none 0 0]/\fp=[]
 | .nil,_,vs,fp=>vs=[]/\fp=[]
 | .cons a b,x,vs,fp=>∃v r f1 f2,vs=v::r/\fp=f1++f2/\cA h ok a x.1 [v] f1/\cA h ok b x.2 r f2
def ig {fps:List (List Nat)} {i:Nat} (hi:i<fps.length) {b:Nat} (a:b∈fps[i]):b∈fps.flatten:=List.mem_flatten.2 ⟨_,a0l hi,a⟩
def oc.mono {h a:Array Obj} {ok ok':Nat->Prop} (c:∀b r,ok b->am h b=some r->ok' b/\am a b=some r) {k:Kd} {x:k.T} {v:Value} (e:oc h ok k x v):oc a ok' k x v:=⟨cG.mono c _ e.1,e.2⟩
def sQ.mono {h d:Array Obj} {ok ok':Nat->Prop} (i:∀b r,ok b->am h b=some r->ok' b/\am d b=some r) {k:Kd} {l:List k.T} {v:Value} {f:List Nat} (j:∀b∈f,d[b]?=h[b]?) (e:sQ h ok k l v f):sQ d ok' k l v f:=by
 obtain⟨m,a,c,n,g,e⟩:=e;refine⟨m,a,c,n,g,?_⟩;rcases e with e|⟨b,o,r,et,ha,rfl,hb,hel,hs⟩
 ·exact .inl e
 ·exact .inr ⟨b,o,r,et,ha,rfl,by rw[j b (by simp),hb],hel.mono λx cs p=>cG.mono i _ p,hs⟩
def cA.mono {h n:Array Obj} {ok ok':Nat->Prop} (g:∀b r,ok b->am h b=some r->ok' b/\am n b=some r):(s:Sh)-> {x:s.T}-> {vs:List Value}-> {p:List Nat}->(∀b∈p,n[b]?=h[b]?)->cA h ok s x vs p->cA n ok' s x vs p
 | .pur _,_,_,_,_,e=>by obtain⟨v,d,q,e⟩:=e;exact⟨v,d,q,e.mono g⟩
 | .own _,_,_,_,hf,e=>by obtain⟨v,d,e⟩:=e;exact⟨v,d,e.mono g hf⟩
 | .row _,_,_,_,hf,e=>by obtain⟨v,d,e⟩:=e;exact⟨v,d,e.mono g hf⟩
 | .rows s,_,_,_,hf,e| .nrw s,_,_,_,hf,e=>by
  obtain⟨v,w,y,a,c,t,z,e⟩:=e;refine⟨v,w,y,a,c,t,z,?_⟩;rcases e with e|⟨b,o,r,et,fps,t,rfl,hr,hc,hn,hj,he⟩
  ·exact .inl e
  ·exact .inr ⟨b,o,r,et,fps,t,rfl,by rw[hf b (by simp),hr],hc,hn,λf j=>by rw[hf f (by simp only[a1e];exact .inr j)];exact hj f j,λi hi k=>cA.mono g s (λf j=>hf f (by simp only[a1e];exact .inr (ig k j))) (he i hi k)⟩
 | .box l,_,_,_,hf,e=>by
  obtain⟨b,o,r,et,u,d,rfl,A,B,e⟩:=e;exact⟨b,o,r,et,u,d,rfl,by rw[hf b (by simp),A],B,cA.mono g l (λf m=>hf f (by simp[m])) e⟩
 | .agg l,_,_,_,hf,e=>by obtain⟨cs,d,e⟩:=e;exact⟨cs,d,cA.mono g l hf e⟩
 | .fn _ _ l,_,_,_,hf,e=>by obtain⟨xs,ys,d,q,e⟩:=e;exact⟨xs,ys,d,q,cA.mono g l hf e⟩
 | .ign,_,_,_,_,e=>e
 | .nl,_,_,_,_,e=>e
 | .nil,_,_,_,_,e=>e
 | .cons a b,_,_,_,hf,e=>by
  obtain⟨v,r,f1,f2,d,rfl,C,D⟩:=e;exact⟨v,r,f1,f2,d,rfl,cA.mono g a (λf m=>hf f (by simp[m])) C,cA.mono g b (λf m=>hf f (by simp[m])) D⟩
abbrev Gh:=Nat->Nat->Nat->Option (Nat×Nat)
def aj (ow:OW) (d j:Nat):Option (Option OB):=(ow[d]?).bind λl=>l[j]?
def lQ (ow:OW) (d j:Nat):cy ow d j=(aj ow d j).bind id:=by
 unfold cy aj
 cases ow[d]? with
 |none=>rfl
 |some l=>cases h:l[j]?<;>simp[h]
def aA {ow:OW} {d j:Nat} {o:OB} (h:cy ow d j=some o):aj ow d j=some (some o):=by
 rw[lQ]at h
 cases hn:aj ow d j with
 |none=>simp[hn]at h
 |some x=>simp[hn]at h;rw[h]
def bx:Option (Option OB)->Prop
 |some (some (.box _))=>True
 |some (some (.row _ _ _))=>True
 |some (some (.nrow _ _ _))=>True
 |_=>False
def cu (G:Gh) (ow:OW) (b:Nat):Prop:=∃d j i o,bx (aj ow d j)/\G d j i=some (b,o)
def od (h:Array Obj) (G:Gh) (n:Nat) (d j off len:Nat) (e:Value):Prop:=∃a c,e= .slice a len c/\len<=c/\((G d j 0=none/\a=none/\c=0)\/∃b o f r,G d j 0=some (b,o)/\a=some ⟨b,f,none⟩/\am h b=some r/\(0<c->f=o+off*n)/\f+c*n<=r.size)
def cZ (h:Array Obj) (G:Gh) (ow:OW) (d j off:Nat) (len:Option Nat) (b:Value):Prop:=
 match aj ow d j with
 |none=>False
 |some none=>b.oneCell'=true
 |some (some (.box _))=>False
 |some (some (.row k _ l))=>off+len.getD l.length<=l.length/\od h G k.n d j off (len.getD l.length) b
 |some (some (.frow k _ l))=>off+len.getD l.length<=l.length/\od h G k.n d j off (len.getD l.length) b
 |some (some (.nrow k l _))=>off+len.getD l.length<=l.length/\od h G k.w d j off (len.getD l.length) b
 |some (some (.lrow n))=>∃a c,b= .slice a (len.getD n) c
inductive cC (h:Array Obj) (ok:Nat->Prop) (G:Gh) (ow:OW):SV->Value->Prop where
 |v {k:Kd} {x:k.T} {val:Value}:k.isSt=false->cG h ok k x [val]->cC h ok G ow (.v k x) val
 |lb (b:Bool):cC h ok G ow (.lb b) (.bool b)
 |dead (val:Value):cC h ok G ow .dead val
 |nils:cC h ok G ow .nils (.slice none 0 0)
 |agg {l:List SV} {vs:List Value}:l.length=vs.length->(∀i (h1:i<l.length) (h2:i<vs.length),cC h ok G ow l[i] vs[i])->cC h ok G ow (.agg l) (.agg vs.toArray)
 |tup {l:List SV} {vs:List Value}:l.length=vs.length->(∀i (h1:i<l.length) (h2:i<vs.length),cC h ok G ow l[i] vs[i])->cC h ok G ow (.tup l) (.tuple vs.toArray)
 |fn {f:Fn} {a b:List SV} {xs ys:List Value}:a.length=xs.length->b.length=ys.length->(∀i (h1:i<a.length) (h2:i<xs.length),cC h ok G ow a[i] xs[i])->(∀i (h1:i<b.length) (h2:i<ys.length),cC h ok G ow b[i] ys[i])->cC h ok G ow (.fn f a b) (.func f xs.toArray ys.toArray)
 |wh {d j ver:Nat} {val:Value}:cZ h G ow d j 0 none val->cC h ok G ow (.wh d j ver []) val
 |os {d j ver off len:Nat} {val:Value}:cZ h G ow d j off (some len) val->cC h ok G ow (.os d j ver [] off len) val
 |bp {d j c:Nat} {val:Value}:(match aj ow d j with
  |none=>False
  |some none=>val.oneCell'=true
  |some (some (.box _))=>∃b o,G d j 0=some (b,o)/\val= .pointer (some ⟨b,o+c,none⟩)
  |some (some (.lrow _))=>val.oneCell'=true
  |_=>False)->cC h ok G ow (.bp d j c) val
 |rp {d j ver e c:Nat} {val:Value}:(match aj ow d j with
  |none=>False
  |some none=>val.oneCell'=true
  |some (some (.row k _ l))=>e<l.length/\∃b o,G d j 0=some (b,o)/\val= .pointer (some ⟨b,o+e*k.n+c,none⟩)
  |some (some (.frow k _ l))=>e<l.length/\∃b o,G d j 0=some (b,o)/\val= .pointer (some ⟨b,o+e*k.n+c,none⟩)
  |some (some (.nrow k l _))=>e<l.length/\∃b o,G d j 0=some (b,o)/\val= .pointer (some ⟨b,o+e*k.w+c,none⟩)
  |some (some (.lrow _))=>val.oneCell'=true
  |_=>False)->cC h ok G ow (.rp d j ver [] e c) val
 |ip {k:Kd} {x:k.T} {b o:Nat} {r:Array Value}:k.leafy=true->ok b->am h b=some r->o+k.n<=r.size->cG h ok k x (bY r o k.n)->cC h ok G ow (.ip k x) (.pointer (some ⟨b,o,none⟩))
def dl (h:Array Obj) (ok:Nat->Prop) (G:Gh) (ow:OW) (d j:Nat):OB->Prop
 | .box a=>(∀i,G d j (i+1)=none)/\∃b o r et,G d j 0=some (b,o)/\h[b]?=some (.cells r et (0,0))/\o+a.length<=r.size/\∀i (hi:i<a.length) (f:o+i<r.size),cC h ok G ow a[i] r[o+i]
 | .row k _ l=>(∀i,G d j (i+1)=none)/\k.good=true/\(match G d j 0 with
  |none=>l=[]
  |some (b,o)=>∃r et,h[b]?=some (.cells r et (0,0))/\bu (λx cs=>cG h ok k x cs) k.n l r o)
 | .frow k _ l=>k.good=true/\(match G d j 0 with
  |none=>l=[]
  |some (b,o)=>l=[]\/(ok b/\∃r,am h b=some r/\bu (λx cs=>cG h ok k x cs) k.n l r o))
 | .nrow s l foc=>s.elem=true/\∃fps:List (List Nat),(∀i,G d j (i+1)=(fps.flatten[i]?).map λb=>(b,0))/\(match G d j 0 with
  |none=>l=[]/\foc=none/\fps=[]
  |some (b,o)=>∃r et,h[b]?=some (.cells r et (0,0))/\o+l.length*s.w<=r.size/\l.length<=fps.length/\(∀g∈fps.flatten,∃r et,h[g]?=some (Obj.cells r et (0,0)))/\
   (∀i (hi:i<l.length) (m:i<fps.length),(∀a,foc≠some (i,a))->cA h ok s l[i] (bY r (o+i*s.w) s.w) fps[i])/\
   ∀e a,foc=some (e,a)->e<l.length/\a.length=s.w/\∀c (p:c<a.length) (f:o+e*s.w+c<r.size),cC h ok G ow a[c] r[o+e*s.w+c])
 | .lrow _=>True
def cW (F:Nat->Prop) (G:Gh) (ow:OW) (b:Nat):Prop:=¬F b/\¬cu G ow b
structure bt (F:Nat->Prop) (G:Gh) (ow:OW) (h:Array Obj):Prop where
 obs:∀d j o,aj ow d j=some (some o)->dl h (cW F G ow) G ow d j o
 apart:∀d j i d' j' i' b o o',bx (aj ow d j)->bx (aj ow d' j')->G d j i=some (b,o)->G d' j' i'=some (b,o')->d=d'/\j=j'/\i=i'
 notF:∀b,cu G ow b->¬F b
def Sv (F:Nat->Prop) (G:Gh) (ow:OW) (h:Array Obj) (s:SV) (v:Value):Prop:=cC h (cW F G ow) G ow s v
def dq (F:Nat->Prop) (G:Gh) (ow:OW) (h:Array Obj) (l:List SV) (vs:List Value):Prop:=l.length=vs.length/\∀i (a:i<l.length) (b:i<vs.length),Sv F G ow h l[i] vs[i]
structure eX (I:Nat->Prop) (w0 w:World):Prop where
 size:w0.heap.size<=w.heap.size
 heap:∀b,b<w0.heap.size->¬I b->w.heap[b]?=w0.heap[b]?
 cells:∀(b:Nat) (r:Array Value) (et:TypeId) (f:Nat×Nat),w0.heap[b]?=some (Obj.cells r et f)->∃r':Array Value,w.heap[b]?=some (Obj.cells r' et f)/\r'.size=r.size
 os:w.os=w0.os
 output:w.output=w0.output
 tape:w.tape=w0.tape
structure SJ (F I:Nat->Prop) (w0:World) (st:St) (a:Act) (w:World):Prop where
 ex:∃G,dq F G st.ow w.heap st.sl a.tmps.toList/\bt F G st.ow w.heap/\∀b,cu G st.ow b->I b\/w0.heap.size<=b
 kept:eX I w0 w
 defers:a.defers=[]
 wide:∀b,F b->b<w0.heap.size
 lens:st.ow.length=st.sl.length
end Go.Pev
namespace Go.Pev
variable {r:Array Value} {t:TypeId} {l:List SV} {o n b:Nat} {P:Program} {v pv:Value} {vs:List Value} {w:World} {h:Array Obj} {d:TypeDesc} {s:SV}
def bc.can {β:Type}:bc β->(β->Prop)->Prop
 | .ret b,Q=>Q b
 | .fail,_=>False
 | .chk c t,Q=>c=true/\t.can Q
 | .bnd _ m f,Q=>∃y,m=some y/\(f y).can Q
 | .amb c f g,Q=>if c=true then f.can Q/\g.can Q else g.can Q
 | .ite c f g,Q=>if c=true then f.can Q else g.can Q
def wd {α:Type} {x y:Option α} {r:α} (h:nq x y=some r):x=some r/\y=some r:=by
 unfold nq at h;split at h
 ·rename_i e;exact⟨h,e▸h⟩
 ·cases h
def bc.can_of_run {α β:Type} {n:Nat} {k:β->Option α} {r:α}:(c:bc β)->c.run n k=some r->c.can λb=>k b=some r
 | .ret _,h=>h
 | .fail,h=>by cases h
 | .chk c t,h=>by
  rw[bc.run,gZ]at h
  cases c with
  |false=>cases h
  |true=>exact⟨rfl,bc.can_of_run t h⟩
 | .bnd _ m f,h=>by
  rw[bc.run,De]at h
  cases m with
  |none=>cases h
  |some y=>exact⟨y,rfl,bc.can_of_run (f y) h⟩
 | .amb c f g,h=>by
  rw[bc.run,gZ]at h
  cases c with
  |false=>exact bc.can_of_run g h
  |true=>
   obtain⟨a,d⟩:=wd (x:=f.run n k) (y:=g.run n k) h;exact⟨bc.can_of_run f a,bc.can_of_run g d⟩
 | .ite c f g,h=>by
  rw[bc.run,gZ]at h
  cases c with
  |false=>exact bc.can_of_run g h
  |true=>exact bc.can_of_run f h
def bc.can_bind {β γ:Type} {Q:γ->Prop} {f:β->bc γ}:(c:bc β)->(c.bind f).can Q->c.can λb=>(f b).can Q
 | .ret _,h=>h
 | .fail,h=>h
 | .chk _ t,h=>⟨h.1,bc.can_bind t h.2⟩
 | .bnd _ _ g,h=>by obtain⟨y,a,h⟩:=h;exact⟨y,a,bc.can_bind (g y) h⟩
 | .amb c f g,h=>by
  cases c with
  |false=>exact bc.can_bind g h
  |true=>exact⟨bc.can_bind f h.1,bc.can_bind g h.2⟩
 | .ite c f g,h=>by
  cases c with
  |false=>exact bc.can_bind g h
  |true=>exact bc.can_bind f h
def bc.can_mono {β:Type} {Q d:β->Prop} (a:∀b,Q b->d b):(c:bc β)->c.can Q->c.can d
 | .ret _,h=>a _ h
 | .fail,h=>h
 | .chk _ t,h=>⟨h.1,bc.can_mono a t h.2⟩
 | .bnd _ _ g,h=>by obtain⟨y,e,h⟩:=h;exact⟨y,e,bc.can_mono a (g y) h⟩
 | .amb c f g,h=>by
  cases c with
  |false=>exact bc.can_mono a g h
  |true=>exact⟨bc.can_mono a f h.1,bc.can_mono a g h.2⟩
 | .ite c f g,h=>by
  cases c with
  |false=>exact bc.can_mono a g h
  |true=>exact bc.can_mono a f h
def bc.can_ofOpt {β:Type} {Q:β->Prop} {o:Option β} (h:(bc.ofOpt o).can Q):∃b,o=some b/\Q b:=by
 cases o with
 |none=>exact h.elim
 |some b=>exact⟨b,rfl,h⟩
def aZ (h:o+n<=r.size:=by omega):(bY r o n).length=n:=by simp[bY];omega
def aR {i:Nat} (h:i<n):(bY r o n)[i]?=r[o+i]?:=by
 simp[bY,h]
def gm {p m:Nat} (h:p+m<=n:=by omega):bY r (o+p) m=((bY r o n).drop p).take m:=by
 simp only[bY,a9c,a4k,List.take_take]
 congr 1
 omega
def bT (h:am w.heap b=some r) (i:Nat):w.cell? ⟨b,i,none⟩=r[i]?:=by
 unfold am at h;unfold World.cell?;split at h
 ·rename_i c _ _ e;cases h;simp[e]
 ·cases h
def aS {e:TypeId} {f:Nat×Nat} (a:h[b]?=some (.cells r e f)):am h b=some r:=by simp[am,a]
def Dj (h:am w.heap b=some r):w.rangeAt b o (bY r o n):=by
 intro j v a;rw[bT h];have c:j<n:=by
  rcases a3u j n with h'|h'
  ·exact h'
  ·rw[a0w (by simp[bY];omega)]at a;cases a
 rw[aR c]at a;exact a
def rt (a:Bool) (cs:List Value):Value:=if a then .agg cs.toArray else cs.headD undef
def mz (a:P.underlying t=some d) (w:World):(isAgg t).run P w= .ok (dS P t) w:=by
 unfold isAgg dS ee;rw[Sem.run_bind,run_underlying a w]
 cases d<;>simp[a]
def Al {i:TypeInfo} (hi:P.info? t=some i) (w:World):(sizeOf t).run P w= .ok (cV P t) w:=by
 simp[sizeOf,typeInfo,hi,cV,Program.cellsOf]
def gT (a:P.underlying t=some d):∃i,P.info? t=some i:=by
 unfold Program.underlying at a
 cases h:P.info? t with
 |none=>simp[h]at a
 |some i=>exact⟨i,rfl⟩
def eT (a:P.underlying t=some d) (e:am w.heap b=some r) (c:n=if dS P t then cV P t else 1) (f:o+n<=r.size:=by omega):(Instr.loadAt t (.pointer (some ⟨b,o,none⟩))).run P w= .ok (rt (dS P t) (bY r o n)) w:=by
 obtain⟨i,hi⟩:=gT a
 cases ha:dS P t with
 |true=>
  simp only[ha,a1s]at c;rw[run_loadAt_mid w b o t (bY r o n) d (Dj e) a (by unfold dS ee at ha;rw[a]at ha;cases d<;>simp_all[TypeDesc.isRow]) (by rw[aZ f,hi,c];simp[cV,Program.cellsOf,hi])];simp[rt]
 |false=>
  simp only[ha,a0u,a1z]at c;subst c;have g:w.cell? ⟨b,o,none⟩=some (r[o]'(by omega)):=by rw[bT e];simp
  have h:bY r o 1=[r[o]'(by omega)]:=by
   apply a2e;intro j
   cases j with
   |zero=>rw[aR (by omega)];simp
   |succ j=>simp[bY];omega
  simp[Instr.loadAt,Instr.sureAddr,loadVar,mz a,ha,rt,run_load,g,h,Result.andThen]
section
variable {F:Nat->Prop} {G:Gh} {ow:OW} {w:World} {P:Program}
def dq.nil:dq F G ow w.heap [] []:=⟨rfl,λi h=>by simp at h⟩
def dq.cons (h:Sv F G ow w.heap s v) (a:dq F G ow w.heap l vs):dq F G ow w.heap (s::l) (v::vs):=⟨by simp[a.1],λi b c=>by
 cases i with
 |zero=>exact h
 |succ i=>exact a.2 i (by simpa using b) (by simpa using c)⟩
def dq.uncons (c:dq F G ow w.heap (s::l) vs):∃v a,vs=v::a/\Sv F G ow w.heap s v/\dq F G ow w.heap l a:=by
 obtain⟨b,h⟩:=c
 cases vs with
 |nil=>simp at b
 |cons v a=>exact⟨v,a,rfl,h 0 (by simp) (by simp),by simpa using b,λi d e=>h (i+1) (by simpa using d) (by simpa using e)⟩
def dq.drop {l:List SV} {vs:List Value} (a:dq F G ow w.heap l vs) (n:Nat):dq F G ow w.heap (l.drop n) (vs.drop n):=⟨by simp[a.1],λi b c=>by simp only[a6o];exact a.2 _ _ _⟩
def dq.take {l:List SV} {vs:List Value} (a:dq F G ow w.heap l vs) (n:Nat):dq F G ow w.heap (l.take n) (vs.take n):=⟨by simp[a.1],λi b c=>by simp only[a4x];exact a.2 _ _ _⟩
def dq.append {d:List SV} {a:List Value} (b:dq F G ow w.heap l vs) (c:dq F G ow w.heap d a):dq F G ow w.heap (l++d) (vs++a):=by
 refine⟨by simp[b.1,c.1],λi e f=> ?_⟩;rcases a3u i l.length with h|h
 ·rw[a1h h,a1h (b.1▸h)]
  exact b.2 _ _ _
 ·rw[a1u h,a1u (b.1▸h)]
  simp only[b.1];exact c.2 _ _ _
def dq.agg {l:List SV} {vs:List Value} (a:dq F G ow w.heap l vs):Sv F G ow w.heap (.agg l) (.agg vs.toArray):= .agg a.1 a.2
def Sv.agg_inv (h:Sv F G ow w.heap (.agg l) v):∃vs,v= .agg vs.toArray/\dq F G ow w.heap l vs:=by
 cases h with
 |agg h1 h2=>exact⟨_,rfl,h1,h2⟩
def Sv.tup_inv (h:Sv F G ow w.heap (.tup l) v):∃vs,v= .tuple vs.toArray/\dq F G ow w.heap l vs:=by
 cases h with
 |tup h1 h2=>exact⟨_,rfl,h1,h2⟩
def mA:(k:Kd)-> {x:k.T}-> {cs:List Value}->(k.leafy=true)->cG w.heap (cW F G ow) k x cs->dq F G ow w.heap (mr k x) cs
 | .nil,_,_,_,e=>by cases e;exact .nil
 | .cons a b,x,cs,hk,e=>by
  obtain⟨c1,c2,rfl,d,g⟩:=e;simp only[Kd.leafy,a0c,a2b]at hk;have c:=cG.length a d;have f:a.n=1:=by cases a<;>simp_all[Kd.n,Kd.isSt]
  obtain⟨v,rfl⟩:∃v,c1=[v]:=by
   match c1,c with
   |[v],_=>exact⟨v,rfl⟩
   |[],c=>simp[f]at c
   |_::_::_,c=>simp[f]at c
  exact .cons (.v hk.1 d) (mA b hk.2 g)
 | .int _,_,_,hk,_=>by cases hk
 | .bool,_,_,hk,_=>by cases hk
 | .str,_,_,hk,_=>by cases hk
 | .err,_,_,hk,_=>by cases hk
 | .any,_,_,hk,_=>by cases hk
 | .sl _ _,_,_,hk,_=>by cases hk
 | .tree _,_,_,hk,_=>by cases hk
def Fy {ok:Nat->Prop}:(k:Kd)-> {x:k.T}-> {cs:List Value}->cG h ok k x cs->cG h ok k.ch (P2 k x) cs
 | .int _,_,cs,e=>⟨cs,[],by simp,e,rfl⟩
 | .bool,_,cs,e=>⟨cs,[],by simp,e,rfl⟩
 | .str,_,cs,e=>⟨cs,[],by simp,e,rfl⟩
 | .err,_,cs,e=>⟨cs,[],by simp,e,rfl⟩
 | .any,_,cs,e=>⟨cs,[],by simp,e,rfl⟩
 | .sl _ _,_,cs,e=>⟨cs,[],by simp,e,rfl⟩
 | .nil,_,_,e=>e
 | .cons _ _,_,_,e=>e
 | .tree _,_,cs,e=>⟨cs,[],by simp,e,rfl⟩
def LM (k:Kd):k.ch.n=k.n:=by cases k<;>simp[Kd.ch,Kd.isSt,Kd.n]
def pf {h:Array Obj} {ok:Nat->Prop}:(k:Kd)->k.leafy=true-> {x:k.T}-> {cs:List Value}->(c:Nat)-> {y:Sigma Kd.T}->jr k x c=some y->cG h ok k x cs->c+y.1.n=k.n/\y.1.leafy=true/\cG h ok y.1 y.2 (cs.drop c)
 |k,hk,x,cs,0,y,hy,e=>by
  have:y=⟨k,x⟩:=by unfold jr at hy;cases k<;>simp_all
  subst this;exact⟨by simp,hk,by simpa using e⟩
 | .cons a b,hk,x,cs,c+1,y,hy,e=>by
  obtain⟨c1,c2,rfl,g,i⟩:=e;simp only[Kd.leafy,a0c,a2b]at hk;have d:=cG.length a g;have f:a.n=1:=by cases a<;>simp_all[Kd.n,Kd.isSt]
  obtain⟨v,rfl⟩:∃v,c1=[v]:=by
   match c1,d with
   |[v],_=>exact⟨v,rfl⟩
   |[],d=>simp[f]at d
   |_::_::_,d=>simp[f]at d
  obtain⟨m,j,l⟩:=pf b hk.2 c (by simpa [jr]using hy) i;exact⟨by simp only[Kd.n,f];omega,j,by simpa using l⟩
 | .nil,_,_,_,_+1,_,hy,_=>by simp[jr]at hy
 | .int _,hk,_,_,_+1,_,_,_=>by cases hk
 | .bool,hk,_,_,_+1,_,_,_=>by cases hk
 | .str,hk,_,_,_+1,_,_,_=>by cases hk
 | .err,hk,_,_,_+1,_,_,_=>by cases hk
 | .any,hk,_,_,_+1,_,_,_=>by cases hk
 | .sl _ _,hk,_,_,_+1,_,_,_=>by cases hk
 | .tree _,hk,_,_,_+1,_,_,_=>by cases hk
def jh:(k:Kd)->k.leafy=true->(x:k.T)->(mr k x).length=k.n
 | .nil,_,_=>rfl
 | .cons a b,hk,x=>by
  simp only[Kd.leafy,a0c,a2b]at hk;have c:a.n=1:=by cases a<;>simp_all[Kd.n,Kd.isSt]
  simp[mr,Kd.n,c,jh b hk.2];omega
 | .int _,hk,_=>by cases hk
 | .bool,hk,_=>by cases hk
 | .str,hk,_=>by cases hk
 | .err,hk,_=>by cases hk
 | .any,hk,_=>by cases hk
 | .sl _ _,hk,_=>by cases hk
 | .tree _,hk,_=>by cases hk
def eJ (c:dq F G ow w.heap l vs) (h:dA P t l=some s):(∃d,P.underlying t=some d)/\(0<if dS P t then cV P t else 1)/\(if dS P t then cV P t else 1)<=l.length/\Sv F G ow w.heap s (rt (dS P t) (vs.take (if dS P t then cV P t else 1))):=by
 unfold dA at h;split at h
 ·cases h
 rename_i d e;refine⟨⟨d,e⟩,?_⟩
 cases ha:dS P t with
 |true=>
  simp only[ha,a1s]at h⊢;split at h
  ·rename_i b
   cases h
   refine⟨b.1,b.2,?_⟩;simp only[rt,a1s];exact(c.take _).agg
  ·cases h
 |false=>
  simp only[ha,a0u,a1z]at h⊢
  cases l with
  |nil=>cases h
  |cons a r=>
   cases h
   obtain⟨v,f,rfl,g,_⟩:=c.uncons;exact⟨by simp,by simp,by simpa [rt]using g⟩
def Qd (y:bt F G ow w.heap) {d j e c:Nat} {h:List (Nat×Nat)} {r:Sigma λk:Kd=>List k.T} (i:nQ ow d j h=some r) (t:e<r.2.length)
 (s:match aj ow d j with
  |none=>False
  |some none=>pv.oneCell'=true
  |some (some (.row k _ l))=>e<l.length/\∃b o,G d j 0=some (b,o)/\pv= .pointer (some ⟨b,o+e*k.n+c,none⟩)
  |some (some (.frow k _ l))=>e<l.length/\∃b o,G d j 0=some (b,o)/\pv= .pointer (some ⟨b,o+e*k.n+c,none⟩)
  |some (some (.nrow k l _))=>e<l.length/\∃b o,G d j 0=some (b,o)/\pv= .pointer (some ⟨b,o+e*k.w+c,none⟩)
  |some (some (.lrow _))=>pv.oneCell'=true
  |_=>False):
 ∃b o f,G d j 0=some (b,o)/\pv= .pointer (some ⟨b,o+e*r.1.n+c,none⟩)/\am w.heap b=some f/\r.1.good=true/\bu (λx cs=>cG w.heap (cW F G ow) r.1 x cs) r.1.n r.2 f o:=by
 unfold nQ at i;split at i
 ·rename_i k ver l u
  cases i
  have m:=aA u;simp only[m]at s;obtain⟨_,b,o,p,rfl⟩:=s;obtain⟨_,a,q⟩:=y.obs d j _ m;simp only[p]at q;obtain⟨f,et,v,g⟩:=q;exact⟨b,o,f,p,rfl,aS v,a,g⟩
 ·rename_i k ver l u
  cases i
  have m:=aA u;simp only[m]at s;obtain⟨_,b,o,p,rfl⟩:=s;obtain⟨a,q⟩:=y.obs d j _ m;simp only[p]at q;rcases q with rfl|⟨_,f,v,g⟩
  ·simp at t
  ·exact⟨b,o,f,p,rfl,v,a,g⟩
 ·cases i
def qq:(s:Sh)->s.elem=true-> {x:s.T}-> {vs:List Value}-> {c:List Nat}->cA w.heap (cW F G ow) s x vs c->dq F G ow w.heap (vR s x) vs
 | .pur kd,hs,x,vs,c,e=>by
  obtain⟨v,rfl,_,d,_,g⟩:=e;have f:kd.isSt=false:=by simpa using(a0c _ _▸hs:kd.noOwn=true/\(!kd.isSt)=true).2
  have:v.cells= #[v]:=by have:=g f;cases v<;>simp_all[Value.cells,Value.oneCell']
  rw[this]at d;exact .cons (.v f d) .nil
 | .own _,_,_,_,_,e=>by obtain⟨v,rfl,_⟩:=e;exact .cons (.dead v) .nil
 | .rows _,_,_,_,_,e=>by obtain⟨v,rfl,_⟩:=e;exact .cons (.dead v) .nil
 | .nil,_,_,_,_,e=>by rw[e.1];exact .nil
 | .cons a b,hs,_,_,_,e=>by
  simp only[Sh.elem,a0c]at hs;obtain⟨v,r,f1,f2,rfl,rfl,h,i⟩:=e;exact(qq a hs.1.2 h).append (qq b hs.2 i)
 | .row _,hs,_,_,_,_=>by simp[Sh.elem]at hs
 | .nrw _,hs,_,_,_,_=>by simp[Sh.elem]at hs
 | .box _,hs,_,_,_,_=>by simp[Sh.elem]at hs
 | .agg _,hs,_,_,_,_=>by simp[Sh.elem]at hs
 | .fn _ _ _,hs,_,_,_,_=>by simp[Sh.elem]at hs
 | .ign,hs,_,_,_,_=>by simp[Sh.elem]at hs
 | .nl,hs,_,_,_,_=>by simp[Sh.elem]at hs
def g5 {d j:Nat} {a:List (Nat×Nat)} {r:Sigma λs:Sh=>List s.T} (h:nR ow d j a=some r):a=[]/\aj ow d j=some (some (.nrow r.1 r.2 none)):=by
 unfold nR at h;split at h
 ·rename_i s l e;cases h;exact⟨rfl,aA e⟩
 ·cases h
def Am:(a:Kd)->a.leafy=true-> {b:Kd}->b.leafy=true->(a.app b).leafy=true
 | .nil,_,_,hb=>hb
 | .cons a r,ha,_,hb=>by
  simp only[Kd.leafy,a0c]at ha;simp only[Kd.app,Kd.leafy,a0c];exact⟨ha.1,Am r ha.2 hb⟩
 | .int _,ha,_,_=>by cases ha
 | .bool,ha,_,_=>by cases ha
 | .str,ha,_,_=>by cases ha
 | .err,ha,_,_=>by cases ha
 | .any,ha,_,_=>by cases ha
 | .sl _ _,ha,_,_=>by cases ha
 | .tree _,ha,_,_=>by cases ha
def PN:(a:Kd)->a.leafy=true->(b:Kd)->(a.app b).n=a.n+b.n
 | .nil,_,_=>by simp[Kd.app,Kd.n]
 | .cons a r,ha,b=>by
  simp only[Kd.leafy,a0c]at ha;simp only[Kd.app,Kd.n,PN r ha.2 b,a2k]
 | .int _,ha,_=>by cases ha
 | .bool,ha,_=>by cases ha
 | .str,ha,_=>by cases ha
 | .err,ha,_=>by cases ha
 | .any,ha,_=>by cases ha
 | .sl _ _,ha,_=>by cases ha
 | .tree _,ha,_=>by cases ha
def Dk {h:Array Obj} {ok:Nat->Prop}:(a:Kd)->a.leafy=true-> {b:Kd}-> {x:a.T}-> {y:b.T}-> {c1 c2:List Value}->cG h ok a x c1->cG h ok b y c2->cG h ok (a.app b) (P6 a x b y) (c1++c2)
 | .nil,_,_,_,_,_,_,e1,e2=>by cases e1;exact e2
 | .cons a r,ha,_,_,_,_,_,e1,e2=>by
  simp only[Kd.leafy,a0c]at ha;obtain⟨c,f,rfl,d,e⟩:=e1;exact⟨c,_,a1q _ _ _,d,Dk r ha.2 e e2⟩
 | .int _,ha,_,_,_,_,_,_,_=>by cases ha
 | .bool,ha,_,_,_,_,_,_,_=>by cases ha
 | .str,ha,_,_,_,_,_,_,_=>by cases ha
 | .err,ha,_,_,_,_,_,_,_=>by cases ha
 | .any,ha,_,_,_,_,_,_,_=>by cases ha
 | .sl _ _,ha,_,_,_,_,_,_,_=>by cases ha
 | .tree _,ha,_,_,_,_,_,_,_=>by cases ha
def Dl {ok:Nat->Prop} {a:Kd} {x:ct a.T}:cG h ok (.tree a) x [v]↔∃b o r t,v= .pointer (some ⟨b,o,none⟩)/\ok b/\am h b=some r/\o+a.n+1<=r.size/\cG h ok a x.lab (bY r o a.n)/\r[o+a.n]?=some t/\cG h ok (.sl false (.tree a)) x.kids [t]:=by
 constructor
 ·rintro⟨D,B,e⟩
  cases B
  cases e with
  |leaf f g j k l=>exact⟨_,_,_,_,rfl,f,g,j,k,l,_,_,rfl,a5c _,.inl rfl⟩
  | @node z d b o c b' o' r r' f g j k l y hb' hr' hs' hx=>
   refine⟨_,_,_,_,rfl,f,g,j,k,l,_,_,rfl,y,.inr ⟨b',o',r',rfl,hb',hr',⟨by simp only[Kd.n,a5z];exact hs',λi hi=> ?_⟩⟩⟩;have hi:i<d.length:=hi;have m:o'+i<r'.size:=by omega
   refine⟨r'[o'+i],?_,hx i hi m⟩;show bY r' (o'+i*1) 1=_;simp only[bY,a5z];rw[a1b (by simpa using m)];simp
 ·rintro⟨b,o,r,t,rfl,f,g,j,k,l,p,c,w,y,e⟩
  cases w
  obtain⟨z,d⟩:=x;refine⟨_,rfl,?_⟩;rcases e with e|⟨b',o',r',rfl,hb',hr',q,hx⟩
  ·have e:d=[]:=e
   subst e;exact .leaf f g j k l
  ·have q:o'+d.length*1<=r'.size:=q
   refine .node f g j k l y hb' hr' (by omega) λi hi A=> ?_
   obtain⟨u,s,C⟩:=hx i hi;have s:bY r' (o'+i*1) 1=[u]:=s;simp only[bY,a5z]at s;rw[a1b (by simpa using A)]at s;have:r'[o'+i]=u:=by simpa using s
   rw[this];exact C
def HO {a:Kd} (c:a.leafy=true) {x:ct a.T} (g:Sv F G ow w.heap (.v (.tree a) x) pv):Sv F G ow w.heap (.ip a.nodeK (Fm a x)) pv:=by
 cases g with
 |v _ hx=>
 obtain⟨b,o,r,f,rfl,h,i,q,j,k,d⟩:=Dl.1 hx;have l:a.nodeK.n=a.n+1:=PN a c _;refine .ip (Am a c (by simp[Kd.leafy,Kd.isSt])) h i (by omega) ?_
 have e:bY r o a.nodeK.n=bY r o a.n++[f]:=by
  rw[l];obtain⟨m,rfl⟩:=a1c.1 k;have p:a.n<(r.toList.drop o).length:=by simp;omega
  simp only[bY];rw[<-a2v p];simp
 rw[e];exact Dk a c j ⟨[f],[],rfl,d,rfl⟩
def mB (V:bt F G ow w.heap) {p:SV} (q:Sv F G ow w.heap p pv) {Q:SV->Prop} (h:(sJ P t p ow).can Q):∃s v,Q s/\(Instr.loadAt t pv).run P w= .ok v w/\Sv F G ow w.heap s v:=by
 unfold sJ at h;split at h
 ·rename_i d j c
  split at h
  ·rename_i f hg
   obtain⟨s,A,B⟩:=bc.can_ofOpt h;have K:=aA hg;obtain⟨_,b,o,r,et,T,L,z,W⟩:=V.obs d j _ K
   cases q with
   |bp q=>
   simp only[K]at q;obtain⟨b',o',M,rfl⟩:=q;rw[T]at M;cases M
   have N:dq F G ow w.heap f (bY r o f.length):=⟨by rw[aZ z],λi U h2=>by
    have:=W i U (by omega);have e:(bY r o f.length)[i]=r[o+i]:=by
     have:=aR (r:=r) (o:=o) U;rw[a0a h2,a1k (by omega)]at this;exact a1f this
    rw[e];exact this⟩
   obtain⟨⟨d',C⟩,E,g,l⟩:=eJ (N.drop c) A;simp only[a2w]at g;refine⟨s,_,B,eT C (aS L) rfl,?_⟩;rw[gm (n:=f.length)];exact l
  ·exact h.elim
 ·rename_i d j ver S0 e c
  split at h
  ·rename_i r H
   obtain⟨x,X,h⟩:=h;dsimp only at h;split at h
   ·rename_i y hy
    obtain⟨s,A,B⟩:=bc.can_ofOpt h
    cases q with
    |rp q=>
    obtain⟨u,rfl⟩:=a0p.1 X;obtain⟨b,o,Y,T,rfl,O,I,D⟩:=Qd V H u q;have J:=(a0c _ _▸I:r.1.noOwn=true/\r.1.ch.leafy=true).2;have U:=Fy r.1 (D.2 e u);obtain⟨e1,e2,e3⟩:=pf r.1.ch J c hy U;rw[LM]at e1;obtain⟨⟨d',C⟩,E,g,l⟩:=eJ (mA y.1 e2 e3) A;rw[jh y.1 e2]at g;have L:(e+1)*r.1.n<=r.2.length*r.1.n:=a0o _ u;have z:=D.1;rw[a1a,a2t]at L;refine⟨s,_,B,eT C O rfl,?_⟩;rw[gm (n:=r.1.n)];exact l
   ·exact h.elim
  ·split at h
   ·rename_i r H
    obtain⟨rfl,K⟩:=g5 H;obtain⟨x,X,h⟩:=h;obtain⟨s,A,B⟩:=bc.can_ofOpt h
    cases q with
    |rp q=>
    obtain⟨u,rfl⟩:=a0p.1 X;simp only[K]at q;obtain⟨_,b,o,T,rfl⟩:=q;obtain⟨D,fps,_,R⟩:=V.obs d j _ K;simp only[T]at R;obtain⟨Y,et,L,z,S1,_,S,_⟩:=R;have hS:=qq r.1 D (S e u (by omega) (λf W=>by cases W));have Z:(e+1)*r.1.w<=r.2.length*r.1.w:=a0o _ u;rw[a1a,a2t]at Z;have S2:(vR r.1 r.2[e]).length=r.1.w:=by rw[hS.1,aZ]
    obtain⟨⟨d',C⟩,E,g,l⟩:=eJ (hS.drop c) A;simp only[a2w]at g;refine⟨s,_,B,eT C (aS L) rfl,?_⟩;rw[gm (n:=r.1.w)];exact l
   ·exact h.elim
 ·rename_i k x
  obtain⟨s,A,B⟩:=bc.can_ofOpt h
  cases q with
  | @ip _ _ b o r J hok H z he=>
  obtain⟨⟨d',C⟩,_,g,l⟩:=eJ (mA k J he) A;rw[jh k J]at g;refine⟨s,_,B,eT C H rfl,?_⟩;have:=gm (r:=r) (o:=o) (n:=k.n) (p:=0) (m:=if dS P t then cV P t else 1);simp only[a2z,a4v]at this;rw[this];exact l
 ·rename_i a x
  split at h
  ·rename_i ha
   obtain⟨s,A,B⟩:=bc.can_ofOpt h
   cases HO ha q with
   | @ip _ _ b o r J hok H z he=>
   obtain⟨⟨d',C⟩,_,g,l⟩:=eJ (mA a.nodeK J he) A;rw[jh a.nodeK J]at g;refine⟨s,_,B,eT C H rfl,?_⟩;have:=gm (r:=r) (o:=o) (n:=a.nodeK.n) (p:=0) (m:=if dS P t then cV P t else 1);simp only[a2z,a4v]at this;rw[this];exact l
  ·exact h.elim
 ·exact h.elim
end
end Go.Pev
namespace Go.Pev
variable {t:TypeId} {j d:Nat}
section
variable {F:Nat->Prop} {G:Gh} {ow:OW} {w:World} {P:Program}
def oe {b:Field} (h:ql P t j=some b):∃a,P.underlying t=some (.struct a)/\a[j]?=some b:=by
 unfold ql ee at h;split at h
 ·rename_i a e;exact⟨a,e,h⟩
 ·cases h
def kZ {a:Field} (h:ql P t j=some a) (c:¬cV P a.type=0) (b o:Nat):(Instr.fieldAt t (.pointer (some ⟨b,o,none⟩)) j).run P w= .ok (.pointer (some ⟨b,o+a.offset,none⟩)) w:=by
 obtain⟨g,d,e⟩:=oe h;obtain⟨i,hi⟩:∃i,P.info? a.type=some i:=by
  cases hq:P.info? a.type with
  |none=>simp[cV,Program.cellsOf,hq]at c
  |some i=>exact⟨i,rfl⟩
 have f:¬i.size=0:=by simpa [cV,Program.cellsOf,hi]using c
 simp[Instr.fieldAt,run_underlying d,e,Instr.sureAddr,fieldPlace,sizeOf,typeInfo,hi,f,Addr.add_mid]
def mC (h:iK ow d j=true):∃a,aj ow d j=some (some (.box a)):=by
 unfold iK at h;split at h
 ·rename_i a e;exact⟨a,aA e⟩
 ·cases h
def we {a:List (Nat×Nat)} {r:Sigma λk:Kd=>List k.T} (h:nQ ow d j a=some r):a=[]/\∃ver,aj ow d j=some (some (.row r.1 ver r.2))\/aj ow d j=some (some (.frow r.1 ver r.2)):=by
 unfold nQ at h;split at h
 ·rename_i k ver l e;cases h;exact⟨rfl,ver,.inl (aA e)⟩
 ·rename_i k ver l e;cases h;exact⟨rfl,ver,.inr (aA e)⟩
 ·cases h
def g7 {a:List (Nat×Nat)} {r:Nat×Nat} (h:yV ow d j a=some r):a=[]/\((∃k v l,aj ow d j=some (some (.row k v l))/\r=(k.n,l.length))\/(∃k v l,aj ow d j=some (some (.frow k v l))/\r=(k.n,l.length))\/∃k l f,aj ow d j=some (some (.nrow k l f))/\r=(k.w,l.length)):=by
 unfold yV at h;split at h
 ·rename_i k ver l e;cases h;exact⟨rfl,.inl ⟨k,ver,l,aA e,rfl⟩⟩
 ·rename_i k ver l e;cases h;exact⟨rfl,.inr (.inl ⟨k,ver,l,aA e,rfl⟩)⟩
 ·rename_i k l f e;cases h;exact⟨rfl,.inr (.inr ⟨k,l,f,aA e,rfl⟩)⟩
 ·cases h
def ru {p:SV} {J:Value} {f:Nat} (g:Sv F G ow w.heap p J) {Q:SV->Prop} (h:(kW P t p f ow).can Q):∃s v,Q s/\(Instr.fieldAt t J f).run P w= .ok v w/\Sv F G ow w.heap s v:=by
 unfold kW at h;split at h
 ·exact h.elim
 rename_i z A;split at h
 ·exact h.elim
 rename_i B;split at h
 ·rename_i d j c
  split at h
  ·rename_i M
   obtain⟨C,i⟩:=mC M
   cases g with
   |bp g=>
   simp only[i]at g;obtain⟨b,o,D,rfl⟩:=g;exact⟨_,_,h,kZ A B _ _,.bp (by simp only[i];exact⟨b,o,D,by rw[a2k]⟩)⟩
  ·exact h.elim
 ·rename_i d j ver K e c
  split at h
  ·rename_i r q
   obtain⟨rfl,i⟩:=g7 q
   cases g with
   |rp g=>
   rcases i with⟨k,L,l,i,rfl⟩|⟨k,L,l,i,rfl⟩|⟨k,l,L,i,rfl⟩<;>
   ·simp only[i]at g
    obtain⟨u,b,o,D,rfl⟩:=g;exact⟨_,_,h,kZ A B _ _,.rp (by simp only[i];exact⟨u,b,o,D,by rw[a2k]⟩)⟩
  ·exact h.elim
 ·rename_i k x
  split at h
  ·rename_i y E
   cases g with
   | @ip _ _ b o r hk hok q hsz u=>
   obtain⟨N,H,I⟩:=pf k hk z.offset E u;refine⟨_,_,h,kZ A B _ _,.ip H hok q (by omega) ?_⟩;have:=gm (r:=r) (o:=o) (n:=k.n) (p:=z.offset) (m:=y.1.n);rw[this,a3a (by simp[aZ hsz];omega)];exact I
  ·exact h.elim
 ·rename_i a x
  split at h
  ·rename_i O
   split at h
   ·rename_i y E
    cases HO O g with
    | @ip _ _ b o r hk hok q hsz u=>
    obtain⟨N,H,I⟩:=pf a.nodeK hk z.offset E u;refine⟨_,_,h,kZ A B _ _,.ip H hok q (by omega) ?_⟩;have:=gm (r:=r) (o:=o) (n:=a.nodeK.n) (p:=z.offset) (m:=y.1.n);rw[this,a3a (by simp[aZ hsz];omega)];exact I
   ·exact h.elim
  ·exact h.elim
 ·exact h.elim
def rv {n:Nat} (h:jg P t n=true):∃e i,P.underlying t=some (.slice e)/\P.info? e=some i/\i.size=n:=by
 unfold jg ee at h;split at h
 ·rename_i e a
  split at h
  ·rename_i i hi;exact⟨e,i,a,hi,by simpa using h⟩
  ·cases h
 ·cases h
def og {n:Nat} (a:jg P t n=true) (b o len c:Nat) (k:IntKind) (i:Int) (d:0<=i) (f:i<len):(Instr.indexAt t (.slice (some ⟨b,o,none⟩) len c) (.int k i)).run P w= .ok (.pointer (some ⟨b,o+i.toNat*n,none⟩)) w:=by
 obtain⟨e,h,g,hi,rfl⟩:=rv a;simp[Instr.indexAt,asIntOf,run_underlying g,d,f,sizeOf,typeInfo,hi,Addr.add_mid]
def rx {x i:SV} {xv N:Value} (f:Sv F G ow w.heap x xv) (hi:Sv F G ow w.heap i N) {Q:SV->Prop} (h:(nX P t x i ow).can Q):∃s v,Q s/\(Instr.indexAt t xv N).run P w= .ok v w/\Sv F G ow w.heap s v:=by
 unfold nX at h;split at h
 ·rename_i I n
  cases hi with
  |v _ hi=>
  cases hi
  split at h
  ·rename_i O e l
   split at h
   ·rename_i m
    simp only[a0c]at m;obtain⟨J,y,R,h⟩:=h;have J:0<=n:=by simpa using J
    obtain⟨q,rfl⟩:=a0p.1 R
    cases f with
    |v hk f=>
    cases O with
    |true=>exact f.elim
    |false=>
    obtain⟨a,c,z,A,f⟩:=f;simp only[a4y,and_true]at z;subst z;rcases f with rfl|⟨b,o,r,rfl,hok,C,hel⟩
    ·simp at q
    have S:(n.toNat+1)*e.n<=l.length*e.n:=a0o _ q;rw[a1a,a2t]at S;have T:=hel.1;refine⟨_,_,h,og m.2 b o l.length c I n J (by omega),?_⟩;refine .ip m.1 hok C (by rw[LM];omega) ?_
    rw[LM];exact Fy e (hel.2 n.toNat q)
   ·exact h.elim
  ·rename_i d j ver B
   split at h
   ·rename_i r C
    split at h
    ·rename_i K
     obtain⟨m,h⟩:=h;simp only[a0q]at m;have p:(0:Int)<=n:=m.1;have aJ:n<(r.2:Int):=m.2;have D:n.toNat<r.2:=(Int.toNat_lt p).2 aJ;obtain⟨rfl,g⟩:=g7 C
     cases f with
     |wh f=>
     rcases g with⟨k,E,l,g,rfl⟩|⟨k,E,l,g,rfl⟩|⟨k,l,E,g,rfl⟩<;>
     ·simp only[cZ,g,a2q,a1l]at f
      obtain⟨_,a,c,rfl,A,f⟩:=f;rcases f with⟨_,_,U⟩|⟨b,o,V,L,M,rfl,H,u,_⟩
      ·omega
      ·have u:=u (by omega)
       subst u;simp only[a7j,a2z];exact⟨_,_,h,og K b o _ c I n p aJ,.rp (by simp only[g];exact⟨D,b,o,M,by simp⟩)⟩
    ·exact h.elim
   ·exact h.elim
  ·rename_i d j ver B off len
   split at h
   ·rename_i r C
    split at h
    ·rename_i K
     obtain⟨m,h⟩:=h;simp only[a0q]at m;have p:(0:Int)<=n:=m.1;have aJ:n<(len:Int):=m.2;have D:n.toNat<len:=(Int.toNat_lt p).2 aJ;obtain⟨rfl,g⟩:=g7 C
     cases f with
     |os f=>
     rcases g with⟨k,E,l,g,rfl⟩|⟨k,E,l,g,rfl⟩|⟨k,l,E,g,rfl⟩<;>
     ·simp only[cZ,g,a2r]at f
      obtain⟨W,a,c,rfl,A,f⟩:=f;rcases f with⟨_,_,U⟩|⟨b,o,V,L,M,rfl,H,u,_⟩
      ·omega
      ·have u:=u (by omega)
       subst u;exact⟨_,_,h,og K b _ len c I n p aJ,.rp (by simp only[g];exact⟨by omega,b,o,M,by rw[a1a,a2k];rfl⟩)⟩
    ·exact h.elim
   ·exact h.elim
  ·exact h.elim
 ·exact h.elim
end
end Go.Pev
namespace Go.Pev
variable {t:TypeId} {v xv:Value} {a b:Option Int} {x:SV} {Q:SV->Prop} {n len c:Nat} {lo hi:Option Value}
section
variable {F:Nat->Prop} {G:Gh} {ow:OW} {w:World} {P:Program}
def Sv.int_inv {k:IntKind} {n:Int} (h:Sv F G ow w.heap (.v (.int k) n) v):v= .int k n:=by
 cases h with
 |v _ h=>cases h;rfl
def Sv.str_inv {s:List UInt8} (h:Sv F G ow w.heap (.v .str s) v):v= .string ⟨s.toArray⟩:=by
 cases h with
 |v _ h=>cases h;rfl
def Sv.bool_inv {b:Bool} (h:Sv F G ow w.heap (.v .bool b) v):v= .bool b:=by
 cases h with
 |v _ h=>cases h;rfl
def Sv.lb_inv {b:Bool} (h:Sv F G ow w.heap (.lb b) v):v= .bool b:=by cases h;rfl
def Sv.int (k:IntKind) (n:Int):Sv F G ow w.heap (.v (.int k) n) (.int k n):= .v rfl rfl
def Sv.str (s:List UInt8):Sv F G ow w.heap (.v .str s) (.string ⟨s.toArray⟩):= .v rfl rfl
def Sv.bool (b:Bool):Sv F G ow w.heap (.v .bool b) (.bool b):= .v rfl rfl
def Sv.sl_inv {o:Bool} {e:Kd} {l:List e.T} (h:Sv F G ow w.heap (.v (.sl o e) l) v):o=false/\∃a c,v= .slice a l.length c/\l.length<=c/\(l=[]\/∃b of r,a=some ⟨b,of,none⟩/\cW F G ow b/\am w.heap b=some r/\bu (λx cs=>cG w.heap (cW F G ow) e x cs) e.n l r of):=by
 cases h with
 |v _ h=>
 cases o with
 |true=>exact h.elim
 |false=>
 obtain⟨a,c,d,h⟩:=h;simp only[a4y,and_true]at d;exact⟨rfl,a,c,d,h⟩
def tU {x:Option SV} {v:Option Value} (b:∀s,x=some s->∃u,v=some u/\Sv F G ow w.heap s u) (c:x=none->v=none) (h:BB x=some a):(v=none/\a=none)\/∃k n,v=some (.int k n)/\a=some n:=by
 unfold BB at h;split at h
 ·cases h;exact .inl ⟨c rfl,rfl⟩
 ·rename_i k n
  cases h
  obtain⟨u,rfl,d⟩:=b _ rfl;exact .inr ⟨k,n,by rw[d.int_inv],rfl⟩
 ·cases h
def mD (h:rg n a b=true):(∀x,a=some x->0<=x)/\(∀x,b=some x->0<=x)/\(a.getD 0).toNat<=(b.getD n).toNat/\(b.getD n).toNat<=n:=by
 cases a<;>cases b<;>simp[rg]at h⊢<;>omega
def vA {α:Type} (l:List α) (a b:Option Int):Dg l a b=(l.take (b.getD l.length).toNat).drop (a.getD 0).toNat:=by
 cases a<;>cases b<;>simp[Dg]
def nw {s:Bool} (i:(lo=none/\a=none)\/∃k n,lo=some (.int k n)/\a=some n)
 (j:(hi=none/\b=none)\/∃k n,hi=some (.int k n)/\b=some n) (q:len<=c) (h:rg len a b=true):
 (Instr.sliceBounds s len c lo hi none).run P w= .ok ((a.getD 0).toNat,(b.getD len).toNat,c) w:=by
 obtain⟨f,g,d,e⟩:=mD h;rcases i with⟨rfl,rfl⟩|⟨m,l,rfl,rfl⟩<;>rcases j with⟨rfl,rfl⟩|⟨r,u,rfl,rfl⟩
 ·simp[Instr.sliceBounds]
 ·have:=g u rfl
  simp at d e;simp[Instr.sliceBounds,run_sliceBound,this,show u<=(c:Int) by omega]
 ·have:=f l rfl
  simp at d e;simp[Instr.sliceBounds,run_sliceBound,this,show l<=(len:Int) by omega]
 ·have o:=f l rfl
  have p:=g u rfl;simp at d e;simp[Instr.sliceBounds,run_sliceBound,p,show u<=(c:Int) by omega,run_sliceBound w m l u.toNat .sliceB o (by omega)]
def yY (c:lq P t=true) {s:List UInt8} (f:(lo=none/\a=none)\/∃k n,lo=some (.int k n)/\a=some n)
 (g:(hi=none/\b=none)\/∃k n,hi=some (.int k n)/\b=some n) (h:rg s.length a b=true):
 (Instr.sliceAt t (.string ⟨s.toArray⟩) lo hi none).run P w= .ok (.string ⟨(Dg s a b).toArray⟩) w:=by
 have e:P.underlying t=some .string:=by
  unfold lq ee at c;split at c
  ·assumption
  ·cases c
 rw[run_sliceAt_string w t _ _ _ _ e];have d:(ByteArray.mk s.toArray).size=s.length:=by simp[ByteArray.size]
 simp only[Instr.slice,Sem.run_bind,run_underlying e,Result.andThen_ok];simp only[Option.isSome_none,a0u,a1z,Sem.run_pure,Sem.run_bind,d];rw[nw f g (a1n _) h];simp only[Result.andThen_ok]
 congr 2
 rw[vA];apply ByteArray.ext;simp[ByteArray.data_extract,a9c]
def mE (l:jg P t n=true) {f:Option Addr} (m:len<=c)
 (o:(lo=none/\a=none)\/∃k n,lo=some (.int k n)/\a=some n) (p:(hi=none/\b=none)\/∃k n,hi=some (.int k n)/\b=some n) (h:rg len a b=true):
 (Instr.sliceAt t (.slice f len c) lo hi none).run P w= .ok (.slice (if c=(a.getD 0).toNat then f else f.map (·.add ((a.getD 0).toNat*n))) ((b.getD len).toNat-(a.getD 0).toNat) (c-(a.getD 0).toNat)) w:=by
 obtain⟨e,q,i,g,rfl⟩:=rv l;have j:P.elem t=e:=by simp[Program.elem,i]
 have d:P.underlying t=some (.slice (P.elem t)):=by rw[j];exact i
 rw[run_sliceAt_slice w t _ _ _ _ d,run_slice_any w t f len c d,nw o p m h];simp only[Result.andThen_ok,sizeOf,typeInfo,j];simp[g,sliced]
def od.slice {h:Array Obj} {n d j off len:Nat} {v:Value} (g:od h G n d j off len v) {l u:Nat} (t:l<=u) (w:u<=len) {a:Option Addr} {c:Nat} (p:v= .slice a len c):od h G n d j (off+l) (u-l) (.slice (if c=l then a else a.map (·.add (l*n))) (u-l) (c-l)):=by
 obtain⟨x,y,f,z,g⟩:=g;rw[p]at f;cases f
 refine⟨_,_,rfl,by omega,?_⟩;rcases g with⟨q,rfl,A⟩|⟨b,o,i,r,k,rfl,m,s,B⟩
 ·exact .inl ⟨q,by split<;>rfl,by omega⟩
 ·by_cases e:c=l
  ·refine .inr ⟨b,o,i,r,k,by simp[e],m,λh=>by omega,?_⟩
   subst e;simp;omega
  ·refine .inr ⟨b,o,i+l*n,r,k,by simp only[e,a1z,a1t,Addr.add_mid],m,λ_=> ?_,?_⟩
   ·rw[s (by omega),a1a,a2k]
   ·have:l*n+(c-l)*n=c*n:=by rw[<-a1a];congr 1;omega
    omega
def yZ {lo hi:Option SV} {lov hiv:Option Value} (f:Sv F G ow w.heap x xv)
 (
  M:∀s,lo=some s->∃u,lov=some u/\Sv F G ow w.heap s u) (B:lo=none->lov=none) (N:∀s,hi=some s->∃u,hiv=some u/\Sv F G ow w.heap s u) (C:hi=none->hiv=none)
  (h:(BC P t x lo hi ow).can Q):∃s v,Q s/\(Instr.sliceAt t xv lov hiv none).run P w= .ok v w/\Sv F G ow w.heap s v:=by
 unfold BC at h;split at h
 ·rename_i a b S T
  have I:=tU M B S;have J:=tU N C T;split at h
  ·rename_i s
   split at h
   ·rename_i y
    obtain⟨p,h⟩:=h;rw[f.str_inv];exact⟨_,_,h,yY y I J p,.str _⟩
   ·exact h.elim
  ·rename_i o e l
   split at h
   ·rename_i y
    obtain⟨p,h⟩:=h;obtain⟨rfl,R,c,rfl,z,f⟩:=f.sl_inv;refine⟨_,_,h,mE y z I J p,?_⟩;obtain⟨_,_,K,L⟩:=mD p;have q:(Dg l a b).length=(b.getD l.length).toNat-(a.getD 0).toNat:=by rw[vA];simp;omega
    refine .v rfl ⟨_,_,by rw[q],by rw[q];omega,?_⟩;rcases f with rfl|⟨bb,o,r,rfl,hok,E,hel⟩
    ·exact .inl (by rw[vA];simp)
    ·by_cases O:c=(a.getD 0).toNat
     ·exact .inl (a0s (by omega))
     ·refine .inr ⟨bb,o+(a.getD 0).toNat*e.n,r,by simp[O,Addr.add_mid],hok,E,?_⟩
      have U:=hel.1;refine⟨?_,λi hi=> ?_⟩
      ·have:((a.getD 0).toNat+(Dg l a b).length)*e.n<=l.length*e.n:=a0o _ (by omega)
       rw[a1a]at this;omega
      ·have V:(Dg l a b)[i]=l[(a.getD 0).toNat+i]'(by omega):=by simp only[vA];simp
       rw[V];have:=hel.2 ((a.getD 0).toNat+i) (by omega);rw[a1a,<-a2k]at this;exact this
   ·exact h.elim
  ·rename_i d j ver D
   split at h
   ·rename_i r E
    obtain⟨W,X⟩:=r;dsimp only at h;split at h
    ·rename_i y
     obtain⟨p,h⟩:=h;obtain⟨rfl,m⟩:=g7 E;obtain⟨_,_,K,L⟩:=mD p
     cases f with
     |wh f=>
     rcases m with⟨k,H,l,m,g⟩|⟨k,H,l,m,g⟩|⟨k,l,H,m,g⟩<;>cases g<;>
     ·simp only[cZ,m,a2q]at f
      obtain⟨z,f⟩:=f;obtain⟨R,c,rfl,A,_⟩:=id f;refine⟨_,_,h,mE y A I J p,.os ?_⟩;simp only[cZ,m,a2r];have:=f.slice K L rfl;rw[a1l]at this;exact⟨by omega,this⟩
    ·exact h.elim
   ·exact h.elim
  ·rename_i d j ver D off len
   split at h
   ·rename_i r E
    obtain⟨W,X⟩:=r;dsimp only at h;split at h
    ·rename_i y
     obtain⟨p,h⟩:=h;obtain⟨rfl,m⟩:=g7 E;obtain⟨_,_,K,L⟩:=mD p
     cases f with
     |os f=>
     rcases m with⟨k,H,l,m,g⟩|⟨k,H,l,m,g⟩|⟨k,l,H,m,g⟩<;>cases g<;>
     ·simp only[cZ,m,a2r]at f
      obtain⟨z,f⟩:=f;obtain⟨R,c,rfl,A,_⟩:=id f;refine⟨_,_,h,mE y A I J p,.os ?_⟩;simp only[cZ,m,a2r];exact⟨by omega,f.slice K L rfl⟩
    ·exact h.elim
   ·exact h.elim
  ·exact h.elim
 ·exact h.elim
def Dm {ty:TypeId} {ts:List TypeId} (b:Sv F G ow w.heap x xv) (h:(Lx P t x ow).can Q):∃s v,Q s/\(Builtin.len_ (t::ts).toArray ty #[xv]).run P w= .ok v w/\Sv F G ow w.heap s v:=by
 unfold Lx at h;split at h
 ·rename_i s
  split at h
  ·rename_i g
   have o:P.underlying t=some .string:=by
    unfold lq ee at g;split at g
    ·assumption
    ·cases g
   rw[b.str_inv];have p:(ByteArray.mk s.toArray).size=s.length:=by simp[ByteArray.size]
   exact⟨_,_,h,by simp[Builtin.len_,run_underlying o,goInt,p],.int _ _⟩
  ·exact h.elim
 ·split at h
  ·rename_i g
   obtain⟨e,o⟩:∃e,P.underlying t=some (.slice e):=by
    unfold fW ee at g;split at g
    ·exact⟨_,by assumption⟩
    ·cases g
   have d:∀a n c,(Builtin.len_ (t::ts).toArray ty #[.slice a n c]).run P w= .ok (.int .i64 n) w:=λa n c=>by simp[Builtin.len_,run_underlying o,goInt]
   split at h
   ·obtain⟨_,_,_,rfl,_⟩:=b.sl_inv
    exact⟨_,_,h,d _ _ _,.int _ _⟩
   ·cases b
    exact⟨_,_,h,d _ _ _,.int _ _⟩
   ·split at h
    ·rename_i r q
     obtain⟨rfl,f⟩:=g7 q
     cases b with
     |wh b=>
     rcases f with⟨k,i,l,f,rfl⟩|⟨k,i,l,f,rfl⟩|⟨k,l,i,f,rfl⟩<;>
     ·simp only[cZ,f,a2q]at b
      obtain⟨_,_,_,rfl,_⟩:=b;exact⟨_,_,h,d _ _ _,.int _ _⟩
    ·split at h
     ·rename_i n j
      cases b with
      |wh b=>
      unfold PM at j;split at j
      ·rename_i m u
       cases j
       simp only[cZ,aA u,a2q]at b;obtain⟨_,_,rfl⟩:=b;exact⟨_,_,h,d _ _ _,.int _ _⟩
      ·cases j
     ·exact h.elim
   ·split at h
    ·rename_i r q
     obtain⟨rfl,f⟩:=g7 q
     cases b with
     |os b=>
     rcases f with⟨k,i,l,f,rfl⟩|⟨k,i,l,f,rfl⟩|⟨k,l,i,f,rfl⟩<;>
     ·simp only[cZ,f,a2r]at b
      obtain⟨_,_,_,rfl,_⟩:=b;exact⟨_,_,h,d _ _ _,.int _ _⟩
    ·exact h.elim
   ·exact h.elim
  ·exact h.elim
def Dn (a:lq P t=true):P.underlying t=some .string:=by
 unfold lq ee at a;split at a
 ·assumption
 ·cases a
def za (e:lq P t=true) {i:SV} {d:Value} (f:Sv F G ow w.heap x xv) (hi:Sv F G ow w.heap i d) (h:(BI x i).can Q):∃s v,Q s/\(Instr.index t xv d).run P w= .ok v w/\Sv F G ow w.heap s v:=by
 unfold BI at h;split at h
 ·rename_i s k n
  obtain⟨a,b,g,h⟩:=h;have a:(0:Int)<=n:=by simpa using a
  rw[f.str_inv,hi.int_inv];refine⟨_,_,h,?_,.int _ _⟩;obtain⟨c,rfl⟩:=a0p.1 g;have:(ByteArray.mk s.toArray)[n.toNat]?=some (s[n.toNat]):=by
   rw[ByteArray.getElem?_lt' _ _ (by simpa [ByteArray.size]using c)];rfl
  simp[Instr.index,asIntOf,run_underlying (Dn e),a,this]
 ·exact h.elim
def oh {src a e:TypeId} (g:P.underlying src=some (.slice e)) (h:P.underlying e=some (.int .u8)) (j:P.underlying a=some .string) {b o:Nat} {l:List Int} {r:Array Value}
 (k:am w.heap b=some r) (d:bu (λ(x:Int) cs=>cs=[Value.int .u8 x]) 1 l r o):
 (convert src a (.slice (some ⟨b,o,none⟩) l.length c)).run P w= .ok (.string ⟨(l.map λn:Int=>UInt8.ofNat n.toNat).toArray⟩) w:=by
 rw[run_convert_bytes_arg w src e g h b o l.length c l rfl (λi hi=> ?_) a j]
 ·rfl
 ·rw[bT k]
  have:=d.2 i hi;have m:=d.1;have f:=aR (r:=r) (o:=o+i*1) (n:=1) (i:=0) (by omega);rw[this]at f;simp only[a1p,a5z,a2z]at f;rw[<-f];simp[List.getD,hi]
def bu.part {α:Type} {R:α->List Value->Prop} {l:List α} {r:Array Value} {o:Nat} (h:bu R n l r o) {off:Nat} (a:off+len<=l.length):bu R n (aO l off len) r (o+off*n):=by
 have b:(aO l off len).length=len:=by simp[aO];omega
 refine⟨?_,λi hi=> ?_⟩
 ·have:=h.1
  have e:(off+len)*n<=l.length*n:=a0o _ a;rw[a1a]at e;rw[b];omega
 ·have:=h.2 (off+i) (by omega)
  rw[a1a,<-a2k]at this;have e:(aO l off len)[i]=l[off+i]'(by omega):=by simp[aO]
  rw[e];exact this
def jt (L:bt F G ow w.heap) (p:Sv F G ow w.heap x xv) {r:Sigma λk:Kd=>List k.T} (s:kU ow x=some r):∃d j ver l0,jL x=some (d,j)/\(aj ow d j=some (some (.row r.1 ver l0))\/aj ow d j=some (some (.frow r.1 ver l0)))/\r.1.good=true/\∃a c,xv= .slice a r.2.length c/\r.2.length<=c/\(r.2=[]\/∃b o g,(∃A,G d j 0=some (b,A))/\a=some ⟨b,o,none⟩/\am w.heap b=some g/\bu (λx cs=>cG w.heap (cW F G ow) r.1 x cs) r.1.n r.2 g o/\(nS ow d j=false->cW F G ow b)):=by
 have B:∀ {d j off:Nat} {len:Option Nat} {k:Kd} {l0:List k.T},cZ w.heap G ow d j off len xv->nQ ow d j []=some ⟨k,l0⟩->
  ∃ver,(aj ow d j=some (some (.row k ver l0))\/aj ow d j=some (some (.frow k ver l0)))/\k.good=true/\off+len.getD l0.length<=l0.length/\∃a c,xv= .slice a (len.getD l0.length) c/\len.getD l0.length<=c/\
  (aO l0 off (len.getD l0.length)=[]\/∃b o g,(∃A,G d j 0=some (b,A))/\a=some ⟨b,o,none⟩/\am w.heap b=some g/\bu (λx cs=>cG w.heap (cW F G ow) k x cs) k.n (aO l0 off (len.getD l0.length)) g o/\(nS ow d j=false->cW F G ow b)):=by
  intro d j off len k l0 p s;unfold nQ at s;split at s
  ·rename_i N ver O _ I
   cases s
   have t:=aA I;simp only[cZ,t]at p;obtain⟨i,a,c,rfl,l,p⟩:=p;obtain⟨_,f,C⟩:=L.obs d j _ t;refine⟨ver,.inl t,f,i,a,c,rfl,l,?_⟩;rcases p with⟨_,_,P⟩|⟨b,o,A,g,D,rfl,m,q,_⟩
   ·exact .inl (by simp[aO];omega)
   ·by_cases y:0<c
    ·have q:=q y
     subst q;simp only[D]at C;obtain⟨Q,et,J,z⟩:=C;have:=aS J;rw[m]at this;cases this
     exact .inr ⟨b,_,g,⟨o,D⟩,rfl,m,z.part i,λR=>by simp[nS,I]at R⟩
    ·exact .inl (by simp[aO];omega)
  ·rename_i N ver O _ I
   cases s
   have t:=aA I;simp only[cZ,t]at p;obtain⟨i,a,c,rfl,l,p⟩:=p;obtain⟨f,C⟩:=L.obs d j _ t;refine⟨ver,.inr t,f,i,a,c,rfl,l,?_⟩;rcases p with⟨_,_,P⟩|⟨b,o,A,g,D,rfl,m,q,_⟩
   ·exact .inl (by simp[aO];omega)
   ·by_cases y:0<c
    ·have q:=q y
     subst q;simp only[D]at C;rcases C with rfl|⟨hok,Q,J,z⟩
     ·exact .inl (by simp[aO])
     rw[m]at J;cases J
     exact .inr ⟨b,_,g,⟨o,D⟩,rfl,m,z.part i,λ_=>hok⟩
    ·exact .inl (by simp[aO];omega)
  ·cases s
 unfold kU at s;split at s
 ·rename_i d j ver E
  have K:=(we s).1;subst K
  cases p with
  |wh p=>
  obtain⟨u,t,f,i,a,c,v,l,h⟩:=B p s;have e:aO r.2 0 r.2.length=r.2:=by simp[aO]
  simp only[a2q,e]at v l h;exact⟨d,j,u,r.2,rfl,t,f,a,c,v,l,h⟩
 ·rename_i d j ver E off len
  split at s
  ·rename_i M H
   cases s
   have K:=(we H).1;subst K
   cases p with
   |os p=>
   obtain⟨u,t,f,i,a,c,v,l,h⟩:=B p H;simp only[a2r]at v l h i;have e:(aO M.2 off len).length=len:=by simp[aO];omega
   refine⟨d,j,u,M.2,rfl,t,f,a,c,?_,?_,h⟩<;>simp only[e]<;>assumption
  ·cases s
 ·cases s
def ve {src f:TypeId} (y:bt F G ow w.heap) (g:Sv F G ow w.heap x xv) (h:(sK P src f x ow).can Q):∃s v,Q s/\(convert src f xv).run P w= .ok v w/\Sv F G ow w.heap s v:=by
 unfold sK ee at h;split at h
 ·rename_i A k B n m p
  rw[g.int_inv];exact⟨_,_,h,by simp[convert,run_underlying m,run_underlying p,Conv.intToInt],.int _ _⟩
 ·rename_i e m p
  split at h
  ·rename_i u
   have q:∀l c,(convert src f (.slice none l c)).run P w= .ok (.string ByteArray.empty) w:=λl c=>run_convert_bytes_nil w src e m u l c f p
   have i:∀a c,(convert src f (.slice a 0 c)).run P w= .ok (.string ⟨#[]⟩) w:=λa c=>by
    cases a with
    |none=>exact q _ _
    |some a=>
     rw[run_convert_bytes_string w src f e _ 0 c m u p,run_bytesToString w a 0 c [] (by simpa using run_loadCells_list (P:=P) w a [] (λj v z=>by simp at z))];rfl
   split at h
   ·cases g
    exact⟨_,_,h,i _ _,.str _⟩
   ·rename_i o l
    obtain⟨rfl,a,c,rfl,_,g⟩:=g.sl_inv;rcases g with rfl|⟨b,of,r,rfl,_,hr,hel⟩
    ·exact⟨_,_,h,i _ _,.str _⟩
    ·exact⟨_,_,h,oh m u p hr hel,.str _⟩
   ·split at h
    ·rename_i l t
     obtain⟨d,j,ver,l0,_,_,_,a,c,rfl,_,g⟩:=jt y g t;rcases g with g|⟨b,of,r,_,rfl,hr,hel,_⟩
     ·simp only at g
      subst g;exact⟨_,_,h,i _ _,.str _⟩
     ·exact⟨_,_,h,oh m u p hr hel,.str _⟩
    ·exact h.elim
  ·exact h.elim
 ·exact h.elim
end
end Go.Pev
namespace Go.Pev
variable {t:TypeId} {Q:SV->Prop} {op:BinOp} {a b xv:Value} {x:SV}
section
variable {F:Nat->Prop} {G:Gh} {ow:OW} {w:World} {P:Program}
def oi (op:BinOp) (t:TypeId) (c d:Operand) (a b:Value) (h:(match a,b with
 | .nilIface,.nilIface=>do
  if(c matches .const _)||(d matches .const _)then return
  if<-Op.eqGuardIn Op.maxDepth t a b then unsupported (.noEntry "binop/eql: two nil values of an interface type with methods, neither of them the literal nil")
 | .agg _,.agg _=>do
  if !(<-program).eqGuardType (<-program).depth t then return
  if<-Op.eqGuardIn Op.maxDepth t a b then unsupported (.noEntry "binop/eql: two nil values of an interface type with methods, in a part of a struct or an array")
 |_,_=>pure ():Sem Unit).run P w= .ok () w):(eqGuard op t c d a b).run P w= .ok () w:=by
 cases op<;>simp only[eqGuard,a0t,a0y,a0u,a1z,a1s]<;>first|exact h|rfl
def c8 (op:BinOp) (t:TypeId) (c d:Operand) (a b:Value) (e:¬(a= .nilIface/\b= .nilIface)) (f:∀xs ys,¬(a= .agg xs/\b= .agg ys)):(eqGuard op t c d a b).run P w= .ok () w:=by
 apply oi;split
 ·exact absurd ⟨rfl,rfl⟩ e
 ·exact absurd ⟨rfl,rfl⟩ (f _ _)
 ·rfl
def gQ {c d:Operand} {v:Value} (e:(eqGuard op t c d a b).run P w= .ok () w) (f:(binOp op t a b).run P w= .ok v w):(do eqGuard op t c d a b;binOp op t a b:Sem Value).run P w= .ok v w:=by
 rw[Sem.run_bind,e,Result.andThen_ok,f]
def BV {k:IntKind} {a b:Int} (h:(Fs op k a b).can Q):∃s v,Q s/\(binOp op t (.int k a) (.int k b)).run P w= .ok v w/\Sv F G ow w.heap s v:=by
 cases op<;>simp only[Fs]at h<;>first
  |exact⟨_,_,h,by simp[binOp,Op.intArith,Op.intBits,Op.intCmp],.int _ _⟩
  |exact⟨_,_,h,by simp[binOp,Op.intArith,Op.intBits,Op.intCmp],.bool _⟩
  |exact h.elim
  |(
   obtain⟨c,h⟩:=h
   have c:¬b=0:=by simpa using c
   exact⟨_,_,h,by simp[binOp,Op.intDiv,c],.int _ _⟩)
def BW {a b:List UInt8} (h:(Ft op a b).can Q):∃s v,Q s/\(binOp op t (.string ⟨a.toArray⟩) (.string ⟨b.toArray⟩)).run P w= .ok v w/\Sv F G ow w.heap s v:=by
 cases op<;>simp only[Ft]at h<;>first
  |exact h.elim
  |exact⟨_,_,h,by simp[binOp,Op.stringOp],.bool _⟩
  |(
   obtain⟨c,h⟩:=h
   have c:((a.length+b.length:Nat):Int)<=9223372036854775807:=a0z c;refine⟨_,_,h,?_,.str _⟩;have e:(binOp .add t (.string ⟨a.toArray⟩) (.string ⟨b.toArray⟩)).run P w=(Op.stringOp .add ⟨a.toArray⟩ ⟨b.toArray⟩).run P w:=by simp only[binOp]
   rw[e,run_string_add_sum,ByteArray.mk_append_mk];have d:(ByteArray.mk a.toArray).size=a.length:=by simp[ByteArray.size]
   have f:(ByteArray.mk b.toArray).size=b.length:=by simp[ByteArray.size]
   rw[d,f];omega)
def gp {c:Bool} (h:∀d,(Op.equalIn (d+1) t a b).run P w= .ok c w):(Op.equal t a b).run P w= .ok c w:=h 9999
def ny {e:TypeId} (b:P.underlying t=some (.slice e)) (a:Option Addr) (n c d:Nat):(Op.equalIn (d+1) t (.slice a n c) (.slice none 0 0)).run P w= .ok a.isNone w:=by
 cases a<;>simp[Op.equalIn,run_underlying b]
def wg {ms} (a:P.underlying t=some (.interface ms)) (d:Nat):(Op.equalIn (d+1) t .nilIface .nilIface).run P w= .ok true w:=by
 simp[Op.equalIn,run_underlying a]
def wj {ms} (a:P.underlying t=some (.interface ms)) (d:Nat) (ty:TypeId) (v:Value):(Op.equalIn (d+1) t .nilIface (.iface ty v)).run P w= .ok false w:=by
 simp[Op.equalIn,run_underlying a]
def wk {ms} (a:P.underlying t=some (.interface ms)) (d:Nat) (ty:TypeId) (v:Value):(Op.equalIn (d+1) t (.iface ty v) .nilIface).run P w= .ok false w:=by
 simp[Op.equalIn,run_underlying a]
def kp {c:Bool} (h:(Lz op c).can Q) (d:(Op.equal t a b).run P w= .ok c w)
 (e:∀op,op= .eql\/op= .neq->binOp op t a b=(do let r<-Op.equal t a b;pure (.bool (if op= .eql then r else !r)))):
 ∃s v,Q s/\(binOp op t a b).run P w= .ok v w/\Sv F G ow w.heap s v:=by
 unfold Lz Og at h
 cases op<;>first
  |exact h.elim
  |exact⟨_,_,h,by rw[e _ (.inl rfl)];simp[d],.bool _⟩
  |exact⟨_,_,h,by rw[e _ (.inr rfl)];simp[d],.bool _⟩
def mF {s:SV} {v:Value} {b:Bool} (h:Sv F G ow w.heap s v) (a:sL s=some b):v= .bool b:=by
 unfold sL at a;split at a
 ·cases a;exact h.bool_inv
 ·cases a;exact h.lb_inv
 ·cases a
def nz {xs ys:List Value}:(l:List Field)->(i:Nat)-> {a b:List SV}-> {c:Bool}->eR P i l a b=some c->(d:Nat)->dq F G ow w.heap a (xs.drop i)->dq F G ow w.heap b (ys.drop i)->(Op.eqFields (d+1) xs.toArray ys.toArray l).run P w= .ok c w
 |[],_,[],[],_,h,_,_,_=>by cases h;rfl
 |[],_,_::_,_,_,h,_,_,_=>by simp[eR]at h
 |[],_,[],_::_,_,h,_,_,_=>by simp[eR]at h
 |_::_,_,[],_,_,h,_,_,_=>by simp[eR]at h
 |_::_,_,_::_,[],_,h,_,_,_=>by simp[eR]at h
 |f::l,i,a::r,b::s,c,h,d,ha,hb=>by
  obtain⟨x,p,C,q,n⟩:=ha.uncons;obtain⟨y,t,D,u,o⟩:=hb.uncons;have I:xs.drop (i+1)=p:=by rw[<-a4k,C];rfl
  have J:ys.drop (i+1)=t:=by rw[<-a4k,D];rfl
  rw[<-I]at n;rw[<-J]at o;have K:xs[i]?=some x:=by have:=a1x (·[0]?) C;simpa using this
  have L:ys[i]?=some y:=by have:=a1x (·[0]?) D;simpa using this
  simp only[eR]at h;split at h
  ·rename_i E
   simp only[a0c,bne_iff_ne,ne_eq,a3f]at E;obtain⟨M,N⟩:=E;have H:∀(d':TypeDesc),P.underlying f.type=some d'->d'.isRow=false->∀(v:List Value) z,v[i]?=some z->(part f.type v.toArray f.offset).run P w= .ok z w:=by
    intro d' j A v z O;have B:dS P f.type=false:=by unfold dS ee;rw[j];cases d'<;>simp_all[TypeDesc.isRow]
    simp[part,mz j,B,N,O]
   have step:∀(d':TypeDesc),P.underlying f.type=some d'->d'.isRow=false->∀e,(Op.equalIn (d+1) f.type x y).run P w= .ok e w->∀m,eR P (i+1) l r s=some m->(Op.eqFields (d+1) xs.toArray ys.toArray (f::l)).run P w= .ok (e&& m) w:=by
    intro d' j A e Q m g;have ih:=nz l (i+1) g d n o;simp only[Op.eqFields,ne_eq,M,not_false_eq_true,a1s,Sem.run_bind,H d' j A xs x K,H d' j A ys y L,Result.andThen_ok,Q]
    cases e
    ·simp
    ·simpa using ih
   split at h
   ·rename_i k a T b
    rw[q.int_inv,u.int_inv]at step;split at h
    ·rename_i R
     subst R;split at h
     ·rename_i S j
      split at h
      ·rename_i m g
       cases h
       exact step _ j rfl _ (run_equalIn_int w d f.type k S a b j) _ g
      ·cases h
     ·cases h
    ·cases h
   ·rename_i a b
    rw[q.str_inv,u.str_inv]at step;split at h
    ·rename_i j
     split at h
     ·rename_i m g
      cases h
      exact step _ j rfl _ (by rw[run_equalIn_string w d f.type _ _ j];simp) _ g
     ·cases h
    ·cases h
   ·rename_i a b
    rw[q.bool_inv,u.bool_inv]at step;split at h
    ·rename_i j
     split at h
     ·rename_i m g
      cases h
      exact step _ j rfl _ (run_equalIn_bool' w d f.type a b j) _ g
     ·cases h
    ·cases h
   ·cases h
  ·cases h
def zb (h:vX P t=true):∃a,P.underlying t=some (.interface a):=by
 unfold vX ee at h;split at h
 ·exact⟨_,by assumption⟩
 ·cases h
def BX (h:BF P t=true):P.underlying t=some .bool:=by
 unfold BF ee at h;split at h
 ·assumption
 ·cases h
def gI (h:fW P t=true):∃e,P.underlying t=some (.slice e):=by
 unfold fW ee at h;split at h
 ·exact⟨_,by assumption⟩
 ·cases h
def zd {i:TypeId} (j:P.underlying t=some (.slice i)) {a:Option Addr} {n c:Nat} {e:Bool} (h:(BG op e).can Q) (f:e=false->a.isSome=true):∃s v,Q s/\(binOp op t (.slice a n c) (.slice none 0 0)).run P w= .ok v w/\Sv F G ow w.heap s v:=by
 have g:(Op.equal t (.slice a n c) (.slice none 0 0)).run P w= .ok a.isNone w:=gp λd=>ny j a n c d
 unfold BG at h;split at h
 ·have b:(binOp .eql t (.slice a n c) (.slice none 0 0)).run P w= .ok (.bool a.isNone) w:=by simp[binOp,g]
  cases a with
  |none=>
   cases e with
   |true=>exact⟨_,_,h.1,b,.lb _⟩
   |false=>simp at f
  |some a=>
   cases e with
   |true=>exact⟨_,_,h.2,b,.lb _⟩
   |false=>exact⟨_,_,h,b,.lb _⟩
 ·have b:(binOp .neq t (.slice a n c) (.slice none 0 0)).run P w= .ok (.bool !a.isNone) w:=by simp[binOp,g]
  cases a with
  |none=>
   cases e with
   |true=>exact⟨_,_,h.1,b,.lb _⟩
   |false=>simp at f
  |some a=>
   cases e with
   |true=>exact⟨_,_,h.2,b,.lb _⟩
   |false=>exact⟨_,_,h,b,.lb _⟩
 ·exact h.elim
def ze (f:bt F G ow w.heap) (b:Sv F G ow w.heap x xv) {e:Bool} (h:BH ow x=some e):∃a n c,xv= .slice a n c/\(e=false->a.isSome=true):=by
 unfold BH at h;split at h
 ·cases h
  obtain⟨_,a,c,rfl,_,b⟩:=b.sl_inv;refine⟨_,_,_,rfl,λd=> ?_⟩;rcases b with rfl|⟨_,_,_,rfl,_⟩
  ·simp at d
  ·rfl
 ·split at h
  ·rename_i r g
   cases h
   obtain⟨_,_,_,_,_,_,_,a,c,rfl,_,b⟩:=jt f b g;refine⟨_,_,_,rfl,λd=> ?_⟩;rcases b with b|⟨_,_,_,_,rfl,_⟩
   ·simp[b]at d
   ·rfl
  ·cases h
def Do {u:Bool} {z A:Operand} (B:u=((z matches .const _)||(A matches .const _))) {y:SV} {H:Value} (T:bt F G ow w.heap)
 (m:Sv F G ow w.heap x xv) (o:Sv F G ow w.heap y H) (h:(LA P op t u x y ow).can Q):
 ∃s v,Q s/\(do eqGuard op t z A xv H;binOp op t xv H:Sem Value).run P w= .ok v w/\Sv F G ow w.heap s v:=by
 unfold LA at h;split at h
 ·rename_i k a U b
  rw[m.int_inv,o.int_inv];have r:(eqGuard op t z A (.int k a) (.int U b)).run P w= .ok () w:=c8 _ _ _ _ _ _ (by simp) (by simp);split at h
  ·obtain⟨f,h⟩:=h
   have f:¬b<(0:Int):=Int.not_lt.2 (a0z f);exact⟨_,_,h,gQ r (by simp[binOp,Op.shift,f]),.int _ _⟩
  ·obtain⟨f,h⟩:=h
   have f:¬b<(0:Int):=Int.not_lt.2 (a0z f);exact⟨_,_,h,gQ r (by simp[binOp,Op.shift,f]),.int _ _⟩
  ·split at h
   ·rename_i V
    subst V;obtain⟨s,v,g,i,j⟩:=BV (F:=F) (G:=G) (ow:=ow) (w:=w) (P:=P) (t:=t) h;exact⟨s,v,g,gQ r i,j⟩
   ·exact h.elim
 ·rename_i a b
  split at h
  ·rw[m.str_inv,o.str_inv]
   obtain⟨s,v,g,i,j⟩:=BW (F:=F) (G:=G) (ow:=ow) (w:=w) (P:=P) (t:=t) h;exact⟨s,v,g,gQ (c8 _ _ _ _ _ _ (by simp) (by simp)) i,j⟩
  ·exact h.elim
 ·rename_i a b
  split at h
  ·rename_i f
   simp only[a0c]at f;obtain⟨X,l⟩:=zb f.1;obtain⟨I,h⟩:=h;have C:=f.2;rw[B]at C
   cases m with
   |v _ m=>
   cases o with
   |v _ o=>
   rcases m with⟨rfl,m⟩|⟨rfl,tx,N,m⟩<;>rcases o with⟨rfl,o⟩|⟨rfl,ty,O,o⟩<;>cases m<;>cases o
   ·obtain⟨s,v,g,i,j⟩:=kp (F:=F) (G:=G) (ow:=ow) (w:=w) (P:=P) (t:=t) (a:= .nilIface) (b:= .nilIface) h (gp λd=>wg l d) (λop p=>by rcases p with rfl|rfl<;>simp[binOp])
    refine⟨s,v,g,gQ (oi _ _ _ _ _ _ ?_) i,j⟩;simp only[];rw[a0b (by simpa using C)];rfl
   ·obtain⟨s,v,g,i,j⟩:=kp (F:=F) (G:=G) (ow:=ow) (w:=w) (P:=P) (t:=t) (a:= .nilIface) (b:= .iface ty O) h (gp λd=>wj l d ty O) (λop p=>by rcases p with rfl|rfl<;>simp[binOp])
    exact⟨s,v,g,gQ (c8 _ _ _ _ _ _ (by simp) (by simp)) i,j⟩
   ·obtain⟨s,v,g,i,j⟩:=kp (F:=F) (G:=G) (ow:=ow) (w:=w) (P:=P) (t:=t) (a:= .iface tx N) (b:= .nilIface) h (gp λd=>wk l d tx N) (λop p=>by rcases p with rfl|rfl<;>simp[binOp])
    exact⟨s,v,g,gQ (c8 _ _ _ _ _ _ (by simp) (by simp)) i,j⟩
   ·simp at I
  ·exact h.elim
 ·rename_i a b
  split at h
  ·rename_i R l
   split at h
   ·exact h.elim
   rename_i q;simp only[a4z,not_or,a5g]at q;split at h
   ·rename_i c f
    obtain⟨xs,rfl,J⟩:=m.agg_inv;obtain⟨ys,rfl,K⟩:=o.agg_inv;have S:P.fieldsOf t=R:=by simp[Program.fieldsOf,ee]at l⊢;rw[l]
    have L:P.underlying t=some (.struct (P.fieldsOf t)):=by rw[S];exact l
    have E:(Op.equal t (.agg xs.toArray) (.agg ys.toArray)).run P w= .ok c w:=by
     show(Op.equalIn (9998+1+1) t _ _).run P w=_
     generalize (9998:Nat)=d
     rw[run_equalIn_struct w (d+1) t _ _ L q.1,S];exact nz R.toList 0 f d (by simpa using J) (by simpa using K)
    obtain⟨s,v,g,i,j⟩:=kp (F:=F) (G:=G) (ow:=ow) (w:=w) (P:=P) (t:=t) h E (λop p=>by rcases p with rfl|rfl<;>simp[binOp]);exact⟨s,v,g,gQ (run_eqGuard_agg w op t z A _ _ q.2) i,j⟩
   ·exact h.elim
  ·exact h.elim
 ·split at h
  ·rename_i D
   obtain⟨e,l⟩:=gI D;split at h
   ·rename_i c f
    cases m
    cases o
    have E:(Op.equal t (.slice none 0 0) (.slice none 0 0)).run P w= .ok true w:=gp λd=>ny l none 0 0 d
    have r:(eqGuard op t z A (.slice none 0 0) (.slice none 0 0)).run P w= .ok () w:=c8 _ _ _ _ _ _ (by simp) (by simp)
    cases op<;>simp[Og]at f
    ·subst f;exact⟨_,_,h,gQ r (by simp[binOp,E]),.lb _⟩
    ·subst f;exact⟨_,_,h,gQ r (by simp[binOp,E]),.lb _⟩
   ·exact h.elim
  ·exact h.elim
 ·split at h
  ·rename_i D
   obtain⟨e,l⟩:=gI D;split at h
   ·rename_i c f
    cases o
    obtain⟨a,n,Y,rfl,M⟩:=ze T m f;obtain⟨s,v,g,i,j⟩:=zd (F:=F) (G:=G) (ow:=ow) (w:=w) l h M;exact⟨s,v,g,gQ (c8 _ _ _ _ _ _ (by simp) (by simp)) i,j⟩
   ·exact h.elim
  ·exact h.elim
 ·split at h
  ·rename_i a b M W
   split at h
   ·rename_i D
    have l:=BX D;rw[mF m M,mF o W];obtain⟨s,v,g,i,j⟩:=kp (F:=F) (G:=G) (ow:=ow) (w:=w) (P:=P) (t:=t) (a:= .bool a) (b:= .bool b) h (gp λd=>run_equalIn_bool' w d t a b l) (λop p=>by rcases p with rfl|rfl<;>simp[binOp])
    exact⟨s,v,g,gQ (c8 _ _ _ _ _ _ (by simp) (by simp)) i,j⟩
   ·exact h.elim
  ·exact h.elim
def Fz {op:UnOp} (a:Sv F G ow w.heap x xv) (h:(P8 op x).can Q):∃s v,Q s/\(Op.unary op xv).run P w= .ok v w/\Sv F G ow w.heap s v:=by
 unfold P8 at h;split at h
 ·rw[a.bool_inv];exact⟨_,_,h,by simp[Op.unary],.bool _⟩
 ·rw[a.lb_inv];exact⟨_,_,h,by simp[Op.unary],.lb _⟩
 ·rw[a.int_inv];exact⟨_,_,h,by simp[Op.unary,Op.intArith],.int _ _⟩
 ·rw[a.int_inv];exact⟨_,_,h,by simp[Op.unary,Op.intBits],.int _ _⟩
 ·exact h.elim
def BY {c a b:SV} {f d e:Value} (g:Sv F G ow w.heap c f) (i:Sv F G ow w.heap a d) (j:Sv F G ow w.heap b e) (h:(Fu c a b).can Q):∃s v,Q s/\(do pure (if<-asBool f then d else e):Sem Value).run P w= .ok v w/\Sv F G ow w.heap s v:=by
 unfold Fu at h;split at h
 ·rename_i t
  rw[g.lb_inv]
  cases t
  ·exact⟨_,e,h,by simp[asBool],j⟩
  ·exact⟨_,d,h,by simp[asBool],i⟩
 ·rename_i t
  split at h
  ·rename_i x y k l
   rw[g.bool_inv,mF i k,mF j l]
   cases t
   ·exact⟨_,_,h,by simp[asBool],.bool _⟩
   ·exact⟨_,_,h,by simp[asBool],.bool _⟩
  ·exact h.elim
 ·exact h.elim
end
end Go.Pev
namespace Go.Pev
variable {t:TypeId} {Q:SV->Prop} {v xv:Value} {x:SV}
section
variable {F:Nat->Prop} {G:Gh} {ow:OW} {w:World} {P:Program}
def FA {s:SV} (h:Sv F G ow w.heap s v) (b:vU s=true):v.oneCell'=true:=by
 cases h with
 | @v k x val hk a=>
  cases k with
  |int _=>cases a;rfl
  |bool=>cases a;rfl
  |str=>cases a;rfl
  |err=>rcases a with⟨_,a⟩|⟨_,_,_,a⟩<;>cases a<;>rfl
  |any=>cases a;rfl
  |sl o e=>
   cases o with
   |true=>exact a.elim
   |false=>obtain⟨_,_,a,_⟩:=a;cases a;rfl
  |nil=>cases hk
  |cons _ _=>cases hk
  |tree _=>obtain⟨v,a,c⟩:=a;cases a;obtain⟨_,_,rfl⟩:=c.ptr;rfl
 |lb=>rfl
 |dead=>cases b
 |nils=>rfl
 |agg=>cases b
 |tup=>cases b
 |fn=>rfl
 |wh h=>
  unfold cZ at h;split at h
  ·exact h.elim
  ·exact h
  ·exact h.elim
  ·obtain⟨_,_,_,rfl,_⟩:=h;rfl
  ·obtain⟨_,_,_,rfl,_⟩:=h;rfl
  ·obtain⟨_,_,_,rfl,_⟩:=h;rfl
  ·obtain⟨_,_,rfl⟩:=h;rfl
 |os h=>
  unfold cZ at h;split at h
  ·exact h.elim
  ·exact h
  ·exact h.elim
  ·obtain⟨_,_,_,rfl,_⟩:=h;rfl
  ·obtain⟨_,_,_,rfl,_⟩:=h;rfl
  ·obtain⟨_,_,_,rfl,_⟩:=h;rfl
  ·obtain⟨_,_,rfl⟩:=h;rfl
 |bp h=>
  split at h
  ·exact h.elim
  ·exact h
  ·obtain⟨_,_,_,rfl⟩:=h;rfl
  ·exact h
  ·exact h.elim
 |rp h=>
  split at h
  ·exact h.elim
  ·exact h
  ·obtain⟨_,_,_,_,rfl⟩:=h;rfl
  ·obtain⟨_,_,_,_,rfl⟩:=h;rfl
  ·obtain⟨_,_,_,_,rfl⟩:=h;rfl
  ·exact h
  ·exact h.elim
 |ip=>rfl
def ij (h:v.oneCell'=true):v.cells= #[v]:=by cases v<;>simp_all[Value.cells,Value.oneCell']
def fk {s:SV} (d:Sv F G ow w.heap s v) {b:List SV} (h:fx P t s=some b):∃vs,v.cells=vs.toArray/\dq F G ow w.heap b vs/\(∀u∈vs,u.oneCell'=true)/\vs.length=cV P t:=by
 unfold fx at h;split at h
 ·split at h
  ·split at h
   ·rename_i l e
    simp only[a0c,a0q]at e
    cases h
    obtain⟨vs,rfl,a⟩:=d.agg_inv;refine⟨vs,rfl,a,λu g=> ?_,by rw[<-a.1,e.1]⟩;obtain⟨i,hi,rfl⟩:=a5d g;have c:i<b.length:=by rw[a.1];exact hi
    exact FA (a.2 i c hi) (a1g.1 e.2 _ (a0l c))
   ·cases h
  ·cases h
 ·split at h
  ·rename_i f
   simp only[a0c,a0q]at f
   cases h
   have c:=FA d f.1;exact⟨[v],ij c,.cons d .nil,by simpa using c,by simp[f.2]⟩
  ·cases h
def tV:(n:Nat)->(v:Value)->Sv F G ow w.heap (nP n v) v:=by
 intro n
 induction n with
 |zero=>
  intro v;unfold nP;split
  ·exact .lb _
  ·exact .int _ _
  ·rename_i s;exact .v rfl (by simp[cG])
  ·exact .nils
  ·exact .v rfl (.inl ⟨rfl,rfl⟩)
  ·rename_i e;cases e
  ·rename_i e;cases e
  ·exact .dead _
 |succ n ih=>
  intro v;unfold nP;split
  ·exact .lb _
  ·exact .int _ _
  ·rename_i s;exact .v rfl (by simp[cG])
  ·exact .nils
  ·exact .v rfl (.inl ⟨rfl,rfl⟩)
  ·rename_i f cs e
   cases e
   have:Sv F G ow w.heap (.agg (cs.toList.map (nP n))) (.agg cs.toList.toArray):= .agg (by simp) (λi c d=>by simp only[a3i];exact ih _);simpa using this
  ·rename_i f g a b e
   cases e
   have:Sv F G ow w.heap (.fn g (a.toList.map (nP n)) (b.toList.map (nP n))) (.func g a.toList.toArray b.toList.toArray):= .fn (by simp) (by simp) (λi c d=>by simp only[a3i];exact ih _) (λi c d=>by simp only[a3i];exact ih _)
   simpa using this
  ·exact .dead _
def nA {a:List SV} (h:lM P t=some a):∃i v,P.info? t=some i/\i.zero=some v/\v.cells.size=i.size/\dq F G ow w.heap a v.cells.toList:=by
 unfold lM at h;split at h
 ·rename_i i hi
  split at h
  ·rename_i v b
   split at h
   ·rename_i c
    cases h
    exact⟨i,v,hi,b,c,by simp,λj d e=>by simp only[a3i];exact tV 4 _⟩
   ·cases h
  ·cases h
 ·cases h
def fy {i:TypeInfo} (hi:P.info? t=some i) (a:i.zero=some v):(zeroValue t).run P w= .ok v w:=by
 simp[zeroValue,typeInfo,hi,a]
def wl {b c:List SV} {cs vs:List Value} (f:dq F G ow w.heap b cs) (g:dq F G ow w.heap c vs) {off:Nat} {r:List SV} (h:js b off c=some r):
 off+vs.length<=cs.length/\dq F G ow w.heap r (cs.take off++vs++cs.drop (off+vs.length))/\
 vs.toArray.zipIdx.foldl (λa (x:Value×Nat)=>a.setIfInBounds (off+x.2) x.1) cs.toArray=(cs.take off++vs++cs.drop (off+vs.length)).toArray:=by
 unfold js at h;split at h
 ·rename_i i
  cases h
  have d:off+vs.length<=cs.length:=by rw[<-f.1,<-g.1];exact i
  refine⟨d,?_,?_⟩
  ·rw[g.1]
   exact((f.take off).append g).append (f.drop _)
  ·obtain⟨n,j⟩:=Great.foldl_set off vs 0 cs.toArray
   have e:vs.toArray.zipIdx.foldl (λa (x:Value×Nat)=>a.setIfInBounds (off+x.2) x.1) cs.toArray=(vs.zipIdx 0).foldl (λa (x:Value×Nat)=>a.setIfInBounds (off+x.2) x.1) cs.toArray:=by
    rw[<-Array.foldl_toList];simp
   rw[e];apply Array.ext_getElem?;intro k;rw[j k];simp only[a2z,a2s,a8p];by_cases l:k<off
   ·rw[ifNegQ,a1q,a1i (by simp;omega),a5a l]
   ·by_cases m:k<off+vs.length
    ·rw[ifPosQ,a1i (by simp;omega),a1j (by simp;omega)]
     simp[a8q (show off<=cs.length by omega)]
    ·rw[ifNegQ,a1j (by simp;omega)]
     simp only[a0m,a1m,a2x]
     congr 1
     omega
 ·cases h
def tW {t:TypeId} {l:Array Field} (y:P.underlying t=some (.struct l)):(ps:List (Nat×SV))-> {a r:List SV}->HL P t a ps=some r-> {cs:List Value}->dq F G ow w.heap a cs->
 {vps:List (Nat×Value)}->ps.map (·.1)=vps.map (·.1)->dq F G ow w.heap (ps.map (·.2)) (vps.map (·.2))->
 ∃vs,Instr.fill ((l.map λf=>(f.offset,cV P f.type))[·]?) cs.toArray vps=some vs.toArray/\dq F G ow w.heap r vs
 |[],_,_,h,cs,hc,vps,c,_=>by
  cases h
  cases vps with
  |nil=>exact⟨cs,rfl,hc⟩
  |cons _ _=>simp at c
 |(f,s)::ps,a,r,h,cs,hc,vps,c,h2=>by
  cases vps with
  |nil=>simp at c
  |cons p vps=>
  obtain⟨L,v⟩:=p;simp only[a2f,a4y]at c;obtain⟨rfl,c⟩:=c;obtain⟨M,A,e,B,m⟩:=h2.uncons;simp only[a2f,a4y]at e;obtain⟨rfl,rfl⟩:=e;simp only[HL]at h;split at h
  ·rename_i z n
   split at h
   ·rename_i C g
    split at h
    ·rename_i k b
     obtain⟨vs,o,D,_,i⟩:=fk B g;obtain⟨E,q,d⟩:=wl hc D b;obtain⟨H,I,u⟩:=tW y ps h q c m;refine⟨H,?_,u⟩;obtain⟨J,j,x⟩:=oe n;rw[y]at j
     cases j
     have K:(l.map λf=>(f.offset,cV P f.type))[f]?=some (z.offset,cV P z.type):=by simp[x]
     unfold Instr.fill;simp only[K,o,a2s];rw[a0e (by simp[i];omega),d];exact I
    ·cases h
   ·cases h
  ·cases h
def FB (l:List Field) (h:l.all (λf=>(P.info? f.type).isSome)=true):(l.mapM λf=>(do pure (f.offset,<-sizeOf f.type):Sem (Nat×Nat))).run P w= .ok (l.map λf=>(f.offset,cV P f.type)) w:=by
 induction l with
 |nil=>rfl
 |cons f l ih=>
  simp only[a6f,a0c]at h;obtain⟨i,hi⟩:=a7w.1 h.1;simp only[a7r,Sem.run_bind,Al hi,Result.andThen_ok,Sem.run_pure,ih h.2,a2f]
def zf {ps:List (Nat×SV)} {vps:List (Nat×Value)} (m:ps.map (·.1)=vps.map (·.1)) (n:dq F G ow w.heap (ps.map (·.2)) (vps.map (·.2))) (h:(BD P t ps).can Q):∃s v,Q s/\(Instr.build t vps.toArray).run P w= .ok v w/\Sv F G ow w.heap s v:=by
 unfold BD ee at h;split at h
 ·rename_i c k o l
  split at h
  ·rename_i a
   split at h
   ·rename_i r p
    obtain⟨i,z,hi,d,_,g⟩:=nA (F:=F) (G:=G) (ow:=ow) (w:=w) o;obtain⟨vs,b,j⟩:=tW l ps p g m n;refine⟨_,.agg vs.toArray,h,?_,j.agg⟩;simp only[Instr.build,Sem.run_bind,fy hi d,Result.andThen_ok,run_underlying l];have e:(k.mapM λf=>(do pure (f.offset,<-sizeOf f.type):Sem (Nat×Nat))).run P w= .ok (k.map λf=>(f.offset,cV P f.type)) w:=by
     rw[a7s,Sem.run_map,FB _ a];simp only[Result.andThen_ok]
     congr 1
     apply a4l;simp
    rw[e];simp only[Result.andThen_ok];simp only[a6z]at b;rw[b];rfl
   ·exact h.elim
  ·exact h.elim
 ·exact h.elim
def LN {d:TypeDesc} (a:P.underlying t=some d) {cs:List Value} {off:Nat} (b:(if dS P t then cV P t else 1)<=(cs.drop off).length):(part t cs.toArray off).run P w= .ok (rt (dS P t) ((cs.drop off).take (if dS P t then cV P t else 1))) w:=by
 obtain⟨i,hi⟩:=gT a
 cases ha:dS P t with
 |true=>
  simp only[part,Sem.run_bind,mz a,ha,Result.andThen_ok,a1s,Al hi,Sem.run_pure,rt]
  congr 2
  apply a4l;simp
 |false=>
  simp only[ha,a0u,a1z,a2w]at b;have c:cs[off]?=some (cs[off]'(by omega)):=a0a (by omega);have e:(cs.drop off).take 1=[cs[off]'(by omega)]:=by rw[a1b (by omega)];rfl
  simp[part,mz a,ha,c,rt,e]
def zg {f:Nat} (i:Sv F G ow w.heap x xv) (h:(BE P t x f).can Q):∃s v,Q s/\(Instr.field t xv f).run P w= .ok v w/\Sv F G ow w.heap s v:=by
 unfold BE at h;split at h
 ·rename_i cs g j
  obtain⟨s,k,l⟩:=bc.can_ofOpt h;obtain⟨vs,rfl,a⟩:=i.agg_inv;obtain⟨o,m,c⟩:=oe j;obtain⟨⟨d,n⟩,_,b,e⟩:=eJ (a.drop g.offset) k;rw[(a.drop g.offset).1]at b;refine⟨s,_,l,?_,e⟩;simp only[Instr.field,Sem.run_bind,run_underlying m,Result.andThen_ok,c,asAgg,Sem.run_pure];exact LN n b
 ·exact h.elim
def zh (b:Sv F G ow w.heap x xv) (h:(BJ P t x).can Q):∃s v,Q s/\(Instr.makeInterface t xv).run P w= .ok v w/\Sv F G ow w.heap s v:=by
 unfold BJ ee at h;split at h
 ·rename_i n a
  rw[b.int_inv];exact⟨_,.iface t (.int .i64 n),h,by simp[Instr.makeInterface,run_underlying a],.v rfl rfl⟩
 ·rename_i s a
  rw[b.str_inv];exact⟨_,.iface t (.string ⟨s.toArray⟩),h,by simp[Instr.makeInterface,run_underlying a],.v rfl rfl⟩
 ·exact h.elim
def BZ (h:BK P t=true):∃i,P.info? t=some i/\i.zero=some (.int .i64 0):=by
 unfold BK at h;split at h
 ·rename_i e
  simp only[a1y]at e;exact e
 ·cases h
def B0 (h:BL P t=true):∃i,P.info? t=some i/\i.zero=some (.string ⟨#[]⟩):=by
 unfold BL at h;split at h
 ·rename_i s e
  simp only[a1y]at e;obtain⟨i,hi,a⟩:=e;refine⟨i,hi,?_⟩;rw[a];obtain⟨d⟩:=s;simp at h;rw[h]
 ·cases h
def wm {xt:TypeId} (c:Sv F G ow w.heap x xv) (h:(vY P t x).can Q):∃s v,Q s/\(Instr.typeAssert xv xt t true).run P w= .ok v w/\Sv F G ow w.heap s v:=by
 unfold vY ee at h;split at h
 ·rename_i y d
  split at h
  ·rename_i e
   obtain⟨i,hi,a⟩:=BZ e;obtain⟨f,h⟩:=h
   cases c with
   |v _ c=>
   cases c
   obtain⟨ty,u⟩:=y;by_cases b:ty=t
   ·subst b
    cases u with
    |inl n=>
     refine⟨_,.tuple #[.int .i64 n,.bool true],h,by simp[Instr.typeAssert,run_underlying d,Qc],?_⟩;simp only[a5h,a1r];exact .tup rfl (dq.cons (.int _ _) (.cons (.bool _) .nil)).2
    |inr s=>simp at f
   ·refine⟨_,.tuple #[.int .i64 0,.bool false],h,by simp[Instr.typeAssert,run_underlying d,b,fy hi a],?_⟩
    have:(ty==t)=false:=by simpa using b
    simp only[this,a2p];exact .tup rfl (dq.cons (.int _ _) (.cons (.bool _) .nil)).2
  ·exact h.elim
 ·rename_i y d
  split at h
  ·rename_i e
   obtain⟨i,hi,a⟩:=B0 e;obtain⟨f,h⟩:=h
   cases c with
   |v _ c=>
   cases c
   obtain⟨ty,u⟩:=y;by_cases b:ty=t
   ·subst b
    cases u with
    |inr n=>
     refine⟨_,.tuple #[.string ⟨n.toArray⟩,.bool true],h,by simp[Instr.typeAssert,run_underlying d,Qc],?_⟩;simp only[a5h,a1r];exact .tup rfl (dq.cons (.str _) (.cons (.bool _) .nil)).2
    |inl s=>simp at f
   ·refine⟨_,.tuple #[.string ⟨#[]⟩,.bool false],h,by simp[Instr.typeAssert,run_underlying d,b,fy hi a],?_⟩
    have:(ty==t)=false:=by simpa using b
    simp only[this,a2p];exact .tup rfl (dq.cons (.str []) (.cons (.bool _) .nil)).2
  ·exact h.elim
 ·exact h.elim
def wn {k:IntKind}:(l:List SV)-> {vs:List Value}->dq F G ow w.heap l vs-> {a n:Int}->Oh k l a=some n->(vs.foldlM Builtin.min2 (.int k a)).run P w= .ok (.int k n) w
 |[],vs,hl,a,n,h=>by
  cases h
  have:vs=[]:=a0s hl.1.symm;subst this;rfl
 |s::r,vs,hl,a,n,h=>by
  obtain⟨v,c,rfl,d,b⟩:=hl.uncons;unfold Oh at h;split at h
  ·rename_i e;cases e
  ·rename_i g y i e
   cases e
   split at h
   ·rename_i f
    subst f;rw[d.int_inv];simp only[List.foldlM_cons,Sem.run_bind,Builtin.min2,Sem.run_pure,Result.andThen_ok];exact wn r b h
   ·cases h
  ·cases h
def wo {k:IntKind}:(l:List SV)-> {vs:List Value}->dq F G ow w.heap l vs-> {a n:Int}->Oi k l a=some n->(vs.foldlM Builtin.max2 (.int k a)).run P w= .ok (.int k n) w
 |[],vs,hl,a,n,h=>by
  cases h
  have:vs=[]:=a0s hl.1.symm;subst this;rfl
 |s::r,vs,hl,a,n,h=>by
  obtain⟨v,c,rfl,d,b⟩:=hl.uncons;unfold Oi at h;split at h
  ·rename_i e;cases e
  ·rename_i g y i e
   cases e
   split at h
   ·rename_i f
    subst f;rw[d.int_inv];simp only[List.foldlM_cons,Sem.run_bind,Builtin.max2,Sem.run_pure,Result.andThen_ok];exact wo r b h
   ·cases h
  ·cases h
def LO (F:Nat->Prop) (G:Gh) (ow:OW) (h:Array Obj) (ρ:Operand->SV) (a:Operand->Value):Prop:=∀x,Sv F G ow h (ρ x) (a x)
def LO.svs {ρ:Operand->SV} {a:Operand->Value} (b:LO F G ow w.heap ρ a) (l:List Operand):dq F G ow w.heap (l.map ρ) (l.map a):=⟨by simp,λi c d=>by simp only[a3i];exact b _⟩
def II {P:Program} {w:World} {s:Sem Value} (h:s.run P w= .ok v w):(do pure (Next.value (<-s)):Sem Next).run P w= .ok (.value v) w:=by
 rw[Sem.run_bind,h];rfl
def sR (c:Sv F G ow w.heap x xv) (h:(mv x ow).can Q):∃s,Q s/\Sv F G ow w.heap s xv/\((∃a,xv= .pointer (some a))\/∃f a b,xv= .func (.func f) a b):=by
 unfold mv at h;split at h
 ·split at h
  ·rename_i j
   obtain⟨g,d⟩:=mC j;refine⟨_,h,c,.inl ?_⟩
   cases c with
   |bp hp=>
   simp only[d]at hp;obtain⟨b,o,_,rfl⟩:=hp;exact⟨_,rfl⟩
  ·exact h.elim
 ·split at h
  ·rename_i r m
   obtain⟨rfl,d⟩:=g7 m;refine⟨_,h,c,.inl ?_⟩
   cases c with
   |rp hp=>
   rcases d with⟨k,i,l,d,rfl⟩|⟨k,i,l,d,rfl⟩|⟨k,l,i,d,rfl⟩<;>
   ·simp only[d]at hp
    obtain⟨_,b,o,_,rfl⟩:=hp;exact⟨_,rfl⟩
  ·exact h.elim
 ·refine⟨_,h,c,.inl ?_⟩
  cases c
  exact⟨_,rfl⟩
 ·refine⟨_,h,c,.inl ?_⟩
  cases c with
  |v _ c=>
  obtain⟨_,n,p⟩:=c
  cases n
  obtain⟨_,_,e⟩:=p.ptr;exact⟨_,e⟩
 ·refine⟨_,h,c,.inr ?_⟩
  cases c
  exact⟨_,_,_,rfl⟩
 ·exact h.elim
def wq {o:Op} {op:Oper} (m:op.op=o) {ρ:Operand->SV} {p:Operand->Value} (E:bt F G ow w.heap) (d:LO F G ow w.heap ρ p) (h:(pK P o ρ ow).can Q):∃s v,Q s/\(execOp p op).run P w= .ok (.value v) w/\Sv F G ow w.heap s v:=by
 have g:∀ {c:Sem Value},(∃s v,Q s/\c.run P w= .ok v w/\Sv F G ow w.heap s v)->(execOp p op).run P w=(do pure (Next.value (<-c)):Sem Next).run P w->∃s v,Q s/\(execOp p op).run P w= .ok (.value v) w/\Sv F G ow w.heap s v:=by
  intro c y N;obtain⟨s,v,z,H,j⟩:=y;exact⟨s,v,z,by rw[N,II H],j⟩
 unfold pK at h;split at h
 ·exact⟨_,_,h,by simp[execOp,m],d _⟩
 ·exact⟨_,_,h,by simp[execOp,m],d _⟩
 ·exact g (BY (P:=P) (d _) (d _) (d _) h) (by simp[execOp,m])
 ·rename_i t q
  refine g (zf (vps:=q.toList.map λx=>(x.1,p x.2)) (by simp) (by simp only[a8r];exact(by simpa [a7x]using d.svs (q.toList.map (·.2)))) h) ?_
  simp only[execOp,m]
  congr 4
  apply a4l;simp
 ·exact g (mB (P:=P) E (d _) h) (by simp only[execOp,m])
 ·obtain⟨s,z,j,u⟩:=sR (d _) h
  refine⟨s,_,z,?_,j⟩;rcases u with⟨a,I⟩|⟨f,a,b,I⟩
  ·simp[execOp,m,I]
  ·simp[execOp,m,I]
 ·exact g (Do rfl E (d _) (d _) h) (by simp only[execOp,m])
 ·exact g (Fz (P:=P) (d _) h) (by simp only[execOp,m])
 ·exact g (ve (P:=P) E (d _) h) (by simp only[execOp,m])
 ·rename_i f a b
  refine g (c:=Instr.makeFunc f (a.map p) (b.map p)) ⟨_,_,h,rfl,?_⟩ (by simp only[execOp,m]);have:=cC.fn (f:=f) (d.svs a.toList).1 (d.svs b.toList).1 (d.svs a.toList).2 (d.svs b.toList).2;have e:∀a:Array Operand,(a.toList.map p).toArray=a.map p:=λa=>by apply a4l;simp
  rw[e,e]at this;exact this
 ·exact g (zh (P:=P) (d _) h) (by simp only[execOp,m])
 ·rename_i x xt t
  exact g (wm (P:=P) (xt:=xt) (d _) h) (by simp only[execOp,m])
 ·rename_i t x lo hi
  refine g (yZ (P:=P) (lov:=lo.map p) (hiv:=hi.map p) (d _) ?_ ?_ ?_ ?_ h) (by simp only[execOp,m];rfl)
  ·intro s j;cases lo with
   |none=>cases j
   |some x=>cases j;exact⟨_,rfl,d _⟩
  ·intro j;cases lo with
   |none=>rfl
   |some x=>cases j
  ·intro s j;cases hi with
   |none=>cases j
   |some x=>cases j;exact⟨_,rfl,d _⟩
  ·intro j;cases hi with
   |none=>rfl
   |some x=>cases j
 ·exact g (ru (P:=P) (d _) h) (by simp only[execOp,m])
 ·exact g (zg (P:=P) (d _) h) (by simp only[execOp,m])
 ·exact g (rx (P:=P) (d _) (d _) h) (by simp only[execOp,m])
 ·split at h
  ·rename_i J
   exact g (za (P:=P) J (d _) (d _) h) (by simp only[execOp,m])
  ·exact h.elim
 ·rename_i t i
  split at h
  ·rename_i l O
   split at h
   ·rename_i s j
    have:=d t;rw[O]at this;obtain⟨vs,u,A⟩:=this.tup_inv;obtain⟨hi,rfl⟩:=a0p.1 j;have B:i<vs.length:=by rw[<-A.1];exact hi
    exact g (c:=Instr.extract (p t) i) ⟨_,vs[i],h,by simp[Instr.extract,u,B],A.2 i hi B⟩ (by simp only[execOp,m])
   ·exact h.elim
  ·exact h.elim
 ·rename_i c
  split at h
  ·rename_i y
   split at h
   ·rename_i x t ts C J
    obtain⟨s,v,z,H,j⟩:=Dm (P:=P) (ty:=op.type) (ts:=ts) (d x) h;refine⟨s,v,z,?_,j⟩;have D:c.args.map p= #[p x]:=by apply a4l;simp[C]
    have R:c.argTypes=(t::ts).toArray:=by apply a4l;simp[J]
    simp only[execOp,m,resolve,y,Sem.run_bind,Sem.run_pure,Result.andThen_ok,invoke,builtin,D,R,H]
   ·exact h.elim
  ·rename_i y
   split at h
   ·rename_i k a r C
    split at h
    ·rename_i n K
     have j:=d.svs c.args.toList;rw[C]at j;obtain⟨v,vs,u,L,M⟩:=j.uncons;rw[L.int_inv]at u;refine⟨_,.int k n,h,?_,.int _ _⟩;have D:(c.args.map p).toList= .int k a::vs:=by simpa using u
     simp only[execOp,m,resolve,y,Sem.run_bind,Sem.run_pure,Result.andThen_ok,invoke,builtin,Builtin.min_,D,wn r M K]
    ·exact h.elim
   ·exact h.elim
  ·rename_i y
   split at h
   ·rename_i k a r C
    split at h
    ·rename_i n K
     have j:=d.svs c.args.toList;rw[C]at j;obtain⟨v,vs,u,L,M⟩:=j.uncons;rw[L.int_inv]at u;refine⟨_,.int k n,h,?_,.int _ _⟩;have D:(c.args.map p).toList= .int k a::vs:=by simpa using u
     simp only[execOp,m,resolve,y,Sem.run_bind,Sem.run_pure,Result.andThen_ok,invoke,builtin,Builtin.max_,D,wo r M K]
    ·exact h.elim
   ·exact h.elim
  ·exact h.elim
 ·exact h.elim
end
end Go.Pev
namespace Go.Pev
variable {d b j:Nat}
def EC:Option (Option OB)->Option (Option OB)->Prop
 |none,_=>True
 |some _,some none=>True
 |some (some (.box _)),some (some (.box _))=>True
 |some (some (.row k _ l)),some (some (.row k' _ l'))=>k=k'/\l.length=l'.length
 |some (some (.row k _ l)),some (some (.frow k' _ l'))=>k=k'/\l.length=l'.length
 |some (some (.frow k _ l)),some (some (.frow k' _ l'))=>k=k'/\l.length=l'.length
 |some (some (.row _ _ l)),some (some (.lrow n))=>l.length=n
 |some (some (.nrow k l _)),some (some (.nrow k' l' _))=>k=k'/\l.length=l'.length
 |some (some (.nrow k l _)),some (some (.frow k' _ l'))=>k.w=k'.n/\l.length=l'.length
 |some (some (.nrow _ l _)),some (some (.lrow n))=>l.length=n
 |some (some (.lrow n)),some (some (.lrow m))=>n=m
 |some (some (.box _)),some (some (.lrow _))=>True
 |_,_=>False
def EC.refl (x:Option (Option OB)):EC x x:=by
 match x with
 |none=>trivial
 |some none=>trivial
 |some (some (.box _))=>trivial
 |some (some (.row _ _ _))=>exact⟨rfl,rfl⟩
 |some (some (.frow _ _ _))=>exact⟨rfl,rfl⟩
 |some (some (.nrow _ _ _))=>exact⟨rfl,rfl⟩
 |some (some (.lrow _))=>exact rfl
def EC.dead {x:Option (Option OB)}:EC x (some none):=by
 match x with
 |none=>trivial
 |some none=>trivial
 |some (some (.box _))=>trivial
 |some (some (.row _ _ _))=>trivial
 |some (some (.frow _ _ _))=>trivial
 |some (some (.nrow _ _ _))=>trivial
 |some (some (.lrow _))=>trivial
def cA.length {h:Array Obj} {ok:Nat->Prop}:(s:Sh)-> {x:s.T}-> {vs:List Value}-> {c:List Nat}->cA h ok s x vs c->vs.length=s.w
 | .pur _,_,_,_,e=>by obtain⟨_,rfl,_⟩:=e;rfl
 | .own _,_,_,_,e=>by obtain⟨_,rfl,_⟩:=e;rfl
 | .row _,_,_,_,e=>by obtain⟨_,rfl,_⟩:=e;rfl
 | .rows _,_,_,_,e| .nrw _,_,_,_,e=>by obtain⟨_,rfl,_⟩:=e;rfl
 | .box _,_,_,_,e=>by obtain⟨_,_,_,_,_,rfl,_⟩:=e;rfl
 | .agg _,_,_,_,e=>by obtain⟨_,rfl,_⟩:=e;rfl
 | .fn _ _ _,_,_,_,e=>by obtain⟨_,_,rfl,_⟩:=e;rfl
 | .ign,_,_,_,e=>by obtain⟨_,rfl,_⟩:=e;rfl
 | .nl,_,_,_,e=>by rw[e.1];rfl
 | .nil,_,_,_,e=>by rw[e.1];rfl
 | .cons a b,_,_,_,e=>by
  obtain⟨v,r,f1,f2,rfl,rfl,f,d⟩:=e;simp[Sh.w,cA.length b d]
def sQ.cells {h:Array Obj} {ok:Nat->Prop} {k:Kd} {l:List k.T} {v:Value} {g:List Nat} (e:sQ h ok k l v g):∀b∈g,∃r et,h[b]?=some (Obj.cells r et (0,0)):=by
 obtain⟨_,a,c,_,_,e⟩:=e;rcases e with⟨_,_,_,rfl⟩|⟨b,o,r,et,_,rfl,d,_,_⟩
 ·intro b d;simp at d
 ·intro i f
  have:i=b:=by simpa using f
  subst this;exact⟨r,et,d⟩
def cA.cells {h:Array Obj} {ok:Nat->Prop}:(s:Sh)-> {x:s.T}-> {vs:List Value}-> {g:List Nat}->cA h ok s x vs g->∀b∈g,∃r et,h[b]?=some (Obj.cells r et (0,0))
 | .pur _,_,_,_,e=>by obtain⟨_,_,rfl,_⟩:=e;intro b d;simp at d
 | .own _,_,_,_,e=>by obtain⟨_,_,e⟩:=e;exact e.cells
 | .row _,_,_,_,e=>by obtain⟨_,_,e⟩:=e;exact e.cells
 | .rows s,_,_,_,e| .nrw s,_,_,_,e=>by
  obtain⟨v,rfl,_,a,c,rfl,p,e⟩:=e;rcases e with⟨_,_,_,rfl⟩|⟨b,o,r,et,fps,q,rfl,i,t,u,j,w⟩
  ·intro b d;simp at d
  ·intro f hb'
   rcases a1e.1 hb' with rfl|hb'
   ·exact⟨r,et,i⟩
   ·exact j f hb'
 | .box l,_,_,_,e=>by
  obtain⟨b,o,r,et,k,rfl,rfl,d,_,e⟩:=e;intro f hb';rcases a1e.1 hb' with rfl|hb'
  ·exact⟨r,et,d⟩
  ·exact cA.cells l e f hb'
 | .agg l,_,_,_,e=>by obtain⟨_,_,e⟩:=e;exact cA.cells l e
 | .fn _ _ l,_,_,_,e=>by obtain⟨_,_,_,_,e⟩:=e;exact cA.cells l e
 | .ign,_,_,_,e=>by obtain⟨_,_,rfl⟩:=e;intro b d;simp at d
 | .nl,_,_,_,e=>by rw[e.2];intro b d;simp at d
 | .nil,_,_,_,e=>by rw[e.2];intro b d;simp at d
 | .cons a b,_,_,_,e=>by
  obtain⟨v,r,f1,f2,rfl,rfl,m,n⟩:=e;intro f hb';rcases a0k.1 hb' with hb'|hb'
  ·exact cA.cells a m f hb'
  ·exact cA.cells b n f hb'
def wr {h:Array Obj} {ok:Nat->Prop} {G:Gh} {ow:OW} {k:Sh} {l:List k.T} {c:Option (Nat×List SV)} (e:dl h ok G ow d j (.nrow k l c)) {i o:Nat} (a:G d j i=some (b,o)):∃r et,h[b]?=some (Obj.cells r et (0,0)):=by
 obtain⟨_,fps,g,e⟩:=e
 cases i with
 |zero=>
  simp only[a]at e;obtain⟨r,et,f,_⟩:=e;exact⟨r,et,f⟩
 |succ i=>
  rw[g]at a
  cases hb:fps.flatten[i]? with
  |none=>rw[hb]at a;cases a
  |some b'=>
   rw[hb]at a;simp only[a1t,a0i,a0x]at a;obtain⟨rfl,_⟩:=a
   cases hm:G d j 0 with
   |none=>
    simp only[hm]at e;rw[e.2.2]at hb;simp at hb
   |some p=>
    simp only[hm]at e;obtain⟨r,et,f,n,q,m,_⟩:=e;exact m _ (a3p hb)
section
variable {F:Nat->Prop} {G G':Gh} {ow ow':OW} {h h':Array Obj}
def aM:cu G ow b↔∃d j i o,bx (aj ow d j)/\G d j i=some (b,o):=Iff.rfl
def cZ.mono {off:Nat} {len:Option Nat} {v:Value} (p:aj ow d j≠none->G' d j 0=G d j 0) (g:EC (aj ow d j) (aj ow' d j)) (t:∀b r,am h b=some r->∃s,am h' b=some s/\s.size=r.size) (f:cZ h G ow d j off len v):cZ h' G' ow' d j off len v:=by
 have i:∀ {n off len:Nat},G' d j 0=G d j 0->od h G n d j off len v->od h' G' n d j off len v:=by
  intro n off len A f;obtain⟨a,c,rfl,u,f⟩:=f;refine⟨a,c,rfl,u,?_⟩;rcases f with⟨B,C⟩|⟨b,o,D,r,p,E,F,H,I⟩
  ·exact .inl ⟨by rw[A,B],C⟩
  ·obtain⟨s,w,z⟩:=t b r F
   exact .inr ⟨b,o,D,s,by rw[A,p],E,w,H,by rw[z];exact I⟩
 have q:∀ {n off len:Nat},od h G n d j off len v->v.oneCell'=true:=by
  intro n off len f;obtain⟨a,c,rfl,_⟩:=f;rfl
 unfold cZ at f⊢
 generalize aj ow d j=x at p g f
 generalize aj ow' d j=y at g
 match x,y,g,f with
 |some none,some none,_,f=>exact f
 |some (some (.row k _ l)),some none,_,f=>exact q f.2
 |some (some (.frow k _ l)),some none,_,f=>exact q f.2
 |some (some (.nrow k l _)),some none,_,f=>exact q f.2
 |some (some (.lrow n)),some none,_,f=>obtain⟨_,_,rfl⟩:=f;rfl
 |some (some (.row k _ l)),some (some (.row k' _ l')),g,f=>
  obtain⟨rfl,e⟩:=g;dsimp only at f⊢;rw[<-e];exact⟨f.1,i (p (by simp)) f.2⟩
 |some (some (.row k _ l)),some (some (.frow k' _ l')),g,f=>
  obtain⟨rfl,e⟩:=g;dsimp only at f⊢;rw[<-e];exact⟨f.1,i (p (by simp)) f.2⟩
 |some (some (.frow k _ l)),some (some (.frow k' _ l')),g,f=>
  obtain⟨rfl,e⟩:=g;dsimp only at f⊢;rw[<-e];exact⟨f.1,i (p (by simp)) f.2⟩
 |some (some (.nrow k l _)),some (some (.nrow k' l' _)),g,f=>
  obtain⟨rfl,e⟩:=g;dsimp only at f⊢;rw[<-e];exact⟨f.1,i (p (by simp)) f.2⟩
 |some (some (.nrow k l _)),some (some (.frow k' _ l')),g,f=>
  obtain⟨J,e⟩:=g;dsimp only at f⊢;rw[<-e,<-J];exact⟨f.1,i (p (by simp)) f.2⟩
 |some (some (.row k _ l)),some (some (.lrow n)),g,f=>
  obtain rfl:l.length=n:=g;obtain⟨_,a,c,rfl,_⟩:=f;exact⟨a,c,rfl⟩
 |some (some (.nrow k l _)),some (some (.lrow n)),g,f=>
  obtain rfl:l.length=n:=g;obtain⟨_,a,c,rfl,_⟩:=f;exact⟨a,c,rfl⟩
 |some (some (.lrow n)),some (some (.lrow m)),g,f=>
  obtain rfl:n=m:=g;exact f
def cC.mono {ok ok':Nat->Prop} (t:∀d j,aj ow d j≠none->G' d j 0=G d j 0) (u:∀d j,EC (aj ow d j) (aj ow' d j))
 (p:∀b r,ok b->am h b=some r->ok' b/\am h' b=some r) (q:∀b r,am h b=some r->∃A,am h' b=some A/\A.size=r.size)
 {s:SV} {v:Value} (e:cC h ok G ow s v):cC h' ok' G' ow' s v:=by
 induction e with
 |v hk hx=>exact .v hk (cG.mono p _ hx)
 |lb b=>exact .lb b
 |dead v=>exact .dead v
 |nils=>exact .nils
 |agg g _ ih=>exact .agg g ih
 |tup g _ ih=>exact .tup g ih
 |fn h1 h2 _ _ ih1 ih2=>exact .fn h1 h2 ih1 ih2
 |wh hv=>exact .wh (hv.mono (t _ _) (u _ _) q)
 |os hv=>exact .os (hv.mono (t _ _) (u _ _) q)
 | @bp d j c val hv=>
  refine .bp ?_
  have i:=t d j;have a:=u d j
  generalize aj ow d j=x at i a hv
  generalize aj ow' d j=y at a
  match x,y,a,hv with
  |some none,some none,_,hv=>exact hv
  |some (some (.box _)),some none,_,hv=>obtain⟨_,_,_,rfl⟩:=hv;rfl
  |some (some (.box _)),some (some (.box _)),_,hv=>obtain⟨b,o,f,rfl⟩:=hv;exact⟨b,o,by rw[i (by simp),f],rfl⟩
  |some (some (.box _)),some (some (.lrow _)),_,hv=>obtain⟨_,_,_,rfl⟩:=hv;rfl
  |some (some (.lrow _)),some none,_,hv=>exact hv
  |some (some (.lrow _)),some (some (.lrow _)),_,hv=>exact hv
 | @rp d j ver e c val hv=>
  refine .rp ?_
  have i:=t d j;have a:=u d j
  generalize aj ow d j=x at i a hv
  generalize aj ow' d j=y at a
  match x,y,a,hv with
  |some none,some none,_,hv=>exact hv
  |some (some (.row _ _ _)),some none,_,hv=>obtain⟨_,_,_,_,rfl⟩:=hv;rfl
  |some (some (.frow _ _ _)),some none,_,hv=>obtain⟨_,_,_,_,rfl⟩:=hv;rfl
  |some (some (.nrow _ _ _)),some none,_,hv=>obtain⟨_,_,_,_,rfl⟩:=hv;rfl
  |some (some (.lrow _)),some none,_,hv=>exact hv
  |some (some (.row k _ l)),some (some (.row k' _ l')),a,hv=>
   obtain⟨rfl,e⟩:=a;obtain⟨g,b,o,f,rfl⟩:=hv;exact⟨by omega,b,o,by rw[i (by simp),f],rfl⟩
  |some (some (.row k _ l)),some (some (.frow k' _ l')),a,hv=>
   obtain⟨rfl,e⟩:=a;obtain⟨g,b,o,f,rfl⟩:=hv;exact⟨by omega,b,o,by rw[i (by simp),f],rfl⟩
  |some (some (.frow k _ l)),some (some (.frow k' _ l')),a,hv=>
   obtain⟨rfl,e⟩:=a;obtain⟨g,b,o,f,rfl⟩:=hv;exact⟨by omega,b,o,by rw[i (by simp),f],rfl⟩
  |some (some (.nrow k l _)),some (some (.nrow k' l' _)),a,hv=>
   obtain⟨rfl,e⟩:=a;obtain⟨g,b,o,f,rfl⟩:=hv;exact⟨by omega,b,o,by rw[i (by simp),f],rfl⟩
  |some (some (.nrow k l _)),some (some (.frow k' _ l')),a,hv=>
   obtain⟨B,e⟩:=a;obtain⟨g,b,o,f,rfl⟩:=hv;exact⟨by omega,b,o,by rw[i (by simp),f],by rw[<-B]⟩
  |some (some (.row k _ l)),some (some (.lrow n)),a,hv=>
   obtain⟨g,b,o,f,rfl⟩:=hv;rfl
  |some (some (.nrow k l _)),some (some (.lrow n)),a,hv=>
   obtain⟨g,b,o,f,rfl⟩:=hv;rfl
  |some (some (.lrow n)),some (some (.lrow m)),a,hv=>exact hv
 |ip hk f hr hs hx=>
  obtain⟨w,z⟩:=p _ _ f hr;exact .ip hk w z hs (cG.mono p _ hx)
def dl.mono {ok ok':Nat->Prop} (J:∀d j,aj ow d j≠none->G' d j 0=G d j 0) (K:∀d j,EC (aj ow d j) (aj ow' d j))
 (f:∀b r,ok b->am h b=some r->ok' b/\am h' b=some r) (u:∀b r,am h b=some r->∃L,am h' b=some L/\L.size=r.size)
 {d j:Nat} {o:OB} (a:G' d j=G d j) (t:bx (some (some o))->∀i b c,G d j i=some (b,c)->h'[b]?=h[b]?) (e:dl h ok G ow d j o):dl h' ok' G' ow' d j o:=by
 cases o with
 |box s=>
  obtain⟨C,b,o,r,et,g,q,D,v⟩:=e;exact⟨by rw[a];exact C,b,o,r,et,by rw[a,g],by rw[t trivial 0 b o g,q],D,λi hi q=>(v i hi q).mono J K f u⟩
 |row k ver l=>
  obtain⟨C,w,e⟩:=e;refine⟨by rw[a];exact C,w,?_⟩;rw[a]
  cases g:G d j 0 with
  |none=>simpa [g]using e
  |some p=>
   obtain⟨b,o⟩:=p;simp only[g]at e;obtain⟨r,et,q,y⟩:=e;exact⟨r,et,by rw[t trivial 0 b o g,q],y.mono λx cs E=>cG.mono f _ E⟩
 |frow k ver l=>
  obtain⟨w,e⟩:=e;refine⟨w,?_⟩;rw[a]
  cases g:G d j 0 with
  |none=>simpa [g]using e
  |some p=>
   obtain⟨b,o⟩:=p;simp only[g]at e;rcases e with e|⟨t,r,q,y⟩
   ·exact .inl e
   ·obtain⟨m,F⟩:=f b r t q
    exact .inr ⟨m,r,F,y.mono λx cs E=>cG.mono f _ E⟩
 |nrow k l foc=>
  obtain⟨w,fps,M,e⟩:=e;refine⟨w,fps,by rw[a];exact M,?_⟩;rw[a];have z:∀b∈fps.flatten,h'[b]?=h[b]?:=λb H=>by
   obtain⟨i,hi,rfl⟩:=a2g.1 H;exact t trivial (i+1) _ 0 (by rw[M,a0a hi];rfl)
  cases g:G d j 0 with
  |none=>simpa [g]using e
  |some p=>
   obtain⟨b,o⟩:=p;simp only[g]at e;obtain⟨r,et,q,D,N,O,y,P⟩:=e;exact⟨r,et,by rw[t trivial 0 b o g,q],D,N,λB m=>by rw[z B m];exact O B m,λi hi A I=>cA.mono f k (λB m=>z B (ig A m)) (y i hi A I),λQ s v=>by
    obtain⟨R,S,T⟩:=P Q s v;exact⟨R,S,λc v q=>(T c v q).mono J K f u⟩⟩
 |lrow n=>trivial
end
structure Tr (F:Nat->Prop) (G:Gh) (ow:OW) (w:World) (G':Gh) (ow':OW) (w':World):Prop where
 hrep:bt F G' ow' w'.heap
 sv:∀s v,Sv F G ow w.heap s v->Sv F G' ow' w'.heap s v
 kept:eX (cu G ow) w w'
 own:∀b,cu G' ow' b->cu G ow b\/w.heap.size<=b
 len:ow'.length=ow.length
def eX.refl (I:Nat->Prop) (w:World):eX I w w:=⟨a1n _,λ_ _ _=>rfl,λb r et f h=>⟨r,h,rfl⟩,rfl,rfl,rfl⟩
def eX.trans {I J:Nat->Prop} {w e d:World} (a:eX I w e) (c:eX J e d) (j:∀b,J b->I b\/w.heap.size<=b):eX I w d:=⟨a5o a.size c.size,λb g i=>by
 rw[c.heap b (a7k g a.size) (λk=>by rcases j b k with h|h;exact i h;omega),a.heap b g i],λb r et f h=>by
 obtain⟨l,m,p⟩:=a.cells b r et f h;obtain⟨n,o,q⟩:=c.cells b l et f m;exact⟨n,o,by omega⟩,by rw[c.os,a.os],by rw[c.output,a.output],by rw[c.tape,a.tape]⟩
def Tr.refl {F:Nat->Prop} {G:Gh} {ow:OW} {w:World} (h:bt F G ow w.heap):Tr F G ow w G ow w:=⟨h,λ_ _ h=>h,.refl _ _,λ_ h=> .inl h,rfl⟩
def Tr.trans {F:Nat->Prop} {G g d:Gh} {ow ow' a:OW} {w i e:World} (c:Tr F G ow w g ow' i) (f:Tr F g ow' i d a e):Tr F G ow w d a e:=⟨f.hrep,λs v h=>f.sv s v (c.sv s v h),c.kept.trans f.kept c.own,λb j=>by
 rcases f.own b j with h|h
 ·exact c.own b h
 ·exact .inr (a5o c.kept.size h),by rw[f.len,c.len]⟩
section
variable {F:Nat->Prop} {G G':Gh} {ow ow':OW} {w w':World}
def cu.lt (p:bt F G ow w.heap) (q:cu G ow b):b<w.heap.size:=by
 obtain⟨d,j,i,o,g,a⟩:=aM.1 q;have h:∀c,aj ow d j=some (some c)->bx (some (some c))->b<w.heap.size:=by
  intro c m hi;have:=p.obs d j c m
  cases c with
  |box cells=>
   obtain⟨n,t,u,r,et,e,f,_⟩:=this
   cases i with
   |zero=>
    rw[a]at e;cases e
    exact(a1c.1 f).1
   |succ i=>rw[n]at a;cases a
  |row k ver l=>
   obtain⟨n,_,this⟩:=this
   cases i with
   |zero=>
    simp only[a]at this;obtain⟨r,et,f,_⟩:=this;exact(a1c.1 f).1
   |succ i=>rw[n]at a;cases a
  |nrow k l foc=>
   obtain⟨r,et,f⟩:=wr this a;exact(a1c.1 f).1
  |frow _ _ _=>exact hi.elim
  |lrow _=>exact hi.elim
 generalize s:aj ow d j=x at g
 match x,g with
 |some (some c),g=>exact h c s g
def cL {h:Array Obj} {r:Array Value} (a:am h b=some r):b<h.size:=by
 unfold am at a;split at a
 ·rename_i e;exact(a1c.1 e).1
 ·cases a
def HP (e:eX (cu G ow) w w') (f:∀b,cu G' ow' b->cu G ow b\/w.heap.size<=b) (b:Nat) (r:Array Value) (a:cW F G ow b) (d:am w.heap b=some r):cW F G' ow' b/\am w'.heap b=some r:=by
 have c:=cL d;refine⟨⟨a.1,λh=> ?_⟩,?_⟩
 ·rcases f b h with h|h
  ·exact a.2 h
  ·omega
 ·unfold am
  rw[e.heap b c a.2];exact d
def IJ (f:eX (cu G ow) w w') (c:∀b r,cu G ow b->am w.heap b=some r->∃a,am w'.heap b=some a/\a.size=r.size) (b:Nat) (r:Array Value) (d:am w.heap b=some r):∃a,am w'.heap b=some a/\a.size=r.size:=by
 by_cases e:cu G ow b
 ·exact c b r e d
 ·exact⟨r,by unfold am;rw[f.heap b (cL d) e];exact d,rfl⟩
def tX (p:bt F G ow w.heap) (z:∀b,F b->b<w.heap.size) (q:∀d j,aj ow d j≠none->G' d j 0=G d j 0) (t:∀d j,EC (aj ow d j) (aj ow' d j))
 (g:eX (cu G ow) w w') (k:∀b,cu G' ow' b->cu G ow b\/w.heap.size<=b)
 (l:∀b r,cu G ow b->am w.heap b=some r->∃u,am w'.heap b=some u/\u.size=r.size)
 (m:∀d j o,aj ow' d j=some (some o)->
  (aj ow d j=some (some o)/\G' d j=G d j/\(bx (some (some o))->∀i b c,G d j i=some (b,c)->w'.heap[b]?=w.heap[b]?))\/
  ((∀s v,Sv F G ow w.heap s v->Sv F G' ow' w'.heap s v)->(∀b r,cW F G ow b->am w.heap b=some r->cW F G' ow' b/\am w'.heap b=some r)->dl w'.heap (cW F G' ow') G' ow' d j o))
 (n:∀d j i d' j' x b o A,bx (aj ow' d j)->bx (aj ow' d' j')->G' d j i=some (b,o)->G' d' j' x=some (b,A)->d=d'/\j=j'/\i=x)
 (B:ow'.length=ow.length):Tr F G ow w G' ow' w':=by
 have a:=HP (F:=F) g k;have y:=IJ g l;have f:∀s v,Sv F G ow w.heap s v->Sv F G' ow' w'.heap s v:=λs v e=>cC.mono q t a y e
 refine⟨⟨λd j o C=> ?_,n,λb D=> ?_⟩,f,g,k,B⟩
 ·rcases m d j o C with⟨h1,E,H⟩|h1
  ·exact dl.mono q t a y E H (p.obs d j o h1)
  ·exact h1 f a
 ·rcases k b D with h|h
  ·exact p.notF b h
  ·intro I
   have:=z b I;omega
def aW {o:Option OB} {d' j':Nat} (a:aj ow d j≠none):aj (bo ow d j o) d' j'=if d'=d/\j'=j then some o else aj ow d' j':=by
 unfold aj at a⊢;unfold bo
 cases hd:ow[d]? with
 |none=>simp[hd]at a
 |some l=>
  simp only[hd,a0d]at a;have b:=(a0p.1 hd).1;have f:j<l.length:=by
   rcases a3u j l.length with h|h
   ·exact h
   ·exact absurd (a0w h) a
  by_cases c:d'=d
  ·subst c
   simp only[a4q b,a0d,a9p];by_cases e:j'=j
   ·subst e;simp[f]
   ·simp[e,hd,a3b (Ne.symm e)]
  ·simp[c,a3b (Ne.symm c)]
def bG {o:Option OB}:(bo ow d j o).length=ow.length:=by
 unfold bo;split<;>simp
def eY {l:List OB} {ow':OW} (h:cg ow d l=some ow'):ow'.length=ow.length/\(l=[]\/ow[d]?=some [])/\∀d' j,aj ow' d' j=if d'=d/\l≠[]then l[j]?.map some else aj ow d' j:=by
 unfold cg at h;split at h
 ·cases h;exact⟨rfl,.inl rfl,λd' j=>by simp⟩
 ·rename_i g
  split at h
  ·rename_i f
   cases h
   refine⟨by simp,.inr f,λd' j=> ?_⟩;have a:=(a0p.1 f).1;have b:l≠[]:=λe=>g e
   unfold aj;by_cases c:d'=d
   ·subst c;simp[a4q a,b]
   ·simp[c,a3b (Ne.symm c)]
  ·cases h
def c9 (h:ow[d]?=some []) (j:Nat):aj ow d j=none:=by simp[aj,h]
def cD (w:World) (o:Obj) (a:b<w.heap.size):(w.alloc o).heap[b]?=w.heap[b]?:=by
 show(w.heap.push o)[b]?=_;rw[Array.getElem?_push];rw[ifNegQ]
def cP (w:World) (o:Obj):(w.alloc o).heap[w.heap.size]?=some o:=by
 show(w.heap.push o)[w.heap.size]?=some o;simp
def kq (I:Nat->Prop) (w:World) (o:Obj):eX I w (w.alloc o):=⟨by simp,λb a _=>cD w o a,λb r et f h=>⟨r,by rw[cD w o (a1c.1 h).1];exact h,rfl⟩,rfl,rfl,rfl⟩
def jX (I:Nat->Prop) (w:World):eX I w w.drew:=⟨a1n _,λ_ _ _=>rfl,λb r et f h=>⟨r,h,rfl⟩,rfl,rfl,rfl⟩
def Gh.new (G:Gh) (d:Nat) (p:Nat->Nat->Option (Nat×Nat)):Gh:=λd' j=>if d'=d then p j else G d' j
def fH (p:Option (Nat×Nat)):Nat->Nat->Option (Nat×Nat):=λ_ i=>if i=0 then p else none
def Dp (D:bt F G ow w.heap) (X:∀b,F b->b<w.heap.size) {J:OB} (Y:cg ow d [J]=some ow') {w1:World} (n:w1.heap=w.heap) (K:w1.os=w.os) (A:w1.output=w.output) (t:w1.tape=w.tape) (c:Obj) (o:Nat)
 (L:(∀s v,Sv F G ow w.heap s v->Sv F (G.new d (fH (some (w.heap.size,o)))) ow' (w1.alloc c).heap s v)->(∀b r,cW F G ow b->am w.heap b=some r->cW F (G.new d (fH (some (w.heap.size,o)))) ow' b/\am (w1.alloc c).heap b=some r)->dl (w1.alloc c).heap (cW F (G.new d (fH (some (w.heap.size,o)))) ow') (G.new d (fH (some (w.heap.size,o)))) ow' d 0 J):
 Tr F G ow w (G.new d (fH (some (w.heap.size,o)))) ow' (w1.alloc c):=by
 obtain⟨Z,E,M⟩:=eY Y;have E:ow[d]?=some []:=by rcases E with h|h;cases h;exact h
 have a:∀d' j,aj ow' d' j=if d'=d then [J][j]?.map some else aj ow d' j:=λd' j=>by rw[M];simp
 have N:∀d' j,aj ow d' j≠none->(G.new d (fH (some (w.heap.size,o)))) d' j=G d' j:=λd' j g=>by
  unfold Gh.new;rw[a0e];intro e;rw[e,c9 E]at g;exact g rfl
 have hk:eX (cu G ow) w (w1.alloc c):=⟨by simp[n],λb O _=>by rw[cD w1 c (by rw[n];exact O),n],λb r et f h=>⟨r,by rw[cD w1 c (by rw[n];exact(a1c.1 h).1),n];exact h,rfl⟩,K,A,t⟩;have k:∀d' j,d'≠d->(G.new d (fH (some (w.heap.size,o)))) d' j=G d' j:=λd' j m=>by simp[Gh.new,m]
 have l:∀ {j i u p},(G.new d (fH (some (w.heap.size,o)))) d j i=some (u,p)->i=0/\u=w.heap.size:=λ {j i u p} h=>by
  simp only[Gh.new,a1s,fH]at h;split at h
  ·rename_i e;cases h;exact⟨e,rfl⟩
  ·cases h
 have B:∀j,bx (aj ow' d j)->j=0:=λj g=>by
  rw[a,a0b rfl]at g
  cases j with
  |zero=>rfl
  |succ j=>simp[bx]at g
 refine tX D X (λd' j g=>a9q (N d' j g) 0) (λd' j=> ?_) hk (λb O=> ?_) (λb r _ V=>⟨r,?_,rfl⟩) (λd' j ob' g=> ?_) (λP Q i1 H R i2 b o1 o2 n I x y=> ?_) Z
 ·by_cases m:d'=d
  ·subst m;rw[c9 E];trivial
  ·rw[a,a0e m];exact .refl _
 ·obtain⟨d',j,i,p,g,q⟩:=aM.1 O
  by_cases m:d'=d
  ·subst m
   rw[(l q).2];exact .inr (a1n _)
  ·rw[a,a0e m]at g
   rw[k d' j m]at q;exact .inl (aM.2 ⟨d',j,i,p,g,q⟩)
 ·unfold am
  rw[cD w1 c (by rw[n];exact cL V),n];exact V
 ·by_cases m:d'=d
  ·subst m
   right;intro S T
   cases j with
   |zero=>
    rw[a,a0b rfl]at g;simp at g;subst g;exact L S T
   |succ j=>
    rw[a,a0b rfl]at g;simp at g
  ·left
   rw[a,a0e m]at g;refine⟨g,k d' j m,λhi i b cc q=> ?_⟩;have:cu G ow b:=aM.2 ⟨d',j,i,cc,by rw[g];exact hi,q⟩;rw[cD w1 c (by rw[n];exact cu.lt D this),n]
 ·have W:∀ {d' j' U u p},d'≠d->bx (aj ow' d' j')->(G.new d (fH (some (w.heap.size,o)))) d' j' U=some (u,p)->u<w.heap.size:=by
   intro d' j' U u p m hi q;rw[k d' j' m]at q;rw[a,a0e m]at hi;exact cu.lt D (aM.2 ⟨d',j',U,p,hi,q⟩)
  by_cases C:P=d
  ·by_cases z:H=d
   ·subst C;subst z
    exact⟨rfl,by rw[B Q n,B R I],by rw[(l x).1,(l y).1]⟩
   ·have:=W z I y
    rw[C]at x;have:=(l x).2;omega
  ·by_cases z:H=d
   ·have:=W C n x
    rw[z]at y;have:=(l y).2;omega
   ·rw[k P Q C]at x
    rw[k H R z]at y;rw[a,a0e C]at n;rw[a,a0e z]at I;exact D.apart P Q i1 H R i2 b o1 o2 n I x y
end
end Go.Pev
namespace Go.Pev
variable {o n:Option (Option OB)} {A B:Type}
structure HQ (s:Sh) (l:List s.T) (k:Kd) (l':List k.T):Prop where
 good:k.good=true
 wide:s.w=k.n
 len:l.length=l'.length
 rep:∀(h:Array Obj) (ok:Nat->Prop) (i:Nat) (h1:i<l.length) (h2:i<l'.length) (vs:List Value) (fp:List Nat),cA h ok s l[i] vs fp->(∀b∈fp,ok b)->cG h ok k l'[i] vs
def Lf (o n:Option (Option OB)):Prop:=
 (∃k ver l,o=some (some (.row k ver l))/\n=some (some (.frow k ver l)))\/(∃s l k b,o=some (some (.nrow s l none))/\n=some (some (.frow k 0 b))/\HQ s l k b)
 \/∃a,o=some (some (.box a))/\n=some (some (.lrow 0))
def Lf.own (h:Lf o n):bx o:=by
 rcases h with⟨k,ver,l,rfl,_⟩|⟨s,l,k,b,rfl,_⟩|⟨a,rfl,_⟩<;>trivial
def Lf.not (h:Lf o n):¬bx n/\n≠some none/\∃o,n=some (some o):=by
 rcases h with⟨k,ver,l,_,rfl⟩|⟨s,l,k,b,_,rfl,_⟩|⟨a,_,rfl⟩<;>exact⟨λh=>h.elim,by simp,_,rfl⟩
def Lf.ec (h:Lf o n):EC o n:=by
 rcases h with⟨k,ver,l,rfl,rfl⟩|⟨s,l,k,c,rfl,rfl,b⟩|⟨a,rfl,rfl⟩
 ·exact⟨rfl,rfl⟩
 ·exact⟨b.wide,b.len⟩
 ·trivial
def Lf.rep {o n:OB} (J:Lf (some (some o)) (some (some n))) {h q:Array Obj} {ok ok':Nat->Prop} {G I:Gh} {ow ow':OW} {d j:Nat} (t:I d j 0=G d j 0) (u:∀b r,ok b->am h b=some r->ok' b/\am q b=some r) (c:∀i b o,G d j i=some (b,o)->ok' b/\q[b]?=h[b]?) (e:dl h ok G ow d j o):dl q ok' I ow' d j n:=by
 rcases J with⟨k,ver,l,v,w⟩|⟨s,l,k,O,v,w,f⟩|⟨g,v,w⟩
 ·cases v;cases w
  obtain⟨_,K,a⟩:=e;refine⟨K,?_⟩;rw[t]
  cases hg:G d j 0 with
  |none=>simpa [hg]using a
  |some p=>
   obtain⟨b,o⟩:=p;simp only[hg]at a;obtain⟨r,et,B,C⟩:=a;obtain⟨D,E⟩:=c 0 b o hg;exact .inr ⟨D,r,aS (by rw[E];exact B),C.mono λx cs m=>cG.mono u _ m⟩
 ·cases v;cases w
  obtain⟨_,fps,L,a⟩:=e;refine⟨f.good,?_⟩;rw[t]
  cases hg:G d j 0 with
  |none=>
   simp only[hg]at a;have:=f.len;rw[a.1]at this;exact a0s this.symm
  |some p=>
   obtain⟨b,o⟩:=p;simp only[hg]at a;obtain⟨r,et,B,F,M,P,y,_⟩:=a;obtain⟨D,E⟩:=c 0 b o hg;have z:∀x∈fps.flatten,ok' x/\q[x]?=h[x]?:=λx m=>by
    obtain⟨i,hi,e⟩:=a2g.1 m;exact c (i+1) x 0 (by rw[L,a0a hi,e];rfl)
   refine .inr ⟨D,r,aS (by rw[E];exact B),by rw[<-f.len,<-f.wide];exact F,λi hi=> ?_⟩;have A:i<l.length:=by rw[f.len];exact hi
   have H:i<fps.length:=by omega
   rw[<-f.wide];exact f.rep q ok' i A hi _ _ (cA.mono u s (λx m=>(z x (ig H m)).2) (y i A H (λg N=>by cases N))) (λx m=>(z x (ig H m)).1)
 ·cases v;cases w;trivial
def nB (e:A=B) (l:List A):(cast (a1x List e) l).length=l.length:=by subst e;rfl
def ry (e:A=B) (l:List A) (i:Nat) (h:i<(cast (a1x List e) l).length) (a:i<l.length):(cast (a1x List e) l)[i]=cast e l[i]:=by subst e;rfl
def IK {a b:Type} (c:A=a) (d:B=b) (h:(A×B)=(a×b)) (x:A×B):cast h x=(cast c x.1,cast d x.2):=by subst c;subst d;rfl
def wt:(s:Sh)->s.one=true->s.elem=true->s.kd.isSt=false
 | .pur kd,_,h=>by
  have:kd.isSt=false:=by simpa using(a0c _ _▸h:kd.noOwn=true/\(!kd.isSt)=true).2
  exact this
 | .own _,_,_=>rfl
 | .rows _,_,_=>rfl
 | .nil,h,_=>by simp[Sh.one]at h
 | .cons _ _,h,_=>by simp[Sh.one]at h
 | .row _,_,h=>by simp[Sh.elem]at h
 | .nrw _,_,h=>by simp[Sh.elem]at h
 | .box _,_,h=>by simp[Sh.elem]at h
 | .agg _,_,h=>by simp[Sh.elem]at h
 | .fn _ _ _,_,h=>by simp[Sh.elem]at h
 | .ign,_,h=>by simp[Sh.elem]at h
 | .nl,_,h=>by simp[Sh.elem]at h
def HR {k:Kd} (h:k.isSt=false):k.n=1:=by cases k<;>simp_all[Kd.n,Kd.isSt]
def Ot:(s:Sh)->s.elem=true->s.w=s.kd.n
 | .pur kd,h=>by
  have:kd.isSt=false:=wt (.pur kd) rfl h;simp[Sh.w,Sh.kd,HR this]
 | .own _,_=>rfl
 | .rows _,_=>rfl
 | .nil,_=>rfl
 | .cons a b,h=>by
  simp only[Sh.elem,a0c]at h;have c:=HR (wt a h.1.1.1 h.1.2);have d:=Ot b h.2;simp only[Sh.w,Sh.kd,Kd.n,c,<-d];omega
 | .row _,h=>by simp[Sh.elem]at h
 | .nrw _,h=>by simp[Sh.elem]at h
 | .box _,h=>by simp[Sh.elem]at h
 | .agg _,h=>by simp[Sh.elem]at h
 | .fn _ _ _,h=>by simp[Sh.elem]at h
 | .ign,h=>by simp[Sh.elem]at h
 | .nl,h=>by simp[Sh.elem]at h
def FC {k:Kd} (h:k.good=true):k.noOwn=true:=(a0c _ _▸h:k.noOwn=true/\k.ch.leafy=true).1
def rz:(s:Sh)->s.elem=true->s.kd.noOwn=true
 | .pur kd,h=>(a0c _ _▸h:kd.noOwn=true/\(!kd.isSt)=true).1
 | .own k,h=>by simpa [Sh.kd,Kd.noOwn]using FC h
 | .rows s,h=>by simpa [Sh.kd,Kd.noOwn]using rz s h
 | .nil,_=>rfl
 | .cons a b,h=>by
  simp only[Sh.elem,a0c]at h;simp[Sh.kd,Kd.noOwn,rz a h.1.2,rz b h.2]
 | .row _,h=>by simp[Sh.elem]at h
 | .nrw _,h=>by simp[Sh.elem]at h
 | .box _,h=>by simp[Sh.elem]at h
 | .agg _,h=>by simp[Sh.elem]at h
 | .fn _ _ _,h=>by simp[Sh.elem]at h
 | .ign,h=>by simp[Sh.elem]at h
 | .nl,h=>by simp[Sh.elem]at h
def Dq:(s:Sh)->s.elem=true->s.chn=true->s.kd.leafy=true
 | .nil,_,_=>rfl
 | .cons a b,h,hc=>by
  simp only[Sh.elem,a0c]at h;simp[Sh.kd,Kd.leafy,wt a h.1.1.1 h.1.2,Dq b h.2 hc]
 | .pur _,_,h=>by simp[Sh.chn]at h
 | .own _,_,h=>by simp[Sh.chn]at h
 | .rows _,_,h=>by simp[Sh.chn]at h
 | .row _,_,h=>by simp[Sh.chn]at h
 | .nrw _,_,h=>by simp[Sh.chn]at h
 | .box _,_,h=>by simp[Sh.chn]at h
 | .agg _,_,h=>by simp[Sh.chn]at h
 | .fn _ _ _,_,h=>by simp[Sh.chn]at h
 | .ign,_,h=>by simp[Sh.chn]at h
 | .nl,_,h=>by simp[Sh.chn]at h
def vB {h:Array Obj} {ok:Nat->Prop}:(s:Sh)->(f:s.elem=true)-> {x:s.T}-> {vs:List Value}-> {m:List Nat}->cA h ok s x vs m->(∀b∈m,ok b)->cG h ok s.kd (cast (Sh.kd_T s f).symm x) vs
 | .pur kd,f,x,vs,m,e,_=>by
  obtain⟨v,rfl,_,t,_,u⟩:=e;have y:kd.isSt=false:=wt (.pur kd) rfl f;have:v.cells= #[v]:=by have:=u y;cases v<;>simp_all[Value.cells,Value.oneCell']
  rw[this]at t;exact t
 | .own k,f,x,vs,m,e,hok=>by
  obtain⟨v,rfl,_,a,c,rfl,l,e⟩:=e;refine⟨a,c,rfl,l,?_⟩;rcases e with⟨_,rfl,_,_⟩|⟨b,o,r,et,rfl,rfl,q,d,_⟩
  ·exact .inl rfl
  ·exact .inr ⟨b,o,r,rfl,hok b (by simp),aS q,d⟩
 | .rows s,f,x,vs,m,e,hok=>by
  obtain⟨v,rfl,d,a,c,rfl,l,e⟩:=e;have g:=nB (Sh.kd_T s d).symm x;refine⟨a,c,by rw[show(cast (Sh.kd_T (.rows s) f).symm x)=cast (a1x List (Sh.kd_T s d).symm) x from rfl,g],by rw[show(cast (Sh.kd_T (.rows s) f).symm x)=cast (a1x List (Sh.kd_T s d).symm) x from rfl,g];exact l,?_⟩;rw[show(cast (Sh.kd_T (.rows s) f).symm x)=cast (a1x List (Sh.kd_T s d).symm) x from rfl];rcases e with⟨_,rfl,_,_⟩|⟨b,o,r,et,fps,rfl,rfl,q,u,D,E,z⟩
  ·exact .inl (a0s (by rw[g];rfl))
  ·have A:x.length*s.w<=c*s.w:=a0o _ l
   refine .inr ⟨b,o,r,rfl,hok b (by simp),aS q,by rw[g,<-Ot s d];omega,λi hi=> ?_⟩;have n:i<x.length:=by rw[<-g];exact hi
   rw[ry _ _ _ hi n,<-Ot s d];exact vB s d (z i n (by omega)) (λp j=>hok p (a3c _ (ig (by omega) j)))
 | .nil,f,x,vs,m,e,_=>e.1
 | .cons a b,f,x,vs,m,e,hok=>by
  have h:=f;simp only[Sh.elem,a0c]at h;obtain⟨v,r,f1,f2,rfl,rfl,B,C⟩:=e;have e:cast (Sh.kd_T (.cons a b) f).symm x=((cast (Sh.kd_T a h.1.2).symm x.1,cast (Sh.kd_T b h.2).symm x.2):a.kd.T×b.kd.T):=IK _ _ _ x;rw[e];exact⟨[v],r,rfl,vB a h.1.2 B (λp j=>hok p (by simp[j])),vB b h.2 C (λp j=>hok p (by simp[j]))⟩
 | .row _,h,_,_,_,_,_=>by simp[Sh.elem]at h
 | .nrw _,h,_,_,_,_,_=>by simp[Sh.elem]at h
 | .box _,h,_,_,_,_,_=>by simp[Sh.elem]at h
 | .agg _,h,_,_,_,_,_=>by simp[Sh.elem]at h
 | .fn _ _ _,h,_,_,_,_,_=>by simp[Sh.elem]at h
 | .ign,h,_,_,_,_,_=>by simp[Sh.elem]at h
 | .nl,h,_,_,_,_,_=>by simp[Sh.elem]at h
def Ou (s:Sh) (h:s.elem=true):s.kd.good=true:=by
 have d:=rz s h;unfold Kd.good;rw[d,a2d]
 cases hc:s.chn with
 |true=>
  have e:=Dq s h hc;have:s.kd.isSt=true:=by cases s<;>simp_all[Sh.chn,Sh.kd,Kd.isSt]
  rw[Kd.ch,a0b this];exact e
 |false=>
  by_cases c:s.one=true
  ·have:=wt s c h
   rw[Kd.ch,a0e (by simp[this])];simp[Kd.leafy,this]
  ·cases s with
   |cons a b=>
    simp only[Sh.elem,a0c]at h;rw[Sh.chn,h.1.1.2]at hc
    cases hc
   |nil=>simp[Sh.chn]at hc
   |_=>simp[Sh.one]at c
def LP (s:Sh) (h:s.elem=true) (l:List s.T):HQ s l s.kd (Ls s h l):=by
 have a:=nB (Sh.kd_T s h).symm l;refine⟨Ou s h,Ot s h,a.symm,λf ok i c d vs g e b=> ?_⟩;unfold Ls;rw[ry _ _ _ d c];exact vB s h e b
end Go.Pev
namespace Go.Pev
variable {k:Kd} {d:Nat} {s:SV} {v:Value} {cells:List SV} {r:Array Value}
def Db (P:Program) (F:Nat->Prop) (G:Gh) (ow:OW) (w:World) (Q:SV×OW->Prop) (c:Sem Value):Prop:=∃s ow' v a b,Q (s,ow')/\c.run P w= .ok v a/\Tr F G ow w b ow' a/\Sv F b ow' a.heap s v
section
variable {F:Nat->Prop} {G:Gh} {ow ow':OW} {w:World} {P:Program}
def qr {a:OB} (b:cg ow d [a]=some ow'):aj ow' d 0=some (some a):=by
 obtain⟨_,_,h⟩:=eY b;rw[h];simp
def HS (h:bt F G ow w.heap) (j:∀b,F b->b<w.heap.size) {vs:List Value} (a:dq F G ow w.heap cells vs) (f:cg ow d [.box cells]=some ow') (et:TypeId):Tr F G ow w (G.new d (fH (some (w.heap.size,0)))) ow' (w.alloc (.cells vs.toArray et))/\Sv F (G.new d (fH (some (w.heap.size,0)))) ow' (w.alloc (.cells vs.toArray et)).heap (.bp d 0 0) (.pointer (some ⟨w.heap.size,0,none⟩)):=by
 have g:(G.new d (fH (some (w.heap.size,0)))) d 0 0=some (w.heap.size,0):=by simp[Gh.new,fH]
 have c:∀i,(G.new d (fH (some (w.heap.size,0)))) d 0 (i+1)=none:=by simp[Gh.new,fH]
 refine⟨Dp h j f rfl rfl rfl rfl _ 0 λe _=> ?_,?_⟩
 ·exact⟨c,w.heap.size,0,vs.toArray,et,g,cP _ _,by simp[a.1],λi hi k=>by
   have:=e _ _ (a.2 i hi (a.1▸hi));simpa [Sv]using this⟩
 ·refine .bp ?_
  rw[qr f];exact⟨_,_,g,rfl⟩
def zi {t:TypeId} (g:bt F G ow w.heap) (h:∀b,F b->b<w.heap.size) (j:lM P t=some cells) (k:cg ow d [.box cells]=some ow') {Q:SV×OW->Prop} (l:Q (.bp d 0 0,ow')):Db P F G ow w Q (Instr.alloc t true (.tuple #[])):=by
 obtain⟨i,z,hi,a,_,c⟩:=nA (F:=F) (G:=G) (ow:=ow) (w:=w) j;obtain⟨e,f⟩:=HS g h c k t;rw[a6z]at e f;exact⟨_,_,_,_,_,l,by simp[Instr.alloc,fy hi a,newVar,newRow],e,f⟩
def Dr {t:TypeId} {x:SV} {xv:Value} (c:bt F G ow w.heap) (e:∀b,F b->b<w.heap.size) (f:Sv F G ow w.heap x xv) (g:fx P t x=some cells) (h:cg ow d [.box cells]=some ow') {Q:SV×OW->Prop} (i:Q (.bp d 0 0,ow')):Db P F G ow w Q (Instr.box t xv):=by
 obtain⟨vs,j,a,_,_⟩:=fk f g;obtain⟨k,l⟩:=HS c e a h t;exact⟨_,_,_,_,_,i,by simp[Instr.box,newVar,newRow,j],k,l⟩
def Qe (f:bt F G ow w.heap) (H:∀b,F b->b<w.heap.size) (d j:Nat):Tr F G ow w G (Ad ow d j) w:=by
 unfold Ad;split
 ·rename_i k ver l I
  have h:=aA I;have m:aj ow d j≠none:=by rw[h];simp
  have c:=λd' j'=>aW (o:=some (.frow k ver l)) (d':=d') (j':=j') m
  have a:∀ {d' j'},bx (aj (bo ow d j (some (.frow k ver l))) d' j')->¬(d'=d/\j'=j)/\bx (aj ow d' j'):=by
   intro d' j' hi;rw[c]at hi;split at hi
   ·exact hi.elim
   ·exact⟨by assumption,hi⟩
  have n:∀b,cu G (bo ow d j (some (.frow k ver l))) b->cu G ow b:=by
   intro b i;obtain⟨d',j',J,K,hi,q⟩:=aM.1 i;exact aM.2 ⟨d',j',J,K,(a hi).2,q⟩
  refine tX f H (λ_ _ _=>rfl) (λd' j'=> ?_) (.refl _ _) (λb i=> .inl (n b i)) (λb r _ s=>⟨r,s,rfl⟩) (λd' j' o g=> ?_) (λL M N t u v b O y z A=>f.apart L M N t u v b O y (a z).2 (a A).2) bG
  ·rw[c]
   split
   ·rename_i e;rw[e.1,e.2,h];exact⟨rfl,rfl⟩
   ·exact .refl _
  ·rw[c]at g
   split at g
   ·rename_i e
    obtain⟨rfl,rfl⟩:=e
    cases g
    right;intro _ B;obtain⟨P,Q,C⟩:=f.obs d' j' _ h;refine⟨Q,?_⟩
    cases hgg:G d' j' 0 with
    |none=>simpa [hgg]using C
    |some p=>
     obtain⟨b,o⟩:=p;simp only[hgg]at C;obtain⟨r,et,s,R⟩:=C;have D:cu G ow b:=aM.2 ⟨d',j',0,o,by rw[h];trivial,hgg⟩;refine .inr ⟨⟨f.notF b D,λi=> ?_⟩,r,aS s,R.mono λx cs g=>cG.mono B _ g⟩;obtain⟨t,u,v,y,hi,E⟩:=aM.1 i;obtain⟨z,A⟩:=a hi;have:=f.apart d' j' 0 t u v b o y (by rw[h];trivial) A hgg E;exact z ⟨this.1.symm,this.2.1.symm⟩
   ·exact .inl ⟨g,rfl,λ_ _ _ _ _=>rfl⟩
 ·exact .refl f
def Ds (f:bt F G ow w.heap) (H:∀b,F b->b<w.heap.size) {j:Nat} {o n:OB} (g:aj ow d j=some (some o)) (h:Lf (some (some o)) (some (some n))):Tr F G ow w G (bo ow d j (some n)) w:=by
 have p:aj ow d j≠none:=by rw[g];simp
 have c:=λd' j'=>aW (o:=some n) (d':=d') (j':=j') p
 have a:∀ {d' j'},bx (aj (bo ow d j (some n)) d' j')->¬(d'=d/\j'=j)/\bx (aj ow d' j'):=by
  intro d' j' hi;rw[c]at hi;split at hi
  ·exact absurd hi h.not.1
  ·exact⟨by assumption,hi⟩
 have q:∀b,cu G (bo ow d j (some n)) b->cu G ow b:=by
  intro b k;obtain⟨d',j',I,D,hi,s⟩:=aM.1 k;exact aM.2 ⟨d',j',I,D,(a hi).2,s⟩
 refine tX f H (λ_ _ _=>rfl) (λd' j'=> ?_) (.refl _ _) (λb k=> .inl (q b k)) (λb r _ J=>⟨r,J,rfl⟩) (λd' j' D l=> ?_) (λK L M t u v b m x y z=>f.apart K L M t u v b m x (a y).2 (a z).2) bG
 ·rw[c]
  split
  ·rename_i e;rw[e.1,e.2,g];exact h.ec
  ·exact .refl _
 ·rw[c]at l
  split at l
  ·rename_i e
   obtain⟨rfl,rfl⟩:=e
   cases l
   right;intro _ A;refine h.rep rfl A (λi b m E=>⟨?_,rfl⟩) (f.obs d' j' _ g);have B:cu G ow b:=aM.2 ⟨d',j',i,m,by rw[g];exact h.own,E⟩;refine⟨f.notF b B,λk=> ?_⟩;obtain⟨t,u,v,x,hi,C⟩:=aM.1 k;obtain⟨y,z⟩:=a hi;have:=f.apart d' j' i t u v b m x (by rw[g];exact h.own) z E C;exact y ⟨this.1.symm,this.2.1.symm⟩
  ·exact .inl ⟨l,rfl,λ_ _ _ _ _=>rfl⟩
def qs (d j:Nat):Fl ow d j=ow\/∃s l a,aj ow d j=some (some (.nrow s l none))/\Lf (some (some (.nrow s l none))) (some (some (.frow s.kd 0 a)))/\Fl ow d j=bo ow d j (some (.frow s.kd 0 a)):=by
 unfold Fl;split
 ·rename_i r b
  obtain⟨_,c⟩:=g5 b;split
  ·rename_i e
   exact .inr ⟨r.1,r.2,_,c,.inr (.inl ⟨r.1,r.2,r.1.kd,_,rfl,rfl,LP r.1 e r.2⟩),rfl⟩
  ·exact .inl rfl
 ·exact .inl rfl
def Ov (a:bt F G ow w.heap) (c:∀b,F b->b<w.heap.size) (d j:Nat):Tr F G ow w G (Fl ow d j) w:=by
 rcases qs (ow:=ow) d j with e|⟨s,l,l',hn,hz,e⟩
 ·rw[e];exact .refl a
 ·rw[e];exact Ds a c hn hz
def tY {a:Gh} {c:World} (h:Tr F G ow w a ow' c) (b:Nat) (r:Array Value) (d:cW F G ow b) (e:am w.heap b=some r):cW F a ow' b/\am c.heap b=some r:=HP h.kept h.own b r d e
def jQ (n:bt F G ow w.heap) (I:∀b,F b->b<w.heap.size) (z:Sv F G ow w.heap s v) {x:k.T} (h:eP k s ow=some (x,ow')):Tr F G ow w G ow' w/\cG w.heap (cW F G ow') k x [v]:=by
 unfold eP at h;split at h
 ·rename_i O y
  split at h
  ·rename_i e
   subst e
   cases h
   cases z with
   |v _ hy=>exact⟨.refl n,hy⟩
  ·cases h
 ·split at h
  ·cases h
   cases z
   exact⟨.refl n,rfl⟩
  ·cases h
 ·split at h
  ·cases h
   cases z
   exact⟨.refl n,⟨_,_,rfl,a1n _,.inl rfl⟩⟩
  ·cases h
 ·split at h
  ·rename_i e
   split at h
   ·rename_i d j r g f
    split at h
    ·rename_i A
     subst A;simp only[a0i,a0x]at h;obtain⟨p,rfl⟩:=h;have q:=Qe n I d j;refine⟨q,?_⟩;obtain⟨d',j',ver,l0,i,hn,t,a,c,rfl,u,m⟩:=jt n z f;rw[g]at i
     cases i
     have p:x=r.2:=by rw[<-p];rfl
     subst p;refine⟨a,c,rfl,u,?_⟩;rcases m with m|⟨b,o,rw_,⟨o',hg⟩,ha,hr,hel,hok⟩
     ·exact .inl m
     ·refine .inr ⟨b,o,rw_,ha,?_,hr,hel.mono λx cs m=>cG.mono (tY q) _ m⟩
      rcases hn with hn|hn
      ·have B:cu G ow b:=aM.2 ⟨d,j,0,o',by rw[hn];trivial,hg⟩
       refine⟨n.notF b B,λJ=> ?_⟩;obtain⟨K,L,M,N,hi,C⟩:=aM.1 J;have D:cy ow d j=some (.row r.1 ver l0):=by rw[lQ,hn];rfl
       unfold Ad at hi;simp only[D]at hi;rw[aW (by rw[hn];simp)]at hi;split at hi
       ·exact hi.elim
       ·rename_i E
        have:=n.apart d j 0 K L M b o' N (by rw[hn];trivial) hi hg C;exact E ⟨this.1.symm,this.2.1.symm⟩
      ·have H:nS ow d j=false:=by unfold nS;rw[lQ,hn];rfl
       exact(tY q b rw_ (hok H) hr).1
    ·cases h
   ·rename_i d j g l
    split at h
    ·rename_i r f
     split at h
     ·rename_i A
      subst A;simp only[a0i,a0x]at h;obtain⟨p,rfl⟩:=h;have q:=Ov n I d j;refine⟨q,?_⟩;obtain⟨d',j',ver,l0,i,hn,t,a,c,rfl,u,m⟩:=jt q.hrep (q.sv _ _ z) f;rw[g]at i
      cases i
      have p:x=r.2:=by rw[<-p];rfl
      subst p;refine⟨a,c,rfl,u,?_⟩;rcases m with m|⟨b,o,rw_,_,ha,hr,hel,hok⟩
      ·exact .inl m
      ·refine .inr ⟨b,o,rw_,ha,hok ?_,hr,hel⟩
       rcases qs (ow:=ow) d j with e|⟨s1,l1,l1',hn1,_,e⟩
       ·rw[e]at f
        rw[f]at l
        cases l
       ·unfold nS
        rw[e,lQ,aW (by rw[hn1];simp)];simp
     ·cases h
    ·cases h
   ·cases h
  ·cases h
def ji (g:∀b,F b->b<w.heap.size):(k:Kd)-> {ow ow':OW}->(d:bt F G ow w.heap)-> {l:List SV}-> {vs:List Value}->dq F G ow w.heap l vs-> {x:k.T}->bH k l ow=some (x,ow')->Tr F G ow w G ow' w/\cG w.heap (cW F G ow') k x vs
 | .cons a b,ow,ow',d,l,vs,hl,x,h=>by
  cases l with
  |nil=>simp[bH]at h
  |cons s r=>
   simp only[bH]at h;obtain⟨v,e,rfl,m,c⟩:=hl.uncons;split at h
   ·rename_i y n
    split at h
    ·rename_i z o
     cases h
     obtain⟨f,p⟩:=jQ (x:=y.1) (ow':=y.2) d g m n;obtain⟨j,q⟩:=ji g b (x:=z.1) (ow':=z.2) f.hrep ⟨c.1,λi t u=>f.sv _ _ (c.2 i t u)⟩ o;exact⟨f.trans j,[v],e,rfl,cG.mono (tY j) _ p,q⟩
    ·cases h
   ·cases h
 | .nil,ow,ow',d,l,vs,hl,x,h=>by
  cases l with
  |nil=>
   simp only[bH,a0i,a0x]at h;obtain⟨_,rfl⟩:=h;have:vs=[]:=a0s hl.1.symm;subst this;exact⟨.refl d,rfl⟩
  |cons s r=>simp[bH]at h
 | .int _,_,_,_,_,_,_,_,h=>by simp[bH]at h
 | .bool,_,_,_,_,_,_,_,h=>by simp[bH]at h
 | .str,_,_,_,_,_,_,_,h=>by simp[bH]at h
 | .err,_,_,_,_,_,_,_,h=>by simp[bH]at h
 | .any,_,_,_,_,_,_,_,h=>by simp[bH]at h
 | .sl _ _,_,_,_,_,_,_,_,h=>by simp[bH]at h
 | .tree _,_,_,_,_,_,_,_,h=>by simp[bH]at h
def FD {x:k.T} (h:eP k s ow=some (x,ow')):vU s=true:=by
 unfold eP at h;split at h
 ·rfl
 ·rfl
 ·rfl
 ·split at h
  ·split at h
   ·rename_i a _
    unfold jL at a;split at a
    ·rfl
    ·rfl
    ·cases a
   ·rename_i a _
    unfold jL at a;split at a
    ·rfl
    ·rfl
    ·cases a
   ·cases h
  ·cases h
def B1 (I:bt F G ow w.heap) (q:∀b,F b->b<w.heap.size) {a:Kd} {j c:Nat} (L:Sv F G ow w.heap (.bp d j c) v) {x:ct a.T} (h:sH a d j c ow=some (x,ow')):Tr F G ow w G ow' w/\cG w.heap (cW F G ow') (.tree a) x [v]:=by
 unfold sH at h;split at h
 ·rename_i e M
  split at h
  ·rename_i y N
   split at h
   ·rename_i z O
    split at h
    ·rename_i P
     simp only[a0i,a0x]at h;obtain⟨rfl,rfl⟩:=h;obtain⟨rfl,J,k⟩:=P;have K:=aA M;obtain⟨Q,b,o,r,et,s,R,S,f⟩:=I.obs d j _ K
     cases L with
     |bp hv=>
     simp only[K]at hv;obtain⟨b',o',l,rfl⟩:=hv;rw[s]at l
     cases l
     have m:dq F G ow w.heap (e.take a.n) (bY r o a.n):=by
      refine⟨by rw[aZ,a1m];omega,λi h1 t=> ?_⟩;have hi:i<a.n:=by rw[aZ]at t;exact t
      have U:(bY r o a.n)[i]=r[o+i]'(by omega):=by
       have:=aR (r:=r) (o:=o) (n:=a.n) (i:=i) hi;rw[a0a t,a1k (by omega)]at this;exact a1f this
      rw[U,a4x];exact f i (by omega) (by omega)
     obtain⟨u,V⟩:=ji q a I m (x:=y.1) (ow':=y.2) N;have W:Sv F G ow w.heap (e.getD a.n .dead) (r[o+a.n]'(by omega)):=by
      have:=f a.n (by omega) (by omega);simp only[List.getD,a0a (show a.n<e.length by omega),a2r];exact this
     obtain⟨p,X⟩:=jQ (x:=z.1) (ow':=z.2) u.hrep q (u.sv _ _ W) O;obtain⟨A,g⟩:=mC k;have B:=Ds p.hrep q g (n:= .lrow 0) (.inr (.inr ⟨A,rfl,rfl⟩));refine⟨(u.trans p).trans B,Dl.2 ⟨b,o,r,_,rfl,?_,aS R,by omega,cG.mono (tY (p.trans B)) _ V,a1k _,cG.mono (tY B) _ X⟩⟩;have C:cu G z.2 b:=aM.2 ⟨d,j,0,o,by rw[g];trivial,s⟩;refine⟨p.hrep.notF b C,λD=> ?_⟩;obtain⟨Y,Z,i2,o2,hi,E⟩:=aM.1 D;rw[aW (by rw[g];simp)]at hi;split at hi
     ·exact hi.elim
     ·rename_i H
      have:=p.hrep.apart d j 0 Y Z i2 b o o2 (by rw[g];trivial) hi s E;exact H ⟨this.1.symm,this.2.1.symm⟩
    ·cases h
   ·cases h
  ·cases h
 ·cases h
def lr {x:k.T} (h:vu k s ow=some (x,ow')):eP k s ow=some (x,ow')\/∃(a:Kd) (d j c:Nat) (y:ct a.T) (e:k= .tree a),s= .bp d j c/\Lt e x=y/\sH a d j c ow=some (y,ow'):=by
 cases k with
 |tree a=>
  cases s with
  |bp d j c=>exact .inr ⟨a,d,j,c,x,rfl,rfl,rfl,h⟩
  |_=>exact .inl h
 |_=>exact .inl h
def zj (e:bt F G ow w.heap) (f:∀b,F b->b<w.heap.size) (g:Sv F G ow w.heap s v) {x:k.T} (h:vu k s ow=some (x,ow')):Tr F G ow w G ow' w/\cG w.heap (cW F G ow') k x [v]:=by
 rcases lr h with h|⟨a,d,j,c,y,rfl,rfl,rfl,h⟩
 ·exact jQ e f g h
 ·exact B1 e f g h
def Dt {x:k.T} (h:vu k s ow=some (x,ow')):vU s=true:=by
 rcases lr h with h|⟨a,d,j,c,y,rfl,rfl,rfl,h⟩
 ·exact FD h
 ·rfl
def tZ (e:bt F G ow w.heap) (f:∀b,F b->b<w.heap.size) (a:Sv F G ow w.heap s v) {x:k.T} (h:tR k s ow=some (x,ow')):Tr F G ow w G ow' w/\cG w.heap (cW F G ow') k x v.cells.toList/\(if k.isSt then∃cs,v= .agg cs else v.oneCell'=true):=by
 unfold tR at h;split at h
 ·rename_i c
  split at h
  ·rename_i l
   obtain⟨vs,rfl,d⟩:=a.agg_inv;obtain⟨t,r⟩:=ji f k e d h;exact⟨t,r,by simp[c]⟩
  ·cases h
 ·rename_i c
  obtain⟨t,r⟩:=zj e f a h;have g:=FA a (Dt h);exact⟨t,by rw[ij g];exact r,by simp[c,g]⟩
def rA (j:∀b,F b->b<w.heap.size) {k:Kd}:(l:List SV)-> {ow ow':OW}->(d:bt F G ow w.heap)-> {vs:List Value}->dq F G ow w.heap l vs-> {xs:List k.T}->vW k l ow=some (xs,ow')->Tr F G ow w G ow' w/\xs.length=vs.length/\∀i (a:i<xs.length) (f:i<vs.length),cG w.heap (cW F G ow') k xs[i] (vs[i]).cells.toList
 |[],ow,ow',d,vs,hl,xs,h=>by
  simp only[vW,a0i,a0x]at h;obtain⟨rfl,rfl⟩:=h;exact⟨.refl d,hl.1,λi a=>by simp at a⟩
 |s::r,ow,ow',d,vs,hl,xs,h=>by
  simp only[vW]at h;obtain⟨v,n,rfl,o,c⟩:=hl.uncons;split at h
  ·rename_i y p
   split at h
   ·rename_i z q
    cases h
    obtain⟨g,t,_⟩:=tZ (x:=y.1) (ow':=y.2) d j o p;obtain⟨m,e,u⟩:=rA j r (xs:=z.1) (ow':=z.2) g.hrep ⟨c.1,λi a f=>g.sv _ _ (c.2 i a f)⟩ q;refine⟨g.trans m,by simp[e],λi a f=> ?_⟩
    cases i with
    |zero=>exact cG.mono (tY m) _ t
    |succ i=>exact u i (by simpa using a) (by simpa using f)
   ·cases h
  ·cases h
def bu.congr {α:Type} {R:α->List Value->Prop} {n:Nat} {l:List α} {a:Array Value} {o b:Nat} (h:bu R n l r o) (d:b+l.length*n<=a.size) (e:bY a b (l.length*n)=bY r o (l.length*n)):bu R n l a b:=by
 refine⟨d,λi hi=> ?_⟩;have c:i*n+n<=l.length*n:=by
  have:(i+1)*n<=l.length*n:=a0o _ hi;rw[a1a,a2t]at this;exact this
 rw[gm c,e,<-gm c];exact h.2 i hi
def bu.append {α:Type} {R:α->List Value->Prop} {n:Nat} {l a:List α} {o:Nat} (h:bu R n l r o) (b:bu R n a r (o+l.length*n)):bu R n (l++a) r o:=by
 refine⟨by have:=b.1;simp[a1a];omega,λi hi=> ?_⟩;by_cases c:i<l.length
 ·rw[a1h c]
  exact h.2 i c
 ·rw[a1u (by omega)]
  have:=b.2 (i-l.length) (by simp at hi;omega);rw[a2k,<-a1a,show l.length+(i-l.length)=i by omega]at this;exact this
def eZ {e:TypeId} (h:kj P e k=true):k.good=true/\0<k.n/\k.n=cV P e/\0<df P e/\∃i z,P.info? e=some i/\i.zero=some z/\i.size=k.n/\df P e=i.bytes/\z.cells.size=k.n:=by
 unfold kj at h;simp only[a0c,a0q]at h;obtain⟨⟨⟨⟨d,f⟩,c⟩,g⟩,b⟩:=h;refine⟨d,f,c,g,?_⟩;split at b
 ·rename_i z a
  simp only[a1y]at a;obtain⟨i,hi,a⟩:=a;exact⟨i,z,hi,a,by rw[c];simp[cV,Program.cellsOf,hi],by simp[df,Program.bytesOf,hi],a0z b⟩
 ·cases b
def B2 (t:bt F G ow w.heap) (u:∀b,F b->b<w.heap.size) {l:List k.T} (v:k.good=true) (g:bu (λx cs=>cG w.heap (cW F G ow) k x cs) k.n l r 0) (p:cg ow d [.row k 0 l]=some ow') (et:TypeId) {c:Nat} (h:l.length<=c) (y:c*k.n<=r.size)
 {w1:World} (q:w1.heap=w.heap) (j:w1.os=w.os) (f:w1.output=w.output) (e:w1.tape=w.tape):
 Tr F G ow w (G.new d (fH (some (w.heap.size,0)))) ow' (w1.alloc (.cells r et))/\Sv F (G.new d (fH (some (w.heap.size,0)))) ow' (w1.alloc (.cells r et)).heap (.wh d 0 0 []) (.slice (some ⟨w.heap.size,0,none⟩) l.length c):=by
 have s:(G.new d (fH (some (w.heap.size,0)))) d 0 0=some (w.heap.size,0):=by simp[Gh.new,fH]
 have m:∀i,(G.new d (fH (some (w.heap.size,0)))) d 0 (i+1)=none:=by simp[Gh.new,fH]
 have a:(w1.alloc (.cells r et)).heap[w.heap.size]?=some (.cells r et):=by rw[<-q];exact cP _ _
 refine⟨Dp t u p q j f e _ 0 λz o=>⟨m,v,?_⟩,.wh ?_⟩
 ·simp only[s]
  exact⟨r,et,a,g.mono λx cs A=>cG.mono o _ A⟩
 ·simp only[cZ,qr p,a2q]
  exact⟨by omega,_,_,rfl,h,.inr ⟨w.heap.size,0,0,r,s,rfl,aS a,λ_=>by simp,by simpa using y⟩⟩
end
end Go.Pev
namespace Go.Pev
variable {t e:TypeId} {k:Kd} {d:Nat} {Q:SV×OW->Prop}
section
variable {F:Nat->Prop} {G:Gh} {ow ow':OW} {w:World} {P:Program}
def fg (h:lL P t=some e):P.underlying t=some (.slice e):=by
 unfold lL ee at h;split at h
 ·cases h;assumption
 ·cases h
def jk {h:Array Obj} {ok:Nat->Prop}:(k:Kd)->(vs:List Value)->dD k vs=true->cG h ok k k.z vs
 | .int k,vs,e=>by
  unfold dD at e;split at e<;>simp_all[cG,Kd.z]
 | .bool,vs,e=>by
  unfold dD at e;split at e<;>simp_all[cG,Kd.z]
 | .str,vs,e=>by
  cases vs with
  |nil=>simp[dD]at e
  |cons v r=>
   cases r with
   |cons _ _=>simp[dD]at e
   |nil=>
    cases v<;>simp[dD]at e
    rename_i s;obtain⟨s⟩:=s;have:s= #[]:=a1x ByteArray.data e;subst this;rfl
 | .err,vs,e=>by
  unfold dD at e;split at e<;>first|exact .inl ⟨rfl,rfl⟩|simp_all
 | .any,vs,e=>by simp[dD]at e
 | .sl false _,vs,e=>by
  unfold dD at e;split at e<;>simp_all[cG,Kd.z]
 | .sl true _,vs,e=>by simp[dD]at e
 | .nil,vs,e=>by
  unfold dD at e;split at e<;>simp_all[cG]
 | .tree _,vs,e=>by simp[dD]at e
 | .cons a b,vs,e=>by
  cases vs with
  |nil=>simp[dD]at e
  |cons v r=>
   simp only[dD,a0c]at e;exact⟨[v],r,rfl,jk a [v] e.1.2,jk b r e.2⟩
def pU {z:Array Value} {m i:Nat} (hi:i<m:=by omega):bY (madeCells z (m*z.size)) (i*z.size) z.size=z.toList:=by
 have b:(i+1)*z.size<=m*z.size:=a0o _ hi;rw[a1a,a2t]at b;apply a2e;intro j;by_cases a:j<z.size
 ·rw[aR a]
  have d:0<z.size:=by omega
  simp only[madeCells,Array.getElem?_map,Array.getElem?_range,show i*z.size+j<m*z.size by omega,a1s,a1t];have e:(i*z.size+j) % z.size=j:=by rw[Nat.mul_add_mod_self_right,a8g a]
  rw[e];simp[a]
 ·have c:(bY (madeCells z (m*z.size)) (i*z.size) z.size).length<=j:=by
   rw[aZ (by rw[size_madeCells];omega)];omega
  rw[a0w c,a0w (by simpa using(by omega:z.size<=j))]
def wv {n c:Int} (J:bt F G ow w.heap) (K:∀b,F b->b<w.heap.size) (L:lL P t=some e) (r:kj P e k=true) (s:Fp P e k=true) (U:0<=n) (M:n<=c) (C:c*df P e<=af) (q:cg ow d [.row k 0 (List.replicate n.toNat k.z)]=some ow') (h:Q (.wh d 0 0 [],ow')):Db P F G ow w Q (Instr.makeSlice t (.int .i64 n) (.int .i64 c)):=by
 obtain⟨p,D,_,a,i,z,hi,E,f,u,_⟩:=eZ r;have v:dD k z.cells.toList=true:=by simpa [Fp,hi,E]using s
 have N:=fg L;have g:=jk (h:=w.heap) (ok:=cW F G ow) k _ v;have y:z.cells.size=i.size:=by have:=cG.length k g;simpa [f]using this
 obtain⟨m,rfl⟩:∃m:Nat,c=(m:Int):=⟨c.toNat,by omega⟩;obtain⟨l,rfl⟩:∃l:Nat,n=(l:Int):=⟨n.toNat,by omega⟩;rw[u]at C a;have A:m*i.bytes<=af:=by exact_mod_cast C
 have V:m<=m*i.bytes:=a4i _ a;unfold af at A;have H:((m*i.bytes:Nat):Int)<=281474976710656:=by omega
 have O:(i.bytes:Int)*(m:Int)<=281474976710656:=by rw[a8s];rw[a6g]at H;exact H
 have o:=run_make (P:=P) w t e i z N hi E .i64 .i64 l m (by omega) M O (by omega);simp only[a0j]at o;have B:bu (λx cs=>cG w.heap (cW F G ow) k x cs) k.n (List.replicate l k.z) (madeCells z.cells (m*i.size)) 0:=by
  have R:l*k.n<=m*k.n:=a0o _ (by omega);refine⟨by rw[a1o,size_madeCells,f];omega,λj S=> ?_⟩;simp only[a1o]at S;have:=pU (z:=z.cells) (m:=m) (i:=j);rw[y,f]at this;rw[a1l,f,this];simpa using g
 simp only[a0j]at q;obtain⟨T,I⟩:=B2 J K p B q e (c:=m) (by rw[a1o];omega) (by rw[size_madeCells,f];omega) (w1:=w) rfl rfl rfl rfl;rw[a1o]at I;exact⟨_,_,_,_,_,h,o,T,I⟩
def rB {n c:SV} {i j:Value} (l:bt F G ow w.heap) (m:∀b,F b->b<w.heap.size) (o:Sv F G ow w.heap n i) (p:Sv F G ow w.heap c j) (h:(nY P t n c ow d).can Q):Db P F G ow w Q (Instr.makeSlice t i j):=by
 unfold nY at h;split at h
 ·rename_i e n c q
  split at h
  ·rename_i k r
   split at h
   ·rename_i f
    simp only[a0c]at f;obtain⟨a,h⟩:=h;have a:(0:Int)<=n/\(n:Int)<=c/\(c:Int)*df P e<=af:=a0z a;split at h
    ·rename_i ow' g
     rw[o.int_inv,p.int_inv];exact wv l m q f.1 f.2 a.1 a.2.1 a.2.2 g h
    ·exact h.elim
   ·exact h.elim
  ·exact h.elim
 ·exact h.elim
def sS {α:Type}:(ps:List (Nat×α))->(i:Nat)->ps.map (·.1)=List.range' i ps.length->ps=((ps.map (·.2)).zipIdx i).map λx=>(x.2,x.1)
 |[],_,_=>rfl
 |(n,a)::r,i,h=>by
  simp only[a2f,a0g,a8h,a4y]at h;obtain⟨rfl,h⟩:=h;simp only[a2f,List.zipIdx_cons];rw[<-sS r (n+1) h]
def qt {n:Nat} {ps:List (Nat×SV)} {vps:List (Nat×Value)} (hh:bt F G ow w.heap) (Y:∀b,F b->b<w.heap.size) (Z:ps.map (·.1)=vps.map (·.1)) (h2:dq F G ow w.heap (ps.map (·.2)) (vps.map (·.2))) (h:(mu P t n ps ow d).can Q):Db P F G ow w Q (Instr.buildSlice t n vps.toArray):=by
 unfold mu at h;split at h
 ·exact h.elim
 rename_i e he;split at h
 ·exact h.elim
 rename_i k hk;split at h
 ·rename_i hc
  obtain⟨g,H,R⟩:=hc;obtain⟨D,A,I,S,i,z,hi,hz,p,S0,_⟩:=eZ R;split at h
  ·rename_i y hy
   split at h
   ·rename_i ow' hn
    have hu:=fg he;obtain⟨t1,l,B⟩:=rA Y _ (xs:=y.1) (ow':=y.2) hh h2 hy;have s:vps.length=n:=by
     have:=a1x List.length g;simp at this;have h3:=a1x List.length Z;simp at h3;omega
    have J:y.1.length=n:=by rw[l];simp[s]
    have T:vps=((vps.map (·.2)).zipIdx 0).map λx=>(x.2,x.1):=sS vps 0 (by rw[<-Z,g,s,a3t])
    have K:∀v∈vps.map (·.2),v.cells.size=k.n:=by
     intro v hv;obtain⟨j,L,rfl⟩:=a5d hv;have:=cG.length k (B j (by rw[l];exact L) L);simpa using this
    have S1:i.size=cV P e:=by rw[p,I]
    rw[<-I]at H;have M:∀N:Array Value,∃r,Instr.fill (λi=>some (i*k.n,k.n)) ((Array.range (n*k.n)).map (N[· % N.size]!)) vps=some r/\r.size=n*k.n/\bu (λx cs=>cG w.heap (cW F G y.2) k x cs) k.n y.1 r 0:=by
     intro N;obtain⟨r,g,a,U⟩:=Great.fill_dense A (vps.map (·.2)) 0 ((Array.range (n*k.n)).map (N[· % N.size]!)) K (by simp[s]);rw[<-T]at g;simp only[Array.size_map,Array.size_range]at a;refine⟨r,g,a,?_,λj L=> ?_⟩
     ·rw[J,a];omega
     ·have u:j<(vps.map (·.2)).length:=by rw[<-l];exact L
      have:=B j L u;have V:(j+1)*k.n<=n*k.n:=a0o _ (by omega);rw[a1a,a2t]at V;have e1:bY r (0+j*k.n) k.n=((vps.map (λx:Nat×Value=>x.2))[j]'u).cells.toList:=by
       apply a2e;intro q;have O:=K _ (a0l u);by_cases W:q<k.n
       ·rw[aR W,a1l,U]
        simp only[a7j,a5c,a1l,a9p,a2u,s];rw[ifPosQ];have e2:(j*k.n+q)/k.n=j:=by rw[a6d,Nat.mul_add_div A,Nat.div_eq_of_lt W];rfl
        have e3:(j*k.n+q) % k.n=q:=by rw[a6d,Nat.mul_add_mod,a8g W]
        rw[e2,e3,a7l,a0a u];simp
       ·rw[a0w (by rw[aZ (by rw[a];omega)];omega),a0w (by simp only[a6a];rw[O];omega)]
      rw[e1];exact this
    have m:∃r,(Instr.buildSlice t n vps.toArray).run P w= .ok (.slice (some ⟨w.heap.size,0,none⟩) n n) (w.alloc (.cells r e))/\r.size=n*k.n/\bu (λx cs=>cG w.heap (cW F G y.2) k x cs) k.n y.1 r 0:=by
     by_cases X:n*i.size=0
     ·obtain⟨r,g,a,o⟩:=M #[]
      refine⟨r,?_,a,o⟩;rw[<-p]at g;simp only[X]at g;have C:∀f:Nat->Value,(Array.range 0).map f= #[]:=λf=>by simp
      rw[C]at g;simp only[Instr.buildSlice,Sem.run_bind,run_underlying hu,Result.andThen_ok,sizeOf,typeInfo,run_program,hi,Sem.run_pure,X,a1s];simp only[C,g];simp[newRow]
     ·obtain⟨r,g,a,o⟩:=M z.cells
      refine⟨r,?_,a,o⟩;rw[<-p]at g;have E:¬(16777216<n*i.size):=by rw[p];omega
      simp only[Instr.buildSlice,Sem.run_bind,run_underlying hu,Result.andThen_ok,sizeOf,typeInfo,run_program,hi,Sem.run_pure];simp[X,E,fy hi hz,g,newRow]
    obtain⟨r,m,a,o⟩:=m;obtain⟨t2,s2⟩:=B2 t1.hrep Y D o hn e (c:=n) (by omega) (by rw[a];omega) (w1:=w) rfl rfl rfl rfl;rw[J]at s2;exact⟨_,_,_,_,_,h,m,t1.trans t2,s2⟩
   ·exact h.elim
  ·exact h.elim
 ·exact h.elim
def nC (n c:Nat) (h:c<n):Builtin.nextslicecap n c<=2*n:=by
 unfold Builtin.nextslicecap;split
 ·omega
 ·split
  ·omega
  ·have a:∀r c,256<=c->c<2*n->Builtin.growBy n r c<=2*n:=by
    intro r
    induction r with
    |zero=>intro c _ h;simp[Builtin.growBy];omega
    |succ r ih=>
     intro c e f;unfold Builtin.growBy;split
     ·omega
     ·rename_i b
      by_cases d:c+(c+768)/4<2*n
      ·exact ih _ (by omega) d
      ·omega
   exact a 4 c (by omega) (by omega)
def B3 {h:Array Obj} {ok:Nat->Prop}:(k:Kd)-> {x:k.T}-> {cs:List Value}->cG h ok k x cs->∀u∈cs,u.oneCell'=true
 | .int _,_,_,e=>by cases e;simp[Value.oneCell']
 | .bool,_,_,e=>by cases e;simp[Value.oneCell']
 | .str,_,_,e=>by cases e;simp[Value.oneCell']
 | .err,_,_,e=>by rcases e with⟨_,rfl⟩|⟨_,_,_,rfl⟩<;>simp[Value.oneCell']
 | .any,_,_,e=>by cases e;simp[Value.oneCell']
 | .sl true _,_,_,e=>e.elim
 | .sl false _,_,_,e=>by obtain⟨_,_,rfl,_⟩:=e;simp[Value.oneCell']
 | .nil,_,_,e=>by cases e;simp
 | .cons a b,_,_,e=>by
  obtain⟨c1,c2,rfl,c,d⟩:=e;intro u f;rcases a0k.1 f with h|h
  ·exact B3 a c u h
  ·exact B3 b d u h
 | .tree _,_,_,e=>by obtain⟨v,rfl,g⟩:=e;obtain⟨_,_,rfl⟩:=g.ptr;simp[Value.oneCell']
def sU {h:Array Obj} {ok:Nat->Prop} (g:0<k.n) {l:List k.T} {r:Array Value} {o:Nat} (b:bu (λx cs=>cG h ok k x cs) k.n l r o):∀u∈bY r o (l.length*k.n),u.oneCell'=true:=by
 intro u i;obtain⟨q,c,rfl⟩:=a5d i;rw[aZ b.1]at c;have a:q/k.n<l.length:=Nat.div_lt_of_lt_mul (by rw[a6d];exact c);have p:q/k.n*k.n+k.n<=l.length*k.n:=by
  have:(q/k.n+1)*k.n<=l.length*k.n:=a0o _ a;rw[a1a,a2t]at this;exact this
 have j:q % k.n<k.n:=a9l _ g;have d:q/k.n*k.n+q % k.n=q:=by rw[a6d];exact Nat.div_add_mod q k.n
 have m:=b.2 (q/k.n) a;have e:(bY r (o+q/k.n*k.n) k.n)[q % k.n]?=(bY r o (l.length*k.n))[q]?:=by
  rw[aR j,aR c,a2k,d]
 have f:(bY r (o+q/k.n*k.n) k.n).length=k.n:=aZ (by have:=b.1;omega);rw[a0a (by omega),a0a (by rw[aZ b.1];exact c)]at e;rw[<-a1f e];exact B3 k m _ (a0l _)
def oj (z:bt F G ow w.heap) (A:0<k.n) {x:SV} {xv:Value} (m:Sv F G ow w.heap x xv) {y:List k.T} (h:rh k x ow=some y) {tx:TypeId} (t:P.underlying tx=some (.slice e)):∃d,Src P k.n tx xv y.length d w/\bu (λx cs=>cG w.heap (cW F G ow) k x cs) k.n y d.toArray 0:=by
 have nil:∀(a:Option Addr) (c:Nat),Src P k.n tx (.slice a 0 c) 0 [] w:=by
  intro a c
  cases a with
  |none=>exact Src.ofNil w t c
  |some a=>exact Src.ofSlice w t a 0 c [] (by simp) (λj u p=>by simp at p) (by simp)
 have q:∀(b o c:Nat) (r:Array Value) (l:List k.T),am w.heap b=some r->bu (λx cs=>cG w.heap (cW F G ow) k x cs) k.n l r o->∃d,Src P k.n tx (.slice (some ⟨b,o,none⟩) l.length c) l.length d w/\bu (λx cs=>cG w.heap (cW F G ow) k x cs) k.n l d.toArray 0:=by
  intro b o c r l s f;have g:=aZ f.1;refine⟨bY r o (l.length*k.n),Src.ofSlice w t _ _ _ _ g (λj u p=> ?_) (sU A f),f.congr (by simp[g]) ?_⟩
  ·rw[Addr.add_mid,bT s,<-p,aR]
   rcases a3u j (l.length*k.n)with h|h
   ·exact h
   ·rw[a0w (by omega)]at p;cases p
  ·show((bY r o (l.length*k.n)).toArray.toList.drop 0).take (l.length*k.n)=_
   rw[a4v,a3a];simp[g]
 unfold rh at h;split at h
 ·cases h
  cases m
  exact⟨[],nil _ _,⟨by simp,λi hi=>by simp at hi⟩⟩
 ·rename_i o B l
  split at h
  ·rename_i e
   subst e;have h:l=y:=a1f h;subst h;obtain⟨rfl,a,c,rfl,_,m⟩:=m.sl_inv;rcases m with rfl|⟨b,of,r,rfl,_,s,f⟩
   ·exact⟨[],nil _ _,⟨by simp,λi hi=>by simp at hi⟩⟩
   ·exact q b of c r l s f
  ·cases h
 ·split at h
  ·rename_i r s
   obtain⟨C,v⟩:=r;dsimp only at h;split at h
   ·rename_i e
    subst e;have h:v=y:=a1f h;subst h;obtain⟨_,_,_,_,_,_,_,a,c,rfl,_,m⟩:=jt z m s;rcases m with m|⟨b,o,rw_,_,rfl,hrow,f,_⟩
    ·dsimp only at m
     subst m;exact⟨[],nil _ _,⟨by simp,λi hi=>by simp at hi⟩⟩
    ·exact q b o c rw_ v hrow f
   ·cases h
  ·cases h
end
end Go.Pev
namespace Go.Pev
variable {r:Array Value} {d o b p m:Nat} {vs:List Value} {xv:Value} {t tx ty e:TypeId} {k:Kd} {Q:SV×OW->Prop}
section
variable {F:Nat->Prop} {G:Gh} {ow ow':OW} {w:World} {P:Program}
def rC (Q:bt F G ow w.heap) {x:SV} (v:Sv F G ow w.heap x xv) {j:Nat} (y:jL x=some (d,j)) {r:Sigma λk:Kd=>List k.T} (q:kU ow x=some r) (hi:nS ow d j=true):r.1.good=true/\(∃ver l0,aj ow d j=some (some (.row r.1 ver l0)))/\∃a c,xv= .slice a r.2.length c/\r.2.length<=c/\((G d j 0=none/\a=none/\r.2=[]/\c=0)\/∃b o z f et,G d j 0=some (b,z)/\a=some ⟨b,o,none⟩/\w.heap[b]?=some (.cells f et (0,0))/\bu (λx cs=>cG w.heap (cW F G ow) r.1 x cs) r.1.n r.2 f o/\o+c*r.1.n<=f.size):=by
 obtain⟨k,ver,l0,I⟩:∃k ver l0,cy ow d j=some (.row k ver l0):=by
  unfold nS at hi;split at hi
  ·exact⟨_,_,_,by assumption⟩
  ·cases hi
 have E:=aA I;obtain⟨_,m,N⟩:=Q.obs d j _ E;have s:∀ {off:Nat} {len:Option Nat},cZ w.heap G ow d j off len xv->off+len.getD l0.length<=l0.length/\∃a c,xv= .slice a (len.getD l0.length) c/\len.getD l0.length<=c/\((G d j 0=none/\a=none/\len.getD l0.length=0/\c=0)\/∃b o z f et,G d j 0=some (b,z)/\a=some ⟨b,o,none⟩/\w.heap[b]?=some (.cells f et (0,0))/\bu (λx cs=>cG w.heap (cW F G ow) k x cs) k.n (aO l0 off (len.getD l0.length)) f o/\o+c*k.n<=f.size):=by
  intro off len h;simp only[cZ,E]at h;obtain⟨p,a,c,rfl,l,h⟩:=h;refine⟨p,a,c,rfl,l,?_⟩;rcases h with⟨t,A,R⟩|⟨b,o,z,f,O,S,B,J,U⟩
  ·exact .inl ⟨t,A,by omega,R⟩
  ·simp only[O]at N
   obtain⟨V,et,P,K⟩:=N;have e:=aS P;rw[B]at e;cases e
   refine .inr ⟨b,z,o,f,et,O,S,P,?_,U⟩;by_cases L:0<c
   ·rw[J L];exact K.part p
   ·have C:len.getD l0.length=0:=by omega
    have t:aO l0 off (len.getD l0.length)=[]:=by simp[aO,C]
    rw[t];exact⟨by simp;omega,λi hi=>by simp at hi⟩
 unfold jL at y;split at y
 ·rename_i d' j' D g
  cases y
  have M:g=[]/\r=⟨k,l0⟩:=by
   unfold kU nQ at q
   cases g with
   |nil=>simp[I]at q;exact⟨rfl,q.symm⟩
   |cons _ _=>simp at q
  obtain⟨rfl,rfl⟩:=M
  cases v with
  |wh v=>
  obtain⟨_,a,c,H,l,h⟩:=s v;refine⟨m,⟨ver,l0,E⟩,a,c,H,l,?_⟩;have e:aO l0 0 l0.length=l0:=by simp[aO]
  simp only[a2q,e]at h;rcases h with⟨C,u,t,A⟩|h
  ·exact .inl ⟨C,u,a0s t,A⟩
  ·exact .inr h
 ·rename_i d' j' D g off len
  cases y
  have M:g=[]/\r=⟨k,aO l0 off len⟩:=by
   unfold kU nQ at q
   cases g with
   |nil=>simp[I]at q;exact⟨rfl,q.symm⟩
   |cons _ _=>simp at q
  obtain⟨rfl,rfl⟩:=M
  cases v with
  |os v=>
  obtain⟨p,a,c,H,l,h⟩:=s v;simp only[a2r]at p H l h;have e:(aO l0 off len).length=len:=by simp[aO];omega
  refine⟨m,⟨ver,l0,E⟩,a,c,by rw[e];exact H,by rw[e];exact l,?_⟩;rcases h with⟨C,u,t,A⟩|h
  ·exact .inl ⟨C,u,a0s (by rw[e,t]),A⟩
  ·exact .inr h
 ·cases y
def Ow (i:bt F G ow w.heap) (m:∀b,F b->b<w.heap.size) {j:Nat} (p:aj ow d j≠none) {o:Option OB} (k:o=none\/∃n,o=some (.lrow n)) (q:EC (aj ow d j) (some o)):Tr F G ow w G (bo ow d j o) w:=by
 have c:=λd' j'=>aW (o:=o) (d':=d') (j':=j') p
 have g:¬bx (some o):=by rcases k with rfl|⟨n,rfl⟩<;>exactλh=>h
 have a:∀ {d' j'},bx (aj (bo ow d j o) d' j')->bx (aj ow d' j'):=by
  intro d' j' hi;rw[c]at hi;split at hi
  ·exact absurd hi g
  ·exact hi
 refine tX i m (λ_ _ _=>rfl) (λd' j'=> ?_) (.refl _ _) (λb s=> ?_) (λb r _ t=>⟨r,t,rfl⟩) (λd' j' l f=> ?_) (λu v x y z A b B C D E=>i.apart u v x y z A b B C (a D) (a E)) bG
 ·rw[c]
  split
  ·rename_i e;rw[e.1,e.2];exact q
  ·exact .refl _
 ·obtain⟨d',j',H,l,hi,I⟩:=aM.1 s
  exact .inl (aM.2 ⟨d',j',H,l,a hi,I⟩)
 ·rw[c]at f
  split at f
  ·rcases k with rfl|⟨n,rfl⟩
   ·cases f
   ·cases f
    exact .inr λ_ _=>trivial
  ·exact .inl ⟨f,rfl,λ_ _ _ _ _=>rfl⟩
def Du (x:bt F G ow w.heap) (z:∀b,F b->b<w.heap.size) (A:k.good=true) (y:cg ow d [.row k 0 []]=some ow'):Tr F G ow w (G.new d (fH none)) ow' w/\Sv F (G.new d (fH none)) ow' w.heap (.wh d 0 0 []) (.slice none 0 0):=by
 obtain⟨B,p,q⟩:=eY y;have p:ow[d]?=some []:=by rcases p with h|h;cases h;exact h
 have a:∀d' j,aj ow' d' j=if d'=d then [OB.row k 0 []][j]?.map some else aj ow d' j:=λd' j=>by rw[q];simp
 have g:∀d' j,d'≠d->(G.new d (fH none)) d' j=G d' j:=λd' j f=>by simp[Gh.new,f]
 have c:∀j i,(G.new d (fH none)) d j i=none:=λj i=>by simp[Gh.new,fH]
 have l:∀ {d' j' i b o},bx (aj ow' d' j')->(G.new d (fH none)) d' j' i=some (b,o)->bx (aj ow d' j')/\G d' j' i=some (b,o):=by
  intro d' j' i b o hi n;by_cases f:d'=d
  ·subst f;rw[c]at n;cases n
  ·rw[g _ _ f]at n;rw[a,a0e f]at hi;exact⟨hi,n⟩
 refine⟨tX x z (λd' j m=> ?_) (λd' j=> ?_) (.refl _ _) (λb C=> ?_) (λb r _ D=>⟨r,D,rfl⟩) (λd' j o m=> ?_) (λE H I J K L b M N s t u v=> ?_) B,.wh ?_⟩
 ·refine a9q (g _ _ λe=> ?_) 0
  rw[e,c9 p]at m;exact m rfl
 ·by_cases f:d'=d
  ·subst f;rw[c9 p];trivial
  ·rw[a,a0e f];exact .refl _
 ·obtain⟨d',j',O,P,hi,n⟩:=aM.1 C
  obtain⟨hi,n⟩:=l hi n;exact .inl (aM.2 ⟨d',j',O,P,hi,n⟩)
 ·by_cases f:d'=d
  ·subst f
   right;intro _ _;rw[a,a0b rfl]at m
   cases j with
   |zero=>
    simp at m;subst m;refine⟨λi=>c 0 (i+1),A,?_⟩;rw[c]
   |succ j=>simp at m
  ·left
   rw[a,a0e f]at m;exact⟨m,g _ _ f,λ_ _ _ _ _=>rfl⟩
 ·obtain⟨s,u⟩:=l s u
  obtain⟨t,v⟩:=l t v;exact x.apart E H I J K L b M N s t u v
 ·simp only[cZ,qr y,a2q]
  exact⟨by simp,_,_,rfl,a1n _,.inl ⟨c 0 0,rfl,rfl⟩⟩
def nI (r:Array Value) (o:Nat) (vs:List Value):Array Value:=(r.toList.take o++vs++r.toList.drop (o+vs.length)).toArray
def bV (h:o+vs.length<=r.size):(nI r o vs).size=r.size:=by
 simp[nI];omega
def ik (h:o+vs.length<=r.size) (i:Nat):(nI r o vs)[i]?=if o<=i/\i<o+vs.length then vs[i-o]? else r[i]?:=by
 simp only[nI,a8p];by_cases a:i<o
 ·rw[ifNegQ,a1q,a1i (by simp;omega),a5a a]
  simp
 ·by_cases b:i<o+vs.length
  ·rw[ifPosQ,a1i (by simp;omega),a1j (by simp;omega)]
   simp[a8q (show o<=r.size by omega)]
  ·rw[ifNegQ,a1j (by simp;omega)]
   simp only[a0m,a1m,a2x,a6a,a5p]
   congr 1
   omega
def cX {b:Nat} {et:TypeId} {f:Nat×Nat}:(vs:List Value)->(o:Nat)->(w:World)-> {r:Array Value}->w.heap[b]?=some (.cells r et f)->o+vs.length<=r.size->(w.setCells b o vs).heap[b]?=some (.cells (nI r o vs) et f)
 |[],o,w,r,h,_=>by
  have:nI r o []=r:=by apply a4l;simp[nI]
  rw[this];exact h
 |v::vs,o,w,r,h,hs=>by
  simp only[a0g]at hs;have a:(w.setCell ⟨b,o,none⟩ v).heap[b]?=some (.cells (r.setIfInBounds o v) et f):=by
   simp[World.setCell,a4d,h]
  have:=cX vs (o+1) (w.setCell ⟨b,o,none⟩ v) a (by simp;omega);show((w.setCell ⟨b,o,none⟩ v).setCells b (o+1) vs).heap[b]?=_;rw[this]
  congr 2
  apply Array.ext_getElem?;intro i;rw[ik (by simp;omega),ik (by simp;omega)];by_cases a:o=i
  ·subst a
   rw[ifNegQ,a0b (by simp)];simp[show o<r.size by omega]
  ·by_cases c:o+1<=i/\i<o+1+vs.length
   ·rw[a0b c,a0b (by simp;omega)]
    have:i-o=(i-(o+1))+1:=by omega
    rw[this,a5e]
   ·rw[a0e c,a0e (by simp;omega)]
    simp[a]
def pV (b:Nat):(vs:List Value)->(o:Nat)->(w:World)->(w.setCells b o vs).heap.size=w.heap.size
 |[],_,_=>rfl
 |v::vs,o,w=>by
  show((w.setCell ⟨b,o,none⟩ v).setCells b (o+1) vs).heap.size=_;rw[pV b vs];simp
def pW (b:Nat):(vs:List Value)->(o:Nat)->(w:World)->(w.setCells b o vs).tape=w.tape
 |[],_,_=>rfl
 |v::vs,o,w=>by
  show((w.setCell ⟨b,o,none⟩ v).setCells b (o+1) vs).tape=_;rw[pW b vs];rfl
def zk {w:World} {a:Addr} {v:Value} {et:TypeId} {f:Nat×Nat} (h:w.heap[b]?=some (.cells r et f)):∃c,(w.setCell a v).heap[b]?=some (.cells c et f)/\c.size=r.size:=by
 by_cases d:a.block=b
 ·exact⟨_,by simp[World.setCell,a4d,d,h];rfl,by split<;>simp⟩
 ·exact⟨r,by simp[World.setCell,a4d,d,h],rfl⟩
def ol (c:Nat) {b:Nat} {et:TypeId} {f:Nat×Nat}:(vs:List Value)->(o:Nat)->(w:World)-> {r:Array Value}->w.heap[b]?=some (.cells r et f)->∃d,(w.setCells c o vs).heap[b]?=some (.cells d et f)/\d.size=r.size
 |[],_,_,r,h=>⟨r,h,rfl⟩
 |v::vs,o,w,r,h=>by
  obtain⟨j,e,k⟩:=zk (a:=⟨c,o,none⟩) (v:=v) h;obtain⟨g,i,l⟩:=ol c vs (o+1) _ e;exact⟨g,i,by omega⟩
def gJ {I:Nat->Prop} (c:I b) (w:World) (o:Nat) (vs:List Value):eX I w (w.setCells b o vs):=⟨by rw[pV];exact a1n _,λf a d=>World.heap_setCells_other w b o vs a (λe=>d (e▸c)),λ_ _ _ _ h=>ol b vs o w h,World.os_setCells w b o vs,World.output_setCells w b o vs,pW b vs o w⟩
def kr {i:Nat} (h:m<=i:=by omega):(bY r p m)[i]?=none:=a0w (by simp[bY];omega)
def cn (h:o+vs.length<=r.size) (a:p+m<=o:=by omega):bY (nI r o vs) p m=bY r p m:=by
 apply a2e;intro i;by_cases hi:i<m
 ·rw[aR hi,aR hi,ik h,ifNegQ]
 ·rw[kr,kr]
def eK (h:o+vs.length<=r.size):bY (nI r o vs) o vs.length=vs:=by
 apply a2e;intro i;by_cases hi:i<vs.length
 ·rw[aR hi,ik h,ifPosQ]
  congr 1
  omega
 ·rw[a0w (by rw[aZ (by rw[bV h];omega)];omega),a0w (by omega)]
def im (h:o+vs.length<=r.size) (a:o+vs.length<=p:=by omega):bY (nI r o vs) p m=bY r p m:=by
 apply a2e;intro i;by_cases hi:i<m
 ·rw[aR hi,aR hi,ik h,ifNegQ]
 ·rw[kr,kr]
def gR {i:TypeInfo} (c:P.underlying t=some (.slice e)) (hi:P.info? e=some i) (a:Option Addr) {x:Value} (b:Src P i.size tx x 0 [] w):(Builtin.append_ #[t,tx] ty #[.slice a 0 0,x]).run P w= .ok (.slice a 0 0) w:=by
 rcases b.kind with⟨d,hk⟩|hk<;>cases a<;>simp[Builtin.append_,run_underlying c,run_underlying hk,sizeOf,typeInfo,hi,b.len,b.cells,storeCells]
def dU (z:Array Value) (n:Nat):(Builtin.zeroCells z n).size=n*z.size:=by simp[Builtin.zeroCells]
def ua (hh:bt F G ow w.heap) (hF:∀b,F b->b<w.heap.size) (he:lL P t=some e) (S:kj P e k=true) {a:Option Addr} {l0 y:List k.T} {c:Nat} {l:List Value} (W:Src P k.n tx xv y.length l w)
 (hy:bu (λx cs=>cG w.heap (cW F G ow) k x cs) k.n y l.toArray 0) (C:l0=[]\/∃b o r,a=some ⟨b,o,none⟩/\am w.heap b=some r/\bu (λx cs=>cG w.heap (cW F G ow) k x cs) k.n l0 r o)
 (q:c<l0.length+y.length) (K:(l0.length+y.length)*df P e<=af) (hn:cg ow d [.row k 0 (l0++y)]=some ow') (hq:Q (.wh d 0 0 [],ow')):
 Db P F G ow w Q (Builtin.append_ #[t,tx] ty #[.slice a l0.length c,xv]):=by
 obtain⟨D,X,_,s,i,z,hi,hz,L,U,V⟩:=eZ S;have E:=fg he;obtain⟨g,M,m⟩:∃g:List Value,(Builtin.firstCells i.size l0.length (.slice a l0.length c)).run P w.drew= .ok g.toArray w.drew/\g.length=l0.length*k.n/\bu (λx cs=>cG w.heap (cW F G ow) k x cs) k.n l0 g.toArray 0:=by
  rcases C with rfl|⟨b,o,r,rfl,hr,hel⟩
  ·refine⟨[],?_,by simp,⟨by simp,λi hi=>by simp at hi⟩⟩
   cases a with
   |none=>exact run_firstCells_none w.drew i.size 0 0 c
   |some a=>exact run_firstCells_some w.drew i.size 0 a 0 c [] (by simp) (λj u E=>by simp at E)
  ·have p:=aZ hel.1
   refine⟨bY r o (l0.length*k.n),run_firstCells_some w.drew i.size l0.length _ _ _ _ (by rw[L];exact p) (λj u E=> ?_),p,hel.congr (by simp[p]) ?_⟩
   ·rw[Addr.add_mid]
    show w.cell? _=_;rw[bT hr,<-E,aR];rcases a3u j (l0.length*k.n)with h|h
    ·exact h
    ·rw[a0w (by omega)]at E;cases E
   ·show((bY r o (l0.length*k.n)).toArray.toList.drop 0).take (l0.length*k.n)=_
    rw[a4v,a3a];simp[p]
 obtain⟨f,m⟩:=m;rw[U]at K s;unfold af at K;have h3:l0.length+y.length<=(l0.length+y.length)*i.bytes:=a4i _ s;have N:=nC (l0.length+y.length) c q;have O:Builtin.nextslicecap (l0.length+y.length) c*i.bytes<=281474976710656:=by
  have:=a0o i.bytes N;rw[Nat.mul_assoc]at this;omega
 have v:=run_append_grow_src (P:=P) w t tx ty e i z E hi hz a l0.length c g M xv y.length l (by rw[L];exact W) q (by omega) O;have R:=grownCap_ge w (l0.length+y.length) c e
 generalize S0:grownCap w (l0.length+y.length) c e=cc at v R
 have H:l.length=y.length*k.n:=by have:=W.newsLen;exact this
 have hE:bu (λx cs=>cG w.heap (cW F G ow) k x cs) k.n (l0++y) ((g++l).toArray++Builtin.zeroCells z.cells (cc-(l0.length+y.length))) 0:=by
  have I:∀A B:List Value,∀Z:Array Value,bY ((A++B).toArray++Z) 0 A.length=bY A.toArray 0 A.length:=by
   intro A B Z;simp[bY]
  have J:∀A B:List Value,∀Z:Array Value,bY ((A++B).toArray++Z) A.length B.length=bY B.toArray 0 B.length:=by
   intro A B Z;simp[bY]
  refine bu.append (m.congr ?_ ?_) (hy.congr ?_ ?_)
  ·simp only[a3k,a2s,a0m,f];omega
  ·rw[<-f];exact I _ _ _
  ·simp only[a3k,a2s,a0m,f,H];omega
  ·rw[<-H,a1l,<-f];exact J _ _ _
 obtain⟨t1,Y⟩:=B2 hh hF D hE hn e (c:=cc) (by simpa using R) (by
  simp only[a3k,a2s,a0m,dU,V,f,H];rw[<-a1a,<-a1a];exact a0o _ (by omega)) (w1:=w.drew) rfl rfl rfl rfl
 rw[a0m]at Y;exact⟨_,_,_,_,_,hq,v,t1,Y⟩
def Dv (X:bt F G ow w.heap) (hF:∀b,F b->b<w.heap.size) (he:lL P t=some e) (N:kj P e k=true) {l0 y:List k.T} {o' c v A:Nat} {et:TypeId} {ver:Nat} {l1:List k.T} {a:List Value} (l:Src P k.n tx xv y.length a w)
 (hy:bu (λx cs=>cG w.heap (cW F G ow) k x cs) k.n y a.toArray 0) (B:aj ow v A=some (some (.row k ver l1))) (hG:G v A 0=some (b,o')) (hb:w.heap[b]?=some (.cells r et (0,0))) (Y:bu (λx cs=>cG w.heap (cW F G ow) k x cs) k.n l0 r o)
 (m:l0.length+y.length<=c) (Z:o+c*k.n<=r.size) (hn:cg (bo ow v A (some (.lrow l1.length))) d [.row k 0 (l0++y)]=some ow') (hq:Q (.wh d 0 0 [],ow')):
 Db P F G ow w Q (Builtin.append_ #[t,tx] ty #[.slice (some ⟨b,o,none⟩) l0.length c,xv]):=by
 obtain⟨O,Th,_,S4,i,z,hi,hz,R,Ti,Tj⟩:=eZ N;have hu:=fg he;have S5:a.length=y.length*k.n:=l.newsLen;have J:cu G ow b:=aM.2 ⟨v,A,0,o',by rw[B];trivial,hG⟩;have S0:(l0.length+y.length)*k.n<=c*k.n:=a0o _ m;rw[a1a]at S0;have f:o+l0.length*k.n+a.length<=r.size:=by omega
 have K:=run_append_room_src (P:=P) w t tx ty e i hu hi b o l0.length c xv y.length a (by rw[R];exact l) m
  (λj hj=>by rw[R,bT (aS hb)];simp;omega)
  (λj hj=>by unfold World.frozen?;rw[hb];simp)
 rw[R]at K;have S:=cX a (o+l0.length*k.n) w hb f;have hk:eX (cu G ow) w (w.setCells b (o+l0.length*k.n) a):=gJ J w _ _;obtain⟨hl,U,S1⟩:=eY hn;have U:(bo ow v A (some (.lrow l1.length)))[d]?=some []:=by rcases U with h|h;cases h;exact h
 have S6:aj ow v A≠none:=by rw[B];simp
 have L:=λd' j'=>aW (o:=some (.lrow l1.length)) (d':=d') (j':=j') S6
 have p:∀j,aj ow d j=none:=by
  intro j;have W:=c9 U j;rw[L]at W;split at W
  ·cases W
  ·exact W
 have g:∀d' j,aj ow' d' j=if d'=d then [OB.row k 0 (l0++y)][j]?.map some else if d'=v/\j=A then some (some (.lrow l1.length))else aj ow d' j:=λd' j=>by rw[S1,L];simp
 have C:∀d' j,d'≠d->(G.new d (fH (some (b,o)))) d' j=G d' j:=λd' j q=>by simp[Gh.new,q]
 have S2:∀ {j i s D},(G.new d (fH (some (b,o)))) d j i=some (s,D)->i=0/\s=b:=λ {j i s D} h=>by
  simp only[Gh.new,a1s,fH]at h;split at h
  ·rename_i e;cases h;exact⟨e,rfl⟩
  ·cases h
 have E:∀ {d' j' V s D},bx (aj ow' d' j')->(G.new d (fH (some (b,o)))) d' j' V=some (s,D)->(d'=d/\j'=0/\V=0/\s=b)\/(d'≠d/\¬(d'=v/\j'=A)/\aj ow' d' j'=aj ow d' j'/\bx (aj ow d' j')/\G d' j' V=some (s,D)/\s≠b):=by
  intro d' j' V s D hi H;by_cases q:d'=d
  ·subst q
   obtain⟨rfl,rfl⟩:=S2 H;refine .inl ⟨rfl,?_,rfl,rfl⟩;rw[g,a0b rfl]at hi
   cases j' with
   |zero=>rfl
   |succ j=>simp[bx]at hi
  ·right
   rw[C _ _ q]at H;have M:=g d' j';rw[a0e q]at M;by_cases I:d'=v/\j'=A
   ·rw[a0b I]at M;rw[M]at hi;exact hi.elim
   ·rw[a0e I]at M
    rw[M]at hi;refine⟨q,I,M,hi,H,λu=> ?_⟩;subst u;have:=X.apart d' j' V v A 0 s D o' hi (by rw[B];trivial) H hG;exact I ⟨this.1,this.2.1⟩
 have S3:(G.new d (fH (some (b,o)))) d 0 0=some (b,o):=by simp[Gh.new,fH]
 have S7:∀i,(G.new d (fH (some (b,o)))) d 0 (i+1)=none:=by simp[Gh.new,fH]
 refine⟨_,_,_,_,G.new d (fH (some (b,o))),hq,K,tX X hF (λd' j l=> ?_) (λd' j=> ?_) hk (λs S8=> ?_) (λs r' ho hr=> ?_) (λd' j ob l=> ?_) (λd1 j1 i1 d2 j2 i2 b1 D o2 W I g1 g2=> ?_) (by rw[hl,bG]),.wh ?_⟩
 ·refine a9q (C _ _ λe=> ?_) 0
  rw[e,p]at l;exact l rfl
 ·by_cases q:d'=d
  ·subst q;rw[p];trivial
  ·rw[g,a0e q]
   split
   ·rename_i e;rw[e.1,e.2,B];exact rfl
   ·exact .refl _
 ·obtain⟨d',j',V,D,hi,H⟩:=aM.1 S8
  rcases E hi H with⟨_,_,_,rfl⟩|⟨_,_,_,S9,Ta,_⟩
  ·exact .inl J
  ·exact .inl (aM.2 ⟨d',j',V,D,S9,Ta⟩)
 ·by_cases u:s=b
  ·subst u
   rw[aS hb]at hr
   cases hr
   exact⟨_,aS S,bV f⟩
  ·refine⟨r',?_,rfl⟩
   unfold am;rw[World.heap_setCells_other w b _ _ (cL hr) u];exact hr
 ·by_cases q:d'=d
  ·subst q
   right;intro _ N;rw[g,a0b rfl]at l
   cases j with
   |zero=>
    simp only[a1p,a1t,a0i]at l;subst l;refine⟨S7,O,?_⟩;simp only[S3];refine⟨_,et,S,?_⟩;refine bu.mono (λx cs l=>cG.mono N _ l) (bu.append (Y.congr ?_ (cn f (a1n _))) (hy.congr ?_ ?_))
    ·rw[bV f];exact Y.1
    ·rw[bV f];omega
    ·rw[<-S5,eK f]
     simp[bY]
   |succ j=>simp at l
  ·rw[g,a0e q]at l
   split at l
   ·cases l
    rename_i I;right;intro _ _;trivial
   ·rename_i I
    left;refine⟨l,C _ _ q,λhi i b1 cc H=> ?_⟩;have Tb:cu G ow b1:=aM.2 ⟨d',j,i,cc,by rw[l];exact hi,H⟩;refine World.heap_setCells_other w b _ _ (cu.lt X Tb) λu=> ?_
    subst u;have:=X.apart d' j i v A 0 b1 cc o' (by rw[l];exact hi) (by rw[B];trivial) H hG;exact I ⟨this.1,this.2.1⟩
 ·rcases E W g1 with⟨M,e2,Tc,e3⟩|⟨_,_,_,k1,Td,n1⟩<;>rcases E I g2 with⟨e4,e5,Te,e6⟩|⟨_,_,_,k2,Tf,n2⟩
  ·exact⟨by rw[M,e4],by rw[e2,e5],by rw[Tc,Te]⟩
  ·exact absurd e3 n2
  ·exact absurd e6 n1
  ·exact X.apart d1 j1 i1 d2 j2 i2 b1 D o2 k1 k2 Td Tf
 ·have Tg:aj ow' d 0=some (some (.row k 0 (l0++y))):=by rw[g,a0b rfl];rfl
  simp only[cZ,Tg,a2q,a0m];exact⟨by omega,_,_,rfl,m,.inr ⟨b,o,o,_,S3,rfl,aS S,λ_=>by simp,by rw[bV f];exact Z⟩⟩
def ww {s x:SV} {sv:Value} (C:bt F G ow w.heap) (N:∀b,F b->b<w.heap.size) (hs:Sv F G ow w.heap s sv) (D:Sv F G ow w.heap x xv) (X:fW P tx=true) (h:(vV P t s x ow d).can Q):Db P F G ow w Q (Builtin.append_ #[t,tx] ty #[sv,xv]):=by
 obtain⟨e',E⟩:=gI X;unfold vV at h;split at h
 ·exact h.elim
 rename_i e V;have Y:=fg V;split at h
 ·cases hs
  split at h
  ·cases D
   split at h
   ·rename_i hi
    obtain⟨i,hi⟩:=a7w.1 hi;exact⟨_,_,_,_,G,h,gR Y hi none (Src.ofNil w E 0),.refl C,.nils⟩
   ·exact h.elim
  ·split at h
   ·rename_i k hk
    split at h
    ·rename_i y Z
     split at h
     ·rename_i m
      obtain⟨g,h⟩:=h;have g:=a0z g;split at h
      ·rename_i ow' H
       obtain⟨l,p,_,I,i,z,hi,hz,J,S0,S1⟩:=eZ m;obtain⟨q,f,A⟩:=oj (P:=P) C p D Z E
       cases y with
       |nil=>
        obtain⟨t1,s1⟩:=Du C N l H;have r:q=[]:=a0s (by have:=f.newsLen;simpa using this);subst r;exact⟨_,_,_,_,_,h,gR Y hi none (by rw[J];exact f),t1,s1⟩
       |cons a y'=>
        exact ua (l0:=[]) C N V m f A (.inl rfl) (by simp) (by simpa using g) H h
      ·exact h.elim
     ·exact h.elim
    ·exact h.elim
   ·exact h.elim
 ·split at h
  ·rename_i W j b O R
   split at h
   ·rename_i S
    split at h
    ·rename_i y Z
     split at h
     ·rename_i m
      obtain⟨g,h⟩:=h;have g:=a0z g;split at h
      ·rename_i ow' H
       obtain⟨l,p,_,I,i,z,hi,hz,J,S0,S1⟩:=eZ m;obtain⟨q,f,A⟩:=oj (P:=P) C p D Z E;obtain⟨_,⟨ver,l1,B⟩,a,c,rfl,S5,u⟩:=rC C hs O R S;have S2:Fq ow W j=bo ow W j (some (.lrow l1.length)):=by
        have:cy ow W j=some (.row b.1 ver l1):=by rw[lQ,B];rfl
        unfold Fq;rw[this]
       rw[S2]at H;have n:=Ow C N (d:=W) (j:=j) (by rw[B];simp) (o:=some (.lrow l1.length)) (.inr ⟨_,rfl⟩) (by rw[B];exact rfl);by_cases K:b.2.length+y.length<=c
       ·rcases u with⟨_,rfl,L,S3⟩|⟨bb,o,o',T,et,hG,rfl,M,v,U⟩
        ·have S4:y=[]:=a0s (by omega)
         obtain⟨bk,bl⟩:=b;dsimp only at*;subst L S4 S3;obtain⟨t1,s1⟩:=Du n.hrep N l H;have r:q=[]:=a0s (by have:=f.newsLen;simpa using this);subst r;exact⟨_,_,_,_,_,h,gR Y hi none (by rw[J];exact f),n.trans t1,s1⟩
        ·exact Dv C N V m f A B hG M v K U H h
       ·obtain⟨s',ow2,v',w2,G2,q1,q2,q3,q4⟩:=ua (P:=P) (tx:=tx) (ty:=ty) (a:=a) (c:=c) (l0:=b.2) n.hrep N V m f (A.mono λx cs D=>cG.mono (tY n) _ D) (by
         rcases u with⟨_,_,L,_⟩|⟨bb,o,o',T,et,hG,ha,M,v,_⟩
         ·exact .inl L
         ·exact .inr ⟨bb,o,T,ha,aS M,v.mono λx cs D=>cG.mono (tY n) _ D⟩) (by omega) g H h
        exact⟨s',ow2,v',w2,G2,q1,q2,n.trans q3,q4⟩
      ·exact h.elim
     ·exact h.elim
    ·exact h.elim
   ·exact h.elim
  ·exact h.elim
end
end Go.Pev
namespace Go.Pev
variable {t:TypeId}
section
variable {F:Nat->Prop} {G:Gh} {ow ow':OW} {w:World} {P:Program}
def rD (q:bt F G ow w.heap) (O:∀b,F b->b<w.heap.size) {d j:Nat} {A ob':OB} (k:aj ow d j=some (some A)) (hi:bx (some (some A))) (P:EC (some (some A)) (some (some ob'))) (Q:bx (some (some ob')))
 {b B:Nat} (K:G d j 0=some (b,B)) {r:Array Value} {et:TypeId} (L:w.heap[b]?=some (.cells r et (0,0))) {p:Nat} {vs:List Value} (M:p+vs.length<=r.size)
 (C:(w.setCells b p vs).heap[b]?=some (.cells (nI r p vs) et (0,0))->(∀s v,Sv F G ow w.heap s v->Sv F G (bo ow d j (some ob')) (w.setCells b p vs).heap s v)->
  (∀g t,cW F G ow g->am w.heap g=some t->cW F G (bo ow d j (some ob')) g/\am (w.setCells b p vs).heap g=some t)->
  dl (w.setCells b p vs).heap (cW F G (bo ow d j (some ob'))) G (bo ow d j (some ob')) d j ob'):
 Tr F G ow w G (bo ow d j (some ob')) (w.setCells b p vs):=by
 have D:aj ow d j≠none:=by rw[k];simp
 have i:=λd' j'=>aW (o:=some ob') (d':=d') (j':=j') D
 have l:cu G ow b:=aM.2 ⟨d,j,0,B,by rw[k];exact hi,K⟩;have m:=cX vs p w L M;have a:∀ {d' j'},bx (aj (bo ow d j (some ob')) d' j')->bx (aj ow d' j'):=by
  intro d' j' h;rw[i]at h;split at h
  ·rename_i e;rw[e.1,e.2,k];exact hi
  ·exact h
 refine tX q O (λ_ _ _=>rfl) (λd' j'=> ?_) (gJ l w _ _) (λg E=> ?_) (λg t H u=> ?_) (λd' j' o f=> ?_) (λR S x T U V y I W J X Y Z=>q.apart R S x T U V y I W (a J) (a X) Y Z) bG
 ·rw[i]
  split
  ·rename_i e;rw[e.1,e.2,k];exact P
  ·exact .refl _
 ·obtain⟨d',j',i',I,J,z⟩:=aM.1 E
  exact .inl (aM.2 ⟨d',j',i',I,a J,z⟩)
 ·by_cases c:g=b
  ·subst c
   rw[aS L]at u
   cases u
   exact⟨_,aS m,bV M⟩
  ·refine⟨t,?_,rfl⟩
   unfold am;rw[World.heap_setCells_other w b _ _ (cL u) c];exact u
 ·rw[i]at f
  split at f
  ·rename_i e
   obtain⟨rfl,rfl⟩:=e;have f:ob'=o:=by simpa using f
   subst f;exact .inr (C m)
  ·rename_i e
   refine .inl ⟨f,rfl,λH x y N z=> ?_⟩;have n:cu G ow y:=aM.2 ⟨d',j',x,N,by rw[f];exact H,z⟩;refine World.heap_setCells_other w b _ _ (cu.lt q n) λc=> ?_
   subst c;have:=q.apart d' j' x d j 0 y N B (by rw[f];exact H) (by rw[k];exact hi) z K;exact e ⟨this.1,this.2.1⟩
def om {s:SV} {a:List SV} (h:fx P t s=some a):∃i,P.info? t=some i:=by
 unfold fx at h;split at h
 ·rename_i b
  unfold dS ee at b
  cases hu:P.underlying t with
  |none=>rw[hu]at b;cases b
  |some d=>exact gT hu
 ·split at h
  ·rename_i c
   simp only[a0c,a0q]at c
   cases hi:P.info? t with
   |none=>simp[cV,Program.cellsOf,hi]at c
   |some i=>exact⟨i,rfl⟩
  ·cases h
def fO {i:TypeInfo} (hi:P.info? t=some i) {b o:Nat} {r:Array Value} {et:TypeId} (d:w.heap[b]?=some (.cells r et (0,0))) {v:Value} {vs:List Value} (e:v.cells=vs.toArray) (f:∀u∈vs,u.oneCell'=true) (g:vs.length=cV P t) (k:o+vs.length<=r.size):(Instr.storeAt t (.pointer (some ⟨b,o,none⟩)) v).run P w= .ok () (w.setCells b o vs):=by
 have a:=run_storeCells_cells (P:=P) b o vs 0 w (λj h=>by rw[bT (aS d)];simp;omega) (λj h=>by unfold World.frozen?;simp only;rw[d];simp) f;have c:vs.length=i.size:=by rw[g];simp[cV,Program.cellsOf,hi]
 simp only[a2z]at a;simp[Instr.storeAt,Instr.sureAddr,storeVar,sizeOf,typeInfo,hi,e,c,a]
def LQ {a:Kd} (h:a.isSt=false):a.n=1:=by cases a<;>simp_all[Kd.n,Kd.isSt]
def rE {h:Array Obj} {ok:Nat->Prop} {a b:Kd} (f:a.isSt=false) {x:(Kd.cons a b).T} {cs:List Value} (e:cG h ok (.cons a b) x cs):∃v r,cs=v::r/\cG h ok a x.1 [v]/\cG h ok b x.2 r:=by
 obtain⟨c1,c2,rfl,c,g⟩:=e;have d:=cG.length a c;rw[LQ f]at d
 match c1,d,c with
 |[v],_,c=>exact⟨v,c2,rfl,c,g⟩
def ub {h:Array Obj} {ok:Nat->Prop}:(k:Kd)->k.leafy=true-> {x:k.T}-> {cs:List Value}->(d:Kd)-> {y:d.T}-> {vs:List Value}-> {r:k.T}->di k x d y=some r->cG h ok k x cs->cG h ok d y vs->d.leafy=true->cG h ok k r (vs++cs.drop vs.length)
 |k,hk,x,cs,.nil,y,vs,r,e,ex,ey,_=>by
  cases ey
  have:di k x .nil y=some x:=by unfold di;cases k<;>rfl
  rw[this]at e
  cases e
  simpa using ex
 | .cons a b,hk,x,cs,.cons a' b',y,vs,r,e,ex,ey,hk'=>by
  simp only[Kd.leafy,a0c,a2b]at hk hk';simp only[di]at e;split at e
  ·rename_i m
   subst m;split at e
   ·rename_i n f
    cases e
    obtain⟨v,g,rfl,_,i⟩:=rE hk.1 ex;obtain⟨u,c,rfl,j,l⟩:=rE hk'.1 ey;exact⟨[u],c++g.drop c.length,rfl,j,ub b hk.2 b' f i l hk'.2⟩
   ·cases e
  ·cases e
 | .nil,_,_,_,.cons _ _,_,_,_,e,_,_,_=>by simp[di]at e
 | .int _,hk,_,_,_,_,_,_,_,_,_,_=>by cases hk
 | .bool,hk,_,_,_,_,_,_,_,_,_,_=>by cases hk
 | .str,hk,_,_,_,_,_,_,_,_,_,_=>by cases hk
 | .err,hk,_,_,_,_,_,_,_,_,_,_=>by cases hk
 | .any,hk,_,_,_,_,_,_,_,_,_,_=>by cases hk
 | .sl _ _,hk,_,_,_,_,_,_,_,_,_,_=>by cases hk
 | .tree _,hk,_,_,_,_,_,_,_,_,_,_=>by cases hk
 | .cons _ _,_,_,_,.int _,_,_,_,e,_,_,_=>by simp[di]at e
 | .cons _ _,_,_,_,.bool,_,_,_,e,_,_,_=>by simp[di]at e
 | .cons _ _,_,_,_,.str,_,_,_,e,_,_,_=>by simp[di]at e
 | .cons _ _,_,_,_,.err,_,_,_,e,_,_,_=>by simp[di]at e
 | .cons _ _,_,_,_,.any,_,_,_,e,_,_,_=>by simp[di]at e
 | .cons _ _,_,_,_,.sl _ _,_,_,_,e,_,_,_=>by simp[di]at e
 | .cons _ _,_,_,_,.tree _,_,_,_,e,_,_,_=>by simp[di]at e
 | .nil,_,_,_,.int _,_,_,_,e,_,_,_=>by simp[di]at e
 | .nil,_,_,_,.bool,_,_,_,e,_,_,_=>by simp[di]at e
 | .nil,_,_,_,.str,_,_,_,e,_,_,_=>by simp[di]at e
 | .nil,_,_,_,.err,_,_,_,e,_,_,_=>by simp[di]at e
 | .nil,_,_,_,.any,_,_,_,e,_,_,_=>by simp[di]at e
 | .nil,_,_,_,.sl _ _,_,_,_,e,_,_,_=>by simp[di]at e
 | .nil,_,_,_,.tree _,_,_,_,e,_,_,_=>by simp[di]at e
def uc {h:Array Obj} {ok:Nat->Prop}:(k:Kd)->k.leafy=true-> {x:k.T}-> {cs:List Value}->(c:Nat)->(d:Kd)-> {y:d.T}-> {vs:List Value}-> {r:k.T}->mq k x c d y=some r->cG h ok k x cs->cG h ok d y vs->d.leafy=true->cG h ok k r (cs.take c++vs++cs.drop (c+vs.length))
 |k,hk,x,cs,0,d,y,vs,r,e,ex,ey,hk'=>by
  have:mq k x 0 d y=di k x d y:=by unfold mq;cases k<;>rfl
  rw[this]at e;simpa using ub k hk d e ex ey hk'
 | .cons a b,hk,x,cs,c+1,d,y,vs,r,e,ex,ey,hk'=>by
  simp only[Kd.leafy,a0c,a2b]at hk;simp only[mq]at e;split at e
  ·rename_i l f
   cases e
   obtain⟨v,j,rfl,g,i⟩:=rE hk.1 ex;have:=uc b hk.2 c d f i ey hk';refine⟨[v],_,?_,g,this⟩;simp[show c+1+vs.length=(c+vs.length)+1 by omega]
  ·cases e
 | .nil,_,_,_,_+1,_,_,_,_,e,_,_,_=>by simp[mq]at e
 | .int _,hk,_,_,_+1,_,_,_,_,_,_,_,_=>by cases hk
 | .bool,hk,_,_,_+1,_,_,_,_,_,_,_,_=>by cases hk
 | .str,hk,_,_,_+1,_,_,_,_,_,_,_,_=>by cases hk
 | .err,hk,_,_,_+1,_,_,_,_,_,_,_,_=>by cases hk
 | .any,hk,_,_,_+1,_,_,_,_,_,_,_,_=>by cases hk
 | .sl _ _,hk,_,_,_+1,_,_,_,_,_,_,_,_=>by cases hk
 | .tree _,hk,_,_,_+1,_,_,_,_,_,_,_,_=>by cases hk
def LR {h:Array Obj} {ok:Nat->Prop}:(k:Kd)-> {x:k.ch.T}-> {cs:List Value}->cG h ok k.ch x cs->cG h ok k (vP k x) cs
 | .int _,x,cs,e=>by obtain⟨c1,c2,rfl,a,b⟩:=e;cases b;simpa [vP]using a
 | .bool,x,cs,e=>by obtain⟨c1,c2,rfl,a,b⟩:=e;cases b;simpa [vP]using a
 | .str,x,cs,e=>by obtain⟨c1,c2,rfl,a,b⟩:=e;cases b;simpa [vP]using a
 | .err,x,cs,e=>by obtain⟨c1,c2,rfl,a,b⟩:=e;cases b;simpa [vP]using a
 | .any,x,cs,e=>by obtain⟨c1,c2,rfl,a,b⟩:=e;cases b;simpa [vP]using a
 | .sl _ _,x,cs,e=>by obtain⟨c1,c2,rfl,a,b⟩:=e;cases b;simpa [vP]using a
 | .nil,_,_,e=>e
 | .cons _ _,_,_,e=>e
 | .tree _,x,cs,e=>by obtain⟨c1,c2,rfl,a,b⟩:=e;cases b;simpa [vP]using a
def ud:(k:Kd)->k.leafy=true->(n:Nat)-> {r:Kd}->lK k n=some r->r.leafy=true
 |k,_,0,r,h=>by
  have:lK k 0=some .nil:=by cases k<;>rfl
  rw[this]at h;cases h;rfl
 | .cons a b,hk,n+1,r,h=>by
  simp only[Kd.leafy,a0c]at hk;simp only[lK]at h;split at h
  ·rename_i d c
   cases h
   simp only[Kd.leafy,a0c];exact⟨hk.1,ud b hk.2 n c⟩
  ·cases h
 | .nil,_,_+1,_,h=>by simp[lK]at h
 | .int _,_,_+1,_,h=>by simp[lK]at h
 | .bool,_,_+1,_,h=>by simp[lK]at h
 | .str,_,_+1,_,h=>by simp[lK]at h
 | .err,_,_+1,_,h=>by simp[lK]at h
 | .any,_,_+1,_,h=>by simp[lK]at h
 | .sl _ _,_,_+1,_,h=>by simp[lK]at h
 | .tree _,_,_+1,_,h=>by simp[lK]at h
def ue:(k:Kd)->k.leafy=true-> {x:k.T}->(c:Nat)-> {y:Sigma Kd.T}->jr k x c=some y->y.1.leafy=true
 |k,hk,x,0,y,hy=>by
  have:y=⟨k,x⟩:=by unfold jr at hy;cases k<;>simp_all
  subst this;exact hk
 | .cons a b,hk,x,c+1,y,hy=>by
  simp only[Kd.leafy,a0c]at hk;exact ue b hk.2 c (by simpa [jr]using hy)
 | .nil,_,_,_+1,_,hy=>by simp[jr]at hy
 | .int _,hk,_,_+1,_,_=>by cases hk
 | .bool,hk,_,_+1,_,_=>by cases hk
 | .str,hk,_,_+1,_,_=>by cases hk
 | .err,hk,_,_+1,_,_=>by cases hk
 | .any,hk,_,_+1,_,_=>by cases hk
 | .sl _ _,hk,_,_+1,_,_=>by cases hk
 | .tree _,hk,_,_+1,_,_=>by cases hk
def HT:(k:Kd)->k.leafy=true-> {x:k.T}->(c:Nat)-> {y:Sigma Kd.T}->jr k x c=some y->c+y.1.n=k.n
 |k,hk,x,0,y,hy=>by
  have:y=⟨k,x⟩:=by unfold jr at hy;cases k<;>simp_all
  subst this;simp
 | .cons a b,hk,x,c+1,y,hy=>by
  simp only[Kd.leafy,a0c,a2b]at hk;have:=HT b hk.2 c (x:=x.2) (y:=y) (by simpa [jr]using hy);simp only[Kd.n,LQ hk.1];omega
 | .nil,_,_,_+1,_,hy=>by simp[jr]at hy
 | .int _,hk,_,_+1,_,_=>by cases hk
 | .bool,hk,_,_+1,_,_=>by cases hk
 | .str,hk,_,_+1,_,_=>by cases hk
 | .err,hk,_,_+1,_,_=>by cases hk
 | .any,hk,_,_+1,_,_=>by cases hk
 | .sl _ _,hk,_,_+1,_,_=>by cases hk
 | .tree _,hk,_,_+1,_,_=>by cases hk
def zl {p s:SV} {pv sv:Value} (hh:bt F G ow w.heap) (hF:∀b,F b->b<w.heap.size) (Y:Sv F G ow w.heap p pv) (hs:Sv F G ow w.heap s sv) {Q:OW->Prop} (h:(BA P t p s ow).can Q):∃ow' w',Q ow'/\(Instr.storeAt t pv sv).run P w= .ok () w'/\Tr F G ow w G ow' w':=by
 unfold BA at h;split at h
 ·exact h.elim
 rename_i u L;obtain⟨i,hi⟩:=om L;obtain⟨vs,Z,N,h1,hl⟩:=fk hs L;split at h
 ·rename_i d j c
  split at h
  ·rename_i a hg
   split at h
   ·rename_i S4 I
    have O:=aA hg;obtain⟨R,b,o,r,et,S,hb,Tc,hc⟩:=hh.obs d j _ O
    cases Y with
    |bp Y=>
    simp only[O]at Y;obtain⟨b',o',S0,rfl⟩:=Y;rw[S]at S0;cases S0
    unfold js at I;split at I
    ·rename_i Td
     cases I
     have B:u.length=vs.length:=N.1;have g:o+c+vs.length<=r.size:=by omega
     refine⟨_,_,h,fO hi hb Z h1 hl g,rD (ob':= .box (a.take c++u++a.drop (c+u.length))) hh hF O trivial trivial trivial S hb g λT C _=> ?_⟩;refine⟨R,b,o,_,et,S,T,?_,λq hq hr=> ?_⟩
     ·rw[bV g]
      simp;omega
     ·have A:=ik g (o+q)
      rw[a1k hr]at A;simp only[a0m,a1m,a2w]at hq;by_cases h2:q<c
      ·rw[ifNegQ,a1k (by omega)]at A
       have e2:(a.take c++u++a.drop (c+u.length))[q]=a[q]'(by omega):=by
        simp only[a1q];rw[a1h (by simp;omega),a4x]
       rw[a1f A,e2];exact C _ _ (hc q (by omega) (by omega))
      ·by_cases h3:q<c+vs.length
       ·rw[ifPosQ,a0a (by omega)]at A
        have e2:(a.take c++u++a.drop (c+u.length))[q]=u[q-c]'(by omega):=by
         rw[a1h (by simp;omega),a1u (by simp;omega)]
         congr 1
         simp;omega
        have e3:o+q-(o+c)=q-c:=by omega
        simp only[e3]at A;rw[a1f A,e2];exact C _ _ (N.2 (q-c) (by omega) (by omega))
       ·rw[ifNegQ,a1k (by omega)]at A
        have e2:(a.take c++u++a.drop (c+u.length))[q]=a[q]'(by omega):=by
         rw[a1u (by simp;omega),a6o]
         congr 1
         simp;omega
        rw[a1f A,e2];exact C _ _ (hc q (by omega) (by omega))
    ·cases I
   ·exact h.elim
  ·exact h.elim
 ·rename_i d j Tb e c
  split at h
  ·rename_i k ver l hg
   split at h
   ·rename_i kt J
    split at h
    ·rename_i y hy
     split at h
     ·rename_i f D W S5
      split at h
      ·rename_i hk
       subst hk;obtain⟨x,hx,h⟩:=h;dsimp only at h;split at h
       ·rename_i x' S6
        obtain⟨t1,U⟩:=ji hF kt (x:=y.1) (ow':=y.2) hh N hy;have O:=aA S5;obtain⟨R,E,ho⟩:=t1.hrep.obs d j _ O;have v:=(a0c _ _▸E:f.noOwn=true/\f.ch.leafy=true).2;have K:=t1.sv _ _ Y
        cases K with
        |rp K=>
        simp only[O]at K;obtain⟨S1,b,o,S,rfl⟩:=K;simp only[S]at ho;obtain⟨r,et,hb,hE⟩:=ho;have hx:W[e]?=some x:=hx;obtain⟨_,rfl⟩:=a0p.1 hx;have H:kt.leafy=true/\c<=f.n:=by
         unfold HK at J;split at J
         ·rename_i z X
          have:=HT _ v c X;rw[LM]at this;exact⟨ud z.1 (ue _ v c X) _ J,by omega⟩
         ·cases J
        obtain⟨H,Te⟩:=H;have S7:=Fy f (hE.2 e S1);have M:=uc f.ch v c kt S6 S7 U H;have B:=cG.length _ M;rw[LM]at B;have S2:(e+1)*f.n<=W.length*f.n:=a0o _ S1;rw[a1a,a2t]at S2;have S8:=hE.1;have m:(bY r (o+e*f.n) f.n).length=f.n:=aZ;have Tf:c+vs.length<=f.n:=by
         simp only[a0m,a1m,a2w,m]at B;omega
        have g:o+e*f.n+c+vs.length<=r.size:=by omega
        have S9:EC (some (some (.row f D W))) (some (some (.row f D (W.set e (vP f x'))))):=⟨rfl,by simp⟩;have ht:=rD (ob':= .row f D (W.set e (vP f x'))) t1.hrep hF O trivial S9 trivial S hb g (λT _ S3=>by
         refine⟨R,E,?_⟩;simp only[S];refine⟨_,et,T,?_,λq hq=> ?_⟩
         ·rw[bV g];simpa using S8
         ·simp only[a3j]at hq
          have Ta:(q+1)*f.n<=W.length*f.n:=a0o _ hq;rw[a1a,a2t]at Ta;by_cases V:e=q
          ·subst V
           rw[a3m];have A:bY (nI r (o+e*f.n+c) vs) (o+e*f.n) f.n=(bY r (o+e*f.n) f.n).take c++vs++(bY r (o+e*f.n) f.n).drop (c+vs.length):=by
            apply a2e;intro z;by_cases X:z<f.n
            ·rw[aR X,ik g]
             by_cases h2:z<c
             ·rw[ifNegQ,a1q,a1i (by simp[m];omega),a5a h2,aR X]
             ·by_cases h3:z<c+vs.length
              ·rw[ifPosQ,a1i (by simp[m];omega),a1j (by simp[m];omega)]
               congr 1
               simp[m];omega
              ·rw[ifNegQ,a1j (by simp[m];omega)]
               simp only[a0m,a1m,m,a2x];rw[show c+vs.length+(z-(min c f.n+vs.length))=z by omega,aR X]
            ·rw[kr,a0w]
             simp[m];omega
           rw[A];exact cG.mono S3 _ (LR f M)
          ·rw[a3g V]
           have A:bY (nI r (o+e*f.n+c) vs) (o+q*f.n) f.n=bY r (o+q*f.n) f.n:=by
            rcases Nat.lt_or_gt_of_ne V with h2|h2
            ·have:(e+1)*f.n<=q*f.n:=a0o _ h2
             rw[a1a,a2t]at this;exact im g
            ·have:(q+1)*f.n<=e*f.n:=a0o _ h2
             rw[a1a,a2t]at this;exact cn g
           rw[A];exact cG.mono S3 _ (hE.2 q hq))
        exact⟨_,_,h,fO hi hb Z h1 hl g,t1.trans ht⟩
       ·exact h.elim
      ·exact h.elim
     ·exact h.elim
    ·exact h.elim
   ·exact h.elim
  ·exact h.elim
 ·exact h.elim
end
end Go.Pev
namespace Go.Pev
variable {a b:OW} {k:Kd} {s:SV}
def FP (F:Nat->Prop) (a:List Nat) (b:Nat):Prop:=F b\/b∈a
def gx (h:Array Obj) (ok:Nat->Prop):(s:Sh)->s.Out->List Value->List Nat->Prop
 | .pur _,_,vs,fp=>(∃v,vs=[v])/\fp=[]
 | .own _,_,vs,fp=>(∃v,vs=[v])/\fp=[]
 | .rows _,_,vs,fp=>(∃v,vs=[v])/\fp=[]
 | .row k,l,vs,fp=>∃v,vs=[v]/\sQ h ok k l v fp
 | .nrw s,l,vs,fp=>cA h ok (.nrw s) l vs fp
 | .box l,x,vs,fp=>∃b o r et c,vs=[.pointer (some ⟨b,o,none⟩)]/\fp=b::c/\h[b]?=some (.cells r et (0,0))/\o+l.len<=r.size/\cA h ok l x (bY r o l.len) c
 | .agg l,x,vs,fp=>∃cs,vs=[.agg cs.toArray]/\gx h ok l x cs fp
 | .fn f n l,x,vs,fp=>∃xs ys,vs=[.func f xs.toArray ys.toArray]/\xs.length=n/\gx h ok l x (xs++ys) fp
 | .ign,_,vs,fp=>(∃v,vs=[v])/\fp=[]
 | .nl,_,vs,fp=>(∃v,vs=[v])/\fp=[]
 | .nil,_,vs,fp=>vs=[]/\fp=[]
 | .cons a b,x,vs,fp=>∃v r f1 f2,vs=v::r/\fp=f1++f2/\(a.noOuts=true/\f1=[]\/a.noOuts=false/\gx h ok a x.1 [v] f1)/\gx h ok b x.2 r f2
def gx.mono {h j:Array Obj} {ok ok':Nat->Prop} (d:∀b r,ok b->am h b=some r->ok' b/\am j b=some r):(s:Sh)-> {x:s.Out}-> {vs:List Value}-> {k:List Nat}->(∀b∈k,j[b]?=h[b]?)->gx h ok s x vs k->gx j ok' s x vs k
 | .pur _,_,_,_,_,e=>e
 | .own _,_,_,_,_,e=>e
 | .rows _,_,_,_,_,e=>e
 | .row _,_,_,_,hf,e=>by obtain⟨v,c,e⟩:=e;exact⟨v,c,e.mono d hf⟩
 | .nrw s,_,_,_,hf,e=>cA.mono d (.nrw s) hf e
 | .box l,_,_,_,hf,e=>by
  obtain⟨b,o,r,et,m,c,rfl,n,p,e⟩:=e;exact⟨b,o,r,et,m,c,rfl,by rw[hf b (by simp),n],p,cA.mono d l (λf g=>hf f (by simp[g])) e⟩
 | .agg l,_,_,_,hf,e=>by obtain⟨cs,c,e⟩:=e;exact⟨cs,c,gx.mono d l hf e⟩
 | .fn _ _ l,_,_,_,hf,e=>by obtain⟨xs,ys,c,q,e⟩:=e;exact⟨xs,ys,c,q,gx.mono d l hf e⟩
 | .ign,_,_,_,_,e=>e
 | .nl,_,_,_,_,e=>e
 | .nil,_,_,_,_,e=>e
 | .cons a b,_,_,_,hf,e=>by
  obtain⟨v,r,f1,f2,c,rfl,i,t⟩:=e;refine⟨v,r,f1,f2,c,rfl,?_,gx.mono d b (λf g=>hf f (by simp[g])) t⟩;rcases i with i|⟨h0,i⟩
  ·exact .inl i
  ·exact .inr ⟨h0,gx.mono d a (λf g=>hf f (by simp[g])) i⟩
def Ox (o n:Option (Option OB)):Prop:=n=o\/(bx o/\n=some none)\/Lf o n
def Ox.trans {o n m:Option (Option OB)} (b:Ox o n) (a:Ox n m):Ox o m:=by
 rcases b with rfl|⟨h,rfl⟩|hz
 ·exact a
 ·rcases a with rfl|⟨h',_⟩|h'
  ·exact .inr (.inl ⟨h,rfl⟩)
  ·exact h'.elim
  ·exact h'.own.elim
 ·rcases a with rfl|⟨h',_⟩|h'
  ·exact .inr (.inr hz)
  ·exact absurd h' hz.not.1
  ·exact absurd h'.own hz.not.1
def Ox.own {o n:Option (Option OB)} (h:Ox o n) (a:bx n):n=o:=by
 rcases h with h|⟨_,rfl⟩|hz
 ·exact h
 ·exact a.elim
 ·exact absurd a hz.not.1
def Ox.ec {o n:Option (Option OB)} (h:Ox o n):EC o n:=by
 rcases h with rfl|⟨_,rfl⟩|hz
 ·exact .refl _
 ·exact .dead
 ·exact hz.ec
structure dt (ow ow1:OW):Prop where
 len:ow1.length=ow.length
 names:∀d j,Ox (aj ow d j) (aj ow1 d j)
def dt.refl (ow:OW):dt ow ow:=⟨rfl,λ_ _=> .inl rfl⟩
def dt.trans {a b c:OW} (e:dt a b) (f:dt b c):dt a c:=⟨by rw[f.len,e.len],λd j=>(e.names d j).trans (f.names d j)⟩
def FE (G:Gh) (ow ow1:OW) (b:Nat):Prop:=∃d j i o,bx (aj ow d j)/\G d j i=some (b,o)/\aj ow1 d j=some none
def ju (G:Gh) (ow ow1:OW) (a:List Nat):Prop:=∀b,b∈a↔FE G ow ow1 b
def FE.trans {G:Gh} {c:OW} (h:dt a b) (k:dt b c) (x:Nat):FE G a c x↔FE G a b x\/FE G b c x:=by
 constructor
 ·rintro⟨d,j,i,o,hi,g,f⟩
  rcases h.names d j with e|⟨_,e⟩|hz
  ·exact .inr ⟨d,j,i,o,by rw[e];exact hi,g,f⟩
  ·exact .inl ⟨d,j,i,o,hi,g,e⟩
  ·rcases k.names d j with e2|⟨h',_⟩|h'
   ·rw[f]at e2;exact absurd e2.symm hz.not.2.1
   ·exact absurd h' hz.not.1
   ·exact absurd h'.own hz.not.1
 ·rintro(⟨d,j,i,o,hi,g,f⟩|⟨d,j,i,o,hi,g,f⟩)
  ·refine⟨d,j,i,o,hi,g,?_⟩
   rcases k.names d j with e2|⟨h',_⟩|h'
   ·rw[e2,f]
   ·rw[f]at h';exact h'.elim
   ·have:=h'.own;rw[f]at this;exact this.elim
  ·exact⟨d,j,i,o,by rw[<-(h.names d j).own hi];exact hi,g,f⟩
def ju.refl (G:Gh) (ow:OW):ju G ow ow []:=λb=>by
 constructor
 ·intro h;simp at h
 ·rintro⟨d,j,i,o,hi,_,a⟩
  rw[a]at hi;exact hi.elim
section
variable {F:Nat->Prop} {G:Gh} {ow ow1 ow2:OW} {h:Array Obj} {fp:List Nat}
def dt.own (a:dt ow ow1) {b:Nat} (c:cu G ow1 b):cu G ow b:=by
 obtain⟨d,j,i,o,hi,e⟩:=aM.1 c;exact aM.2 ⟨d,j,i,o,by rw[<-(a.names d j).own hi];exact hi,e⟩
def ju.own (a:ju G ow ow1 fp) {b:Nat} (c:b∈fp):cu G ow b:=by
 obtain⟨d,j,i,o,hi,e,_⟩:=(a b).1 c;exact aM.2 ⟨d,j,i,o,hi,e⟩
def ju.notOwn (f:bt F G ow h) (g:dt ow ow1) (k:ju G ow ow1 fp) {b:Nat} (l:b∈fp):¬cu G ow1 b:=by
 intro m;obtain⟨d,j,i,o,hi,n,p⟩:=(k b).1 l;obtain⟨d',j',q,r,a,c⟩:=aM.1 m;have e:=(g.names d' j').own a;obtain⟨rfl,rfl,_⟩:=f.apart d j i d' j' q b o r hi (by rw[<-e];exact a) n c;rw[p]at a;exact a
def eu (c:dt ow ow1) (d:ju G ow ow1 fp) {b:Nat} (a:cW F G ow b):cW (FP F fp) G ow1 b:=⟨λhx=>by
 rcases hx with hx|hx
 ·exact a.1 hx
 ·exact a.2 (d.own hx),λe=>a.2 (c.own e)⟩
def cS (f:bt F G ow h) (g:dt ow ow1) (w:ju G ow ow1 fp):bt (FP F fp) G ow1 h/\∀s v,Sv F G ow h s v->Sv (FP F fp) G ow1 h s v:=by
 have k:∀b r,cW F G ow b->am h b=some r->cW (FP F fp) G ow1 b/\am h b=some r:=λb r u m=>⟨eu g w u,m⟩
 have A:∀d j,EC (aj ow d j) (aj ow1 d j):=λd j=>(g.names d j).ec
 refine⟨⟨λd j o n=> ?_,λd j i d' j' p b o q B C=> ?_,λb u hx=> ?_⟩,λs v e=>cC.mono (λ_ _ _=>rfl) A k (λb r m=>⟨r,m,rfl⟩) e⟩
 ·rcases g.names d j with e|⟨_,e⟩|hz
  ·have c:aj ow d j=some (some o):=by rw[<-e];exact n
   exact dl.mono (λ_ _ _=>rfl) A k (λb r m=>⟨r,m,rfl⟩) rfl (λ_ _ _ _ _=>rfl) (f.obs d j o c)
  ·rw[n]at e;cases e
  ·have a:=hz.own
   have t:=hz.not.1;rw[n]at hz t
   generalize hx:aj ow d j=x at hz a
   match x,a,hz with
   |some (some ob),a,hz=>
    refine hz.rep rfl k (λi b o y=>⟨⟨λhx'=> ?_,λD=> ?_⟩,rfl⟩) (f.obs d j ob hx)
    ·have z:cu G ow b:=aM.2 ⟨d,j,i,o,by rw[hx];exact a,y⟩
     rcases hx' with hx'|hx'
     ·exact f.notF b z hx'
     ·obtain⟨d',j',p,q,hi,l,c⟩:=(w b).1 hx'
      obtain⟨rfl,rfl,_⟩:=f.apart d' j' p d j i b q o hi (by rw[hx];exact a) l y;rw[n]at c;cases c
    ·obtain⟨d',j',p,q,hi,l⟩:=aM.1 D
     have e:=(g.names d' j').own hi;obtain⟨rfl,rfl,_⟩:=f.apart d' j' p d j i b q o (by rw[<-e];exact hi) (by rw[hx];exact a) l y;rw[n]at hi;exact t hi
 ·exact f.apart d j i d' j' p b o q (by rw[<-(g.names d j).own B];exact B) (by rw[<-(g.names d' j').own C];exact C)
 ·rcases hx with hx|hx
  ·exact f.notF b (g.own u) hx
  ·exact w.notOwn f g hx u
def sV {d j:Nat} (hi:bx (aj ow d j)):dt ow (bo ow d j none):=by
 have a:aj ow d j≠none:=by intro h;rw[h]at hi;exact hi
 refine⟨bG,λd' j'=> ?_⟩;rw[aW a];split
 ·rename_i e
  rw[e.1,e.2];exact .inr (.inl ⟨hi,rfl⟩)
 ·exact .inl rfl
structure gy (ow ow1:OW):Prop where
 len:ow1.length=ow.length
 names:∀d j,aj ow1 d j=aj ow d j\/Lf (aj ow d j) (aj ow1 d j)
def gy.refl (ow:OW):gy ow ow:=⟨rfl,λ_ _=> .inl rfl⟩
def gy.trans {c:OW} (g:gy a b) (f:gy b c):gy a c:=⟨by rw[f.len,g.len],λd j=>by
 rcases g.names d j with e|hz
 ·rcases f.names d j with e'|hz
  ·exact .inl (by rw[e',e])
  ·exact .inr (by rw[<-e];exact hz)
 ·rcases f.names d j with e'|hz'
  ·exact .inr (by rw[e'];exact hz)
  ·exact absurd hz'.own hz.not.1⟩
def gy.taken (h:gy a b):dt a b:=⟨h.len,λd j=>by
 rcases h.names d j with e|e
 ·exact .inl e
 ·exact .inr (.inr e)⟩
def gy.fpOk (h:gy a b):ju G a b []:=λx=>by
 constructor
 ·intro h;simp at h
 ·rintro⟨d,j,i,o,hi,_,c⟩
  rcases h.names d j with e|hz
  ·rw[<-e,c]at hi;exact hi.elim
  ·exact absurd c hz.not.2.1
def IL (d j:Nat):gy ow (Ad ow d j):=by
 unfold Ad;split
 ·rename_i k ver l b
  have a:=aA b;refine⟨bG,λd' j'=> ?_⟩;rw[aW (by rw[a];simp)];split
  ·rename_i e
   rw[e.1,e.2,a];exact .inr (.inl ⟨k,ver,l,rfl,rfl⟩)
  ·exact .inl rfl
 ·exact .refl _
def FF (d j:Nat):gy ow (Fl ow d j):=by
 rcases qs (ow:=ow) d j with e|⟨s,l,l',hn,hz,e⟩
 ·rw[e];exact .refl _
 ·rw[e]
  refine⟨bG,λd' j'=> ?_⟩;rw[aW (by rw[hn];simp)];split
  ·rename_i e
   rw[e.1,e.2,hn];exact .inr hz
  ·exact .inl rfl
def mG {x:k.T} (e:eP k s ow=some (x,ow1)):gy ow ow1:=by
 unfold eP at e;split at e
 ·split at e
  ·cases e;exact .refl _
  ·cases e
 ·split at e
  ·cases e;exact .refl _
  ·cases e
 ·split at e
  ·cases e;exact .refl _
  ·cases e
 ·split at e
  ·split at e
   ·split at e
    ·simp only[a0i,a0x]at e
     rw[<-e.2];exact IL _ _
    ·cases e
   ·split at e
    ·split at e
     ·simp only[a0i,a0x]at e
      rw[<-e.2];exact FF _ _
     ·cases e
    ·cases e
   ·cases e
  ·cases e
def ls:(k:Kd)-> {l:List SV}-> {ow ow1:OW}-> {x:k.T}->bH k l ow=some (x,ow1)->gy ow ow1
 | .cons a b,l,ow,ow1,x,e=>by
  cases l with
  |nil=>simp[bH]at e
  |cons s r=>
   simp only[bH]at e;split at e
   ·rename_i y c
    split at e
    ·rename_i z d
     cases e
     exact(mG (x:=y.1) (ow1:=y.2) c).trans (ls b (x:=z.1) (ow1:=z.2) d)
    ·cases e
   ·cases e
 | .nil,l,ow,ow1,x,e=>by
  cases l with
  |nil=>
   simp only[bH,a0i,a0x]at e;rw[<-e.2];exact .refl _
  |cons s r=>simp[bH]at e
 | .int _,_,_,_,_,e=>by simp[bH]at e
 | .bool,_,_,_,_,e=>by simp[bH]at e
 | .str,_,_,_,_,e=>by simp[bH]at e
 | .err,_,_,_,_,e=>by simp[bH]at e
 | .any,_,_,_,_,e=>by simp[bH]at e
 | .sl _ _,_,_,_,_,e=>by simp[bH]at e
 | .tree _,_,_,_,_,e=>by simp[bH]at e
def B4 {a:Kd} {d j c:Nat} {x:ct a.T} (h:sH a d j c ow=some (x,ow1)):gy ow ow1:=by
 unfold sH at h;split at h
 ·split at h
  ·rename_i y g
   split at h
   ·rename_i z i
    split at h
    ·rename_i k
     simp only[a0i,a0x]at h;obtain⟨_,rfl⟩:=h;obtain⟨f,b⟩:=mC k.2.2;refine((ls a (x:=y.1) (ow1:=y.2) g).trans (mG (x:=z.1) (ow1:=z.2) i)).trans ⟨bG,λd' j'=> ?_⟩;rw[aW (by rw[b];simp)];split
     ·rename_i e
      rw[e.1,e.2,b];exact .inr (.inr (.inr ⟨f,rfl,rfl⟩))
     ·exact .inl rfl
    ·cases h
   ·cases h
  ·cases h
 ·cases h
def uf {x:k.T} (e:tR k s ow=some (x,ow1)):gy ow ow1:=by
 unfold tR at e;split at e
 ·split at e
  ·exact ls k e
  ·cases e
 ·rcases lr e with e|⟨a,d,j,c,y,rfl,rfl,rfl,e⟩
  ·exact mG e
  ·exact B4 e
def Dw {w:World} {v:Value} (b:Sv F G ow w.heap s v) {x:k.T} (e:eP k s ow=some (x,ow1)):k.isSt=false:=by
 unfold eP at e;split at e
 ·split at e
  ·rename_i a
   subst a
   cases b with
   |v a _=>exact a
  ·cases e
 ·split at e
  ·rfl
  ·cases e
 ·split at e
  ·rfl
  ·cases e
 ·split at e
  ·rfl
  ·cases e
def pX {w:World} (g:∀b,F b->b<w.heap.size):(k:Kd)-> {ow ow1:OW}->bt F G ow w.heap-> {l:List SV}-> {vs:List Value}->dq F G ow w.heap l vs-> {x:k.T}->bH k l ow=some (x,ow1)->k.leafy=true
 | .cons a b,ow,ow1,hh,l,vs,hl,x,e=>by
  cases l with
  |nil=>simp[bH]at e
  |cons s r=>
   simp only[bH]at e;obtain⟨v,n,rfl,h,c⟩:=hl.uncons;split at e
   ·rename_i y j
    split at e
    ·rename_i z o
     obtain⟨m,_⟩:=jQ (x:=y.1) (ow':=y.2) hh g h j;have d:=Dw (x:=y.1) (ow1:=y.2) h j;have f:=pX g b (x:=z.1) (ow1:=z.2) m.hrep ⟨c.1,λi d f=>m.sv _ _ (c.2 i d f)⟩ o;simp[Kd.leafy,d,f]
    ·cases e
   ·cases e
 | .nil,_,_,_,_,_,_,_,_=>rfl
 | .int _,_,_,_,_,_,_,_,e=>by simp[bH]at e
 | .bool,_,_,_,_,_,_,_,e=>by simp[bH]at e
 | .str,_,_,_,_,_,_,_,e=>by simp[bH]at e
 | .err,_,_,_,_,_,_,_,e=>by simp[bH]at e
 | .any,_,_,_,_,_,_,_,e=>by simp[bH]at e
 | .sl _ _,_,_,_,_,_,_,_,e=>by simp[bH]at e
 | .tree _,_,_,_,_,_,_,_,e=>by simp[bH]at e
def IM {w:World} (d:bt F G ow w.heap) (f:∀b,F b->b<w.heap.size) {v:Value} (g:Sv F G ow w.heap s v) {x:k.T} (e:tR k s ow=some (x,ow1)):oc w.heap (cW F G ow1) k x v:=by
 obtain⟨_,i,h⟩:=tZ d f g e;refine⟨i,λa=> ?_,λa=>by simpa [a]using h⟩;refine⟨by simpa [a]using h,?_⟩;unfold tR at e;rw[a0b a]at e;split at e
 ·obtain⟨vs,_,c⟩:=g.agg_inv
  exact pX f k d c e
 ·cases e
end
end Go.Pev
section
namespace Go.Pev
variable {d j off len:Nat} {s:Sh} {fps:List (List Nat)}
def pg:(l:List (List Nat))->(e:Nat)->(f:List Nat)->l[e]?=some []->(l.set e f).flatten.Perm (f++l.flatten)
 |[],e,f,h=>by simp at h
 |a::l,0,f,h=>by
  have:a=[]:=by simpa using h
  subst this;simp
 |a::l,e+1,f,h=>by
  have h:l[e]?=some []:=by simpa using h
  have:=pg l e f h;simp only[List.set_cons_succ,a3l];exact(this.append_left a).trans (a7d a f l.flatten)
def wx (l:List (List Nat)) {e:Nat} (f:List Nat) (h:e<l.length):(l.set e f++[l[e]]).flatten.Perm (f++l.flatten):=by
 have b:=pg (l.set e []) e f (by simp[h]);have a:=pg (l.set e []) e l[e] (by simp[h]);rw[List.set_set]at b a;rw[a4t]at a;refine a3n.2 λx=> ?_
 have b:=a3n.1 b x;have a:=a3n.1 a x;simp only[a4m,a3l,a8i,a2m,a6p]at b a⊢;omega
def zm (l:List (List Nat)) (off len:Nat):List (List Nat):=aO l off len++(l.take off++l.drop (off+len))
def An (l:List (List Nat)) (off len:Nat):(zm l off len).flatten.Perm l.flatten:=by
 refine List.Perm.flatten ?_
 unfold zm aO;have e:l=l.take off++((l.drop off).take len++l.drop (off+len)):=by
  rw[<-a4k,a3r,a3r]
 conv=>rhs;rw[e]
 exact a7d _ _ _
def jv {α:Type} {l:List α} (h:off+len<=l.length:=by omega):(aO l off len).length=len:=by simp[aO];omega
def wy {α:Type} {l:List α} {i:Nat} (h:off+len<=l.length) (hi:i<(aO l off len).length):(aO l off len)[i]=l[off+i]'(by rw[jv h]at hi;omega):=by
 simp[aO]
def LS {l:List (List Nat)} (h:off+len<=l.length):(zm l off len).length=l.length:=by
 simp[zm,aO];omega
def LU {l:List (List Nat)} {i:Nat} (h:off+len<=l.length) (hi:i<len):(zm l off len)[i]?=l[off+i]?:=by
 unfold zm;rw[a1i (by rw[jv h];exact hi)];simp[aO,hi]
section
variable {F:Nat->Prop} {G:Gh} {ow ow1 ow2:OW} {h:Array Obj}
def ug {f:List SV->OW->Option (s.T×OW)} (e:fV s f ow d j=some ow1):
 (∃l,aj ow d j=some (some (.nrow s l none))/\ow1=ow)\/
 ∃l p x l2 a,aj ow d j=some (some (.nrow s l (some p)))/\f p.2 ow=some x/\aj x.2 d j=some (some (.nrow s l2 a))/\ow1=bo x.2 d j (some (.nrow s (l2.set p.1 x.1) none)):=by
 unfold fV at e;split at e
 ·rename_i m l h g
  split at e
  ·rename_i i
   subst i;split at e
   ·cases e
    exact .inl ⟨l,aA g,rfl⟩
   ·rename_i p
    split at e
    ·rename_i x k
     split at e
     ·rename_i n l2 a b
      split at e
      ·rename_i c
       subst c
       cases e
       exact .inr ⟨l,p,x,l2,a,aA g,k,aA b,rfl⟩
      ·cases e
     ·cases e
    ·cases e
  ·cases e
 ·cases e
def zn {v:SV} {a:List s.T} (e:nV s v ow=some (a,ow1)):∃d j l,aj ow d j=some (some (.nrow s l none))/\ow1=bo ow d j none/\jL v=some (d,j)/\((∃ver,v= .wh d j ver []/\a=l)\/∃ver off len,v= .os d j ver [] off len/\a=aO l off len):=by
 unfold nV at e;split at e
 ·rename_i d j ver
  split at e
  ·rename_i f l b
   split at e
   ·rename_i c
    subst c
    cases e
    exact⟨d,j,l,aA b,rfl,rfl,.inl ⟨ver,rfl,rfl⟩⟩
   ·cases e
  ·cases e
 ·rename_i d j ver off len
  split at e
  ·rename_i f l b
   split at e
   ·rename_i c
    subst c
    cases e
    exact⟨d,j,l,aA b,rfl,rfl,.inr ⟨ver,off,len,rfl,rfl⟩⟩
   ·cases e
  ·cases e
 ·cases e
def oq (c:∀i,G d j (i+1)=(fps.flatten[i]?).map λb=>(b,0)) {b:Nat}:(∃i o,G d j i=some (b,o))↔(∃o,G d j 0=some (b,o))\/b∈fps.flatten:=by
 constructor
 ·rintro⟨i,o,a⟩
  cases i with
  |zero=>exact .inl ⟨o,a⟩
  |succ i=>
   rw[c]at a;simp only[a2l,a0x]at a;obtain⟨f,hb,rfl,_⟩:=a;exact .inr (a3p hb)
 ·rintro(⟨o,a⟩|hb)
  ·exact⟨0,o,a⟩
  ·obtain⟨i,hi,e⟩:=a2g.1 hb
   exact⟨i+1,0,by rw[c,a0a hi,e];rfl⟩
def iS (l:bt F G ow h) (hi:bx (aj ow d j)) (a:∀i,G d j (i+1)=(fps.flatten[i]?).map λb=>(b,0)):fps.flatten.Nodup/\∀b o,G d j 0=some (b,o)->b∉fps.flatten:=by
 constructor
 ·refine a7t.2 λx y c f n p=> ?_
  have g:G d j (x+1)=some (fps.flatten[x],0):=by rw[a,a0a c];rfl
  have m:G d j (y+1)=some (fps.flatten[y],0):=by rw[a,a0a f];rfl
  rw[<-p]at m;obtain⟨_,_,e⟩:=l.apart d j _ d j _ _ _ _ hi hi g m;omega
 ·intro b o q r
  obtain⟨i,k,e⟩:=a2g.1 r;have g:G d j (i+1)=some (b,0):=by rw[a,a0a k,e];rfl
  obtain⟨_,_,e⟩:=l.apart d j _ d j _ _ _ _ hi hi q g
  cases e
def wz (B:bt F G ow h) (hi:bx (aj ow d j)) {fps':List (List Nat)} {fp1:List Nat} (s:∀i,G d j (i+1)=(fps.flatten[i]?).map λb=>(b,0))
 (C:dt ow ow1) (D:ju G ow ow1 fp1) (v:fp1.Nodup) (a:bx (aj ow1 d j)) (q:ow2.length=ow1.length) (m:∀d' j',aj ow2 d' j'=if d'=d/\j'=j then some none else aj ow1 d' j')
 (w:fps'.flatten.Perm (fp1++fps.flatten)) {b o:Nat} (t:G d j 0=some (b,o)):
 dt ow ow2/\ju G ow ow2 (b::fps'.flatten)/\(b::fps'.flatten).Nodup/\∀x,cW (FP F fp1) G ow1 x->cW (FP F (b::fps'.flatten)) G ow2 x:=by
 have n:dt ow1 ow2:=⟨q,λd' j'=>by
  rw[m];split
  ·rename_i e
   rw[e.1,e.2];exact .inr (.inl ⟨a,rfl⟩)
  ·exact .inl rfl⟩
 have r:∀x,x∈b::fps.flatten↔FE G ow1 ow2 x:=by
  intro x;constructor
  ·intro hx
   have:∃i o,G d j i=some (x,o):=by
    rw[oq s];rcases a1e.1 hx with rfl|hx
    ·exact .inl ⟨o,t⟩
    ·exact .inr hx
   obtain⟨i,u,p⟩:=this;exact⟨d,j,i,u,a,p,by rw[m];simp⟩
  ·rintro⟨d',j',E,u,f,p,c⟩
   rw[m]at c;split at c
   ·rename_i e
    rw[e.1,e.2]at p;rcases(oq s).1 ⟨E,u,p⟩with⟨H,g⟩|hx
    ·rw[t]at g;cases g;simp
    ·exact a3c _ hx
   ·rw[c]at f;exact f.elim
 have k:∀x,x∈b::fps'.flatten↔x∈fp1\/x∈b::fps.flatten:=by
  intro x;simp only[a1e,w.mem_iff,a0k];constructor
  ·rintro(h|h|h)
   ·exact .inr (.inl h)
   ·exact .inl h
   ·exact .inr (.inr h)
  ·rintro(h|h|h)
   ·exact .inr (.inl h)
   ·exact .inl h
   ·exact .inr (.inr h)
 have I:ju G ow ow2 (b::fps'.flatten):=λx=>by
  rw[FE.trans C n,<-D x,<-r x,k]
 obtain⟨J,n2⟩:=iS B hi s;have l:∀x∈fp1,x∉b::fps.flatten:=by
  intro x hx z;obtain⟨d',j',E,u,f,p,c⟩:=(D x).1 hx;have:∃i o,G d j i=some (x,o):=by
   rw[oq s];rcases a1e.1 z with rfl|hx
   ·exact .inl ⟨o,t⟩
   ·exact .inr hx
  obtain⟨L,H,g⟩:=this;obtain⟨rfl,rfl,_⟩:=B.apart _ _ _ _ _ _ _ _ _ f hi p g;rw[c]at a;exact a
 refine⟨C.trans n,I,?_,λx hx=> ?_⟩
 ·refine a4n.2 ⟨λhx=> ?_,w.nodup_iff.2 (a2c.2 ⟨v,J,λx hx y K A=>l x hx (by rw[A];exact a3c _ K)⟩)⟩
  rcases a0k.1 (w.mem_iff.1 hx)with hx|hx
  ·exact l b hx (by simp)
  ·exact n2 b o t hx
 ·have:=eu n r hx
  refine⟨λhx'=>this.1 ?_,this.2⟩;rcases hx' with hx'|hx'
  ·exact .inl (.inl hx')
  ·rcases(k x).1 hx' with hx'|hx'
   ·exact .inl (.inr hx')
   ·exact .inr hx'
end
section
variable {F:Nat->Prop} {G:Gh} {ow ow1:OW} {w:World}
def Ao (hh:bt F G ow w.heap) {s0:SV} {v:Value} (Q:Sv F G ow w.heap s0 v) (hk:jL s0=some (d,j)) {B:OW} (e0:fV s (pk s) ow d j=some B) {x:List s.T} (e1:nV s s0 B=some (x,ow1))
 (ih:∀(S2:List SV) (vs:List Value),dq F G ow w.heap S2 vs->∀(x:s.T) (ow1:OW),pk s S2 ow=some (x,ow1)->∃N,dt ow ow1/\ju G ow ow1 N/\N.Nodup/\cA w.heap (cW (FP F N) G ow1) s x vs N):
 ∃N,dt ow ow1/\ju G ow ow1 N/\N.Nodup/\cA w.heap (cW (FP F N) G ow1) (.rows s) x [v] N:=by
 obtain⟨d',j',l1,I,R,S3,Tg⟩:=zn e1;rw[hk]at S3
 cases S3
 have S4:∃(l:List s.T) (S5:Option (Nat×List SV)) (k:OW) (h:List Nat),aj ow d j=some (some (.nrow s l S5))/\l1.length=l.length/\dt ow k/\ju G ow k h/\h.Nodup/\bx (aj k d j)/\B.length=k.length/\
  (∀d' j',aj B d' j'=if d'=d/\j'=j then some (some (.nrow s l1 none))else aj k d' j')/\s.elem=true/\
  ∃fps:List (List Nat),(∀i,G d j (i+1)=(fps.flatten[i]?).map λb=>(b,0))/\(match G d j 0 with
  |none=>l1=[]/\fps=[]/\h=[]
  |some (b,o)=>∃r et,w.heap[b]?=some (.cells r et (0,0))/\(∀H∈fps.flatten,∃r et,w.heap[H]?=some (Obj.cells r et (0,0)))/\(∀H∈h,∃r et,w.heap[H]?=some (Obj.cells r et (0,0)))/\o+l1.length*s.w<=r.size/\∃f:List (List Nat),l1.length<=f.length/\f.flatten.Perm (h++fps.flatten)/\∀i (hi:i<l1.length) (hf:i<f.length),cA w.heap (cW (FP F h) G k) s l1[i] (bY r (o+i*s.w) s.w) f[i]):=by
  rcases ug e0 with⟨l,C,rfl⟩|⟨l,p,y,l2,Tu,C,hy,J,rfl⟩
  ·rw[C]at I
   cases I
   obtain⟨z,fps,hG,t⟩:=hh.obs d j _ C;refine⟨l1,none,B,[],C,rfl,.refl _,.refl _ _,a2h,by rw[C];trivial,rfl,λd' j'=> ?_,z,fps,hG,?_⟩
   ·split
    ·rename_i e;rw[e.1,e.2,C]
    ·rfl
   ·cases hg:G d j 0 with
    |none=>simp only[hg]at t;exact⟨t.1,t.2.2,rfl⟩
    |some q=>
     obtain⟨b,o⟩:=q;simp only[hg]at t;obtain⟨r,et,hb,O,W,hj,z,_⟩:=t;refine⟨r,et,hb,hj,λH hb'=>by simp at hb',O,fps,W,by simp,λi hi hf=> ?_⟩;exact cA.mono (λH r' hb' A=>⟨⟨λhx=>by rcases hx with hx|hx;exact hb'.1 hx;simp at hx,hb'.2⟩,A⟩) s (λ_ _=>rfl) (z i hi hf (λm hc=>by cases hc))
  ·obtain⟨e,m⟩:=p
   obtain⟨z,fps,hG,t⟩:=hh.obs d j _ C
   cases hg:G d j 0 with
   |none=>simp only[hg]at t;cases t.2.1
   |some q=>
    obtain⟨b,o⟩:=q;simp only[hg]at t;obtain⟨r,et,hb,O,W,hj,K,S6⟩:=t;obtain⟨q1,q2,q4⟩:=S6 e m rfl;have Tv:e*s.w+s.w<=l.length*s.w:=by
     have:(e+1)*s.w<=l.length*s.w:=a0o _ q1;rw[a6u]at this;exact this
    have Th:dq F G ow w.heap m (bY r (o+e*s.w) s.w):=by
     refine⟨by rw[aZ,q2],λc h1 h2=> ?_⟩;have e1:(bY r (o+e*s.w) s.w)[c]=r[o+e*s.w+c]'(by omega):=by
      have:=aR (r:=r) (o:=o+e*s.w) (n:=s.w) (i:=c) (by omega);rw[a0a h2,a1k (by omega)]at this;exact a1f this
     rw[e1];exact q4 c h1 (by omega)
    obtain⟨h,X,L,Y,hS⟩:=ih m _ Th y.1 y.2 hy;have S7:aj y.2 d j=aj ow d j:=by
     rcases X.names d j with e|⟨_,e⟩|hz
     ·exact e
     ·rw[J]at e;cases e
     ·have:=hz.not.1;rw[J]at this;exact absurd trivial this
    rw[C,J]at S7
    cases S7
    have Ti:aj y.2 d j≠none:=by rw[J];simp
    have D:=λd' j'=>aW (o:=some (.nrow s (l.set e y.1) none)) (d':=d') (j':=j') Ti
    have:aj (bo y.2 d j (some (.nrow s (l.set e y.1) none))) d j=some (some (.nrow s (l.set e y.1) none)):=by rw[D];simp
    rw[this]at I
    cases I
    refine⟨l,some (e,m),y.2,h,C,by simp,X,L,Y,by rw[J];trivial,bG,D,z,fps,hG,?_⟩;simp only[hg];have Tj:e<fps.length:=by omega
    refine⟨r,et,hb,hj,hS.cells,by simpa using O,fps.set e h++[fps[e]],by simp at W⊢;omega,wx fps h Tj,λi hi hf=> ?_⟩;have S8:i<(fps.set e h).length:=by simp at hi⊢;omega
    rw[a1h S8];by_cases Z:i=e
    ·subst Z
     simp only[a3m];exact hS
    ·simp only[a3g (Ne.symm Z)]
     have P:i<l.length:=by simpa using hi
     have Tk:i<fps.length:=by simpa using S8
     exact cA.mono (λH r' hb' A=>⟨eu X L hb',A⟩) s (λ_ _=>rfl) (K i P Tk (λTf hc=>by cases hc;exact Z rfl))
 obtain⟨l,S5,k,h,C,Tl,X,L,Y,S,S0,S9,z,fps,hG,u⟩:=S4;have Ta:aj B d j≠none:=by rw[I];simp
 have U:ow1.length=k.length:=by rw[R,bG,S0]
 have D:∀d' j',aj ow1 d' j'=if d'=d/\j'=j then some none else aj k d' j':=by
  intro d' j';rw[R,aW Ta];split
  ·rfl
  ·rename_i hx
   rw[S9,a0e hx]
 have Tb:∃off len,off+len<=l1.length/\x=aO l1 off len/\od w.heap G s.w d j off len v:=by
  rcases Tg with⟨ver,rfl,rfl⟩|⟨ver,off,len,rfl,rfl⟩
  ·cases Q with
   |wh Q=>
    simp only[cZ,C,a2q]at Q;exact⟨0,x.length,by omega,by simp[aO],by rw[Tl];exact Q.2⟩
  ·cases Q with
   |os Q=>
    simp only[cZ,C,a2r]at Q;exact⟨off,len,by omega,rfl,Q.2⟩
 obtain⟨off,len,Tc,rfl,a,c,rfl,Td,hV⟩:=Tb;have E:(aO l1 off len).length=len:=jv Tc
 cases hg:G d j 0 with
 |none=>
  simp only[hg]at u;obtain⟨rfl,rfl,rfl⟩:=u;rcases hV with⟨_,rfl,rfl⟩|⟨b,o,o',r,g,_⟩
  ·have Te:dt k ow1:=⟨U,λd' j'=>by
    rw[D];split
    ·rename_i e
     rw[e.1,e.2];exact .inr (.inl ⟨S,rfl⟩)
    ·exact .inl rfl⟩
   have Tm:ju G k ow1 []:=λx=>by
    constructor
    ·intro hx;simp at hx
    ·rintro⟨d',j',i',o',P,g,S1⟩
     rw[D]at S1;split at S1
     ·rename_i e
      rw[e.1,e.2]at g
      cases i' with
      |zero=>rw[hg]at g;cases g
      |succ i'=>rw[hG]at g;simp at g
     ·rw[S1]at P;exact P.elim
   have Tn:len=0:=by simpa using Td
   subst Tn;refine⟨[],X.trans Te,λx=>by rw[FE.trans X Te,<-L x,<-Tm x];simp,a2h,_,rfl,z,none,0,by rw[E],by rw[E];exact a1n _,.inl ⟨rfl,by simp[aO],rfl,rfl⟩⟩
  ·rw[hg]at g;cases g
 |some q=>
  obtain⟨b,o⟩:=q;simp only[hg]at u;obtain⟨r,et,hb,hj,To,O,f,Tw,M,K⟩:=u;have V:off+len<=f.length:=by omega
  obtain⟨t1,t2,t3,t4⟩:=wz (fps':=zm f off len) hh (by rw[C];trivial) hG X L Y S U D ((An f off len).trans M) hg;rcases hV with⟨g,_⟩|⟨H,o1,o',r',g,ha,A,Tp,Tq⟩
  ·rw[hg]at g;cases g
  ·rw[hg]at g
   cases g
   have:r'=r:=by
    have:=aS hb;rw[this]at A;exact(a1f A).symm
   subst this;refine⟨b::(zm f off len).flatten,t1,t2,t3,_,rfl,z,a,c,by rw[E],by rw[E];exact Td,.inr ⟨b,o',r',et,zm f off len,ha,rfl,hb,Tq,by rw[E,LS V];omega,λH hb'=> ?_,λi hi hf=> ?_⟩⟩
   ·rcases a0k.1 (((An f off len).trans M).mem_iff.1 hb')with hb'|hb'
    ·exact To H hb'
    ·exact hj H hb'
   ·rw[E]at hi
    have Ts:0<c:=by omega
    have e1:=Tp Ts;have Tt:(zm f off len)[i]=f[off+i]'(by omega):=by
     have:=LU V hi;rw[a0a hf,a0a (by omega)]at this;exact a1f this
    rw[Tt,wy Tc,e1,show o+off*s.w+i*s.w=o+(off+i)*s.w by rw[a1a];omega];exact cA.mono (λH r' hb' A=>⟨t4 H hb',A⟩) s (λ_ _=>rfl) (K (off+i) (by omega) (by omega))
def IN {h:Array Obj} {ok:Nat->Prop} {l:List s.T} {v:Value} {u:List Nat} (e:cA h ok (.rows s) l [v] u) (d j:Nat):∃q:Option (Nat×Nat),∃w:List Nat,(q.map (·.1)).toList++w=u/\∀(G:Gh) (ow:OW),aj ow d j=some (some (.nrow s l none))->G d j 0=q->(∀i,G d j (i+1)=(w[i]?).map λb=>(b,0))->cC h ok G ow (.wh d j 0 []) v/\dl h ok G ow d j (.nrow s l none):=by
 obtain⟨E,m,g,a,c,rfl,f,e⟩:=e;have m:v= .slice a l.length c:=by simpa using m
 subst m;rcases e with⟨rfl,rfl,rfl,rfl⟩|⟨b,o,r,et,fps,rfl,rfl,x,y,z,A,B⟩
 ·refine⟨none,[],rfl,λG ow n k p=>⟨.wh ?_,g,[],by simpa using p,by rw[k];exact⟨rfl,rfl,rfl⟩⟩⟩
  simp only[cZ,n,a2q];exact⟨by simp,_,_,rfl,f,.inl ⟨k,rfl,rfl⟩⟩
 ·refine⟨some (b,o),fps.flatten,rfl,λG ow n k p=>⟨.wh ?_,g,fps,p,by rw[k];exact⟨r,et,x,a5o (Nat.add_le_add_left (a0o _ f) _) y,z,A,λi hi C _=>B i hi C,λe t D=>by cases D⟩⟩⟩
  simp only[cZ,n,a2q];exact⟨by omega,_,_,rfl,f,.inr ⟨b,o,o,r,k,rfl,aS x,λ_=>by simp,y⟩⟩
