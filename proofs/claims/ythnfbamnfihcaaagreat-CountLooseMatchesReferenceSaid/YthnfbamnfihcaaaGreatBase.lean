/- A part of the proof. No condition. -/
import GoSem.Dispatch
import Derived.Orders
set_option linter.unusedVariables false
set_option linter.unusedSimpArgs false
set_option linter.unusedSectionVars false
section
noncomputable section
theorem Aa {P:Prop} (h:P:=by omega):P:=h
theorem Ab {P:Prop} (h:P:=by decide):P:=h
theorem Ac {P:Prop} (h:P:=by simp):P:=h
theorem Ad {P:Prop} (x:P:=by cases h):P:=x
theorem Ae:True:=trivial
abbrev Af:=@List.mem_cons
abbrev Ag:=@if_false
abbrev Ah:=@List.not_mem_nil
abbrev Ai:=@List.getElem?_append_left
abbrev Aj:=@if_pos
abbrev Ak:=@if_true
abbrev Am:=@List.getElem?_append_right
abbrev An:=@List.take_succ_eq_append_getElem
abbrev Ao:=@if_neg
abbrev Ap:=@List.length_cons
abbrev Aq:=@List.mem_of_getElem?
abbrev Ar:=@List.mem_singleton
abbrev Au:=@Bool.and_eq_true
abbrev Av:=@List.mem_append
abbrev Aw:=@List.mem_map
abbrev Ax:=@List.drop_eq_getElem_cons
abbrev Ay:=@List.append_nil
abbrev Az:=@decide_eq_false
abbrev AA:=@List.pairwise_cons
abbrev AB:=@List.take_length
abbrev AD:=@List.getElem?_map
abbrev AE:=@Array.getElem?_eq_some_iff
abbrev AF:=@List.all_eq_true
abbrev AG:=@List.map_cons
abbrev AH:=@List.cons_append
abbrev AI:=@Nat.lt_succ_self
abbrev AJ:=@List.getElem?_eq_none
abbrev AK:=@Option.map_some
abbrev AL:=@Option.bind_eq_some_iff
abbrev AM:=@List.getD_eq_getElem?_getD
abbrev AN:=@List.append_assoc
abbrev AO:=@Nat.zero_add
abbrev AP:=@or_false
abbrev AQ:=@Nat.le_trans
abbrev AS:=@List.length_pos_iff
abbrev AT:=@List.getElem?_take
abbrev AU:=@List.getElem_mem
abbrev AW:=@Bool.or_eq_true
abbrev AX:=@Bool.not_eq_true'
abbrev AY:=@List.mem_flatMap
abbrev AZ:=@Nat.mul_le_mul_right
abbrev Ba:=@List.length_take
abbrev Bb:=@List.getElem?_cons_zero
abbrev Bc:=@List.getElem?_cons_succ
abbrev Be:=@List.take_append_drop
abbrev Bf:=@List.flatMap_cons
abbrev Bg:=@Nat.add_mul
abbrev Bh:=@congrArg
abbrev Bi:=@Int.ofNat_eq_natCast
abbrev Bj:=@Int.toNat_natCast
abbrev Bk:=@decide_eq_true_eq
abbrev Bl:=@List.length_singleton
abbrev Bm:=@List.length_eq_zero_iff
abbrev Bn:=@List.getElem?_toArray
abbrev Bo:=@Nat.zero_mul
abbrev Bp:=@List.pairwise_append
abbrev Bq:=@List.mem_of_mem_take
abbrev Br:=@List.eq_of_mem_replicate
abbrev Bs:=@Nat.blt_eq
abbrev Bt:=@Array.getElem?_setIfInBounds_ne
abbrev Bu:=@Nat.lt_of_lt_of_le
abbrev Bv:=@Int.tmod_eq_emod_of_nonneg
abbrev Bw:=@List.nil_append
abbrev Bz:=@Nat.mod_eq_of_lt
abbrev BA:=@List.eq_nil_of_length_eq_zero
abbrev BB:=@of_decide_eq_true
abbrev BC:=@Nat.ble_eq
abbrev BD:=@Option.map_eq_some_iff
abbrev BE:=@Int.natCast_nonneg
abbrev BF:=@List.getElem?_drop
abbrev BG:=@List.cons.injEq
abbrev BH:=@List.map_nil
abbrev BI:=@Nat.add_zero
abbrev BJ:=@Nat.lt_trichotomy
abbrev BK:=@Int.tdiv_eq_ediv_of_nonneg
abbrev BL:=@Ne.symm
abbrev BM:=@of_decide_eq_false
abbrev BN:=@Nat.mul_zero
abbrev BO:=@List.length_nil
abbrev BP:=@List.mem_iff_getElem?
abbrev BQ:=@Nat.beq_eq
abbrev BS:=@Nat.add_right_cancel_iff
abbrev BT:=@Nat.ble_eq_true_of_le
abbrev BU:=@List.mem_range
abbrev BV:=@List.mem_cons_self
abbrev BW:=@List.getElem?_set_ne
abbrev BX:=@List.mem_cons_of_mem
abbrev BY:=@List.any_eq_true
abbrev BZ:=@List.filter_cons
abbrev Ca:=@Nat.le_max_right
abbrev Cb:=@List.take_of_length_le
abbrev Cc:=@List.filter_eq_nil_iff
abbrev Cd:=@List.drop_of_length_le
abbrev Ce:=@Nat.one_mul
abbrev Cf:=@List.flatMap_append
abbrev Cg:=@List.flatten_append
abbrev Ch:=@decide_eq_true
abbrev Ci:=@List.mem_or_eq_of_mem_set
abbrev Cj:=@List.exists_mem_of_ne_nil
abbrev Ck:=@List.length_replicate
abbrev Cm:=@List.map_append
abbrev Cn:=@Nat.lt_of_sub_eq_succ
abbrev Co:=@List.mem_filter
abbrev Cp:=@Nat.le_max_left
abbrev Cq:=@Nat.lt_of_le_of_lt
abbrev Cr:=@List.length_drop
abbrev Cs:=@Int.eq_ofNat_of_zero_le
abbrev Ct:=@Nat.mul_comm
abbrev Cu:=@Nat.mod_lt
abbrev Cv:=@List.ext_getElem?
abbrev Cw:=@Option.some.inj
abbrev Cx:=@List.replicate_succ
abbrev Cy:=@List.range_succ
abbrev Cz:=@List.length_set
abbrev CA:=@Array.getD_eq_getD_getElem?
abbrev CB:=@List.getElem?_set_self
abbrev CC:=@List.drop_eq_nil_of_le
abbrev CD:=@List.set_append_right
abbrev CE:=@List.set_cons_zero
abbrev CF:=@Classical.byContradiction
abbrev CG:=@List.drop_zero
abbrev CH:=@Bool.not_false
abbrev CI:=@Array.getElem?_eq_getElem
abbrev CJ:=@List.getElem?_eq_none_iff
abbrev CK:=@List.mem_append_left
abbrev CL:=@List.length_range
abbrev CM:=@List.nodup_cons
abbrev CN:=@not_true_eq_false
abbrev CP:=@Nat.sub_zero
abbrev CQ:=@List.getElem?_replicate
abbrev CS:=@Nat.mul_one
abbrev CT:=@List.pairwise_singleton
abbrev CU:=@forall_eq_or_imp
abbrev CX:=@Nat.eq_of_beq_eq_true
abbrev CY:=@Bool.and_true
abbrev CZ:=@List.pairwise_map
abbrev Da:=@List.nodup_append
abbrev Db:=@Array.ext'
abbrev Dc:=@Std.Legacy.Range.forIn_eq_forIn_range'
abbrev Dd:=@List.contains_eq_mem
abbrev De:=@List.drop_drop
abbrev Df:=@Nat.sub_add_eq
abbrev Dg:=@Nat.div_eq_of_lt
abbrev Dh:=@List.mem_flatten
abbrev Di:=@Option.getD_some
abbrev Dj:=@List.take_succ_cons
abbrev Dk:=@List.getElem?_range
abbrev Dl:=@Nat.sub_self
abbrev Dm:=@Nat.le_of_lt
abbrev Dn:=@Nat.not_lt_zero
abbrev Dp:=@Bool.or_false
abbrev Dq:=@List.map_take
abbrev Dr:=@List.append_of_mem
abbrev Ds:=@Nat.add_sub_cancel_left
abbrev Dt:=@Bool.true_eq_false
abbrev Du:=@Nat.pos_of_ne_zero
abbrev Dv:=@Bool.not_true
abbrev Dw:=@Bool.eq_iff_iff
abbrev Dx:=@Nat.add_sub_cancel
abbrev Dy:=@List.pairwise_of_forall_mem_list
abbrev Dz:=@List.any_eq_false
abbrev DA:=@List.eq_nil_iff_forall_not_mem
abbrev DB:=@List.map_map
abbrev DC:=@Array.getElem?_toList
abbrev DD:=@List.length_filter_le
abbrev DE:=@Nat.pow_succ
abbrev DF:=@List.mem_append_right
abbrev DG:=@Nat.succ_mul
abbrev DH:=@Option.getD_none
abbrev DI:=@Array.mem_filter
abbrev DJ:=@List.replicate_succ'
abbrev DK:=@List.getElem?_of_mem
abbrev DL:=@Nat.div_lt_of_lt_mul
abbrev DM:=@List.mem_of_mem_drop
abbrev DN:=@List.getElem_of_mem
abbrev DP:=@List.drop_succ_cons
abbrev DQ:=@Nat.div_le_self
abbrev DR:=@List.length_flatMap
abbrev DS:=@Array.getElem?_push
abbrev DT:=@Nat.lt_or_ge
abbrev DU:=@List.mem_filterMap
abbrev DV:=@Nat.lt_trans
abbrev DW:=@Nat.add_comm
abbrev DX:=@Array.append_empty
abbrev DY:=@List.set_cons_succ
abbrev DZ:=@Option.isSome_none
abbrev Ea:=@List.take_zero
abbrev Eb:=@List.flatten_cons
abbrev Ec:=@Bool.eq_false_iff
abbrev Ed:=@Bool.false_or
abbrev Ee:=@forall_eq
abbrev Ef:=@Int.ne_of_gt
theorem Ep{P:Prop}(h:P:=by intro h;cases h):P:=h
theorem Zl {n:Nat}:0<=n:=Nat.zero_le n
theorem Rl {n:Nat}:n<=n:=Nat.le_refl n
theorem Zm (n:Nat):0<=n:=Nat.zero_le n
theorem Rm (n:Nat):n<=n:=Nat.le_refl n
theorem Sj.{u} {α:Type u} (a b:α):(some a=some b)=(a=b):=Option.some.injEq a b
theorem Pj.{u,v} {α:Type u} {β:Type v} (a:α) (b:β) (c:α) (d:β):((a,b)=(c,d))=(a=c/\b=d):=Prod.mk.injEq a b c d
theorem Gg.{u} {α:Type u} {l:List α} {i:Nat} (h:i<l.length):l[i]?=some l[i]:=List.getElem?_eq_getElem h
theorem Gi.{u} {α:Type u} {l:List α} {i:Nat} {a:α}:l[i]?=some a↔∃h:i<l.length,l[i]=a:=List.getElem?_eq_some_iff
theorem Lm.{u,v} {α:Type u} {β:Type v} {l:List α} (f:α->β):(l.map f).length=l.length:=List.length_map f
theorem La.{u} {α:Type u} {l m:List α}:(l++m).length=l.length+m.length:=List.length_append
theorem Fj:(false=true)=False:=Bool.false_eq_true
namespace Go.Vm
inductive Key where
 |h|o (k:Key)|i (k:Key)
 deriving DecidableEq,Inhabited,Repr
namespace Key
def succ (k:Key):Key:=@Key.rec (λ_=>Key) (.o .h) (λk _=>.i k) (λ_ ih=>.o ih) k
theorem Aaq (k:Key):succ (.i k)=.o k.succ:=rfl
def toNat:Key->Nat
 |.h=>0
 |.o k=>2*k.toNat+1
 |.i k=>2*k.toNat+2
def kn:Nat->Key
 |0=>.h
 |n+1=>(kn n).succ
theorem toNat_succ:∀k:Key,k.succ.toNat=k.toNat+1
 |.h=>rfl
 |.o _=>rfl
 |.i k=>by simp[Aaq,toNat,toNat_succ k];omega
theorem toNat_kn:∀n,(kn n).toNat=n
 |0=>rfl
 |n+1=>by simp[kn,toNat_succ,toNat_kn n]
theorem toNat_inj:∀{a b:Key},a.toNat=b.toNat->a=b
 |.h,.h,_=>rfl
 |.h,.o _,e=>by simp[toNat] at e
 |.h,.i _,e=>by simp[toNat] at e
 |.o _,.h,e=>by simp[toNat] at e
 |.o a,.o b,e=>by have:=toNat_inj (a:=a) (b:=b) (by simp[toNat] at e;omega);rw[this]
 |.o _,.i _,e=>by simp[toNat] at e;omega
 |.i _,.h,e=>by simp[toNat] at e
 |.i _,.o _,e=>by simp[toNat] at e;omega
 |.i a,.i b,e=>by have:=toNat_inj (a:=a) (b:=b) (by simp[toNat] at e;omega);rw[this]
theorem J8 (k:Key):kn k.toNat=k:=toNat_inj (toNat_kn _)
theorem Aar {a b:Nat} (e:kn a=kn b):a=b:=by rw[<-toNat_kn a,<-toNat_kn b,e]
end Key
open Key (kn)
inductive Tr (α:Type) where
 |z|n (l:Tr α) (v:Option α) (r:Tr α)
 deriving Inhabited,Repr
namespace Tr
variable {α:Type}
def get (t:Tr α):Key->Option α:=@Tr.rec α (λ_=>Key->Option α) (λ_=>none) (λ_ v _ il ir k=>@Key.rec (λ_=>Option α) v (λk _=>il k) (λk _=>ir k) k) t
def fE (v:Option α) (k:Key):Tr α:=@Key.rec (λ_=>Tr α) (.n .z v .z) (λ_ ih=>.n ih none .z) (λ_ ih=>.n .z none ih) k
def upd (t:Tr α):Key->Option α->Tr α:=@Tr.rec α (λ_=>Key->Option α->Tr α) (λk v=>fE v k) (λl x r il ir k v=>@Key.rec (λ_=>Tr α) (.n l v r) (λk _=>.n (il k v) x r) (λk _=>.n l x (ir k v)) k) t
theorem Aas (v:Option α) (k:Key):fE v (.o k)=.n (fE v k) none .z:=rfl
theorem Aat (v:Option α) (k:Key):fE v (.i k)=.n .z none (fE v k):=rfl
theorem FN (k:Key) (v:Option α):(Tr.z:Tr α).upd k v=fE v k:=rfl
theorem ZA (l:Tr α) (x:Option α) (r:Tr α) (k:Key) (v:Option α):(Tr.n l x r).upd (.o k) v=.n (l.upd k v) x r:=rfl
theorem ZB (l:Tr α) (x:Option α) (r:Tr α) (k:Key) (v:Option α):(Tr.n l x r).upd (.i k) v=.n l x (r.upd k v):=rfl
@[simp] theorem sK (k:Key):(Tr.z:Tr α).get k=none:=rfl
theorem Pw (v:Option α):∀k,(fE v k).get k=v
 |.h=>rfl
 |.o k=>Pw v k
 |.i k=>Pw v k
theorem Tj (v:Option α):∀{k j:Key},k≠j->(fE v k).get j=none
 |.h,.h,e=>absurd rfl e
 |.h,.o _,_=>rfl
 |.h,.i _,_=>rfl
 |.o _,.h,_=>rfl
 |.o k,.o j,e=>Tj v (k:=k) (j:=j) (λx=>e (by rw[x]))
 |.o _,.i _,_=>rfl
 |.i _,.h,_=>rfl
 |.i _,.o _,_=>rfl
 |.i k,.i j,e=>Tj v (k:=k) (j:=j) (λx=>e (by rw[x]))
theorem Ju (v:Option α):∀(t:Tr α) (k:Key),(t.upd k v).get k=v
 |.z,k=>Pw v k
 |.n _ _ _,.h=>rfl
 |.n l _ _,.o k=>Ju v l k
 |.n _ _ r,.i k=>Ju v r k
theorem Rj (v:Option α):∀(t:Tr α) {k j:Key},k≠j->(t.upd k v).get j=t.get j
 |.z,k,j,e=>by rw[FN,Tj v e,sK]
 |.n _ _ _,.h,.h,e=>absurd rfl e
 |.n _ _ _,.h,.o _,_=>rfl
 |.n _ _ _,.h,.i _,_=>rfl
 |.n _ _ _,.o _,.h,_=>rfl
 |.n l _ _,.o k,.o j,e=>Rj v l (λx=>e (by rw[x]))
 |.n _ _ _,.o _,.i _,_=>rfl
 |.n _ _ _,.i _,.h,_=>rfl
 |.n _ _ _,.i _,.o _,_=>rfl
 |.n _ _ r,.i k,.i j,e=>Rj v r (λx=>e (by rw[x]))
theorem D1 (v:Option α) (t:Tr α) (k j:Key):(t.upd k v).get j=if k=j then v else t.get j:=by
 split;·next e=>subst e;exact Ju v t k
 ·next e=>exact Rj v t e
theorem Py (v u:Option α):∀{k j:Key},k≠j->(fE v k).upd j u=(fE u j).upd k v
 |.h,.h,e=>absurd rfl e
 |.h,.o _,_=>rfl
 |.h,.i _,_=>rfl
 |.o _,.h,_=>rfl
 |.o k,.o j,e=>by simp only[Aas,ZA];rw[Py v u (k:=k) (j:=j) (λx=>e (by rw[x]))]
 |.o _,.i _,_=>rfl
 |.i _,.h,_=>rfl
 |.i _,.o _,_=>rfl
 |.i k,.i j,e=>by simp only[Aat,ZB];rw[Py v u (k:=k) (j:=j) (λx=>e (by rw[x]))]
theorem Tk (v u:Option α):∀(t:Tr α) {k j:Key},k≠j->(t.upd k v).upd j u=(t.upd j u).upd k v
 |.z,k,j,e=>Py v u e
 |.n _ _ _,.h,.h,e=>absurd rfl e
 |.n _ _ _,.h,.o _,_=>rfl
 |.n _ _ _,.h,.i _,_=>rfl
 |.n _ _ _,.o _,.h,_=>rfl
 |.n l _ _,.o k,.o j,e=>by simp only[ZA];rw[Tk v u l (k:=k) (j:=j) (λx=>e (by rw[x]))]
 |.n _ _ _,.o _,.i _,_=>rfl
 |.n _ _ _,.i _,.h,_=>rfl
 |.n _ _ _,.i _,.o _,_=>rfl
 |.n _ _ r,.i k,.i j,e=>by simp only[ZB];rw[Tk v u r (k:=k) (j:=j) (λx=>e (by rw[x]))]
def G8 (t:Tr α) (n:Nat):List α->Tr α
 |[]=>t
 |v::l=>(t.upd (kn n) (some v)).G8 (n+1) l
theorem Ge (l:List α):∀(t:Tr α) (n j:Nat),(t.G8 n l).get (kn j)=if n<=j/\j<n+l.length then l[j-n]? else t.get (kn j):=by
 induction l with
 |nil=>intro t n j;simp[G8];omega
 |cons v l ih=>
  intro t n j;rw[G8,ih];by_cases h1:n+1<=j/\j<n+1+l.length;·rw[if_pos h1,if_pos (by simp;omega)];obtain⟨m,rfl⟩:∃m,j=n+1+m:=⟨j-n-1,by omega⟩;rw[show n+1+m-(n+1)=m from by omega,show n+1+m-n=m+1 from by omega];rfl
  ·rw[if_neg h1,D1];by_cases h2:n=j;·subst h2;simp
   ·rw[if_neg (λe=>h2 (Key.Aar e)),if_neg (by simp;omega)]
end Tr
inductive SV where
 |bool (b:Bool)
 |int (k:IntKind) (n:Int)
 |str (l:List Nat)
 |ptr (b:Key) (o:Nat)
 |Iv
 |slice (b:Key) (o len es:Nat) (cap:Option Nat)
 |A4
 |map (b:Key)
 |Ic
 |func (f:Nat) (first cap:List (Key×Nat))
 |J5
 deriving DecidableEq,Inhabited,Repr
inductive CV where
 |s (x:SV)
 |agg (cs:List SV)
 deriving DecidableEq,Inhabited,Repr
inductive AV where
 |v (x:CV)
 |tup (xs:List CV)
 deriving DecidableEq,Inhabited,Repr
def CV.cells:CV->List SV
 |.s x=>[x]
 |.agg cs=>cs
inductive Body where
 |cells (c:Tr SV) (size:Nat)
 |map (l:List (CV×CV))
 |iter (m:Key) (n:Nat) (st:Nat)
 |lP (l:List Nat) (pos:Nat)
 deriving Inhabited,Repr
structure Blk where
 body:Body
 own:Bool
 anc:List Key
 deriving Inhabited,Repr
structure Heap where
 mem:Tr Blk
 next:Key
 deriving Inhabited,Repr
namespace Heap
def get (h:Heap) (b:Key):Option Blk:=h.mem.get b
def upd (h:Heap) (b:Key) (x:Option Blk):Heap:={ h with mem:=h.mem.upd b x }
def E3 (h:Heap):List Key->Heap
 |[]=>h
 |b::l=>(h.upd b none).E3 l
def Fu (h:Heap) (x:Blk):Heap:={ mem:=h.mem.upd h.next (some x),next:=h.next.succ }
def new (h:Heap) (x:Body):Key×Heap:=(h.next,h.Fu ⟨x,true,[]⟩)
end Heap
end Go.Vm

end
abbrev Es:=List (Nat×Nat)
abbrev Ew:=List (Go.Vm.Key×Go.Vm.Key)
abbrev EA:=List Go.Vm.AV
abbrev EB:=List Go.Vm.SV
abbrev EC:=Go.Vm.Key->Option Go.Vm.Key
abbrev ED:=List Go.Vm.Key
abbrev EE:=Option Go.Vm.Key
abbrev EF:=List Nat
abbrev EH:=Nat->Bool
section
noncomputable section
namespace Go.Vm
open Key (kn)
inductive VX where
 |t (k:Key)
 |c (v:AV)
 deriving Inhabited
inductive Jk where
 |bool|int|str
 deriving DecidableEq,Inhabited
inductive Lp where
 |one (k:Jk)
 |agg (ks:List Jk)
 deriving DecidableEq,Inhabited
inductive EqK where
 |bool|ptr|slice|map|func
 |agg (ks:List Jk)
 deriving DecidableEq,Inhabited
inductive SlK where
 |str
 |slice (es:Nat)
 |arr (n es:Nat)
 deriving Inhabited
inductive VOp where
 |mov
 |pick
 |Jv (zs:EB)
 |box (n:Nat)
 |build (zero:EB) (places:Es)
 |J6 (es len:Nat) (zero:EB) (places:Es)
 |Fb
 |Fl (n:Nat)
 |store (n:Nat)
 |J7
 |bin (b:BinOp)
 |eq (neg:Bool) (k:EqK)
 |un (u:UnOp)
 |conv (k:IntKind)
 |s2b
 |b2s
 |Rk (f:Nat) (nfirst:Nat)
 |S7
 |O7 (es bytes:Nat) (zero:EB)
 |slice (k:SlK) (lo hi mx:Bool)
 |Ft (off:Nat)
 |field (off:Nat) (n:Option Nat)
 |xI (n es:Nat)
 |isl (es:Nat)
 |idx (n es:Nat) (m:Option Nat)
 |xJ
 |lookup (ks:Lp) (zero:CV) (ok:Bool)
 |K1 (ks:Lp)
 |extract (i:Nat)
 |lens|Pz|P0 (n:Nat)|lE
 |cap
 |Nu (isMax:Bool)
 |append (es bytes:Nat)
 |copy (es:Nat)
 |Lu|Qr|Lv
 |nW|FO
 |bad
 deriving Inhabited
namespace AV
abbrev int (k:IntKind) (n:Int):AV:=.v (.s (.int k n))
abbrev bool (b:Bool):AV:=.v (.s (.bool b))
abbrev sv (x:SV):AV:=.v (.s x)
abbrev unit:AV:=.tup []
end AV
def Rn (b:BinOp) (k:IntKind) (x y:Int):Option SV:=
 match b with
 |.add=>some (.int k (k.wrap (x+y)))
 |.sub=>some (.int k (k.wrap (x-y)))
 |.mul=>some (.int k (k.wrap (x*y)))
 |.quo=>if y=0 then none else some (.int k (k.wrap (x.tdiv y)))
 |.rem=>if y=0 then none else some (.int k (x.tmod y))
 |.and=>some (.int k (k.wrap (BitVec.ofInt k.bits x &&& BitVec.ofInt k.bits y).toNat))
 |.or=>some (.int k (k.wrap (BitVec.ofInt k.bits x ||| BitVec.ofInt k.bits y).toNat))
 |.xor=>some (.int k (k.wrap (BitVec.ofInt k.bits x ^^^ BitVec.ofInt k.bits y).toNat))
 |.andNot=>some (.int k (k.wrap (BitVec.ofInt k.bits x &&& ~~~(BitVec.ofInt k.bits y)).toNat))
 |.eql=>some (.bool (x==y))
 |.neq=>some (.bool (x !=y))
 |.lss=>some (.bool (decide (x<y)))
 |.leq=>some (.bool (decide (x<=y)))
 |.gtr=>some (.bool (decide (x>y)))
 |.geq=>some (.bool (decide (x>=y)))
 |_=>none
def fF (b:BinOp) (k:IntKind) (x y:Int):Option SV:=
 if y<0 then none else
 match b with
 |.shl=>some (.int k (k.wrap (x*2 ^ (min y.toNat k.bits))))
 |.shr=>some (.int k (x.fdiv (2 ^ (min y.toNat k.bits))))
 |_=>none
def Nc:EF->EF->Bool
 |_,[]=>false
 |[],_::_=>true
 |a::x,b::y=>Nat.blt a b||(Nat.beq a b&&Nc x y)
def nX (b:BinOp) (x y:EF):Option SV:=
 match b with
 |.add=>if x.length+y.length<=9223372036854775807 then some (.str (x++y)) else none
 |.eql=>some (.bool (x==y))
 |.neq=>some (.bool (!(x==y)))
 |.lss=>some (.bool (Nc x y))
 |.leq=>some (.bool (Nc x y||x==y))
 |.gtr=>some (.bool (!(Nc x y||x==y)))
 |.geq=>some (.bool (!(Nc x y)))
 |_=>none
def O8:BinOp->Bool
 |.shl|.shr=>true
 |_=>false
def Ym (b:BinOp) (x y:SV):Option SV:=
 match x,y with
 |.int k a,.int k' c=>if O8 b then fF b k a c else if k=k' then Rn b k a c else none
 |.str a,.str c=>nX b a c
 |_,_=>none
def aM (k:Jk) (x y:SV):Option Bool:=
 match k,x,y with
 |.bool,.bool a,.bool b=>some (a==b)
 |.int,.int k a,.int k' b=>if k=k' then some (a==b) else none
 |.str,.str a,.str b=>some (a==b)
 |_,_,_=>none
def Fc:List Jk->EB->EB->Option Bool
 |[],[],[]=>some true
 |k::ks,x::xs,y::ys=>match aM k x y with
  |some r=>match Fc ks xs ys with
   |some q=>some (r&&q)
   |none=>none
  |none=>none
 |_,_,_=>none
def sL (ks:Lp) (x y:CV):Option Bool:=
 match ks,x,y with
 |.one k,.s a,.s b=>aM k a b
 |.agg ks,.agg a,.agg b=>Fc ks a b
 |_,_,_=>none
def UH (k:EqK) (x y:CV):Option Bool:=
 match k,x,y with
 |.bool,.s (.bool a),.s (.bool b)=>some (a==b)
 |.ptr,.s .Iv,.s .Iv=>some true
 |.ptr,.s .Iv,.s (.ptr _ _)=>some false
 |.ptr,.s (.ptr _ _),.s .Iv=>some false
 |.slice,.s .A4,.s .A4=>some true
 |.slice,.s .A4,.s (.slice ..)=>some false
 |.slice,.s (.slice ..),.s .A4=>some false
 |.map,.s .Ic,.s .Ic=>some true
 |.map,.s .Ic,.s (.map _)=>some false
 |.map,.s (.map _),.s .Ic=>some false
 |.func,.s .J5,.s .J5=>some true
 |.func,.s .J5,.s (.func ..)=>some false
 |.func,.s (.func ..),.s .J5=>some false
 |.agg ks,.agg a,.agg b=>Fc ks a b
 |_,_,_=>none
def UI (u:UnOp) (x:SV):Option SV:=
 match u,x with
 |.neg,.int k n=>some (.int k (k.wrap (0-n)))
 |.xor,.int k n=>some (.int k (k.wrap (BitVec.ofInt k.bits (if k.signed then -1 else k.max) ^^^ BitVec.ofInt k.bits n).toNat))
 |.not,.bool b=>some (.bool !b)
 |_,_=>none
def Body.ofList (l:EB):Body:=.cells (Tr.z.G8 0 l) l.length
def Nv (c:Tr SV):Nat->Nat->Option (EB)
 |_,0=>some []
 |o,n+1=>match c.get (kn o) with
  |some v=>match Nv c (o+1) n with
   |some l=>some (v::l)
   |none=>none
  |none=>none
namespace Heap
def cells (h:Heap) (b:Key):Option (Tr SV×Nat):=
 match h.get b with
 |some ⟨.cells c n,_,_⟩=>some (c,n)
 |_=>none
def read (h:Heap) (b:Key) (o n:Nat):Option (EB):=
 if n=0 then some [] else
 match h.cells b with
 |some (c,m)=>if o+n<=m then Nv c o n else none
 |none=>none
def write (h:Heap) (b:Key) (o:Nat) (l:EB):Option Heap:=
 match h.get b with
 |some ⟨.cells c m,true,anc⟩=>
  if o+l.length<=m then some ((h.E3 anc).upd b (some ⟨.cells (c.G8 o l) m,true,[]⟩)) else none
 |_=>none
def copied (c:Tr SV) (m o k:Nat) (new:EB):Option Body:=
 if o+k<=m then
  if o=0 then some (.cells (c.G8 k new) (k+new.length)) else
  match Nv c o k with
  |some old=>some (Body.ofList (old++new))
  |none=>none
 else none
def renew (h:Heap) (b:Key) (o k:Nat) (new:EB):Option (Key×Heap):=
 if k=0 then some (h.new (Body.ofList new)) else
 match h.cells b with
 |some (c,m)=>match copied c m o k new with
  |some body=>some (h.new body)
  |none=>none
 |none=>none
def grow (h:Heap) (b:Key) (o k:Nat) (new:EB):Option (Key×Heap):=
 match h.get b with
 |some ⟨.cells c m,true,anc⟩=>
  match copied c m o k new with
  |some body=>
   if o+k=m then some (h.next,(h.upd b (some ⟨.cells c m,false,anc⟩)).Fu ⟨body,true,b::anc⟩)
   else some (h.next,((h.E3 anc).upd b none).Fu ⟨body,true,[]⟩)
  |none=>none
 |_=>none
end Heap
def Mu:EB->Es->EA->Option (EB)
 |cs,[],[]=>some cs
 |cs,(o,n)::ps,.v x::xs=>
  if x.cells.length=n/\o+n<=cs.length then Mu (cs.take o++x.cells++cs.drop (o+n)) ps xs else none
 |_,_,_=>none
def Jl (zero:EB):Nat->EB
 |0=>[]
 |n+1=>zero++Jl zero n
def Xb (cs:EB) (o:Nat):Option Nat->Option CV
 |none=>match cs[o]? with
  |some x=>some (.s x)
  |none=>none
 |some n=>if o+n<=cs.length then some (.agg ((cs.drop o).take n)) else none
def xK:EA->Option (List (Key×Nat))
 |[]=>some []
 |.v (.s (.ptr b o))::l=>match xK l with
  |some r=>some ((b,o)::r)
  |none=>none
 |_=>none
def Kf (ks:Lp) (k:CV):Bool:=
 match ks,k with
 |.one _,.s _=>true
 |.agg l,.agg cs=>cs.length==l.length
 |_,_=>false
def Tl (ks:Lp) (k:CV):List (CV×CV)->Option (Option CV)
 |[]=>some none
 |(x,v)::l=>match sL ks k x with
  |some true=>some (some v)
  |some false=>Tl ks k l
  |none=>none
def cI (ks:Lp) (k v:CV):List (CV×CV)->Option (List (CV×CV))
 |[]=>some [(k,v)]
 |(x,u)::l=>match sL ks k x with
  |some true=>some ((x,v)::l)
  |some false=>match cI ks k v l with
   |some r=>some ((x,u)::r)
   |none=>none
  |none=>none
def Xc:Bool->EA->Option (Option Int×EA)
 |false,xs=>some (none,xs)
 |true,.v (.s (.int _ n))::xs=>some (some n,xs)
 |true,_=>none
def Yn (lo hi mx:Bool) (xs:EA):Option (Option Int×Option Int×Option Int):=
 match Xc lo xs with
 |some (a,xs)=>match Xc hi xs with
  |some (b,xs)=>match Xc mx xs with
   |some (c,[])=>some (a,b,c)
   |_=>none
  |none=>none
 |none=>none
def bnd (x:Option Int) (top dflt:Nat):Option Nat:=
 match x with
 |none=>some dflt
 |some v=>if 0<=v/\v<=(top:Int) then some v.toNat else none
def bounds (len:Nat) (cap:Option Nat) (bs:Option Int×Option Int×Option Int):Option (Nat×Nat×Option Nat):=
 match bnd bs.2.2 (cap.getD len) (cap.getD len) with
 |none=>none
 |some m=>match bnd bs.2.1 m len with
  |none=>none
  |some h=>match bnd bs.1 h 0 with
   |none=>none
   |some l=>some (l,h-l,if bs.2.2.isSome||cap.isSome then some (m-l) else none)
def Nw (isMax:Bool) (k:IntKind) (x:Int):EA->Option SV
 |[]=>some (.int k x)
 |.v (.s (.int _ y))::l=>Nw isMax k (if isMax then(if y>x then y else x) else(if y<x then y else x)) l
 |_=>none
def Il (h:Heap) (es:Nat):SV->Option (EB×Nat)
 |.A4=>some ([],0)
 |.slice b o len es' _=>if es=es' then(match h.read b o (len*es) with
  |some l=>some (l,len)
  |none=>none) else none
 |.str l=>if es=1 then some (l.map (λn=>SV.int .u8 (n:Nat)),l.length) else none
 |_=>none
def room (n bytes:Nat):Bool:=Nat.ble (2*n*bytes) 281474976710656
def Gx (h:Heap) (es bytes:Nat) (s:SV) (new:EB) (n:Nat):Option (SV×Heap):=
 match s with
 |.A4=>
  if n=0 then some (.A4,h) else
  if room n bytes then some (.slice h.next 0 n es none,(h.new (Body.ofList new)).2) else none
 |.slice b o len es' cap=>
  if es=es' then
   if n=0 then some (s,h) else
   match cap with
   |some c=>
    if len+n<=c then
     match h.write b (o+len*es) new with
     |some h=>some (.slice b o (len+n) es (some c),h)
     |none=>none
    else if room (len+n) bytes then
     match h.renew b o (len*es) new with
     |some (b,h)=>some (.slice b 0 (len+n) es none,h)
     |none=>none
    else none
   |none=>
    if room (len+n) bytes then
     match h.grow b o (len*es) new with
     |some (b,h)=>some (.slice b 0 (len+n) es none,h)
     |none=>none
    else none
  else none
 |_=>none
def M5 (h:Heap):Option CV->Option (AV×Heap)
 |some x=>some (.v x,h)
 |none=>none
def Hs (h:Heap):Option SV->Option (AV×Heap)
 |some x=>some (.v (.s x),h)
 |none=>none
def Nf (es:Nat) (x:SV) (bs:Option Int×Option Int×Option Int):Option SV:=
 match x with
 |.A4=>match bounds 0 (some 0) bs with
  |some _=>some .A4
  |none=>none
 |.slice b o len es' cap=>if es=es' then(match bounds len cap bs with
  |some (l,n,c)=>some (.slice b (o+l*es) n es c)
  |none=>none) else none
 |_=>none
abbrev R:=Option (AV×Heap)
def MY:EA->Heap->R
 |[x],h=>some (x,h)
 |_,_=>none
def FP:EA->Heap->R
 |[.v (.s (.bool c)),a,b],h=>some (if c then a else b,h)
 |_,_=>none
def lQ (zs:EB):EA->Heap->R
 |[],h=>some (.v (.s (.ptr h.next 0)),(h.new (Body.ofList zs)).2)
 |_,_=>none
def sM (n:Nat):EA->Heap->R
 |[.v x],h=>if x.cells.length=n then some (.v (.s (.ptr h.next 0)),(h.new (Body.ofList x.cells)).2) else none
 |_,_=>none
def fG (zero:EB) (places:Es) (xs:EA) (h:Heap):R:=
 match Mu zero places xs with
 |some cs=>some (.v (.agg cs),h)
 |none=>none
def Vl (es len:Nat) (zero:EB) (places:Es) (xs:EA) (h:Heap):R:=
 match Mu (Jl zero len) places xs with
 |some cs=>some (.v (.s (.slice h.next 0 len es (some len))),(h.new (Body.ofList cs)).2)
 |none=>none
def Kk:EA->Heap->R
 |[.v (.s (.ptr b o))],h=>match h.read b o 1 with
  |some [x]=>some (.v (.s x),h)
  |_=>none
 |_,_=>none
def Kl (n:Nat):EA->Heap->R
 |[.v (.s (.ptr b o))],h=>match h.read b o n with
  |some l=>some (.v (.agg l),h)
  |none=>none
 |_,_=>none
def Xd (n:Nat):EA->Heap->R
 |[.v (.s (.ptr b o)),.v x],h=>if x.cells.length=n then
   (match h.write b o x.cells with
   |some h=>some (.unit,h)
   |none=>none) else none
 |_,_=>none
def eB:EA->Heap->R
 |[.v (.s (.ptr b o))],h=>some (.v (.s (.ptr b o)),h)
 |[.v (.s (.func f fs cs))],h=>some (.v (.s (.func f fs cs)),h)
 |_,_=>none
def MZ (b:BinOp):EA->Heap->R
 |[.v (.s x),.v (.s y)],h=>Hs h (Ym b x y)
 |_,_=>none
def rEq (neg:Bool) (k:EqK):EA->Heap->R
 |[.v x,.v y],h=>match UH k x y with
  |some r=>some (.v (.s (.bool (r !=neg))),h)
  |none=>none
 |_,_=>none
def rUn (u:UnOp):EA->Heap->R
 |[.v (.s x)],h=>Hs h (UI u x)
 |_,_=>none
def FQ (k:IntKind):EA->Heap->R
 |[.v (.s (.int _ n))],h=>some (.v (.s (.int k (k.wrap n))),h)
 |_,_=>none
def xL:EA->Heap->R
 |[.v (.s (.str l))],h=>if room l.length 1 then
   some (.v (.s (.slice h.next 0 l.length 1 none)),h.Fu ⟨Body.ofList (l.map (λn=>SV.int .u8 (n:Nat))),false,[]⟩) else none
 |_,_=>none
def byteOf:SV->Option Nat
 |.int .u8 n=>if 0<=n/\n<256 then some n.toNat else none
 |_=>none
def Vn:EB->Option (EF)
 |[]=>some []
 |x::l=>match byteOf x,Vn l with
  |some n,some r=>some (n::r)
  |_,_=>none
def xM:EA->Heap->R
 |[.v (.s (.slice b o len es c))],h=>match Il h 1 (.slice b o len es c) with
  |some (l,_)=>match Vn l with
   |some l=>some (.v (.s (.str l)),h)
   |none=>none
  |none=>none
 |[.v (.s .A4)],h=>some (.v (.s (.str [])),h)
 |_,_=>none
def Yr (f n:Nat) (xs:EA) (h:Heap):R:=
 match xK xs with
 |some l=>some (.v (.s (.func f (l.take n) (l.drop n))),h)
 |none=>none
def Tm:EA->Heap->R
 |[],h=>some (.v (.s (.map h.next)),(h.new (.map [])).2)
 |[.v (.s (.int _ _))],h=>some (.v (.s (.map h.next)),(h.new (.map [])).2)
 |_,_=>none
def Mv (es bytes:Nat) (zero:EB):EA->Heap->R
 |[.v (.s (.int _ l)),.v (.s (.int _ c))],h=>
  if 0<=l/\l<=c/\c<=1099511627776/\Nat.ble (bytes*c.toNat) 281474976710656 then
   some (.v (.s (.slice h.next 0 l.toNat es (some c.toNat))),(h.new (Body.ofList (Jl zero c.toNat))).2) else none
 |_,_=>none
def Qa (k:SlK) (lo hi mx:Bool):EA->Heap->R
 |x::xs,h=>match Yn lo hi mx xs with
  |some bs=>match k,x with
   |.str,.v (.s (.str l))=>if mx then none else(match bounds l.length (some l.length) bs with
    |some (a,b,_)=>some (.v (.s (.str ((l.drop a).take b))),h)
    |none=>none)
   |.slice es,.v (.s x)=>Hs h (Nf es x bs)
   |.arr n es,.v (.s (.ptr b o))=>Hs h (Nf es (.slice b o n es (some n)) bs)
   |_,_=>none
  |none=>none
 |_,_=>none
def nY (off:Nat):EA->Heap->R
 |[.v (.s (.ptr b o))],h=>some (.v (.s (.ptr b (o+off))),h)
 |_,_=>none
def fH (off:Nat) (n:Option Nat):EA->Heap->R
 |[.v (.agg cs)],h=>M5 h (Xb cs off n)
 |_,_=>none
def fI (n es:Nat):EA->Heap->R
 |[.v (.s (.ptr b o)),.v (.s (.int _ i))],h=>if 0<=i/\i<(n:Int) then some (.v (.s (.ptr b (o+i.toNat*es))),h) else none
 |_,_=>none
def xN (es:Nat):EA->Heap->R
 |[.v (.s (.slice b o len es' _)),.v (.s (.int _ i))],h=>if es=es'/\0<=i/\i<(len:Int) then some (.v (.s (.ptr b (o+i.toNat*es))),h) else none
 |_,_=>none
def JK (n es:Nat) (m:Option Nat):EA->Heap->R
 |[.v (.agg cs),.v (.s (.int _ i))],h=>if 0<=i/\i<(n:Int) then M5 h (Xb cs (i.toNat*es) m) else none
 |_,_=>none
def lR:EA->Heap->R
 |[.v (.s (.str l)),.v (.s (.int _ i))],h=>if 0<=i then(match l[i.toNat]? with
   |some n=>some (.v (.s (.int .u8 (n:Nat))),h)
   |none=>none) else none
 |_,_=>none
def H5 (ks:Lp) (zero:CV) (ok:Bool):EA->Heap->R
 |[.v (.s .Ic),.v k],h=>if Kf ks k then some (if ok then .tup [zero,.s (.bool false)] else .v zero,h) else none
 |[.v (.s (.map b)),.v k],h=>if Kf ks k then(match h.get b with
  |some ⟨.map l,_,_⟩=>match Tl ks k l with
   |some r=>some (if ok then .tup [r.getD zero,.s (.bool r.isSome)] else .v (r.getD zero),h)
   |none=>none
  |_=>none) else none
 |_,_=>none
def Ro (ks:Lp):EA->Heap->R
 |[.v (.s (.map b)),.v k,.v v],h=>if Kf ks k then(match h.get b with
  |some ⟨.map l,true,[]⟩=>match cI ks k v l with
   |some l=>some (.unit,h.upd b (some ⟨.map l,true,[]⟩))
   |none=>none
  |_=>none) else none
 |_,_=>none
def Tn (i:Nat):EA->Heap->R
 |[.tup xs],h=>M5 h xs[i]?
 |_,_=>none
def FT:EA->Heap->R
 |[.v (.s (.slice _ _ len _ _))],h=>some (.int .i64 (len:Nat),h)
 |[.v (.s .A4)],h=>some (.int .i64 (0:Nat),h)
 |_,_=>none
def eC:EA->Heap->R
 |[.v (.s (.str l))],h=>some (.int .i64 (l.length:Nat),h)
 |_,_=>none
def eD (n:Nat):EA->Heap->R
 |[_],h=>some (.int .i64 (n:Nat),h)
 |_,_=>none
def Tp:EA->Heap->R
 |[.v (.s .Ic)],h=>some (.int .i64 (0:Nat),h)
 |[.v (.s (.map b))],h=>match h.get b with
  |some ⟨.map l,_,_⟩=>some (.int .i64 (l.length:Nat),h)
  |_=>none
 |_,_=>none
def UJ:EA->Heap->R
 |[.v (.s (.slice _ _ _ _ (some c)))],h=>some (.int .i64 (c:Nat),h)
 |[.v (.s .A4)],h=>some (.int .i64 (0:Nat),h)
 |_,_=>none
def Yu (m:Bool):EA->Heap->R
 |.v (.s (.int k x))::xs,h=>Hs h (Nw m k x xs)
 |_,_=>none
def O9 (es bytes:Nat):EA->Heap->R
 |[.v (.s s),.v (.s x)],h=>match Il h es x with
  |some (new,n)=>match Gx h es bytes s new n with
   |some (s,h)=>some (.v (.s s),h)
   |none=>none
  |none=>none
 |_,_=>none
def Tq (es:Nat):EA->Heap->R
 |[.v (.s d),.v (.s x)],h=>match Il h es x with
  |some (src,n)=>match d with
   |.A4=>some (.int .i64 (0:Nat),h)
   |.slice b o len es' _=>if es=es' then
     (if min n len=0 then some (.int .i64 (0:Nat),h) else
     match h.write b o (src.take (min n len*es)) with
     |some h=>some (.int .i64 (min n len:Nat),h)
     |none=>none) else none
   |_=>none
  |none=>none
 |_,_=>none
def Rp:EA->Heap->R
 |[.v (.s (.map b))],h=>match h.get b with
  |some ⟨.map l,_,_⟩=>if l.length<=1 then some (.v (.s (.ptr h.next 0)),(h.new (.iter b l.length 0)).2) else none
  |_=>none
 |_,_=>none
def Nx:EA->Heap->R
 |[.v (.s (.ptr i 0))],h=>match h.get i with
  |some ⟨.iter b n st,true,[]⟩=>match h.get b with
   |some ⟨.map l,_,_⟩=>if l.length=n then(match st,l with
    |0,[(k,v)]=>some (.tup [.s (.bool true),k,v],h.upd i (some ⟨.iter b n 1,true,[]⟩))
    |0,[]=>some (.tup [.s (.bool false)],h)
    |_+1,[_]=>some (.tup [.s (.bool false)],h)
    |_,_=>none) else none
   |_=>none
  |_=>none
 |_,_=>none
def Rq:EA->Heap->R
 |[.v (.s (.ptr i 0))],h=>match h.get i with
  |some ⟨.iter b n 1,_,_⟩=>match h.get b with
   |some ⟨.map [(k,v)],_,_⟩=>if n=1 then some (.tup [k,v],h) else none
   |_=>none
  |_=>none
 |_,_=>none
def VOp.run (op:VOp) (args:EA) (h:Heap):R:=
 match op with
 |.mov=>MY args h
 |.pick=>FP args h
 |.Jv zs=>lQ zs args h
 |.box n=>sM n args h
 |.build z p=>fG z p args h
 |.J6 es len z p=>Vl es len z p args h
 |.Fb=>Kk args h
 |.Fl n=>Kl n args h
 |.store n=>Xd n args h
 |.J7=>eB args h
 |.bin b=>MZ b args h
 |.eq neg k=>rEq neg k args h
 |.un u=>rUn u args h
 |.conv k=>FQ k args h
 |.s2b=>xL args h
 |.b2s=>xM args h
 |.Rk f n=>Yr f n args h
 |.S7=>Tm args h
 |.O7 es by' z=>Mv es by' z args h
 |.slice k lo hi mx=>Qa k lo hi mx args h
 |.Ft off=>nY off args h
 |.field off n=>fH off n args h
 |.xI n es=>fI n es args h
 |.isl es=>xN es args h
 |.idx n es m=>JK n es m args h
 |.xJ=>lR args h
 |.lookup ks z ok=>H5 ks z ok args h
 |.K1 ks=>Ro ks args h
 |.extract i=>Tn i args h
 |.lens=>FT args h
 |.Pz=>eC args h
 |.P0 n=>eD n args h
 |.lE=>Tp args h
 |.cap=>UJ args h
 |.Nu m=>Yu m args h
 |.append es by'=>O9 es by' args h
 |.copy es=>Tq es args h
 |.Lu=>Rp args h
 |.Qr=>Nx args h
 |.Lv=>Rq args h
 |.nW=>none
 |.FO=>none
 |.bad=>none
inductive Ff where
 |op (o:VOp)
 |call (f:Nat)
 |Kr
 deriving Inhabited
structure B3 where
 dst:EE
 act:Ff
 args:List VX
 guard:Option (Key×Bool)
 deriving Inhabited
inductive Kind where
 |quiet|alloc|effect
 deriving DecidableEq,Inhabited
def VOp.kind:VOp->Kind
 |.Jv _|.box _|.J6 ..|.S7|.O7 ..|.s2b=>.alloc
 |.store _|.K1 _|.append ..|.copy _|.Lu|.Qr|.Lv|.b2s=>.effect
 |_=>.quiet
def Ff.kind:Ff->Kind
 |.op o=>o.kind
 |_=>.effect
structure DOp where
 o:B3
 chk:Nat
 deriving Inhabited
inductive B7 where
 |skip
 |region (ops:List B3)
 |drawn (ops:List DOp)
 |seq (a b:B7)
 |cond (c:VX) (a b:B7)
 |block (id:Nat) (c:B7)
 |loop (c:B7)
 |exit (id:Nat)
 |ret
 deriving Inhabited
inductive Qb where
 |tmp (k:Key)
 |lS (k:Key)
 |lT (k:Key) (n:Nat)
 deriving Inhabited
structure Gq where
 results:List Qb
 body:B7
 deriving Inhabited
inductive Fk where
 |normal|exit (id:Nat)|ret
 deriving DecidableEq,Inhabited
abbrev Fr:=Tr AV
def VX.eval (fr:Fr):VX->Option AV
 |.t k=>fr.get k
 |.c v=>some v
def G7 (fr:Fr):List VX->Option (EA)
 |[]=>some []
 |x::l=>match x.eval fr with
  |some v=>match G7 fr l with
   |some vs=>some (v::vs)
   |none=>none
  |none=>none
def Fp (fr:Fr):EE->AV->Fr
 |some k,v=>fr.upd k (some v)
 |none,_=>fr
def Ht (fr:Fr):Option (Key×Bool)->Option Bool
 |none=>some true
 |some (k,b)=>match fr.get k with
  |some (.v (.s (.bool c)))=>some (c==b)
  |some _=>some false
  |none=>none
abbrev Fg:=Nat->EA->Heap->Option (AV×Heap)
def Ff.run (call:Fg) (a:Ff) (args:EA) (h:Heap):Option (AV×Heap):=
 match a with
 |.op o=>o.run args h
 |.call f=>call f args h
 |.Kr=>match args with
  |.v (.s (.func f fs cs))::xs=>call f (fs.map (λp=>AV.v (.s (.ptr p.1 p.2)))++xs++cs.map (λp=>AV.v (.s (.ptr p.1 p.2)))) h
  |_=>none
def B3.run (call:Fg) (o:B3) (fr:Fr) (h:Heap):Option (Fr×Heap):=
 match Ht fr o.guard with
 |some true=>match G7 fr o.args with
  |some args=>match o.act.run call args h with
   |some (v,h)=>some (Fp fr o.dst v,h)
   |none=>none
  |none=>none
 |some false=>some (Fp fr o.dst .unit,h)
 |none=>none
def G0 (call:Fg):List B3->Fr->Heap->Option (Fr×Heap)
 |[],fr,h=>some (fr,h)
 |o::l,fr,h=>match o.run call fr h with
  |some (fr,h)=>G0 call l fr h
  |none=>none
def Ts:VOp->EA->EE
 |.Fb,.v (.s (.ptr b _))::_=>some b
 |.Fl n,.v (.s (.ptr b _))::_=>if n=0 then none else some b
 |.lookup ..,.v (.s (.map b))::_=>some b
 |.lE,.v (.s (.map b))::_=>some b
 |_,_=>none
def SV.beq (a b:SV):Bool:=decide (a=b)
def AV.beq (a b:AV):Bool:=decide (a=b)
def Lw (o:VOp) (args:EA) (v:AV):List Heap->Bool
 |[]=>true
 |h::l=>(match o.run args h with
  |some (u,_)=>AV.beq u v
  |none=>false)&&Lw o args v l
def outside (lo hi:Key) (o:VOp) (args:EA):Bool:=
 match Ts o args with
 |some b=>Nat.blt b.toNat lo.toNat||Nat.ble hi.toNat b.toNat
 |none=>true
def D4:List DOp->Nat
 |[]=>0
 |d::l=>(if d.o.act.kind=.alloc then 1 else 0)+D4 l
def Fz:Key->Nat->Key
 |k,0=>k
 |k,n+1=>Fz k.succ n
def E8 (call:Fg) (lo hi:Key):List DOp->Key->List Heap->Fr->Heap->Option (Fr×Heap)
 |[],_,_,fr,h=>some (fr,h)
 |d::l,r,A7,fr,h=>
  match d.o.act.kind with
  |.effect=>match d.o.run call fr h with
   |some (fr',h')=>E8 call lo hi l r (A7++[h]) fr' h'
   |none=>none
  |.alloc=>match d.o.run call fr { h with next:=r } with
   |some (fr',h')=>E8 call lo hi l r.succ A7 fr' { h' with next:=h.next }
   |none=>none
  |.quiet=>match Ht fr d.o.guard,d.o.act with
   |some true,.op o=>match G7 fr d.o.args with
    |some args=>match o.run args h with
     |some (v,_)=>
      if outside lo hi o args&&Lw o args v (A7.drop d.chk) then
       E8 call lo hi l r A7 (Fp fr d.o.dst v) h
      else none
     |none=>none
    |none=>none
   |some false,_=>E8 call lo hi l r A7 (Fp fr d.o.dst .unit) h
   |_,_=>none
def K3 (fr:Fr) (h:Heap):Qb->Option CV
 |.tmp k=>match fr.get k with
  |some (.v x)=>some x
  |_=>none
 |.lS k=>match fr.get k with
  |some (.v (.s (.ptr b o)))=>match h.read b o 1 with
   |some [x]=>some (.s x)
   |_=>none
  |_=>none
 |.lT k n=>match fr.get k with
  |some (.v (.s (.ptr b o)))=>match h.read b o n with
   |some l=>some (.agg l)
   |none=>none
  |_=>none
def Im (fr:Fr) (h:Heap):List Qb->Option (List CV)
 |[]=>some []
 |r::l=>match K3 fr h r with
  |some x=>match Im fr h l with
   |some xs=>some (x::xs)
   |none=>none
  |none=>none
def J9:List CV->AV
 |[x]=>.v x
 |l=>.tup l
abbrev D5:=Nat->Option Gq
abbrev Iw:=Nat->Option (EA->Heap->Option (AV×Heap))
def Fh (F:D5) (O:Iw) (ex:B7->Fr->Heap->Option (Fk×Fr×Heap)):Fg:=λf args h=>
 match F f with
 |some vf=>match ex vf.body (Tr.z.G8 0 args) h with
  |some (.exit _,_,_)=>none
  |some (_,fr,h)=>match Im fr h vf.results with
   |some l=>some (J9 l,h)
   |none=>none
  |none=>none
 |none=>match O f with
  |some g=>g args h
  |none=>none
def exec (F:D5) (O:Iw):Nat->B7->Fr->Heap->Option (Fk×Fr×Heap)
 |0,_,_,_=>none
 |n+1,c,fr,h=>match c with
  |.skip=>some (.normal,fr,h)
  |.region ops=>match G0 (Fh F O (exec F O n)) ops fr h with
   |some (fr,h)=>some (.normal,fr,h)
   |none=>none
  |.drawn ops=>
   let hi:=Fz h.next (D4 ops)
   match E8 (Fh F O (exec F O n)) h.next hi ops h.next [] fr { h with next:=hi } with
   |some (fr,h)=>some (.normal,fr,h)
   |none=>none
  |.seq a b=>match exec F O n a fr h with
   |some (.normal,fr,h)=>exec F O n b fr h
   |r=>r
  |.cond c a b=>match c.eval fr with
   |some (.v (.s (.bool true)))=>exec F O n a fr h
   |some (.v (.s (.bool false)))=>exec F O n b fr h
   |_=>none
  |.block id c=>match exec F O n c fr h with
   |some (.exit j,fr,h)=>if j=id then some (.normal,fr,h) else some (.exit j,fr,h)
   |r=>r
  |.loop c=>match exec F O n c fr h with
   |some (.normal,fr,h)=>exec F O n (.loop c) fr h
   |r=>r
  |.exit id=>some (.exit id,fr,h)
  |.ret=>some (.ret,fr,h)
end Go.Vm
end
section
noncomputable section
namespace Go.Pv
open Go.Vm
open Go.Vm.Key (kn)
set_option maxRecDepth 40000
set_option maxHeartbeats 0
inductive PV where
 |bool (b:Bool)
 |int (k:IntKind) (n:Int)
 |str (l:EF)
 |ptr (b:Key) (o:Nat)
 |Iv
 |slice (b:Key) (o len es:Nat) (cap:Option Nat)
 |A4
 |map (b:Key)
 |Ic
 |func (f:Nat) (first cap:List (Key×Nat))
 |J5
 |lst (es:Nat) (l:List (List PV)) (cap:Option Nat)
 |rp (l:List PV)
 |mp (ks vs:List PV)
 deriving Inhabited
inductive PC where
 |s (x:PV)
 |agg (cs:List PV)
 deriving Inhabited
inductive PA where
 |v (x:PC)
 |tup (xs:List PC)
 deriving Inhabited
def PC.cells:PC->List PV
 |.s x=>[x]
 |.agg cs=>cs
namespace PA
abbrev int (k:IntKind) (n:Int):PA:=.v (.s (.int k n))
abbrev bool (b:Bool):PA:=.v (.s (.bool b))
abbrev sv (x:PV):PA:=.v (.s x)
abbrev unit:PA:=.tup []
end PA
inductive Hj where
 |cells (c:List PV)
 |map (l:List (PC×PC))
 |iter (m:Key) (n:Nat) (st:Nat)
 deriving Inhabited
structure B4 where
 body:Hj
 own:Bool
 frz:Bool
 anc:ED
 log:Es
 deriving Inhabited
structure A0 where
 mem:Tr B4
 next:Key
 deriving Inhabited
namespace A0
def empty:A0:=⟨.z,.h⟩
def get (h:A0) (b:Key):Option B4:=h.mem.get b
def upd (h:A0) (b:Key) (x:Option B4):A0:={ h with mem:=h.mem.upd b x }
def E3 (h:A0):ED->A0
 |[]=>h
 |b::l=>(h.upd b none).E3 l
def Fu (h:A0) (body:Hj) (own:Bool) (anc:ED):A0:=
 { mem:=h.mem.upd h.next (some ⟨body,own,false,anc,[]⟩),next:=h.next.succ }
def new (h:A0) (body:Hj):A0:=h.Fu body true []
def Xe (h:A0):ED->Bool
 |[]=>false
 |b::l=>(match h.get b with
  |some x=>x.frz
  |none=>false)||h.Xe l
def cells (h:A0) (b:Key):Option (List PV):=
 match h.get b with
 |some ⟨.cells c,_,_,_,_⟩=>some c
 |_=>none
def read (h:A0) (b:Key) (o n:Nat):Option (List PV):=
 if n=0 then some [] else
 match h.cells b with
 |some c=>if o+n<=c.length then some ((c.drop o).take n) else none
 |none=>none
def over (c:List PV) (o:Nat) (l:List PV):List PV:=c.take o++l++c.drop (o+l.length)
def write (h:A0) (b:Key) (o:Nat) (l:List PV):Option A0:=
 match h.get b with
 |some ⟨.cells c,true,false,anc,log⟩=>
  if o+l.length<=c.length/\h.Xe anc=false then
   some ((h.E3 anc).upd b (some ⟨.cells (over c o l),true,false,[],(o,l.length)::log⟩)) else none
 |_=>none
def copied (c:List PV) (o k:Nat) (new:List PV):Option Hj:=
 if o+k<=c.length then some (.cells ((c.drop o).take k++new)) else none
def renew (h:A0) (b:Key) (o k:Nat) (new:List PV):Option (Key×A0):=
 if k=0 then some (h.next,h.new (.cells new)) else
 match h.cells b with
 |some c=>match copied c o k new with
  |some body=>some (h.next,h.new body)
  |none=>none
 |none=>none
def grow (h:A0) (b:Key) (o k:Nat) (new:List PV):Option (Key×A0):=
 match h.get b with
 |some ⟨.cells c,true,frz,anc,log⟩=>
  match copied c o k new with
  |some body=>
   if o+k=c.length then some (h.next,(h.upd b (some ⟨.cells c,false,frz,anc,log⟩)).Fu body true (b::anc))
   else if frz=false/\h.Xe anc=false then some (h.next,((h.E3 anc).upd b none).Fu body true [])
   else none
  |none=>none
 |_=>none
end A0
def Rr:SV->Option PV
 |.bool b=>some (.bool b)
 |.int k n=>some (.int k n)
 |.str l=>some (.str l)
 |.Iv=>some .Iv
 |.A4=>some .A4
 |.Ic=>some .Ic
 |.J5=>some .J5
 |.func f [] []=>some (.func f [] [])
 |_=>none
def Ny:EB->Option (List PV)
 |[]=>some []
 |x::l=>match Rr x with
  |some y=>match Ny l with
   |some ys=>some (y::ys)
   |none=>none
  |none=>none
def lF:CV->Option PC
 |.s x=>match Rr x with
  |some y=>some (.s y)
  |none=>none
 |.agg cs=>match Ny cs with
  |some l=>some (.agg l)
  |none=>none
def JL:AV->Option PA
 |.v x=>match lF x with
  |some y=>some (.v y)
  |none=>none
 |.tup _=>none
def toSV:PV->Option SV
 |.bool b=>some (.bool b)
 |.int k n=>some (.int k n)
 |.str l=>some (.str l)
 |_=>none
def toSVs:List PV->Option (EB)
 |[]=>some []
 |x::l=>match toSV x with
  |some y=>match toSVs l with
   |some ys=>some (y::ys)
   |none=>none
  |none=>none
def toCV:PC->Option CV
 |.s x=>match toSV x with
  |some y=>some (.s y)
  |none=>none
 |.agg cs=>match toSVs cs with
  |some l=>some (.agg l)
  |none=>none
def dS (b:BinOp) (x y:PV):Option PV:=
 match x,y with
 |.int k a,.int k' c=>match(if O8 b then fF b k a c else if k=k' then Rn b k a c else none) with
  |some s=>Rr s
  |none=>none
 |.str a,.str c=>match nX b a c with
  |some s=>Rr s
  |none=>none
 |_,_=>none
def unP (u:UnOp) (x:PV):Option PV:=
 match toSV x with
 |some s=>match UI u s with
  |some r=>Rr r
  |none=>none
 |none=>none
def eqP (k:EqK) (x y:PC):Option Bool:=
 match k,x,y with
 |.bool,.s (.bool a),.s (.bool b)=>some (a==b)
 |.ptr,.s .Iv,.s .Iv=>some true
 |.ptr,.s .Iv,.s (.ptr _ _)=>some false
 |.ptr,.s (.ptr _ _),.s .Iv=>some false
 |.ptr,.s .Iv,.s (.rp _)=>some false
 |.ptr,.s (.rp _),.s .Iv=>some false
 |.slice,.s .A4,.s .A4=>some true
 |.slice,.s .A4,.s (.slice ..)=>some false
 |.slice,.s (.slice ..),.s .A4=>some false
 |.slice,.s .A4,.s (.lst ..)=>some false
 |.slice,.s (.lst ..),.s .A4=>some false
 |.map,.s .Ic,.s .Ic=>some true
 |.map,.s .Ic,.s (.map _)=>some false
 |.map,.s (.map _),.s .Ic=>some false
 |.func,.s .J5,.s .J5=>some true
 |.func,.s .J5,.s (.func ..)=>some false
 |.func,.s (.func ..),.s .J5=>some false
 |.agg ks,.agg a,.agg b=>match toSVs a,toSVs b with
  |some a,some b=>Fc ks a b
  |_,_=>none
 |_,_,_=>none
def dU:List PV->Es->List PA->Option (List PV)
 |cs,[],[]=>some cs
 |cs,(o,n)::ps,.v x::xs=>
  if x.cells.length=n/\o+n<=cs.length then dU (A0.over cs o x.cells) ps xs else none
 |_,_,_=>none
def M8 (zero:List PV):Nat->List PV
 |0=>[]
 |n+1=>zero++M8 zero n
def cJ (cs:List PV) (o:Nat):Option Nat->Option PC
 |none=>match cs[o]? with
  |some x=>some (.s x)
  |none=>none
 |some n=>if o+n<=cs.length then some (.agg ((cs.drop o).take n)) else none
def sN:List PA->Option (List (Key×Nat))
 |[]=>some []
 |.v (.s (.ptr b o))::l=>match sN l with
  |some r=>some ((b,o)::r)
  |none=>none
 |_=>none
def Io (ks:Lp) (k:PC):Bool:=
 match ks,k with
 |.one _,.s _=>true
 |.agg l,.agg cs=>cs.length==l.length
 |_,_=>false
def S8 (ks:Lp) (x y:PC):Option Bool:=
 match toCV x,toCV y with
 |some a,some b=>sL ks a b
 |_,_=>none
def Tt (ks:Lp) (k:PC):List (PC×PC)->Option (Option PC)
 |[]=>some none
 |(x,v)::l=>match S8 ks k x with
  |some true=>some (some v)
  |some false=>Tt ks k l
  |none=>none
def aN (ks:Lp) (k v:PC):List (PC×PC)->Option (List (PC×PC))
 |[]=>some [(k,v)]
 |(x,u)::l=>match S8 ks k x with
  |some true=>some ((x,v)::l)
  |some false=>match aN ks k v l with
   |some r=>some ((x,u)::r)
   |none=>none
  |none=>none
def xO:Bool->List PA->Option (Option Int×List PA)
 |false,xs=>some (none,xs)
 |true,.v (.s (.int _ n))::xs=>some (some n,xs)
 |true,_=>none
def NA (lo hi mx:Bool) (xs:List PA):Option (Option Int×Option Int×Option Int):=
 match xO lo xs with
 |some (a,xs)=>match xO hi xs with
  |some (b,xs)=>match xO mx xs with
   |some (c,[])=>some (a,b,c)
   |_=>none
  |none=>none
 |none=>none
def Vo (isMax:Bool) (k:IntKind) (x:Int):List PA->Option PV
 |[]=>some (.int k x)
 |.v (.s (.int _ y))::l=>Vo isMax k (if isMax then(if y>x then y else x) else(if y<x then y else x)) l
 |_=>none
def Yv (h:A0) (es:Nat):PV->Option (List PV×Nat)
 |.A4=>some ([],0)
 |.slice b o len es' _=>if es=es' then(match h.read b o (len*es) with
  |some l=>some (l,len)
  |none=>none) else none
 |.lst es' l _=>if es=es' then some (l.flatten,l.length) else none
 |.str l=>if es=1 then some (l.map (λn=>PV.int .u8 (n:Nat)),l.length) else none
 |_=>none
def Ng (h:A0) (es bytes:Nat) (s:PV) (new:List PV) (n:Nat):Option (PV×A0):=
 match s with
 |.A4=>
  if n=0 then some (.A4,h) else
  if room n bytes then some (.slice h.next 0 n es none,h.new (.cells new)) else none
 |.slice b o len es' cap=>
  if es=es' then
   if n=0 then some (s,h) else
   match cap with
   |some c=>
    if len+n<=c then
     match h.write b (o+len*es) new with
     |some h=>some (.slice b o (len+n) es (some c),h)
     |none=>none
    else if room (len+n) bytes then
     match h.renew b o (len*es) new with
     |some (b,h)=>some (.slice b 0 (len+n) es none,h)
     |none=>none
    else none
   |none=>
    if room (len+n) bytes then
     match h.grow b o (len*es) new with
     |some (b,h)=>some (.slice b 0 (len+n) es none,h)
     |none=>none
    else none
  else none
 |.lst es' l cap=>
  if es=es' then
   if n=0 then some (s,h) else
   match cap with
   |some c=>
    if l.length+n<=c then none
    else if room (l.length+n) bytes then some (.slice h.next 0 (l.length+n) es none,h.new (.cells (l.flatten++new)))
    else none
   |none=>none
  else none
 |_=>none
def Rs (i:Nat) (cap:Option Nat):Option Int->Option Nat
 |some m=>some (m.toNat-i)
 |none=>match cap with
  |some c=>some (c-i)
  |none=>none
def K4 (n:Nat):Option Nat->Bool
 |some c=>Nat.ble n c
 |none=>true
def Lx (es:Nat) (x:PV) (bs:Option Int×Option Int×Option Int):Option PV:=
 match x with
 |.A4=>match bounds 0 (some 0) bs with
  |some _=>some .A4
  |none=>none
 |.slice b o len es' cap=>if es=es' then(match bounds len cap bs with
  |some (l,n,c)=>some (.slice b (o+l*es) n es c)
  |none=>none) else none
 |.lst es' l cap=>if es=es' then(match bounds l.length none bs with
  |some (i,n,_)=>if K4 n (Rs i cap bs.2.2) then some (.lst es ((l.drop i).take n) (Rs i cap bs.2.2)) else none
  |none=>none) else none
 |_=>none
abbrev PR:=Option (PA×A0)
def noP (h:A0):Option PC->PR
 |some x=>some (.v x,h)
 |none=>none
def Hv (h:A0):Option PV->PR
 |some x=>some (.v (.s x),h)
 |none=>none
def UK:List PA->A0->PR
 |[x],h=>some (x,h)
 |_,_=>none
def FU:List PA->A0->PR
 |[.v (.s (.bool c)),a,b],h=>some (if c then a else b,h)
 |_,_=>none
def lU (zs:EB):List PA->A0->PR
 |[],h=>match Ny zs with
  |some l=>some (.v (.s (.ptr h.next 0)),h.new (.cells l))
  |none=>none
 |_,_=>none
def JM (n:Nat):List PA->A0->PR
 |[.v x],h=>if x.cells.length=n then some (.v (.s (.ptr h.next 0)),h.new (.cells x.cells)) else none
 |_,_=>none
def fJ (zero:EB) (places:Es) (xs:List PA) (h:A0):PR:=
 match Ny zero with
 |some z=>match dU z places xs with
  |some cs=>some (.v (.agg cs),h)
  |none=>none
 |none=>none
def Vp (es len:Nat) (zero:EB) (places:Es) (xs:List PA) (h:A0):PR:=
 match Ny zero with
 |some z=>match dU (M8 z len) places xs with
  |some cs=>some (.v (.s (.slice h.next 0 len es (some len))),h.new (.cells cs))
  |none=>none
 |none=>none
def Qc:List PA->A0->PR
 |[.v (.s (.ptr b o))],h=>match h.read b o 1 with
  |some [x]=>some (.v (.s x),h)
  |_=>none
 |[.v (.s (.rp (x::_)))],h=>some (.v (.s x),h)
 |_,_=>none
def Km (n:Nat):List PA->A0->PR
 |[.v (.s (.ptr b o))],h=>match h.read b o n with
  |some l=>some (.v (.agg l),h)
  |none=>none
 |[.v (.s (.rp l))],h=>if n<=l.length then some (.v (.agg (l.take n)),h) else none
 |_,_=>none
def Qd (n:Nat):List PA->A0->PR
 |[.v (.s (.ptr b o)),.v x],h=>if x.cells.length=n then
   (match h.write b o x.cells with
   |some h=>some (.unit,h)
   |none=>none) else none
 |_,_=>none
def Pb:List PA->A0->PR
 |[.v (.s (.ptr b o))],h=>some (.v (.s (.ptr b o)),h)
 |[.v (.s (.rp l))],h=>some (.v (.s (.rp l)),h)
 |[.v (.s (.func f fs cs))],h=>some (.v (.s (.func f fs cs)),h)
 |_,_=>none
def Td (b:BinOp):List PA->A0->PR
 |[.v (.s x),.v (.s y)],h=>Hv h (dS b x y)
 |_,_=>none
def pEq (neg:Bool) (k:EqK):List PA->A0->PR
 |[.v x,.v y],h=>match eqP k x y with
  |some r=>some (.v (.s (.bool (r !=neg))),h)
  |none=>none
 |_,_=>none
def pUn (u:UnOp):List PA->A0->PR
 |[.v (.s x)],h=>Hv h (unP u x)
 |_,_=>none
def FV (k:IntKind):List PA->A0->PR
 |[.v (.s (.int _ n))],h=>some (.v (.s (.int k (k.wrap n))),h)
 |_,_=>none
def Aau:List PA->A0->PR
 |[.v (.s (.str l))],h=>if room l.length 1 then
   some (.v (.s (.slice h.next 0 l.length 1 none)),h.Fu (.cells (l.map (λn=>PV.int .u8 (n:Nat)))) false []) else none
 |_,_=>none
def ZC:PV->Option Nat
 |.int .u8 n=>if 0<=n/\n<256 then some n.toNat else none
 |_=>none
def fK:List PV->Option (EF)
 |[]=>some []
 |x::l=>match ZC x,fK l with
  |some n,some r=>some (n::r)
  |_,_=>none
def Aav:List PA->A0->PR
 |[.v (.s (.slice b o len es c))],h=>match Yv h 1 (.slice b o len es c) with
  |some (l,_)=>match fK l with
   |some l=>some (.v (.s (.str l)),h)
   |none=>none
  |none=>none
 |[.v (.s (.lst es l c))],h=>match Yv h 1 (.lst es l c) with
  |some (l,_)=>match fK l with
   |some l=>some (.v (.s (.str l)),h)
   |none=>none
  |none=>none
 |[.v (.s .A4)],h=>some (.v (.s (.str [])),h)
 |_,_=>none
def Yw (f n:Nat) (xs:List PA) (h:A0):PR:=
 match sN xs with
 |some l=>some (.v (.s (.func f (l.take n) (l.drop n))),h)
 |none=>none
def xP:List PA->A0->PR
 |[],h=>some (.v (.s (.map h.next)),h.new (.map []))
 |[.v (.s (.int _ _))],h=>some (.v (.s (.map h.next)),h.new (.map []))
 |_,_=>none
def Tu (es bytes:Nat) (zero:EB):List PA->A0->PR
 |[.v (.s (.int _ l)),.v (.s (.int _ c))],h=>
  match Ny zero with
  |some z=>
   if 0<=l/\l<=c/\c<=1099511627776/\Nat.ble (bytes*c.toNat) 281474976710656 then
    some (.v (.s (.slice h.next 0 l.toNat es (some c.toNat))),h.new (.cells (M8 z c.toNat))) else none
  |none=>none
 |_,_=>none
def aO (k:SlK) (lo hi mx:Bool):List PA->A0->PR
 |x::xs,h=>match NA lo hi mx xs with
  |some bs=>match k,x with
   |.str,.v (.s (.str l))=>if mx then none else(match bounds l.length (some l.length) bs with
    |some (a,b,_)=>some (.v (.s (.str ((l.drop a).take b))),h)
    |none=>none)
   |.slice es,.v (.s x)=>Hv h (Lx es x bs)
   |.arr n es,.v (.s (.ptr b o))=>Hv h (Lx es (.slice b o n es (some n)) bs)
   |_,_=>none
  |none=>none
 |_,_=>none
def Xf (off:Nat):List PA->A0->PR
 |[.v (.s (.ptr b o))],h=>some (.v (.s (.ptr b (o+off))),h)
 |[.v (.s (.rp l))],h=>if off<=l.length then some (.v (.s (.rp (l.drop off))),h) else none
 |_,_=>none
def aP (off:Nat) (n:Option Nat):List PA->A0->PR
 |[.v (.agg cs)],h=>noP h (cJ cs off n)
 |_,_=>none
def FW (n es:Nat):List PA->A0->PR
 |[.v (.s (.ptr b o)),.v (.s (.int _ i))],h=>if 0<=i/\i<(n:Int) then some (.v (.s (.ptr b (o+i.toNat*es))),h) else none
 |[.v (.s (.rp l)),.v (.s (.int _ i))],h=>if 0<=i/\i<(n:Int)/\i.toNat*es<=l.length then some (.v (.s (.rp (l.drop (i.toNat*es)))),h) else none
 |_,_=>none
def nZ (es:Nat):List PA->A0->PR
 |[.v (.s (.slice b o len es' _)),.v (.s (.int _ i))],h=>if es=es'/\0<=i/\i<(len:Int) then some (.v (.s (.ptr b (o+i.toNat*es))),h) else none
 |[.v (.s (.lst es' l _)),.v (.s (.int _ i))],h=>if es=es'/\0<=i then(match l[i.toNat]? with
   |some e=>some (.v (.s (.rp e)),h)
   |none=>none) else none
 |_,_=>none
def UL (n es:Nat) (m:Option Nat):List PA->A0->PR
 |[.v (.agg cs),.v (.s (.int _ i))],h=>if 0<=i/\i<(n:Int) then noP h (cJ cs (i.toNat*es) m) else none
 |_,_=>none
def FX:List PA->A0->PR
 |[.v (.s (.str l)),.v (.s (.int _ i))],h=>if 0<=i then(match l[i.toNat]? with
   |some n=>some (.v (.s (.int .u8 (n:Nat))),h)
   |none=>none) else none
 |_,_=>none
def mpE:List PV->List PV->List (PC×PC)
 |k::ks,v::vs=>(.s k,.s v)::mpE ks vs
 |_,_=>[]
def Ik (ks:Lp) (zero:CV) (ok:Bool):List PA->A0->PR
 |[.v (.s .Ic),.v k],h=>match lF zero with
  |some z=>if Io ks k then some (if ok then .tup [z,.s (.bool false)] else .v z,h) else none
  |none=>none
 |[.v (.s (.map b)),.v k],h=>match lF zero with
  |some z=>if Io ks k then(match h.get b with
   |some ⟨.map l,_,_,_,_⟩=>match Tt ks k l with
    |some r=>some (if ok then .tup [r.getD z,.s (.bool r.isSome)] else .v (r.getD z),h)
    |none=>none
   |_=>none) else none
  |none=>none
 |[.v (.s (.mp a b)),.v k],h=>match lF zero with
  |some z=>if Io ks k then(match Tt ks k (mpE a b) with
   |some r=>some (if ok then .tup [r.getD z,.s (.bool r.isSome)] else .v (r.getD z),h)
   |none=>none) else none
  |none=>none
 |_,_=>none
def Nh (ks:Lp):List PA->A0->PR
 |[.v (.s (.map b)),.v k,.v v],h=>if Io ks k then(match h.get b with
  |some ⟨.map l,true,false,[],log⟩=>match aN ks k v l with
   |some l=>some (.unit,h.upd b (some ⟨.map l,true,false,[],(0,0)::log⟩))
   |none=>none
  |_=>none) else none
 |_,_=>none
def Nz (i:Nat):List PA->A0->PR
 |[.tup xs],h=>noP h xs[i]?
 |_,_=>none
def sO:List PA->A0->PR
 |[.v (.s (.slice _ _ len _ _))],h=>some (.int .i64 (len:Nat),h)
 |[.v (.s (.lst _ l _))],h=>some (.int .i64 (l.length:Nat),h)
 |[.v (.s .A4)],h=>some (.int .i64 (0:Nat),h)
 |_,_=>none
def eE:List PA->A0->PR
 |[.v (.s (.str l))],h=>some (.int .i64 (l.length:Nat),h)
 |_,_=>none
def eG (n:Nat):List PA->A0->PR
 |[_],h=>some (.int .i64 (n:Nat),h)
 |_,_=>none
def lV:List PA->A0->PR
 |[.v (.s .Ic)],h=>some (.int .i64 (0:Nat),h)
 |[.v (.s (.map b))],h=>match h.get b with
  |some ⟨.map l,_,_,_,_⟩=>some (.int .i64 (l.length:Nat),h)
  |_=>none
 |_,_=>none
def UM:List PA->A0->PR
 |[.v (.s (.slice _ _ _ _ (some c)))],h=>some (.int .i64 (c:Nat),h)
 |[.v (.s (.lst _ _ (some c)))],h=>some (.int .i64 (c:Nat),h)
 |[.v (.s .A4)],h=>some (.int .i64 (0:Nat),h)
 |_,_=>none
def Y0 (m:Bool):List PA->A0->PR
 |.v (.s (.int k x))::xs,h=>Hv h (Vo m k x xs)
 |_,_=>none
def Hu (es bytes:Nat):List PA->A0->PR
 |[.v (.s s),.v (.s x)],h=>match Yv h es x with
  |some (new,n)=>match Ng h es bytes s new n with
   |some (s,h)=>some (.v (.s s),h)
   |none=>none
  |none=>none
 |_,_=>none
def NB (es:Nat):List PA->A0->PR
 |[.v (.s d),.v (.s x)],h=>match Yv h es x with
  |some (src,n)=>match d with
   |.A4=>some (.int .i64 (0:Nat),h)
   |.slice b o len es' _=>if es=es' then
     (if min n len=0 then some (.int .i64 (0:Nat),h) else
     match h.write b o (src.take (min n len*es)) with
     |some h=>some (.int .i64 (min n len:Nat),h)
     |none=>none) else none
   |_=>none
  |none=>none
 |_,_=>none
def oA:List PA->A0->PR
 |[.v (.s (.map b))],h=>match h.get b with
  |some ⟨.map l,_,_,_,_⟩=>if l.length<=1 then some (.v (.s (.ptr h.next 0)),h.new (.iter b l.length 0)) else none
  |_=>none
 |_,_=>none
def xQ:List PA->A0->PR
 |[.v (.s (.ptr i 0))],h=>match h.get i with
  |some ⟨.iter b n st,true,false,[],log⟩=>match h.get b with
   |some ⟨.map l,_,_,_,_⟩=>if l.length=n then(match st,l with
    |0,[(k,v)]=>some (.tup [.s (.bool true),k,v],h.upd i (some ⟨.iter b n 1,true,false,[],(0,0)::log⟩))
    |0,[]=>some (.tup [.s (.bool false)],h)
    |_+1,[_]=>some (.tup [.s (.bool false)],h)
    |_,_=>none) else none
   |_=>none
  |_=>none
 |_,_=>none
def oD:List PA->A0->PR
 |[.v (.s (.ptr i 0))],h=>match h.get i with
  |some ⟨.iter b n 1,_,_,_,_⟩=>match h.get b with
   |some ⟨.map [(k,v)],_,_,_,_⟩=>if n=1 then some (.tup [k,v],h) else none
   |_=>none
  |_=>none
 |_,_=>none
def opP (op:VOp) (args:List PA) (h:A0):PR:=
 match op with
 |.mov=>UK args h
 |.pick=>FU args h
 |.Jv zs=>lU zs args h
 |.box n=>JM n args h
 |.build z p=>fJ z p args h
 |.J6 es len z p=>Vp es len z p args h
 |.Fb=>Qc args h
 |.Fl n=>Km n args h
 |.store n=>Qd n args h
 |.J7=>Pb args h
 |.bin b=>Td b args h
 |.eq neg k=>pEq neg k args h
 |.un u=>pUn u args h
 |.conv k=>FV k args h
 |.s2b=>Aau args h
 |.b2s=>Aav args h
 |.Rk f n=>Yw f n args h
 |.S7=>xP args h
 |.O7 es by' z=>Tu es by' z args h
 |.slice k lo hi mx=>aO k lo hi mx args h
 |.Ft off=>Xf off args h
 |.field off n=>aP off n args h
 |.xI n es=>FW n es args h
 |.isl es=>nZ es args h
 |.idx n es m=>UL n es m args h
 |.xJ=>FX args h
 |.lookup ks z ok=>Ik ks z ok args h
 |.K1 ks=>Nh ks args h
 |.extract i=>Nz i args h
 |.lens=>sO args h
 |.Pz=>eE args h
 |.P0 n=>eG n args h
 |.lE=>lV args h
 |.cap=>UM args h
 |.Nu m=>Y0 m args h
 |.append es by'=>Hu es by' args h
 |.copy es=>NB es args h
 |.Lu=>oA args h
 |.Qr=>xQ args h
 |.Lv=>oD args h
 |.nW=>none
 |.FO=>none
 |.bad=>none
end Go.Pv
end
abbrev Et:=List (Nat×Go.Pv.PV)
abbrev Eu:=List (List Go.Pv.PV)
abbrev Ey:=List Go.Pv.PV
abbrev Ez:=List Go.Pv.PA
section
noncomputable section
namespace Go.Pv
open Go.Vm
open Go.Vm.Key (kn)
set_option maxRecDepth 40000
set_option maxHeartbeats 0
abbrev PFr:=Tr PA
def Tv (fr:PFr):VX->Option PA
 |.t k=>fr.get k
 |.c v=>JL v
def Ip (fr:PFr):List VX->Option (Ez)
 |[]=>some []
 |x::l=>match Tv fr x with
  |some v=>match Ip fr l with
   |some vs=>some (v::vs)
   |none=>none
  |none=>none
def O4 (fr:PFr):EE->PA->PFr
 |some k,v=>fr.upd k (some v)
 |none,_=>fr
def Hf (fr:PFr):Option (Key×Bool)->Option Bool
 |none=>some true
 |some (k,b)=>match fr.get k with
  |some (.v (.s (.bool c)))=>some (c==b)
  |some _=>some false
  |none=>none
abbrev Jw:=Nat->Ez->A0->Option (PA×A0)
def Y1 (l:List (Key×Nat)):Ez:=l.map λp=>PA.v (.s (.ptr p.1 p.2))
def sP (call:Jw) (a:Ff) (args:Ez) (h:A0):Option (PA×A0):=
 match a with
 |.op o=>opP o args h
 |.call f=>call f args h
 |.Kr=>match args with
  |.v (.s (.func f fs cs))::xs=>call f (Y1 fs++xs++Y1 cs) h
  |_=>none
def Pc (call:Jw) (o:B3) (fr:PFr) (h:A0):Option (PFr×A0):=
 match Hf fr o.guard with
 |some true=>match Ip fr o.args with
  |some args=>match sP call o.act args h with
   |some (v,h)=>some (O4 fr o.dst v,h)
   |none=>none
  |none=>none
 |some false=>some (O4 fr o.dst .unit,h)
 |none=>none
def xR (call:Jw):List B3->PFr->A0->Option (PFr×A0)
 |[],fr,h=>some (fr,h)
 |o::l,fr,h=>match Pc call o fr h with
  |some (fr,h)=>xR call l fr h
  |none=>none
def rdP:VOp->Ez->Option (Key×Option (Nat×Nat))
 |.Fb,.v (.s (.ptr b o))::_=>some (b,some (o,1))
 |.Fl n,.v (.s (.ptr b o))::_=>if n=0 then none else some (b,some (o,n))
 |.lookup ..,.v (.s (.map b))::_=>some (b,none)
 |.lE,.v (.s (.map b))::_=>some (b,none)
 |_,_=>none
def rdF:VOp->Ez->Bool
 |.Fb,.v (.s (.rp _))::_=>true
 |.Fl _,.v (.s (.rp _))::_=>true
 |.lookup ..,.v (.s (.mp _ _))::_=>true
 |_,_=>false
def Qg:VOp->Bool
 |.mov|.pick|.build ..|.J7|.bin _|.eq ..|.un _|.conv _|.Rk ..|.slice ..|.Ft _|.field ..|.xI ..|.isl _|.idx ..|.xJ
 |.extract _|.lens|.Pz|.P0 _|.cap|.Nu _|.nW|.FO|.bad=>true
 |_=>false
abbrev Hp:=List (A0×ED)
def Oa (ws:ED):List VX->Bool
 |[]=>true
 |.t k::l=>!ws.contains k&&Oa ws l
 |.c _::l=>Oa ws l
def Tx (o n:Nat):Es->Bool
 |[]=>true
 |(p,m)::l=>(Nat.ble (p+m) o||Nat.ble (o+n) p)&&Tx o n l
def Rt (rd:Option (Key×Option (Nat×Nat))) (g h:A0):Bool:=
 match rd with
 |some (b,r)=>(match g.get b,h.get b with
  |some x,some y=>(match r with
   |some (o,n)=>Tx o n (y.log.take (y.log.length-x.log.length))
   |none=>Nat.beq y.log.length x.log.length)
  |_,_=>false)
 |none=>true
def Pd (xs:List VX) (rd:Option (Key×Option (Nat×Nat))) (rf:Bool) (h:A0):Hp->Bool
 |[]=>true
 |(g,ws)::l=>(!rf||Oa ws xs)&&Rt rd g h&&Pd xs rd rf h l
def wrote (d:EE) (s:Hp):Hp:=
 match d with
 |some k=>s.map λp=>(p.1,k::p.2)
 |none=>s
def Ob (d:EE) (xs:List VX) (rd:Option (Key×Option (Nat×Nat))) (h:A0):Hp->Hp
 |[]=>[]
 |(g,ws)::l=>(g,match d with
  |some k=>if Oa ws xs&&Rt rd g h then ws else k::ws
  |none=>ws)::Ob d xs rd h l
def H6 (lo hi:Key):Option (Key×Option (Nat×Nat))->Bool
 |some (b,_)=>Nat.blt b.toNat lo.toNat||Nat.ble hi.toNat b.toNat
 |none=>true
def S9 (h:A0):Key->Nat->Bool
 |_,0=>true
 |k,n+1=>(match h.get k with
  |some x=>!x.frz
  |none=>true)&&S9 h k.succ n
def Hm (call:Jw) (lo hi:Key) (n:Nat):List DOp->Key->Hp->PFr->A0->Option (PFr×A0)
 |[],_,_,fr,h=>some (fr,h)
 |d::l,r,A7,fr,h=>
  match d.o.act.kind with
  |.effect=>match Pc call d.o fr h with
   |some (fr',h')=>Hm call lo hi n l r (wrote d.o.dst (A7++[(h,[])])) fr' h'
   |none=>none
  |.alloc=>match Pc call d.o fr { h with next:=r } with
   |some (fr',h')=>Hm call lo hi n l r.succ (wrote d.o.dst A7) fr' { h' with next:=h.next }
   |none=>none
  |.quiet=>match Hf fr d.o.guard,d.o.act with
   |some true,.op o=>match Ip fr d.o.args with
    |some args=>match opP o args h with
     |some (v,_)=>
      if H6 lo hi (rdP o args)&&(!rdF o args||S9 h lo n)&&Pd d.o.args (rdP o args) (rdF o args) h (A7.drop d.chk) then
       Hm call lo hi n l r (Ob d.o.dst d.o.args (rdP o args) h A7) (O4 fr d.o.dst v) h
      else none
     |none=>none
    |none=>none
   |some false,_=>Hm call lo hi n l r A7 (O4 fr d.o.dst .unit) h
   |_,_=>none
def K5 (fr:PFr) (h:A0):Qb->Option PC
 |.tmp k=>match fr.get k with
  |some (.v x)=>some x
  |_=>none
 |.lS k=>match fr.get k with
  |some (.v (.s (.ptr b o)))=>match h.read b o 1 with
   |some [x]=>some (.s x)
   |_=>none
  |_=>none
 |.lT k n=>match fr.get k with
  |some (.v (.s (.ptr b o)))=>match h.read b o n with
   |some l=>some (.agg l)
   |none=>none
  |_=>none
def Jm (fr:PFr) (h:A0):List Qb->Option (List PC)
 |[]=>some []
 |r::l=>match K5 fr h r with
  |some x=>match Jm fr h l with
   |some xs=>some (x::xs)
   |none=>none
  |none=>none
def G3:List PC->PA
 |[x]=>.v x
 |l=>.tup l
def chunk (es:Nat):Nat->Ey->Eu
 |0,_=>[]
 |n+1,l=>l.take es::chunk es n (l.drop es)
def Kz:Nat->PV->A0->Option (PV×A0)
 |0,_,_=>none
 |n+1,v,h=>match v with
  |.bool b=>some (.bool b,h)
  |.int k x=>some (.int k x,h)
  |.str l=>some (.str l,h)
  |.Iv=>some (.Iv,h)
  |.A4=>some (.A4,h)
  |.Ic=>some (.Ic,h)
  |.J5=>some (.J5,h)
  |.func f [] []=>some (.func f [] [],h)
  |.lst es l _=>some (.lst es l none,h)
  |.rp l=>some (.rp l,h)
  |.mp ks vs=>some (.mp ks vs,h)
  |.slice b o len es cap=>
   if K4 len cap=false then none else
   if len*es=0 then some (.lst es (chunk es len []) none,h) else
   match h.get b with
   |some ⟨.cells c,own,frz,anc,log⟩=>
    if o+len*es<=c.length then
     match cK (Kz n) ((c.drop o).take (len*es)) (if frz then h else h.upd b (some ⟨.cells c,own,true,anc,log⟩)) with
     |some (l,h)=>some (.lst es (chunk es len l) none,h)
     |none=>none
    else none
   |_=>none
  |_=>none
where
 cK (f:PV->A0->Option (PV×A0)):Ey->A0->Option (Ey×A0)
  |[],h=>some ([],h)
  |x::l,h=>match f x h with
   |some (y,h)=>match cK f l h with
    |some (ys,h)=>some (y::ys,h)
    |none=>none
   |none=>none
def aQ (n:Nat) (v:PC) (h:A0):Option (PC×A0):=
 match v with
 |.s x=>match Kz n x h with
  |some (y,h)=>some (.s y,h)
  |none=>none
 |.agg cs=>match Kz.cK (Kz n) cs h with
  |some (l,h)=>some (.agg l,h)
  |none=>none
def Wo (n:Nat):List PC->A0->Option (List PC×A0)
 |[],h=>some ([],h)
 |x::l,h=>match aQ n x h with
  |some (y,h)=>match Wo n l h with
   |some (ys,h)=>some (y::ys,h)
   |none=>none
  |none=>none
def G4 (n:Nat) (v:PA) (h:A0):Option (PA×A0):=
 match v with
 |.v x=>match aQ n x h with
  |some (y,h)=>some (.v y,h)
  |none=>none
 |.tup xs=>match Wo n xs h with
  |some (ys,h)=>some (.tup ys,h)
  |none=>none
def Fw (n:Nat):Ez->A0->Option (Ez×A0)
 |[],h=>some ([],h)
 |x::l,h=>match G4 n x h with
  |some (y,h)=>match Fw n l h with
   |some (ys,h)=>some (y::ys,h)
   |none=>none
  |none=>none
def deep:Nat:=40
structure Y2 where
 pure:Nat->Bool
 ans:Nat->Ez->Option PA
def fL (F:D5) (ex:B7->PFr->A0->Option (Fk×PFr×A0)):Jw:=λf args h=>
 match F f with
 |some vf=>match ex vf.body (Tr.z.G8 0 args) h with
  |some (.exit _,_,_)=>none
  |some (_,fr,h)=>match Jm fr h vf.results with
   |some l=>some (G3 l,h)
   |none=>none
  |none=>none
 |none=>none
def aR (F:D5) (ex:B7->PFr->A0->Option (Fk×PFr×A0)) (f:Nat) (xs:Ez):Option PA:=
 match fL F ex f xs .empty with
 |some (r,g)=>match G4 deep r g with
  |some (r,_)=>some r
  |none=>none
 |none=>none
def Wp (F:D5) (K:Y2) (ex:B7->PFr->A0->Option (Fk×PFr×A0)):Jw:=λf args h=>
 if K.pure f then
  match Fw deep args h with
  |some (xs,h)=>match K.ans f xs with
   |some r=>some (r,h)
   |none=>match aR F ex f xs with
    |some r=>some (r,h)
    |none=>none
  |none=>none
 else fL F ex f args h
def Hy (F:D5) (K:Y2):Nat->B7->PFr->A0->Option (Fk×PFr×A0)
 |0,_,_,_=>none
 |n+1,c,fr,h=>match c with
  |.skip=>some (.normal,fr,h)
  |.region ops=>match xR (Wp F K (Hy F K n)) ops fr h with
   |some (fr,h)=>some (.normal,fr,h)
   |none=>none
  |.drawn ops=>
   match Hm (Wp F K (Hy F K n)) h.next (Fz h.next (D4 ops)) (D4 ops) ops h.next [] fr { h with next:=Fz h.next (D4 ops) } with
   |some (fr,h)=>some (.normal,fr,h)
   |none=>none
  |.seq a b=>match Hy F K n a fr h with
   |some (.normal,fr,h)=>Hy F K n b fr h
   |r=>r
  |.cond c a b=>match Tv fr c with
   |some (.v (.s (.bool true)))=>Hy F K n a fr h
   |some (.v (.s (.bool false)))=>Hy F K n b fr h
   |_=>none
  |.block id c=>match Hy F K n c fr h with
   |some (.exit j,fr,h)=>if j=id then some (.normal,fr,h) else some (.exit j,fr,h)
   |r=>r
  |.loop c=>match Hy F K n c fr h with
   |some (.normal,fr,h)=>Hy F K n (.loop c) fr h
   |r=>r
  |.exit id=>some (.exit id,fr,h)
  |.ret=>some (.ret,fr,h)
def runP (F:D5) (K:Y2) (n:Nat) (f:Nat) (xs:Ez):Option PA:=aR F (Hy F K n) f xs
end Go.Pv
end
section
noncomputable section
namespace Go.Vm
open Key (kn)
def cSV:Value->Option SV
 |.bool b=>some (.bool b)
 |.int k n=>some (.int k n)
 |.string s=>some (.str (s.data.toList.map UInt8.toNat))
 |.pointer none=>some .Iv
 |.slice none 0 0=>some .A4
 |.map none=>some .Ic
 |.nilFunc=>some .J5
 |_=>none
def NC:List Value->Option (EB)
 |[]=>some []
 |v::l=>match cSV v with
  |some x=>match NC l with
   |some xs=>some (x::xs)
   |none=>none
  |none=>none
def cCV:Value->Option CV
 |.agg cs=>match NC cs.toList with
  |some l=>some (.agg l)
  |none=>none
 |v=>match cSV v with
  |some x=>some (.s x)
  |none=>none
def cX:Operand->Option VX
 |.tmp t=>some (.t (kn t))
 |.const v=>match cCV v with
  |some x=>some (.c (.v x))
  |none=>none
 |.func f=>some (.c (.v (.s (.func f [] []))))
 |.global _=>none
def cXs:List Operand->Option (List VX)
 |[]=>some []
 |x::l=>match cX x with
  |some y=>match cXs l with
   |some ys=>some (y::ys)
   |none=>none
  |none=>none
section
variable (P:Program)
def shapeOf (t:TypeId):Option (Option Nat):=
 match P.underlying t,P.info? t with
 |some (.struct _),some i=>some (some i.size)
 |some (.array _ _),some i=>some (some i.size)
 |some _,some _=>some none
 |_,_=>none
def Gv (t:TypeId):Option Nat:=(P.info? t).map (·.size)
def Ty (t:TypeId):Option Nat:=(P.info? t).map (·.bytes)
def sQ (t:TypeId):Option CV:=
 match P.info? t with
 |some i=>match i.zero with
  |some v=>cCV v
  |none=>none
 |none=>none
def Ly (t:TypeId):Option (EB):=(sQ P t).map CV.cells
def Ru (lv:TypeId->Option (List Jk)):List Field->Nat->Option (List Jk)
 |[],_=>some []
 |f::fs,off=>
  if f.name ≠ "_" ∧ f.offset = off ∧ (shapeOf P f.type).isSome then
   match lv f.type with
   |some l=>if Gv P f.type=some l.length then(match Ru lv fs (off+l.length) with
    |some q=>some (l++q)
    |none=>none) else none
   |none=>none
  else none
def sR (l:List Jk):Nat->List Jk
 |0=>[]
 |n+1=>l++sR l n
def leaves:Nat->TypeId->Option (List Jk)
 |0,_=>none
 |d+1,t=>
  match P.underlying t with
  |some .bool=>some [.bool]
  |some (.int _)=>some [.int]
  |some .string=>some [.str]
  |some (.struct fs)=>if P.stoodInHeld t then none else Ru P (leaves d) fs.toList 0
  |some (.array n e)=>
   if(shapeOf P e).isSome/\n<=64 then
    match leaves d e with
    |some l=>if Gv P e=some l.length then some (sR l n) else none
    |none=>none
   else none
  |_=>none
def Ix (t:TypeId):Option Lp:=
 match shapeOf P t,leaves P 20 t with
 |some none,some [k]=>some (.one k)
 |some (some _),some ks=>some (.agg ks)
 |_,_=>none
def Jn (pl:Nat->Option (Nat×Nat)):List (Nat×Operand)->Option (Es)
 |[]=>some []
 |(i,_)::l=>match pl i with
  |some p=>match Jn pl l with
   |some r=>some (p::r)
   |none=>none
  |none=>none
def fM (t:TypeId):Option EqK:=
 match P.underlying t with
 |some .bool=>some .bool
 |some (.pointer _)=>some .ptr
 |some (.slice _)=>some .slice
 |some (.map _ _)=>some .map
 |some (.func _ _ _)=>some .func
 |some (.struct _)=>if P.eqGuardType P.depth t then none else(leaves P 20 t).map .agg
 |some (.array _ _)=>if P.eqGuardType P.depth t then none else(leaves P 20 t).map .agg
 |_=>none
def Qs (c:Call):Option (Ff×List Operand):=
 match c.callee with
 |.value (.func f)=>match P.funcs[f]? with
  | some fn => if fn.name == "runtime.NumGoroutine" || fn.body.isNone then none else some (.call f, c.args.toList)
  |none=>none
 |.value x=>some (.Kr,x::c.args.toList)
 |.invoke _ _=>none
 |.builtin b=>
  match b,(c.argTypes[0]?).bind P.underlying with
  |.len,some .string=>some (.op .Pz,c.args.toList)
  |.len,some (.slice _)=>some (.op .lens,c.args.toList)
  |.len,some (.array n _)=>some (.op (.P0 n),c.args.toList)
  |.len,some (.map _ _)=>some (.op .lE,c.args.toList)
  |.cap,some (.slice _)=>some (.op .cap,c.args.toList)
  |.min,_=>some (.op (.Nu false),c.args.toList)
  |.max,_=>some (.op (.Nu true),c.args.toList)
  |.append,some (.slice e)=>
   match(c.argTypes[1]?).bind P.underlying,Gv P e,Ty P e,Ly P e with
   |some (.slice _),some n,some k,some z=>if k=0∨z.length≠n then none else some (.op (.append n k),c.args.toList)
   |some .string,some n,some k,some z=>if k=0∨z.length≠n then none else some (.op (.append n k),c.args.toList)
   |_,_,_,_=>none
  |.copy,some (.slice e)=>(Gv P e).map λn=>(.op (.copy n),c.args.toList)
  |_,_=>none
def Ka (x:Operand) (lo hi mx:Option Operand) (k:SlK):Option (Ff×List Operand):=
 if mx.isSome&&hi.isNone then none else some (.op (.slice k lo.isSome hi.isSome mx.isSome),x::(lo.toList++(hi.toList++mx.toList)))
def cOp:Op->Option (Ff×List Operand)
 |.move x=>some (.op .mov,[x])
 |.assign x=>some (.op .mov,[x])
 |.pick c a b=>some (.op .pick,[c,a,b])
 |.alloc e=>(Ly P e).map λz=>(.op (.Jv z),[])
 |.box e v=>(Gv P e).map λn=>(.op (.box n),[v])
 |.build t parts=>
  match Ly P t,P.underlying t with
  |some z,some (.struct fs)=>match fs.toList.mapM (λf=>(P.info? f.type).map λi=>(f.offset,i.size)) with
   |some pls=>(Jn (λi=>pls[i]?) parts.toList).map λps=>(.op (.build z ps),parts.toList.map (·.2))
   |none=>none
  |some z,some (.array _ e)=>match Gv P e with
   |some n=>(Jn (λi=>some (i*n,n)) parts.toList).map λps=>(.op (.build z ps),parts.toList.map (·.2))
   |none=>none
  |_,_=>none
 |.buildSlice t len parts=>
  match P.underlying t with
  |some (.slice e)=>match Ly P e,Gv P e with
   |some z,some n=>if len*n<=16777216/\z.length=n/\0<n then(Jn (λi=>some (i*n,n)) parts.toList).map λps=>(.op (.J6 n len z ps),parts.toList.map (·.2)) else none
   |_,_=>none
  |_=>none
 |.insert t m k v=>match P.underlying t with
  |some (.map kt _)=>(Ix P kt).map λks=>(.op (.K1 ks),[m,k,v])
  |_=>none
 |.mapUpdate t m k v=>match P.underlying t with
  |some (.map kt _)=>(Ix P kt).map λks=>(.op (.K1 ks),[m,k,v])
  |_=>none
 |.load t a=>match shapeOf P t with
  |some none=>some (.op .Fb,[a])
  |some (some n)=>some (.op (.Fl n),[a])
  |none=>none
 |.store t a v=>(Gv P t).map λn=>(.op (.store n),[a,v])
 |.nilCheck x=>some (.op .J7,[x])
 |.binOp b t x y _=>
  match P.underlying t with
  |some (.int _)=>some (.op (.bin b),[x,y])
  |some .string=>some (.op (.bin b),[x,y])
  |_=>match b,fM P t with
   |.eql,some k=>some (.op (.eq false k),[x,y])
   |.neq,some k=>some (.op (.eq true k),[x,y])
   |_,_=>none
 |.unOp u _ x=>some (.op (.un u),[x])
 |.convert s d x=>match P.underlying s,P.underlying d with
  |some (.int _),some (.int k)=>some (.op (.conv k),[x])
  |_,_=>none
 |.makeFunc fn first cap=>match fn with
  |.func f=>some (.op (.Rk f first.size),first.toList++cap.toList)
  |_=>none
 |.makeMap _ none=>some (.op .S7,[])
 |.makeMap t (some x)=>match P.underlying t with
  |some (.map _ _)=>some (.op .S7,[x])
  |_=>none
 |.makeSlice t l c=>match P.underlying t with
  |some (.slice e)=>match Ly P e,Gv P e,Ty P e with
   |some z,some n,some k=>if z.length=n/\0<n then some (.op (.O7 n k z),[l,c]) else none
   |_,_,_=>none
  |_=>none
 |.slice t x lo hi mx=>match P.underlying t with
  |some .string=>Ka x lo hi mx .str
  |some (.slice e)=>match Gv P e with
   |some n=>Ka x lo hi mx (.slice n)
   |none=>none
  |some (.array n e)=>match Gv P e with
   |some k=>Ka x lo hi mx (.arr n k)
   |none=>none
  |_=>none
 |.fieldAddr t x f=>match P.underlying t with
  |some (.struct fs)=>match fs[f]? with
   |some fd=>match Gv P fd.type with
    |some n=>if n=0 then none else some (.op (.Ft fd.offset),[x])
    |none=>none
   |none=>none
  |_=>none
 |.field t x f=>match P.underlying t with
  |some (.struct fs)=>match fs[f]? with
   |some fd=>match shapeOf P fd.type with
    |some s=>some (.op (.field fd.offset s),[x])
    |none=>none
   |none=>none
  |_=>none
 |.indexAddr t x i=>match P.underlying t with
  |some (.array n e)=>(Gv P e).map λk=>(.op (.xI n k),[x,i])
  |some (.slice e)=>(Gv P e).map λk=>(.op (.isl k),[x,i])
  |_=>none
 |.index t x i=>match P.underlying t with
  |some (.array n e)=>match Gv P e,shapeOf P e with
   |some k,some s=>some (.op (.idx n k s),[x,i])
   |_,_=>none
  |some .string=>some (.op .xJ,[x,i])
  |_=>none
 |.lookup t x i ok=>match P.underlying t with
  |some (.map kt vt)=>match Ix P kt,sQ P vt with
   |some ks,some z=>some (.op (.lookup ks z ok),[x,i])
   |_,_=>none
  |_=>none
 |.extract t i=>some (.op (.extract i),[t])
 |.call c=>Qs P c
 |.range t x=>match P.underlying t with
  |some (.map _ _)=>some (.op .Lu,[x])
  |_=>none
 |.next i false=>some (.op .Qr,[i])
 |.entry i=>some (.op .Lv,[i])
 |_=>none
def oE (ops:Array Oper) (o:Oper):Option (Option (Key×Bool)):=
 match o.guard with
 |none=>some none
 |some (j,b)=>match(ops[j]?).bind (·.dst) with
  |some t=>some (some (kn t,b))
  |none=>none
def sS (N:Nat) (o:Oper):Bool:=match o.dst with
 |some d=>Nat.blt d N
 |none=>true
def M9 (N:Nat) (ops:Array Oper) (o:Oper):Option B3:=
 if sS N o then
  match oE ops o with
  |some g=>match cOp P o.op with
   |some (a,xs)=>match cXs xs with
    |some ys=>some ⟨o.dst.map kn,a,ys,g⟩
    |none=>some ⟨o.dst.map kn,.op .bad,[],g⟩
   |none=>some ⟨o.dst.map kn,.op .bad,[],g⟩
  |none=>none
 else none
def Gw (N:Nat) (ops:Array Oper):List Oper->Option (List B3)
 |[]=>some []
 |o::l=>match M9 P N ops o with
  |some x=>match Gw N ops l with
   |some xs=>some (x::xs)
   |none=>none
  |none=>none
def direct (o:Oper):EF:=(o.after.toList.filter (Region.binds .any)).map (·.on)
def Tz (ms:EF):EF->Nat
 |[]=>0
 |k::l=>2 ^ k ||| ms.getD k 0 ||| Tz ms l
def Jx:List (EF)->EF->EF
 |[],ms=>ms
 |d::r,ms=>Jx r (ms++[Tz ms d])
def Gl (ops:List Oper):EF:=Jx (ops.map direct) []
def before (ms:EF) (i j:Nat):Bool:=(ms.getD j 0).testBit i
def aS (ms:EF) (eff:EF) (n:Nat):EF:=
 let r:=eff.foldl (λacc j=>acc++(List.range n).filter (λi=>(before ms i j||i==j)&&!acc.contains i)) []
 r++(List.range n).filter (λi=>!r.contains i)
def looks (o:B3):ED:=(o.args.filterMap fun|.t k=>some k|.c _=>none)++(match o.guard with|some (k,_)=>[k]|none=>[])
def fN (x y:B3):Bool:=
 (match x.dst with|some d=>!(looks y).contains d|none=>true)&&(match y.dst with|some d=>!(looks x).contains d|none=>true)
def Hn (vs:List B3):EF:=(vs.zipIdx.filter λp=>p.1.act.kind=.effect).map (·.2)
def sT (vs:List B3) (i:Nat):Bool:=match vs[i]? with
 |some o=>o.act.kind=.effect
 |none=>false
def Vq:List B3->Bool
 |[]=>true
 |o::l=>(match o.dst with|some d=>l.all (λp=>p.dst !=some d)|none=>true)&&Vq l
def ND (ms:EF) (vs:List B3) (i j:Nat):Bool:=
 before ms i j||before ms j i||(match vs[i]?,vs[j]? with
  |some x,some y=>fN x y
  |_,_=>true)
def FY (ms:EF) (vs:List B3):EF->Bool
 |[]=>true
 |i::l=>!l.contains i&&l.all (λj=>!before ms j i&&(!sT vs j||before ms i j))&&FY ms vs l
def eH (ms:EF) (ops:List Oper) (vs:List B3) (ord:EF):Bool:=
 let n:=vs.length
 Vq vs &&
 ((List.range ops.length).all λj=>match ops[j]? with
  |some o=>(direct o).all λk=>Nat.blt k j
  |none=>true) &&
 ((List.range n).all λi=>(List.range n).all λj=>Nat.ble j i||ND ms vs i j) &&
 (ord.all λi=>Nat.blt i n)&&((List.range n).all λi=>ord.contains i) &&
 FY ms vs ord
def fO (ms:EF) (eff:EF) (i:Nat):Nat:=(eff.filter λj=>before ms j i).length
def T0 (ms:EF) (eff:EF) (vs:List B3):EF->Option (List DOp)
 |[]=>some []
 |i::l=>match vs[i]? with
  |some o=>match T0 ms eff vs l with
   |some r=>some (⟨o,fO ms eff i⟩::r)
   |none=>none
  |none=>none
def Mh (N:Nat) (ops:Array Oper) (draw:Bool):Option B7:=
 match Gw P N ops ops.toList with
 |some vs=>
  if draw then
   let ms:=Gl ops.toList
   let eff:=Hn vs
   let ord:=aS ms eff vs.length
   if eH ms ops.toList vs ord then(T0 ms eff vs ord).map .drawn else none
  else some (.region vs)
 |none=>none
def D7 (N:Nat):Code->Option B7
 |.skip=>some .skip
 |.region _ ops draw=>Mh P N ops draw
 |.seq a b=>match D7 N a,D7 N b with
  |some x,some y=>some (.seq x y)
  |_,_=>none
 |.cond c a b=>match cX c,D7 N a,D7 N b with
  |some c,some x,some y=>some (.cond c x y)
  |_,_,_=>none
 |.block id c=>(D7 N c).map (.block id)
 |.loop c=>(D7 N c).map .loop
 |.exit id=>some (.exit id)
 |.ret=>some .ret
 |_=>none
def UN:ResultVar->Option Qb
 |.tmp t=>some (.tmp (kn t))
 |.cell a t=>match shapeOf P t with
  |some none=>some (.lS (kn a))
  |some (some n)=>some (.lT (kn a) n)
  |none=>none
def fP:List ResultVar->Option (List Qb)
 |[]=>some []
 |r::l=>match UN P r with
  |some x=>match fP l with
   |some xs=>some (x::xs)
   |none=>none
  |none=>none
def sU (fn:Func):Option Gq:=
 if fn.name == "runtime.NumGoroutine" then none else
 match fn.body with
 |some c=>match D7 P fn.ntmps c,fP P fn.results.toList with
  |some v,some rs=>some ⟨rs,v⟩
  |_,_=>none
 |none=>none
def Jf:D5:=λf=>(P.funcs[f]?).bind (sU P)
end
end Go.Vm
end
section
noncomputable section
namespace Go.Vm.C
def ci (n:Nat):VX:=.c (.v (.s (.int .i64 (.ofNat n))))
def ct:VX:=.c (.v (.s (.bool true)))
def cf:VX:=.c (.v (.s (.bool false)))
def cn (f:Nat):VX:=.c (.v (.s (.func f [] [])))
def cs:VX:=.c (.v (.s .A4))
def m (d s:Key):B3:=⟨some d,.op .mov,[.t s],none⟩
def mc (d:Key) (x:VX):B3:=⟨some d,.op .mov,[x],none⟩
def l (d s:Key):B3:=⟨some d,.op .Fb,[.t s],none⟩
def fa (d:Key) (n:Nat) (s:Key):B3:=⟨some d,.op (.Ft n),[.t s],none⟩
def ix (d:Key) (n:Nat) (s i:Key):B3:=⟨some d,.op (.isl n),[.t s,.t i],none⟩
def bi (d:Key) (b:BinOp) (x y:VX):B3:=⟨some d,.op (.bin b),[x,y],none⟩
def a (d:Key) (p:VOp) (s:Key):B3:=⟨some d,.op p,[.t s],none⟩
def o (d:Key) (p:VOp) (xs:List VX):B3:=⟨some d,.op p,xs,none⟩
def c (d:Key) (f:Nat) (xs:List VX):B3:=⟨some d,.call f,xs,none⟩
def st (n:Nat) (s:Key) (x:VX):B3:=⟨none,.op (.store n),[.t s,x],none⟩
instance:Coe Key VX:=⟨VX.t⟩
def g (d:Key) (p:VOp) (xs:List VX) (k:Key) (b:Bool):B3:=⟨some d,.op p,xs,some (k,b)⟩
def S (x y:B7):B7:=.seq x y
def L (l:List B3):B7:=.region l
def k0:Key:=.h
def k1:=k0.o
def k2:=k0.i
def k3:=k1.o
def k4:=k1.i
def k5:=k2.o
def k6:=k2.i
def k7:=k3.o
def k8:=k3.i
def k9:=k4.o
def k10:=k4.i
def k11:=k5.o
def k12:=k5.i
def k13:=k6.o
def k14:=k6.i
def k15:=k7.o
def k16:=k7.i
def k17:=k8.o
def k18:=k8.i
def k19:=k9.o
def k20:=k9.i
def k21:=k10.o
def k22:=k10.i
def k23:=k11.o
def k24:=k11.i
def k25:=k12.o
def k26:=k12.i
def k27:=k13.o
def k28:=k13.i
def k29:=k14.o
def k30:=k14.i
def k31:=k15.o
def k32:=k15.i
def k33:=k16.o
def k34:=k16.i
def k35:=k17.o
def k36:=k17.i
def k37:=k18.o
def k38:=k18.i
def k39:=k19.o
def k40:=k19.i
def k41:=k20.o
def k42:=k20.i
def k43:=k21.o
def k44:=k21.i
def k45:=k22.o
def k46:=k22.i
def k47:=k23.o
def k48:=k23.i
def k49:=k24.o
def k50:=k24.i
def k51:=k25.o
def k52:=k25.i
def k53:=k26.o
def k54:=k26.i
def k55:=k27.o
def k56:=k27.i
def k57:=k28.o
def k58:=k28.i
def k59:=k29.o
def k60:=k29.i
def k61:=k30.o
def k62:=k30.i
def k63:=k31.o
def k64:=k31.i
def k65:=k32.o
def k66:=k32.i
def k67:=k33.o
def k68:=k33.i
def k69:=k34.o
def k70:=k34.i
def k71:=k35.o
def k72:=k35.i
def k73:=k36.o
def k74:=k36.i
def k75:=k37.o
def k76:=k37.i
def k77:=k38.o
def k78:=k38.i
def k79:=k39.o
def k80:=k39.i
def k81:=k40.o
def k82:=k40.i
def k83:=k41.o
def k84:=k41.i
def k85:=k42.o
def k86:=k42.i
def k87:=k43.o
def k88:=k43.i
def k89:=k44.o
def k90:=k44.i
def k91:=k45.o
def k92:=k45.i
def k93:=k46.o
def k94:=k46.i
def k95:=k47.o
def k96:=k47.i
def k97:=k48.o
def k98:=k48.i
def k99:=k49.o
def k100:=k49.i
def k101:=k50.o
def k102:=k50.i
def k103:=k51.o
def k104:=k51.i
def k105:=k52.o
def k106:=k52.i
def k107:=k53.o
def k108:=k53.i
def k109:=k54.o
def k110:=k54.i
def k111:=k55.o
def k112:=k55.i
def k113:=k56.o
def k114:=k56.i
def k115:=k57.o
def k116:=k57.i
def k117:=k58.o
def k118:=k58.i
def k119:=k59.o
def k120:=k59.i
def k121:=k60.o
def k122:=k60.i
def k123:=k61.o
def k124:=k61.i
def k125:=k62.o
def k126:=k62.i
def k127:=k63.o
def k128:=k63.i
def k129:=k64.o
def k130:=k64.i
def k131:=k65.o
def k132:=k65.i
def k133:=k66.o
def k134:=k66.i
def k135:=k67.o
def k136:=k67.i
def k137:=k68.o
def k138:=k68.i
def k139:=k69.o
def k140:=k69.i
def k141:=k70.o
def k142:=k70.i
def k143:=k71.o
def k144:=k71.i
def k145:=k72.o
def k146:=k72.i
def k147:=k73.o
def k148:=k73.i
def k149:=k74.o
def k150:=k74.i
def k151:=k75.o
def k152:=k75.i
def k153:=k76.o
def k154:=k76.i
def k155:=k77.o
def k156:=k77.i
end Go.Vm.C
end
section
noncomputable section
namespace Go.Pv.K
open Go.Vm
open Go.Vm.Key (kn)
theorem ff {p:Prop} (e:false=true):p:=by cases e
structure Row where
 mk ::
 (a0 a1 a2 a3 a4 a5 a6 a7 a8 a9 a10 a11 a12 a13 a14 a15:Option PA)
structure Fr where
 mk ::
 (a0 a1 a2 a3 a4 a5 a6 a7 a8 a9 a10 a11 a12 a13 a14 a15:Row)
namespace Row
def empty:Row:=.mk none none none none none none none none none none none none none none none none
def get:Row->Nat->Option PA
 |.mk a b c d e f g h i j l m n o p q,0=>a
 |.mk a b c d e f g h i j l m n o p q,1=>b
 |.mk a b c d e f g h i j l m n o p q,2=>c
 |.mk a b c d e f g h i j l m n o p q,3=>d
 |.mk a b c d e f g h i j l m n o p q,4=>e
 |.mk a b c d e f g h i j l m n o p q,5=>f
 |.mk a b c d e f g h i j l m n o p q,6=>g
 |.mk a b c d e f g h i j l m n o p q,7=>h
 |.mk a b c d e f g h i j l m n o p q,8=>i
 |.mk a b c d e f g h i j l m n o p q,9=>j
 |.mk a b c d e f g h i j l m n o p q,10=>l
 |.mk a b c d e f g h i j l m n o p q,11=>m
 |.mk a b c d e f g h i j l m n o p q,12=>n
 |.mk a b c d e f g h i j l m n o p q,13=>o
 |.mk a b c d e f g h i j l m n o p q,14=>p
 |.mk a b c d e f g h i j l m n o p q,15=>q
 |_,_=>none
def set:Row->Nat->PA->Row
 |.mk a b c d e f g h i j l m n o p q,0,v=>.mk (some v) b c d e f g h i j l m n o p q
 |.mk a b c d e f g h i j l m n o p q,1,v=>.mk a (some v) c d e f g h i j l m n o p q
 |.mk a b c d e f g h i j l m n o p q,2,v=>.mk a b (some v) d e f g h i j l m n o p q
 |.mk a b c d e f g h i j l m n o p q,3,v=>.mk a b c (some v) e f g h i j l m n o p q
 |.mk a b c d e f g h i j l m n o p q,4,v=>.mk a b c d (some v) f g h i j l m n o p q
 |.mk a b c d e f g h i j l m n o p q,5,v=>.mk a b c d e (some v) g h i j l m n o p q
 |.mk a b c d e f g h i j l m n o p q,6,v=>.mk a b c d e f (some v) h i j l m n o p q
 |.mk a b c d e f g h i j l m n o p q,7,v=>.mk a b c d e f g (some v) i j l m n o p q
 |.mk a b c d e f g h i j l m n o p q,8,v=>.mk a b c d e f g h (some v) j l m n o p q
 |.mk a b c d e f g h i j l m n o p q,9,v=>.mk a b c d e f g h i (some v) l m n o p q
 |.mk a b c d e f g h i j l m n o p q,10,v=>.mk a b c d e f g h i j (some v) m n o p q
 |.mk a b c d e f g h i j l m n o p q,11,v=>.mk a b c d e f g h i j l (some v) n o p q
 |.mk a b c d e f g h i j l m n o p q,12,v=>.mk a b c d e f g h i j l m (some v) o p q
 |.mk a b c d e f g h i j l m n o p q,13,v=>.mk a b c d e f g h i j l m n (some v) p q
 |.mk a b c d e f g h i j l m n o p q,14,v=>.mk a b c d e f g h i j l m n o (some v) q
 |.mk a b c d e f g h i j l m n o p q,15,v=>.mk a b c d e f g h i j l m n o p (some v)
 |r,_,_=>r
end Row
namespace Fr
def empty:Fr:=.mk .empty .empty .empty .empty .empty .empty .empty .empty .empty .empty .empty .empty .empty .empty .empty .empty
def get:Fr->Nat->Row
 |.mk a b c d e f g h i j l m n o p q,0=>a
 |.mk a b c d e f g h i j l m n o p q,1=>b
 |.mk a b c d e f g h i j l m n o p q,2=>c
 |.mk a b c d e f g h i j l m n o p q,3=>d
 |.mk a b c d e f g h i j l m n o p q,4=>e
 |.mk a b c d e f g h i j l m n o p q,5=>f
 |.mk a b c d e f g h i j l m n o p q,6=>g
 |.mk a b c d e f g h i j l m n o p q,7=>h
 |.mk a b c d e f g h i j l m n o p q,8=>i
 |.mk a b c d e f g h i j l m n o p q,9=>j
 |.mk a b c d e f g h i j l m n o p q,10=>l
 |.mk a b c d e f g h i j l m n o p q,11=>m
 |.mk a b c d e f g h i j l m n o p q,12=>n
 |.mk a b c d e f g h i j l m n o p q,13=>o
 |.mk a b c d e f g h i j l m n o p q,14=>p
 |.mk a b c d e f g h i j l m n o p q,15=>q
 |_,_=>.empty
def set:Fr->Nat->Row->Fr
 |.mk a b c d e f g h i j l m n o p q,0,v=>.mk v b c d e f g h i j l m n o p q
 |.mk a b c d e f g h i j l m n o p q,1,v=>.mk a v c d e f g h i j l m n o p q
 |.mk a b c d e f g h i j l m n o p q,2,v=>.mk a b v d e f g h i j l m n o p q
 |.mk a b c d e f g h i j l m n o p q,3,v=>.mk a b c v e f g h i j l m n o p q
 |.mk a b c d e f g h i j l m n o p q,4,v=>.mk a b c d v f g h i j l m n o p q
 |.mk a b c d e f g h i j l m n o p q,5,v=>.mk a b c d e v g h i j l m n o p q
 |.mk a b c d e f g h i j l m n o p q,6,v=>.mk a b c d e f v h i j l m n o p q
 |.mk a b c d e f g h i j l m n o p q,7,v=>.mk a b c d e f g v i j l m n o p q
 |.mk a b c d e f g h i j l m n o p q,8,v=>.mk a b c d e f g h v j l m n o p q
 |.mk a b c d e f g h i j l m n o p q,9,v=>.mk a b c d e f g h i v l m n o p q
 |.mk a b c d e f g h i j l m n o p q,10,v=>.mk a b c d e f g h i j v m n o p q
 |.mk a b c d e f g h i j l m n o p q,11,v=>.mk a b c d e f g h i j l v n o p q
 |.mk a b c d e f g h i j l m n o p q,12,v=>.mk a b c d e f g h i j l m v o p q
 |.mk a b c d e f g h i j l m n o p q,13,v=>.mk a b c d e f g h i j l m n v p q
 |.mk a b c d e f g h i j l m n o p q,14,v=>.mk a b c d e f g h i j l m n o v q
 |.mk a b c d e f g h i j l m n o p q,15,v=>.mk a b c d e f g h i j l m n o p v
 |r,_,_=>r
end Fr
def rs0 (r:Row):Option PA:=r.a0
def ru0 (r:Row) (v:PA) (k:Row->Bool):Bool:=@Row.rec (λ_=>Bool) (λa b c d e f g h i j l m n o p q=>k (.mk (some v) b c d e f g h i j l m n o p q)) r
def fs0 (r:Fr):Row:=r.a0
def fu0 (f:Row->(Row->Bool)->Bool) (r:Fr) (k:Fr->Bool):Bool:=@Fr.rec (λ_=>Bool) (λa b c d e g h i j l m n o p q s=>f a (λv=>k (.mk v b c d e g h i j l m n o p q s))) r
def rs1 (r:Row):Option PA:=r.a1
def ru1 (r:Row) (v:PA) (k:Row->Bool):Bool:=@Row.rec (λ_=>Bool) (λa b c d e f g h i j l m n o p q=>k (.mk a (some v) c d e f g h i j l m n o p q)) r
def fs1 (r:Fr):Row:=r.a1
def fu1 (f:Row->(Row->Bool)->Bool) (r:Fr) (k:Fr->Bool):Bool:=@Fr.rec (λ_=>Bool) (λa b c d e g h i j l m n o p q s=>f b (λv=>k (.mk a v c d e g h i j l m n o p q s))) r
def rs2 (r:Row):Option PA:=r.a2
def ru2 (r:Row) (v:PA) (k:Row->Bool):Bool:=@Row.rec (λ_=>Bool) (λa b c d e f g h i j l m n o p q=>k (.mk a b (some v) d e f g h i j l m n o p q)) r
def fs2 (r:Fr):Row:=r.a2
def fu2 (f:Row->(Row->Bool)->Bool) (r:Fr) (k:Fr->Bool):Bool:=@Fr.rec (λ_=>Bool) (λa b c d e g h i j l m n o p q s=>f c (λv=>k (.mk a b v d e g h i j l m n o p q s))) r
def rs3 (r:Row):Option PA:=r.a3
def ru3 (r:Row) (v:PA) (k:Row->Bool):Bool:=@Row.rec (λ_=>Bool) (λa b c d e f g h i j l m n o p q=>k (.mk a b c (some v) e f g h i j l m n o p q)) r
def fs3 (r:Fr):Row:=r.a3
def fu3 (f:Row->(Row->Bool)->Bool) (r:Fr) (k:Fr->Bool):Bool:=@Fr.rec (λ_=>Bool) (λa b c d e g h i j l m n o p q s=>f d (λv=>k (.mk a b c v e g h i j l m n o p q s))) r
def rs4 (r:Row):Option PA:=r.a4
def ru4 (r:Row) (v:PA) (k:Row->Bool):Bool:=@Row.rec (λ_=>Bool) (λa b c d e f g h i j l m n o p q=>k (.mk a b c d (some v) f g h i j l m n o p q)) r
def fs4 (r:Fr):Row:=r.a4
def fu4 (f:Row->(Row->Bool)->Bool) (r:Fr) (k:Fr->Bool):Bool:=@Fr.rec (λ_=>Bool) (λa b c d e g h i j l m n o p q s=>f e (λv=>k (.mk a b c d v g h i j l m n o p q s))) r
def rs5 (r:Row):Option PA:=r.a5
def ru5 (r:Row) (v:PA) (k:Row->Bool):Bool:=@Row.rec (λ_=>Bool) (λa b c d e f g h i j l m n o p q=>k (.mk a b c d e (some v) g h i j l m n o p q)) r
def fs5 (r:Fr):Row:=r.a5
def fu5 (f:Row->(Row->Bool)->Bool) (r:Fr) (k:Fr->Bool):Bool:=@Fr.rec (λ_=>Bool) (λa b c d e g h i j l m n o p q s=>f g (λv=>k (.mk a b c d e v h i j l m n o p q s))) r
def rs6 (r:Row):Option PA:=r.a6
def ru6 (r:Row) (v:PA) (k:Row->Bool):Bool:=@Row.rec (λ_=>Bool) (λa b c d e f g h i j l m n o p q=>k (.mk a b c d e f (some v) h i j l m n o p q)) r
def fs6 (r:Fr):Row:=r.a6
def fu6 (f:Row->(Row->Bool)->Bool) (r:Fr) (k:Fr->Bool):Bool:=@Fr.rec (λ_=>Bool) (λa b c d e g h i j l m n o p q s=>f h (λv=>k (.mk a b c d e g v i j l m n o p q s))) r
def rs7 (r:Row):Option PA:=r.a7
def ru7 (r:Row) (v:PA) (k:Row->Bool):Bool:=@Row.rec (λ_=>Bool) (λa b c d e f g h i j l m n o p q=>k (.mk a b c d e f g (some v) i j l m n o p q)) r
def fs7 (r:Fr):Row:=r.a7
def fu7 (f:Row->(Row->Bool)->Bool) (r:Fr) (k:Fr->Bool):Bool:=@Fr.rec (λ_=>Bool) (λa b c d e g h i j l m n o p q s=>f i (λv=>k (.mk a b c d e g h v j l m n o p q s))) r
def rs8 (r:Row):Option PA:=r.a8
def ru8 (r:Row) (v:PA) (k:Row->Bool):Bool:=@Row.rec (λ_=>Bool) (λa b c d e f g h i j l m n o p q=>k (.mk a b c d e f g h (some v) j l m n o p q)) r
def fs8 (r:Fr):Row:=r.a8
def fu8 (f:Row->(Row->Bool)->Bool) (r:Fr) (k:Fr->Bool):Bool:=@Fr.rec (λ_=>Bool) (λa b c d e g h i j l m n o p q s=>f j (λv=>k (.mk a b c d e g h i v l m n o p q s))) r
def rs9 (r:Row):Option PA:=r.a9
def ru9 (r:Row) (v:PA) (k:Row->Bool):Bool:=@Row.rec (λ_=>Bool) (λa b c d e f g h i j l m n o p q=>k (.mk a b c d e f g h i (some v) l m n o p q)) r
def fs9 (r:Fr):Row:=r.a9
def fu9 (f:Row->(Row->Bool)->Bool) (r:Fr) (k:Fr->Bool):Bool:=@Fr.rec (λ_=>Bool) (λa b c d e g h i j l m n o p q s=>f l (λv=>k (.mk a b c d e g h i j v m n o p q s))) r
def rs10 (r:Row):Option PA:=r.a10
def ru10 (r:Row) (v:PA) (k:Row->Bool):Bool:=@Row.rec (λ_=>Bool) (λa b c d e f g h i j l m n o p q=>k (.mk a b c d e f g h i j (some v) m n o p q)) r
def fs10 (r:Fr):Row:=r.a10
def fu10 (f:Row->(Row->Bool)->Bool) (r:Fr) (k:Fr->Bool):Bool:=@Fr.rec (λ_=>Bool) (λa b c d e g h i j l m n o p q s=>f m (λv=>k (.mk a b c d e g h i j l v n o p q s))) r
def rs11 (r:Row):Option PA:=r.a11
def ru11 (r:Row) (v:PA) (k:Row->Bool):Bool:=@Row.rec (λ_=>Bool) (λa b c d e f g h i j l m n o p q=>k (.mk a b c d e f g h i j l (some v) n o p q)) r
def fs11 (r:Fr):Row:=r.a11
def fu11 (f:Row->(Row->Bool)->Bool) (r:Fr) (k:Fr->Bool):Bool:=@Fr.rec (λ_=>Bool) (λa b c d e g h i j l m n o p q s=>f n (λv=>k (.mk a b c d e g h i j l m v o p q s))) r
def rs12 (r:Row):Option PA:=r.a12
def ru12 (r:Row) (v:PA) (k:Row->Bool):Bool:=@Row.rec (λ_=>Bool) (λa b c d e f g h i j l m n o p q=>k (.mk a b c d e f g h i j l m (some v) o p q)) r
def fs12 (r:Fr):Row:=r.a12
def fu12 (f:Row->(Row->Bool)->Bool) (r:Fr) (k:Fr->Bool):Bool:=@Fr.rec (λ_=>Bool) (λa b c d e g h i j l m n o p q s=>f o (λv=>k (.mk a b c d e g h i j l m n v p q s))) r
def rs13 (r:Row):Option PA:=r.a13
def ru13 (r:Row) (v:PA) (k:Row->Bool):Bool:=@Row.rec (λ_=>Bool) (λa b c d e f g h i j l m n o p q=>k (.mk a b c d e f g h i j l m n (some v) p q)) r
def fs13 (r:Fr):Row:=r.a13
def fu13 (f:Row->(Row->Bool)->Bool) (r:Fr) (k:Fr->Bool):Bool:=@Fr.rec (λ_=>Bool) (λa b c d e g h i j l m n o p q s=>f p (λv=>k (.mk a b c d e g h i j l m n o v q s))) r
def rs14 (r:Row):Option PA:=r.a14
def ru14 (r:Row) (v:PA) (k:Row->Bool):Bool:=@Row.rec (λ_=>Bool) (λa b c d e f g h i j l m n o p q=>k (.mk a b c d e f g h i j l m n o (some v) q)) r
def fs14 (r:Fr):Row:=r.a14
def fu14 (f:Row->(Row->Bool)->Bool) (r:Fr) (k:Fr->Bool):Bool:=@Fr.rec (λ_=>Bool) (λa b c d e g h i j l m n o p q s=>f q (λv=>k (.mk a b c d e g h i j l m n o p v s))) r
def rs15 (r:Row):Option PA:=r.a15
def ru15 (r:Row) (v:PA) (k:Row->Bool):Bool:=@Row.rec (λ_=>Bool) (λa b c d e f g h i j l m n o p q=>k (.mk a b c d e f g h i j l m n o p (some v))) r
def fs15 (r:Fr):Row:=r.a15
def fu15 (f:Row->(Row->Bool)->Bool) (r:Fr) (k:Fr->Bool):Bool:=@Fr.rec (λ_=>Bool) (λa b c d e g h i j l m n o p q s=>f s (λv=>k (.mk a b c d e g h i j l m n o p q v))) r
inductive RAcc where
 |mk (g:Row->Option PA) (p:Row->PA->(Row->Bool)->Bool)
inductive FAcc where
 |mk (g:Fr->Row) (p:(Row->(Row->Bool)->Bool)->Fr->(Fr->Bool)->Bool)
inductive Acc where
 |mk (g:Fr->Option PA) (p:PA->Fr->(Fr->Bool)->Bool)
def racc:Nat->RAcc
 |0=>.mk rs0 ru0
 |1=>.mk rs1 ru1
 |2=>.mk rs2 ru2
 |3=>.mk rs3 ru3
 |4=>.mk rs4 ru4
 |5=>.mk rs5 ru5
 |6=>.mk rs6 ru6
 |7=>.mk rs7 ru7
 |8=>.mk rs8 ru8
 |9=>.mk rs9 ru9
 |10=>.mk rs10 ru10
 |11=>.mk rs11 ru11
 |12=>.mk rs12 ru12
 |13=>.mk rs13 ru13
 |14=>.mk rs14 ru14
 |15=>.mk rs15 ru15
 |_=>.mk (λ_=>none) (λ_ _ _=>false)
def facc:Nat->FAcc
 |0=>.mk fs0 fu0
 |1=>.mk fs1 fu1
 |2=>.mk fs2 fu2
 |3=>.mk fs3 fu3
 |4=>.mk fs4 fu4
 |5=>.mk fs5 fu5
 |6=>.mk fs6 fu6
 |7=>.mk fs7 fu7
 |8=>.mk fs8 fu8
 |9=>.mk fs9 fu9
 |10=>.mk fs10 fu10
 |11=>.mk fs11 fu11
 |12=>.mk fs12 fu12
 |13=>.mk fs13 fu13
 |14=>.mk fs14 fu14
 |15=>.mk fs15 fu15
 |_=>.mk (λ_=>.empty) (λ_ _ _=>false)
def acc (key:Key):Acc:=
 @Bool.rec (λ_=>Acc) (.mk (λ_=>none) (λ_ _ _=>false))
  (@FAcc.rec (λ_=>Acc) (λs m=>@RAcc.rec (λ_=>Acc) (λrs ru=>.mk (λfr=>rs (s fr)) (λv fr k=>m (λr k=>ru r v k) fr k)) (racc (key.toNat % 16))) (facc (key.toNat / 16)))
  (Nat.blt key.toNat 256)
theorem c16 {i:Nat} (h:i<16):i=0∨i=1∨i=2∨i=3∨i=4∨i=5∨i=6∨i=7∨i=8∨i=9∨i=10∨i=11∨i=12∨i=13∨i=14∨i=15:=by omega
theorem wC (r:Row) (v:PA) (i j:Nat) (hi:i<16) (hj:j<16):(r.set i v).get j=if i=j then some v else r.get j:=by
 cases r;obtain rfl|rfl|rfl|rfl|rfl|rfl|rfl|rfl|rfl|rfl|rfl|rfl|rfl|rfl|rfl|rfl:=(c16 hi)
 all_goals (obtain rfl|rfl|rfl|rfl|rfl|rfl|rfl|rfl|rfl|rfl|rfl|rfl|rfl|rfl|rfl|rfl:=(c16 hj)<;>rfl)
theorem zX (r:Fr) (v:Row) (i j:Nat) (hi:i<16) (hj:j<16):(r.set i v).get j=if i=j then v else r.get j:=by
 cases r;obtain rfl|rfl|rfl|rfl|rfl|rfl|rfl|rfl|rfl|rfl|rfl|rfl|rfl|rfl|rfl|rfl:=(c16 hi)
 all_goals (obtain rfl|rfl|rfl|rfl|rfl|rfl|rfl|rfl|rfl|rfl|rfl|rfl|rfl|rfl|rfl|rfl:=(c16 hj)<;>rfl)
theorem LX (j:Nat) (hj:j<16):Row.empty.get j=none:=by obtain rfl|rfl|rfl|rfl|rfl|rfl|rfl|rfl|rfl|rfl|rfl|rfl|rfl|rfl|rfl|rfl:=(c16 hj)<;>rfl
theorem RC (j:Nat) (hj:j<16):Fr.empty.get j=.empty:=by obtain rfl|rfl|rfl|rfl|rfl|rfl|rfl|rfl|rfl|rfl|rfl|rfl|rfl|rfl|rfl|rfl:=(c16 hj)<;>rfl
theorem LY (i:Nat) (hi:i<16):∃g p,racc i=.mk g p/\(∀r,g r=r.get i)/\∀r v k,p r v k=k (r.set i v):=by obtain rfl|rfl|rfl|rfl|rfl|rfl|rfl|rfl|rfl|rfl|rfl|rfl|rfl|rfl|rfl|rfl:=(c16 hi);all_goals exact⟨_,_,rfl,λr=>by cases r;rfl,λr v k=>by cases r;rfl⟩
theorem LZ (i:Nat) (hi:i<16):∃g p,facc i=.mk g p/\(∀r,g r=r.get i)/\∀f r k,p f r k=f (r.get i) (λv=>k (r.set i v)):=by obtain rfl|rfl|rfl|rfl|rfl|rfl|rfl|rfl|rfl|rfl|rfl|rfl|rfl|rfl|rfl|rfl:=(c16 hi);all_goals exact⟨_,_,rfl,λr=>by cases r;rfl,λf r k=>by cases r;rfl⟩
def Fr.at (fr:Fr) (k:Key):Option PA:=if k.toNat<256 then(fr.get (k.toNat / 16)).get (k.toNat % 16) else none
theorem jQ (k:Key):(∃g p,acc k=.mk g p/\(∀fr,g fr=fr.at k)/\∀v fr c,p v fr c=true->∃fr',c fr'=true/\∀j,fr'.at j=if k=j then some v else fr.at j):=by
 by_cases hk:k.toNat<256
 ·obtain⟨g,p,h1,h2,h3⟩:=LZ (k.toNat / 16) Aa;obtain⟨g',p',h4,h5,h6⟩:=LY (k.toNat % 16) Aa;refine⟨λfr=>g' (g fr),λv fr c=>p (λr c=>p' r v c) fr c,?_,λfr=>?_,λv fr c h=>?_⟩
  ·have hb:Nat.blt k.toNat 256=true:=by simp[Bs];exact hk
   simp only[acc,hb,h1,h4]
  ·show g' (g fr)=_;rw[h2,h5];simp[Fr.at,hk]
  ·have h:p (λr c=>p' r v c) fr c=true:=h;rw[h3,h6] at h;refine⟨_,h,λj=>?_⟩;by_cases hj:j.toNat<256
   ·simp only[Fr.at,hj,Ak];rw[zX _ _ _ _ Aa Aa];by_cases e1:k.toNat / 16=j.toNat / 16
    ·rw[Aj e1,wC _ _ _ _ Aa Aa];by_cases e2:k.toNat % 16=j.toNat % 16;·have:k=j:=Key.toNat_inj Aa;rw[Aj e2,Aj this]
     ·have:k≠j:=by rintro rfl;exact e2 rfl
      rw[Ao e2,Ao this,e1]
    ·have:k≠j:=by rintro rfl;exact e1 rfl
     rw[Ao e1,Ao this]
   ·have:k≠j:=by rintro rfl;exact hj hk
    simp[Fr.at,hj,this]
 ·refine⟨λ_=>none,λ_ _ _=>false,?_,λfr=>by simp[Fr.at,hk],λv fr c h=>ff h⟩;have hb:Nat.blt k.toNat 256=false:=by
   cases h:Nat.blt k.toNat 256 with
   |false=>rfl
   |true=>rw[Bs] at h;exact absurd h hk
  simp only[acc,hb]
theorem RD (k:Key):Fr.empty.at k=none:=by
 unfold Fr.at;split;·rw[RC _ Aa,LX _ Aa]
 ·rfl
abbrev KK:=PA->A0->Bool
abbrev dY:=PA->A0->KK->Bool
abbrev jS:=PA->PA->A0->KK->Bool
def go (b:Bool):Bool:=b
def Ja (c:Bool) (a b:Bool):Bool:=@Bool.rec (λ_=>Bool) b a c
def Oz (n:Nat) (k:EH):Bool:=@Nat.rec (λ_=>Bool) (k 0) (λm _=>k (Nat.succ m)) n
def RE (n:Int) (k:Int->Bool):Bool:=@Int.rec (λ_=>Bool) (λn=>Oz n (λn=>k (.ofNat n))) (λn=>Oz n (λn=>k (.negSucc n))) n
def qU (b:Bool) (k:Bool->Bool):Bool:=@Bool.rec (λ_=>Bool) (k false) (k true) b
def onV (a:PA) (f:PV->Bool):Bool:=@PA.rec (λ_=>(PV->Bool)->Bool) (λc=>@PC.rec (λ_=>(PV->Bool)->Bool) (λx f=>f x) (λ_ _=>false) c) (λ_ _=>false) a f
def RF (x:PV) (k:PV->Bool):Bool:=@PV.rec (λ_=>(PV->Bool)->Bool) (λ_=>Unit) (λ_=>Unit) (λb k=>qU b (λb=>k (.bool b))) (λkd n k=>RE n (λn=>k (.int kd n))) (λl k=>k (.str l)) (λb o k=>k (.ptr b o)) (λk=>k .Iv) (λb o len es cap k=>k (.slice b o len es cap)) (λk=>k .A4) (λb k=>k (.map b)) (λk=>k .Ic) (λf a b k=>k (.func f a b)) (λk=>k .J5) (λes l cap _ k=>k (.lst es l cap)) (λl _ k=>k (.rp l)) (λa b _ _ k=>k (.mp a b)) () (λ_ _ _ _=>()) () (λ_ _ _ _=>()) x k
def jT (a:PA) (k:PA->Bool):Bool:=
 @PA.rec (λ_=>(PA->Bool)->Bool) (λc=>@PC.rec (λ_=>(PA->Bool)->Bool) (λx k=>RF x (λx=>k (.v (.s x)))) (λl k=>k (.v (.agg l))) c) (λl k=>k (.tup l)) a k
def dfl (r:Option (PA×A0)) (k:KK):Bool:=
 @Option.rec (PA×A0) (λ_=>Bool) false (λp=>@Prod.rec PA A0 (λ_=>Bool) (λv h=>@A0.rec (λ_=>Bool) (λm n=>jT v (λv=>k v ⟨m,n⟩)) h) p) r
def MA {α:Type} (k:α->Bool) (o:Nat):List α->Bool:=
 @Nat.rec (λ_=>List α->Bool) (λl=>@List.rec α (λ_=>Bool) false (λx _ _=>k x) l) (λ_ ih l=>@List.rec α (λ_=>Bool) false (λ_ l _=>ih l) l) o
def dK {α:Type} (k:List α->Bool) (o:Nat):List α->Bool:=
 @Nat.rec (λ_=>List α->Bool) k (λ_ ih l=>@List.rec α (λ_=>Bool) false (λ_ l _=>ih l) l) o
def dL {α:Type} (n:Nat):List α->(List α->Bool)->Bool:=
 @Nat.rec (λ_=>List α->(List α->Bool)->Bool) (λ_ k=>k []) (λ_ ih l k=>@List.rec α (λ_=>Bool) false (λx l _=>ih l (λr=>k (x::r))) l) n
def qV {α:Type} (l:List α):Nat:=@List.rec α (λ_=>Nat) 0 (λ_ _ ih=>Nat.add ih 1) l
def putK (new:Ey):Ey->(Ey->Bool)->Bool:=
 @List.rec PV (λ_=>Ey->(Ey->Bool)->Bool) (λl k=>k l) (λy _ ih l k=>@List.rec PV (λ_=>Bool) false (λ_ l _=>ih l (λr=>k (y::r))) l) new
def RG (new:Ey) (o:Nat):Ey->(Ey->Bool)->Bool:=
 @Nat.rec (λ_=>Ey->(Ey->Bool)->Bool) (λl k=>putK new l k) (λ_ ih l k=>@List.rec PV (λ_=>Bool) false (λx l _=>ih l (λr=>k (x::r))) l) o
def zY:Key->Tr B4->Option B4:=
 @Key.rec (λ_=>Tr B4->Option B4)
  (λt=>@Tr.rec B4 (λ_=>Option B4) none (λ_ v _ _ _=>v) t)
  (λ_ ih t=>@Tr.rec B4 (λ_=>Option B4) none (λl _ _ _ _=>ih l) t)
  (λ_ ih t=>@Tr.rec B4 (λ_=>Option B4) none (λ_ _ r _ _=>ih r) t)
def jU:Key->B4->Tr B4->(Tr B4->Bool)->Bool:=
 @Key.rec (λ_=>B4->Tr B4->(Tr B4->Bool)->Bool)
  (λv t k=>@Tr.rec B4 (λ_=>Bool) (k (.n .z (some v) .z)) (λl _ r _ _=>k (.n l (some v) r)) t)
  (λ_ ih v t k=>@Tr.rec B4 (λ_=>Bool) (ih v .z (λl=>k (.n l none .z))) (λl x r _ _=>ih v l (λl=>k (.n l x r))) t)
  (λ_ ih v t k=>@Tr.rec B4 (λ_=>Bool) (ih v .z (λr=>k (.n .z none r))) (λl x r _ _=>ih v r (λr=>k (.n l x r))) t)
def Rg:Key->(Key->Bool)->Bool:=
 @Key.rec (λ_=>(Key->Bool)->Bool) (λk=>k (.o .h)) (λa _ k=>k (.i a)) (λ_ ih k=>ih (λs=>k (.o s)))
def ZV (h:A0) (b:Key) (f:Hj->Bool->Bool->ED->Es->Bool):Bool:=
 @A0.rec (λ_=>Bool) (λmem _=>@Option.rec B4 (λ_=>Bool) false (λx=>@B4.rec (λ_=>Bool) f x) (zY b mem)) h
def Po (h:A0) (b:Key) (f:Ey->Bool):Bool:=
 ZV h b (λbody _ _ _ _=>@Hj.rec (λ_=>Bool) f (λ_=>false) (λ_ _ _=>false) body)
def MB (h:A0) (body:Hj) (k:Key->A0->Bool):Bool:=
 @A0.rec (λ_=>Bool) (λmem next=>jU next ⟨body,true,false,[],[]⟩ mem (λmem=>Rg next (λn=>k next ⟨mem,n⟩))) h
def Vd (x:PV) (f:Key->Nat->Bool) (r:Ey->Bool) (e:Bool):Bool:=@PV.rec (λ_=>(Key->Nat->Bool)->(Ey->Bool)->Bool->Bool) (λ_=>Unit) (λ_=>Unit) (λ_ _ _ e=>e) (λ_ _ _ _ e=>e) (λ_ _ _ e=>e) (λb o f _ _=>f b o) (λ_ _ e=>e) (λ_ _ _ _ _ _ _ e=>e) (λ_ _ e=>e) (λ_ _ _ e=>e) (λ_ _ e=>e) (λ_ _ _ _ _ e=>e) (λ_ _ e=>e) (λ_ _ _ _ _ _ e=>e) (λl _ _ r _=>r l) (λ_ _ _ _ _ _ e=>e) () (λ_ _ _ _=>()) () (λ_ _ _ _=>()) x f r e
def HW (x:PV) (f:IntKind->Int->Bool) (e:Bool):Bool:=@PV.rec (λ_=>(IntKind->Int->Bool)->Bool->Bool) (λ_=>Unit) (λ_=>Unit) (λ_ _ e=>e) (λk n f _=>f k n) (λ_ _ e=>e) (λ_ _ _ e=>e) (λ_ e=>e) (λ_ _ _ _ _ _ e=>e) (λ_ e=>e) (λ_ _ e=>e) (λ_ e=>e) (λ_ _ _ _ e=>e) (λ_ e=>e) (λ_ _ _ _ _ e=>e) (λ_ _ _ e=>e) (λ_ _ _ _ _ e=>e) () (λ_ _ _ _=>()) () (λ_ _ _ _=>()) x f e
def qW (x:PV) (f:Bool->Bool):Bool:=@PV.rec (λ_=>(Bool->Bool)->Bool) (λ_=>Unit) (λ_=>Unit) (λb f=>f b) (λ_ _ _=>false) (λ_ _=>false) (λ_ _ _=>false) (λ_=>false) (λ_ _ _ _ _ _=>false) (λ_=>false) (λ_ _=>false) (λ_=>false) (λ_ _ _ _=>false) (λ_=>false) (λ_ _ _ _ _=>false) (λ_ _ _=>false) (λ_ _ _ _ _=>false) () (λ_ _ _ _=>()) () (λ_ _ _ _=>()) x f
def Abi (x:PV) (f:Key->Nat->Nat->Nat->Bool) (g:Nat->Eu->Bool) (n:Bool):Bool:=@PV.rec (λ_=>(Key->Nat->Nat->Nat->Bool)->(Nat->Eu->Bool)->Bool->Bool) (λ_=>Unit) (λ_=>Unit) (λ_ _ _ _=>false) (λ_ _ _ _ _=>false) (λ_ _ _ _=>false) (λ_ _ _ _ _=>false) (λ_ _ _=>false) (λb o len es _ f _ _=>f b o len es) (λ_ _ n=>n) (λ_ _ _ _=>false) (λ_ _ _=>false) (λ_ _ _ _ _ _=>false) (λ_ _ _=>false) (λes l _ _ _ g _=>g es l) (λ_ _ _ _ _=>false) (λ_ _ _ _ _ _ _=>false) () (λ_ _ _ _=>()) () (λ_ _ _ _=>()) x f g n
def RH:dY:=λa h k=>onV a λx=>Vd x (λb o=>Po h b (MA (λv=>k (.v (.s v)) h) o)) (λl=>@List.rec PV (λ_=>Bool) false (λv _ _=>k (.v (.s v)) h) l) false
def RI (n:Nat):dY:=λa h k=>onV a λx=>Vd x (λb o=>Po h b (dK (λl=>dL n l (λr=>k (.v (.agg r)) h)) o)) (λl=>dL n l (λr=>k (.v (.agg r)) h)) false
def HX:dY:=λa h k=>onV a λx=>Vd x (λb o=>k (.v (.s (.ptr b o))) h) (λl=>k (.v (.s (.rp l))) h) (dfl (Pb [a] h) k)
def RJ (off:Nat):dY:=λa h k=>onV a λx=>Vd x (λb o=>Oz (Nat.add o off) (λo=>k (.v (.s (.ptr b o))) h)) (dK (λl=>k (.v (.s (.rp l))) h) off) false
def ZW:dY:=λa h k=>onV a λx=>Abi x (λ_ _ len _=>k (.int .i64 (.ofNat len)) h) (λ_ l=>Oz (qV l) (λn=>k (.int .i64 (.ofNat n)) h)) (k (.int .i64 (.ofNat 0)) h)
def wD (i:Nat):dY:=λa h k=>@PA.rec (λ_=>Bool) (λ_=>false) (MA (λc=>k (.v c) h) i) a
def kNot:dY:=λa h k=>onV a λx=>qW x λb=>@Bool.rec (λ_=>Bool) (k (.bool true) h) (k (.bool false) h) b
def zZ (c:PC) (f:Ey->Bool):Bool:=@PC.rec (λ_=>Bool) (λx=>f [x]) f c
def kBox (n:Nat):dY:=λa h k=>@PA.rec (λ_=>Bool) (λc=>zZ c λl=>Ja (Nat.beq (qV l) n) (MB h (.cells l) (λb h=>k (.v (.s (.ptr b 0))) h)) false) (λ_=>false) a
def kIsl (es:Nat):jS:=λa i h k=>onV a λx=>onV i λi=>HW i (λ_ i=>@Int.rec (λ_=>Bool) (λi=>
 Abi x (λb o len es'=>Ja (Nat.ble (Nat.succ i) len) (Ja (Nat.beq es es') (Oz (Nat.add o (Nat.mul i es)) (λo=>k (.v (.s (.ptr b o))) h)) false) false)
  (λes' l=>Ja (Nat.beq es es') (MA (λe=>k (.v (.s (.rp e))) h) i l) false) false) (λ_=>false) i) false
def RK (n:Nat):jS:=λa v h k=>onV a λx=>Vd x (λb o=>@PA.rec (λ_=>Bool) (λc=>zZ c λl=>Ja (Nat.beq (qV l) n)
  (@A0.rec (λ_=>Bool) (λmem next=>@Option.rec B4 (λ_=>Bool) false (λx=>@B4.rec (λ_=>Bool) (λbody own frz anc log=>
   @Hj.rec (λ_=>Bool) (λc=>@List.rec Key (λ_=>Bool)
    (Ja own (Ja frz false (RG l o c (λc=>jU b ⟨.cells c,true,false,[],(o,n)::log⟩ mem (λmem=>k .unit ⟨mem,next⟩)))) false)
    (λ_ _ _=>dfl (Qd n [a,v] h) k) anc) (λ_=>false) (λ_ _ _=>false) body) x) (zY b mem)) h) false) (λ_=>false) v) (λ_=>false) false
def RL (k:IntKind):Bool:=@IntKind.rec (λ_=>Bool) false false false true false false false false k
def WH (x y:PV) (f:Nat->Nat->Bool) (e:Bool):Bool:=
 HW x (λkd a=>HW y (λkd' b=>@Bool.rec (λ_=>Bool) e (@Bool.rec (λ_=>Bool) e (@Int.rec (λ_=>Bool) (λa=>@Int.rec (λ_=>Bool) (λb=>f a b) (λ_=>e) b) (λ_=>e) a) (RL kd')) (RL kd)) e) e
def Ve (b:BinOp) (a c:PA) (h:A0) (k:KK):Bool:=dfl (Td b [a,c] h) k
def kAdd:jS:=λa c h k=>onV a λx=>onV c λy=>WH x y (λm n=>Ja (Nat.ble (Nat.add m n) 9223372036854775807) (Oz (Nat.add m n) (λs=>k (.int .i64 (.ofNat s)) h)) (Ve .add a c h k)) (Ve .add a c h k)
def kSub:jS:=λa c h k=>onV a λx=>onV c λy=>WH x y (λm n=>Ja (Nat.ble n m) (Ja (Nat.ble m 9223372036854775807) (Oz (Nat.sub m n) (λs=>k (.int .i64 (.ofNat s)) h)) (Ve .sub a c h k)) (Ve .sub a c h k)) (Ve .sub a c h k)
def EI (b:BinOp) (f:Nat->Nat->Bool):jS:=λa c h k=>onV a λx=>onV c λy=>WH x y (λm n=>@Bool.rec (λ_=>Bool) (k (.bool false) h) (k (.bool true) h) (f m n)) (Ve b a c h k)
def Abj (b:Bool):Bool:=@Bool.rec (λ_=>Bool) true false b
def RM (l:Ey) (m:Ey) (k:Ey->Bool):Bool:=@List.rec PV (λ_=>(Ey->Bool)->Bool) (λk=>k m) (λx _ ih k=>ih (λr=>k (x::r))) l k
def HY (l:Eu) (k:Ey->Bool):Bool:=@List.rec (Ey) (λ_=>(Ey->Bool)->Bool) (λk=>k []) (λx _ ih k=>ih (λr=>RM x r k)) l k
def AcP (x:PV) (f:Key->Nat->Nat->Nat->Bool) (g:Nat->Eu->Bool) (n e:Bool):Bool:=
 @PV.rec (λ_=>(Key->Nat->Nat->Nat->Bool)->(Nat->Eu->Bool)->Bool->Bool->Bool) (λ_=>Unit) (λ_=>Unit) (λ_ _ _ _ e=>e) (λ_ _ _ _ _ e=>e) (λ_ _ _ _ e=>e) (λ_ _ _ _ _ e=>e) (λ_ _ _ e=>e)
  (λb o len es _ f _ _ _=>f b o len es) (λ_ _ n _=>n) (λ_ _ _ _ e=>e) (λ_ _ _ e=>e) (λ_ _ _ _ _ _ e=>e) (λ_ _ _ e=>e) (λes l _ _ _ g _ _=>g es l) (λ_ _ _ _ _ e=>e) (λ_ _ _ _ _ _ _ e=>e) () (λ_ _ _ _=>()) () (λ_ _ _ _=>()) x f g n e
def srcK (es:Nat) (x:PV) (h:A0) (k:Ey->Nat->Bool) (e:Bool):Bool:=
 AcP x (λb o len es'=>Ja (Nat.beq es es') (@Nat.rec (λ_=>Bool) (k [] len) (λm _=>Po h b (dK (λc=>dL (Nat.succ m) c (λl=>k l len)) o)) (Nat.mul len es)) false)
  (λes' l=>Ja (Nat.beq es es') (HY l (λc=>Oz (qV l) (λn=>k c n))) false) (k [] 0) e
def AcR (cap:Option Nat) (a b:Bool):Bool:=@Option.rec Nat (λ_=>Bool) a (λ_=>b) cap
def ZX (h:A0) (b:Key) (o n:Nat) (new:Ey) (k:Key->A0->Bool) (e:Bool):Bool:=
 @A0.rec (λ_=>Bool) (λmem next=>@Option.rec B4 (λ_=>Bool) false (λx=>@B4.rec (λ_=>Bool) (λbody own frz anc log=>
  @Hj.rec (λ_=>Bool) (λc=>Ja own (Ja (Nat.beq (Nat.add o n) (qV c))
   (dK (λd=>dL n d (λd=>RM d new (λd=>jU b ⟨.cells c,false,frz,anc,log⟩ mem (λmem=>jU next ⟨.cells d,true,false,b::anc,[]⟩ mem (λmem=>Rg next (λn=>k next ⟨mem,n⟩)))))) o c) e) false)
   (λ_=>false) (λ_ _ _=>false) body) x) (zY b mem)) h
def AcS (x:PV) (f:Key->Nat->Nat->Nat->Bool) (e n:Bool):Bool:=
 @PV.rec (λ_=>Bool) (λ_=>Unit) (λ_=>Unit) (λ_=>e) (λ_ _=>e) (λ_=>e) (λ_ _=>e) e (λb o len es cap=>AcR cap (f b o len es) e) n (λ_=>e) e (λ_ _ _=>e) e (λ_ _ _ _=>e) (λ_ _=>e) (λ_ _ _ _=>e) () (λ_ _ _ _=>()) () (λ_ _ _ _=>()) x
def HZ (es bytes:Nat):jS:=λa c h k=>onV a λs=>onV c λx=>srcK es x h (λnew n=>Ja (Nat.beq n 0) (dfl (Hu es bytes [a,c] h) k)
  (AcS s (λb o len es'=>Ja (Nat.beq es es') (Ja (room (Nat.add len n) bytes) (ZX h b o (Nat.mul len es) new (λb h=>Oz (Nat.add len n) (λm=>k (.v (.s (.slice b 0 m es none))) h)) (dfl (Hu es bytes [a,c] h) k)) false) false)
   (dfl (Hu es bytes [a,c] h) k)
   (Ja (room n bytes) (MB h (.cells new) (λb h=>k (.v (.s (.slice b 0 n es none))) h)) false))) (dfl (Hu es bytes [a,c] h) k)
abbrev MD:=Ez->A0->KK->Bool
inductive KFN where
 |mk (f:MD)
def onL (l:Option (Ey)) (f:Ey->Bool):Bool:=@Option.rec (Ey) (λ_=>Bool) false f l
def ZY (zs:EB):MD:=λxs h k=>@List.rec PA (λ_=>Bool) (onL (Ny zs) (λl=>MB h (.cells l) (λb h=>k (.v (.s (.ptr b 0))) h))) (λ_ _ _=>false) xs
def eU (es len:Nat) (zero:EB) (places:Es):MD:=λxs h k=>onL (Ny zero) (λz=>onL (dU (M8 z len) places xs) (λcs=>MB h (.cells cs) (λb h=>k (.v (.s (.slice b 0 len es (some len)))) h)))
def kopN:VOp->KFN
 |.Jv zs=>.mk (ZY zs)
 |.J6 es len z p=>.mk (eU es len z p)
 |o=>.mk (λxs h k=>dfl (opP o xs h) k)
inductive KF1 where
 |mk (f:dY)
inductive KF2 where
 |mk (f:jS)
def kop1:VOp->KF1
 |.Fb=>.mk RH
 |.Fl n=>.mk (RI n)
 |.J7=>.mk HX
 |.Ft o=>.mk (RJ o)
 |.lens=>.mk ZW
 |.extract i=>.mk (wD i)
 |.un .not=>.mk kNot
 |.box n=>.mk (kBox n)
 |.J6 es len z p=>.mk (λa h k=>eU es len z p [a] h k)
 |o=>.mk (λa h k=>dfl (opP o [a] h) k)
def ZZ:BinOp->KF2
 |.add=>.mk kAdd
 |.sub=>.mk kSub
 |.eql=>.mk (EI .eql Nat.beq)
 |.neq=>.mk (EI .neq (λm n=>Abj (Nat.beq m n)))
 |.lss=>.mk (EI .lss (λm n=>Nat.ble (Nat.succ m) n))
 |.leq=>.mk (EI .leq Nat.ble)
 |.gtr=>.mk (EI .gtr (λm n=>Nat.ble (Nat.succ n) m))
 |.geq=>.mk (EI .geq (λm n=>Nat.ble n m))
 |b=>.mk (Ve b)
def kop2:VOp->KF2
 |.isl es=>.mk (kIsl es)
 |.append es by'=>.mk (HZ es by')
 |.store n=>.mk (RK n)
 |.bin b=>ZZ b
 |.J6 es len z p=>.mk (λa b h k=>eU es len z p [a,b] h k)
 |o=>.mk (λa b h k=>dfl (opP o [a,b] h) k)
inductive Yd where
 |s (g:Fr->Option PA)
 |c (v:PA)
 |bad
def M3 (x:VX):Yd:=@VX.rec (λ_=>Yd) (λkey=>@Acc.rec (λ_=>Yd) (λg _=>.s g) (acc key)) (λv=>@Option.rec PA (λ_=>Yd) .bad (λv=>.c v) (JL v)) x
def W0 (a:Yd) (fr:Fr) (k:PA->Bool):Bool:=
 @Yd.rec (λ_=>Fr->(PA->Bool)->Bool) (λg fr k=>@Option.rec PA (λ_=>Bool) false k (g fr)) (λv _ k=>k v) (λ_ _=>false) a fr k
abbrev Sz:=PA->Fr->(Fr->Bool)->Bool
inductive nH where
 |mk (p:Sz)
def wE (d:EE):nH:=@Option.rec Key (λ_=>nH) (.mk λ_ fr k=>k fr) (λkey=>@Acc.rec (λ_=>nH) (λ_ p=>.mk p) (acc key)) d
def bU:List VX->Fr->(Ez->Bool)->Bool:=
 @List.rec VX (λ_=>Fr->(Ez->Bool)->Bool) (λ_ k=>k []) (λx _ ih fr k=>W0 (M3 x) fr (λv=>ih fr (λvs=>k (v::vs))))
abbrev I7:=Nat->Ez->A0->KK->Bool
def EJ (call:I7) (args:Ez) (h:A0) (k:KK):Bool:=
 match args with
 |.v (.s (.func f fs cs))::xs=>call f (Y1 fs++xs++Y1 cs) h k
 |_=>false
def Abk (call:I7) (a:Ff) (args:Ez) (h:A0) (k:KK):Bool:=
 @Ff.rec (λ_=>Bool) (λo=>dfl (opP o args h) k) (λf=>call f args h k)
  (EJ call args h k) a
inductive KO where
 |mvS (g:Fr->Option PA) (p:Sz)
 |mvC (v:PA) (p:Sz)
 |o1S (f:dY) (g:Fr->Option PA) (p:Sz)
 |o2SS (f:jS) (g g':Fr->Option PA) (p:Sz)
 |o2 (f:jS) (a b:Yd) (p:Sz)
 |oN (act:Ff) (args:List VX) (p:Sz)
 |oF (f:MD) (args:List VX) (p:Sz)
 |gd (key:Key) (b:Bool) (p:Sz) (o:KO)
def kMov (a:Yd) (x:VX) (p:Sz):KO:=@Yd.rec (λ_=>KO) (λg=>.mvS g p) (λv=>.mvC v p) (.oN (.op .mov) [x] p) a
def kOne (o:VOp) (f:dY) (a:Yd) (x:VX) (p:Sz):KO:=@Yd.rec (λ_=>KO) (λg=>.o1S f g p) (λ_=>.oN (.op o) [x] p) (.oN (.op o) [x] p) a
def kTwo (f:jS) (a b:Yd) (p:Sz):KO:=
 @Yd.rec (λ_=>KO) (λg=>@Yd.rec (λ_=>KO) (λg'=>.o2SS f g g' p) (λv=>.o2 f (.s g) (.c v) p) (.o2 f (.s g) .bad p) b) (λv=>.o2 f (.c v) b p) (.o2 f .bad b p) a
def WI (act:Ff) (args:List VX) (p:Sz):KO:=
 match act,args with
 |.op .mov,[a]=>kMov (M3 a) a p
 |.op o,[a]=>@KF1.rec (λ_=>KO) (λf=>kOne o f (M3 a) a p) (kop1 o)
 |.op o,[a,b]=>@KF2.rec (λ_=>KO) (λf=>kTwo f (M3 a) (M3 b) p) (kop2 o)
 |.op o,args=>@KFN.rec (λ_=>KO) (λf=>.oF f args p) (kopN o)
 |act,args=>.oN act args p
def Pp (o:B3):KO:=@B3.rec (λ_=>KO) (λdst act args _=>@nH.rec (λ_=>KO) (λp=>WI act args p) (wE dst)) o
def Pq (o:B3):KO:=@B3.rec (λ_=>KO) (λdst _ _ guard=>@Option.rec (Key×Bool) (λ_=>KO) (Pp o)
 (λq=>@Prod.rec Key Bool (λ_=>KO) (λkey b=>@nH.rec (λ_=>KO) (λp=>.gd key b p (Pp o)) (wE dst)) q) guard) o
def Abl:List B3->List KO:=@List.rec B3 (λ_=>List KO) [] (λo _ ih=>Pq o::ih)
def AcW (x:PV) (b:Bool) (k:Bool->Bool):Bool:=@PV.rec (λ_=>Bool->(Bool->Bool)->Bool) (λ_=>Unit) (λ_=>Unit) (λc b k=>qU (c==b) k) (λ_ _ _ k=>k false) (λ_ _ k=>k false) (λ_ _ _ k=>k false) (λ_ k=>k false) (λ_ _ _ _ _ _ k=>k false) (λ_ k=>k false) (λ_ _ k=>k false) (λ_ k=>k false) (λ_ _ _ _ k=>k false) (λ_ k=>k false) (λ_ _ _ _ _ k=>k false) (λ_ _ _ k=>k false) (λ_ _ _ _ _ k=>k false) () (λ_ _ _ _=>()) () (λ_ _ _ _=>()) x b k
def Aaa (v:PA) (b:Bool) (k:Bool->Bool):Bool:=@PA.rec (λ_=>Bool->(Bool->Bool)->Bool) (λc=>@PC.rec (λ_=>Bool->(Bool->Bool)->Bool) (λx b k=>AcW x b k) (λ_ _ k=>k false) c) (λ_ _ k=>k false) v b k
def IA (g:Option (Key×Bool)) (fr:Fr) (k:Bool->Bool):Bool:=
 @Option.rec (Key×Bool) (λ_=>Bool) (k true) (λp=>@Prod.rec Key Bool (λ_=>Bool) (λkey b=>W0 (M3 (.t key)) fr (λv=>
  Aaa v b k)) p) g
def Ls:KO->I7->Fr->A0->(Fr->A0->Bool)->Bool:=
 @KO.rec (λ_=>I7->Fr->A0->(Fr->A0->Bool)->Bool)
  (λg p _ fr h k=>@Option.rec PA (λ_=>Bool) false (λv=>p v fr (λfr=>k fr h)) (g fr))
  (λv p _ fr h k=>p v fr (λfr=>k fr h))
  (λf g p _ fr h k=>@Option.rec PA (λ_=>Bool) false (λa=>f a h (λv h=>p v fr (λfr=>k fr h))) (g fr))
  (λf g g' p _ fr h k=>@Option.rec PA (λ_=>Bool) false (λa=>@Option.rec PA (λ_=>Bool) false (λb=>f a b h (λv h=>p v fr (λfr=>k fr h))) (g' fr)) (g fr))
  (λf a b p _ fr h k=>W0 a fr (λa=>W0 b fr (λb=>f a b h (λv h=>p v fr (λfr=>k fr h)))))
  (λact args p call fr h k=>bU args fr (λargs=>Abk call act args h (λv h=>p v fr (λfr=>k fr h))))
  (λf args p _ fr h k=>bU args fr (λargs=>f args h (λv h=>p v fr (λfr=>k fr h))))
  (λkey b p _ ih call fr h k=>IA (some (key,b)) fr (λw=>@Bool.rec (λ_=>Bool) (p .unit fr (λfr=>k fr h)) (ih call fr h k) w))
def Abm (call:I7) (ops:List B3):Fr->A0->(Fr->A0->Bool)->Bool:=
 @List.rec KO (λ_=>I7->Fr->A0->(Fr->A0->Bool)->Bool) (λ_ fr h k=>k fr h) (λo _ ih call fr h k=>Ls o call fr h (λfr h=>go (ih call fr h k))) (Abl ops) call
inductive KD where
 |eff|alc|rd|bl
def qZ (o:VOp):KD:=
 match o.kind with
 |.effect=>.eff
 |.alloc=>.alc
 |.quiet=>if Qg o then .bl else .rd
def Tb (a:Ff):KD:=@Ff.rec (λ_=>KD) qZ (λ_=>.eff) .eff a
inductive KDO where
 |eff (o:KO) (dst:EE)
 |alc (o:KO) (dst:EE)
 |rd (o:KO) (p:Sz) (dst:EE) (g:Option (Key×Bool)) (op:VOp) (args:List VX) (chk:Nat)
 |bl (o:KO) (p:Sz) (dst:EE) (g:Option (Key×Bool)) (args:List VX)
 |effN (o:KO)
 |alcN (o:KO)
 |blN (o:KO)
 |bad
def M4:List DOp->Bool:=@List.rec DOp (λ_=>Bool) false (λd _ ih=>@DOp.rec (λ_=>Bool) (λo _=>@B3.rec (λ_=>Bool) (λ_ act _ _=>@KD.rec (λ_=>Bool) ih ih true ih (Tb act)) o) d)
def kD (d:DOp) (need:Bool):KDO:=
 @DOp.rec (λ_=>KDO) (λo chk=>@B3.rec (λ_=>KDO) (λdst act args guard=>@nH.rec (λ_=>KDO) (λp=>@KD.rec (λ_=>KDO)
  (@Bool.rec (λ_=>KDO) (.effN (Pq o)) (.eff (Pq o) dst) need) (@Bool.rec (λ_=>KDO) (.alcN (Pq o)) (.alc (Pq o) dst) need)
  (@Ff.rec (λ_=>KDO) (λop=>.rd (Pp o) p dst guard op args chk) (λ_=>.bad) .bad act)
  (@Bool.rec (λ_=>KDO) (.blN (Pq o)) (.bl (Pp o) p dst guard args) need) (Tb act)) (wE dst)) o) d
def kDs:List DOp->List KDO:=@List.rec DOp (λ_=>List KDO) [] (λo l ih=>kD o (M4 l)::ih)
abbrev KDK:=Key->Hp->Fr->A0->(Fr->A0->Bool)->Bool
def RN (s s':Hp) (k:Hp->Bool):Bool:=@List.rec (A0×ED) (λ_=>Bool) (k []) (λ_ _ _=>k s') s
def RO (lo hi:Key) (n:Nat) (op:VOp) (az:Ez) (args:List VX) (h:A0) (s:Hp):Bool:=
 @List.rec (A0×ED) (λ_=>Bool) (Ja (Nat.beq n 0) true (H6 lo hi (rdP op az)&&(!rdF op az||S9 h lo n)))
  (λ_ _ _=>H6 lo hi (rdP op az)&&(!rdF op az||S9 h lo n)&&Pd args (rdP op az) (rdF op az) h s) s
def Aab:KDO->I7->Key->Key->Nat->KDK->KDK:=
 @KDO.rec (λ_=>I7->Key->Key->Nat->KDK->KDK)
  (λo dst call _ _ _ ih r A7 fr h k=>Ls o call fr h (λfr h'=>go (ih r (wrote dst (A7++[(h,[])])) fr h' k)))
  (λo dst call _ _ _ ih r A7 fr h k=>@A0.rec (λ_=>Bool) (λmem next=>Ls o call fr ⟨mem,r⟩ (λfr h'=>@A0.rec (λ_=>Bool) (λmem _=>Rg r (λr=>go (ih r (wrote dst A7) fr ⟨mem,next⟩ k))) h')) h)
  (λo p dst g op args chk call lo hi n ih r A7 fr h k=>IA g fr (λw=>@Bool.rec (λ_=>Bool)
   (p .unit fr (λfr=>go (ih r A7 fr h k)))
   (bU args fr (λaz=>Ja (RO lo hi n op az args h (A7.drop chk))
    (Ls o call fr h (λfr _=>RN A7 (Ob dst args (rdP op az) h A7) (λs=>go (ih r s fr h k)))) false)) w))
  (λo p dst g args call _ _ _ ih r A7 fr h k=>IA g fr (λw=>@Bool.rec (λ_=>Bool)
   (p .unit fr (λfr=>go (ih r A7 fr h k)))
   (Ls o call fr h (λfr _=>RN A7 (Ob dst args none h A7) (λs=>go (ih r s fr h k)))) w))
  (λo call _ _ _ ih r _ fr h k=>Ls o call fr h (λfr h'=>go (ih r [] fr h' k)))
  (λo call _ _ _ ih r _ fr h k=>@A0.rec (λ_=>Bool) (λmem next=>Ls o call fr ⟨mem,r⟩ (λfr h'=>@A0.rec (λ_=>Bool) (λmem _=>Rg r (λr=>go (ih r [] fr ⟨mem,next⟩ k))) h')) h)
  (λo call _ _ _ ih r _ fr h k=>Ls o call fr h (λfr _=>go (ih r [] fr h k)))
  (λ_ _ _ _ _ _ _ _ _ _=>false)
def Kq (call:I7) (lo hi:Key) (n:Nat) (ds:List DOp):KDK:=
 @List.rec KDO (λ_=>I7->Key->Key->Nat->KDK) (λ_ _ _ _ _ _ fr h k=>k fr h) (λd _ ih call lo hi n=>Aab d call lo hi n (ih call lo hi n)) (kDs ds) call lo hi n
def EK (args:Ez) (h:A0) (k:Ez->A0->Bool):Bool:=
 @Option.rec (Ez×A0) (λ_=>Bool) false (λp=>@Prod.rec (Ez) A0 (λ_=>Bool) (λv h=>@A0.rec (λ_=>Bool) (λm n=>k v ⟨m,n⟩) h) p) (Fw deep args h)
def IB (a:PA) (h:A0) (k:PA->Bool):Bool:=
 @Option.rec (PA×A0) (λ_=>Bool) false (λp=>@Prod.rec PA A0 (λ_=>Bool) (λv _=>jT v k) p) (G4 deep a h)
abbrev KX:=Fk->Fr->A0->Bool
abbrev KEx:=B7->Fr->A0->KX->Bool
def wF (fr:Fr) (h:A0):List Qb->(List PC->Bool)->Bool:=
 @List.rec Qb (λ_=>(List PC->Bool)->Bool) (λk=>k []) (λr _ ih k=>@Qb.rec (λ_=>Bool)
  (λkey=>W0 (M3 (.t key)) fr (λv=>@PA.rec (λ_=>Bool) (λx=>ih (λl=>k (x::l))) (λ_=>false) v))
  (λkey=>W0 (M3 (.t key)) fr (λv=>onV v λx=>Vd x (λb o=>Po h b (MA (λy=>ih (λl=>k (.s y::l))) o)) (λ_=>false) false))
  (λkey n=>W0 (M3 (.t key)) fr (λv=>onV v λx=>Vd x (λb o=>Po h b (dK (λc=>dL n c (λr=>ih (λl=>k (.agg r::l)))) o)) (λ_=>false) false)) r)
def EL:Ez->Key->Fr->(Fr->Bool)->Bool:=
 @List.rec PA (λ_=>Key->Fr->(Fr->Bool)->Bool) (λ_ fr k=>k fr) (λv _ ih n fr k=>@Acc.rec (λ_=>Bool) (λ_ p=>p v fr (λfr=>Rg n (λn=>ih n fr k))) (acc n))
def IC (F:D5) (ex:KEx):I7:=λf args h k=>
 @Option.rec Gq (λ_=>Bool) false (λvf=>@Gq.rec (λ_=>Bool) (λresults body=>EL args .h Fr.empty (λfr=>go (ex body fr h (λx fr h=>
  @Fk.rec (λ_=>Bool) (wF fr h results (λl=>k (G3 l) h)) (λ_=>false) (wF fr h results (λl=>k (G3 l) h)) x)))) vf) (F f)
def jV (F:D5) (ex:KEx) (f:Nat) (xs:Ez) (k:PA->Bool):Bool:=
 IC F ex f xs .empty (λr g=>IB r g (λr=>k r))
def Xa (F:D5) (K:Y2) (ex:KEx):I7:=λf args h k=>
 @Bool.rec (λ_=>Bool) (IC F ex f args h k)
  (EK args h (λxs h=>@Option.rec PA (λ_=>Bool) (jV F ex f xs (λr=>go (k r h))) (λr=>k r h) (K.ans f xs))) (K.pure f)
def Ms:List DOp->Nat:=@List.rec DOp (λ_=>Nat) 0 (λd _ ih=>@DOp.rec (λ_=>Nat) (λo _=>@B3.rec (λ_=>Nat) (λ_ act _ _=>@KD.rec (λ_=>Nat) ih (Nat.add ih 1) ih ih (Tb act)) o) d)
def rB (n:Nat):Key->(Key->Bool)->Bool:=@Nat.rec (λ_=>Key->(Key->Bool)->Bool) (λx k=>k x) (λ_ ih x k=>Rg x (λx=>ih x k)) n
def jZ (call:KEx->I7):Nat->KEx:=
 @Nat.rec (λ_=>KEx) (λ_ _ _ _=>false)
  (λ_ ih c fr h k=>@B7.rec (λ_=>KEx->Fr->A0->KX->Bool)
   (λ_ fr h k=>k .normal fr h)
   (λops ih fr h k=>Abm (call ih) ops fr h (λfr h=>go (k .normal fr h)))
   (λds ih fr h k=>@A0.rec (λ_=>Bool) (λmem next=>(λn=>rB n next (λhi=>Kq (call ih) next hi n ds next [] fr ⟨mem,hi⟩ (λfr h=>go (k .normal fr h)))) (Ms ds)) h)
   (λa b _ _ ih fr h k=>go (ih a fr h (λx fr h=>@Fk.rec (λ_=>Bool) (go (ih b fr h k)) (λi=>k (.exit i) fr h) (k .ret fr h) x)))
   (λc a b _ _ ih fr h k=>W0 (M3 c) fr (λv=>onV v λx=>qW x λt=>@Bool.rec (λ_=>Bool) (go (ih b fr h k)) (go (ih a fr h k)) t))
   (λid c _ ih fr h k=>go (ih c fr h (λx fr h=>@Fk.rec (λ_=>Bool) (k .normal fr h) (λj=>@Bool.rec (λ_=>Bool) (k (.exit j) fr h) (k .normal fr h) (Nat.beq j id)) (k .ret fr h) x)))
   (λc _ ih fr h k=>go (ih c fr h (λx fr h=>@Fk.rec (λ_=>Bool) (go (ih (.loop c) fr h k)) (λi=>k (.exit i) fr h) (k .ret fr h) x)))
   (λid _ fr h k=>k (.exit id) fr h)
   (λ_ fr h k=>k .ret fr h)
   c ih fr h k)
def runK (F:D5) (K:Y2) (n f:Nat) (xs:Ez) (k:PA->Bool):Bool:=jV F (jZ (Xa F K) n) f xs k
def Abx:EF->EF->Bool:=
 @List.rec Nat (λ_=>EF->Bool) (λl=>@List.rec Nat (λ_=>Bool) true (λ_ _ _=>false) l)
  (λa _ ih l=>@List.rec Nat (λ_=>Bool) false (λb m _=>Ja (Nat.beq a b) (ih m) false) l)
def eqI (a b:Int):Bool:=
 @Int.rec (λ_=>Bool) (λm=>@Int.rec (λ_=>Bool) (λn=>Nat.beq m n) (λ_=>false) b) (λm=>@Int.rec (λ_=>Bool) (λ_=>false) (λn=>Nat.beq m n) b) a
def eqK (a b:IntKind):Bool:=
 @IntKind.rec (λ_=>Bool) (@IntKind.rec (λ_=>Bool) true false false false false false false false b) (@IntKind.rec (λ_=>Bool) false true false false false false false false b)
  (@IntKind.rec (λ_=>Bool) false false true false false false false false b) (@IntKind.rec (λ_=>Bool) false false false true false false false false b) (@IntKind.rec (λ_=>Bool) false false false false true false false false b)
  (@IntKind.rec (λ_=>Bool) false false false false false true false false b) (@IntKind.rec (λ_=>Bool) false false false false false false true false b) (@IntKind.rec (λ_=>Bool) false false false false false false false true b) a
def eqB (a b:Bool):Bool:=@Bool.rec (λ_=>Bool) (Abj b) b a
def EN:Bool->PV->Bool:=λb y=>@PV.casesOn (λ_=>Bool) y (λc=>eqB b c) (λ_ _=>false) (λ_=>false) (λ_ _=>false) false (λ_ _ _ _ _=>false) false (λ_=>false) false (λ_ _ _=>false) false (λ_ _ _=>false) (λ_=>false) (λ_ _=>false)
def RZ:IntKind->Int->PV->Bool:=λk n y=>@PV.casesOn (λ_=>Bool) y (λ_=>false) (λk' m=>Ja (eqK k k') (eqI n m) false) (λ_=>false) (λ_ _=>false) false (λ_ _ _ _ _=>false) false (λ_=>false) false (λ_ _ _=>false) false (λ_ _ _=>false) (λ_=>false) (λ_ _=>false)
def SA:EF->PV->Bool:=λl y=>@PV.casesOn (λ_=>Bool) y (λ_=>false) (λ_ _=>false) (λm=>Abx l m) (λ_ _=>false) false (λ_ _ _ _ _=>false) false (λ_=>false) false (λ_ _ _=>false) false (λ_ _ _=>false) (λ_=>false) (λ_ _=>false)
def SB:Key->Nat->PV->Bool:=λ_ _ _=>false
def EO:PV->Bool:=λy=>@PV.casesOn (λ_=>Bool) y (λ_=>false) (λ_ _=>false) (λ_=>false) (λ_ _=>false) (true) (λ_ _ _ _ _=>false) false (λ_=>false) false (λ_ _ _=>false) false (λ_ _ _=>false) (λ_=>false) (λ_ _=>false)
def rK:Key->Nat->Nat->Nat->Option Nat->PV->Bool:=λ_ _ _ _ _ _=>false
def EP:PV->Bool:=λy=>@PV.casesOn (λ_=>Bool) y (λ_=>false) (λ_ _=>false) (λ_=>false) (λ_ _=>false) false (λ_ _ _ _ _=>false) (true) (λ_=>false) false (λ_ _ _=>false) false (λ_ _ _=>false) (λ_=>false) (λ_ _=>false)
def SC:Key->PV->Bool:=λ_ _=>false
def ER:PV->Bool:=λy=>@PV.casesOn (λ_=>Bool) y (λ_=>false) (λ_ _=>false) (λ_=>false) (λ_ _=>false) false (λ_ _ _ _ _=>false) false (λ_=>false) (true) (λ_ _ _=>false) false (λ_ _ _=>false) (λ_=>false) (λ_ _=>false)
def ES:Nat->List (Key×Nat)->List (Key×Nat)->PV->Bool:=λ_ _ _ _=>false
def ET:PV->Bool:=λy=>@PV.casesOn (λ_=>Bool) y (λ_=>false) (λ_ _=>false) (λ_=>false) (λ_ _=>false) false (λ_ _ _ _ _=>false) false (λ_=>false) false (λ_ _ _=>false) (true) (λ_ _ _=>false) (λ_=>false) (λ_ _=>false)
def SD:Nat->Eu->Option Nat->(Eu->Bool)->PV->Bool:=λes _ cap ih y=>@PV.casesOn (λ_=>Bool) y (λ_=>false) (λ_ _=>false) (λ_=>false) (λ_ _=>false) false (λ_ _ _ _ _=>false) false (λ_=>false) false (λ_ _ _=>false) false (λes' l' cap'=>Ja (Nat.beq es es') (@Option.rec Nat (λ_=>Bool) (@Option.rec Nat (λ_=>Bool) (ih l') (λ_=>false) cap') (λ_=>false) cap) false) (λ_=>false) (λ_ _=>false)
def Aby:Ey->(Ey->Bool)->PV->Bool:=λ_ ih y=>@PV.casesOn (λ_=>Bool) y (λ_=>false) (λ_ _=>false) (λ_=>false) (λ_ _=>false) false (λ_ _ _ _ _=>false) false (λ_=>false) false (λ_ _ _=>false) false (λ_ _ _=>false) (λl'=>ih l') (λ_ _=>false)
def Abz:Ey->Ey->(Ey->Bool)->(Ey->Bool)->PV->Bool:=λ_ _ _ _ _=>false
def Ab0:Eu->Bool:=λl=>@List.rec (Ey) (λ_=>Bool) true (λ_ _ _=>false) l
def Ab1:Ey->Eu->(Ey->Bool)->(Eu->Bool)->Eu->Bool:=λ_ _ ih1 ih2 l=>@List.rec (Ey) (λ_=>Bool) false (λb m _=>Ja (ih1 b) (ih2 m) false) l
def q_n:Ey->Bool:=λl=>@List.rec PV (λ_=>Bool) true (λ_ _ _=>false) l
def q_c:PV->Ey->(PV->Bool)->(Ey->Bool)->Ey->Bool:=λ_ _ ih1 ih2 l=>@List.rec PV (λ_=>Bool) false (λb m _=>Ja (ih1 b) (ih2 m) false) l
def eqV (x:PV):PV->Bool:=@PV.rec (λ_=>PV->Bool) (λ_=>Eu->Bool) (λ_=>Ey->Bool) EN RZ SA SB EO rK EP SC ER ES ET SD Aby Abz Ab0 Ab1 q_n q_c x
def eqLL (x:Eu):Eu->Bool:=@PV.rec_1 (λ_=>PV->Bool) (λ_=>Eu->Bool) (λ_=>Ey->Bool) EN RZ SA SB EO rK EP SC ER ES ET SD Aby Abz Ab0 Ab1 q_n q_c x
def WU (x:Ey):Ey->Bool:=@PV.rec_2 (λ_=>PV->Bool) (λ_=>Eu->Bool) (λ_=>Ey->Bool) EN RZ SA SB EO rK EP SC ER ES ET SD Aby Abz Ab0 Ab1 q_n q_c x
def eqC (x y:PC):Bool:=@PC.rec (λ_=>Bool) (λa=>@PC.rec (λ_=>Bool) (λb=>eqV a b) (λ_=>false) y) (λl=>@PC.rec (λ_=>Bool) (λ_=>false) (λm=>WU l m) y) x
def Ab2:List PC->List PC->Bool:=
 @List.rec PC (λ_=>List PC->Bool) (λl=>@List.rec PC (λ_=>Bool) true (λ_ _ _=>false) l)
  (λa _ ih l=>@List.rec PC (λ_=>Bool) false (λb m _=>Ja (eqC a b) (ih m) false) l)
def eqA (x y:PA):Bool:=@PA.rec (λ_=>Bool) (λa=>@PA.rec (λ_=>Bool) (λb=>eqC a b) (λ_=>false) y) (λl=>@PA.rec (λ_=>Bool) (λ_=>false) (λm=>Ab2 l m) y) x
def SE:Ez->Ez->Bool:=
 @List.rec PA (λ_=>Ez->Bool) (λl=>@List.rec PA (λ_=>Bool) true (λ_ _ _=>false) l)
  (λa _ ih l=>@List.rec PA (λ_=>Bool) false (λb m _=>Ja (eqA a b) (ih m) false) l)
def Ab3 {α:Type}:Key->Tr α->Option α:=
 @Key.rec (λ_=>Tr α->Option α)
  (λt=>@Tr.rec α (λ_=>Option α) none (λ_ v _ _ _=>v) t)
  (λ_ ih t=>@Tr.rec α (λ_=>Option α) none (λl _ _ _ _=>ih l) t)
  (λ_ ih t=>@Tr.rec α (λ_=>Option α) none (λ_ _ r _ _=>ih r) t)
abbrev Ent:=List (Ez×PA)
def SF (xs:Ez):Ent->Option PA:=
 @List.rec (Ez×PA) (λ_=>Option PA) none (λq _ ih=>@Prod.rec (Ez) PA (λ_=>Option PA) (λys r=>@Bool.rec (λ_=>Option PA) ih (some r) (SE xs ys)) q)
def known (pure:Tr Bool) (tab:Tr Ent):Y2 where
 pure f:=@Option.rec Bool (λ_=>Bool) false (λb=>b) (Ab3 (kn f) pure)
 ans f xs:=@Option.rec Ent (λ_=>Option PA) none (λl=>SF xs l) (Ab3 (kn f) tab)
end Go.Pv.K
end
