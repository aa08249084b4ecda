/- A part of the proof that the law CountLooseRanks answers true. No condition. -/
import GoSem.Dispatch
import Derived.Orders
set_option linter.unusedVariables false
set_option linter.unusedSimpArgs false
set_option linter.unusedSectionVars false
section
noncomputable section
theorem Zl {n:Nat}:0≤n:=Nat.zero_le n
theorem Rl {n:Nat}:n≤n:=Nat.le_refl n
theorem Zm (n:Nat):0≤n:=Nat.zero_le n
theorem Rm (n:Nat):n≤n:=Nat.le_refl n
theorem Sj.{u} {α:Type u} (a b:α):(some a=some b)=(a=b):=Option.some.injEq a b
theorem Pj.{u,v} {α:Type u} {β:Type v} (a:α) (b:β) (c:α) (d:β):((a,b)=(c,d))=(a=c∧b=d):=Prod.mk.injEq a b c d
theorem Gg.{u} {α:Type u} {l:List α} {i:Nat} (h:i<l.length):l[i]?=some l[i]:=List.getElem?_eq_getElem h
theorem Gi.{u} {α:Type u} {l:List α} {i:Nat} {a:α}:l[i]?=some a↔∃h:i<l.length,l[i]=a:=List.getElem?_eq_some_iff
theorem Lm.{u,v} {α:Type u} {β:Type v} {l:List α} (f:α→β):(l.map f).length=l.length:=List.length_map f
theorem La.{u} {α:Type u} {l m:List α}:(l++m).length=l.length+m.length:=List.length_append
theorem Fj:(false=true)=False:=Bool.false_eq_true
namespace Go.Vm
inductive Key where
 |h|o (k:Key)|i (k:Key)
 deriving DecidableEq,Inhabited,Repr
namespace Key
noncomputable def succ (k:Key):Key:=@Key.rec (fun _=>Key) (.o .h) (fun k _=>.i k) (fun _ ih=>.o ih) k
theorem NT (k:Key):succ (.i k)=.o k.succ:=rfl
def toNat:Key→Nat
 |.h=>0
 |.o k=>2*k.toNat+1
 |.i k=>2*k.toNat+2
noncomputable def kn:Nat→Key
 |0=>.h
 |n+1=>(kn n).succ
theorem toNat_succ:∀k:Key,k.succ.toNat=k.toNat+1
 |.h=>rfl
 |.o _=>rfl
 |.i k=>by simp[NT,toNat,toNat_succ k];omega
theorem toNat_kn:∀n,(kn n).toNat=n
 |0=>rfl
 |n+1=>by simp[kn,toNat_succ,toNat_kn n]
theorem toNat_inj:∀{a b:Key},a.toNat=b.toNat→a=b
 |.h,.h,_=>rfl
 |.h,.o _,e=>by simp[toNat] at e
 |.h,.i _,e=>by simp[toNat] at e
 |.o _,.h,e=>by simp[toNat] at e
 |.o a,.o b,e=>by have:=toNat_inj (a:=a) (b:=b) (by simp[toNat] at e;omega);rw[this]
 |.o _,.i _,e=>by simp[toNat] at e;omega
 |.i _,.h,e=>by simp[toNat] at e
 |.i _,.o _,e=>by simp[toNat] at e;omega
 |.i a,.i b,e=>by have:=toNat_inj (a:=a) (b:=b) (by simp[toNat] at e;omega);rw[this]
theorem Ff (k:Key):kn k.toNat=k:=toNat_inj (toNat_kn _)
theorem NU {a b:Nat} (e:kn a=kn b):a=b:=by rw[←toNat_kn a,←toNat_kn b,e]
end Key
open Key (kn)
inductive Tr (α:Type) where
 |z|n (l:Tr α) (v:Option α) (r:Tr α)
 deriving Inhabited,Repr
namespace Tr
variable {α:Type}
noncomputable def get (t:Tr α):Key→Option α:=@Tr.rec α (fun _=>Key→Option α) (fun _=>none) (fun _ v _ il ir k=>@Key.rec (fun _=>Option α) v (fun k _=>il k) (fun k _=>ir k) k) t
noncomputable def Zi (v:Option α) (k:Key):Tr α:=@Key.rec (fun _=>Tr α) (.n .z v .z) (fun _ ih=>.n ih none .z) (fun _ ih=>.n .z none ih) k
noncomputable def upd (t:Tr α):Key→Option α→Tr α:=@Tr.rec α (fun _=>Key→Option α→Tr α) (fun k v=>Zi v k) (fun l x r il ir k v=>@Key.rec (fun _=>Tr α) (.n l v r) (fun k _=>.n (il k v) x r) (fun k _=>.n l x (ir k v)) k) t
theorem NV (v:Option α) (k:Key):Zi v (.o k)=.n (Zi v k) none .z:=rfl
theorem NW (v:Option α) (k:Key):Zi v (.i k)=.n .z none (Zi v k):=rfl
theorem tP (k:Key) (v:Option α):(Tr.z:Tr α).upd k v=Zi v k:=rfl
theorem MK (l:Tr α) (x:Option α) (r:Tr α) (k:Key) (v:Option α):(Tr.n l x r).upd (.o k) v=.n (l.upd k v) x r:=rfl
theorem ML (l:Tr α) (x:Option α) (r:Tr α) (k:Key) (v:Option α):(Tr.n l x r).upd (.i k) v=.n l x (r.upd k v):=rfl
@[simp] theorem lD (k:Key):(Tr.z:Tr α).get k=none:=rfl
theorem Lb (v:Option α):∀k,(Zi v k).get k=v
 |.h=>rfl
 |.o k=>Lb v k
 |.i k=>Lb v k
theorem O0 (v:Option α):∀{k j:Key},k≠j→(Zi v k).get j=none
 |.h,.h,e=>absurd rfl e
 |.h,.o _,_=>rfl
 |.h,.i _,_=>rfl
 |.o _,.h,_=>rfl
 |.o k,.o j,e=>O0 v (k:=k) (j:=j) (fun x=>e (by rw[x]))
 |.o _,.i _,_=>rfl
 |.i _,.h,_=>rfl
 |.i _,.o _,_=>rfl
 |.i k,.i j,e=>O0 v (k:=k) (j:=j) (fun x=>e (by rw[x]))
theorem Iz (v:Option α):∀(t:Tr α) (k:Key),(t.upd k v).get k=v
 |.z,k=>Lb v k
 |.n _ _ _,.h=>rfl
 |.n l _ _,.o k=>Iz v l k
 |.n _ _ r,.i k=>Iz v r k
theorem Si (v:Option α):∀(t:Tr α) {k j:Key},k≠j→(t.upd k v).get j=t.get j
 |.z,k,j,e=>by rw[tP,O0 v e,lD]
 |.n _ _ _,.h,.h,e=>absurd rfl e
 |.n _ _ _,.h,.o _,_=>rfl
 |.n _ _ _,.h,.i _,_=>rfl
 |.n _ _ _,.o _,.h,_=>rfl
 |.n l _ _,.o k,.o j,e=>Si v l (fun x=>e (by rw[x]))
 |.n _ _ _,.o _,.i _,_=>rfl
 |.n _ _ _,.i _,.h,_=>rfl
 |.n _ _ _,.i _,.o _,_=>rfl
 |.n _ _ r,.i k,.i j,e=>Si v r (fun x=>e (by rw[x]))
theorem Av (v:Option α) (t:Tr α) (k j:Key):(t.upd k v).get j=if k=j then v else t.get j:=by
 split
 ·next e=>subst e;exact Iz v t k
 ·next e=>exact Si v t e
theorem Lc (v u:Option α):∀{k j:Key},k≠j→(Zi v k).upd j u=(Zi u j).upd k v
 |.h,.h,e=>absurd rfl e
 |.h,.o _,_=>rfl
 |.h,.i _,_=>rfl
 |.o _,.h,_=>rfl
 |.o k,.o j,e=>by simp only[NV,MK];rw[Lc v u (k:=k) (j:=j) (fun x=>e (by rw[x]))]
 |.o _,.i _,_=>rfl
 |.i _,.h,_=>rfl
 |.i _,.o _,_=>rfl
 |.i k,.i j,e=>by simp only[NW,ML];rw[Lc v u (k:=k) (j:=j) (fun x=>e (by rw[x]))]
theorem O1 (v u:Option α):∀(t:Tr α) {k j:Key},k≠j→(t.upd k v).upd j u=(t.upd j u).upd k v
 |.z,k,j,e=>Lc v u e
 |.n _ _ _,.h,.h,e=>absurd rfl e
 |.n _ _ _,.h,.o _,_=>rfl
 |.n _ _ _,.h,.i _,_=>rfl
 |.n _ _ _,.o _,.h,_=>rfl
 |.n l _ _,.o k,.o j,e=>by simp only[MK];rw[O1 v u l (k:=k) (j:=j) (fun x=>e (by rw[x]))]
 |.n _ _ _,.o _,.i _,_=>rfl
 |.n _ _ _,.i _,.h,_=>rfl
 |.n _ _ _,.i _,.o _,_=>rfl
 |.n _ _ r,.i k,.i j,e=>by simp only[ML];rw[O1 v u r (k:=k) (j:=j) (fun x=>e (by rw[x]))]
def Co (t:Tr α) (n:Nat):List α→Tr α
 |[]=>t
 |v::l=>(t.upd (kn n) (some v)).Co (n+1) l
theorem B0 (l:List α):∀(t:Tr α) (n j:Nat),(t.Co n l).get (kn j)=if n≤j∧j<n+l.length then l[j-n]? else t.get (kn j):=by
 induction l with
 |nil=>intro t n j;simp[Co];omega
 |cons v l ih=>
  intro t n j
  rw[Co,ih]
  by_cases h1:n+1≤j∧j<n+1+l.length
  ·rw[if_pos h1,if_pos (by simp;omega)]
   obtain⟨m,rfl⟩:∃m,j=n+1+m:=⟨j-n-1,by omega⟩
   rw[show n+1+m-(n+1)=m from by omega,show n+1+m-n=m+1 from by omega];rfl
  ·rw[if_neg h1,Av]
   by_cases h2:n=j
   ·subst h2;simp
   ·rw[if_neg (fun e=>h2 (Key.NU e)),if_neg (by simp;omega)]
end Tr
inductive SV where
 |bool (b:Bool)
 |int (k:IntKind) (n:Int)
 |str (l:List Nat)
 |ptr (b:Key) (o:Nat)
 |Eb
 |slice (b:Key) (o len es:Nat) (cap:Option Nat)
 |Af
 |map (b:Key)
 |Dv
 |func (f:Nat) (first cap:List (Key×Nat))
 |Fe
 deriving DecidableEq,Inhabited,Repr
inductive CV where
 |s (x:SV)
 |agg (cs:List SV)
 deriving DecidableEq,Inhabited,Repr
inductive AV where
 |v (x:CV)
 |tup (xs:List CV)
 deriving DecidableEq,Inhabited,Repr
def CV.cells:CV→List SV
 |.s x=>[x]
 |.agg cs=>cs
inductive Body where
 |cells (c:Tr SV) (size:Nat)
 |map (l:List (CV×CV))
 |iter (m:Key) (n:Nat) (st:Nat)
 |eH (l:List Nat) (pos:Nat)
 deriving Inhabited,Repr
structure Blk where
 body:Body
 own:Bool
 anc:List Key
 deriving Inhabited,Repr
structure Ac where
 mem:Tr Blk
 next:Key
 deriving Inhabited,Repr
namespace Ac
def get (h:Ac) (b:Key):Option Blk:=h.mem.get b
def upd (h:Ac) (b:Key) (x:Option Blk):Ac:={ h with mem:=h.mem.upd b x }
def Bb (h:Ac):List Key→Ac
 |[]=>h
 |b::l=>(h.upd b none).Bb l
def Bs (h:Ac) (x:Blk):Ac:={ mem:=h.mem.upd h.next (some x),next:=h.next.succ }
def new (h:Ac) (x:Body):Key×Ac:=(h.next,h.Bs ⟨x,true,[]⟩)
end Ac
end Go.Vm

end
section
noncomputable section
namespace Go.Vm
open Key (kn)
inductive VX where
 |t (k:Key)
 |c (v:AV)
 deriving Inhabited
inductive Ew where
 |bool|int|str
 deriving DecidableEq,Inhabited
inductive G7 where
 |one (k:Ew)
 |agg (ks:List Ew)
 deriving DecidableEq,Inhabited
inductive EqK where
 |bool|ptr|slice|map|func
 |agg (ks:List Ew)
 deriving DecidableEq,Inhabited
inductive SlK where
 |str
 |slice (es:Nat)
 |arr (n es:Nat)
 deriving Inhabited
inductive VOp where
 |mov
 |pick
 |Fg (zs:List SV)
 |box (n:Nat)
 |build (zero:List SV) (places:List (Nat×Nat))
 |Gn (es len:Nat) (zero:List SV) (places:List (Nat×Nat))
 |Bm
 |B5 (n:Nat)
 |store (n:Nat)
 |Gp
 |bin (b:BinOp)
 |eq (neg:Bool) (k:EqK)
 |un (u:UnOp)
 |conv (k:IntKind)
 |s2b
 |b2s
 |Nc (f:Nat) (nfirst:Nat)
 |Oi
 |Ko (es bytes:Nat) (zero:List SV)
 |slice (k:SlK) (lo hi mx:Bool)
 |B8 (off:Nat)
 |field (off:Nat) (n:Option Nat)
 |pV (n es:Nat)
 |isl (es:Nat)
 |idx (n es:Nat) (m:Option Nat)
 |pW
 |lookup (ks:G7) (zero:CV) (ok:Bool)
 |Gq (ks:G7)
 |extract (i:Nat)
 |lens|Ld|Lh (n:Nat)|dV
 |cap
 |Jk (isMax:Bool)
 |append (es bytes:Nat)
 |copy (es:Nat)
 |Hd|Md|He
 |gR|tQ
 |bad
 deriving Inhabited
namespace AV
abbrev int (k:IntKind) (n:Int):AV:=.v (.s (.int k n))
abbrev bool (b:Bool):AV:=.v (.s (.bool b))
abbrev sv (x:SV):AV:=.v (.s x)
abbrev unit:AV:=.tup []
end AV
def Nf (b:BinOp) (k:IntKind) (x y:Int):Option SV:=
 match b with
 |.add=>some (.int k (k.wrap (x+y)))
 |.sub=>some (.int k (k.wrap (x-y)))
 |.mul=>some (.int k (k.wrap (x*y)))
 |.quo=>if y=0 then none else some (.int k (k.wrap (x.tdiv y)))
 |.rem=>if y=0 then none else some (.int k (x.tmod y))
 |.and=>some (.int k (k.wrap (BitVec.ofInt k.bits x &&& BitVec.ofInt k.bits y).toNat))
 |.or=>some (.int k (k.wrap (BitVec.ofInt k.bits x ||| BitVec.ofInt k.bits y).toNat))
 |.xor=>some (.int k (k.wrap (BitVec.ofInt k.bits x ^^^ BitVec.ofInt k.bits y).toNat))
 |.andNot=>some (.int k (k.wrap (BitVec.ofInt k.bits x &&& ~~~(BitVec.ofInt k.bits y)).toNat))
 |.eql=>some (.bool (x==y))
 |.neq=>some (.bool (x !=y))
 |.lss=>some (.bool (decide (x<y)))
 |.leq=>some (.bool (decide (x≤y)))
 |.gtr=>some (.bool (decide (x>y)))
 |.geq=>some (.bool (decide (x≥y)))
 |_=>none
def Zj (b:BinOp) (k:IntKind) (x y:Int):Option SV:=
 if y<0 then none else
 match b with
 |.shl=>some (.int k (k.wrap (x*2 ^ (min y.toNat k.bits))))
 |.shr=>some (.int k (x.fdiv (2 ^ (min y.toNat k.bits))))
 |_=>none
def I0:List Nat→List Nat→Bool
 |_,[]=>false
 |[],_::_=>true
 |a::x,b::y=>Nat.blt a b||(Nat.beq a b&&I0 x y)
def gS (b:BinOp) (x y:List Nat):Option SV:=
 match b with
 |.add=>if x.length+y.length≤9223372036854775807 then some (.str (x++y)) else none
 |.eql=>some (.bool (x==y))
 |.neq=>some (.bool (!(x==y)))
 |.lss=>some (.bool (I0 x y))
 |.leq=>some (.bool (I0 x y||x==y))
 |.gtr=>some (.bool (!(I0 x y||x==y)))
 |.geq=>some (.bool (!(I0 x y)))
 |_=>none
def Kp:BinOp→Bool
 |.shl|.shr=>true
 |_=>false
def Ti (b:BinOp) (x y:SV):Option SV:=
 match x,y with
 |.int k a,.int k' c=>if Kp b then Zj b k a c else if k=k' then Nf b k a c else none
 |.str a,.str c=>gS b a c
 |_,_=>none
def Vi (k:Ew) (x y:SV):Option Bool:=
 match k,x,y with
 |.bool,.bool a,.bool b=>some (a==b)
 |.int,.int k a,.int k' b=>if k=k' then some (a==b) else none
 |.str,.str a,.str b=>some (a==b)
 |_,_,_=>none
def Bi:List Ew→List SV→List SV→Option Bool
 |[],[],[]=>some true
 |k::ks,x::xs,y::ys=>match Vi k x y with
  |some r=>match Bi ks xs ys with
   |some q=>some (r&&q)
   |none=>none
  |none=>none
 |_,_,_=>none
def lE (ks:G7) (x y:CV):Option Bool:=
 match ks,x,y with
 |.one k,.s a,.s b=>Vi k a b
 |.agg ks,.agg a,.agg b=>Bi ks a b
 |_,_,_=>none
def HK (k:EqK) (x y:CV):Option Bool:=
 match k,x,y with
 |.bool,.s (.bool a),.s (.bool b)=>some (a==b)
 |.ptr,.s .Eb,.s .Eb=>some true
 |.ptr,.s .Eb,.s (.ptr _ _)=>some false
 |.ptr,.s (.ptr _ _),.s .Eb=>some false
 |.slice,.s .Af,.s .Af=>some true
 |.slice,.s .Af,.s (.slice ..)=>some false
 |.slice,.s (.slice ..),.s .Af=>some false
 |.map,.s .Dv,.s .Dv=>some true
 |.map,.s .Dv,.s (.map _)=>some false
 |.map,.s (.map _),.s .Dv=>some false
 |.func,.s .Fe,.s .Fe=>some true
 |.func,.s .Fe,.s (.func ..)=>some false
 |.func,.s (.func ..),.s .Fe=>some false
 |.agg ks,.agg a,.agg b=>Bi ks a b
 |_,_,_=>none
def HL (u:UnOp) (x:SV):Option SV:=
 match u,x with
 |.neg,.int k n=>some (.int k (k.wrap (0-n)))
 |.xor,.int k n=>some (.int k (k.wrap (BitVec.ofInt k.bits (if k.signed then -1 else k.max) ^^^ BitVec.ofInt k.bits n).toNat))
 |.not,.bool b=>some (.bool !b)
 |_,_=>none
def Body.ofList (l:List SV):Body:=.cells (Tr.z.Co 0 l) l.length
def Jl (c:Tr SV):Nat→Nat→Option (List SV)
 |_,0=>some []
 |o,n+1=>match c.get (kn o) with
  |some v=>match Jl c (o+1) n with
   |some l=>some (v::l)
   |none=>none
  |none=>none
namespace Ac
def cells (h:Ac) (b:Key):Option (Tr SV×Nat):=
 match h.get b with
 |some ⟨.cells c n,_,_⟩=>some (c,n)
 |_=>none
def read (h:Ac) (b:Key) (o n:Nat):Option (List SV):=
 if n=0 then some [] else
 match h.cells b with
 |some (c,m)=>if o+n≤m then Jl c o n else none
 |none=>none
def write (h:Ac) (b:Key) (o:Nat) (l:List SV):Option Ac:=
 match h.get b with
 |some ⟨.cells c m,true,anc⟩=>
  if o+l.length≤m then some ((h.Bb anc).upd b (some ⟨.cells (c.Co o l) m,true,[]⟩)) else none
 |_=>none
def copied (c:Tr SV) (m o k:Nat) (new:List SV):Option Body:=
 if o+k≤m then
  if o=0 then some (.cells (c.Co k new) (k+new.length)) else
  match Jl c o k with
  |some old=>some (Body.ofList (old++new))
  |none=>none
 else none
def renew (h:Ac) (b:Key) (o k:Nat) (new:List SV):Option (Key×Ac):=
 if k=0 then some (h.new (Body.ofList new)) else
 match h.cells b with
 |some (c,m)=>match copied c m o k new with
  |some body=>some (h.new body)
  |none=>none
 |none=>none
def grow (h:Ac) (b:Key) (o k:Nat) (new:List SV):Option (Key×Ac):=
 match h.get b with
 |some ⟨.cells c m,true,anc⟩=>
  match copied c m o k new with
  |some body=>
   if o+k=m then some (h.next,(h.upd b (some ⟨.cells c m,false,anc⟩)).Bs ⟨body,true,b::anc⟩)
   else some (h.next,((h.Bb anc).upd b none).Bs ⟨body,true,[]⟩)
  |none=>none
 |_=>none
end Ac
def Ii:List SV→List (Nat×Nat)→List AV→Option (List SV)
 |cs,[],[]=>some cs
 |cs,(o,n)::ps,.v x::xs=>
  if x.cells.length=n∧o+n≤cs.length then Ii (cs.take o++x.cells++cs.drop (o+n)) ps xs else none
 |_,_,_=>none
def Ey (zero:List SV):Nat→List SV
 |0=>[]
 |n+1=>zero++Ey zero n
def Sk (cs:List SV) (o:Nat):Option Nat→Option CV
 |none=>match cs[o]? with
  |some x=>some (.s x)
  |none=>none
 |some n=>if o+n≤cs.length then some (.agg ((cs.drop o).take n)) else none
def pX:List AV→Option (List (Key×Nat))
 |[]=>some []
 |.v (.s (.ptr b o))::l=>match pX l with
  |some r=>some ((b,o)::r)
  |none=>none
 |_=>none
def Fp (ks:G7) (k:CV):Bool:=
 match ks,k with
 |.one _,.s _=>true
 |.agg l,.agg cs=>cs.length==l.length
 |_,_=>false
def O2 (ks:G7) (k:CV):List (CV×CV)→Option (Option CV)
 |[]=>some none
 |(x,v)::l=>match lE ks k x with
  |some true=>some (some v)
  |some false=>O2 ks k l
  |none=>none
def Wz (ks:G7) (k v:CV):List (CV×CV)→Option (List (CV×CV))
 |[]=>some [(k,v)]
 |(x,u)::l=>match lE ks k x with
  |some true=>some ((x,v)::l)
  |some false=>match Wz ks k v l with
   |some r=>some ((x,u)::r)
   |none=>none
  |none=>none
def Sl:Bool→List AV→Option (Option Int×List AV)
 |false,xs=>some (none,xs)
 |true,.v (.s (.int _ n))::xs=>some (some n,xs)
 |true,_=>none
def Tj (lo hi mx:Bool) (xs:List AV):Option (Option Int×Option Int×Option Int):=
 match Sl lo xs with
 |some (a,xs)=>match Sl hi xs with
  |some (b,xs)=>match Sl mx xs with
   |some (c,[])=>some (a,b,c)
   |_=>none
  |none=>none
 |none=>none
def bnd (x:Option Int) (top dflt:Nat):Option Nat:=
 match x with
 |none=>some dflt
 |some v=>if 0≤v∧v≤(top:Int) then some v.toNat else none
def bounds (len:Nat) (cap:Option Nat) (bs:Option Int×Option Int×Option Int):Option (Nat×Nat×Option Nat):=
 match bnd bs.2.2 (cap.getD len) (cap.getD len) with
 |none=>none
 |some m=>match bnd bs.2.1 m len with
  |none=>none
  |some h=>match bnd bs.1 h 0 with
   |none=>none
   |some l=>some (l,h-l,if bs.2.2.isSome||cap.isSome then some (m-l) else none)
def Jm (isMax:Bool) (k:IntKind) (x:Int):List AV→Option SV
 |[]=>some (.int k x)
 |.v (.s (.int _ y))::l=>Jm isMax k (if isMax then(if y>x then y else x) else(if y<x then y else x)) l
 |_=>none
def D4 (h:Ac) (es:Nat):SV→Option (List SV×Nat)
 |.Af=>some ([],0)
 |.slice b o len es' _=>if es=es' then(match h.read b o (len*es) with
  |some l=>some (l,len)
  |none=>none) else none
 |.str l=>if es=1 then some (l.map (fun n=>SV.int .u8 (n:Nat)),l.length) else none
 |_=>none
def room (n bytes:Nat):Bool:=Nat.ble (2*n*bytes) 281474976710656
def Cj (h:Ac) (es bytes:Nat) (s:SV) (new:List SV) (n:Nat):Option (SV×Ac):=
 match s with
 |.Af=>
  if n=0 then some (.Af,h) else
  if room n bytes then some (.slice h.next 0 n es none,(h.new (Body.ofList new)).2) else none
 |.slice b o len es' cap=>
  if es=es' then
   if n=0 then some (s,h) else
   match cap with
   |some c=>
    if len+n≤c then
     match h.write b (o+len*es) new with
     |some h=>some (.slice b o (len+n) es (some c),h)
     |none=>none
    else if room (len+n) bytes then
     match h.renew b o (len*es) new with
     |some (b,h)=>some (.slice b 0 (len+n) es none,h)
     |none=>none
    else none
   |none=>
    if room (len+n) bytes then
     match h.grow b o (len*es) new with
     |some (b,h)=>some (.slice b 0 (len+n) es none,h)
     |none=>none
    else none
  else none
 |_=>none
def Ir (h:Ac):Option CV→Option (AV×Ac)
 |some x=>some (.v x,h)
 |none=>none
def Dh (h:Ac):Option SV→Option (AV×Ac)
 |some x=>some (.v (.s x),h)
 |none=>none
def I3 (es:Nat) (x:SV) (bs:Option Int×Option Int×Option Int):Option SV:=
 match x with
 |.Af=>match bounds 0 (some 0) bs with
  |some _=>some .Af
  |none=>none
 |.slice b o len es' cap=>if es=es' then(match bounds len cap bs with
  |some (l,n,c)=>some (.slice b (o+l*es) n es c)
  |none=>none) else none
 |_=>none
abbrev R:=Option (AV×Ac)
def zW:List AV→Ac→R
 |[x],h=>some (x,h)
 |_,_=>none
def tS:List AV→Ac→R
 |[.v (.s (.bool c)),a,b],h=>some (if c then a else b,h)
 |_,_=>none
def eI (zs:List SV):List AV→Ac→R
 |[],h=>some (.v (.s (.ptr h.next 0)),(h.new (Body.ofList zs)).2)
 |_,_=>none
def lF (n:Nat):List AV→Ac→R
 |[.v x],h=>if x.cells.length=n then some (.v (.s (.ptr h.next 0)),(h.new (Body.ofList x.cells)).2) else none
 |_,_=>none
def Zk (zero:List SV) (places:List (Nat×Nat)) (xs:List AV) (h:Ac):R:=
 match Ii zero places xs with
 |some cs=>some (.v (.agg cs),h)
 |none=>none
def Qo (es len:Nat) (zero:List SV) (places:List (Nat×Nat)) (xs:List AV) (h:Ac):R:=
 match Ii (Ey zero len) places xs with
 |some cs=>some (.v (.s (.slice h.next 0 len es (some len))),(h.new (Body.ofList cs)).2)
 |none=>none
def Fx:List AV→Ac→R
 |[.v (.s (.ptr b o))],h=>match h.read b o 1 with
  |some [x]=>some (.v (.s x),h)
  |_=>none
 |_,_=>none
def Fy (n:Nat):List AV→Ac→R
 |[.v (.s (.ptr b o))],h=>match h.read b o n with
  |some l=>some (.v (.agg l),h)
  |none=>none
 |_,_=>none
def Sm (n:Nat):List AV→Ac→R
 |[.v (.s (.ptr b o)),.v x],h=>if x.cells.length=n then
   (match h.write b o x.cells with
   |some h=>some (.unit,h)
   |none=>none) else none
 |_,_=>none
def Yv:List AV→Ac→R
 |[.v (.s (.ptr b o))],h=>some (.v (.s (.ptr b o)),h)
 |[.v (.s (.func f fs cs))],h=>some (.v (.s (.func f fs cs)),h)
 |_,_=>none
def zX (b:BinOp):List AV→Ac→R
 |[.v (.s x),.v (.s y)],h=>Dh h (Ti b x y)
 |_,_=>none
def rEq (neg:Bool) (k:EqK):List AV→Ac→R
 |[.v x,.v y],h=>match HK k x y with
  |some r=>some (.v (.s (.bool (r !=neg))),h)
  |none=>none
 |_,_=>none
def rUn (u:UnOp):List AV→Ac→R
 |[.v (.s x)],h=>Dh h (HL u x)
 |_,_=>none
def tT (k:IntKind):List AV→Ac→R
 |[.v (.s (.int _ n))],h=>some (.v (.s (.int k (k.wrap n))),h)
 |_,_=>none
def pY:List AV→Ac→R
 |[.v (.s (.str l))],h=>if room l.length 1 then
   some (.v (.s (.slice h.next 0 l.length 1 none)),h.Bs ⟨Body.ofList (l.map (fun n=>SV.int .u8 (n:Nat))),false,[]⟩) else none
 |_,_=>none
def byteOf:SV→Option Nat
 |.int .u8 n=>if 0≤n∧n<256 then some n.toNat else none
 |_=>none
def Qp:List SV→Option (List Nat)
 |[]=>some []
 |x::l=>match byteOf x,Qp l with
  |some n,some r=>some (n::r)
  |_,_=>none
def pZ:List AV→Ac→R
 |[.v (.s (.slice b o len es c))],h=>match D4 h 1 (.slice b o len es c) with
  |some (l,_)=>match Qp l with
   |some l=>some (.v (.s (.str l)),h)
   |none=>none
  |none=>none
 |[.v (.s .Af)],h=>some (.v (.s (.str [])),h)
 |_,_=>none
def Tk (f n:Nat) (xs:List AV) (h:Ac):R:=
 match pX xs with
 |some l=>some (.v (.s (.func f (l.take n) (l.drop n))),h)
 |none=>none
def O3:List AV→Ac→R
 |[],h=>some (.v (.s (.map h.next)),(h.new (.map [])).2)
 |[.v (.s (.int _ _))],h=>some (.v (.s (.map h.next)),(h.new (.map [])).2)
 |_,_=>none
def Ij (es bytes:Nat) (zero:List SV):List AV→Ac→R
 |[.v (.s (.int _ l)),.v (.s (.int _ c))],h=>
  if 0≤l∧l≤c∧c≤1099511627776∧Nat.ble (bytes*c.toNat) 281474976710656 then
   some (.v (.s (.slice h.next 0 l.toNat es (some c.toNat))),(h.new (Body.ofList (Ey zero c.toNat))).2) else none
 |_,_=>none
def Li (k:SlK) (lo hi mx:Bool):List AV→Ac→R
 |x::xs,h=>match Tj lo hi mx xs with
  |some bs=>match k,x with
   |.str,.v (.s (.str l))=>if mx then none else(match bounds l.length (some l.length) bs with
    |some (a,b,_)=>some (.v (.s (.str ((l.drop a).take b))),h)
    |none=>none)
   |.slice es,.v (.s x)=>Dh h (I3 es x bs)
   |.arr n es,.v (.s (.ptr b o))=>Dh h (I3 es (.slice b o n es (some n)) bs)
   |_,_=>none
  |none=>none
 |_,_=>none
def gT (off:Nat):List AV→Ac→R
 |[.v (.s (.ptr b o))],h=>some (.v (.s (.ptr b (o+off))),h)
 |_,_=>none
def Zn (off:Nat) (n:Option Nat):List AV→Ac→R
 |[.v (.agg cs)],h=>Ir h (Sk cs off n)
 |_,_=>none
def Zo (n es:Nat):List AV→Ac→R
 |[.v (.s (.ptr b o)),.v (.s (.int _ i))],h=>if 0≤i∧i<(n:Int) then some (.v (.s (.ptr b (o+i.toNat*es))),h) else none
 |_,_=>none
def qA (es:Nat):List AV→Ac→R
 |[.v (.s (.slice b o len es' _)),.v (.s (.int _ i))],h=>if es=es'∧0≤i∧i<(len:Int) then some (.v (.s (.ptr b (o+i.toNat*es))),h) else none
 |_,_=>none
def wY (n es:Nat) (m:Option Nat):List AV→Ac→R
 |[.v (.agg cs),.v (.s (.int _ i))],h=>if 0≤i∧i<(n:Int) then Ir h (Sk cs (i.toNat*es) m) else none
 |_,_=>none
def eJ:List AV→Ac→R
 |[.v (.s (.str l)),.v (.s (.int _ i))],h=>if 0≤i then(match l[i.toNat]? with
   |some n=>some (.v (.s (.int .u8 (n:Nat))),h)
   |none=>none) else none
 |_,_=>none
def Dq (ks:G7) (zero:CV) (ok:Bool):List AV→Ac→R
 |[.v (.s .Dv),.v k],h=>if Fp ks k then some (if ok then .tup [zero,.s (.bool false)] else .v zero,h) else none
 |[.v (.s (.map b)),.v k],h=>if Fp ks k then(match h.get b with
  |some ⟨.map l,_,_⟩=>match O2 ks k l with
   |some r=>some (if ok then .tup [r.getD zero,.s (.bool r.isSome)] else .v (r.getD zero),h)
   |none=>none
  |_=>none) else none
 |_,_=>none
def Ng (ks:G7):List AV→Ac→R
 |[.v (.s (.map b)),.v k,.v v],h=>if Fp ks k then(match h.get b with
  |some ⟨.map l,true,[]⟩=>match Wz ks k v l with
   |some l=>some (.unit,h.upd b (some ⟨.map l,true,[]⟩))
   |none=>none
  |_=>none) else none
 |_,_=>none
def O4 (i:Nat):List AV→Ac→R
 |[.tup xs],h=>Ir h xs[i]?
 |_,_=>none
def tU:List AV→Ac→R
 |[.v (.s (.slice _ _ len _ _))],h=>some (.int .i64 (len:Nat),h)
 |[.v (.s .Af)],h=>some (.int .i64 (0:Nat),h)
 |_,_=>none
def Yw:List AV→Ac→R
 |[.v (.s (.str l))],h=>some (.int .i64 (l.length:Nat),h)
 |_,_=>none
def Yx (n:Nat):List AV→Ac→R
 |[_],h=>some (.int .i64 (n:Nat),h)
 |_,_=>none
def O5:List AV→Ac→R
 |[.v (.s .Dv)],h=>some (.int .i64 (0:Nat),h)
 |[.v (.s (.map b))],h=>match h.get b with
  |some ⟨.map l,_,_⟩=>some (.int .i64 (l.length:Nat),h)
  |_=>none
 |_,_=>none
def HM:List AV→Ac→R
 |[.v (.s (.slice _ _ _ _ (some c)))],h=>some (.int .i64 (c:Nat),h)
 |[.v (.s .Af)],h=>some (.int .i64 (0:Nat),h)
 |_,_=>none
def Tl (m:Bool):List AV→Ac→R
 |.v (.s (.int k x))::xs,h=>Dh h (Jm m k x xs)
 |_,_=>none
def Nh (es bytes:Nat):List AV→Ac→R
 |[.v (.s s),.v (.s x)],h=>match D4 h es x with
  |some (new,n)=>match Cj h es bytes s new n with
   |some (s,h)=>some (.v (.s s),h)
   |none=>none
  |none=>none
 |_,_=>none
def O6 (es:Nat):List AV→Ac→R
 |[.v (.s d),.v (.s x)],h=>match D4 h es x with
  |some (src,n)=>match d with
   |.Af=>some (.int .i64 (0:Nat),h)
   |.slice b o len es' _=>if es=es' then
     (if min n len=0 then some (.int .i64 (0:Nat),h) else
     match h.write b o (src.take (min n len*es)) with
     |some h=>some (.int .i64 (min n len:Nat),h)
     |none=>none) else none
   |_=>none
  |none=>none
 |_,_=>none
def Ni:List AV→Ac→R
 |[.v (.s (.map b))],h=>match h.get b with
  |some ⟨.map l,_,_⟩=>if l.length≤1 then some (.v (.s (.ptr h.next 0)),(h.new (.iter b l.length 0)).2) else none
  |_=>none
 |_,_=>none
def Jn:List AV→Ac→R
 |[.v (.s (.ptr i 0))],h=>match h.get i with
  |some ⟨.iter b n st,true,[]⟩=>match h.get b with
   |some ⟨.map l,_,_⟩=>if l.length=n then(match st,l with
    |0,[(k,v)]=>some (.tup [.s (.bool true),k,v],h.upd i (some ⟨.iter b n 1,true,[]⟩))
    |0,[]=>some (.tup [.s (.bool false)],h)
    |_+1,[_]=>some (.tup [.s (.bool false)],h)
    |_,_=>none) else none
   |_=>none
  |_=>none
 |_,_=>none
def Nj:List AV→Ac→R
 |[.v (.s (.ptr i 0))],h=>match h.get i with
  |some ⟨.iter b n 1,_,_⟩=>match h.get b with
   |some ⟨.map [(k,v)],_,_⟩=>if n=1 then some (.tup [k,v],h) else none
   |_=>none
  |_=>none
 |_,_=>none
def VOp.run (op:VOp) (args:List AV) (h:Ac):R:=
 match op with
 |.mov=>zW args h
 |.pick=>tS args h
 |.Fg zs=>eI zs args h
 |.box n=>lF n args h
 |.build z p=>Zk z p args h
 |.Gn es len z p=>Qo es len z p args h
 |.Bm=>Fx args h
 |.B5 n=>Fy n args h
 |.store n=>Sm n args h
 |.Gp=>Yv args h
 |.bin b=>zX b args h
 |.eq neg k=>rEq neg k args h
 |.un u=>rUn u args h
 |.conv k=>tT k args h
 |.s2b=>pY args h
 |.b2s=>pZ args h
 |.Nc f n=>Tk f n args h
 |.Oi=>O3 args h
 |.Ko es by' z=>Ij es by' z args h
 |.slice k lo hi mx=>Li k lo hi mx args h
 |.B8 off=>gT off args h
 |.field off n=>Zn off n args h
 |.pV n es=>Zo n es args h
 |.isl es=>qA es args h
 |.idx n es m=>wY n es m args h
 |.pW=>eJ args h
 |.lookup ks z ok=>Dq ks z ok args h
 |.Gq ks=>Ng ks args h
 |.extract i=>O4 i args h
 |.lens=>tU args h
 |.Ld=>Yw args h
 |.Lh n=>Yx n args h
 |.dV=>O5 args h
 |.cap=>HM args h
 |.Jk m=>Tl m args h
 |.append es by'=>Nh es by' args h
 |.copy es=>O6 es args h
 |.Hd=>Ni args h
 |.Md=>Jn args h
 |.He=>Nj args h
 |.gR=>none
 |.tQ=>none
 |.bad=>none
inductive Bl where
 |op (o:VOp)
 |call (f:Nat)
 |Ge
 deriving Inhabited
structure An where
 dst:Option Key
 act:Bl
 args:List VX
 guard:Option (Key×Bool)
 deriving Inhabited
inductive Kind where
 |quiet|alloc|effect
 deriving DecidableEq,Inhabited
def VOp.kind:VOp→Kind
 |.Fg _|.box _|.Gn ..|.Oi|.Ko ..|.s2b=>.alloc
 |.store _|.Gq _|.append ..|.copy _|.Hd|.Md|.He|.b2s=>.effect
 |_=>.quiet
def Bl.kind:Bl→Kind
 |.op o=>o.kind
 |_=>.effect
structure DOp where
 o:An
 chk:Nat
 deriving Inhabited
inductive Ay where
 |skip
 |region (ops:List An)
 |drawn (ops:List DOp)
 |seq (a b:Ay)
 |cond (c:VX) (a b:Ay)
 |block (id:Nat) (c:Ay)
 |loop (c:Ay)
 |exit (id:Nat)
 |ret
 deriving Inhabited
inductive Lj where
 |tmp (k:Key)
 |eK (k:Key)
 |eL (k:Key) (n:Nat)
 deriving Inhabited
structure El where
 results:List Lj
 body:Ay
 deriving Inhabited
inductive B2 where
 |normal|exit (id:Nat)|ret
 deriving DecidableEq,Inhabited
abbrev Fr:=Tr AV
def VX.eval (fr:Fr):VX→Option AV
 |.t k=>fr.get k
 |.c v=>some v
def Cn (fr:Fr):List VX→Option (List AV)
 |[]=>some []
 |x::l=>match x.eval fr with
  |some v=>match Cn fr l with
   |some vs=>some (v::vs)
   |none=>none
  |none=>none
def Bp (fr:Fr):Option Key→AV→Fr
 |some k,v=>fr.upd k (some v)
 |none,_=>fr
def Di (fr:Fr):Option (Key×Bool)→Option Bool
 |none=>some true
 |some (k,b)=>match fr.get k with
  |some (.v (.s (.bool c)))=>some (c==b)
  |some _=>some false
  |none=>none
abbrev Bn:=Nat→List AV→Ac→Option (AV×Ac)
def Bl.run (call:Bn) (a:Bl) (args:List AV) (h:Ac):Option (AV×Ac):=
 match a with
 |.op o=>o.run args h
 |.call f=>call f args h
 |.Ge=>match args with
  |.v (.s (.func f fs cs))::xs=>call f (fs.map (fun p=>AV.v (.s (.ptr p.1 p.2)))++xs++cs.map (fun p=>AV.v (.s (.ptr p.1 p.2)))) h
  |_=>none
def An.run (call:Bn) (o:An) (fr:Fr) (h:Ac):Option (Fr×Ac):=
 match Di fr o.guard with
 |some true=>match Cn fr o.args with
  |some args=>match o.act.run call args h with
   |some (v,h)=>some (Bp fr o.dst v,h)
   |none=>none
  |none=>none
 |some false=>some (Bp fr o.dst .unit,h)
 |none=>none
def Cl (call:Bn):List An→Fr→Ac→Option (Fr×Ac)
 |[],fr,h=>some (fr,h)
 |o::l,fr,h=>match o.run call fr h with
  |some (fr,h)=>Cl call l fr h
  |none=>none
def O7:VOp→List AV→Option Key
 |.Bm,.v (.s (.ptr b _))::_=>some b
 |.B5 n,.v (.s (.ptr b _))::_=>if n=0 then none else some b
 |.lookup ..,.v (.s (.map b))::_=>some b
 |.dV,.v (.s (.map b))::_=>some b
 |_,_=>none
def SV.beq (a b:SV):Bool:=decide (a=b)
def AV.beq (a b:AV):Bool:=decide (a=b)
def Hf (o:VOp) (args:List AV) (v:AV):List Ac→Bool
 |[]=>true
 |h::l=>(match o.run args h with
  |some (u,_)=>AV.beq u v
  |none=>false)&&Hf o args v l
def outside (lo hi:Key) (o:VOp) (args:List AV):Bool:=
 match O7 o args with
 |some b=>Nat.blt b.toNat lo.toNat||Nat.ble hi.toNat b.toNat
 |none=>true
def Az:List DOp→Nat
 |[]=>0
 |d::l=>(if d.o.act.kind=.alloc then 1 else 0)+Az l
def Bt:Key→Nat→Key
 |k,0=>k
 |k,n+1=>Bt k.succ n
def Bf (call:Bn) (lo hi:Key):List DOp→Key→List Ac→Fr→Ac→Option (Fr×Ac)
 |[],_,_,fr,h=>some (fr,h)
 |d::l,r,Ai,fr,h=>
  match d.o.act.kind with
  |.effect=>match d.o.run call fr h with
   |some (fr',h')=>Bf call lo hi l r (Ai++[h]) fr' h'
   |none=>none
  |.alloc=>match d.o.run call fr { h with next:=r } with
   |some (fr',h')=>Bf call lo hi l r.succ Ai fr' { h' with next:=h.next }
   |none=>none
  |.quiet=>match Di fr d.o.guard,d.o.act with
   |some true,.op o=>match Cn fr d.o.args with
    |some args=>match o.run args h with
     |some (v,_)=>
      if outside lo hi o args&&Hf o args v (Ai.drop d.chk) then
       Bf call lo hi l r Ai (Bp fr d.o.dst v) h
      else none
     |none=>none
    |none=>none
   |some false,_=>Bf call lo hi l r Ai (Bp fr d.o.dst .unit) h
   |_,_=>none
def Gr (fr:Fr) (h:Ac):Lj→Option CV
 |.tmp k=>match fr.get k with
  |some (.v x)=>some x
  |_=>none
 |.eK k=>match fr.get k with
  |some (.v (.s (.ptr b o)))=>match h.read b o 1 with
   |some [x]=>some (.s x)
   |_=>none
  |_=>none
 |.eL k n=>match fr.get k with
  |some (.v (.s (.ptr b o)))=>match h.read b o n with
   |some l=>some (.agg l)
   |none=>none
  |_=>none
def D5 (fr:Fr) (h:Ac):List Lj→Option (List CV)
 |[]=>some []
 |r::l=>match Gr fr h r with
  |some x=>match D5 fr h l with
   |some xs=>some (x::xs)
   |none=>none
  |none=>none
def Fh:List CV→AV
 |[x]=>.v x
 |l=>.tup l
abbrev A4:=Nat→Option El
abbrev Ez:=Nat→Option (List AV→Ac→Option (AV×Ac))
def Bo (F:A4) (O:Ez) (ex:Ay→Fr→Ac→Option (B2×Fr×Ac)):Bn:=fun f args h=>
 match O f with
 |some g=>g args h
 |none=>match F f with
  |some vf=>match ex vf.body (Tr.z.Co 0 args) h with
   |some (.exit _,_,_)=>none
   |some (_,fr,h)=>match D5 fr h vf.results with
    |some l=>some (Fh l,h)
    |none=>none
   |none=>none
  |none=>none
def exec (F:A4) (O:Ez):Nat→Ay→Fr→Ac→Option (B2×Fr×Ac)
 |0,_,_,_=>none
 |n+1,c,fr,h=>match c with
  |.skip=>some (.normal,fr,h)
  |.region ops=>match Cl (Bo F O (exec F O n)) ops fr h with
   |some (fr,h)=>some (.normal,fr,h)
   |none=>none
  |.drawn ops=>
   let hi:=Bt h.next (Az ops)
   match Bf (Bo F O (exec F O n)) h.next hi ops h.next [] fr { h with next:=hi } with
   |some (fr,h)=>some (.normal,fr,h)
   |none=>none
  |.seq a b=>match exec F O n a fr h with
   |some (.normal,fr,h)=>exec F O n b fr h
   |r=>r
  |.cond c a b=>match c.eval fr with
   |some (.v (.s (.bool true)))=>exec F O n a fr h
   |some (.v (.s (.bool false)))=>exec F O n b fr h
   |_=>none
  |.block id c=>match exec F O n c fr h with
   |some (.exit j,fr,h)=>if j=id then some (.normal,fr,h) else some (.exit j,fr,h)
   |r=>r
  |.loop c=>match exec F O n c fr h with
   |some (.normal,fr,h)=>exec F O n (.loop c) fr h
   |r=>r
  |.exit id=>some (.exit id,fr,h)
  |.ret=>some (.ret,fr,h)
end Go.Vm
end
section
noncomputable section
namespace Go.Pv
open Go.Vm
open Go.Vm.Key (kn)
inductive PV where
 |bool (b:Bool)
 |int (k:IntKind) (n:Int)
 |str (l:List Nat)
 |ptr (b:Key) (o:Nat)
 |Eb
 |slice (b:Key) (o len es:Nat) (cap:Option Nat)
 |Af
 |map (b:Key)
 |Dv
 |func (f:Nat) (first cap:List (Key×Nat))
 |Fe
 |lst (es:Nat) (l:List (List PV)) (cap:Option Nat)
 |rp (l:List PV)
 |mp (ks vs:List PV)
 deriving Inhabited
inductive PC where
 |s (x:PV)
 |agg (cs:List PV)
 deriving Inhabited
inductive PA where
 |v (x:PC)
 |tup (xs:List PC)
 deriving Inhabited
def PC.cells:PC→List PV
 |.s x=>[x]
 |.agg cs=>cs
namespace PA
abbrev int (k:IntKind) (n:Int):PA:=.v (.s (.int k n))
abbrev bool (b:Bool):PA:=.v (.s (.bool b))
abbrev sv (x:PV):PA:=.v (.s x)
abbrev unit:PA:=.tup []
end PA
inductive C5 where
 |cells (c:List PV)
 |map (l:List (PC×PC))
 |iter (m:Key) (n:Nat) (st:Nat)
 deriving Inhabited
structure Ap where
 body:C5
 own:Bool
 frz:Bool
 anc:List Key
 log:List (Nat×Nat)
 deriving Inhabited
structure Ab where
 mem:Tr Ap
 next:Key
 deriving Inhabited
namespace Ab
def empty:Ab:=⟨.z,.h⟩
def get (h:Ab) (b:Key):Option Ap:=h.mem.get b
def upd (h:Ab) (b:Key) (x:Option Ap):Ab:={ h with mem:=h.mem.upd b x }
def Bb (h:Ab):List Key→Ab
 |[]=>h
 |b::l=>(h.upd b none).Bb l
def Bs (h:Ab) (body:C5) (own:Bool) (anc:List Key):Ab:=
 { mem:=h.mem.upd h.next (some ⟨body,own,false,anc,[]⟩),next:=h.next.succ }
def new (h:Ab) (body:C5):Ab:=h.Bs body true []
def Sn (h:Ab):List Key→Bool
 |[]=>false
 |b::l=>(match h.get b with
  |some x=>x.frz
  |none=>false)||h.Sn l
def cells (h:Ab) (b:Key):Option (List PV):=
 match h.get b with
 |some ⟨.cells c,_,_,_,_⟩=>some c
 |_=>none
def read (h:Ab) (b:Key) (o n:Nat):Option (List PV):=
 if n=0 then some [] else
 match h.cells b with
 |some c=>if o+n≤c.length then some ((c.drop o).take n) else none
 |none=>none
def over (c:List PV) (o:Nat) (l:List PV):List PV:=c.take o++l++c.drop (o+l.length)
def write (h:Ab) (b:Key) (o:Nat) (l:List PV):Option Ab:=
 match h.get b with
 |some ⟨.cells c,true,false,anc,log⟩=>
  if o+l.length≤c.length∧h.Sn anc=false then
   some ((h.Bb anc).upd b (some ⟨.cells (over c o l),true,false,[],(o,l.length)::log⟩)) else none
 |_=>none
def copied (c:List PV) (o k:Nat) (new:List PV):Option C5:=
 if o+k≤c.length then some (.cells ((c.drop o).take k++new)) else none
def renew (h:Ab) (b:Key) (o k:Nat) (new:List PV):Option (Key×Ab):=
 if k=0 then some (h.next,h.new (.cells new)) else
 match h.cells b with
 |some c=>match copied c o k new with
  |some body=>some (h.next,h.new body)
  |none=>none
 |none=>none
def grow (h:Ab) (b:Key) (o k:Nat) (new:List PV):Option (Key×Ab):=
 match h.get b with
 |some ⟨.cells c,true,frz,anc,log⟩=>
  match copied c o k new with
  |some body=>
   if o+k=c.length then some (h.next,(h.upd b (some ⟨.cells c,false,frz,anc,log⟩)).Bs body true (b::anc))
   else if frz=false∧h.Sn anc=false then some (h.next,((h.Bb anc).upd b none).Bs body true [])
   else none
  |none=>none
 |_=>none
end Ab
def Ow:SV→Option PV
 |.bool b=>some (.bool b)
 |.int k n=>some (.int k n)
 |.str l=>some (.str l)
 |.Eb=>some .Eb
 |.Af=>some .Af
 |.Dv=>some .Dv
 |.Fe=>some .Fe
 |.func f [] []=>some (.func f [] [])
 |_=>none
def Jo:List SV→Option (List PV)
 |[]=>some []
 |x::l=>match Ow x with
  |some y=>match Jo l with
   |some ys=>some (y::ys)
   |none=>none
  |none=>none
def gU:CV→Option PC
 |.s x=>match Ow x with
  |some y=>some (.s y)
  |none=>none
 |.agg cs=>match Jo cs with
  |some l=>some (.agg l)
  |none=>none
def wZ:AV→Option PA
 |.v x=>match gU x with
  |some y=>some (.v y)
  |none=>none
 |.tup _=>none
def toSV:PV→Option SV
 |.bool b=>some (.bool b)
 |.int k n=>some (.int k n)
 |.str l=>some (.str l)
 |_=>none
def toSVs:List PV→Option (List SV)
 |[]=>some []
 |x::l=>match toSV x with
  |some y=>match toSVs l with
   |some ys=>some (y::ys)
   |none=>none
  |none=>none
def toCV:PC→Option CV
 |.s x=>match toSV x with
  |some y=>some (.s y)
  |none=>none
 |.agg cs=>match toSVs cs with
  |some l=>some (.agg l)
  |none=>none
def Yj (b:BinOp) (x y:PV):Option PV:=
 match x,y with
 |.int k a,.int k' c=>match(if Kp b then Zj b k a c else if k=k' then Nf b k a c else none) with
  |some s=>Ow s
  |none=>none
 |.str a,.str c=>match gS b a c with
  |some s=>Ow s
  |none=>none
 |_,_=>none
def unP (u:UnOp) (x:PV):Option PV:=
 match toSV x with
 |some s=>match HL u s with
  |some r=>Ow r
  |none=>none
 |none=>none
def eqP (k:EqK) (x y:PC):Option Bool:=
 match k,x,y with
 |.bool,.s (.bool a),.s (.bool b)=>some (a==b)
 |.ptr,.s .Eb,.s .Eb=>some true
 |.ptr,.s .Eb,.s (.ptr _ _)=>some false
 |.ptr,.s (.ptr _ _),.s .Eb=>some false
 |.ptr,.s .Eb,.s (.rp _)=>some false
 |.ptr,.s (.rp _),.s .Eb=>some false
 |.slice,.s .Af,.s .Af=>some true
 |.slice,.s .Af,.s (.slice ..)=>some false
 |.slice,.s (.slice ..),.s .Af=>some false
 |.slice,.s .Af,.s (.lst ..)=>some false
 |.slice,.s (.lst ..),.s .Af=>some false
 |.map,.s .Dv,.s .Dv=>some true
 |.map,.s .Dv,.s (.map _)=>some false
 |.map,.s (.map _),.s .Dv=>some false
 |.func,.s .Fe,.s .Fe=>some true
 |.func,.s .Fe,.s (.func ..)=>some false
 |.func,.s (.func ..),.s .Fe=>some false
 |.agg ks,.agg a,.agg b=>match toSVs a,toSVs b with
  |some a,some b=>Bi ks a b
  |_,_=>none
 |_,_,_=>none
def Ym:List PV→List (Nat×Nat)→List PA→Option (List PV)
 |cs,[],[]=>some cs
 |cs,(o,n)::ps,.v x::xs=>
  if x.cells.length=n∧o+n≤cs.length then Ym (Ab.over cs o x.cells) ps xs else none
 |_,_,_=>none
def Oj (zero:List PV):Nat→List PV
 |0=>[]
 |n+1=>zero++Oj zero n
def W0 (cs:List PV) (o:Nat):Option Nat→Option PC
 |none=>match cs[o]? with
  |some x=>some (.s x)
  |none=>none
 |some n=>if o+n≤cs.length then some (.agg ((cs.drop o).take n)) else none
def lG:List PA→Option (List (Key×Nat))
 |[]=>some []
 |.v (.s (.ptr b o))::l=>match lG l with
  |some r=>some ((b,o)::r)
  |none=>none
 |_=>none
def Em (ks:G7) (k:PC):Bool:=
 match ks,k with
 |.one _,.s _=>true
 |.agg l,.agg cs=>cs.length==l.length
 |_,_=>false
def Ol (ks:G7) (x y:PC):Option Bool:=
 match toCV x,toCV y with
 |some a,some b=>lE ks a b
 |_,_=>none
def O8 (ks:G7) (k:PC):List (PC×PC)→Option (Option PC)
 |[]=>some none
 |(x,v)::l=>match Ol ks k x with
  |some true=>some (some v)
  |some false=>O8 ks k l
  |none=>none
def Vj (ks:G7) (k v:PC):List (PC×PC)→Option (List (PC×PC))
 |[]=>some [(k,v)]
 |(x,u)::l=>match Ol ks k x with
  |some true=>some ((x,v)::l)
  |some false=>match Vj ks k v l with
   |some r=>some ((x,u)::r)
   |none=>none
  |none=>none
def qB:Bool→List PA→Option (Option Int×List PA)
 |false,xs=>some (none,xs)
 |true,.v (.s (.int _ n))::xs=>some (some n,xs)
 |true,_=>none
def zY (lo hi mx:Bool) (xs:List PA):Option (Option Int×Option Int×Option Int):=
 match qB lo xs with
 |some (a,xs)=>match qB hi xs with
  |some (b,xs)=>match qB mx xs with
   |some (c,[])=>some (a,b,c)
   |_=>none
  |none=>none
 |none=>none
def Qq (isMax:Bool) (k:IntKind) (x:Int):List PA→Option PV
 |[]=>some (.int k x)
 |.v (.s (.int _ y))::l=>Qq isMax k (if isMax then(if y>x then y else x) else(if y<x then y else x)) l
 |_=>none
def Vk (h:Ab) (es:Nat):PV→Option (List PV×Nat)
 |.Af=>some ([],0)
 |.slice b o len es' _=>if es=es' then(match h.read b o (len*es) with
  |some l=>some (l,len)
  |none=>none) else none
 |.lst es' l _=>if es=es' then some (l.flatten,l.length) else none
 |.str l=>if es=1 then some (l.map (fun n=>PV.int .u8 (n:Nat)),l.length) else none
 |_=>none
def Kq (h:Ab) (es bytes:Nat) (s:PV) (new:List PV) (n:Nat):Option (PV×Ab):=
 match s with
 |.Af=>
  if n=0 then some (.Af,h) else
  if room n bytes then some (.slice h.next 0 n es none,h.new (.cells new)) else none
 |.slice b o len es' cap=>
  if es=es' then
   if n=0 then some (s,h) else
   match cap with
   |some c=>
    if len+n≤c then
     match h.write b (o+len*es) new with
     |some h=>some (.slice b o (len+n) es (some c),h)
     |none=>none
    else if room (len+n) bytes then
     match h.renew b o (len*es) new with
     |some (b,h)=>some (.slice b 0 (len+n) es none,h)
     |none=>none
    else none
   |none=>
    if room (len+n) bytes then
     match h.grow b o (len*es) new with
     |some (b,h)=>some (.slice b 0 (len+n) es none,h)
     |none=>none
    else none
  else none
 |.lst es' l cap=>
  if es=es' then
   if n=0 then some (s,h) else
   match cap with
   |some c=>
    if l.length+n≤c then none
    else if room (l.length+n) bytes then some (.slice h.next 0 (l.length+n) es none,h.new (.cells (l.flatten++new)))
    else none
   |none=>none
  else none
 |_=>none
def Nk (i:Nat) (cap:Option Nat):Option Int→Option Nat
 |some m=>some (m.toNat-i)
 |none=>match cap with
  |some c=>some (c-i)
  |none=>none
def Kr (n:Nat):Option Nat→Bool
 |some c=>Nat.ble n c
 |none=>true
def Jp (es:Nat) (x:PV) (bs:Option Int×Option Int×Option Int):Option PV:=
 match x with
 |.Af=>match bounds 0 (some 0) bs with
  |some _=>some .Af
  |none=>none
 |.slice b o len es' cap=>if es=es' then(match bounds len cap bs with
  |some (l,n,c)=>some (.slice b (o+l*es) n es c)
  |none=>none) else none
 |.lst es' l cap=>if es=es' then(match bounds l.length none bs with
  |some (i,n,_)=>if Kr n (Nk i cap bs.2.2) then some (.lst es ((l.drop i).take n) (Nk i cap bs.2.2)) else none
  |none=>none) else none
 |_=>none
abbrev PR:=Option (PA×Ab)
def noP (h:Ab):Option PC→PR
 |some x=>some (.v x,h)
 |none=>none
def Dr (h:Ab):Option PV→PR
 |some x=>some (.v (.s x),h)
 |none=>none
def HN:List PA→Ab→PR
 |[x],h=>some (x,h)
 |_,_=>none
def tW:List PA→Ab→PR
 |[.v (.s (.bool c)),a,b],h=>some (if c then a else b,h)
 |_,_=>none
def eM (zs:List SV):List PA→Ab→PR
 |[],h=>match Jo zs with
  |some l=>some (.v (.s (.ptr h.next 0)),h.new (.cells l))
  |none=>none
 |_,_=>none
def xA (n:Nat):List PA→Ab→PR
 |[.v x],h=>if x.cells.length=n then some (.v (.s (.ptr h.next 0)),h.new (.cells x.cells)) else none
 |_,_=>none
def Zp (zero:List SV) (places:List (Nat×Nat)) (xs:List PA) (h:Ab):PR:=
 match Jo zero with
 |some z=>match Ym z places xs with
  |some cs=>some (.v (.agg cs),h)
  |none=>none
 |none=>none
def Qr (es len:Nat) (zero:List SV) (places:List (Nat×Nat)) (xs:List PA) (h:Ab):PR:=
 match Jo zero with
 |some z=>match Ym (Oj z len) places xs with
  |some cs=>some (.v (.s (.slice h.next 0 len es (some len))),h.new (.cells cs))
  |none=>none
 |none=>none
def Lk:List PA→Ab→PR
 |[.v (.s (.ptr b o))],h=>match h.read b o 1 with
  |some [x]=>some (.v (.s x),h)
  |_=>none
 |[.v (.s (.rp (x::_)))],h=>some (.v (.s x),h)
 |_,_=>none
def Fz (n:Nat):List PA→Ab→PR
 |[.v (.s (.ptr b o))],h=>match h.read b o n with
  |some l=>some (.v (.agg l),h)
  |none=>none
 |[.v (.s (.rp l))],h=>if n≤l.length then some (.v (.agg (l.take n)),h) else none
 |_,_=>none
def Ll (n:Nat):List PA→Ab→PR
 |[.v (.s (.ptr b o)),.v x],h=>if x.cells.length=n then
   (match h.write b o x.cells with
   |some h=>some (.unit,h)
   |none=>none) else none
 |_,_=>none
def Ks:List PA→Ab→PR
 |[.v (.s (.ptr b o))],h=>some (.v (.s (.ptr b o)),h)
 |[.v (.s (.rp l))],h=>some (.v (.s (.rp l)),h)
 |[.v (.s (.func f fs cs))],h=>some (.v (.s (.func f fs cs)),h)
 |_,_=>none
def Ox (b:BinOp):List PA→Ab→PR
 |[.v (.s x),.v (.s y)],h=>Dr h (Yj b x y)
 |_,_=>none
def pEq (neg:Bool) (k:EqK):List PA→Ab→PR
 |[.v x,.v y],h=>match eqP k x y with
  |some r=>some (.v (.s (.bool (r !=neg))),h)
  |none=>none
 |_,_=>none
def pUn (u:UnOp):List PA→Ab→PR
 |[.v (.s x)],h=>Dr h (unP u x)
 |_,_=>none
def tX (k:IntKind):List PA→Ab→PR
 |[.v (.s (.int _ n))],h=>some (.v (.s (.int k (k.wrap n))),h)
 |_,_=>none
def NX:List PA→Ab→PR
 |[.v (.s (.str l))],h=>if room l.length 1 then
   some (.v (.s (.slice h.next 0 l.length 1 none)),h.Bs (.cells (l.map (fun n=>PV.int .u8 (n:Nat)))) false []) else none
 |_,_=>none
def MM:PV→Option Nat
 |.int .u8 n=>if 0≤n∧n<256 then some n.toNat else none
 |_=>none
def Zq:List PV→Option (List Nat)
 |[]=>some []
 |x::l=>match MM x,Zq l with
  |some n,some r=>some (n::r)
  |_,_=>none
def NY:List PA→Ab→PR
 |[.v (.s (.slice b o len es c))],h=>match Vk h 1 (.slice b o len es c) with
  |some (l,_)=>match Zq l with
   |some l=>some (.v (.s (.str l)),h)
   |none=>none
  |none=>none
 |[.v (.s (.lst es l c))],h=>match Vk h 1 (.lst es l c) with
  |some (l,_)=>match Zq l with
   |some l=>some (.v (.s (.str l)),h)
   |none=>none
  |none=>none
 |[.v (.s .Af)],h=>some (.v (.s (.str [])),h)
 |_,_=>none
def Tm (f n:Nat) (xs:List PA) (h:Ab):PR:=
 match lG xs with
 |some l=>some (.v (.s (.func f (l.take n) (l.drop n))),h)
 |none=>none
def qC:List PA→Ab→PR
 |[],h=>some (.v (.s (.map h.next)),h.new (.map []))
 |[.v (.s (.int _ _))],h=>some (.v (.s (.map h.next)),h.new (.map []))
 |_,_=>none
def O9 (es bytes:Nat) (zero:List SV):List PA→Ab→PR
 |[.v (.s (.int _ l)),.v (.s (.int _ c))],h=>
  match Jo zero with
  |some z=>
   if 0≤l∧l≤c∧c≤1099511627776∧Nat.ble (bytes*c.toNat) 281474976710656 then
    some (.v (.s (.slice h.next 0 l.toNat es (some c.toNat))),h.new (.cells (Oj z c.toNat))) else none
  |none=>none
 |_,_=>none
def Vl (k:SlK) (lo hi mx:Bool):List PA→Ab→PR
 |x::xs,h=>match zY lo hi mx xs with
  |some bs=>match k,x with
   |.str,.v (.s (.str l))=>if mx then none else(match bounds l.length (some l.length) bs with
    |some (a,b,_)=>some (.v (.s (.str ((l.drop a).take b))),h)
    |none=>none)
   |.slice es,.v (.s x)=>Dr h (Jp es x bs)
   |.arr n es,.v (.s (.ptr b o))=>Dr h (Jp es (.slice b o n es (some n)) bs)
   |_,_=>none
  |none=>none
 |_,_=>none
def Sp (off:Nat):List PA→Ab→PR
 |[.v (.s (.ptr b o))],h=>some (.v (.s (.ptr b (o+off))),h)
 |[.v (.s (.rp l))],h=>if off≤l.length then some (.v (.s (.rp (l.drop off))),h) else none
 |_,_=>none
def Vn (off:Nat) (n:Option Nat):List PA→Ab→PR
 |[.v (.agg cs)],h=>noP h (W0 cs off n)
 |_,_=>none
def tY (n es:Nat):List PA→Ab→PR
 |[.v (.s (.ptr b o)),.v (.s (.int _ i))],h=>if 0≤i∧i<(n:Int) then some (.v (.s (.ptr b (o+i.toNat*es))),h) else none
 |[.v (.s (.rp l)),.v (.s (.int _ i))],h=>if 0≤i∧i<(n:Int)∧i.toNat*es≤l.length then some (.v (.s (.rp (l.drop (i.toNat*es)))),h) else none
 |_,_=>none
def gV (es:Nat):List PA→Ab→PR
 |[.v (.s (.slice b o len es' _)),.v (.s (.int _ i))],h=>if es=es'∧0≤i∧i<(len:Int) then some (.v (.s (.ptr b (o+i.toNat*es))),h) else none
 |[.v (.s (.lst es' l _)),.v (.s (.int _ i))],h=>if es=es'∧0≤i then(match l[i.toNat]? with
   |some e=>some (.v (.s (.rp e)),h)
   |none=>none) else none
 |_,_=>none
def HO (n es:Nat) (m:Option Nat):List PA→Ab→PR
 |[.v (.agg cs),.v (.s (.int _ i))],h=>if 0≤i∧i<(n:Int) then noP h (W0 cs (i.toNat*es) m) else none
 |_,_=>none
def tZ:List PA→Ab→PR
 |[.v (.s (.str l)),.v (.s (.int _ i))],h=>if 0≤i then(match l[i.toNat]? with
   |some n=>some (.v (.s (.int .u8 (n:Nat))),h)
   |none=>none) else none
 |_,_=>none
def mpE:List PV→List PV→List (PC×PC)
 |k::ks,v::vs=>(.s k,.s v)::mpE ks vs
 |_,_=>[]
def Es (ks:G7) (zero:CV) (ok:Bool):List PA→Ab→PR
 |[.v (.s .Dv),.v k],h=>match gU zero with
  |some z=>if Em ks k then some (if ok then .tup [z,.s (.bool false)] else .v z,h) else none
  |none=>none
 |[.v (.s (.map b)),.v k],h=>match gU zero with
  |some z=>if Em ks k then(match h.get b with
   |some ⟨.map l,_,_,_,_⟩=>match O8 ks k l with
    |some r=>some (if ok then .tup [r.getD z,.s (.bool r.isSome)] else .v (r.getD z),h)
    |none=>none
   |_=>none) else none
  |none=>none
 |[.v (.s (.mp a b)),.v k],h=>match gU zero with
  |some z=>if Em ks k then(match O8 ks k (mpE a b) with
   |some r=>some (if ok then .tup [r.getD z,.s (.bool r.isSome)] else .v (r.getD z),h)
   |none=>none) else none
  |none=>none
 |_,_=>none
def I4 (ks:G7):List PA→Ab→PR
 |[.v (.s (.map b)),.v k,.v v],h=>if Em ks k then(match h.get b with
  |some ⟨.map l,true,false,[],log⟩=>match Vj ks k v l with
   |some l=>some (.unit,h.upd b (some ⟨.map l,true,false,[],(0,0)::log⟩))
   |none=>none
  |_=>none) else none
 |_,_=>none
def Jq (i:Nat):List PA→Ab→PR
 |[.tup xs],h=>noP h xs[i]?
 |_,_=>none
def lH:List PA→Ab→PR
 |[.v (.s (.slice _ _ len _ _))],h=>some (.int .i64 (len:Nat),h)
 |[.v (.s (.lst _ l _))],h=>some (.int .i64 (l.length:Nat),h)
 |[.v (.s .Af)],h=>some (.int .i64 (0:Nat),h)
 |_,_=>none
def Yy:List PA→Ab→PR
 |[.v (.s (.str l))],h=>some (.int .i64 (l.length:Nat),h)
 |_,_=>none
def Yz (n:Nat):List PA→Ab→PR
 |[_],h=>some (.int .i64 (n:Nat),h)
 |_,_=>none
def eO:List PA→Ab→PR
 |[.v (.s .Dv)],h=>some (.int .i64 (0:Nat),h)
 |[.v (.s (.map b))],h=>match h.get b with
  |some ⟨.map l,_,_,_,_⟩=>some (.int .i64 (l.length:Nat),h)
  |_=>none
 |_,_=>none
def HP:List PA→Ab→PR
 |[.v (.s (.slice _ _ _ _ (some c)))],h=>some (.int .i64 (c:Nat),h)
 |[.v (.s (.lst _ _ (some c)))],h=>some (.int .i64 (c:Nat),h)
 |[.v (.s .Af)],h=>some (.int .i64 (0:Nat),h)
 |_,_=>none
def Tn (m:Bool):List PA→Ab→PR
 |.v (.s (.int k x))::xs,h=>Dr h (Qq m k x xs)
 |_,_=>none
def D1 (es bytes:Nat):List PA→Ab→PR
 |[.v (.s s),.v (.s x)],h=>match Vk h es x with
  |some (new,n)=>match Kq h es bytes s new n with
   |some (s,h)=>some (.v (.s s),h)
   |none=>none
  |none=>none
 |_,_=>none
def zZ (es:Nat):List PA→Ab→PR
 |[.v (.s d),.v (.s x)],h=>match Vk h es x with
  |some (src,n)=>match d with
   |.Af=>some (.int .i64 (0:Nat),h)
   |.slice b o len es' _=>if es=es' then
     (if min n len=0 then some (.int .i64 (0:Nat),h) else
     match h.write b o (src.take (min n len*es)) with
     |some h=>some (.int .i64 (min n len:Nat),h)
     |none=>none) else none
   |_=>none
  |none=>none
 |_,_=>none
def gW:List PA→Ab→PR
 |[.v (.s (.map b))],h=>match h.get b with
  |some ⟨.map l,_,_,_,_⟩=>if l.length≤1 then some (.v (.s (.ptr h.next 0)),h.new (.iter b l.length 0)) else none
  |_=>none
 |_,_=>none
def qD:List PA→Ab→PR
 |[.v (.s (.ptr i 0))],h=>match h.get i with
  |some ⟨.iter b n st,true,false,[],log⟩=>match h.get b with
   |some ⟨.map l,_,_,_,_⟩=>if l.length=n then(match st,l with
    |0,[(k,v)]=>some (.tup [.s (.bool true),k,v],h.upd i (some ⟨.iter b n 1,true,false,[],(0,0)::log⟩))
    |0,[]=>some (.tup [.s (.bool false)],h)
    |_+1,[_]=>some (.tup [.s (.bool false)],h)
    |_,_=>none) else none
   |_=>none
  |_=>none
 |_,_=>none
def gX:List PA→Ab→PR
 |[.v (.s (.ptr i 0))],h=>match h.get i with
  |some ⟨.iter b n 1,_,_,_,_⟩=>match h.get b with
   |some ⟨.map [(k,v)],_,_,_,_⟩=>if n=1 then some (.tup [k,v],h) else none
   |_=>none
  |_=>none
 |_,_=>none
def opP (op:VOp) (args:List PA) (h:Ab):PR:=
 match op with
 |.mov=>HN args h
 |.pick=>tW args h
 |.Fg zs=>eM zs args h
 |.box n=>xA n args h
 |.build z p=>Zp z p args h
 |.Gn es len z p=>Qr es len z p args h
 |.Bm=>Lk args h
 |.B5 n=>Fz n args h
 |.store n=>Ll n args h
 |.Gp=>Ks args h
 |.bin b=>Ox b args h
 |.eq neg k=>pEq neg k args h
 |.un u=>pUn u args h
 |.conv k=>tX k args h
 |.s2b=>NX args h
 |.b2s=>NY args h
 |.Nc f n=>Tm f n args h
 |.Oi=>qC args h
 |.Ko es by' z=>O9 es by' z args h
 |.slice k lo hi mx=>Vl k lo hi mx args h
 |.B8 off=>Sp off args h
 |.field off n=>Vn off n args h
 |.pV n es=>tY n es args h
 |.isl es=>gV es args h
 |.idx n es m=>HO n es m args h
 |.pW=>tZ args h
 |.lookup ks z ok=>Es ks z ok args h
 |.Gq ks=>I4 ks args h
 |.extract i=>Jq i args h
 |.lens=>lH args h
 |.Ld=>Yy args h
 |.Lh n=>Yz n args h
 |.dV=>eO args h
 |.cap=>HP args h
 |.Jk m=>Tn m args h
 |.append es by'=>D1 es by' args h
 |.copy es=>zZ es args h
 |.Hd=>gW args h
 |.Md=>qD args h
 |.He=>gX args h
 |.gR=>none
 |.tQ=>none
 |.bad=>none
abbrev PFr:=Tr PA
def Pa (fr:PFr):VX→Option PA
 |.t k=>fr.get k
 |.c v=>wZ v
def D6 (fr:PFr):List VX→Option (List PA)
 |[]=>some []
 |x::l=>match Pa fr x with
  |some v=>match D6 fr l with
   |some vs=>some (v::vs)
   |none=>none
  |none=>none
def Kl (fr:PFr):Option Key→PA→PFr
 |some k,v=>fr.upd k (some v)
 |none,_=>fr
def Cu (fr:PFr):Option (Key×Bool)→Option Bool
 |none=>some true
 |some (k,b)=>match fr.get k with
  |some (.v (.s (.bool c)))=>some (c==b)
  |some _=>some false
  |none=>none
abbrev E7:=Nat→List PA→Ab→Option (PA×Ab)
def Rs (l:List (Key×Nat)):List PA:=l.map fun p=>PA.v (.s (.ptr p.1 p.2))
def lI (call:E7) (a:Bl) (args:List PA) (h:Ab):Option (PA×Ab):=
 match a with
 |.op o=>opP o args h
 |.call f=>call f args h
 |.Ge=>match args with
  |.v (.s (.func f fs cs))::xs=>call f (Rs fs++xs++Rs cs) h
  |_=>none
def Kt (call:E7) (o:An) (fr:PFr) (h:Ab):Option (PFr×Ab):=
 match Cu fr o.guard with
 |some true=>match D6 fr o.args with
  |some args=>match lI call o.act args h with
   |some (v,h)=>some (Kl fr o.dst v,h)
   |none=>none
  |none=>none
 |some false=>some (Kl fr o.dst .unit,h)
 |none=>none
def qE (call:E7):List An→PFr→Ab→Option (PFr×Ab)
 |[],fr,h=>some (fr,h)
 |o::l,fr,h=>match Kt call o fr h with
  |some (fr,h)=>qE call l fr h
  |none=>none
def rdP:VOp→List PA→Option (Key×Option (Nat×Nat))
 |.Bm,.v (.s (.ptr b o))::_=>some (b,some (o,1))
 |.B5 n,.v (.s (.ptr b o))::_=>if n=0 then none else some (b,some (o,n))
 |.lookup ..,.v (.s (.map b))::_=>some (b,none)
 |.dV,.v (.s (.map b))::_=>some (b,none)
 |_,_=>none
def rdF:VOp→List PA→Bool
 |.Bm,.v (.s (.rp _))::_=>true
 |.B5 _,.v (.s (.rp _))::_=>true
 |.lookup ..,.v (.s (.mp _ _))::_=>true
 |_,_=>false
def Ln:VOp→Bool
 |.mov|.pick|.build ..|.Gp|.bin _|.eq ..|.un _|.conv _|.Nc ..|.slice ..|.B8 _|.field ..|.pV ..|.isl _|.idx ..|.pW
 |.extract _|.lens|.Ld|.Lh _|.cap|.Jk _|.gR|.tQ|.bad=>true
 |_=>false
abbrev Dd:=List (Ab×List Key)
def Jr (ws:List Key):List VX→Bool
 |[]=>true
 |.t k::l=>!ws.contains k&&Jr ws l
 |.c _::l=>Jr ws l
def Pb (o n:Nat):List (Nat×Nat)→Bool
 |[]=>true
 |(p,m)::l=>(Nat.ble (p+m) o||Nat.ble (o+n) p)&&Pb o n l
def Nl (rd:Option (Key×Option (Nat×Nat))) (g h:Ab):Bool:=
 match rd with
 |some (b,r)=>(match g.get b,h.get b with
  |some x,some y=>(match r with
   |some (o,n)=>Pb o n (y.log.take (y.log.length-x.log.length))
   |none=>Nat.beq y.log.length x.log.length)
  |_,_=>false)
 |none=>true
def Ku (xs:List VX) (rd:Option (Key×Option (Nat×Nat))) (rf:Bool) (h:Ab):Dd→Bool
 |[]=>true
 |(g,ws)::l=>(!rf||Jr ws xs)&&Nl rd g h&&Ku xs rd rf h l
def wrote (d:Option Key) (s:Dd):Dd:=
 match d with
 |some k=>s.map fun p=>(p.1,k::p.2)
 |none=>s
def Js (d:Option Key) (xs:List VX) (rd:Option (Key×Option (Nat×Nat))) (h:Ab):Dd→Dd
 |[]=>[]
 |(g,ws)::l=>(g,match d with
  |some k=>if Jr ws xs&&Nl rd g h then ws else k::ws
  |none=>ws)::Js d xs rd h l
def Ds (lo hi:Key):Option (Key×Option (Nat×Nat))→Bool
 |some (b,_)=>Nat.blt b.toNat lo.toNat||Nat.ble hi.toNat b.toNat
 |none=>true
def Om (h:Ab):Key→Nat→Bool
 |_,0=>true
 |k,n+1=>(match h.get k with
  |some x=>!x.frz
  |none=>true)&&Om h k.succ n
def C7 (call:E7) (lo hi:Key) (n:Nat):List DOp→Key→Dd→PFr→Ab→Option (PFr×Ab)
 |[],_,_,fr,h=>some (fr,h)
 |d::l,r,Ai,fr,h=>
  match d.o.act.kind with
  |.effect=>match Kt call d.o fr h with
   |some (fr',h')=>C7 call lo hi n l r (wrote d.o.dst (Ai++[(h,[])])) fr' h'
   |none=>none
  |.alloc=>match Kt call d.o fr { h with next:=r } with
   |some (fr',h')=>C7 call lo hi n l r.succ (wrote d.o.dst Ai) fr' { h' with next:=h.next }
   |none=>none
  |.quiet=>match Cu fr d.o.guard,d.o.act with
   |some true,.op o=>match D6 fr d.o.args with
    |some args=>match opP o args h with
     |some (v,_)=>
      if Ds lo hi (rdP o args)&&(!rdF o args||Om h lo n)&&Ku d.o.args (rdP o args) (rdF o args) h (Ai.drop d.chk) then
       C7 call lo hi n l r (Js d.o.dst d.o.args (rdP o args) h Ai) (Kl fr d.o.dst v) h
      else none
     |none=>none
    |none=>none
   |some false,_=>C7 call lo hi n l r Ai (Kl fr d.o.dst .unit) h
   |_,_=>none
def Gs (fr:PFr) (h:Ab):Lj→Option PC
 |.tmp k=>match fr.get k with
  |some (.v x)=>some x
  |_=>none
 |.eK k=>match fr.get k with
  |some (.v (.s (.ptr b o)))=>match h.read b o 1 with
   |some [x]=>some (.s x)
   |_=>none
  |_=>none
 |.eL k n=>match fr.get k with
  |some (.v (.s (.ptr b o)))=>match h.read b o n with
   |some l=>some (.agg l)
   |none=>none
  |_=>none
def E0 (fr:PFr) (h:Ab):List Lj→Option (List PC)
 |[]=>some []
 |r::l=>match Gs fr h r with
  |some x=>match E0 fr h l with
   |some xs=>some (x::xs)
   |none=>none
  |none=>none
def Cv:List PC→PA
 |[x]=>.v x
 |l=>.tup l
def chunk (es:Nat):Nat→List PV→List (List PV)
 |0,_=>[]
 |n+1,l=>l.take es::chunk es n (l.drop es)
def Jt:Nat→PV→Ab→Option (PV×Ab)
 |0,_,_=>none
 |n+1,v,h=>match v with
  |.bool b=>some (.bool b,h)
  |.int k x=>some (.int k x,h)
  |.str l=>some (.str l,h)
  |.Eb=>some (.Eb,h)
  |.Af=>some (.Af,h)
  |.Dv=>some (.Dv,h)
  |.Fe=>some (.Fe,h)
  |.func f [] []=>some (.func f [] [],h)
  |.lst es l _=>some (.lst es l none,h)
  |.rp l=>some (.rp l,h)
  |.mp ks vs=>some (.mp ks vs,h)
  |.slice b o len es cap=>
   if Kr len cap=false then none else
   if len*es=0 then some (.lst es (chunk es len []) none,h) else
   match h.get b with
   |some ⟨.cells c,own,frz,anc,log⟩=>
    if o+len*es≤c.length then
     match Xa (Jt n) ((c.drop o).take (len*es)) (if frz then h else h.upd b (some ⟨.cells c,own,true,anc,log⟩)) with
     |some (l,h)=>some (.lst es (chunk es len l) none,h)
     |none=>none
    else none
   |_=>none
  |_=>none
where
 Xa (f:PV→Ab→Option (PV×Ab)):List PV→Ab→Option (List PV×Ab)
  |[],h=>some ([],h)
  |x::l,h=>match f x h with
   |some (y,h)=>match Xa f l h with
    |some (ys,h)=>some (y::ys,h)
    |none=>none
   |none=>none
def Yn (n:Nat) (v:PC) (h:Ab):Option (PC×Ab):=
 match v with
 |.s x=>match Jt n x h with
  |some (y,h)=>some (.s y,h)
  |none=>none
 |.agg cs=>match Jt.Xa (Jt n) cs h with
  |some (l,h)=>some (.agg l,h)
  |none=>none
def Rt (n:Nat):List PC→Ab→Option (List PC×Ab)
 |[],h=>some ([],h)
 |x::l,h=>match Yn n x h with
  |some (y,h)=>match Rt n l h with
   |some (ys,h)=>some (y::ys,h)
   |none=>none
  |none=>none
def E8 (n:Nat) (v:PA) (h:Ab):Option (PA×Ab):=
 match v with
 |.v x=>match Yn n x h with
  |some (y,h)=>some (.v y,h)
  |none=>none
 |.tup xs=>match Rt n xs h with
  |some (ys,h)=>some (.tup ys,h)
  |none=>none
def Dk (n:Nat):List PA→Ab→Option (List PA×Ab)
 |[],h=>some ([],h)
 |x::l,h=>match E8 n x h with
  |some (y,h)=>match Dk n l h with
   |some (ys,h)=>some (y::ys,h)
   |none=>none
  |none=>none
def deep:Nat:=40
structure Tp where
 pure:Nat→Bool
 ans:Nat→List PA→Option PA
def Zr (F:A4) (ex:Ay→PFr→Ab→Option (B2×PFr×Ab)):E7:=fun f args h=>
 match F f with
 |some vf=>match ex vf.body (Tr.z.Co 0 args) h with
  |some (.exit _,_,_)=>none
  |some (_,fr,h)=>match E0 fr h vf.results with
   |some l=>some (Cv l,h)
   |none=>none
  |none=>none
 |none=>none
def Vo (F:A4) (ex:Ay→PFr→Ab→Option (B2×PFr×Ab)) (f:Nat) (xs:List PA):Option PA:=
 match Zr F ex f xs .empty with
 |some (r,g)=>match E8 deep r g with
  |some (r,_)=>some r
  |none=>none
 |none=>none
def Ru (F:A4) (K:Tp) (ex:Ay→PFr→Ab→Option (B2×PFr×Ab)):E7:=fun f args h=>
 if K.pure f then
  match Dk deep args h with
  |some (xs,h)=>match K.ans f xs with
   |some r=>some (r,h)
   |none=>match Vo F ex f xs with
    |some r=>some (r,h)
    |none=>none
  |none=>none
 else Zr F ex f args h
def Dl (F:A4) (K:Tp):Nat→Ay→PFr→Ab→Option (B2×PFr×Ab)
 |0,_,_,_=>none
 |n+1,c,fr,h=>match c with
  |.skip=>some (.normal,fr,h)
  |.region ops=>match qE (Ru F K (Dl F K n)) ops fr h with
   |some (fr,h)=>some (.normal,fr,h)
   |none=>none
  |.drawn ops=>
   match C7 (Ru F K (Dl F K n)) h.next (Bt h.next (Az ops)) (Az ops) ops h.next [] fr { h with next:=Bt h.next (Az ops) } with
   |some (fr,h)=>some (.normal,fr,h)
   |none=>none
  |.seq a b=>match Dl F K n a fr h with
   |some (.normal,fr,h)=>Dl F K n b fr h
   |r=>r
  |.cond c a b=>match Pa fr c with
   |some (.v (.s (.bool true)))=>Dl F K n a fr h
   |some (.v (.s (.bool false)))=>Dl F K n b fr h
   |_=>none
  |.block id c=>match Dl F K n c fr h with
   |some (.exit j,fr,h)=>if j=id then some (.normal,fr,h) else some (.exit j,fr,h)
   |r=>r
  |.loop c=>match Dl F K n c fr h with
   |some (.normal,fr,h)=>Dl F K n (.loop c) fr h
   |r=>r
  |.exit id=>some (.exit id,fr,h)
  |.ret=>some (.ret,fr,h)
def RV (F:A4) (K:Tp) (n:Nat) (f:Nat) (xs:List PA):Option PA:=Vo F (Dl F K n) f xs
end Go.Pv
end
section
noncomputable section
namespace Go.Vm
open Key (kn)
def cSV:Value→Option SV
 |.bool b=>some (.bool b)
 |.int k n=>some (.int k n)
 |.string s=>some (.str (s.data.toList.map UInt8.toNat))
 |.pointer none=>some .Eb
 |.slice none 0 0=>some .Af
 |.map none=>some .Dv
 |.nilFunc=>some .Fe
 |_=>none
def AA:List Value→Option (List SV)
 |[]=>some []
 |v::l=>match cSV v with
  |some x=>match AA l with
   |some xs=>some (x::xs)
   |none=>none
  |none=>none
def cCV:Value→Option CV
 |.agg cs=>match AA cs.toList with
  |some l=>some (.agg l)
  |none=>none
 |v=>match cSV v with
  |some x=>some (.s x)
  |none=>none
def cX:Operand→Option VX
 |.tmp t=>some (.t (kn t))
 |.const v=>match cCV v with
  |some x=>some (.c (.v x))
  |none=>none
 |.func f=>some (.c (.v (.s (.func f [] []))))
 |.global _=>none
def cXs:List Operand→Option (List VX)
 |[]=>some []
 |x::l=>match cX x with
  |some y=>match cXs l with
   |some ys=>some (y::ys)
   |none=>none
  |none=>none
section
variable (P:Program)
def shapeOf (t:TypeId):Option (Option Nat):=
 match P.underlying t,P.info? t with
 |some (.struct _),some i=>some (some i.size)
 |some (.array _ _),some i=>some (some i.size)
 |some _,some _=>some none
 |_,_=>none
def Cw (t:TypeId):Option Nat:=(P.info? t).map (·.size)
def Vp (t:TypeId):Option Nat:=(P.info? t).map (·.bytes)
def lJ (t:TypeId):Option CV:=
 match P.info? t with
 |some i=>match i.zero with
  |some v=>cCV v
  |none=>none
 |none=>none
def Ju (t:TypeId):Option (List SV):=(lJ P t).map CV.cells
def Nm (lv:TypeId→Option (List Ew)):List Field→Nat→Option (List Ew)
 |[],_=>some []
 |f::fs,off=>
  if f.name ≠ "_" ∧ f.offset = off ∧ (shapeOf P f.type).isSome then
   match lv f.type with
   |some l=>if Cw P f.type=some l.length then(match Nm lv fs (off+l.length) with
    |some q=>some (l++q)
    |none=>none) else none
   |none=>none
  else none
def lK (l:List Ew):Nat→List Ew
 |0=>[]
 |n+1=>l++lK l n
def leaves:Nat→TypeId→Option (List Ew)
 |0,_=>none
 |d+1,t=>
  match P.underlying t with
  |some .bool=>some [.bool]
  |some (.int _)=>some [.int]
  |some .string=>some [.str]
  |some (.struct fs)=>if P.stoodInHeld t then none else Nm P (leaves d) fs.toList 0
  |some (.array n e)=>
   if(shapeOf P e).isSome∧n≤64 then
    match leaves d e with
    |some l=>if Cw P e=some l.length then some (lK l n) else none
    |none=>none
   else none
  |_=>none
def Ec (t:TypeId):Option G7:=
 match shapeOf P t,leaves P 20 t with
 |some none,some [k]=>some (.one k)
 |some (some _),some ks=>some (.agg ks)
 |_,_=>none
def E1 (pl:Nat→Option (Nat×Nat)):List (Nat×Operand)→Option (List (Nat×Nat))
 |[]=>some []
 |(i,_)::l=>match pl i with
  |some p=>match E1 pl l with
   |some r=>some (p::r)
   |none=>none
  |none=>none
def Zs (t:TypeId):Option EqK:=
 match P.underlying t with
 |some .bool=>some .bool
 |some (.pointer _)=>some .ptr
 |some (.slice _)=>some .slice
 |some (.map _ _)=>some .map
 |some (.func _ _ _)=>some .func
 |some (.struct _)=>if P.eqGuardType P.depth t then none else(leaves P 20 t).map .agg
 |some (.array _ _)=>if P.eqGuardType P.depth t then none else(leaves P 20 t).map .agg
 |_=>none
def Me (c:Call):Option (Bl×List Operand):=
 match c.callee with
 |.value (.func f)=>match P.funcs[f]? with
  | some fn => if fn.name == "runtime.NumGoroutine" || fn.body.isNone then none else some (.call f, c.args.toList)
  |none=>none
 |.value x=>some (.Ge,x::c.args.toList)
 |.invoke _ _=>none
 |.builtin b=>
  match b,(c.argTypes[0]?).bind P.underlying with
  |.len,some .string=>some (.op .Ld,c.args.toList)
  |.len,some (.slice _)=>some (.op .lens,c.args.toList)
  |.len,some (.array n _)=>some (.op (.Lh n),c.args.toList)
  |.len,some (.map _ _)=>some (.op .dV,c.args.toList)
  |.cap,some (.slice _)=>some (.op .cap,c.args.toList)
  |.min,_=>some (.op (.Jk false),c.args.toList)
  |.max,_=>some (.op (.Jk true),c.args.toList)
  |.append,some (.slice e)=>
   match(c.argTypes[1]?).bind P.underlying,Cw P e,Vp P e,Ju P e with
   |some (.slice _),some n,some k,some z=>if k=0∨z.length≠n then none else some (.op (.append n k),c.args.toList)
   |some .string,some n,some k,some z=>if k=0∨z.length≠n then none else some (.op (.append n k),c.args.toList)
   |_,_,_,_=>none
  |.copy,some (.slice e)=>(Cw P e).map fun n=>(.op (.copy n),c.args.toList)
  |_,_=>none
def Fi (x:Operand) (lo hi mx:Option Operand) (k:SlK):Option (Bl×List Operand):=
 if mx.isSome&&hi.isNone then none else some (.op (.slice k lo.isSome hi.isSome mx.isSome),x::(lo.toList++(hi.toList++mx.toList)))
def cOp:Op→Option (Bl×List Operand)
 |.move x=>some (.op .mov,[x])
 |.assign x=>some (.op .mov,[x])
 |.pick c a b=>some (.op .pick,[c,a,b])
 |.alloc e=>(Ju P e).map fun z=>(.op (.Fg z),[])
 |.box e v=>(Cw P e).map fun n=>(.op (.box n),[v])
 |.build t parts=>
  match Ju P t,P.underlying t with
  |some z,some (.struct fs)=>match fs.toList.mapM (fun f=>(P.info? f.type).map fun i=>(f.offset,i.size)) with
   |some pls=>(E1 (fun i=>pls[i]?) parts.toList).map fun ps=>(.op (.build z ps),parts.toList.map (·.2))
   |none=>none
  |some z,some (.array _ e)=>match Cw P e with
   |some n=>(E1 (fun i=>some (i*n,n)) parts.toList).map fun ps=>(.op (.build z ps),parts.toList.map (·.2))
   |none=>none
  |_,_=>none
 |.buildSlice t len parts=>
  match P.underlying t with
  |some (.slice e)=>match Ju P e,Cw P e with
   |some z,some n=>if len*n≤16777216∧z.length=n∧0<n then(E1 (fun i=>some (i*n,n)) parts.toList).map fun ps=>(.op (.Gn n len z ps),parts.toList.map (·.2)) else none
   |_,_=>none
  |_=>none
 |.insert t m k v=>match P.underlying t with
  |some (.map kt _)=>(Ec P kt).map fun ks=>(.op (.Gq ks),[m,k,v])
  |_=>none
 |.mapUpdate t m k v=>match P.underlying t with
  |some (.map kt _)=>(Ec P kt).map fun ks=>(.op (.Gq ks),[m,k,v])
  |_=>none
 |.load t a=>match shapeOf P t with
  |some none=>some (.op .Bm,[a])
  |some (some n)=>some (.op (.B5 n),[a])
  |none=>none
 |.store t a v=>(Cw P t).map fun n=>(.op (.store n),[a,v])
 |.nilCheck x=>some (.op .Gp,[x])
 |.binOp b t x y _=>
  match P.underlying t with
  |some (.int _)=>some (.op (.bin b),[x,y])
  |some .string=>some (.op (.bin b),[x,y])
  |_=>match b,Zs P t with
   |.eql,some k=>some (.op (.eq false k),[x,y])
   |.neq,some k=>some (.op (.eq true k),[x,y])
   |_,_=>none
 |.unOp u _ x=>some (.op (.un u),[x])
 |.convert s d x=>match P.underlying s,P.underlying d with
  |some (.int _),some (.int k)=>some (.op (.conv k),[x])
  |_,_=>none
 |.makeFunc fn first cap=>match fn with
  |.func f=>some (.op (.Nc f first.size),first.toList++cap.toList)
  |_=>none
 |.makeMap _ none=>some (.op .Oi,[])
 |.makeMap t (some x)=>match P.underlying t with
  |some (.map _ _)=>some (.op .Oi,[x])
  |_=>none
 |.makeSlice t l c=>match P.underlying t with
  |some (.slice e)=>match Ju P e,Cw P e,Vp P e with
   |some z,some n,some k=>if z.length=n∧0<n then some (.op (.Ko n k z),[l,c]) else none
   |_,_,_=>none
  |_=>none
 |.slice t x lo hi mx=>match P.underlying t with
  |some .string=>Fi x lo hi mx .str
  |some (.slice e)=>match Cw P e with
   |some n=>Fi x lo hi mx (.slice n)
   |none=>none
  |some (.array n e)=>match Cw P e with
   |some k=>Fi x lo hi mx (.arr n k)
   |none=>none
  |_=>none
 |.fieldAddr t x f=>match P.underlying t with
  |some (.struct fs)=>match fs[f]? with
   |some fd=>match Cw P fd.type with
    |some n=>if n=0 then none else some (.op (.B8 fd.offset),[x])
    |none=>none
   |none=>none
  |_=>none
 |.field t x f=>match P.underlying t with
  |some (.struct fs)=>match fs[f]? with
   |some fd=>match shapeOf P fd.type with
    |some s=>some (.op (.field fd.offset s),[x])
    |none=>none
   |none=>none
  |_=>none
 |.indexAddr t x i=>match P.underlying t with
  |some (.array n e)=>(Cw P e).map fun k=>(.op (.pV n k),[x,i])
  |some (.slice e)=>(Cw P e).map fun k=>(.op (.isl k),[x,i])
  |_=>none
 |.index t x i=>match P.underlying t with
  |some (.array n e)=>match Cw P e,shapeOf P e with
   |some k,some s=>some (.op (.idx n k s),[x,i])
   |_,_=>none
  |some .string=>some (.op .pW,[x,i])
  |_=>none
 |.lookup t x i ok=>match P.underlying t with
  |some (.map kt vt)=>match Ec P kt,lJ P vt with
   |some ks,some z=>some (.op (.lookup ks z ok),[x,i])
   |_,_=>none
  |_=>none
 |.extract t i=>some (.op (.extract i),[t])
 |.call c=>Me P c
 |.range t x=>match P.underlying t with
  |some (.map _ _)=>some (.op .Hd,[x])
  |_=>none
 |.next i false=>some (.op .Md,[i])
 |.entry i=>some (.op .He,[i])
 |_=>none
def gY (ops:Array Oper) (o:Oper):Option (Option (Key×Bool)):=
 match o.guard with
 |none=>some none
 |some (j,b)=>match(ops[j]?).bind (·.dst) with
  |some t=>some (some (kn t,b))
  |none=>none
def lL (N:Nat) (o:Oper):Bool:=match o.dst with
 |some d=>Nat.blt d N
 |none=>true
def Ix (N:Nat) (ops:Array Oper) (o:Oper):Option An:=
 if lL N o then
  match gY ops o with
  |some g=>match cOp P o.op with
   |some (a,xs)=>match cXs xs with
    |some ys=>some ⟨o.dst.map kn,a,ys,g⟩
    |none=>some ⟨o.dst.map kn,.op .bad,[],g⟩
   |none=>some ⟨o.dst.map kn,.op .bad,[],g⟩
  |none=>none
 else none
def Ci (N:Nat) (ops:Array Oper):List Oper→Option (List An)
 |[]=>some []
 |o::l=>match Ix P N ops o with
  |some x=>match Ci N ops l with
   |some xs=>some (x::xs)
   |none=>none
  |none=>none
def direct (o:Oper):List Nat:=(o.after.toList.filter (Region.binds .any)).map (·.on)
def Pc (ms:List Nat):List Nat→Nat
 |[]=>0
 |k::l=>2 ^ k ||| ms.getD k 0 ||| Pc ms l
def E9:List (List Nat)→List Nat→List Nat
 |[],ms=>ms
 |d::r,ms=>E9 r (ms++[Pc ms d])
def B9 (ops:List Oper):List Nat:=E9 (ops.map direct) []
def before (ms:List Nat) (i j:Nat):Bool:=(ms.getD j 0).testBit i
def Vq (ms:List Nat) (eff:List Nat) (n:Nat):List Nat:=
 let r:=eff.foldl (fun acc j=>acc++(List.range n).filter (fun i=>(before ms i j||i==j)&&!acc.contains i)) []
 r++(List.range n).filter (fun i=>!r.contains i)
def looks (o:An):List Key:=(o.args.filterMap fun|.t k=>some k|.c _=>none)++(match o.guard with|some (k,_)=>[k]|none=>[])
def Zt (x y:An):Bool:=
 (match x.dst with|some d=>!(looks y).contains d|none=>true)&&(match y.dst with|some d=>!(looks x).contains d|none=>true)
def C8 (vs:List An):List Nat:=(vs.zipIdx.filter fun p=>p.1.act.kind=.effect).map (·.2)
def lM (vs:List An) (i:Nat):Bool:=match vs[i]? with
 |some o=>o.act.kind=.effect
 |none=>false
def Qs:List An→Bool
 |[]=>true
 |o::l=>(match o.dst with|some d=>l.all (fun p=>p.dst !=some d)|none=>true)&&Qs l
def AB (ms:List Nat) (vs:List An) (i j:Nat):Bool:=
 before ms i j||before ms j i||(match vs[i]?,vs[j]? with
  |some x,some y=>Zt x y
  |_,_=>true)
def uC (ms:List Nat) (vs:List An):List Nat→Bool
 |[]=>true
 |i::l=>!l.contains i&&l.all (fun j=>!before ms j i&&(!lM vs j||before ms i j))&&uC ms vs l
def Y0 (ms:List Nat) (ops:List Oper) (vs:List An) (ord:List Nat):Bool:=
 let n:=vs.length
 Qs vs &&
 ((List.range ops.length).all fun j=>match ops[j]? with
  |some o=>(direct o).all fun k=>Nat.blt k j
  |none=>true) &&
 ((List.range n).all fun i=>(List.range n).all fun j=>Nat.ble j i||AB ms vs i j) &&
 (ord.all fun i=>Nat.blt i n)&&((List.range n).all fun i=>ord.contains i) &&
 uC ms vs ord
def Zu (ms:List Nat) (eff:List Nat) (i:Nat):Nat:=(eff.filter fun j=>before ms j i).length
def Pd (ms:List Nat) (eff:List Nat) (vs:List An):List Nat→Option (List DOp)
 |[]=>some []
 |i::l=>match vs[i]? with
  |some o=>match Pd ms eff vs l with
   |some r=>some (⟨o,Zu ms eff i⟩::r)
   |none=>none
  |none=>none
def H6 (N:Nat) (ops:Array Oper) (draw:Bool):Option Ay:=
 match Ci P N ops ops.toList with
 |some vs=>
  if draw then
   let ms:=B9 ops.toList
   let eff:=C8 vs
   let ord:=Vq ms eff vs.length
   if Y0 ms ops.toList vs ord then(Pd ms eff vs ord).map .drawn else none
  else some (.region vs)
 |none=>none
def A2 (N:Nat):Code→Option Ay
 |.skip=>some .skip
 |.region _ ops draw=>H6 P N ops draw
 |.seq a b=>match A2 N a,A2 N b with
  |some x,some y=>some (.seq x y)
  |_,_=>none
 |.cond c a b=>match cX c,A2 N a,A2 N b with
  |some c,some x,some y=>some (.cond c x y)
  |_,_,_=>none
 |.block id c=>(A2 N c).map (.block id)
 |.loop c=>(A2 N c).map .loop
 |.exit id=>some (.exit id)
 |.ret=>some .ret
 |_=>none
def HQ:ResultVar→Option Lj
 |.tmp t=>some (.tmp (kn t))
 |.cell a t=>match shapeOf P t with
  |some none=>some (.eK (kn a))
  |some (some n)=>some (.eL (kn a) n)
  |none=>none
def Zv:List ResultVar→Option (List Lj)
 |[]=>some []
 |r::l=>match HQ P r with
  |some x=>match Zv l with
   |some xs=>some (x::xs)
   |none=>none
  |none=>none
def lN (fn:Func):Option El:=
 if fn.name == "runtime.NumGoroutine" then none else
 match fn.body with
 |some c=>match A2 P fn.ntmps c,Zv P fn.results.toList with
  |some v,some rs=>some ⟨rs,v⟩
  |_,_=>none
 |none=>none
def Fq:A4:=fun f=>(P.funcs[f]?).bind (lN P)
end
end Go.Vm
end
section
noncomputable section
namespace Go.Pv.K
open Go.Vm
open Go.Vm.Key (kn)
theorem ff {p:Prop} (e:false=true):p:=by cases e
structure Row where
 mk ::
 (a0 a1 a2 a3 a4 a5 a6 a7 a8 a9 a10 a11 a12 a13 a14 a15:Option PA)
structure Fr where
 mk ::
 (a0 a1 a2 a3 a4 a5 a6 a7 a8 a9 a10 a11 a12 a13 a14 a15:Row)
namespace Row
def empty:Row:=.mk none none none none none none none none none none none none none none none none
def get:Row→Nat→Option PA
 |.mk a0 a1 a2 a3 a4 a5 a6 a7 a8 a9 a10 a11 a12 a13 a14 a15,0=>a0
 |.mk a0 a1 a2 a3 a4 a5 a6 a7 a8 a9 a10 a11 a12 a13 a14 a15,1=>a1
 |.mk a0 a1 a2 a3 a4 a5 a6 a7 a8 a9 a10 a11 a12 a13 a14 a15,2=>a2
 |.mk a0 a1 a2 a3 a4 a5 a6 a7 a8 a9 a10 a11 a12 a13 a14 a15,3=>a3
 |.mk a0 a1 a2 a3 a4 a5 a6 a7 a8 a9 a10 a11 a12 a13 a14 a15,4=>a4
 |.mk a0 a1 a2 a3 a4 a5 a6 a7 a8 a9 a10 a11 a12 a13 a14 a15,5=>a5
 |.mk a0 a1 a2 a3 a4 a5 a6 a7 a8 a9 a10 a11 a12 a13 a14 a15,6=>a6
 |.mk a0 a1 a2 a3 a4 a5 a6 a7 a8 a9 a10 a11 a12 a13 a14 a15,7=>a7
 |.mk a0 a1 a2 a3 a4 a5 a6 a7 a8 a9 a10 a11 a12 a13 a14 a15,8=>a8
 |.mk a0 a1 a2 a3 a4 a5 a6 a7 a8 a9 a10 a11 a12 a13 a14 a15,9=>a9
 |.mk a0 a1 a2 a3 a4 a5 a6 a7 a8 a9 a10 a11 a12 a13 a14 a15,10=>a10
 |.mk a0 a1 a2 a3 a4 a5 a6 a7 a8 a9 a10 a11 a12 a13 a14 a15,11=>a11
 |.mk a0 a1 a2 a3 a4 a5 a6 a7 a8 a9 a10 a11 a12 a13 a14 a15,12=>a12
 |.mk a0 a1 a2 a3 a4 a5 a6 a7 a8 a9 a10 a11 a12 a13 a14 a15,13=>a13
 |.mk a0 a1 a2 a3 a4 a5 a6 a7 a8 a9 a10 a11 a12 a13 a14 a15,14=>a14
 |.mk a0 a1 a2 a3 a4 a5 a6 a7 a8 a9 a10 a11 a12 a13 a14 a15,15=>a15
 |_,_=>none
def set:Row→Nat→PA→Row
 |.mk a0 a1 a2 a3 a4 a5 a6 a7 a8 a9 a10 a11 a12 a13 a14 a15,0,v=>.mk (some v) a1 a2 a3 a4 a5 a6 a7 a8 a9 a10 a11 a12 a13 a14 a15
 |.mk a0 a1 a2 a3 a4 a5 a6 a7 a8 a9 a10 a11 a12 a13 a14 a15,1,v=>.mk a0 (some v) a2 a3 a4 a5 a6 a7 a8 a9 a10 a11 a12 a13 a14 a15
 |.mk a0 a1 a2 a3 a4 a5 a6 a7 a8 a9 a10 a11 a12 a13 a14 a15,2,v=>.mk a0 a1 (some v) a3 a4 a5 a6 a7 a8 a9 a10 a11 a12 a13 a14 a15
 |.mk a0 a1 a2 a3 a4 a5 a6 a7 a8 a9 a10 a11 a12 a13 a14 a15,3,v=>.mk a0 a1 a2 (some v) a4 a5 a6 a7 a8 a9 a10 a11 a12 a13 a14 a15
 |.mk a0 a1 a2 a3 a4 a5 a6 a7 a8 a9 a10 a11 a12 a13 a14 a15,4,v=>.mk a0 a1 a2 a3 (some v) a5 a6 a7 a8 a9 a10 a11 a12 a13 a14 a15
 |.mk a0 a1 a2 a3 a4 a5 a6 a7 a8 a9 a10 a11 a12 a13 a14 a15,5,v=>.mk a0 a1 a2 a3 a4 (some v) a6 a7 a8 a9 a10 a11 a12 a13 a14 a15
 |.mk a0 a1 a2 a3 a4 a5 a6 a7 a8 a9 a10 a11 a12 a13 a14 a15,6,v=>.mk a0 a1 a2 a3 a4 a5 (some v) a7 a8 a9 a10 a11 a12 a13 a14 a15
 |.mk a0 a1 a2 a3 a4 a5 a6 a7 a8 a9 a10 a11 a12 a13 a14 a15,7,v=>.mk a0 a1 a2 a3 a4 a5 a6 (some v) a8 a9 a10 a11 a12 a13 a14 a15
 |.mk a0 a1 a2 a3 a4 a5 a6 a7 a8 a9 a10 a11 a12 a13 a14 a15,8,v=>.mk a0 a1 a2 a3 a4 a5 a6 a7 (some v) a9 a10 a11 a12 a13 a14 a15
 |.mk a0 a1 a2 a3 a4 a5 a6 a7 a8 a9 a10 a11 a12 a13 a14 a15,9,v=>.mk a0 a1 a2 a3 a4 a5 a6 a7 a8 (some v) a10 a11 a12 a13 a14 a15
 |.mk a0 a1 a2 a3 a4 a5 a6 a7 a8 a9 a10 a11 a12 a13 a14 a15,10,v=>.mk a0 a1 a2 a3 a4 a5 a6 a7 a8 a9 (some v) a11 a12 a13 a14 a15
 |.mk a0 a1 a2 a3 a4 a5 a6 a7 a8 a9 a10 a11 a12 a13 a14 a15,11,v=>.mk a0 a1 a2 a3 a4 a5 a6 a7 a8 a9 a10 (some v) a12 a13 a14 a15
 |.mk a0 a1 a2 a3 a4 a5 a6 a7 a8 a9 a10 a11 a12 a13 a14 a15,12,v=>.mk a0 a1 a2 a3 a4 a5 a6 a7 a8 a9 a10 a11 (some v) a13 a14 a15
 |.mk a0 a1 a2 a3 a4 a5 a6 a7 a8 a9 a10 a11 a12 a13 a14 a15,13,v=>.mk a0 a1 a2 a3 a4 a5 a6 a7 a8 a9 a10 a11 a12 (some v) a14 a15
 |.mk a0 a1 a2 a3 a4 a5 a6 a7 a8 a9 a10 a11 a12 a13 a14 a15,14,v=>.mk a0 a1 a2 a3 a4 a5 a6 a7 a8 a9 a10 a11 a12 a13 (some v) a15
 |.mk a0 a1 a2 a3 a4 a5 a6 a7 a8 a9 a10 a11 a12 a13 a14 a15,15,v=>.mk a0 a1 a2 a3 a4 a5 a6 a7 a8 a9 a10 a11 a12 a13 a14 (some v)
 |r,_,_=>r
end Row
namespace Fr
def empty:Fr:=.mk .empty .empty .empty .empty .empty .empty .empty .empty .empty .empty .empty .empty .empty .empty .empty .empty
def get:Fr→Nat→Row
 |.mk a0 a1 a2 a3 a4 a5 a6 a7 a8 a9 a10 a11 a12 a13 a14 a15,0=>a0
 |.mk a0 a1 a2 a3 a4 a5 a6 a7 a8 a9 a10 a11 a12 a13 a14 a15,1=>a1
 |.mk a0 a1 a2 a3 a4 a5 a6 a7 a8 a9 a10 a11 a12 a13 a14 a15,2=>a2
 |.mk a0 a1 a2 a3 a4 a5 a6 a7 a8 a9 a10 a11 a12 a13 a14 a15,3=>a3
 |.mk a0 a1 a2 a3 a4 a5 a6 a7 a8 a9 a10 a11 a12 a13 a14 a15,4=>a4
 |.mk a0 a1 a2 a3 a4 a5 a6 a7 a8 a9 a10 a11 a12 a13 a14 a15,5=>a5
 |.mk a0 a1 a2 a3 a4 a5 a6 a7 a8 a9 a10 a11 a12 a13 a14 a15,6=>a6
 |.mk a0 a1 a2 a3 a4 a5 a6 a7 a8 a9 a10 a11 a12 a13 a14 a15,7=>a7
 |.mk a0 a1 a2 a3 a4 a5 a6 a7 a8 a9 a10 a11 a12 a13 a14 a15,8=>a8
 |.mk a0 a1 a2 a3 a4 a5 a6 a7 a8 a9 a10 a11 a12 a13 a14 a15,9=>a9
 |.mk a0 a1 a2 a3 a4 a5 a6 a7 a8 a9 a10 a11 a12 a13 a14 a15,10=>a10
 |.mk a0 a1 a2 a3 a4 a5 a6 a7 a8 a9 a10 a11 a12 a13 a14 a15,11=>a11
 |.mk a0 a1 a2 a3 a4 a5 a6 a7 a8 a9 a10 a11 a12 a13 a14 a15,12=>a12
 |.mk a0 a1 a2 a3 a4 a5 a6 a7 a8 a9 a10 a11 a12 a13 a14 a15,13=>a13
 |.mk a0 a1 a2 a3 a4 a5 a6 a7 a8 a9 a10 a11 a12 a13 a14 a15,14=>a14
 |.mk a0 a1 a2 a3 a4 a5 a6 a7 a8 a9 a10 a11 a12 a13 a14 a15,15=>a15
 |_,_=>.empty
def set:Fr→Nat→Row→Fr
 |.mk a0 a1 a2 a3 a4 a5 a6 a7 a8 a9 a10 a11 a12 a13 a14 a15,0,v=>.mk v a1 a2 a3 a4 a5 a6 a7 a8 a9 a10 a11 a12 a13 a14 a15
 |.mk a0 a1 a2 a3 a4 a5 a6 a7 a8 a9 a10 a11 a12 a13 a14 a15,1,v=>.mk a0 v a2 a3 a4 a5 a6 a7 a8 a9 a10 a11 a12 a13 a14 a15
 |.mk a0 a1 a2 a3 a4 a5 a6 a7 a8 a9 a10 a11 a12 a13 a14 a15,2,v=>.mk a0 a1 v a3 a4 a5 a6 a7 a8 a9 a10 a11 a12 a13 a14 a15
 |.mk a0 a1 a2 a3 a4 a5 a6 a7 a8 a9 a10 a11 a12 a13 a14 a15,3,v=>.mk a0 a1 a2 v a4 a5 a6 a7 a8 a9 a10 a11 a12 a13 a14 a15
 |.mk a0 a1 a2 a3 a4 a5 a6 a7 a8 a9 a10 a11 a12 a13 a14 a15,4,v=>.mk a0 a1 a2 a3 v a5 a6 a7 a8 a9 a10 a11 a12 a13 a14 a15
 |.mk a0 a1 a2 a3 a4 a5 a6 a7 a8 a9 a10 a11 a12 a13 a14 a15,5,v=>.mk a0 a1 a2 a3 a4 v a6 a7 a8 a9 a10 a11 a12 a13 a14 a15
 |.mk a0 a1 a2 a3 a4 a5 a6 a7 a8 a9 a10 a11 a12 a13 a14 a15,6,v=>.mk a0 a1 a2 a3 a4 a5 v a7 a8 a9 a10 a11 a12 a13 a14 a15
 |.mk a0 a1 a2 a3 a4 a5 a6 a7 a8 a9 a10 a11 a12 a13 a14 a15,7,v=>.mk a0 a1 a2 a3 a4 a5 a6 v a8 a9 a10 a11 a12 a13 a14 a15
 |.mk a0 a1 a2 a3 a4 a5 a6 a7 a8 a9 a10 a11 a12 a13 a14 a15,8,v=>.mk a0 a1 a2 a3 a4 a5 a6 a7 v a9 a10 a11 a12 a13 a14 a15
 |.mk a0 a1 a2 a3 a4 a5 a6 a7 a8 a9 a10 a11 a12 a13 a14 a15,9,v=>.mk a0 a1 a2 a3 a4 a5 a6 a7 a8 v a10 a11 a12 a13 a14 a15
 |.mk a0 a1 a2 a3 a4 a5 a6 a7 a8 a9 a10 a11 a12 a13 a14 a15,10,v=>.mk a0 a1 a2 a3 a4 a5 a6 a7 a8 a9 v a11 a12 a13 a14 a15
 |.mk a0 a1 a2 a3 a4 a5 a6 a7 a8 a9 a10 a11 a12 a13 a14 a15,11,v=>.mk a0 a1 a2 a3 a4 a5 a6 a7 a8 a9 a10 v a12 a13 a14 a15
 |.mk a0 a1 a2 a3 a4 a5 a6 a7 a8 a9 a10 a11 a12 a13 a14 a15,12,v=>.mk a0 a1 a2 a3 a4 a5 a6 a7 a8 a9 a10 a11 v a13 a14 a15
 |.mk a0 a1 a2 a3 a4 a5 a6 a7 a8 a9 a10 a11 a12 a13 a14 a15,13,v=>.mk a0 a1 a2 a3 a4 a5 a6 a7 a8 a9 a10 a11 a12 v a14 a15
 |.mk a0 a1 a2 a3 a4 a5 a6 a7 a8 a9 a10 a11 a12 a13 a14 a15,14,v=>.mk a0 a1 a2 a3 a4 a5 a6 a7 a8 a9 a10 a11 a12 a13 v a15
 |.mk a0 a1 a2 a3 a4 a5 a6 a7 a8 a9 a10 a11 a12 a13 a14 a15,15,v=>.mk a0 a1 a2 a3 a4 a5 a6 a7 a8 a9 a10 a11 a12 a13 a14 v
 |r,_,_=>r
end Fr
def rs0 (r:Row):Option PA:=r.a0
noncomputable def ru0 (r:Row) (v:PA) (k:Row→Bool):Bool:=@Row.rec (fun _=>Bool) (fun a0 a1 a2 a3 a4 a5 a6 a7 a8 a9 a10 a11 a12 a13 a14 a15=>k (.mk (some v) a1 a2 a3 a4 a5 a6 a7 a8 a9 a10 a11 a12 a13 a14 a15)) r
def fs0 (r:Fr):Row:=r.a0
noncomputable def fu0 (f:Row→(Row→Bool)→Bool) (r:Fr) (k:Fr→Bool):Bool:=@Fr.rec (fun _=>Bool) (fun a0 a1 a2 a3 a4 a5 a6 a7 a8 a9 a10 a11 a12 a13 a14 a15=>f a0 (fun v=>k (.mk v a1 a2 a3 a4 a5 a6 a7 a8 a9 a10 a11 a12 a13 a14 a15))) r
def rs1 (r:Row):Option PA:=r.a1
noncomputable def ru1 (r:Row) (v:PA) (k:Row→Bool):Bool:=@Row.rec (fun _=>Bool) (fun a0 a1 a2 a3 a4 a5 a6 a7 a8 a9 a10 a11 a12 a13 a14 a15=>k (.mk a0 (some v) a2 a3 a4 a5 a6 a7 a8 a9 a10 a11 a12 a13 a14 a15)) r
def fs1 (r:Fr):Row:=r.a1
noncomputable def fu1 (f:Row→(Row→Bool)→Bool) (r:Fr) (k:Fr→Bool):Bool:=@Fr.rec (fun _=>Bool) (fun a0 a1 a2 a3 a4 a5 a6 a7 a8 a9 a10 a11 a12 a13 a14 a15=>f a1 (fun v=>k (.mk a0 v a2 a3 a4 a5 a6 a7 a8 a9 a10 a11 a12 a13 a14 a15))) r
def rs2 (r:Row):Option PA:=r.a2
noncomputable def ru2 (r:Row) (v:PA) (k:Row→Bool):Bool:=@Row.rec (fun _=>Bool) (fun a0 a1 a2 a3 a4 a5 a6 a7 a8 a9 a10 a11 a12 a13 a14 a15=>k (.mk a0 a1 (some v) a3 a4 a5 a6 a7 a8 a9 a10 a11 a12 a13 a14 a15)) r
def fs2 (r:Fr):Row:=r.a2
noncomputable def fu2 (f:Row→(Row→Bool)→Bool) (r:Fr) (k:Fr→Bool):Bool:=@Fr.rec (fun _=>Bool) (fun a0 a1 a2 a3 a4 a5 a6 a7 a8 a9 a10 a11 a12 a13 a14 a15=>f a2 (fun v=>k (.mk a0 a1 v a3 a4 a5 a6 a7 a8 a9 a10 a11 a12 a13 a14 a15))) r
def rs3 (r:Row):Option PA:=r.a3
noncomputable def ru3 (r:Row) (v:PA) (k:Row→Bool):Bool:=@Row.rec (fun _=>Bool) (fun a0 a1 a2 a3 a4 a5 a6 a7 a8 a9 a10 a11 a12 a13 a14 a15=>k (.mk a0 a1 a2 (some v) a4 a5 a6 a7 a8 a9 a10 a11 a12 a13 a14 a15)) r
def fs3 (r:Fr):Row:=r.a3
noncomputable def fu3 (f:Row→(Row→Bool)→Bool) (r:Fr) (k:Fr→Bool):Bool:=@Fr.rec (fun _=>Bool) (fun a0 a1 a2 a3 a4 a5 a6 a7 a8 a9 a10 a11 a12 a13 a14 a15=>f a3 (fun v=>k (.mk a0 a1 a2 v a4 a5 a6 a7 a8 a9 a10 a11 a12 a13 a14 a15))) r
def rs4 (r:Row):Option PA:=r.a4
noncomputable def ru4 (r:Row) (v:PA) (k:Row→Bool):Bool:=@Row.rec (fun _=>Bool) (fun a0 a1 a2 a3 a4 a5 a6 a7 a8 a9 a10 a11 a12 a13 a14 a15=>k (.mk a0 a1 a2 a3 (some v) a5 a6 a7 a8 a9 a10 a11 a12 a13 a14 a15)) r
def fs4 (r:Fr):Row:=r.a4
noncomputable def fu4 (f:Row→(Row→Bool)→Bool) (r:Fr) (k:Fr→Bool):Bool:=@Fr.rec (fun _=>Bool) (fun a0 a1 a2 a3 a4 a5 a6 a7 a8 a9 a10 a11 a12 a13 a14 a15=>f a4 (fun v=>k (.mk a0 a1 a2 a3 v a5 a6 a7 a8 a9 a10 a11 a12 a13 a14 a15))) r
def rs5 (r:Row):Option PA:=r.a5
noncomputable def ru5 (r:Row) (v:PA) (k:Row→Bool):Bool:=@Row.rec (fun _=>Bool) (fun a0 a1 a2 a3 a4 a5 a6 a7 a8 a9 a10 a11 a12 a13 a14 a15=>k (.mk a0 a1 a2 a3 a4 (some v) a6 a7 a8 a9 a10 a11 a12 a13 a14 a15)) r
def fs5 (r:Fr):Row:=r.a5
noncomputable def fu5 (f:Row→(Row→Bool)→Bool) (r:Fr) (k:Fr→Bool):Bool:=@Fr.rec (fun _=>Bool) (fun a0 a1 a2 a3 a4 a5 a6 a7 a8 a9 a10 a11 a12 a13 a14 a15=>f a5 (fun v=>k (.mk a0 a1 a2 a3 a4 v a6 a7 a8 a9 a10 a11 a12 a13 a14 a15))) r
def rs6 (r:Row):Option PA:=r.a6
noncomputable def ru6 (r:Row) (v:PA) (k:Row→Bool):Bool:=@Row.rec (fun _=>Bool) (fun a0 a1 a2 a3 a4 a5 a6 a7 a8 a9 a10 a11 a12 a13 a14 a15=>k (.mk a0 a1 a2 a3 a4 a5 (some v) a7 a8 a9 a10 a11 a12 a13 a14 a15)) r
def fs6 (r:Fr):Row:=r.a6
noncomputable def fu6 (f:Row→(Row→Bool)→Bool) (r:Fr) (k:Fr→Bool):Bool:=@Fr.rec (fun _=>Bool) (fun a0 a1 a2 a3 a4 a5 a6 a7 a8 a9 a10 a11 a12 a13 a14 a15=>f a6 (fun v=>k (.mk a0 a1 a2 a3 a4 a5 v a7 a8 a9 a10 a11 a12 a13 a14 a15))) r
def rs7 (r:Row):Option PA:=r.a7
noncomputable def ru7 (r:Row) (v:PA) (k:Row→Bool):Bool:=@Row.rec (fun _=>Bool) (fun a0 a1 a2 a3 a4 a5 a6 a7 a8 a9 a10 a11 a12 a13 a14 a15=>k (.mk a0 a1 a2 a3 a4 a5 a6 (some v) a8 a9 a10 a11 a12 a13 a14 a15)) r
def fs7 (r:Fr):Row:=r.a7
noncomputable def fu7 (f:Row→(Row→Bool)→Bool) (r:Fr) (k:Fr→Bool):Bool:=@Fr.rec (fun _=>Bool) (fun a0 a1 a2 a3 a4 a5 a6 a7 a8 a9 a10 a11 a12 a13 a14 a15=>f a7 (fun v=>k (.mk a0 a1 a2 a3 a4 a5 a6 v a8 a9 a10 a11 a12 a13 a14 a15))) r
def rs8 (r:Row):Option PA:=r.a8
noncomputable def ru8 (r:Row) (v:PA) (k:Row→Bool):Bool:=@Row.rec (fun _=>Bool) (fun a0 a1 a2 a3 a4 a5 a6 a7 a8 a9 a10 a11 a12 a13 a14 a15=>k (.mk a0 a1 a2 a3 a4 a5 a6 a7 (some v) a9 a10 a11 a12 a13 a14 a15)) r
def fs8 (r:Fr):Row:=r.a8
noncomputable def fu8 (f:Row→(Row→Bool)→Bool) (r:Fr) (k:Fr→Bool):Bool:=@Fr.rec (fun _=>Bool) (fun a0 a1 a2 a3 a4 a5 a6 a7 a8 a9 a10 a11 a12 a13 a14 a15=>f a8 (fun v=>k (.mk a0 a1 a2 a3 a4 a5 a6 a7 v a9 a10 a11 a12 a13 a14 a15))) r
def rs9 (r:Row):Option PA:=r.a9
noncomputable def ru9 (r:Row) (v:PA) (k:Row→Bool):Bool:=@Row.rec (fun _=>Bool) (fun a0 a1 a2 a3 a4 a5 a6 a7 a8 a9 a10 a11 a12 a13 a14 a15=>k (.mk a0 a1 a2 a3 a4 a5 a6 a7 a8 (some v) a10 a11 a12 a13 a14 a15)) r
def fs9 (r:Fr):Row:=r.a9
noncomputable def fu9 (f:Row→(Row→Bool)→Bool) (r:Fr) (k:Fr→Bool):Bool:=@Fr.rec (fun _=>Bool) (fun a0 a1 a2 a3 a4 a5 a6 a7 a8 a9 a10 a11 a12 a13 a14 a15=>f a9 (fun v=>k (.mk a0 a1 a2 a3 a4 a5 a6 a7 a8 v a10 a11 a12 a13 a14 a15))) r
def VO (r:Row):Option PA:=r.a10
noncomputable def VP (r:Row) (v:PA) (k:Row→Bool):Bool:=@Row.rec (fun _=>Bool) (fun a0 a1 a2 a3 a4 a5 a6 a7 a8 a9 a10 a11 a12 a13 a14 a15=>k (.mk a0 a1 a2 a3 a4 a5 a6 a7 a8 a9 (some v) a11 a12 a13 a14 a15)) r
def VQ (r:Fr):Row:=r.a10
noncomputable def VR (f:Row→(Row→Bool)→Bool) (r:Fr) (k:Fr→Bool):Bool:=@Fr.rec (fun _=>Bool) (fun a0 a1 a2 a3 a4 a5 a6 a7 a8 a9 a10 a11 a12 a13 a14 a15=>f a10 (fun v=>k (.mk a0 a1 a2 a3 a4 a5 a6 a7 a8 a9 v a11 a12 a13 a14 a15))) r
def VS (r:Row):Option PA:=r.a11
noncomputable def VT (r:Row) (v:PA) (k:Row→Bool):Bool:=@Row.rec (fun _=>Bool) (fun a0 a1 a2 a3 a4 a5 a6 a7 a8 a9 a10 a11 a12 a13 a14 a15=>k (.mk a0 a1 a2 a3 a4 a5 a6 a7 a8 a9 a10 (some v) a12 a13 a14 a15)) r
def VU (r:Fr):Row:=r.a11
noncomputable def VV (f:Row→(Row→Bool)→Bool) (r:Fr) (k:Fr→Bool):Bool:=@Fr.rec (fun _=>Bool) (fun a0 a1 a2 a3 a4 a5 a6 a7 a8 a9 a10 a11 a12 a13 a14 a15=>f a11 (fun v=>k (.mk a0 a1 a2 a3 a4 a5 a6 a7 a8 a9 a10 v a12 a13 a14 a15))) r
def VW (r:Row):Option PA:=r.a12
noncomputable def VY (r:Row) (v:PA) (k:Row→Bool):Bool:=@Row.rec (fun _=>Bool) (fun a0 a1 a2 a3 a4 a5 a6 a7 a8 a9 a10 a11 a12 a13 a14 a15=>k (.mk a0 a1 a2 a3 a4 a5 a6 a7 a8 a9 a10 a11 (some v) a13 a14 a15)) r
def VZ (r:Fr):Row:=r.a12
noncomputable def WA (f:Row→(Row→Bool)→Bool) (r:Fr) (k:Fr→Bool):Bool:=@Fr.rec (fun _=>Bool) (fun a0 a1 a2 a3 a4 a5 a6 a7 a8 a9 a10 a11 a12 a13 a14 a15=>f a12 (fun v=>k (.mk a0 a1 a2 a3 a4 a5 a6 a7 a8 a9 a10 a11 v a13 a14 a15))) r
def WB (r:Row):Option PA:=r.a13
noncomputable def WC (r:Row) (v:PA) (k:Row→Bool):Bool:=@Row.rec (fun _=>Bool) (fun a0 a1 a2 a3 a4 a5 a6 a7 a8 a9 a10 a11 a12 a13 a14 a15=>k (.mk a0 a1 a2 a3 a4 a5 a6 a7 a8 a9 a10 a11 a12 (some v) a14 a15)) r
def WD (r:Fr):Row:=r.a13
noncomputable def WE (f:Row→(Row→Bool)→Bool) (r:Fr) (k:Fr→Bool):Bool:=@Fr.rec (fun _=>Bool) (fun a0 a1 a2 a3 a4 a5 a6 a7 a8 a9 a10 a11 a12 a13 a14 a15=>f a13 (fun v=>k (.mk a0 a1 a2 a3 a4 a5 a6 a7 a8 a9 a10 a11 a12 v a14 a15))) r
def WG (r:Row):Option PA:=r.a14
noncomputable def WH (r:Row) (v:PA) (k:Row→Bool):Bool:=@Row.rec (fun _=>Bool) (fun a0 a1 a2 a3 a4 a5 a6 a7 a8 a9 a10 a11 a12 a13 a14 a15=>k (.mk a0 a1 a2 a3 a4 a5 a6 a7 a8 a9 a10 a11 a12 a13 (some v) a15)) r
def WI (r:Fr):Row:=r.a14
noncomputable def WJ (f:Row→(Row→Bool)→Bool) (r:Fr) (k:Fr→Bool):Bool:=@Fr.rec (fun _=>Bool) (fun a0 a1 a2 a3 a4 a5 a6 a7 a8 a9 a10 a11 a12 a13 a14 a15=>f a14 (fun v=>k (.mk a0 a1 a2 a3 a4 a5 a6 a7 a8 a9 a10 a11 a12 a13 v a15))) r
def WK (r:Row):Option PA:=r.a15
noncomputable def WL (r:Row) (v:PA) (k:Row→Bool):Bool:=@Row.rec (fun _=>Bool) (fun a0 a1 a2 a3 a4 a5 a6 a7 a8 a9 a10 a11 a12 a13 a14 a15=>k (.mk a0 a1 a2 a3 a4 a5 a6 a7 a8 a9 a10 a11 a12 a13 a14 (some v))) r
def WM (r:Fr):Row:=r.a15
noncomputable def WN (f:Row→(Row→Bool)→Bool) (r:Fr) (k:Fr→Bool):Bool:=@Fr.rec (fun _=>Bool) (fun a0 a1 a2 a3 a4 a5 a6 a7 a8 a9 a10 a11 a12 a13 a14 a15=>f a15 (fun v=>k (.mk a0 a1 a2 a3 a4 a5 a6 a7 a8 a9 a10 a11 a12 a13 a14 v))) r
inductive SK where
 |mk (g:Row→Option PA) (p:Row→PA→(Row→Bool)→Bool)
inductive SL where
 |mk (g:Fr→Row) (p:(Row→(Row→Bool)→Bool)→Fr→(Fr→Bool)→Bool)
inductive Acc where
 |mk (g:Fr→Option PA) (p:PA→Fr→(Fr→Bool)→Bool)
noncomputable def SM:Nat→SK
 |0=>.mk rs0 ru0
 |1=>.mk rs1 ru1
 |2=>.mk rs2 ru2
 |3=>.mk rs3 ru3
 |4=>.mk rs4 ru4
 |5=>.mk rs5 ru5
 |6=>.mk rs6 ru6
 |7=>.mk rs7 ru7
 |8=>.mk rs8 ru8
 |9=>.mk rs9 ru9
 |10=>.mk VO VP
 |11=>.mk VS VT
 |12=>.mk VW VY
 |13=>.mk WB WC
 |14=>.mk WG WH
 |15=>.mk WK WL
 |_=>.mk (fun _=>none) (fun _ _ _=>false)
noncomputable def SN:Nat→SL
 |0=>.mk fs0 fu0
 |1=>.mk fs1 fu1
 |2=>.mk fs2 fu2
 |3=>.mk fs3 fu3
 |4=>.mk fs4 fu4
 |5=>.mk fs5 fu5
 |6=>.mk fs6 fu6
 |7=>.mk fs7 fu7
 |8=>.mk fs8 fu8
 |9=>.mk fs9 fu9
 |10=>.mk VQ VR
 |11=>.mk VU VV
 |12=>.mk VZ WA
 |13=>.mk WD WE
 |14=>.mk WI WJ
 |15=>.mk WM WN
 |_=>.mk (fun _=>.empty) (fun _ _ _=>false)
noncomputable def acc (key:Key):Acc:=
 @Bool.rec (fun _=>Acc) (.mk (fun _=>none) (fun _ _ _=>false))
  (@SL.rec (fun _=>Acc) (fun s m=>@SK.rec (fun _=>Acc) (fun rs ru=>.mk (fun fr=>rs (s fr)) (fun v fr k=>m (fun r k=>ru r v k) fr k)) (SM (key.toNat % 16))) (SN (key.toNat / 16)))
  (Nat.blt key.toNat 256)
theorem nJ (r:Row) (v:PA) (i j:Nat) (hi:i<16) (hj:j<16):(r.set i v).get j=if i=j then some v else r.get j:=by
 cases r
 obtain rfl|rfl|rfl|rfl|rfl|rfl|rfl|rfl|rfl|rfl|rfl|rfl|rfl|rfl|rfl|rfl:=(show i=0∨i=1∨i=2∨i=3∨i=4∨i=5∨i=6∨i=7∨i=8∨i=9∨i=10∨i=11∨i=12∨i=13∨i=14∨i=15 by omega)
 all_goals (obtain rfl|rfl|rfl|rfl|rfl|rfl|rfl|rfl|rfl|rfl|rfl|rfl|rfl|rfl|rfl|rfl:=(show j=0∨j=1∨j=2∨j=3∨j=4∨j=5∨j=6∨j=7∨j=8∨j=9∨j=10∨j=11∨j=12∨j=13∨j=14∨j=15 by omega)<;>rfl)
theorem rH (r:Fr) (v:Row) (i j:Nat) (hi:i<16) (hj:j<16):(r.set i v).get j=if i=j then v else r.get j:=by
 cases r
 obtain rfl|rfl|rfl|rfl|rfl|rfl|rfl|rfl|rfl|rfl|rfl|rfl|rfl|rfl|rfl|rfl:=(show i=0∨i=1∨i=2∨i=3∨i=4∨i=5∨i=6∨i=7∨i=8∨i=9∨i=10∨i=11∨i=12∨i=13∨i=14∨i=15 by omega)
 all_goals (obtain rfl|rfl|rfl|rfl|rfl|rfl|rfl|rfl|rfl|rfl|rfl|rfl|rfl|rfl|rfl|rfl:=(show j=0∨j=1∨j=2∨j=3∨j=4∨j=5∨j=6∨j=7∨j=8∨j=9∨j=10∨j=11∨j=12∨j=13∨j=14∨j=15 by omega)<;>rfl)
theorem yE (j:Nat) (hj:j<16):Row.empty.get j=none:=by
 obtain rfl|rfl|rfl|rfl|rfl|rfl|rfl|rfl|rfl|rfl|rfl|rfl|rfl|rfl|rfl|rfl:=(show j=0∨j=1∨j=2∨j=3∨j=4∨j=5∨j=6∨j=7∨j=8∨j=9∨j=10∨j=11∨j=12∨j=13∨j=14∨j=15 by omega)<;>rfl
theorem BZ (j:Nat) (hj:j<16):Fr.empty.get j=.empty:=by
 obtain rfl|rfl|rfl|rfl|rfl|rfl|rfl|rfl|rfl|rfl|rfl|rfl|rfl|rfl|rfl|rfl:=(show j=0∨j=1∨j=2∨j=3∨j=4∨j=5∨j=6∨j=7∨j=8∨j=9∨j=10∨j=11∨j=12∨j=13∨j=14∨j=15 by omega)<;>rfl
theorem yF (i:Nat) (hi:i<16):∃g p,SM i=.mk g p∧(∀r,g r=r.get i)∧∀r v k,p r v k=k (r.set i v):=by
 obtain rfl|rfl|rfl|rfl|rfl|rfl|rfl|rfl|rfl|rfl|rfl|rfl|rfl|rfl|rfl|rfl:=(show i=0∨i=1∨i=2∨i=3∨i=4∨i=5∨i=6∨i=7∨i=8∨i=9∨i=10∨i=11∨i=12∨i=13∨i=14∨i=15 by omega)
 all_goals exact⟨_,_,rfl,fun r=>by cases r;rfl,fun r v k=>by cases r;rfl⟩
theorem yG (i:Nat) (hi:i<16):∃g p,SN i=.mk g p∧(∀r,g r=r.get i)∧∀f r k,p f r k=f (r.get i) (fun v=>k (r.set i v)):=by
 obtain rfl|rfl|rfl|rfl|rfl|rfl|rfl|rfl|rfl|rfl|rfl|rfl|rfl|rfl|rfl|rfl:=(show i=0∨i=1∨i=2∨i=3∨i=4∨i=5∨i=6∨i=7∨i=8∨i=9∨i=10∨i=11∨i=12∨i=13∨i=14∨i=15 by omega)
 all_goals exact⟨_,_,rfl,fun r=>by cases r;rfl,fun f r k=>by cases r;rfl⟩
def Fr.at (fr:Fr) (k:Key):Option PA:=if k.toNat<256 then(fr.get (k.toNat / 16)).get (k.toNat % 16) else none
theorem bP (k:Key):(∃g p,acc k=.mk g p∧(∀fr,g fr=fr.at k)∧∀v fr c,p v fr c=true→∃fr',c fr'=true∧∀j,fr'.at j=if k=j then some v else fr.at j):=by
 by_cases hk:k.toNat<256
 ·obtain⟨g,p,h1,h2,h3⟩:=yG (k.toNat / 16) (by omega)
  obtain⟨g',p',h4,h5,h6⟩:=yF (k.toNat % 16) (by omega)
  refine⟨fun fr=>g' (g fr),fun v fr c=>p (fun r c=>p' r v c) fr c,?_,fun fr=>?_,fun v fr c h=>?_⟩
  ·have hb:Nat.blt k.toNat 256=true:=by simp[Nat.blt_eq];exact hk
   simp only[acc,hb,h1,h4]
  ·show g' (g fr)=_
   rw[h2,h5];simp[Fr.at,hk]
  ·have h:p (fun r c=>p' r v c) fr c=true:=h
   rw[h3,h6] at h
   refine⟨_,h,fun j=>?_⟩
   by_cases hj:j.toNat<256
   ·simp only[Fr.at,hj,if_true]
    rw[rH _ _ _ _ (by omega) (by omega)]
    by_cases e1:k.toNat / 16=j.toNat / 16
    ·rw[if_pos e1,nJ _ _ _ _ (by omega) (by omega)]
     by_cases e2:k.toNat % 16=j.toNat % 16
     ·have:k=j:=Key.toNat_inj (by omega)
      rw[if_pos e2,if_pos this]
     ·have:k≠j:=by rintro rfl;exact e2 rfl
      rw[if_neg e2,if_neg this,e1]
    ·have:k≠j:=by rintro rfl;exact e1 rfl
     rw[if_neg e1,if_neg this]
   ·have:k≠j:=by rintro rfl;exact hj hk
    simp[Fr.at,hj,this]
 ·refine⟨fun _=>none,fun _ _ _=>false,?_,fun fr=>by simp[Fr.at,hk],fun v fr c h=>ff h⟩
  have hb:Nat.blt k.toNat 256=false:=by
   cases h:Nat.blt k.toNat 256 with
   |false=>rfl
   |true=>rw[Nat.blt_eq] at h;exact absurd h hk
  simp only[acc,hb]
theorem CA (k:Key):Fr.empty.at k=none:=by
 unfold Fr.at
 split
 ·rw[BZ _ (by omega),yE _ (by omega)]
 ·rfl
abbrev KK:=PA→Ab→Bool
abbrev Yr:=PA→Ab→KK→Bool
abbrev bQ:=PA→PA→Ab→KK→Bool
def go (b:Bool):Bool:=b
noncomputable def Er (c:Bool) (a b:Bool):Bool:=@Bool.rec (fun _=>Bool) b a c
noncomputable def J9 (n:Nat) (k:Nat→Bool):Bool:=@Nat.rec (fun _=>Bool) (k 0) (fun m _=>k (Nat.succ m)) n
noncomputable def CB (n:Int) (k:Int→Bool):Bool:=@Int.rec (fun _=>Bool) (fun n=>J9 n (fun n=>k (.ofNat n))) (fun n=>J9 n (fun n=>k (.negSucc n))) n
noncomputable def iQ (b:Bool) (k:Bool→Bool):Bool:=@Bool.rec (fun _=>Bool) (k false) (k true) b
noncomputable def onV (a:PA) (f:PV→Bool):Bool:=@PA.rec (fun _=>(PV→Bool)→Bool) (fun c=>@PC.rec (fun _=>(PV→Bool)→Bool) (fun x f=>f x) (fun _ _=>false) c) (fun _ _=>false) a f
noncomputable def CC (x:PV) (k:PV→Bool):Bool:=@PV.rec (fun _=>(PV→Bool)→Bool) (fun _=>Unit) (fun _=>Unit) (fun b k=>iQ b (fun b=>k (.bool b))) (fun kd n k=>CB n (fun n=>k (.int kd n))) (fun l k=>k (.str l)) (fun b o k=>k (.ptr b o)) (fun k=>k .Eb) (fun b o len es cap k=>k (.slice b o len es cap)) (fun k=>k .Af) (fun b k=>k (.map b)) (fun k=>k .Dv) (fun f a b k=>k (.func f a b)) (fun k=>k .Fe) (fun es l cap _ k=>k (.lst es l cap)) (fun l _ k=>k (.rp l)) (fun a b _ _ k=>k (.mp a b)) () (fun _ _ _ _=>()) () (fun _ _ _ _=>()) x k
noncomputable def bR (a:PA) (k:PA→Bool):Bool:=
 @PA.rec (fun _=>(PA→Bool)→Bool) (fun c=>@PC.rec (fun _=>(PA→Bool)→Bool) (fun x k=>CC x (fun x=>k (.v (.s x)))) (fun l k=>k (.v (.agg l))) c) (fun l k=>k (.tup l)) a k
noncomputable def dfl (r:Option (PA×Ab)) (k:KK):Bool:=
 @Option.rec (PA×Ab) (fun _=>Bool) false (fun p=>@Prod.rec PA Ab (fun _=>Bool) (fun v h=>@Ab.rec (fun _=>Bool) (fun m n=>bR v (fun v=>k v ⟨m,n⟩)) h) p) r
noncomputable def yH {α:Type} (k:α→Bool) (o:Nat):List α→Bool:=
 @Nat.rec (fun _=>List α→Bool) (fun l=>@List.rec α (fun _=>Bool) false (fun x _ _=>k x) l) (fun _ ih l=>@List.rec α (fun _=>Bool) false (fun _ l _=>ih l) l) o
noncomputable def Xo {α:Type} (k:List α→Bool) (o:Nat):List α→Bool:=
 @Nat.rec (fun _=>List α→Bool) k (fun _ ih l=>@List.rec α (fun _=>Bool) false (fun _ l _=>ih l) l) o
noncomputable def Xp {α:Type} (n:Nat):List α→(List α→Bool)→Bool:=
 @Nat.rec (fun _=>List α→(List α→Bool)→Bool) (fun _ k=>k []) (fun _ ih l k=>@List.rec α (fun _=>Bool) false (fun x l _=>ih l (fun r=>k (x::r))) l) n
noncomputable def iR {α:Type} (l:List α):Nat:=@List.rec α (fun _=>Nat) 0 (fun _ _ ih=>Nat.add ih 1) l
noncomputable def SO (new:List PV):List PV→(List PV→Bool)→Bool:=
 @List.rec PV (fun _=>List PV→(List PV→Bool)→Bool) (fun l k=>k l) (fun y _ ih l k=>@List.rec PV (fun _=>Bool) false (fun _ l _=>ih l (fun r=>k (y::r))) l) new
noncomputable def CD (new:List PV) (o:Nat):List PV→(List PV→Bool)→Bool:=
 @Nat.rec (fun _=>List PV→(List PV→Bool)→Bool) (fun l k=>SO new l k) (fun _ ih l k=>@List.rec PV (fun _=>Bool) false (fun x l _=>ih l (fun r=>k (x::r))) l) o
noncomputable def rI:Key→Tr Ap→Option Ap:=
 @Key.rec (fun _=>Tr Ap→Option Ap)
  (fun t=>@Tr.rec Ap (fun _=>Option Ap) none (fun _ v _ _ _=>v) t)
  (fun _ ih t=>@Tr.rec Ap (fun _=>Option Ap) none (fun l _ _ _ _=>ih l) t)
  (fun _ ih t=>@Tr.rec Ap (fun _=>Option Ap) none (fun _ _ r _ _=>ih r) t)
noncomputable def bS:Key→Ap→Tr Ap→(Tr Ap→Bool)→Bool:=
 @Key.rec (fun _=>Ap→Tr Ap→(Tr Ap→Bool)→Bool)
  (fun v t k=>@Tr.rec Ap (fun _=>Bool) (k (.n .z (some v) .z)) (fun l _ r _ _=>k (.n l (some v) r)) t)
  (fun _ ih v t k=>@Tr.rec Ap (fun _=>Bool) (ih v .z (fun l=>k (.n l none .z))) (fun l x r _ _=>ih v l (fun l=>k (.n l x r))) t)
  (fun _ ih v t k=>@Tr.rec Ap (fun _=>Bool) (ih v .z (fun r=>k (.n .z none r))) (fun l x r _ _=>ih v r (fun r=>k (.n l x r))) t)
noncomputable def My:Key→(Key→Bool)→Bool:=
 @Key.rec (fun _=>(Key→Bool)→Bool) (fun k=>k (.o .h)) (fun a _ k=>k (.i a)) (fun _ ih k=>ih (fun s=>k (.o s)))
noncomputable def MO (h:Ab) (b:Key) (f:C5→Bool→Bool→List Key→List (Nat×Nat)→Bool):Bool:=
 @Ab.rec (fun _=>Bool) (fun mem _=>@Option.rec Ap (fun _=>Bool) false (fun x=>@Ap.rec (fun _=>Bool) f x) (rI b mem)) h
noncomputable def Kz (h:Ab) (b:Key) (f:List PV→Bool):Bool:=
 MO h b (fun body _ _ _ _=>@C5.rec (fun _=>Bool) f (fun _=>false) (fun _ _ _=>false) body)
noncomputable def yI (h:Ab) (body:C5) (k:Key→Ab→Bool):Bool:=
 @Ab.rec (fun _=>Bool) (fun mem next=>bS next ⟨body,true,false,[],[]⟩ mem (fun mem=>My next (fun n=>k next ⟨mem,n⟩))) h
noncomputable def P2 (x:PV) (f:Key→Nat→Bool) (r:List PV→Bool) (e:Bool):Bool:=@PV.rec (fun _=>(Key→Nat→Bool)→(List PV→Bool)→Bool→Bool) (fun _=>Unit) (fun _=>Unit) (fun _ _ _ e=>e) (fun _ _ _ _ e=>e) (fun _ _ _ e=>e) (fun b o f _ _=>f b o) (fun _ _ e=>e) (fun _ _ _ _ _ _ _ e=>e) (fun _ _ e=>e) (fun _ _ _ e=>e) (fun _ _ e=>e) (fun _ _ _ _ _ e=>e) (fun _ _ e=>e) (fun _ _ _ _ _ _ e=>e) (fun l _ _ r _=>r l) (fun _ _ _ _ _ _ e=>e) () (fun _ _ _ _=>()) () (fun _ _ _ _=>()) x f r e
noncomputable def uX (x:PV) (f:IntKind→Int→Bool) (e:Bool):Bool:=@PV.rec (fun _=>(IntKind→Int→Bool)→Bool→Bool) (fun _=>Unit) (fun _=>Unit) (fun _ _ e=>e) (fun k n f _=>f k n) (fun _ _ e=>e) (fun _ _ _ e=>e) (fun _ e=>e) (fun _ _ _ _ _ _ e=>e) (fun _ e=>e) (fun _ _ e=>e) (fun _ e=>e) (fun _ _ _ _ e=>e) (fun _ e=>e) (fun _ _ _ _ _ e=>e) (fun _ _ _ e=>e) (fun _ _ _ _ _ e=>e) () (fun _ _ _ _=>()) () (fun _ _ _ _=>()) x f e
noncomputable def iS (x:PV) (f:Bool→Bool):Bool:=@PV.rec (fun _=>(Bool→Bool)→Bool) (fun _=>Unit) (fun _=>Unit) (fun b f=>f b) (fun _ _ _=>false) (fun _ _=>false) (fun _ _ _=>false) (fun _=>false) (fun _ _ _ _ _ _=>false) (fun _=>false) (fun _ _=>false) (fun _=>false) (fun _ _ _ _=>false) (fun _=>false) (fun _ _ _ _ _=>false) (fun _ _ _=>false) (fun _ _ _ _ _=>false) () (fun _ _ _ _=>()) () (fun _ _ _ _=>()) x f
noncomputable def OS (x:PV) (f:Key→Nat→Nat→Nat→Bool) (g:Nat→List (List PV)→Bool) (n:Bool):Bool:=@PV.rec (fun _=>(Key→Nat→Nat→Nat→Bool)→(Nat→List (List PV)→Bool)→Bool→Bool) (fun _=>Unit) (fun _=>Unit) (fun _ _ _ _=>false) (fun _ _ _ _ _=>false) (fun _ _ _ _=>false) (fun _ _ _ _ _=>false) (fun _ _ _=>false) (fun b o len es _ f _ _=>f b o len es) (fun _ _ n=>n) (fun _ _ _ _=>false) (fun _ _ _=>false) (fun _ _ _ _ _ _=>false) (fun _ _ _=>false) (fun es l _ _ _ g _=>g es l) (fun _ _ _ _ _=>false) (fun _ _ _ _ _ _ _=>false) () (fun _ _ _ _=>()) () (fun _ _ _ _=>()) x f g n
noncomputable def CE:Yr:=fun a h k=>onV a fun x=>P2 x (fun b o=>Kz h b (yH (fun v=>k (.v (.s v)) h) o)) (fun l=>@List.rec PV (fun _=>Bool) false (fun v _ _=>k (.v (.s v)) h) l) false
noncomputable def CF (n:Nat):Yr:=fun a h k=>onV a fun x=>P2 x (fun b o=>Kz h b (Xo (fun l=>Xp n l (fun r=>k (.v (.agg r)) h)) o)) (fun l=>Xp n l (fun r=>k (.v (.agg r)) h)) false
noncomputable def uY:Yr:=fun a h k=>onV a fun x=>P2 x (fun b o=>k (.v (.s (.ptr b o))) h) (fun l=>k (.v (.s (.rp l))) h) (dfl (Ks [a] h) k)
noncomputable def CG (off:Nat):Yr:=fun a h k=>onV a fun x=>P2 x (fun b o=>J9 (Nat.add o off) (fun o=>k (.v (.s (.ptr b o))) h)) (Xo (fun l=>k (.v (.s (.rp l))) h) off) false
noncomputable def MP:Yr:=fun a h k=>onV a fun x=>OS x (fun _ _ len _=>k (.int .i64 (.ofNat len)) h) (fun _ l=>J9 (iR l) (fun n=>k (.int .i64 (.ofNat n)) h)) (k (.int .i64 (.ofNat 0)) h)
noncomputable def nK (i:Nat):Yr:=fun a h k=>@PA.rec (fun _=>Bool) (fun _=>false) (yH (fun c=>k (.v c) h) i) a
noncomputable def SP:Yr:=fun a h k=>onV a fun x=>iS x fun b=>@Bool.rec (fun _=>Bool) (k (.bool true) h) (k (.bool false) h) b
noncomputable def rJ (c:PC) (f:List PV→Bool):Bool:=@PC.rec (fun _=>Bool) (fun x=>f [x]) f c
noncomputable def SQ (n:Nat):Yr:=fun a h k=>@PA.rec (fun _=>Bool) (fun c=>rJ c fun l=>Er (Nat.beq (iR l) n) (yI h (.cells l) (fun b h=>k (.v (.s (.ptr b 0))) h)) false) (fun _=>false) a
noncomputable def SR (es:Nat):bQ:=fun a i h k=>onV a fun x=>onV i fun i=>uX i (fun _ i=>@Int.rec (fun _=>Bool) (fun i=>
 OS x (fun b o len es'=>Er (Nat.ble (Nat.succ i) len) (Er (Nat.beq es es') (J9 (Nat.add o (Nat.mul i es)) (fun o=>k (.v (.s (.ptr b o))) h)) false) false)
  (fun es' l=>Er (Nat.beq es es') (yH (fun e=>k (.v (.s (.rp e))) h) i l) false) false) (fun _=>false) i) false
noncomputable def CH (n:Nat):bQ:=fun a v h k=>onV a fun x=>P2 x (fun b o=>@PA.rec (fun _=>Bool) (fun c=>rJ c fun l=>Er (Nat.beq (iR l) n)
  (@Ab.rec (fun _=>Bool) (fun mem next=>@Option.rec Ap (fun _=>Bool) false (fun x=>@Ap.rec (fun _=>Bool) (fun body own frz anc log=>
   @C5.rec (fun _=>Bool) (fun c=>@List.rec Key (fun _=>Bool)
    (Er own (Er frz false (CD l o c (fun c=>bS b ⟨.cells c,true,false,[],(o,n)::log⟩ mem (fun mem=>k .unit ⟨mem,next⟩)))) false)
    (fun _ _ _=>dfl (Ll n [a,v] h) k) anc) (fun _=>false) (fun _ _ _=>false) body) x) (rI b mem)) h) false) (fun _=>false) v) (fun _=>false) false
noncomputable def CI (k:IntKind):Bool:=@IntKind.rec (fun _=>Bool) false false false true false false false false k
noncomputable def IS (x y:PV) (f:Nat→Nat→Bool) (e:Bool):Bool:=
 uX x (fun kd a=>uX y (fun kd' b=>@Bool.rec (fun _=>Bool) e (@Bool.rec (fun _=>Bool) e (@Int.rec (fun _=>Bool) (fun a=>@Int.rec (fun _=>Bool) (fun b=>f a b) (fun _=>e) b) (fun _=>e) a) (CI kd')) (CI kd)) e) e
noncomputable def P3 (b:BinOp) (a c:PA) (h:Ab) (k:KK):Bool:=dfl (Ox b [a,c] h) k
noncomputable def SS:bQ:=fun a c h k=>onV a fun x=>onV c fun y=>IS x y (fun m n=>Er (Nat.ble (Nat.add m n) 9223372036854775807) (J9 (Nat.add m n) (fun s=>k (.int .i64 (.ofNat s)) h)) (P3 .add a c h k)) (P3 .add a c h k)
noncomputable def SU:bQ:=fun a c h k=>onV a fun x=>onV c fun y=>IS x y (fun m n=>Er (Nat.ble n m) (Er (Nat.ble m 9223372036854775807) (J9 (Nat.sub m n) (fun s=>k (.int .i64 (.ofNat s)) h)) (P3 .sub a c h k)) (P3 .sub a c h k)) (P3 .sub a c h k)
noncomputable def rK (b:BinOp) (f:Nat→Nat→Bool):bQ:=fun a c h k=>onV a fun x=>onV c fun y=>IS x y (fun m n=>@Bool.rec (fun _=>Bool) (k (.bool false) h) (k (.bool true) h) (f m n)) (P3 b a c h k)
noncomputable def OT (b:Bool):Bool:=@Bool.rec (fun _=>Bool) true false b
noncomputable def CJ (l:List PV) (m:List PV) (k:List PV→Bool):Bool:=@List.rec PV (fun _=>(List PV→Bool)→Bool) (fun k=>k m) (fun x _ ih k=>ih (fun r=>k (x::r))) l k
noncomputable def uZ (l:List (List PV)) (k:List PV→Bool):Bool:=@List.rec (List PV) (fun _=>(List PV→Bool)→Bool) (fun k=>k []) (fun x _ ih k=>ih (fun r=>CJ x r k)) l k
noncomputable def SW (x:PV) (f:Key→Nat→Nat→Nat→Bool) (g:Nat→List (List PV)→Bool) (n e:Bool):Bool:=
 @PV.rec (fun _=>(Key→Nat→Nat→Nat→Bool)→(Nat→List (List PV)→Bool)→Bool→Bool→Bool) (fun _=>Unit) (fun _=>Unit) (fun _ _ _ _ e=>e) (fun _ _ _ _ _ e=>e) (fun _ _ _ _ e=>e) (fun _ _ _ _ _ e=>e) (fun _ _ _ e=>e)
  (fun b o len es _ f _ _ _=>f b o len es) (fun _ _ n _=>n) (fun _ _ _ _ e=>e) (fun _ _ _ e=>e) (fun _ _ _ _ _ _ e=>e) (fun _ _ _ e=>e) (fun es l _ _ _ g _ _=>g es l) (fun _ _ _ _ _ e=>e) (fun _ _ _ _ _ _ _ e=>e) () (fun _ _ _ _=>()) () (fun _ _ _ _=>()) x f g n e
noncomputable def SX (es:Nat) (x:PV) (h:Ab) (k:List PV→Nat→Bool) (e:Bool):Bool:=
 SW x (fun b o len es'=>Er (Nat.beq es es') (@Nat.rec (fun _=>Bool) (k [] len) (fun m _=>Kz h b (Xo (fun c=>Xp (Nat.succ m) c (fun l=>k l len)) o)) (Nat.mul len es)) false)
  (fun es' l=>Er (Nat.beq es es') (uZ l (fun c=>J9 (iR l) (fun n=>k c n))) false) (k [] 0) e
noncomputable def SY (cap:Option Nat) (a b:Bool):Bool:=@Option.rec Nat (fun _=>Bool) a (fun _=>b) cap
noncomputable def MR (h:Ab) (b:Key) (o n:Nat) (new:List PV) (k:Key→Ab→Bool) (e:Bool):Bool:=
 @Ab.rec (fun _=>Bool) (fun mem next=>@Option.rec Ap (fun _=>Bool) false (fun x=>@Ap.rec (fun _=>Bool) (fun body own frz anc log=>
  @C5.rec (fun _=>Bool) (fun c=>Er own (Er (Nat.beq (Nat.add o n) (iR c))
   (Xo (fun d=>Xp n d (fun d=>CJ d new (fun d=>bS b ⟨.cells c,false,frz,anc,log⟩ mem (fun mem=>bS next ⟨.cells d,true,false,b::anc,[]⟩ mem (fun mem=>My next (fun n=>k next ⟨mem,n⟩)))))) o c) e) false)
   (fun _=>false) (fun _ _ _=>false) body) x) (rI b mem)) h
noncomputable def SZ (x:PV) (f:Key→Nat→Nat→Nat→Bool) (e n:Bool):Bool:=
 @PV.rec (fun _=>Bool) (fun _=>Unit) (fun _=>Unit) (fun _=>e) (fun _ _=>e) (fun _=>e) (fun _ _=>e) e (fun b o len es cap=>SY cap (f b o len es) e) n (fun _=>e) e (fun _ _ _=>e) e (fun _ _ _ _=>e) (fun _ _=>e) (fun _ _ _ _=>e) () (fun _ _ _ _=>()) () (fun _ _ _ _=>()) x
noncomputable def vA (es bytes:Nat):bQ:=fun a c h k=>onV a fun s=>onV c fun x=>SX es x h (fun new n=>Er (Nat.beq n 0) (dfl (D1 es bytes [a,c] h) k)
  (SZ s (fun b o len es'=>Er (Nat.beq es es') (Er (room (Nat.add len n) bytes) (MR h b o (Nat.mul len es) new (fun b h=>J9 (Nat.add len n) (fun m=>k (.v (.s (.slice b 0 m es none))) h)) (dfl (D1 es bytes [a,c] h) k)) false) false)
   (dfl (D1 es bytes [a,c] h) k)
   (Er (room n bytes) (yI h (.cells new) (fun b h=>k (.v (.s (.slice b 0 n es none))) h)) false))) (dfl (D1 es bytes [a,c] h) k)
abbrev yJ:=List PA→Ab→KK→Bool
inductive KFN where
 |mk (f:yJ)
noncomputable def onL (l:Option (List PV)) (f:List PV→Bool):Bool:=@Option.rec (List PV) (fun _=>Bool) false f l
noncomputable def MS (zs:List SV):yJ:=fun xs h k=>@List.rec PA (fun _=>Bool) (onL (Jo zs) (fun l=>yI h (.cells l) (fun b h=>k (.v (.s (.ptr b 0))) h))) (fun _ _ _=>false) xs
noncomputable def Y6 (es len:Nat) (zero:List SV) (places:List (Nat×Nat)):yJ:=fun xs h k=>onL (Jo zero) (fun z=>onL (Ym (Oj z len) places xs) (fun cs=>yI h (.cells cs) (fun b h=>k (.v (.s (.slice b 0 len es (some len)))) h)))
noncomputable def TA:VOp→KFN
 |.Fg zs=>.mk (MS zs)
 |.Gn es len z p=>.mk (Y6 es len z p)
 |o=>.mk (fun xs h k=>dfl (opP o xs h) k)
inductive KF1 where
 |mk (f:Yr)
inductive KF2 where
 |mk (f:bQ)
noncomputable def TB:VOp→KF1
 |.Bm=>.mk CE
 |.B5 n=>.mk (CF n)
 |.Gp=>.mk uY
 |.B8 o=>.mk (CG o)
 |.lens=>.mk MP
 |.extract i=>.mk (nK i)
 |.un .not=>.mk SP
 |.box n=>.mk (SQ n)
 |.Gn es len z p=>.mk (fun a h k=>Y6 es len z p [a] h k)
 |o=>.mk (fun a h k=>dfl (opP o [a] h) k)
noncomputable def MT:BinOp→KF2
 |.add=>.mk SS
 |.sub=>.mk SU
 |.eql=>.mk (rK .eql Nat.beq)
 |.neq=>.mk (rK .neq (fun m n=>OT (Nat.beq m n)))
 |.lss=>.mk (rK .lss (fun m n=>Nat.ble (Nat.succ m) n))
 |.leq=>.mk (rK .leq Nat.ble)
 |.gtr=>.mk (rK .gtr (fun m n=>Nat.ble (Nat.succ n) m))
 |.geq=>.mk (rK .geq (fun m n=>Nat.ble n m))
 |b=>.mk (P3 b)
noncomputable def TD:VOp→KF2
 |.isl es=>.mk (SR es)
 |.append es by'=>.mk (vA es by')
 |.store n=>.mk (CH n)
 |.bin b=>MT b
 |.Gn es len z p=>.mk (fun a b h k=>Y6 es len z p [a,b] h k)
 |o=>.mk (fun a b h k=>dfl (opP o [a,b] h) k)
inductive S1 where
 |s (g:Fr→Option PA)
 |c (v:PA)
 |bad
noncomputable def Ip (x:VX):S1:=@VX.rec (fun _=>S1) (fun key=>@Acc.rec (fun _=>S1) (fun g _=>.s g) (acc key)) (fun v=>@Option.rec PA (fun _=>S1) .bad (fun v=>.c v) (wZ v)) x
noncomputable def Sa (a:S1) (fr:Fr) (k:PA→Bool):Bool:=
 @S1.rec (fun _=>Fr→(PA→Bool)→Bool) (fun g fr k=>@Option.rec PA (fun _=>Bool) false k (g fr)) (fun v _ k=>k v) (fun _ _=>false) a fr k
abbrev N5:=PA→Fr→(Fr→Bool)→Bool
inductive fG where
 |mk (p:N5)
noncomputable def nM (d:Option Key):fG:=@Option.rec Key (fun _=>fG) (.mk fun _ fr k=>k fr) (fun key=>@Acc.rec (fun _=>fG) (fun _ p=>.mk p) (acc key)) d
noncomputable def Wc:List VX→Fr→(List PA→Bool)→Bool:=
 @List.rec VX (fun _=>Fr→(List PA→Bool)→Bool) (fun _ k=>k []) (fun x _ ih fr k=>Sa (Ip x) fr (fun v=>ih fr (fun vs=>k (v::vs))))
abbrev Ei:=Nat→List PA→Ab→KK→Bool
noncomputable def rM (call:Ei) (args:List PA) (h:Ab) (k:KK):Bool:=
 match args with
 |.v (.s (.func f fs cs))::xs=>call f (Rs fs++xs++Rs cs) h k
 |_=>false
noncomputable def OU (call:Ei) (a:Bl) (args:List PA) (h:Ab) (k:KK):Bool:=
 @Bl.rec (fun _=>Bool) (fun o=>dfl (opP o args h) k) (fun f=>call f args h k)
  (rM call args h k) a
inductive KO where
 |mvS (g:Fr→Option PA) (p:N5)
 |mvC (v:PA) (p:N5)
 |o1S (f:Yr) (g:Fr→Option PA) (p:N5)
 |WO (f:bQ) (g g':Fr→Option PA) (p:N5)
 |o2 (f:bQ) (a b:S1) (p:N5)
 |oN (act:Bl) (args:List VX) (p:N5)
 |oF (f:yJ) (args:List VX) (p:N5)
 |gd (key:Key) (b:Bool) (p:N5) (o:KO)
noncomputable def WQ (a:S1) (x:VX) (p:N5):KO:=@S1.rec (fun _=>KO) (fun g=>.mvS g p) (fun v=>.mvC v p) (.oN (.op .mov) [x] p) a
noncomputable def WR (o:VOp) (f:Yr) (a:S1) (x:VX) (p:N5):KO:=@S1.rec (fun _=>KO) (fun g=>.o1S f g p) (fun _=>.oN (.op o) [x] p) (.oN (.op o) [x] p) a
noncomputable def WS (f:bQ) (a b:S1) (p:N5):KO:=
 @S1.rec (fun _=>KO) (fun g=>@S1.rec (fun _=>KO) (fun g'=>.WO f g g' p) (fun v=>.o2 f (.s g) (.c v) p) (.o2 f (.s g) .bad p) b) (fun v=>.o2 f (.c v) b p) (.o2 f .bad b p) a
noncomputable def IT (act:Bl) (args:List VX) (p:N5):KO:=
 match act,args with
 |.op .mov,[a]=>WQ (Ip a) a p
 |.op o,[a]=>@KF1.rec (fun _=>KO) (fun f=>WR o f (Ip a) a p) (TB o)
 |.op o,[a,b]=>@KF2.rec (fun _=>KO) (fun f=>WS f (Ip a) (Ip b) p) (TD o)
 |.op o,args=>@KFN.rec (fun _=>KO) (fun f=>.oF f args p) (TA o)
 |act,args=>.oN act args p
noncomputable def K0 (o:An):KO:=@An.rec (fun _=>KO) (fun dst act args _=>@fG.rec (fun _=>KO) (fun p=>IT act args p) (nM dst)) o
noncomputable def K1 (o:An):KO:=@An.rec (fun _=>KO) (fun dst _ _ guard=>@Option.rec (Key×Bool) (fun _=>KO) (K0 o)
 (fun q=>@Prod.rec Key Bool (fun _=>KO) (fun key b=>@fG.rec (fun _=>KO) (fun p=>.gd key b p (K0 o)) (nM dst)) q) guard) o
noncomputable def OV:List An→List KO:=@List.rec An (fun _=>List KO) [] (fun o _ ih=>K1 o::ih)
noncomputable def TE (x:PV) (b:Bool) (k:Bool→Bool):Bool:=@PV.rec (fun _=>Bool→(Bool→Bool)→Bool) (fun _=>Unit) (fun _=>Unit) (fun c b k=>iQ (c==b) k) (fun _ _ _ k=>k false) (fun _ _ k=>k false) (fun _ _ _ k=>k false) (fun _ k=>k false) (fun _ _ _ _ _ _ k=>k false) (fun _ k=>k false) (fun _ _ k=>k false) (fun _ k=>k false) (fun _ _ _ _ k=>k false) (fun _ k=>k false) (fun _ _ _ _ _ k=>k false) (fun _ _ _ k=>k false) (fun _ _ _ _ _ k=>k false) () (fun _ _ _ _=>()) () (fun _ _ _ _=>()) x b k
noncomputable def MU (v:PA) (b:Bool) (k:Bool→Bool):Bool:=@PA.rec (fun _=>Bool→(Bool→Bool)→Bool) (fun c=>@PC.rec (fun _=>Bool→(Bool→Bool)→Bool) (fun x b k=>TE x b k) (fun _ _ k=>k false) c) (fun _ _ k=>k false) v b k
noncomputable def vB (g:Option (Key×Bool)) (fr:Fr) (k:Bool→Bool):Bool:=
 @Option.rec (Key×Bool) (fun _=>Bool) (k true) (fun p=>@Prod.rec Key Bool (fun _=>Bool) (fun key b=>Sa (Ip (.t key)) fr (fun v=>
  MU v b k)) p) g
noncomputable def G9:KO→Ei→Fr→Ab→(Fr→Ab→Bool)→Bool:=
 @KO.rec (fun _=>Ei→Fr→Ab→(Fr→Ab→Bool)→Bool)
  (fun g p _ fr h k=>@Option.rec PA (fun _=>Bool) false (fun v=>p v fr (fun fr=>k fr h)) (g fr))
  (fun v p _ fr h k=>p v fr (fun fr=>k fr h))
  (fun f g p _ fr h k=>@Option.rec PA (fun _=>Bool) false (fun a=>f a h (fun v h=>p v fr (fun fr=>k fr h))) (g fr))
  (fun f g g' p _ fr h k=>@Option.rec PA (fun _=>Bool) false (fun a=>@Option.rec PA (fun _=>Bool) false (fun b=>f a b h (fun v h=>p v fr (fun fr=>k fr h))) (g' fr)) (g fr))
  (fun f a b p _ fr h k=>Sa a fr (fun a=>Sa b fr (fun b=>f a b h (fun v h=>p v fr (fun fr=>k fr h)))))
  (fun act args p call fr h k=>Wc args fr (fun args=>OU call act args h (fun v h=>p v fr (fun fr=>k fr h))))
  (fun f args p _ fr h k=>Wc args fr (fun args=>f args h (fun v h=>p v fr (fun fr=>k fr h))))
  (fun key b p _ ih call fr h k=>vB (some (key,b)) fr (fun w=>@Bool.rec (fun _=>Bool) (p .unit fr (fun fr=>k fr h)) (ih call fr h k) w))
noncomputable def OW (call:Ei) (ops:List An):Fr→Ab→(Fr→Ab→Bool)→Bool:=
 @List.rec KO (fun _=>Ei→Fr→Ab→(Fr→Ab→Bool)→Bool) (fun _ fr h k=>k fr h) (fun o _ ih call fr h k=>G9 o call fr h (fun fr h=>go (ih call fr h k))) (OV ops) call
inductive KD where
 |eff|alc|rd|bl
noncomputable def iT (o:VOp):KD:=
 match o.kind with
 |.effect=>.eff
 |.alloc=>.alc
 |.quiet=>if Ln o then .bl else .rd
noncomputable def Oq (a:Bl):KD:=@Bl.rec (fun _=>KD) iT (fun _=>.eff) .eff a
inductive KDO where
 |eff (o:KO) (dst:Option Key)
 |alc (o:KO) (dst:Option Key)
 |rd (o:KO) (p:N5) (dst:Option Key) (g:Option (Key×Bool)) (op:VOp) (args:List VX) (chk:Nat)
 |bl (o:KO) (p:N5) (dst:Option Key) (g:Option (Key×Bool)) (args:List VX)
 |TG (o:KO)
 |TH (o:KO)
 |blN (o:KO)
 |bad
noncomputable def Iq:List DOp→Bool:=@List.rec DOp (fun _=>Bool) false (fun d _ ih=>@DOp.rec (fun _=>Bool) (fun o _=>@An.rec (fun _=>Bool) (fun _ act _ _=>@KD.rec (fun _=>Bool) ih ih true ih (Oq act)) o) d)
noncomputable def kD (d:DOp) (need:Bool):KDO:=
 @DOp.rec (fun _=>KDO) (fun o chk=>@An.rec (fun _=>KDO) (fun dst act args guard=>@fG.rec (fun _=>KDO) (fun p=>@KD.rec (fun _=>KDO)
  (@Bool.rec (fun _=>KDO) (.TG (K1 o)) (.eff (K1 o) dst) need) (@Bool.rec (fun _=>KDO) (.TH (K1 o)) (.alc (K1 o) dst) need)
  (@Bl.rec (fun _=>KDO) (fun op=>.rd (K0 o) p dst guard op args chk) (fun _=>.bad) .bad act)
  (@Bool.rec (fun _=>KDO) (.blN (K1 o)) (.bl (K0 o) p dst guard args) need) (Oq act)) (nM dst)) o) d
noncomputable def kDs:List DOp→List KDO:=@List.rec DOp (fun _=>List KDO) [] (fun o l ih=>kD o (Iq l)::ih)
abbrev KDK:=Key→Dd→Fr→Ab→(Fr→Ab→Bool)→Bool
noncomputable def CK (s s':Dd) (k:Dd→Bool):Bool:=@List.rec (Ab×List Key) (fun _=>Bool) (k []) (fun _ _ _=>k s') s
noncomputable def CL (lo hi:Key) (n:Nat) (op:VOp) (az:List PA) (args:List VX) (h:Ab) (s:Dd):Bool:=
 @List.rec (Ab×List Key) (fun _=>Bool) (Er (Nat.beq n 0) true (Ds lo hi (rdP op az)&&(!rdF op az||Om h lo n)))
  (fun _ _ _=>Ds lo hi (rdP op az)&&(!rdF op az||Om h lo n)&&Ku args (rdP op az) (rdF op az) h s) s
noncomputable def MV:KDO→Ei→Key→Key→Nat→KDK→KDK:=
 @KDO.rec (fun _=>Ei→Key→Key→Nat→KDK→KDK)
  (fun o dst call _ _ _ ih r Ai fr h k=>G9 o call fr h (fun fr h'=>go (ih r (wrote dst (Ai++[(h,[])])) fr h' k)))
  (fun o dst call _ _ _ ih r Ai fr h k=>@Ab.rec (fun _=>Bool) (fun mem next=>G9 o call fr ⟨mem,r⟩ (fun fr h'=>@Ab.rec (fun _=>Bool) (fun mem _=>My r (fun r=>go (ih r (wrote dst Ai) fr ⟨mem,next⟩ k))) h')) h)
  (fun o p dst g op args chk call lo hi n ih r Ai fr h k=>vB g fr (fun w=>@Bool.rec (fun _=>Bool)
   (p .unit fr (fun fr=>go (ih r Ai fr h k)))
   (Wc args fr (fun az=>Er (CL lo hi n op az args h (Ai.drop chk))
    (G9 o call fr h (fun fr _=>CK Ai (Js dst args (rdP op az) h Ai) (fun s=>go (ih r s fr h k)))) false)) w))
  (fun o p dst g args call _ _ _ ih r Ai fr h k=>vB g fr (fun w=>@Bool.rec (fun _=>Bool)
   (p .unit fr (fun fr=>go (ih r Ai fr h k)))
   (G9 o call fr h (fun fr _=>CK Ai (Js dst args none h Ai) (fun s=>go (ih r s fr h k)))) w))
  (fun o call _ _ _ ih r _ fr h k=>G9 o call fr h (fun fr h'=>go (ih r [] fr h' k)))
  (fun o call _ _ _ ih r _ fr h k=>@Ab.rec (fun _=>Bool) (fun mem next=>G9 o call fr ⟨mem,r⟩ (fun fr h'=>@Ab.rec (fun _=>Bool) (fun mem _=>My r (fun r=>go (ih r [] fr ⟨mem,next⟩ k))) h')) h)
  (fun o call _ _ _ ih r _ fr h k=>G9 o call fr h (fun fr _=>go (ih r [] fr h k)))
  (fun _ _ _ _ _ _ _ _ _ _=>false)
noncomputable def Gc (call:Ei) (lo hi:Key) (n:Nat) (ds:List DOp):KDK:=
 @List.rec KDO (fun _=>Ei→Key→Key→Nat→KDK) (fun _ _ _ _ _ _ fr h k=>k fr h) (fun d _ ih call lo hi n=>MV d call lo hi n (ih call lo hi n)) (kDs ds) call lo hi n
noncomputable def rN (args:List PA) (h:Ab) (k:List PA→Ab→Bool):Bool:=
 @Option.rec (List PA×Ab) (fun _=>Bool) false (fun p=>@Prod.rec (List PA) Ab (fun _=>Bool) (fun v h=>@Ab.rec (fun _=>Bool) (fun m n=>k v ⟨m,n⟩) h) p) (Dk deep args h)
noncomputable def vC (a:PA) (h:Ab) (k:PA→Bool):Bool:=
 @Option.rec (PA×Ab) (fun _=>Bool) false (fun p=>@Prod.rec PA Ab (fun _=>Bool) (fun v _=>bR v k) p) (E8 deep a h)
abbrev KX:=B2→Fr→Ab→Bool
abbrev KEx:=Ay→Fr→Ab→KX→Bool
noncomputable def nN (fr:Fr) (h:Ab):List Lj→(List PC→Bool)→Bool:=
 @List.rec Lj (fun _=>(List PC→Bool)→Bool) (fun k=>k []) (fun r _ ih k=>@Lj.rec (fun _=>Bool)
  (fun key=>Sa (Ip (.t key)) fr (fun v=>@PA.rec (fun _=>Bool) (fun x=>ih (fun l=>k (x::l))) (fun _=>false) v))
  (fun key=>Sa (Ip (.t key)) fr (fun v=>onV v fun x=>P2 x (fun b o=>Kz h b (yH (fun y=>ih (fun l=>k (.s y::l))) o)) (fun _=>false) false))
  (fun key n=>Sa (Ip (.t key)) fr (fun v=>onV v fun x=>P2 x (fun b o=>Kz h b (Xo (fun c=>Xp n c (fun r=>ih (fun l=>k (.agg r::l)))) o)) (fun _=>false) false)) r)
noncomputable def rP:List PA→Key→Fr→(Fr→Bool)→Bool:=
 @List.rec PA (fun _=>Key→Fr→(Fr→Bool)→Bool) (fun _ fr k=>k fr) (fun v _ ih n fr k=>@Acc.rec (fun _=>Bool) (fun _ p=>p v fr (fun fr=>My n (fun n=>ih n fr k))) (acc n))
noncomputable def vD (F:A4) (ex:KEx):Ei:=fun f args h k=>
 @Option.rec El (fun _=>Bool) false (fun vf=>@El.rec (fun _=>Bool) (fun results body=>rP args .h Fr.empty (fun fr=>go (ex body fr h (fun x fr h=>
  @B2.rec (fun _=>Bool) (nN fr h results (fun l=>k (Cv l) h)) (fun _=>false) (nN fr h results (fun l=>k (Cv l) h)) x)))) vf) (F f)
noncomputable def bT (F:A4) (ex:KEx) (f:Nat) (xs:List PA) (k:PA→Bool):Bool:=
 vD F ex f xs .empty (fun r g=>vC r g (fun r=>k r))
noncomputable def Sb (F:A4) (K:Tp) (ex:KEx):Ei:=fun f args h k=>
 @Bool.rec (fun _=>Bool) (vD F ex f args h k)
  (rN args h (fun xs h=>@Option.rec PA (fun _=>Bool) (bT F ex f xs (fun r=>go (k r h))) (fun r=>k r h) (K.ans f xs))) (K.pure f)
noncomputable def Ig:List DOp→Nat:=@List.rec DOp (fun _=>Nat) 0 (fun d _ ih=>@DOp.rec (fun _=>Nat) (fun o _=>@An.rec (fun _=>Nat) (fun _ act _ _=>@KD.rec (fun _=>Nat) ih (Nat.add ih 1) ih ih (Oq act)) o) d)
noncomputable def iU (n:Nat):Key→(Key→Bool)→Bool:=@Nat.rec (fun _=>Key→(Key→Bool)→Bool) (fun x k=>k x) (fun _ ih x k=>My x (fun x=>ih x k)) n
noncomputable def bU (call:KEx→Ei):Nat→KEx:=
 @Nat.rec (fun _=>KEx) (fun _ _ _ _=>false)
  (fun _ ih c fr h k=>@Ay.rec (fun _=>KEx→Fr→Ab→KX→Bool)
   (fun _ fr h k=>k .normal fr h)
   (fun ops ih fr h k=>OW (call ih) ops fr h (fun fr h=>go (k .normal fr h)))
   (fun ds ih fr h k=>@Ab.rec (fun _=>Bool) (fun mem next=>(fun n=>iU n next (fun hi=>Gc (call ih) next hi n ds next [] fr ⟨mem,hi⟩ (fun fr h=>go (k .normal fr h)))) (Ig ds)) h)
   (fun a b _ _ ih fr h k=>go (ih a fr h (fun x fr h=>@B2.rec (fun _=>Bool) (go (ih b fr h k)) (fun i=>k (.exit i) fr h) (k .ret fr h) x)))
   (fun c a b _ _ ih fr h k=>Sa (Ip c) fr (fun v=>onV v fun x=>iS x fun t=>@Bool.rec (fun _=>Bool) (go (ih b fr h k)) (go (ih a fr h k)) t))
   (fun id c _ ih fr h k=>go (ih c fr h (fun x fr h=>@B2.rec (fun _=>Bool) (k .normal fr h) (fun j=>@Bool.rec (fun _=>Bool) (k (.exit j) fr h) (k .normal fr h) (Nat.beq j id)) (k .ret fr h) x)))
   (fun c _ ih fr h k=>go (ih c fr h (fun x fr h=>@B2.rec (fun _=>Bool) (go (ih (.loop c) fr h k)) (fun i=>k (.exit i) fr h) (k .ret fr h) x)))
   (fun id _ fr h k=>k (.exit id) fr h)
   (fun _ fr h k=>k .ret fr h)
   c ih fr h k)
noncomputable def runK (F:A4) (K:Tp) (n f:Nat) (xs:List PA) (k:PA→Bool):Bool:=bT F (bU (Sb F K) n) f xs k
noncomputable def PK:List Nat→List Nat→Bool:=
 @List.rec Nat (fun _=>List Nat→Bool) (fun l=>@List.rec Nat (fun _=>Bool) true (fun _ _ _=>false) l)
  (fun a _ ih l=>@List.rec Nat (fun _=>Bool) false (fun b m _=>Er (Nat.beq a b) (ih m) false) l)
noncomputable def eqI (a b:Int):Bool:=
 @Int.rec (fun _=>Bool) (fun m=>@Int.rec (fun _=>Bool) (fun n=>Nat.beq m n) (fun _=>false) b) (fun m=>@Int.rec (fun _=>Bool) (fun _=>false) (fun n=>Nat.beq m n) b) a
noncomputable def eqK (a b:IntKind):Bool:=
 @IntKind.rec (fun _=>Bool) (@IntKind.rec (fun _=>Bool) true false false false false false false false b) (@IntKind.rec (fun _=>Bool) false true false false false false false false b)
  (@IntKind.rec (fun _=>Bool) false false true false false false false false b) (@IntKind.rec (fun _=>Bool) false false false true false false false false b) (@IntKind.rec (fun _=>Bool) false false false false true false false false b)
  (@IntKind.rec (fun _=>Bool) false false false false false true false false b) (@IntKind.rec (fun _=>Bool) false false false false false false true false b) (@IntKind.rec (fun _=>Bool) false false false false false false false true b) a
noncomputable def eqB (a b:Bool):Bool:=@Bool.rec (fun _=>Bool) (OT b) b a
noncomputable def rR:Bool→PV→Bool:=fun b y=>@PV.casesOn (fun _=>Bool) y (fun c=>eqB b c) (fun _ _=>false) (fun _=>false) (fun _ _=>false) false (fun _ _ _ _ _=>false) false (fun _=>false) false (fun _ _ _=>false) false (fun _ _ _=>false) (fun _=>false) (fun _ _=>false)
noncomputable def CZ:IntKind→Int→PV→Bool:=fun k n y=>@PV.casesOn (fun _=>Bool) y (fun _=>false) (fun k' m=>Er (eqK k k') (eqI n m) false) (fun _=>false) (fun _ _=>false) false (fun _ _ _ _ _=>false) false (fun _=>false) false (fun _ _ _=>false) false (fun _ _ _=>false) (fun _=>false) (fun _ _=>false)
noncomputable def DA:List Nat→PV→Bool:=fun l y=>@PV.casesOn (fun _=>Bool) y (fun _=>false) (fun _ _=>false) (fun m=>PK l m) (fun _ _=>false) false (fun _ _ _ _ _=>false) false (fun _=>false) false (fun _ _ _=>false) false (fun _ _ _=>false) (fun _=>false) (fun _ _=>false)
noncomputable def DB:Key→Nat→PV→Bool:=fun _ _ _=>false
noncomputable def rS:PV→Bool:=fun y=>@PV.casesOn (fun _=>Bool) y (fun _=>false) (fun _ _=>false) (fun _=>false) (fun _ _=>false) (true) (fun _ _ _ _ _=>false) false (fun _=>false) false (fun _ _ _=>false) false (fun _ _ _=>false) (fun _=>false) (fun _ _=>false)
noncomputable def jE:Key→Nat→Nat→Nat→Option Nat→PV→Bool:=fun _ _ _ _ _ _=>false
noncomputable def rZ:PV→Bool:=fun y=>@PV.casesOn (fun _=>Bool) y (fun _=>false) (fun _ _=>false) (fun _=>false) (fun _ _=>false) false (fun _ _ _ _ _=>false) (true) (fun _=>false) false (fun _ _ _=>false) false (fun _ _ _=>false) (fun _=>false) (fun _ _=>false)
noncomputable def DC:Key→PV→Bool:=fun _ _=>false
noncomputable def sA:PV→Bool:=fun y=>@PV.casesOn (fun _=>Bool) y (fun _=>false) (fun _ _=>false) (fun _=>false) (fun _ _=>false) false (fun _ _ _ _ _=>false) false (fun _=>false) (true) (fun _ _ _=>false) false (fun _ _ _=>false) (fun _=>false) (fun _ _=>false)
noncomputable def sB:Nat→List (Key×Nat)→List (Key×Nat)→PV→Bool:=fun _ _ _ _=>false
noncomputable def sC:PV→Bool:=fun y=>@PV.casesOn (fun _=>Bool) y (fun _=>false) (fun _ _=>false) (fun _=>false) (fun _ _=>false) false (fun _ _ _ _ _=>false) false (fun _=>false) false (fun _ _ _=>false) (true) (fun _ _ _=>false) (fun _=>false) (fun _ _=>false)
noncomputable def DD:Nat→List (List PV)→Option Nat→(List (List PV)→Bool)→PV→Bool:=fun es _ cap ih y=>@PV.casesOn (fun _=>Bool) y (fun _=>false) (fun _ _=>false) (fun _=>false) (fun _ _=>false) false (fun _ _ _ _ _=>false) false (fun _=>false) false (fun _ _ _=>false) false (fun es' l' cap'=>Er (Nat.beq es es') (@Option.rec Nat (fun _=>Bool) (@Option.rec Nat (fun _=>Bool) (ih l') (fun _=>false) cap') (fun _=>false) cap) false) (fun _=>false) (fun _ _=>false)
noncomputable def PL:List PV→(List PV→Bool)→PV→Bool:=fun _ ih y=>@PV.casesOn (fun _=>Bool) y (fun _=>false) (fun _ _=>false) (fun _=>false) (fun _ _=>false) false (fun _ _ _ _ _=>false) false (fun _=>false) false (fun _ _ _=>false) false (fun _ _ _=>false) (fun l'=>ih l') (fun _ _=>false)
noncomputable def PM:List PV→List PV→(List PV→Bool)→(List PV→Bool)→PV→Bool:=fun _ _ _ _ _=>false
noncomputable def PN:List (List PV)→Bool:=fun l=>@List.rec (List PV) (fun _=>Bool) true (fun _ _ _=>false) l
noncomputable def PO:List PV→List (List PV)→(List PV→Bool)→(List (List PV)→Bool)→List (List PV)→Bool:=fun _ _ ih1 ih2 l=>@List.rec (List PV) (fun _=>Bool) false (fun b m _=>Er (ih1 b) (ih2 m) false) l
noncomputable def q_n:List PV→Bool:=fun l=>@List.rec PV (fun _=>Bool) true (fun _ _ _=>false) l
noncomputable def q_c:PV→List PV→(PV→Bool)→(List PV→Bool)→List PV→Bool:=fun _ _ ih1 ih2 l=>@List.rec PV (fun _=>Bool) false (fun b m _=>Er (ih1 b) (ih2 m) false) l
noncomputable def eqV (x:PV):PV→Bool:=@PV.rec (fun _=>PV→Bool) (fun _=>List (List PV)→Bool) (fun _=>List PV→Bool) rR CZ DA DB rS jE rZ DC sA sB sC DD PL PM PN PO q_n q_c x
noncomputable def TO (x:List (List PV)):List (List PV)→Bool:=@PV.rec_1 (fun _=>PV→Bool) (fun _=>List (List PV)→Bool) (fun _=>List PV→Bool) rR CZ DA DB rS jE rZ DC sA sB sC DD PL PM PN PO q_n q_c x
noncomputable def JF (x:List PV):List PV→Bool:=@PV.rec_2 (fun _=>PV→Bool) (fun _=>List (List PV)→Bool) (fun _=>List PV→Bool) rR CZ DA DB rS jE rZ DC sA sB sC DD PL PM PN PO q_n q_c x
noncomputable def eqC (x y:PC):Bool:=@PC.rec (fun _=>Bool) (fun a=>@PC.rec (fun _=>Bool) (fun b=>eqV a b) (fun _=>false) y) (fun l=>@PC.rec (fun _=>Bool) (fun _=>false) (fun m=>JF l m) y) x
noncomputable def PS:List PC→List PC→Bool:=
 @List.rec PC (fun _=>List PC→Bool) (fun l=>@List.rec PC (fun _=>Bool) true (fun _ _ _=>false) l)
  (fun a _ ih l=>@List.rec PC (fun _=>Bool) false (fun b m _=>Er (eqC a b) (ih m) false) l)
noncomputable def eqA (x y:PA):Bool:=@PA.rec (fun _=>Bool) (fun a=>@PA.rec (fun _=>Bool) (fun b=>eqC a b) (fun _=>false) y) (fun l=>@PA.rec (fun _=>Bool) (fun _=>false) (fun m=>PS l m) y) x
noncomputable def DE:List PA→List PA→Bool:=
 @List.rec PA (fun _=>List PA→Bool) (fun l=>@List.rec PA (fun _=>Bool) true (fun _ _ _=>false) l)
  (fun a _ ih l=>@List.rec PA (fun _=>Bool) false (fun b m _=>Er (eqA a b) (ih m) false) l)
noncomputable def PT {α:Type}:Key→Tr α→Option α:=
 @Key.rec (fun _=>Tr α→Option α)
  (fun t=>@Tr.rec α (fun _=>Option α) none (fun _ v _ _ _=>v) t)
  (fun _ ih t=>@Tr.rec α (fun _=>Option α) none (fun l _ _ _ _=>ih l) t)
  (fun _ ih t=>@Tr.rec α (fun _=>Option α) none (fun _ _ r _ _=>ih r) t)
abbrev Ent:=List (List PA×PA)
noncomputable def DF (xs:List PA):Ent→Option PA:=
 @List.rec (List PA×PA) (fun _=>Option PA) none (fun q _ ih=>@Prod.rec (List PA) PA (fun _=>Option PA) (fun ys r=>@Bool.rec (fun _=>Option PA) ih (some r) (DE xs ys)) q)
noncomputable def known (pure:Tr Bool) (tab:Tr Ent):Tp where
 pure f:=@Option.rec Bool (fun _=>Bool) false (fun b=>b) (PT (kn f) pure)
 ans f xs:=@Option.rec Ent (fun _=>Option PA) none (fun l=>DF xs l) (PT (kn f) tab)
end Go.Pv.K
end
section
noncomputable section
namespace Go.Vm.C
def ci (n:Nat):VX:=.c (.v (.s (.int .i64 (.ofNat n))))
def ct:VX:=.c (.v (.s (.bool true)))
def cf:VX:=.c (.v (.s (.bool false)))
def cn (f:Nat):VX:=.c (.v (.s (.func f [] [])))
def cs:VX:=.c (.v (.s .Af))
def m (d s:Key):An:=⟨some d,.op .mov,[.t s],none⟩
def mc (d:Key) (x:VX):An:=⟨some d,.op .mov,[x],none⟩
def l (d s:Key):An:=⟨some d,.op .Bm,[.t s],none⟩
def fa (d:Key) (n:Nat) (s:Key):An:=⟨some d,.op (.B8 n),[.t s],none⟩
def ix (d:Key) (n:Nat) (s i:Key):An:=⟨some d,.op (.isl n),[.t s,.t i],none⟩
def bi (d:Key) (b:BinOp) (x y:VX):An:=⟨some d,.op (.bin b),[x,y],none⟩
def a (d:Key) (p:VOp) (s:Key):An:=⟨some d,.op p,[.t s],none⟩
def o (d:Key) (p:VOp) (xs:List VX):An:=⟨some d,.op p,xs,none⟩
def c (d:Key) (f:Nat) (xs:List VX):An:=⟨some d,.call f,xs,none⟩
def st (n:Nat) (s:Key) (x:VX):An:=⟨none,.op (.store n),[.t s,x],none⟩
instance:Coe Key VX:=⟨VX.t⟩
def g (d:Key) (p:VOp) (xs:List VX) (k:Key) (b:Bool):An:=⟨some d,.op p,xs,some (k,b)⟩
def S (x y:Ay):Ay:=.seq x y
def L (l:List An):Ay:=.region l
def k0:Key:=.h
def k1:=k0.o
def k2:=k0.i
def k3:=k1.o
def k4:=k1.i
def k5:=k2.o
def k6:=k2.i
def k7:=k3.o
def k8:=k3.i
def k9:=k4.o
def k10:=k4.i
def k11:=k5.o
def k12:=k5.i
def k13:=k6.o
def k14:=k6.i
def k15:=k7.o
def k16:=k7.i
def k17:=k8.o
def k18:=k8.i
def k19:=k9.o
def k20:=k9.i
def k21:=k10.o
def k22:=k10.i
def k23:=k11.o
def k24:=k11.i
def k25:=k12.o
def k26:=k12.i
def k27:=k13.o
def k28:=k13.i
def k29:=k14.o
def k30:=k14.i
def k31:=k15.o
def k32:=k15.i
def k33:=k16.o
def k34:=k16.i
def k35:=k17.o
def k36:=k17.i
def k37:=k18.o
def k38:=k18.i
def k39:=k19.o
def k40:=k19.i
def k41:=k20.o
def k42:=k20.i
def k43:=k21.o
def k44:=k21.i
def k45:=k22.o
def k46:=k22.i
def k47:=k23.o
def k48:=k23.i
def k49:=k24.o
def k50:=k24.i
def k51:=k25.o
def k52:=k25.i
def k53:=k26.o
def k54:=k26.i
def k55:=k27.o
def k56:=k27.i
def k57:=k28.o
def k58:=k28.i
def k59:=k29.o
def k60:=k29.i
def k61:=k30.o
def k62:=k30.i
def k63:=k31.o
def k64:=k31.i
def k65:=k32.o
def k66:=k32.i
def k67:=k33.o
def k68:=k33.i
def k69:=k34.o
def k70:=k34.i
def k71:=k35.o
def k72:=k35.i
def k73:=k36.o
def k74:=k36.i
def k75:=k37.o
def k76:=k37.i
def k77:=k38.o
def k78:=k38.i
def k79:=k39.o
def k80:=k39.i
def k81:=k40.o
def k82:=k40.i
def k83:=k41.o
def k84:=k41.i
def k85:=k42.o
def k86:=k42.i
def k87:=k43.o
def k88:=k43.i
def k89:=k44.o
def k90:=k44.i
def k91:=k45.o
def k92:=k45.i
def k93:=k46.o
def k94:=k46.i
def k95:=k47.o
def k96:=k47.i
def k97:=k48.o
def k98:=k48.i
def k99:=k49.o
def k100:=k49.i
def k101:=k50.o
def k102:=k50.i
def k103:=k51.o
def k104:=k51.i
def k105:=k52.o
def k106:=k52.i
def k107:=k53.o
def k108:=k53.i
def k109:=k54.o
def k110:=k54.i
def k111:=k55.o
def k112:=k55.i
def k113:=k56.o
def k114:=k56.i
def k115:=k57.o
def k116:=k57.i
def k117:=k58.o
def k118:=k58.i
def k119:=k59.o
def k120:=k59.i
def k121:=k60.o
def k122:=k60.i
def k123:=k61.o
def k124:=k61.i
def k125:=k62.o
def k126:=k62.i
def k127:=k63.o
def k128:=k63.i
def k129:=k64.o
def k130:=k64.i
def k131:=k65.o
def k132:=k65.i
def k133:=k66.o
def k134:=k66.i
def k135:=k67.o
def k136:=k67.i
def k137:=k68.o
def k138:=k68.i
def k139:=k69.o
def k140:=k69.i
def k141:=k70.o
def k142:=k70.i
def k143:=k71.o
def k144:=k71.i
def k145:=k72.o
def k146:=k72.i
def k147:=k73.o
def k148:=k73.i
def k149:=k74.o
def k150:=k74.i
def k151:=k75.o
def k152:=k75.i
def k153:=k76.o
def k154:=k76.i
def k155:=k77.o
def k156:=k77.i
def k157:=k78.o
def k158:=k78.i
def k159:=k79.o
def k160:=k79.i
def k161:=k80.o
def k162:=k80.i
def k163:=k81.o
def k164:=k81.i
def k165:=k82.o
def k166:=k82.i
def k167:=k83.o
def k168:=k83.i
def k169:=k84.o
def k170:=k84.i
def k171:=k85.o
def k172:=k85.i
def k173:=k86.o
def k174:=k86.i
def k175:=k87.o
def k176:=k87.i
def k177:=k88.o
def k178:=k88.i
def k179:=k89.o
def k180:=k89.i
end Go.Vm.C
end
