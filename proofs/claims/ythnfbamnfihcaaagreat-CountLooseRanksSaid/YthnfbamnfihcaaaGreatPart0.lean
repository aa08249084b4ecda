/- A part of the proof that the law CountLooseRanks answers true. No condition. -/
import Derived.Test.YthnfbamnfihcaaaGreatBase
import Derived.Laws.AppendOwn
import Derived.Laws.CopyRow
import Derived.Laws.MakeOwn
import Derived.Laws.StructEq
import Derived.Laws.Concat
import Derived.LoopN
import Derived.Tactics
import Derived.Orders
set_option linter.unusedVariables false
set_option linter.unusedSimpArgs false
set_option linter.unusedSectionVars false
section
noncomputable section
namespace Go.Vm
open Key (kn)
structure Loc where
 blk:Nat
 off:Nat
 tot:Nat
abbrev Emb:=Key→Option Loc
def Le (φ φ':Emb):Prop:=∀b l,φ b=some l→φ' b=some l
theorem Le.refl (φ:Emb):Le φ φ:=fun _ _ h=>h
theorem Le.trans {φ φ' φ'':Emb} (h:Le φ φ') (h':Le φ' φ''):Le φ φ'':=fun b l e=>h' b l (h b l e)
inductive Aa {α β:Type} (R:α→β→Prop):List α→List β→Prop where
 |nil:Aa R [] []
 |cons {a:α} {b:β} {l:List α} {m:List β} (h:R a b) (t:Aa R l m):Aa R (a::l) (b::m)
attribute [simp] Aa.nil
def Yp (φ:Emb) (p:Key×Nat) (v:Value):Prop:=∃l,φ p.1=some l∧v=.pointer (some ⟨l.blk,p.2+l.off,none⟩)
def Bz (φ:Emb):SV→Value→Prop
 |.bool b,v=>v=.bool b
 |.int k n,v=>v=.int k n
 |.str s,v=>(∀n∈s,n<256)∧v=.string ⟨(s.map UInt8.ofNat).toArray⟩
 |.ptr b o,v=>Yp φ (b,o) v
 |.Eb,v=>v=.pointer none
 |.slice b o len es cap,v=>∃a c,v=.slice (some a) len c∧len≤c∧(∀k,cap=some k→c=k) ∧
   (c=0∨∃l,φ b=some l∧a=⟨l.blk,o+l.off,none⟩∧(cap=none→o+l.off+c*es=l.tot))
 |.Af,v=>v=.slice none 0 0
 |.map b,v=>∃l,φ b=some l∧v=.map (some l.blk)
 |.Dv,v=>v=.map none
 |.func f fs cs,v=>∃vs us:List Value,v=.func (.func f) vs.toArray us.toArray∧Aa (Yp φ) fs vs∧Aa (Yp φ) cs us
 |.Fe,v=>v=.nilFunc
def E3 (φ:Emb):CV→Value→Prop
 |.s x,v=>Bz φ x v
 |.agg cs,v=>∃vs:List Value,v=.agg vs.toArray∧Aa (Bz φ) cs vs
def Cp (φ:Emb):AV→Value→Prop
 |.v x,v=>E3 φ x v
 |.tup xs,v=>∃vs:List Value,v=.tuple vs.toArray∧Aa (E3 φ) xs vs
theorem Ak {α β:Type} {R R':α→β→Prop} {l:List α} {m:List β} (h:Aa R l m) (hr:∀a b,R a b→R' a b):Aa R' l m:=by
 induction h with
 |nil=>exact .nil
 |cons h _ ih=>exact .cons (hr _ _ h) ih
theorem Ah {α β:Type} {R:α→β→Prop} {l:List α} {m:List β} (h:Aa R l m):l.length=m.length:=by
 induction h with
 |nil=>rfl
 |cons _ _ ih=>simp[ih]
theorem A0 {α β:Type} {R:α→β→Prop} {l l':List α} {m m':List β} (h:Aa R l m) (h':Aa R l' m'):Aa R (l++l') (m++m'):=by
 induction h with
 |nil=>exact h'
 |cons h _ ih=>exact .cons h ih
theorem Ce {α β:Type} {R:α→β→Prop} (n:Nat) {l:List α} {m:List β} (h:Aa R l m):Aa R (l.take n) (m.take n):=by
 induction h generalizing n with
 |nil=>simp
 |cons h _ ih=>cases n with
  |zero=>simp
  |succ n=>exact .cons h (ih n)
theorem B3 {α β:Type} {R:α→β→Prop} (n:Nat) {l:List α} {m:List β} (h:Aa R l m):Aa R (l.drop n) (m.drop n):=by
 induction h generalizing n with
 |nil=>simp
 |cons h t ih=>cases n with
  |zero=>exact .cons h t
  |succ n=>exact ih n
theorem Ax {α β:Type} {R:α→β→Prop} {l:List α} {m:List β} (h:Aa R l m) (i:Nat) {a:α} (e:l[i]?=some a):∃b,m[i]?=some b∧R a b:=by
 induction h generalizing i with
 |nil=>simp at e
 |cons h _ ih=>cases i with
  |zero=>simp at e;subst e;exact⟨_,rfl,h⟩
  |succ i=>exact ih i (by simpa using e)
theorem Hg {α β:Type} {R:α→β→Prop}:∀{l:List α} {m:List β},l.length=m.length→(∀(i:Nat) a,l[i]?=some a→∃b,m[i]?=some b∧R a b)→Aa R l m
 |[],[],_,_=>.nil
 |[],_::_,e,_=>by simp at e
 |_::_,[],e,_=>by simp at e
 |a::l,b::m,e,h=>by
  obtain⟨b',hb,hr⟩:=h 0 a rfl
  simp at hb;subst hb
  exact .cons hr (Hg (by simpa using e) fun i a hi=>by simpa using h (i+1) a (by simpa using hi))
theorem Lo {α β γ:Type} {R:α→β→Prop} (f:γ→α) (g:γ→β) (l:List γ) (h:∀x∈l,R (f x) (g x)):Aa R (l.map f) (l.map g):=by
 induction l with
 |nil=>exact .nil
 |cons x l ih=>exact .cons (h x (by simp)) (ih fun y hy=>h y (by simp[hy]))
theorem Yp.mono {φ φ':Emb} (h:Le φ φ') {p:Key×Nat} {v:Value} (r:Yp φ p v):Yp φ' p v:=by
 obtain⟨l,e,hv⟩:=r;exact⟨l,h _ _ e,hv⟩
theorem Bz.mono {φ φ':Emb} (h:Le φ φ') {s:SV} {v:Value} (r:Bz φ s v):Bz φ' s v:=by
 cases s with
 |ptr b o=>exact Yp.mono h r
 |slice b o len es cap=>
  obtain⟨a,c,hv,hl,hk,hc⟩:=r
  refine⟨a,c,hv,hl,hk,hc.imp id ?_⟩
  rintro⟨l,e,ha,ht⟩;exact⟨l,h _ _ e,ha,ht⟩
 |map b=>obtain⟨l,e,hv⟩:=r;exact⟨l,h _ _ e,hv⟩
 |func f fs cs=>
  obtain⟨vs,us,hv,h1,h2⟩:=r
  exact⟨vs,us,hv,Ak h1 fun _ _=>Yp.mono h,Ak h2 fun _ _=>Yp.mono h⟩
 |_=>exact r
theorem E3.mono {φ φ':Emb} (h:Le φ φ') {s:CV} {v:Value} (r:E3 φ s v):E3 φ' s v:=by
 cases s with
 |s x=>exact Bz.mono h r
 |agg cs=>obtain⟨vs,hv,hr⟩:=r;exact⟨vs,hv,Ak hr fun _ _=>Bz.mono h⟩
theorem Cp.mono {φ φ':Emb} (h:Le φ φ') {s:AV} {v:Value} (r:Cp φ s v):Cp φ' s v:=by
 cases s with
 |v x=>exact E3.mono h r
 |tup xs=>obtain⟨vs,hv,hr⟩:=r;exact⟨vs,hv,Ak hr fun _ _=>E3.mono h⟩
theorem Bz.one {φ:Emb} {s:SV} {v:Value} (r:Bz φ s v):v.oneCell'=true:=by
 cases s<;>simp only[Bz,Yp] at r
 case str=>obtain⟨_,rfl⟩:=r;rfl
 case ptr=>obtain⟨_,_,rfl⟩:=r;rfl
 case slice=>obtain⟨_,_,rfl,_⟩:=r;rfl
 case map=>obtain⟨_,_,rfl⟩:=r;rfl
 case func=>obtain⟨_,_,rfl,_⟩:=r;rfl
 all_goals (subst r;rfl)
theorem gZ {v:Value} (h:v.oneCell'=true):v.cells=#[v]:=by cases v<;>first|rfl|simp[Value.oneCell'] at h
theorem E3.cells {φ:Emb} {x:CV} {v:Value} (r:E3 φ x v):Aa (Bz φ) x.cells v.cells.toList:=by
 cases x with
 |s x=>rw[gZ (Bz.one r)];exact .cons r .nil
 |agg cs=>obtain⟨vs,rfl,hr⟩:=r;exact hr
theorem Y1 {φ:Emb} {l:List SV} {vs:List Value} (h:Aa (Bz φ) l vs):∀v∈vs,v.oneCell'=true:=by
 induction h with
 |nil=>simp
 |cons h _ ih=>intro v hv;rcases List.mem_cons.1 hv with rfl|hv;exact Bz.one h;exact ih v hv
def Rp (φ:Emb) (l:Loc) (own:Bool):Body→Obj→Prop
 |.cells c m,o=>∃arr e fr,o=.cells arr e fr∧arr.size=l.tot∧l.off+m≤arr.size∧(own=true→fr=(0,0)) ∧
   ∀i,i<m→∃s v,c.get (kn i)=some s∧arr[l.off+i]?=some v∧Bz φ s v
 |.map es,o=>∃arr:Array MapEntry,o=.map arr arr.size∧(∀i (h:i<arr.size),arr[i].born=i) ∧
   Aa (fun p (e:MapEntry)=>E3 φ p.1 e.key∧E3 φ p.2 e.val) es arr.toList
 |.iter m n st,o=>l.off=0∧∃l',φ m=some l'∧o=.mapIter (some l'.blk) n (if st=0 then #[] else #[0]) n
 |.eH s pos,o=>(∀n∈s,n<256)∧o=.stringIter ⟨(s.map UInt8.ofNat).toArray⟩ pos
theorem Rp.mono {φ φ':Emb} (h:Le φ φ') {l:Loc} {own:Bool} {b:Body} {o:Obj} (r:Rp φ l own b o):Rp φ' l own b o:=by
 cases b with
 |cells c m=>
  obtain⟨arr,e,fr,ho,hs,hm,hf,hc⟩:=r
  exact⟨arr,e,fr,ho,hs,hm,hf,fun i hi=>by obtain⟨s,v,h1,h2,h3⟩:=hc i hi;exact⟨s,v,h1,h2,h3.mono h⟩⟩
 |map es=>
  obtain⟨arr,ho,hb,hr⟩:=r
  exact⟨arr,ho,hb,Ak hr fun _ _ hh=>⟨hh.1.mono h,hh.2.mono h⟩⟩
 |iter m n st=>obtain⟨h0,l',e,ho⟩:=r;exact⟨h0,l',h _ _ e,ho⟩
 |eH s pos=>exact r
theorem Rp.RW {φ:Emb} {l:Loc} {own:Bool} {b:Body} {o:Obj} (r:Rp φ l own b o):Rp φ l false b o:=by
 cases b with
 |cells c m=>
  obtain⟨arr,e,fr,ho,hs,hm,_,hc⟩:=r
  exact⟨arr,e,fr,ho,hs,hm,by simp,hc⟩
 |_=>exact r
def Body.size:Body→Nat
 |.cells _ m=>m
 |_=>0
abbrev Mem:=Key→Option Blk
structure Sim (φ:Emb) (g:Mem) (nx:Nat) (w:World):Prop where
 blk:∀b x l,g b=some x→φ b=some l→∃o,w.heap[l.blk]?=some o∧Rp φ l x.own x.body o
 sep:∀b x l b' x' l',g b=some x→φ b=some l→g b'=some x'→φ b'=some l'→l.blk=l'.blk→b≠b'→x.own=true →
  b'∈x.anc∧l'.off+x'.body.size≤l.off+x.body.size∧x'.own=false
 fresh:∀b:Key,nx≤b.toNat→φ b=none
structure Ext (φ:Emb) (g:Mem) (lo:Nat) (w:World) (φ':Emb) (g':Mem) (hi:Nat) (w':World):Prop where
 le:Le φ φ'
 only:∀b:Key,φ b=none→(b.toNat<lo∨hi≤b.toNat)→φ' b=none
 nx:lo≤hi
 size:w.heap.size≤w'.heap.size
 frame:∀r o,w.heap[r]?=some o→(∀b x l,g b=some x→x.own=true→φ b=some l→l.blk≠r)→w'.heap[r]?=some o
 own:∀b x l,g' b=some x→x.own=true→φ' b=some l→l.blk<w.heap.size→∃b0 x0 l0,g b0=some x0∧x0.own=true∧φ b0=some l0∧l0.blk=l.blk
 new:∀b l,φ b=none→φ' b=some l→l.blk<w.heap.size→∃b0 x0 l0,g b0=some x0∧x0.own=true∧φ b0=some l0∧l0.blk=l.blk
 os:w'.os=w.os∧w'.output=w.output
theorem Ext.refl (φ:Emb) (g:Mem) (nx:Nat) (w:World):Ext φ g nx w φ g nx w:=
 ⟨Le.refl φ,fun _ h _=>h,Rl,Rl,fun _ _ h _=>h,fun b x l h1 h2 h3 _=>⟨b,x,l,h1,h2,h3,rfl⟩,fun b l h1 h2 _=>(by rw[h1] at h2;cases h2),rfl,rfl⟩
theorem Ext.trans {φ:Emb} {g:Mem} {nx:Nat} {w:World} {φ':Emb} {g':Mem} {nx':Nat} {w':World} {φ'':Emb} {g'':Mem} {nx'':Nat} {w'':World}
  (h:Ext φ g nx w φ' g' nx' w') (h':Ext φ' g' nx' w' φ'' g'' nx'' w''):Ext φ g nx w φ'' g'' nx'' w'' where
 le:=h.le.trans h'.le
 only b hb hr:=by
  have h1:=h.nx
  have h2:=h'.nx
  exact h'.only b (h.only b hb (by omega)) (by omega)
 nx:=Nat.le_trans h.nx h'.nx
 size:=Nat.le_trans h.size h'.size
 frame r o hr hn:=by
  refine h'.frame r o (h.frame r o hr hn) fun b x l h1 h2 h3 h4=>?_
  have hlt:r<w.heap.size:=(Array.getElem?_eq_some_iff.1 hr).1
  obtain⟨b0,x0,l0,e1,e2,e3,e4⟩:=h.own b x l h1 h2 h3 (h4▸hlt)
  exact hn b0 x0 l0 e1 e2 e3 (e4.trans h4)
 own b x l h1 h2 h3 h4:=by
  obtain⟨b1,x1,l1,e1,e2,e3,e4⟩:=h'.own b x l h1 h2 h3 (Nat.lt_of_lt_of_le h4 h.size)
  obtain⟨b0,x0,l0,f1,f2,f3,f4⟩:=h.own b1 x1 l1 e1 e2 e3 (e4▸h4)
  exact⟨b0,x0,l0,f1,f2,f3,f4.trans e4⟩
 new b l h1 h2 h3:=by
  cases hb:φ' b with
  |none=>
   obtain⟨b1,x1,l1,e1,e2,e3,e4⟩:=h'.new b l hb h2 (Nat.lt_of_lt_of_le h3 h.size)
   obtain⟨b0,x0,l0,f1,f2,f3,f4⟩:=h.own b1 x1 l1 e1 e2 e3 (e4▸h3)
   exact⟨b0,x0,l0,f1,f2,f3,f4.trans e4⟩
  |some l1=>
   have:=h'.le b l1 hb
   rw[h2] at this
   cases this
   exact h.new b l h1 hb h3
 os:=⟨h'.os.1.trans h.os.1,h'.os.2.trans h.os.2⟩
theorem Sim.congr {φ:Emb} {g:Mem} {nx:Nat} {w w':World} (h:Sim φ g nx w) (e:w'.heap=w.heap):Sim φ g nx w':=
 ⟨fun b x l h1 h2=>by rw[e];exact h.blk b x l h1 h2,h.sep,h.fresh⟩
theorem Ext.congr {φ:Emb} {g:Mem} {nx:Nat} {w w1 w':World} {φ':Emb} {g':Mem} {nx':Nat} (e:w1.heap=w.heap) (eo:w1.os=w.os∧w1.output=w.output) (h:Ext φ g nx w φ' g' nx' w'):Ext φ g nx w1 φ' g' nx' w':=
 ⟨h.le,h.only,h.nx,by rw[e];exact h.size,fun r o hr=>h.frame r o (by rw[←e];exact hr),fun b x l h1 h2 h3 h4=>h.own b x l h1 h2 h3 (by rw[←e];exact h4),fun b l h1 h2 h3=>h.new b l h1 h2 (by rw[←e];exact h3),h.os.1.trans eo.1.symm,h.os.2.trans eo.2.symm⟩
theorem Sim.less {φ:Emb} {g g':Mem} {nx:Nat} {w:World} (h:Sim φ g nx w)
  (hg:∀b x',g' b=some x'→∃x,g b=some x∧x'.body=x.body∧x'.anc=x.anc∧(x'.own=true→x.own=true)):Sim φ g' nx w:=by
 refine⟨fun b x l h1 h2=>?_,fun b x l b' x' l' h1 h2 h3 h4 h5 h6 h7=>?_,h.fresh⟩
 ·obtain⟨y,hy,hb,_,ho⟩:=hg b x h1
  obtain⟨o,hw,hr⟩:=h.blk b y l hy h2
  refine⟨o,hw,?_⟩
  rw[hb]
  cases hx:x.own with
  |false=>exact hr.RW
  |true=>rw[ho hx] at hr;exact hr
 ·obtain⟨y,hy,hb,ha,ho⟩:=hg b x h1
  obtain⟨y',hy',hb',_,ho'⟩:=hg b' x' h3
  have hs:=h.sep b y l b' y' l' hy h2 hy' h4 h5 h6 (ho h7)
  rw[ha,hb,hb']
  refine⟨hs.1,hs.2.1,?_⟩
  cases hx:x'.own with
  |false=>rfl
  |true=>have:=ho' hx;rw[hs.2.2] at this;cases this
def Emb.set (φ:Emb) (b:Key) (l:Loc):Emb:=fun k=>if b=k then some l else φ k
theorem Emb.A3 (φ:Emb) (b:Key) (l:Loc):φ.set b l b=some l:=by simp[Emb.set]
theorem Emb.Ca (φ:Emb) {b k:Key} (l:Loc) (h:b≠k):φ.set b l k=φ k:=by simp[Emb.set,h]
theorem Emb.Pe {φ:Emb} {b:Key} (l:Loc) (h:φ b=none):Le φ (φ.set b l):=by
 intro k m e
 by_cases hk:b=k
 ·subst hk;rw[h] at e;cases e
 ·rw[Emb.Ca φ l hk];exact e
theorem Sim.lt {φ:Emb} {g:Mem} {nx:Nat} {w:World} (h:Sim φ g nx w) {b:Key} {x:Blk} {l:Loc} (h1:g b=some x) (h2:φ b=some l):l.blk<w.heap.size:=by
 obtain⟨o,ho,_⟩:=h.blk b x l h1 h2
 exact(Array.getElem?_eq_some_iff.1 ho).1
theorem Sim.push {φ:Emb} {g:Mem} {nx:Nat} {w w':World} (h:Sim φ g nx w) {b:Key} (hb:φ b=none) (nx':Nat) (hnx:nx≤nx') (hlt:b.toNat<nx') (x:Blk) (l:Loc) (hl:l.blk=w.heap.size) {o:Obj}
  (hw:w'.heap=w.heap.push o) (hr:Rp (φ.set b l) l x.own x.body o):Sim (φ.set b l) (fun k=>if b=k then some x else g k) nx' w':=by
 have hold:∀r,r<w.heap.size→w'.heap[r]?=w.heap[r]?:=fun r hr=>by rw[hw,Array.getElem?_push];simp[Nat.ne_of_lt hr]
 have hnew:w'.heap[w.heap.size]?=some o:=by rw[hw];simp
 refine⟨fun c y m h1 h2=>?_,fun c y m c' y' m' h1 h2 h3 h4 h5 h6 h7=>?_,fun c hc=>?_⟩
 ·by_cases hk:b=c
  ·subst hk
   simp only[if_true,Sj] at h1
   rw[Emb.A3] at h2
   cases h1;cases h2
   exact⟨o,hl▸hnew,hr⟩
  ·simp only[hk,if_false] at h1
   rw[Emb.Ca φ l hk] at h2
   obtain⟨p,hp,hq⟩:=h.blk c y m h1 h2
   exact⟨p,by rw[hold _ (h.lt h1 h2)];exact hp,hq.mono (Emb.Pe l hb)⟩
 ·by_cases hk:b=c
  ·subst hk
   rw[Emb.A3] at h2;cases h2
   simp only[h6,if_false] at h3
   rw[Emb.Ca φ l h6] at h4
   have:=h.lt h3 h4
   omega
  ·simp only[hk,if_false] at h1
   rw[Emb.Ca φ l hk] at h2
   by_cases hk':b=c'
   ·subst hk'
    rw[Emb.A3] at h4;cases h4
    have:=h.lt h1 h2
    omega
   ·simp only[hk',if_false] at h3
    rw[Emb.Ca φ l hk'] at h4
    exact h.sep c y m c' y' m' h1 h2 h3 h4 h5 h6 h7
 ·rw[Emb.Ca φ l (by rintro rfl;omega)]
  exact h.fresh c (by omega)
theorem Ext.push {φ:Emb} {g:Mem} {w w':World} {b:Key} (hb:φ b=none) (x:Blk) (l:Loc) (hl:l.blk=w.heap.size) {o:Obj}
  (hw:w'.heap=w.heap.push o) (ho:w'.os=w.os∧w'.output=w.output):Ext φ g b.toNat w (φ.set b l) (fun k=>if b=k then some x else g k) (b.toNat+1) w' where
 le:=Emb.Pe l hb
 only c hc hr:=by rw[Emb.Ca φ l (by rintro rfl;omega)];exact hc
 nx:=by omega
 size:=by rw[hw];simp
 frame r o' hr _:=by
  have hlt:r<w.heap.size:=(Array.getElem?_eq_some_iff.1 hr).1
  rw[hw,Array.getElem?_push];simp[Nat.ne_of_lt hlt,hr]
 own c y m h1 h2 h3 h4:=by
  by_cases hk:b=c
  ·subst hk;rw[Emb.A3] at h3;cases h3;omega
  ·simp only[hk,if_false] at h1
   rw[Emb.Ca φ l hk] at h3
   exact⟨c,y,m,h1,h2,h3,rfl⟩
 new c m h1 h2 h3:=by
  by_cases hk:b=c
  ·subst hk;rw[Emb.A3] at h2;cases h2;omega
  ·rw[Emb.Ca φ l hk,h1] at h2;cases h2
 os:=ho
theorem Av (h:Ac) (b:Key) (x:Option Blk):(h.upd b x).get=fun k=>if b=k then x else h.get k:=by
 funext k;exact Tr.Av x h.mem b k
theorem Cf (h:Ac) (x:Blk):(h.Bs x).get=fun k=>if h.next=k then some x else h.get k:=by
 funext k;exact Tr.Av (some x) h.mem h.next k
theorem Sq (l:List SV) (i:Nat) (hi:i<l.length):(Tr.z.Co 0 l).get (kn i)=some l[i]:=by
 rw[Tr.B0];simp[hi]
theorem Rp.ofList {φ:Emb} {l:List SV} {vs:List Value} (h:Aa (Bz φ) l vs) (rest:List Value) (r:Nat) (e:TypeId) (fr:Nat×Nat) (own:Bool) (hf:own=true→fr=(0,0)) :
  Rp φ ⟨r,0,(vs++rest).length⟩ own (Body.ofList l) (.cells (vs++rest).toArray e fr):=by
 have hl:=Ah h
 refine⟨_,e,fr,rfl,by simp,by simp[hl],hf,fun i hi=>?_⟩
 obtain⟨v,hv,hr⟩:=Ax h i (a:=l[i]) (by simp[hi])
 refine⟨l[i],v,Sq l i hi,?_,hr⟩
 have:i<vs.length:=by omega
 simp[List.getElem?_append_left this,hv]
theorem Nn (c:Tr SV):∀(n o:Nat) (ls:List SV),Jl c o n=some ls→ls.length=n∧∀j,j<n→c.get (kn (o+j))=ls[j]?
 |0,o,ls,h=>by simp[Jl] at h;subst h;simp
 |n+1,o,ls,h=>by
  simp only[Jl] at h
  cases h1:c.get (kn o) with
  |none=>simp[h1] at h
  |some v=>
   rw[h1] at h
   cases h2:Jl c (o+1) n with
   |none=>simp[h2] at h
   |some l=>
    simp[h2] at h
    subst h
    obtain⟨hl,hg⟩:=Nn c n (o+1) l h2
    refine⟨by simp[hl],fun j hj=>?_⟩
    cases j with
    |zero=>simpa using h1
    |succ j=>simpa[show o+(j+1)=o+1+j from by omega] using hg j (by omega)
theorem E4 (r o j:Nat):(⟨r,o,none⟩:Addr).add j=⟨r,o+j,none⟩:=by unfold Addr.add;split<;>simp_all
theorem Zw {h:Ac} {b:Key} {c:Tr SV} {m:Nat} (e:h.cells b=some (c,m)):∃own anc,h.get b=some ⟨.cells c m,own,anc⟩:=by
 unfold Ac.cells at e
 split at e
 ·next c' n' own anc hg=>cases e;exact⟨own,anc,hg⟩
 ·cases e
theorem Vr (h:Ac) (b:Key) (o:Nat):h.read b o 0=some []:=by simp[Ac.read]
theorem Sim.read {φ:Emb} {h:Ac} {nx:Nat} {w:World} (s:Sim φ h.get nx w) {b:Key} {l:Loc} (hφ:φ b=some l) {o n:Nat} {ls:List SV} (hr:h.read b o n=some ls) :
  ls.length=n∧∃vs,Aa (Bz φ) ls vs∧∀j v,vs[j]?=some v→w.cell? ((⟨l.blk,o+l.off,none⟩:Addr).add j)=some v:=by
 unfold Ac.read at hr
 split at hr
 ·next h0=>cases hr;subst h0;exact⟨rfl,[],.nil,by simp⟩
 ·split at hr
  ·next c m hc=>
   split at hr
   ·next hle=>
    obtain⟨own,anc,hg⟩:=Zw hc
    obtain⟨hl,hread⟩:=Nn c n o ls hr
    obtain⟨ob,hw,arr,e,fr,rfl,hs,hm,_,hcell⟩:=s.blk b _ l hg hφ
    refine⟨hl,(List.range n).map (fun j=>arr.getD (l.off+(o+j)) undef),?_,?_⟩
    ·refine Hg (by simp[hl]) fun i a ha=>?_
     have hi:i<n:=by rw[←hl];exact(Gi.1 ha).1
     obtain⟨sv,v,h1,h2,h3⟩:=hcell (o+i) (by omega)
     rw[hread i hi,ha] at h1
     cases h1
     exact⟨v,by simp[hi,h2],h3⟩
    ·intro j v hj
     have hj':j<n:=by
      have:=(Gi.1 hj).1
      simpa using this
     simp[hj'] at hj
     obtain⟨sv,v',_,h2,_⟩:=hcell (o+j) (by omega)
     rw[E4]
     simp only[World.cell?,hw]
     rw[show o+l.off+j=l.off+(o+j) from by omega]
     rw[h2] at hj ⊢
     simp at hj
     simp[hj]
   ·cases hr
  ·cases hr
theorem Dt:∀(anc:List Key) (h:Ac) (k:Key),(h.Bb anc).get k=if k∈anc then none else h.get k
 |[],h,k=>by simp[Ac.Bb]
 |b::l,h,k=>by
  rw[Ac.Bb,Dt l]
  by_cases h1:k∈l
  ·simp[h1]
  ·simp only[h1,if_false,List.mem_cons,or_false]
   rw[Av]
   by_cases h2:b=k
   ·simp[h2]
   ·simp[h2,Ne.symm h2]
theorem Bv:∀(anc:List Key) (h:Ac),(h.Bb anc).next=h.next
 |[],_=>rfl
 |_::l,h=>by rw[Ac.Bb,Bv l];rfl
def over (arr:Array Value) (p:Nat) (vs:List Value):Array Value:=(arr.toList.take p++vs++arr.toList.drop (p+vs.length)).toArray
theorem I9 (arr:Array Value) (p:Nat) (vs:List Value) (h:p+vs.length≤arr.size):(over arr p vs).size=arr.size:=by
 simp[over];omega
theorem Tq (arr:Array Value) (p:Nat) (vs:List Value) (h:p+vs.length≤arr.size) (i:Nat) (hi:i<vs.length):(over arr p vs)[p+i]?=vs[i]?:=by
 have hp:(arr.toList.take p).length=p:=by simp;omega
 simp only[over,List.getElem?_toArray,List.append_assoc]
 rw[List.getElem?_append_right (by omega),hp,show p+i-p=i from by omega,List.getElem?_append_left hi]
theorem Mf (arr:Array Value) (p:Nat) (vs:List Value) (h:p+vs.length≤arr.size) (i:Nat) (hi:i<p∨p+vs.length≤i):(over arr p vs)[i]?=arr[i]?:=by
 have hp:(arr.toList.take p).length=p:=by simp;omega
 simp only[over,List.getElem?_toArray,List.append_assoc]
 rcases hi with hi|hi
 ·rw[List.getElem?_append_left (by omega),List.getElem?_take];simp[hi]
 ·rw[List.getElem?_append_right (by omega),hp,List.getElem?_append_right (by omega),List.getElem?_drop]
  rw[show p+vs.length+(i-p-vs.length)=i from by omega];simp
theorem setRow_os (w:World) (b:Nat) (c:Array Value):(w.setRow b c).os=w.os∧(w.setRow b c).output=w.output:=by
 unfold World.setRow;first|exact⟨rfl,rfl⟩|(split<;>exact⟨rfl,rfl⟩)
theorem Sim.wrote {φ:Emb} {g:Mem} {nx:Nat} {w:World} (s:Sim φ g nx w) {b:Key} {l:Loc} (hφ:φ b=some l) {c:Tr SV} {m:Nat} {anc:List Key}
  (hg:g b=some ⟨.cells c m,true,anc⟩) {o:Nat} {ls:List SV} {vs:List Value} (hv:Aa (Bz φ) ls vs) (hle:o+ls.length≤m)
  {g':Mem} (hb:g' b=some ⟨.cells (c.Co o ls) m,true,[]⟩) (hk:∀k x,k≠b→g' k=some x→g k=some x∧k∉anc) :
  ∃arr e,w.heap[l.blk]?=some (.cells arr e (0,0))∧o+l.off+vs.length≤arr.size ∧
   Sim φ g' nx (w.setRow l.blk (over arr (o+l.off) vs))∧∀lo,Ext φ g lo w φ g' lo (w.setRow l.blk (over arr (o+l.off) vs)):=by
 have hlen:=Ah hv
 obtain⟨ob,hw,arr,e,fr,rfl,hs,hm,hf,hcell⟩:=s.blk b _ l hg hφ
 have hfr:fr=(0,0):=hf rfl
 subst hfr
 have hfit:o+l.off+vs.length≤arr.size:=by
  have:l.off+m≤arr.size:=hm
  omega
 have hother:∀k x lk,k≠b→g' k=some x→φ k=some lk→lk.blk≠l.blk:=fun k x lk hne h1 h2 h3=>by
  obtain⟨h4,h5⟩:=hk k x hne h1
  exact h5 (s.sep b _ l k x lk hg hφ h4 h2 h3.symm (Ne.symm hne) rfl).1
 refine⟨arr,e,hw,hfit,⟨fun k x lk h1 h2=>?_,fun k x lk k' x' lk' h1 h2 h3 h4 h5 h6 h7=>?_,s.fresh⟩,fun lo=>⟨Le.refl φ,fun _ h _=>h,Rl,by simp,fun r ob hr hn=>?_,fun k x lk h1 h2 h3 _=>?_,fun k lk h1 h2 _=>(by rw[h1] at h2;cases h2),setRow_os _ _ _⟩⟩
 ·by_cases hkb:k=b
  ·subst hkb
   rw[hφ] at h2;cases h2
   rw[hb] at h1;cases h1
   refine⟨_,setRow_heap w l.blk arr _ e (0,0) hw,over arr (o+l.off) vs,e,(0,0),rfl,by rw[I9 _ _ _ hfit];exact hs,by rw[I9 _ _ _ hfit];exact hm,fun _=>rfl,fun i hi=>?_⟩
   by_cases hin:o≤i∧i<o+ls.length
   ·obtain⟨j,rfl⟩:∃j,i=o+j:=⟨i-o,by omega⟩
    have hj:j<ls.length:=by omega
    obtain⟨v,hv1,hv2⟩:=Ax hv j (a:=ls[j]) (by simp[hj])
    refine⟨ls[j],v,?_,?_,hv2⟩
    ·rw[Tr.B0,if_pos ⟨by omega,by omega⟩,show o+j-o=j from by omega];simp[hj]
    ·rw[show l.off+(o+j)=(o+l.off)+j from by omega,Tq _ _ _ hfit j (by omega)];exact hv1
   ·obtain⟨sv,v,h3,h4,h5⟩:=hcell i hi
    refine⟨sv,v,?_,?_,h5⟩
    ·rw[Tr.B0,if_neg hin];exact h3
    ·rw[Mf _ _ _ hfit _ (by omega)];exact h4
  ·have hne:=hother k x lk hkb h1 h2
   obtain⟨h3,_⟩:=hk k x hkb h1
   obtain⟨o',ho',hr'⟩:=s.blk k x lk h3 h2
   exact⟨o',by rw[setRow_other w l.blk lk.blk _ hne];exact ho',hr'⟩
 ·by_cases hkb:k=b
  ·subst hkb
   rw[hφ] at h2;cases h2
   exact absurd h5.symm (hother k' x' lk' (Ne.symm h6) h3 h4)
  ·by_cases hkb':k'=b
   ·subst hkb'
    rw[hφ] at h4;cases h4
    exact absurd h5 (hother k x lk hkb h1 h2)
   ·exact s.sep k x lk k' x' lk' (hk k x hkb h1).1 h2 (hk k' x' hkb' h3).1 h4 h5 h6 h7
 ·have hne:r≠l.blk:=fun e'=>hn b _ l hg rfl hφ e'.symm
  rw[setRow_other w l.blk r _ hne];exact hr
 ·by_cases hkb:k=b
  ·subst hkb;exact⟨k,_,l,hg,rfl,hφ,by rw[hφ] at h3;cases h3;rfl⟩
  ·exact⟨k,x,lk,(hk k x hkb h1).1,h2,h3,rfl⟩
theorem qF {h h':Ac} {b:Key} {o:Nat} {ls:List SV} (e:h.write b o ls=some h') :
  ∃c m anc,h.get b=some ⟨.cells c m,true,anc⟩∧o+ls.length≤m∧h'.next=h.next ∧
   h'.get b=some ⟨.cells (c.Co o ls) m,true,[]⟩∧∀k x,k≠b→h'.get k=some x→h.get k=some x∧k∉anc:=by
 unfold Ac.write at e
 split at e
 ·next c m anc hg=>
  split at e
  ·next hle=>
   cases e
   refine⟨c,m,anc,hg,hle,by simp[Ac.upd,Bv],by rw[Av];simp,fun k x hne hx=>?_⟩
   rw[Av] at hx
   simp only[Ne.symm hne,if_false] at hx
   rw[Dt] at hx
   split at hx
   ·cases hx
   ·next hn=>exact⟨hx,hn⟩
  ·cases e
 ·cases e
theorem Sim.write {φ:Emb} {h h':Ac} {nx:Nat} {w:World} (s:Sim φ h.get nx w) {b:Key} {l:Loc} (hφ:φ b=some l) {o:Nat} {ls:List SV} {vs:List Value}
  (hv:Aa (Bz φ) ls vs) (e:h.write b o ls=some h') :
  ∃arr t,w.heap[l.blk]?=some (.cells arr t (0,0))∧o+l.off+vs.length≤arr.size∧h'.next=h.next ∧
   Sim φ h'.get nx (w.setRow l.blk (over arr (o+l.off) vs))∧∀lo,Ext φ h.get lo w φ h'.get lo (w.setRow l.blk (over arr (o+l.off) vs)):=by
 obtain⟨c,m,anc,hg,hle,hn,hb,hk⟩:=qF e
 obtain⟨arr,t,h1,h2,h3,h4⟩:=s.wrote hφ hg hv hle hb hk
 exact⟨arr,t,h1,h2,hn,h3,h4⟩
theorem Ik {c:Tr SV} {m o k:Nat} {new:List SV} {body:Body} (e:Ac.copied c m o k new=some body) :
  o+k≤m∧∃c',body=.cells c' (k+new.length)∧(∀i,i<k→c'.get (kn i)=c.get (kn (o+i)))∧∀i,i<new.length→c'.get (kn (k+i))=new[i]?:=by
 unfold Ac.copied at e
 split at e
 ·next hle=>
  refine⟨hle,?_⟩
  split at e
  ·next h0=>
   cases e;subst h0
   refine⟨_,rfl,fun i hi=>?_,fun i hi=>?_⟩
   ·rw[Tr.B0,if_neg (by omega)];simp
   ·rw[Tr.B0,if_pos ⟨by omega,by omega⟩,show k+i-k=i from by omega]
  ·split at e
   ·next old hr=>
    cases e
    obtain⟨hl,hg⟩:=Nn c k o old hr
    refine⟨Tr.z.Co 0 (old++new),by simp[Body.ofList,hl],fun i hi=>?_,fun i hi=>?_⟩
    ·rw[Tr.B0,if_pos ⟨by omega,by simp;omega⟩,hg i hi]
     simp only[Nat.sub_zero]
     rw[List.getElem?_append_left (by omega)]
    ·rw[Tr.B0,if_pos ⟨by omega,by simp;omega⟩]
     simp only[Nat.sub_zero]
     rw[List.getElem?_append_right (by omega),hl,show k+i-k=i from by omega]
   ·cases e
 ·cases e
theorem eP {h h':Ac} {b b':Key} {o k:Nat} {new:List SV} (e:h.grow b o k new=some (b',h')) :
  ∃c m anc body anc' g1,h.get b=some ⟨.cells c m,true,anc⟩∧Ac.copied c m o k new=some body∧b'=h.next∧h'.next=h.next.succ ∧
   (h'.get=fun j=>if h.next=j then some ⟨body,true,anc'⟩ else g1 j) ∧
   ((o+k=m∧anc'=b::anc∧g1=fun j=>if b=j then some ⟨.cells c m,false,anc⟩ else h.get j) ∨
    (o+k≠m∧anc'=[]∧g1=fun j=>if j=b∨j∈anc then none else h.get j)):=by
 unfold Ac.grow at e
 split at e
 ·next c m anc hg=>
  split at e
  ·next body hc=>
   split at e
   ·next hm=>
    cases e
    refine⟨c,m,anc,body,b::anc,_,hg,hc,rfl,rfl,?_,.inl ⟨hm,rfl,rfl⟩⟩
    rw[Cf,Av];rfl
   ·next hm=>
    cases e
    refine⟨c,m,anc,body,[],_,hg,hc,rfl,by simp[Ac.Bs,Ac.upd,Bv],?_,.inr ⟨hm,rfl,rfl⟩⟩
    rw[Cf,Av]
    funext j
    have hn:((h.Bb anc).upd b none).next=h.next:=by simp[Ac.upd,Bv]
    rw[hn]
    by_cases h1:h.next=j
    ·simp[h1]
    ·simp only[h1,if_false]
     by_cases h2:b=j
     ·simp[h2]
     ·simp only[h2,if_false,Ne.symm h2,false_or]
      rw[Dt]
  ·cases e
 ·cases e
theorem Sim.lO {φ:Emb} {h:Ac} {nx:Nat} {w:World} (s:Sim φ h.get nx w) {b:Key} {c:Tr SV} {m:Nat} {anc:List Key} {P Q:Prop} {anc':List Key} {g1:Mem} (hg:h.get b=some ⟨.cells c m,true,anc⟩)
  (hg1:(P∧anc'=b::anc∧g1=fun j=>if b=j then some ⟨.cells c m,false,anc⟩ else h.get j)∨(Q∧anc'=[]∧g1=fun j=>if j=b∨j∈anc then none else h.get j)):Sim φ g1 nx w:=by
 refine s.less fun k x hx=>?_
 rcases hg1 with⟨_,_,rfl⟩|⟨_,_,rfl⟩
 ·by_cases hk:b=k
  ·simp only[hk,if_true] at hx
   cases hx
   exact⟨⟨.cells c m,true,anc⟩,by rw[←hk];exact hg,rfl,rfl,by simp⟩
  ·simp only[hk,if_false] at hx
   exact⟨x,hx,rfl,rfl,id⟩
 ·simp only at hx
  split at hx
  ·cases hx
  ·exact⟨x,hx,rfl,rfl,id⟩
theorem Sim.AD {φ:Emb} {h h':Ac} {nx nx':Nat} {w:World} (s:Sim φ h.get nx w) (hb:φ h.next=none) (hnx:nx≤nx') (hlt:h.next.toNat<nx') {b b':Key} {o k:Nat} {new:List SV}
  (e:h.grow b o k new=some (b',h')) {l:Loc} (hφ:k=0∨φ b=some l) {vs:List Value} (hv:Aa (Bz φ) new vs) :
  b'=h.next∧h'.next=h.next.succ∧∃olds:List Value,olds.length=k∧(∀j v,olds[j]?=some v→w.cell? ((⟨l.blk,o+l.off,none⟩:Addr).add j)=some v) ∧
   ∀(w':World) (rest:List Value) (t:TypeId),w'.heap=w.heap.push (.cells (olds++vs++rest).toArray t (0,0))→(w'.os=w.os∧w'.output=w.output) →
    Sim (φ.set h.next ⟨w.heap.size,0,(olds++vs++rest).length⟩) h'.get nx' w' ∧
    Ext φ h.get h.next.toNat w (φ.set h.next ⟨w.heap.size,0,(olds++vs++rest).length⟩) h'.get (h.next.toNat+1) w':=by
 obtain⟨c,m,anc,body,anc',g1,hg,hc,rfl,hn,hget,hg1⟩:=eP e
 obtain⟨hle,c',rfl,hc1,hc2⟩:=Ik hc
 have hlen:=Ah hv
 have s1:Sim φ g1 nx w:=s.lO hg hg1
 have hold:∃olds:List Value,olds.length=k∧(∀j v,olds[j]?=some v→w.cell? ((⟨l.blk,o+l.off,none⟩:Addr).add j)=some v) ∧
   ∀i,i<k→∃sv v,c'.get (kn i)=some sv∧olds[i]?=some v∧Bz φ sv v:=by
  rcases hφ with rfl|hφ
  ·exact⟨[],rfl,by simp,by omega⟩
  ·obtain⟨ob,hw,arr,t,fr,rfl,hs,hm,_,hcell⟩:=s.blk b _ l hg hφ
   refine⟨(List.range k).map (fun j=>arr.getD (l.off+(o+j)) undef),by simp,fun j v hj=>?_,fun i hi=>?_⟩
   ·have hj':j<k:=by
     have:=(Gi.1 hj).1
     simpa using this
    simp[hj'] at hj
    obtain⟨sv,v',_,h2,_⟩:=hcell (o+j) (by omega)
    rw[E4]
    simp only[World.cell?,hw]
    rw[show o+l.off+j=l.off+(o+j) from by omega]
    rw[h2] at hj ⊢
    simp at hj
    simp[hj]
   ·obtain⟨sv,v,h1,h2,h3⟩:=hcell (o+i) (by omega)
    exact⟨sv,v,by rw[hc1 i hi];exact h1,by simp[hi,h2],h3⟩
 obtain⟨olds,hol,hoc,hor⟩:=hold
 refine⟨rfl,hn,olds,hol,hoc,fun w' rest t hw' ho'=>?_⟩
 rw[hget]
 refine⟨s1.push hb nx' hnx hlt ⟨.cells c' (k+new.length),true,anc'⟩ _ rfl hw' ⟨_,t,(0,0),rfl,by simp,by simp;omega,fun _=>rfl,fun i hi=>?_⟩,?_⟩
 ·have hle':=Emb.Pe (φ:=φ) ⟨w.heap.size,0,(olds++vs++rest).length⟩ hb
  by_cases hik:i<k
  ·obtain⟨sv,v,h1,h2,h3⟩:=hor i hik
   refine⟨sv,v,h1,?_,h3.mono hle'⟩
   simp only[List.getElem?_toArray,Nat.zero_add]
   rw[List.append_assoc,List.getElem?_append_left (by omega)];exact h2
  ·obtain⟨j,rfl⟩:∃j,i=k+j:=⟨i-k,by omega⟩
   have hj:j<new.length:=by omega
   obtain⟨v,h1,h2⟩:=Ax hv j (a:=new[j]) (by simp[hj])
   refine⟨new[j],v,by rw[hc2 j hj];simp[hj],?_,h2.mono hle'⟩
   simp only[List.getElem?_toArray,Nat.zero_add]
   rw[List.append_assoc,List.getElem?_append_right (by omega),hol,show k+j-k=j from by omega,List.getElem?_append_left (by omega)];exact h1
 ·have x1:=Ext.push (φ:=φ) (g:=g1) (w:=w) (w':=w') (b:=h.next) hb ⟨.cells c' (k+new.length),true,anc'⟩ ⟨w.heap.size,0,(olds++vs++rest).length⟩ rfl hw' ho'
  refine⟨x1.le,x1.only,x1.nx,x1.size,fun r ob hr hnr=>?_,fun k1 x1' l1 h1 h2 h3 h4=>?_,fun k1 l1 h1 h2 h3=>?_,ho'⟩
  ·have:r<w.heap.size:=(Array.getElem?_eq_some_iff.1 hr).1
   rw[hw',Array.getElem?_push];simp[Nat.ne_of_lt this,hr]
  ·obtain⟨b0,x0,l0,f1,f2,f3,f4⟩:=x1.own k1 x1' l1 h1 h2 h3 h4
   rcases hg1 with⟨_,_,rfl⟩|⟨_,_,rfl⟩
   ·by_cases hk:b=b0
    ·simp only[hk,if_true] at f1;cases f1;cases f2
    ·simp only[hk,if_false] at f1;exact⟨b0,x0,l0,f1,f2,f3,f4⟩
   ·simp only at f1
    split at f1
    ·cases f1
    ·exact⟨b0,x0,l0,f1,f2,f3,f4⟩
  ·obtain⟨b0,x0,l0,f1,f2,f3,f4⟩:=x1.new k1 l1 h1 h2 h3
   rcases hg1 with⟨_,_,rfl⟩|⟨_,_,rfl⟩
   ·by_cases hk:b=b0
    ·simp only[hk,if_true] at f1;cases f1;cases f2
    ·simp only[hk,if_false] at f1;exact⟨b0,x0,l0,f1,f2,f3,f4⟩
   ·simp only at f1
    split at f1
    ·cases f1
    ·exact⟨b0,x0,l0,f1,f2,f3,f4⟩
theorem Sim.HR {φ:Emb} {h h':Ac} {nx nx':Nat} {w:World} (s:Sim φ h.get nx w) (hb:φ h.next=none) (hnx:nx≤nx') (hlt:h.next.toNat<nx') {b b':Key} {o k:Nat} {new:List SV}
  (e:h.grow b o k new=some (b',h')) {l:Loc} (hφ:φ b=some l) {vs:List Value} (hv:Aa (Bz φ) new vs) (hfit:o+l.off+k+vs.length≤l.tot) :
  b'=h.next∧h'.next=h.next.succ∧∃arr t,w.heap[l.blk]?=some (.cells arr t (0,0))∧o+l.off+k+vs.length≤arr.size ∧
    Sim (φ.set h.next ⟨l.blk,o+l.off,l.tot⟩) h'.get nx' (w.setRow l.blk (over arr (o+l.off+k) vs)) ∧
    Ext φ h.get h.next.toNat w (φ.set h.next ⟨l.blk,o+l.off,l.tot⟩) h'.get (h.next.toNat+1) (w.setRow l.blk (over arr (o+l.off+k) vs)):=by
 obtain⟨c,m,anc,body,anc',g1,hg,hc,rfl,hn,hget,hg1⟩:=eP e
 obtain⟨hle,c',rfl,hc1,hc2⟩:=Ik hc
 have hlen:=Ah hv
 have s1:Sim φ g1 nx w:=s.lO hg hg1
 obtain⟨ob,hw,arr,t,fr,rfl,hs,hm,hf,hcell⟩:=s.blk b _ l hg hφ
 have hfr:fr=(0,0):=hf rfl
 subst hfr
 have hfit':o+l.off+k+vs.length≤arr.size:=by rw[hs];exact hfit
 have hne:h.next≠b:=fun e'=>by rw[e'] at hb;rw[hb] at hφ;cases hφ
 have hle':=Emb.Pe (φ:=φ) ⟨l.blk,o+l.off,l.tot⟩ hb
 have share:∀j x lj,g1 j=some x→φ j=some lj→lj.blk=l.blk→j∈anc'∧lj.off+x.body.size≤o+l.off+k∧x.own=false∧(o+k=m):=fun j x lj h1 h2 h3=>by
  rcases hg1 with⟨hm',rfl,rfl⟩|⟨hm',rfl,rfl⟩
  ·by_cases hj:b=j
   ·subst hj
    simp only[if_true] at h1
    cases h1
    rw[hφ] at h2;cases h2
    exact⟨by simp,by simp[Body.size];omega,rfl,hm'⟩
   ·simp only[hj,if_false] at h1
    have hsep:=s.sep b _ l j x lj hg hφ h1 h2 h3.symm hj rfl
    refine⟨by simp[hsep.1],?_,hsep.2.2,hm'⟩
    have h9:=hsep.2.1
    change lj.off+x.body.size≤l.off+m at h9
    omega
  ·simp only at h1
   split at h1
   ·cases h1
   ·next hj=>
    have hsep:=s.sep b _ l j x lj hg hφ h1 h2 h3.symm (fun e'=>hj (.inl e'.symm)) rfl
    exact absurd (.inr hsep.1) hj
 refine⟨rfl,hn,arr,t,hw,hfit',⟨fun j x lj h1 h2=>?_,fun j x lj j' x' lj' h1 h2 h3 h4 h5 h6 h7=>?_,fun j hj=>?_⟩,⟨hle',fun j hj hr=>?_,by omega,by simp,fun r ob hr hnr=>?_,fun j x lj h1 h2 h3 h4=>?_,fun j lj h1 h2 h3=>?_,setRow_os _ _ _⟩⟩
 ·rw[hget] at h1
  by_cases hj:h.next=j
  ·subst hj
   simp only[if_true] at h1
   cases h1
   rw[Emb.A3] at h2;cases h2
   refine⟨_,setRow_heap w l.blk arr _ t (0,0) hw,over arr (o+l.off+k) vs,t,(0,0),rfl,by rw[I9 _ _ _ hfit'];exact hs,by rw[I9 _ _ _ hfit'];simp;omega,fun _=>rfl,fun i hi=>?_⟩
   by_cases hik:i<k
   ·obtain⟨sv,v,h1,h2,h3⟩:=hcell (o+i) (by omega)
    refine⟨sv,v,by rw[hc1 i hik];exact h1,?_,h3.mono hle'⟩
    simp only
    rw[Mf _ _ _ hfit' _ (by omega),show o+l.off+i=l.off+(o+i) from by omega];exact h2
   ·obtain⟨q,rfl⟩:∃q,i=k+q:=⟨i-k,by omega⟩
    have hq:q<new.length:=by omega
    obtain⟨v,h1,h2⟩:=Ax hv q (a:=new[q]) (by simp[hq])
    refine⟨new[q],v,by rw[hc2 q hq];simp[hq],?_,h2.mono hle'⟩
    simp only
    rw[show o+l.off+(k+q)=o+l.off+k+q from by omega,Tq _ _ _ hfit' q (by omega)];exact h1
  ·simp only[hj,if_false] at h1
   rw[Emb.Ca φ _ hj] at h2
   obtain⟨ob,ho,hr⟩:=s1.blk j x lj h1 h2
   by_cases hbl:lj.blk=l.blk
   ·obtain⟨_,hend,hown,_⟩:=share j x lj h1 h2 hbl
    rw[hbl,hw] at ho
    cases ho
    cases hbody:x.body with
    |cells cx mx=>
     rw[hbody] at hr hend
     obtain⟨NZ,t2,fr2,he2,hs2,hm2,hf2,hc2'⟩:=hr
     cases he2
     refine⟨_,hbl▸setRow_heap w l.blk arr _ t (0,0) hw,over arr (o+l.off+k) vs,t,(0,0),rfl,by rw[I9 _ _ _ hfit'];exact hs2,by rw[I9 _ _ _ hfit'];exact hm2,fun _=>rfl,fun i hi=>?_⟩
     obtain⟨sv,v,g1',g2',g3'⟩:=hc2' i hi
     refine⟨sv,v,g1',?_,g3'.mono hle'⟩
     rw[Mf _ _ _ hfit' _ (by simp only[Body.size] at hend;omega)];exact g2'
    |map es=>rw[hbody] at hr;obtain⟨_,he,_⟩:=hr;cases he
    |iter a1 a2 a3=>rw[hbody] at hr;obtain⟨_,_,_,he⟩:=hr;cases he
    |eH a1 a2=>rw[hbody] at hr;obtain⟨_,he⟩:=hr;cases he
   ·exact⟨ob,by rw[setRow_other w l.blk lj.blk _ hbl];exact ho,hr.mono hle'⟩
 ·rw[hget] at h1 h3
  by_cases hj:h.next=j
  ·subst hj
   simp only[if_true] at h1
   cases h1
   rw[Emb.A3] at h2;cases h2
   simp only[h6,if_false] at h3
   rw[Emb.Ca φ _ h6] at h4
   obtain⟨hm1,hm2,hm3,hm4⟩:=share j' x' lj' h3 h4 h5.symm
   refine⟨hm1,?_,hm3⟩
   change lj'.off+x'.body.size≤o+l.off+(k+new.length)
   omega
  ·simp only[hj,if_false] at h1
   rw[Emb.Ca φ _ hj] at h2
   by_cases hj':h.next=j'
   ·subst hj'
    rw[Emb.A3] at h4;cases h4
    have:=(share j x lj h1 h2 h5).2.2.1
    rw[this] at h7;cases h7
   ·simp only[hj',if_false] at h3
    rw[Emb.Ca φ _ hj'] at h4
    exact s1.sep j x lj j' x' lj' h1 h2 h3 h4 h5 h6 h7
 ·rw[Emb.Ca φ _ (by rintro rfl;omega)]
  exact s.fresh j (by omega)
 ·rw[Emb.Ca φ _ (by rintro rfl;omega)];exact hj
 ·have hne':r≠l.blk:=fun e'=>hnr b _ l hg rfl hφ e'.symm
  rw[setRow_other w l.blk r _ hne'];exact hr
 ·rw[hget] at h1
  by_cases hj:h.next=j
  ·subst hj
   rw[Emb.A3] at h3;cases h3
   exact⟨b,_,l,hg,rfl,hφ,rfl⟩
  ·simp only[hj,if_false] at h1
   rw[Emb.Ca φ _ hj] at h3
   rcases hg1 with⟨_,_,rfl⟩|⟨_,_,rfl⟩
   ·by_cases hk:b=j
    ·simp only[hk,if_true] at h1;cases h1;cases h2
    ·simp only[hk,if_false] at h1;exact⟨j,x,lj,h1,h2,h3,rfl⟩
   ·simp only at h1
    split at h1
    ·cases h1
    ·exact⟨j,x,lj,h1,h2,h3,rfl⟩
 ·by_cases hj:h.next=j
  ·subst hj
   rw[Emb.A3] at h2;cases h2
   exact⟨b,_,l,hg,rfl,hφ,rfl⟩
  ·rw[Emb.Ca φ _ hj,h1] at h2;cases h2
def OA (P:Program) (ρ:Operand→Value) (o:Oper) (w:World) (v:Value) (w':World):Prop:=
 (execOp ρ o).run P w=.ok (.value v) w'∨((execOp ρ o).run P w=.ok .skip w'∧v=undef)
def Sr (P:Program) (op:Op) (vop:VOp) (xs:List Operand):Prop:=
 ∀(o:Oper),o.op=op→∀(φ:Emb) (h:Ac) (nx:Nat) (w:World) (ρ:Operand→Value) (args:List AV) (v:AV) (h':Ac),
  vop.run args h=some (v,h')→Sim φ h.get nx w→φ h.next=none→Aa (Cp φ) args (xs.map ρ) →
  ∃v' w',OA P ρ o w v' w'∧∃φ',(∀nx',nx≤nx'→h'.next.toNat≤nx'→Sim φ' h'.get nx' w')∧Ext φ h.get h.next.toNat w φ' h'.get h'.next.toNat w'∧Cp φ' v v'
def Ok (P:Program) (op:Op):Prop:=∀vop xs,cOp P op=some (.op vop,xs)→Sr P op vop xs
theorem Sim.up {φ:Emb} {g:Mem} {nx nx':Nat} {w:World} (s:Sim φ g nx w) (h:nx≤nx'):Sim φ g nx' w:=
 ⟨s.blk,s.sep,fun b hb=>s.fresh b (by omega)⟩
theorem A6 {P:Program} {o:Oper} {φ:Emb} {h:Ac} {nx:Nat} {w:World} {ρ:Operand→Value} {v:AV} {v':Value} (s:Sim φ h.get nx w)
  (hd:(execOp ρ o).run P w=.ok (.value v') w) (hv:Cp φ v v') :
  ∃v' w',OA P ρ o w v' w'∧∃φ',(∀nx',nx≤nx'→h.next.toNat≤nx'→Sim φ' h.get nx' w')∧Ext φ h.get h.next.toNat w φ' h.get h.next.toNat w'∧Cp φ' v v':=
 ⟨v',w,.inl hd,φ,fun _ h1 _=>s.up h1,Ext.refl _ _ _ _,hv⟩
theorem Km {φ:Emb} {a:AV} {x:Operand} {ρ:Operand→Value} (h:Aa (Cp φ) [a] ([x].map ρ)):Cp φ a (ρ x):=by
 cases h with
 |cons h t=>exact h
theorem Zx {φ:Emb} {a b:AV} {x y:Operand} {ρ:Operand→Value} (h:Aa (Cp φ) [a,b] ([x,y].map ρ)):Cp φ a (ρ x)∧Cp φ b (ρ y):=by
 cases h with
 |cons h t=>exact⟨h,Km t⟩
theorem RX {φ:Emb} {a b c:AV} {x y z:Operand} {ρ:Operand→Value} (h:Aa (Cp φ) [a,b,c] ([x,y,z].map ρ)):Cp φ a (ρ x)∧Cp φ b (ρ y)∧Cp φ c (ρ z):=by
 cases h with
 |cons h t=>exact⟨h,Zx t⟩
section
variable {P:Program} {w:World}
theorem Np {t:TypeId} {n:Nat} (h:Cw P t=some n):∃i,P.info? t=some i∧i.size=n:=by
 unfold Cw at h
 cases hi:P.info? t with
 |none=>simp[hi] at h
 |some i=>simp[hi] at h;exact⟨i,rfl,h⟩
theorem Xb {t:TypeId} {n:Nat} (h:Vp P t=some n):∃i,P.info? t=some i∧i.bytes=n:=by
 unfold Vp at h
 cases hi:P.info? t with
 |none=>simp[hi] at h
 |some i=>simp[hi] at h;exact⟨i,rfl,h⟩
theorem run_sizeOf {t:TypeId} {n:Nat} (h:Cw P t=some n):(sizeOf t).run P w=.ok n w:=by
 obtain⟨i,hi,rfl⟩:=Np h
 simp[sizeOf,typeInfo,hi]
theorem lP (op:BinOp) (t:TypeId) (x y:Operand) (k k':IntKind) (a b:Int):(eqGuard op t x y (.int k a) (.int k' b)).run P w=.ok () w:=by
 cases op<;>simp[eqGuard]
theorem Zy (op:BinOp) (t:TypeId) (x y:Operand) (a b:ByteArray):(eqGuard op t x y (.string a) (.string b)).run P w=.ok () w:=by
 cases op<;>simp[eqGuard]
end
theorem HS (P:Program) (x:Operand):Ok P (.move x):=by
 intro vop xs hc
 simp only[cOp,Sj,Pj,Bl.op.injEq] at hc
 obtain⟨rfl,rfl⟩:=hc
 intro o ho φ h nx w ρ args v h' hr s _ ha
 obtain⟨dst,op,type,pos,after,guard⟩:=o
 simp only at ho;subst ho
 simp only[VOp.run] at hr
 unfold zW at hr
 split at hr
 ·cases hr
  exact A6 (v':=ρ x) s (by simp[execOp]) (Km ha)
 ·cases hr
theorem xB (P:Program) (x:Operand):Ok P (.assign x):=by
 intro vop xs hc
 simp only[cOp,Sj,Pj,Bl.op.injEq] at hc
 obtain⟨rfl,rfl⟩:=hc
 intro o ho φ h nx w ρ args v h' hr s _ ha
 obtain⟨dst,op,type,pos,after,guard⟩:=o
 simp only at ho;subst ho
 simp only[VOp.run] at hr
 unfold zW at hr
 split at hr
 ·cases hr
  exact A6 (v':=ρ x) s (by simp[execOp]) (Km ha)
 ·cases hr
theorem HT (P:Program) (c a b:Operand):Ok P (.pick c a b):=by
 intro vop xs hc
 simp only[cOp,Sj,Pj,Bl.op.injEq] at hc
 obtain⟨rfl,rfl⟩:=hc
 intro o ho φ h nx w ρ args v h' hr s _ ha
 obtain⟨dst,op,type,pos,after,guard⟩:=o
 simp only at ho;subst ho
 simp only[VOp.run] at hr
 unfold tS at hr
 split at hr
 ·next cb x y=>
  cases hr
  obtain⟨r1,r2,r3⟩:=RX ha
  have e1:ρ c=.bool cb:=r1
  refine A6 (v':=if cb then ρ a else ρ b) s (by simp[execOp,e1,asBool]) ?_
  cases cb
  ·exact r3
  ·exact r2
 ·cases hr
theorem lQ (P:Program) (x:Operand):Ok P (.nilCheck x):=by
 intro vop xs hc
 simp only[cOp,Sj,Pj,Bl.op.injEq] at hc
 obtain⟨rfl,rfl⟩:=hc
 intro o ho φ h nx w ρ args v h' hr s _ ha
 obtain⟨dst,op,type,pos,after,guard⟩:=o
 simp only at ho;subst ho
 simp only[VOp.run] at hr
 unfold Yv at hr
 split at hr
 ·cases hr
  obtain⟨l,e1,e2⟩:=Km ha
  exact A6 (v':=ρ x) s (by rw[e2];simp[execOp,e2]) (Km ha)
 ·cases hr
  obtain⟨vs,us,e2,_,_⟩:=Km ha
  exact A6 (v':=ρ x) s (by rw[e2];simp[execOp,e2]) (Km ha)
 ·cases hr
theorem AE {P:Program} {w:World} {φ:Emb} {u:UnOp} {x r:SV} {v:Value} (hr:HL u x=some r) (hv:Bz φ x v) :
  ∃v',(Op.unary u v).run P w=.ok v' w∧Bz φ r v':=by
 unfold HL at hr
 split at hr
 ·next k n=>cases hr;cases hv;exact⟨_,by simp[Op.unary,Op.intArith],rfl⟩
 ·next k n=>cases hr;cases hv;exact⟨_,by simp[Op.unary,Op.intBits],rfl⟩
 ·next b=>cases hr;cases hv;exact⟨_,by simp[Op.unary],rfl⟩
 ·cases hr
theorem HU (P:Program) (u:UnOp) (t:TypeId) (x:Operand):Ok P (.unOp u t x):=by
 intro vop xs hc
 simp only[cOp,Sj,Pj,Bl.op.injEq] at hc
 obtain⟨rfl,rfl⟩:=hc
 intro o ho φ h nx w ρ args v h' hr s _ ha
 obtain⟨dst,op,type,pos,after,guard⟩:=o
 simp only at ho;subst ho
 simp only[VOp.run] at hr
 unfold rUn at hr
 split at hr
 ·next y=>
  unfold Dh at hr
  split at hr
  ·next r hu=>
   cases hr
   obtain⟨v',h1,h2⟩:=AE (P:=P) (w:=w) hu (Km ha)
   exact A6 (v':=v') s (by simp[execOp,h1]) h2
  ·cases hr
 ·cases hr
theorem xD {P:Program} {w:World} {φ:Emb} (b:BinOp) (t:TypeId) {k k':IntKind} {x y:Int} {r:SV}
  (hr:Ti b (.int k x) (.int k' y)=some r):∃v',(binOp b t (.int k x) (.int k' y)).run P w=.ok v' w∧Bz φ r v':=by
 simp only[Ti] at hr
 split at hr
 ·next hs=>
  unfold Zj at hr
  split at hr
  ·cases hr
  ·next hy=>
   split at hr
   ·cases hr;exact⟨_,by simp[binOp,Op.shift,hy],rfl⟩
   ·cases hr;exact⟨_,by simp[binOp,Op.shift,hy],rfl⟩
   ·cases hr
 ·next hs=>
  split at hr
  ·next hk=>
   subst hk
   unfold Nf at hr
   split at hr
   case h_4=>
    split at hr
    ·cases hr
    ·next hy=>cases hr;exact⟨_,by simp[binOp,Op.intDiv,hy],rfl⟩
   case h_5=>
    split at hr
    ·cases hr
    ·next hy=>cases hr;exact⟨_,by simp[binOp,Op.intDiv,hy],rfl⟩
   case h_16=>cases hr
   all_goals (cases hr;exact⟨_,by simp[binOp,Op.intArith,Op.intBits,Op.intCmp],rfl⟩)
  ·cases hr
def bs (l:List Nat):ByteArray:=⟨(l.map UInt8.ofNat).toArray⟩
theorem ofNat_toNat {n:Nat} (h:n<256):(UInt8.ofNat n).toNat=n:=by simp;omega
theorem ofNat_inj {a b:Nat} (ha:a<256) (hb:b<256) (e:UInt8.ofNat a=UInt8.ofNat b):a=b:=by
 have:=congrArg UInt8.toNat e
 rwa [ofNat_toNat ha,ofNat_toNat hb] at this
theorem Rv:∀{l m:List Nat},(∀n∈l,n<256)→(∀n∈m,n<256)→l.map UInt8.ofNat=m.map UInt8.ofNat→l=m
 |[],[],_,_,_=>rfl
 |[],_::_,_,_,e=>by simp at e
 |_::_,[],_,_,e=>by simp at e
 |a::l,b::m,hl,hm,e=>by
  simp only[List.map_cons,List.cons.injEq] at e
  rw[ofNat_inj (hl a (by simp)) (hm b (by simp)) e.1,Rv (fun n h=>hl n (by simp[h])) (fun n h=>hm n (by simp[h])) e.2]
theorem Ja (l:List Nat):(bs l).toList=l.map UInt8.ofNat:=by
 rw[ByteArray.toList_eq]
 rfl
end Go.Vm
end
section
noncomputable section
namespace Go.Vm
open Key (kn)
section
variable {P:Program} {w:World} {φ:Emb}
def Fk (P:Program) (φ:Emb) (t:TypeId) (xs:List SV) (v:Value):Prop:=
 (shapeOf P t=some none∧∃x,xs=[x]∧Bz φ x v)∨(∃n,shapeOf P t=some (some n)∧∃vs:List Value,v=.agg vs.toArray∧Aa (Bz φ) xs vs)
theorem I5 {t:TypeId} (h:shapeOf P t=some none):(isAgg t).run P w=.ok false w:=by
 unfold shapeOf at h
 cases hd:P.underlying t with
 |none=>simp[hd] at h
 |some d=>cases hi:P.info? t with
  |none=>cases d<;>simp[hd,hi] at h
  |some i=>cases d<;>simp[hd,hi] at h<;>simp[isAgg,run_underlying hd]
theorem I6 {t:TypeId} {n:Nat} (h:shapeOf P t=some (some n)):(isAgg t).run P w=.ok true w∧Cw P t=some n:=by
 unfold shapeOf at h
 split at h
 ·next fs i hd hi=>cases h;exact⟨by simp[isAgg,run_underlying hd],by simp[Cw,hi]⟩
 ·next n e i hd hi=>cases h;exact⟨by simp[isAgg,run_underlying hd],by simp[Cw,hi]⟩
 ·cases h
 ·cases h
theorem Il:∀{ks:List Ew} {xs ys:List SV} {r:Bool},Bi ks xs ys=some r→xs.length=ks.length∧ys.length=ks.length
 |[],[],[],_,_=>by simp
 |[],[],_::_,_,h=>by simp[Bi] at h
 |[],_::_,_,_,h=>by simp[Bi] at h
 |_::_,[],_,_,h=>by simp[Bi] at h
 |_::_,_::_,[],_,h=>by simp[Bi] at h
 |k::ks,x::xs,y::ys,r,h=>by
  simp only[Bi] at h
  split at h
  ·split at h
   ·next q hq=>have:=Il hq;simp[this]
   ·cases h
  ·cases h
theorem Lp:∀(l q:List Ew) {xs ys:List SV} {r:Bool},Bi (l++q) xs ys=some r →
  ∃r1 r2,Bi l (xs.take l.length) (ys.take l.length)=some r1∧Bi q (xs.drop l.length) (ys.drop l.length)=some r2∧r=(r1&&r2)
 |[],q,xs,ys,r,h=>⟨true,r,by simp[Bi],by simpa using h,by simp⟩
 |k::l,q,[],ys,r,h=>by simp[Bi] at h
 |k::l,q,x::xs,[],r,h=>by simp[Bi] at h
 |k::l,q,x::xs,y::ys,r,h=>by
  simp only[List.cons_append,Bi] at h
  split at h
  ·next r0 h0=>
   split at h
   ·next q0 hq=>
    cases h
    obtain⟨r1,r2,h1,h2,rfl⟩:=Lp l q hq
    exact⟨r0&&r1,r2,by simp[Bi,h0,h1],by simpa using h2,by cases r0<;>simp⟩
   ·cases h
  ·cases h
theorem uD {a b:List Nat} (ha:∀n∈a,n<256) (hb:∀n∈b,n<256):(a.map UInt8.ofNat==b.map UInt8.ofNat)=(a==b):=by
 by_cases h:a=b
 ·subst h;simp
 ·have:a.map UInt8.ofNat≠b.map UInt8.ofNat:=fun e=>h (Rv ha hb e)
  rw[beq_eq_false_iff_ne.2 this,beq_eq_false_iff_ne.2 h]
theorem xE {t:TypeId} {k:Ew} {x y:SV} {r:Bool} {vx vy:Value} (d:Nat) (ht:match k with|.bool=>P.underlying t=some .bool|.int=>∃i,P.underlying t=some (.int i)|.str=>P.underlying t=some .string)
  (h:Vi k x y=some r) (hx:Bz φ x vx) (hy:Bz φ y vy):(Op.equalIn (d+1) t vx vy).run P w=.ok r w:=by
 unfold Vi at h
 split at h
 ·cases h;cases hx;cases hy;exact run_equalIn_bool' w d t _ _ ht
 ·split at h
  ·next hk=>
   subst hk
   cases h;cases hx;cases hy
   obtain⟨i,hi⟩:=ht
   exact run_equalIn_int w d t _ i _ _ hi
  ·cases h
 ·cases h
  obtain⟨ha,rfl⟩:=hx
  obtain⟨hb,rfl⟩:=hy
  rw[run_equalIn_string w d t _ _ ht]
  rw[show(⟨(_:List UInt8).toArray⟩:ByteArray).toList=_ from ByteArray.toList_mk _,show(⟨(_:List UInt8).toArray⟩:ByteArray).toList=_ from ByteArray.toList_mk _]
  rw[uD ha hb]
 ·cases h
theorem RY {α:Type} (xs:List α) (i:Nat) (h:i<xs.length):(xs.drop i).take 1=[xs[i]]:=by
 have e:=List.drop_eq_getElem_cons h
 rw[e];rfl
theorem Qt {t:TypeId} {n off:Nat} {vs:List Value} {xs:List SV} (hs:(shapeOf P t).isSome) (hn:Cw P t=some n) (hv:Aa (Bz φ) xs vs) (hle:off+n≤xs.length) (h1:shapeOf P t=some none→n=1) :
  ∃v,(part t vs.toArray off).run P w=.ok v w∧Fk P φ t ((xs.drop off).take n) v:=by
 have hl:=Ah hv
 cases hsh:shapeOf P t with
 |none=>simp[hsh] at hs
 |some o=>cases o with
  |none=>
   have hn1:=h1 hsh
   subst hn1
   obtain⟨v,e1,e2⟩:=Ax hv off (a:=xs[off]) (by simp)
   refine⟨v,by simp[part,I5 hsh,e1],.inl ⟨hsh,xs[off],?_,e2⟩⟩
   exact RY xs off (by omega)
  |some m=>
   obtain⟨ha,hm⟩:=I6 (w:=w) hsh
   rw[hn] at hm;cases hm
   refine⟨.agg ((vs.drop off).take n).toArray,?_,.inr ⟨n,hsh,_,rfl,Ce _ (B3 _ hv)⟩⟩
   simp only[part,Sem.run_bind,ha,Result.andThen_ok,if_true,run_sizeOf hn,Sem.run_pure]
   congr 2
   apply Array.ext'
   simp
theorem Zz {lv:TypeId→Option (List Ew)} {D:Nat}
  (ih:∀(t:TypeId) (ks:List Ew),lv t=some ks→(shapeOf P t=some none→ks.length=1)∧∀(xs ys:List SV) (vx vy:Value) (r:Bool),Bi ks xs ys=some r→Fk P φ t xs vx→Fk P φ t ys vy→(Op.equalIn D t vx vy).run P w=.ok r w) :
  ∀(fs:List Field) (off:Nat) (q:List Ew),Nm P lv fs off=some q→∀(xs ys:List SV) (vx vy:List Value) (r:Bool),Aa (Bz φ) xs vx→Aa (Bz φ) ys vy →
   Bi q (xs.drop off) (ys.drop off)=some r→off≤xs.length→off≤ys.length→(Op.eqFields D vx.toArray vy.toArray fs).run P w=.ok r w
 |[],off,q,h,xs,ys,vx,vy,r,hx,hy,he,_,_=>by
  simp only[Nm,Sj] at h
  subst h
  have:=Il he
  have e1:xs.drop off=[]:=List.eq_nil_of_length_eq_zero this.1
  have e2:ys.drop off=[]:=List.eq_nil_of_length_eq_zero this.2
  rw[e1,e2] at he
  simp[Bi] at he
  subst he
  simp[Op.eqFields]
 |f::fs,off,q,h,xs,ys,vx,vy,r,hx,hy,he,ho1,ho2=>by
  simp only[Nm] at h
  split at h
  ·next hc=>
   obtain⟨hname,hoff,hsh⟩:=hc
   split at h
   ·next l hl=>
    split at h
    ·next hsz=>
     split at h
     ·next q' hq=>
      cases h
      obtain⟨r1,r2,e1,e2,rfl⟩:=Lp l q' he
      have hlen:=Il e1
      simp only[List.length_take,List.length_drop] at hlen
      obtain⟨hone,hih⟩:=ih f.type l hl
      have hl1:off+l.length≤xs.length:=by omega
      have hl2:off+l.length≤ys.length:=by omega
      obtain⟨a,ha,hca⟩:=Qt (w:=w) (off:=off) hsh hsz hx hl1 hone
      obtain⟨b,hb,hcb⟩:=Qt (w:=w) (off:=off) hsh hsz hy hl2 hone
      have heq:=hih _ _ a b r1 e1 hca hcb
      simp only[Op.eqFields,hname,ne_eq,not_false_eq_true,if_true,Sem.run_bind,hoff,ha,hb,Result.andThen_ok,heq]
      cases r1
      ·simp
      ·simp only[Bool.not_true,Fj,if_false,Bool.true_and]
       exact Zz ih fs (off+l.length) q' hq xs ys vx vy r2 hx hy (by rw[←List.drop_drop,←List.drop_drop];exact e2) hl1 hl2
     ·cases h
    ·cases h
   ·cases h
  ·cases h
theorem lR {t:TypeId} {D n:Nat} {l:List Ew} (hs:(shapeOf P t).isSome) (hn:Cw P t=some l.length)
  (h1:shapeOf P t=some none→l.length=1) (hih:∀(xs ys:List SV) (vx vy:Value) (r:Bool),Bi l xs ys=some r→Fk P φ t xs vx→Fk P φ t ys vy→(Op.equalIn D t vx vy).run P w=.ok r w)
  (xs ys:List SV) (vx vy:List Value) (hx:Aa (Bz φ) xs vx) (hy:Aa (Bz φ) ys vy) :
  ∀(m i:Nat) (r:Bool),i+m=n→Bi (lK l m) (xs.drop (i*l.length)) (ys.drop (i*l.length))=some r→i*l.length≤xs.length→i*l.length≤ys.length →
  (forIn (m:=Sem) (List.range' i m) ((none,()):Option Bool×Unit) (fun i _=>do
   let a←part t vx.toArray (i*l.length)
   let b←part t vy.toArray (i*l.length)
   let r←Op.equalIn D t a b
   if(!r)=true then pure (ForInStep.done (some false,())) else pure (ForInStep.yield (none,())))).run P w =
   .ok (if r then(none,()) else(some false,())) w
 |0,i,r,_,he,_,_=>by
  simp only[lK] at he
  have:=Il he
  have e1:xs.drop (i*l.length)=[]:=List.eq_nil_of_length_eq_zero this.1
  have e2:ys.drop (i*l.length)=[]:=List.eq_nil_of_length_eq_zero this.2
  rw[e1,e2] at he
  simp[Bi] at he
  subst he
  simp
 |m+1,i,r,hi,he,ho1,ho2=>by
  simp only[lK] at he
  obtain⟨r1,r2,e1,e2,rfl⟩:=Lp l _ he
  have hlen:=Il e1
  simp only[List.length_take,List.length_drop] at hlen
  have hl1:i*l.length+l.length≤xs.length:=by omega
  have hl2:i*l.length+l.length≤ys.length:=by omega
  obtain⟨a,ha,hca⟩:=Qt (w:=w) (off:=i*l.length) hs hn hx hl1 h1
  obtain⟨b,hb,hcb⟩:=Qt (w:=w) (off:=i*l.length) hs hn hy hl2 h1
  have heq:=hih _ _ a b r1 e1 hca hcb
  have hsucc:(i+1)*l.length=i*l.length+l.length:=by rw[Nat.add_mul,Nat.one_mul]
  simp only[List.range'_succ,List.forIn_cons,Sem.run_bind,ha,hb,Result.andThen_ok,heq]
  cases r1
  ·simp
  ·simp only[Bool.not_true,Fj,if_false,Sem.run_pure,Result.andThen_ok,Bool.true_and]
   exact lR (n:=n) hs hn h1 hih xs ys vx vy hx hy m (i+1) r2 (by omega) (by rw[hsucc,←List.drop_drop,←List.drop_drop];exact e2) (by rw[hsucc];exact hl1) (by rw[hsucc];exact hl2)
theorem Gf:∀(d:Nat) (t:TypeId) (ks:List Ew),leaves P d t=some ks→(shapeOf P t=some none→ks.length=1) ∧
  ∀(D:Nat),d≤D→∀(xs ys:List SV) (vx vy:Value) (r:Bool),Bi ks xs ys=some r→Fk P φ t xs vx→Fk P φ t ys vy→(Op.equalIn D t vx vy).run P w=.ok r w
 |0,t,ks,h=>by simp[leaves] at h
 |d+1,t,ks,h=>by
  have scalar:∀(k:Ew),(∀n,shapeOf P t≠some (some n))→(match k with|.bool=>P.underlying t=some .bool|.int=>∃i,P.underlying t=some (.int i)|.str=>P.underlying t=some .string)→ks=[k] →
    (shapeOf P t=some none→ks.length=1)∧∀(D:Nat),d+1≤D→∀(xs ys:List SV) (vx vy:Value) (r:Bool),Bi ks xs ys=some r→Fk P φ t xs vx→Fk P φ t ys vy→(Op.equalIn D t vx vy).run P w=.ok r w:=by
   rintro k hno ht rfl
   refine⟨fun _=>rfl,fun D hD xs ys vx vy r he hx hy=>?_⟩
   rcases hx with⟨_,x,rfl,hx⟩|⟨n,hn,_⟩
   ·rcases hy with⟨_,y,rfl,hy⟩|⟨n,hn,_⟩
    ·simp only[Bi] at he
     split at he
     ·next r0 h0=>
      simp at he;subst he
      obtain⟨D,rfl⟩:∃D',D=D'+1:=⟨D-1,by omega⟩
      exact xE D ht h0 hx hy
     ·cases he
    ·exact absurd hn (hno n)
   ·exact absurd hn (hno n)
  have noagg:(∀fs,P.underlying t≠some (.struct fs))→(∀n e,P.underlying t≠some (.array n e))→∀n,shapeOf P t≠some (some n):=fun h1 h2 n hn=>by
   unfold shapeOf at hn
   cases hd:P.underlying t with
   |none=>simp[hd] at hn
   |some dd=>cases hi:P.info? t with
    |none=>cases dd<;>simp[hd,hi] at hn
    |some i=>cases dd<;>simp[hd,hi] at hn<;>first|exact h1 _ hd|exact h2 _ _ hd
  simp only[leaves] at h
  split at h
  ·next hu=>cases h;exact scalar .bool (noagg (by simp[hu]) (by simp[hu])) hu rfl
  ·next i hu=>cases h;exact scalar .int (noagg (by simp[hu]) (by simp[hu])) ⟨i,hu⟩ rfl
  ·next hu=>cases h;exact scalar .str (noagg (by simp[hu]) (by simp[hu])) hu rfl
  ·next fs hu=>
   split at h
   ·cases h
   ·next hst=>
    have hsh:shapeOf P t≠some none:=fun e=>by
     unfold shapeOf at e
     cases hi:P.info? t<;>simp[hu,hi] at e
    refine⟨fun e=>absurd e hsh,fun D hD xs ys vx vy r he hx hy=>?_⟩
    rcases hx with⟨hn,_⟩|⟨n,_,vx,rfl,hx⟩
    ·exact absurd hn hsh
    ·rcases hy with⟨hn,_⟩|⟨n,_,vy,rfl,hy⟩
     ·exact absurd hn hsh
     ·obtain⟨D,rfl⟩:∃D',D=D'+1:=⟨D-1,by omega⟩
      have hf:P.fieldsOf t=fs:=by simp[Program.fieldsOf,hu]
      rw[run_equalIn_struct w D t _ _ (by rw[hf];exact hu) (by simpa using hst),hf]
      exact Zz (lv:=leaves P d) (D:=D) (fun t' ks' h'=>⟨(Gf d t' ks' h').1,(Gf d t' ks' h').2 D (by omega)⟩) fs.toList 0 ks h xs ys vx vy r hx hy (by simpa using he) (by omega) (by omega)
  ·next n e hu=>
   split at h
   ·next hc=>
    split at h
    ·next l hl=>
     split at h
     ·next hsz=>
      cases h
      have hsh:shapeOf P t≠some none:=fun e=>by
       unfold shapeOf at e
       cases hi:P.info? t<;>simp[hu,hi] at e
      refine⟨fun e=>absurd e hsh,fun D hD xs ys vx vy r he hx hy=>?_⟩
      rcases hx with⟨hn,_⟩|⟨_,_,vx,rfl,hx⟩
      ·exact absurd hn hsh
      ·rcases hy with⟨hn,_⟩|⟨_,_,vy,rfl,hy⟩
       ·exact absurd hn hsh
       ·obtain⟨D,rfl⟩:∃D',D=D'+1:=⟨D-1,by omega⟩
        obtain⟨hone,hih⟩:=Gf d e l hl
        have hloop:=lR (D:=D) (n:=n) hc.1 hsz hone (hih D (by omega)) xs ys vx vy hx hy n 0 r (by omega) (by simpa using he) (by omega) (by omega)
        simp only[Op.equalIn,Sem.run_bind,run_underlying hu,Result.andThen_ok,run_sizeOf hsz]
        rw[Std.Legacy.Range.forIn_eq_forIn_range']
        simp only[Std.Legacy.Range.size,Nat.sub_zero,Nat.add_one_sub_one,Nat.div_one]
        rw[hloop]
        cases r<;>simp
     ·cases h
    ·cases h
   ·cases h
  ·cases h
end
end Go.Vm
end
section
noncomputable section
namespace Go.Vm
open Key (kn)
theorem Ts (l:List Nat):(bs l).size=l.length:=by simp[bs,ByteArray.size]
theorem xF (a b:List Nat):bs a++bs b=bs (a++b):=by
 apply ByteArray.ext
 simp[bs,ByteArray.data_append]
theorem Z0:∀{a b:List Nat},(∀n∈a,n<256)→(∀n∈b,n<256)→Op.bytesLess (a.map UInt8.ofNat) (b.map UInt8.ofNat)=I0 a b
 |_,[],_,_=>by simp[Op.bytesLess,I0]
 |[],_::_,_,_=>by simp[Op.bytesLess,I0]
 |x::a,y::b,ha,hb=>by
  have hx:=ha x (by simp)
  have hy:=hb y (by simp)
  have ih:=Z0 (a:=a) (b:=b) (fun n h=>ha n (by simp[h])) (fun n h=>hb n (by simp[h]))
  simp only[List.map_cons,Op.bytesLess,I0,ih]
  have e1:decide (UInt8.ofNat x<UInt8.ofNat y)=Nat.blt x y:=by
   rw[Bool.eq_iff_iff]
   simp only[decide_eq_true_eq,UInt8.lt_iff_toNat_lt,ofNat_toNat hx,ofNat_toNat hy,Nat.blt_eq]
  have e2:(UInt8.ofNat x==UInt8.ofNat y)=Nat.beq x y:=by
   rw[Bool.eq_iff_iff,beq_iff_eq,Nat.beq_eq]
   exact⟨fun e=>ofNat_inj hx hy e,fun e=>by rw[e]⟩
  rw[e1,e2]
theorem xG {P:Program} {w:World} {φ:Emb} (b:BinOp) (t:TypeId) {x y:List Nat} {r:SV} (hx:∀n∈x,n<256) (hy:∀n∈y,n<256)
  (hr:gS b x y=some r):∃v',(binOp b t (.string (bs x)) (.string (bs y))).run P w=.ok v' w∧Bz φ r v':=by
 have eq:(x.map UInt8.ofNat==y.map UInt8.ofNat)=(x==y):=uD hx hy
 have lt:=Z0 hx hy
 unfold gS at hr
 split at hr
 ·split at hr
  ·next hl=>
   cases hr
   have hn:¬(9223372036854775807<((x.length:Int)+(y.length:Int))):=by omega
   refine⟨.string (bs (x++y)),?_,fun n hn=>?_,rfl⟩
   ·simp[binOp,Op.stringOp,Ts,xF,IntKind.max,IntKind.signed,IntKind.bits,hn]
   ·rcases List.mem_append.1 hn with h|h
    ·exact hx n h
    ·exact hy n h
  ·cases hr
 ·cases hr;exact⟨_,by simp[binOp,Op.stringOp,Ja,eq],rfl⟩
 ·cases hr;exact⟨_,by simp[binOp,Op.stringOp,Ja,eq],rfl⟩
 ·cases hr;exact⟨_,by simp[binOp,Op.stringOp,Ja,lt],rfl⟩
 ·cases hr;exact⟨_,by simp[binOp,Op.stringOp,Ja,lt,eq],rfl⟩
 ·cases hr;exact⟨_,by simp[binOp,Op.stringOp,Ja,lt,eq],rfl⟩
 ·cases hr;exact⟨_,by simp[binOp,Op.stringOp,Ja,lt],rfl⟩
 ·cases hr
theorem AF {P:Program} {w:World} {φ:Emb} (b:BinOp) (t:TypeId) (x y:Operand) {s1 s2 r:SV} {v1 v2:Value} (h1:Bz φ s1 v1) (h2:Bz φ s2 v2)
  (hr:Ti b s1 s2=some r):∃v',(do eqGuard b t x y v1 v2;binOp b t v1 v2).run P w=.ok v' w∧Bz φ r v':=by
 unfold Ti at hr
 split at hr
 ·next k a k' c=>
  cases h1;cases h2
  obtain⟨v',e1,e2⟩:=xD (P:=P) (w:=w) (φ:=φ) b t (k:=k) (k':=k') (x:=a) (y:=c) (r:=r) (by simpa[Ti] using hr)
  exact⟨v',by simp[lP,e1],e2⟩
 ·next a c=>
  obtain⟨ha,rfl⟩:=h1
  obtain⟨hc,rfl⟩:=h2
  obtain⟨v',e1,e2⟩:=xG (P:=P) (w:=w) (φ:=φ) b t ha hc hr
  exact⟨v',by simp only[Sem.run_bind,Zy,Result.andThen_ok];exact e1,e2⟩
 ·cases hr
theorem info_of_underlying {P:Program} {t:TypeId} {d:TypeDesc} (h:P.underlying t=some d):∃i,P.info? t=some i:=by
 unfold Program.underlying at h
 cases hi:P.info? t with
 |none=>simp[hi] at h
 |some i=>exact⟨i,rfl⟩
theorem lS {P:Program} {t:TypeId} {k:EqK} (hk:Zs P t=some k):match k with
  |.bool=>P.underlying t=some .bool
  |.ptr=>∃e,P.underlying t=some (.pointer e)
  |.slice=>∃e,P.underlying t=some (.slice e)
  |.map=>∃a b,P.underlying t=some (.map a b)
  |.func=>∃a b c,P.underlying t=some (.func a b c)
  |.agg ks=>P.eqGuardType P.depth t=false∧leaves P 20 t=some ks∧∃n,shapeOf P t=some (some n):=by
 unfold Zs at hk
 split at hk
 ·next hu=>cases hk;exact hu
 ·next e hu=>cases hk;exact⟨e,hu⟩
 ·next e hu=>cases hk;exact⟨e,hu⟩
 ·next a b hu=>cases hk;exact⟨a,b,hu⟩
 ·next a b c hu=>cases hk;exact⟨a,b,c,hu⟩
 ·next fs hu=>
  split at hk
  ·cases hk
  ·next hg=>
   obtain⟨i,hi⟩:=info_of_underlying hu
   cases hl:leaves P 20 t with
   |none=>simp[hl] at hk
   |some ks=>simp[hl] at hk;subst hk;exact⟨by simpa using hg,rfl,i.size,by simp[shapeOf,hu,hi]⟩
 ·next n e hu=>
  split at hk
  ·cases hk
  ·next hg=>
   obtain⟨i,hi⟩:=info_of_underlying hu
   cases hl:leaves P 20 t with
   |none=>simp[hl] at hk
   |some ks=>simp[hl] at hk;subst hk;exact⟨by simpa using hg,rfl,i.size,by simp[shapeOf,hu,hi]⟩
 ·cases hk
section
variable {P:Program} (w:World) (d:Nat) (t:TypeId)
theorem lT (e:TypeId) (hu:P.underlying t=some (.pointer e)) (b:Option Addr):(Op.equalIn (d+1) t (.pointer none) (.pointer b)).run P w=.ok b.isNone w:=by simp[Op.equalIn,run_underlying hu]
theorem xH (e:TypeId) (hu:P.underlying t=some (.pointer e)) (a:Addr):(Op.equalIn (d+1) t (.pointer (some a)) (.pointer none)).run P w=.ok false w:=by simp[Op.equalIn,run_underlying hu]
theorem Z4 (e:TypeId) (hu:P.underlying t=some (.slice e)) (b:Option Addr) (n m n' m':Nat):(Op.equalIn (d+1) t (.slice none n m) (.slice b n' m')).run P w=.ok b.isNone w:=by simp[Op.equalIn,run_underlying hu]
theorem lU (e:TypeId) (hu:P.underlying t=some (.slice e)) (a:Addr) (n m n' m':Nat):(Op.equalIn (d+1) t (.slice (some a) n m) (.slice none n' m')).run P w=.ok false w:=by simp[Op.equalIn,run_underlying hu]
theorem lV (e e':TypeId) (hu:P.underlying t=some (.map e e')) (b:Option Nat):(Op.equalIn (d+1) t (.map none) (.map b)).run P w=.ok b.isNone w:=by simp[Op.equalIn,run_underlying hu]
theorem xI (e e':TypeId) (hu:P.underlying t=some (.map e e')) (a:Nat):(Op.equalIn (d+1) t (.map (some a)) (.map none)).run P w=.ok false w:=by simp[Op.equalIn,run_underlying hu]
theorem xJ (e e':Array TypeId) (e'':Bool) (hu:P.underlying t=some (.func e e' e'')):(Op.equalIn (d+1) t .nilFunc .nilFunc).run P w=.ok true w:=by simp[Op.equalIn,run_underlying hu]
theorem qG (e e':Array TypeId) (e'':Bool) (hu:P.underlying t=some (.func e e' e'')) (f:Fn) (x y:Array Value):(Op.equalIn (d+1) t .nilFunc (.func f x y)).run P w=.ok false w:=by simp[Op.equalIn,run_underlying hu]
theorem lW (e e':Array TypeId) (e'':Bool) (hu:P.underlying t=some (.func e e' e'')) (f:Fn) (x y:Array Value):(Op.equalIn (d+1) t (.func f x y) .nilFunc).run P w=.ok false w:=by simp[Op.equalIn,run_underlying hu]
end
theorem HV {P:Program} {w:World} {φ:Emb} {t:TypeId} {k:EqK} (hk:Zs P t=some k) {x y:CV} {v1 v2:Value} {r neg:Bool} (h1:E3 φ x v1) (h2:E3 φ y v2) (b:BinOp) (hb:(b=.eql∧neg=false)∨(b=.neq∧neg=true)) (p q:Operand)
  (hr:HK k x y=some r):(do eqGuard b t p q v1 v2;binOp b t v1 v2).run P w=.ok (.bool (r !=neg)) w:=by
 have spec:=lS hk
 unfold HK at hr
 split at hr
 case h_1 a c=>
  cases hr;cases h1;cases h2
  rcases hb with⟨rfl,rfl⟩|⟨rfl,rfl⟩<;>simp[eqGuard,binOp,Op.equal,Op.maxDepth,run_equalIn_bool' w _ t a c spec]
 case h_2=>
  cases hr;cases h1;cases h2;obtain⟨e,hu⟩:=spec
  rcases hb with⟨rfl,rfl⟩|⟨rfl,rfl⟩<;>simp[eqGuard,binOp,Op.equal,Op.maxDepth,lT w _ t e hu]
 case h_3=>
  cases hr;cases h1;obtain⟨l,_,rfl⟩:=h2;obtain⟨e,hu⟩:=spec
  rcases hb with⟨rfl,rfl⟩|⟨rfl,rfl⟩<;>simp[eqGuard,binOp,Op.equal,Op.maxDepth,lT w _ t e hu]
 case h_4=>
  cases hr;cases h2;obtain⟨l,_,rfl⟩:=h1;obtain⟨e,hu⟩:=spec
  rcases hb with⟨rfl,rfl⟩|⟨rfl,rfl⟩<;>simp[eqGuard,binOp,Op.equal,Op.maxDepth,xH w _ t e hu]
 case h_5=>
  cases hr;cases h1;cases h2;obtain⟨e,hu⟩:=spec
  rcases hb with⟨rfl,rfl⟩|⟨rfl,rfl⟩<;>simp[eqGuard,binOp,Op.equal,Op.maxDepth,Z4 w _ t e hu]
 case h_6=>
  cases hr;cases h1;obtain⟨a,c,rfl,_⟩:=h2;obtain⟨e,hu⟩:=spec
  rcases hb with⟨rfl,rfl⟩|⟨rfl,rfl⟩<;>simp[eqGuard,binOp,Op.equal,Op.maxDepth,Z4 w _ t e hu]
 case h_7=>
  cases hr;cases h2;obtain⟨a,c,rfl,_⟩:=h1;obtain⟨e,hu⟩:=spec
  rcases hb with⟨rfl,rfl⟩|⟨rfl,rfl⟩<;>simp[eqGuard,binOp,Op.equal,Op.maxDepth,lU w _ t e hu]
 case h_8=>
  cases hr;cases h1;cases h2;obtain⟨e,e',hu⟩:=spec
  rcases hb with⟨rfl,rfl⟩|⟨rfl,rfl⟩<;>simp[eqGuard,binOp,Op.equal,Op.maxDepth,lV w _ t e e' hu]
 case h_9=>
  cases hr;cases h1;obtain⟨l,_,rfl⟩:=h2;obtain⟨e,e',hu⟩:=spec
  rcases hb with⟨rfl,rfl⟩|⟨rfl,rfl⟩<;>simp[eqGuard,binOp,Op.equal,Op.maxDepth,lV w _ t e e' hu]
 case h_10=>
  cases hr;cases h2;obtain⟨l,_,rfl⟩:=h1;obtain⟨e,e',hu⟩:=spec
  rcases hb with⟨rfl,rfl⟩|⟨rfl,rfl⟩<;>simp[eqGuard,binOp,Op.equal,Op.maxDepth,xI w _ t e e' hu]
 case h_11=>
  cases hr;cases h1;cases h2;obtain⟨e,e',e'',hu⟩:=spec
  rcases hb with⟨rfl,rfl⟩|⟨rfl,rfl⟩<;>simp[eqGuard,binOp,Op.equal,Op.maxDepth,xJ w _ t e e' e'' hu]
 case h_12=>
  cases hr;cases h1;obtain⟨vs,us,rfl,_⟩:=h2;obtain⟨e,e',e'',hu⟩:=spec
  rcases hb with⟨rfl,rfl⟩|⟨rfl,rfl⟩<;>simp[eqGuard,binOp,Op.equal,Op.maxDepth,qG w _ t e e' e'' hu]
 case h_13=>
  cases hr;cases h2;obtain⟨vs,us,rfl,_⟩:=h1;obtain⟨e,e',e'',hu⟩:=spec
  rcases hb with⟨rfl,rfl⟩|⟨rfl,rfl⟩<;>simp[eqGuard,binOp,Op.equal,Op.maxDepth,lW w _ t e e' e'' hu]
 case h_14 ks xs ys=>
  obtain⟨hg,hl,n,hn⟩:=spec
  obtain⟨vx,rfl,hx⟩:=h1
  obtain⟨vy,rfl,hy⟩:=h2
  have he:=(Gf (P:=P) (w:=w) (φ:=φ) 20 t ks hl).2 10000 (by omega) xs ys (.agg vx.toArray) (.agg vy.toArray) r hr (.inr ⟨n,hn,vx,rfl,hx⟩) (.inr ⟨n,hn,vy,rfl,hy⟩)
  rcases hb with⟨rfl,rfl⟩|⟨rfl,rfl⟩<;>simp[run_eqGuard_agg w _ t p q _ _ hg,binOp,Op.equal,Op.maxDepth,he]
 case h_15=>cases hr
theorem lX {P:Program} (b:BinOp) (t:TypeId) (x y:Operand) (yt:TypeId):Sr P (.binOp b t x y yt) (.bin b) [x,y]:=by
 intro o ho φ h nx w ρ args v h' hr s _ ha
 obtain⟨dst,op,type,pos,after,guard⟩:=o
 simp only at ho;subst ho
 simp only[VOp.run] at hr
 unfold zX at hr
 split at hr
 ·next s1 s2=>
  unfold Dh at hr
  split at hr
  ·next r hbin=>
   cases hr
   obtain⟨h1,h2⟩:=Zx ha
   obtain⟨v',e1,e2⟩:=AF (P:=P) (w:=w) b t x y h1 h2 hbin
   refine A6 (v':=v') s ?_ e2
   simp only[execOp,Sem.run_bind] at e1 ⊢
   rw[e1];rfl
  ·cases hr
 ·cases hr
theorem uE {P:Program} (b:BinOp) (neg:Bool) (hb:(b=.eql∧neg=false)∨(b=.neq∧neg=true)) (t:TypeId) (x y:Operand) (yt:TypeId) {k:EqK} (hk:Zs P t=some k):Sr P (.binOp b t x y yt) (.eq neg k) [x,y]:=by
 intro o ho φ h nx w ρ args v h' hr s _ ha
 obtain⟨dst,op,type,pos,after,guard⟩:=o
 simp only at ho;subst ho
 simp only[VOp.run] at hr
 unfold rEq at hr
 split at hr
 ·next c1 c2=>
  split at hr
  ·next r he=>
   cases hr
   obtain⟨h1,h2⟩:=Zx ha
   have e1:=HV (P:=P) (w:=w) hk h1 h2 b hb x y he
   refine A6 (v':=.bool (r !=neg)) s ?_ rfl
   simp only[execOp,Sem.run_bind] at e1 ⊢
   rw[e1];rfl
  ·cases hr
 ·cases hr
theorem AG (P:Program) (b:BinOp) (t:TypeId) (x y:Operand) (yt:TypeId):Ok P (.binOp b t x y yt):=by
 intro vop xs hc
 simp only[cOp] at hc
 split at hc
 ·cases hc;exact lX b t x y yt
 ·cases hc;exact lX b t x y yt
 ·split at hc
  ·next k hk=>cases hc;exact uE _ _ (.inl ⟨rfl,rfl⟩) t x y yt hk
  ·next k hk=>cases hc;exact uE _ _ (.inr ⟨rfl,rfl⟩) t x y yt hk
  ·cases hc
theorem xK {P:Program} (s0 d:TypeId) (x:Operand) {k j:IntKind} (hs0:P.underlying s0=some (.int j)) (hd:P.underlying d=some (.int k)):Sr P (.convert s0 d x) (.conv k) [x]:=by
 intro o ho φ h nx w ρ args v h' hr s _ ha
 obtain⟨dst,op,type,pos,after,guard⟩:=o
 simp only at ho;subst ho
 simp only[VOp.run] at hr
 unfold tT at hr
 split at hr
 ·next k' n=>
  cases hr
  have e1:ρ x=.int k' n:=Km ha
  exact A6 (v':=.int k (k.wrap n)) s (by simp[execOp,e1,convert,run_underlying hs0,run_underlying hd,Conv.intToInt]) rfl
 ·cases hr
theorem eQ {P:Program} {w:World} {φ:Emb} {t:TypeId} {s:Option Nat} (hs:shapeOf P t=some s) {cs:List SV} {vs:List Value} (hv:Aa (Bz φ) cs vs) {o:Nat} {c:CV} (hp:Sk cs o s=some c) :
  ∃v',(part t vs.toArray o).run P w=.ok v' w∧E3 φ c v':=by
 unfold Sk at hp
 split at hp
 ·split at hp
  ·next x hx=>
   cases hp
   obtain⟨v,h1,h2⟩:=Ax hv o hx
   exact⟨v,by simp[part,I5 hs,h1],h2⟩
  ·cases hp
 ·next n=>
  split at hp
  ·next hle=>
   cases hp
   obtain⟨h1,h2⟩:=I6 (w:=w) hs
   refine⟨.agg ((vs.drop o).take n).toArray,?_,_,rfl,Ce _ (B3 _ hv)⟩
   simp only[part,Sem.run_bind,h1,Result.andThen_ok,if_true,run_sizeOf h2,Sem.run_pure]
   congr 2
   apply Array.ext'
   simp
  ·cases hp
theorem AH (P:Program) (t:TypeId) (x:Operand) (f:Nat):Ok P (.field t x f):=by
 intro vop xs hc
 simp only[cOp] at hc
 split at hc
 ·next fs hu=>
  split at hc
  ·next fd hf=>
   split at hc
   ·next sh hsh=>
    cases hc
    intro o ho φ h nx w ρ args v h' hr s _ ha
    obtain⟨dst,op,type,pos,after,guard⟩:=o
    simp only at ho;subst ho
    simp only[VOp.run] at hr
    unfold Zn at hr
    split at hr
    ·next cs=>
     unfold Ir at hr
     split at hr
     ·next c hp=>
      cases hr
      obtain⟨vs,e1,hv⟩:=Km ha
      obtain⟨v',e2,e3⟩:=eQ (P:=P) (w:=w) hsh hv hp
      exact A6 (v':=v') s (by simp[execOp,Instr.field,run_underlying hu,hf,e1,asAgg,e2]) e3
     ·cases hr
    ·cases hr
   ·cases hc
  ·cases hc
 ·cases hc
theorem hS (P:Program) (t:TypeId) (x:Operand) (f:Nat):Ok P (.fieldAddr t x f):=by
 intro vop xs hc
 simp only[cOp] at hc
 split at hc
 ·next fs hu=>
  split at hc
  ·next fd hf=>
   split at hc
   ·next n hn=>
    split at hc
    ·cases hc
    ·next hn0=>
     cases hc
     intro o ho φ h nx w ρ args v h' hr s _ ha
     obtain⟨dst,op,type,pos,after,guard⟩:=o
     simp only at ho;subst ho
     simp only[VOp.run] at hr
     unfold gT at hr
     split at hr
     ·next b o'=>
      cases hr
      obtain⟨l,e1,e2⟩:=Km ha
      refine A6 (v':=.pointer (some ⟨l.blk,o'+fd.offset+l.off,none⟩)) s ?_ ⟨l,e1,rfl⟩
      simp[execOp,Instr.fieldAt,run_underlying hu,hf,e2,Instr.sureAddr,fieldPlace,run_sizeOf hn,hn0,E4,show o'+l.off+fd.offset=o'+fd.offset+l.off from by omega]
     ·cases hr
   ·cases hc
  ·cases hc
 ·cases hc
theorem hY (P:Program) (t:TypeId) (x i:Operand):Ok P (.indexAddr t x i):=by
 intro vop xs hc
 simp only[cOp] at hc
 split at hc
 ·next n e hu=>
  cases hk:Cw P e with
  |none=>simp[hk] at hc
  |some k=>
   simp only[hk,Option.map_some,Sj,Pj,Bl.op.injEq] at hc
   obtain⟨rfl,rfl⟩:=hc
   intro o ho φ h nx w ρ args v h' hr s _ ha
   obtain⟨dst,op,type,pos,after,guard⟩:=o
   simp only at ho;subst ho
   simp only[VOp.run] at hr
   unfold Zo at hr
   split at hr
   ·next b o' k' j=>
    split at hr
    ·next hj=>
     cases hr
     obtain⟨h1,h2⟩:=Zx ha
     obtain⟨l,e1,e2⟩:=h1
     have e3:ρ i=.int k' j:=h2
     refine A6 (v':=.pointer (some ⟨l.blk,o'+j.toNat*k+l.off,none⟩)) s ?_ ⟨l,e1,rfl⟩
     simp[execOp,Instr.indexAt,run_underlying hu,e2,e3,asIntOf,Instr.sureAddr,hj.1,hj.2,run_sizeOf hk,E4,show o'+l.off+j.toNat*k=o'+j.toNat*k+l.off from by omega]
    ·cases hr
   ·cases hr
 ·next e hu=>
  cases hk:Cw P e with
  |none=>simp[hk] at hc
  |some k=>
   simp only[hk,Option.map_some,Sj,Pj,Bl.op.injEq] at hc
   obtain⟨rfl,rfl⟩:=hc
   intro o ho φ h nx w ρ args v h' hr s _ ha
   obtain⟨dst,op,type,pos,after,guard⟩:=o
   simp only at ho;subst ho
   simp only[VOp.run] at hr
   unfold qA at hr
   split at hr
   ·next b o' len es' cap k' j=>
    split at hr
    ·next hj=>
     cases hr
     obtain⟨h1,h2⟩:=Zx ha
     obtain⟨a,c,e2,hlc,_,hloc⟩:=h1
     have e3:ρ i=.int k' j:=h2
     have hc0:c≠0:=by omega
     obtain⟨l,e1,rfl,_⟩:=hloc.resolve_left hc0
     refine A6 (v':=.pointer (some ⟨l.blk,o'+j.toNat*k+l.off,none⟩)) s ?_ ⟨l,e1,rfl⟩
     simp[execOp,Instr.indexAt,run_underlying hu,e2,e3,asIntOf,hj.2.1,hj.2.2,run_sizeOf hk,E4,show o'+l.off+j.toNat*k=o'+j.toNat*k+l.off from by omega]
    ·cases hr
   ·cases hr
 ·cases hc
theorem AI (P:Program) (t:TypeId) (x i:Operand):Ok P (.index t x i):=by
 intro vop xs hc
 simp only[cOp] at hc
 split at hc
 ·next n e hu=>
  split at hc
  ·next k sh hk hsh=>
   cases hc
   intro o ho φ h nx w ρ args v h' hr s _ ha
   obtain⟨dst,op,type,pos,after,guard⟩:=o
   simp only at ho;subst ho
   simp only[VOp.run] at hr
   unfold wY at hr
   split at hr
   ·next cs k' j=>
    split at hr
    ·next hj=>
     unfold Ir at hr
     split at hr
     ·next c hp=>
      cases hr
      obtain⟨h1,h2⟩:=Zx ha
      obtain⟨vs,e1,hv⟩:=h1
      have e3:ρ i=.int k' j:=h2
      obtain⟨v',e4,e5⟩:=eQ (P:=P) (w:=w) hsh hv hp
      exact A6 (v':=v') s (by simp[execOp,Instr.index,run_underlying hu,e1,e3,asIntOf,hj.1,hj.2,run_sizeOf hk,e4]) e5
     ·cases hr
    ·cases hr
   ·cases hr
  ·cases hc
 ·next hu=>
  cases hc
  intro o ho φ h nx w ρ args v h' hr s _ ha
  obtain⟨dst,op,type,pos,after,guard⟩:=o
  simp only at ho;subst ho
  simp only[VOp.run] at hr
  unfold eJ at hr
  split at hr
  ·next sl k' j=>
   split at hr
   ·next hj=>
    split at hr
    ·next n hn=>
     cases hr
     obtain⟨h1,h2⟩:=Zx ha
     obtain⟨hlt,e1⟩:=h1
     have e3:ρ i=.int k' j:=h2
     have hlen:j.toNat<sl.length:=(Gi.1 hn).1
     have hmem:n∈sl:=List.mem_of_getElem? hn
     have hget:(⟨(sl.map UInt8.ofNat).toArray⟩:ByteArray)[j.toNat]?=some (UInt8.ofNat n):=by
      have hsz:j.toNat<(⟨(sl.map UInt8.ofNat).toArray⟩:ByteArray).size:=by rw[show(⟨(sl.map UInt8.ofNat).toArray⟩:ByteArray).size=sl.length from Ts sl];exact hlen
      rw[getElem?_pos (⟨(sl.map UInt8.ofNat).toArray⟩:ByteArray) j.toNat hsz]
      congr 1
      show(sl.map UInt8.ofNat).toArray[j.toNat]=_
      simp[(Gi.1 hn).2]
     refine A6 (v':=.int .u8 (n:Nat)) s ?_ rfl
     simp[execOp,Instr.index,run_underlying hu,e1,e3,asIntOf,hj,hget]
     have:=hlt n hmem
     omega
    ·cases hr
   ·cases hr
  ·cases hr
 ·cases hc
theorem qH (P:Program) (t:Operand) (i:Nat):Ok P (.extract t i):=by
 intro vop xs hc
 simp only[cOp,Sj,Pj,Bl.op.injEq] at hc
 obtain⟨rfl,rfl⟩:=hc
 intro o ho φ h nx w ρ args v h' hr s _ ha
 obtain⟨dst,op,type,pos,after,guard⟩:=o
 simp only at ho;subst ho
 simp only[VOp.run] at hr
 unfold O4 at hr
 split at hr
 ·next xs=>
  unfold Ir at hr
  split at hr
  ·next c hp=>
   cases hr
   obtain⟨vs,e1,hv⟩:=Km ha
   obtain⟨v',e2,e3⟩:=Ax hv i hp
   exact A6 (v':=v') s (by simp[execOp,Instr.extract,e1,e2]) e3
  ·cases hr
 ·cases hr
def Jv:Option Value→Option Int→Prop
 |none,none=>True
 |some v,some n=>∃k,v=.int k n
 |_,_=>False
theorem Vs {φ:Emb} {ρ:Operand→Value} (o:Option Operand) {xs ys:List AV} {a:Option Int} {rest:List Value} (h:Sl o.isSome xs=some (a,ys))
  (ha:Aa (Cp φ) xs (o.toList.map ρ++rest)):Jv (o.map ρ) a∧Aa (Cp φ) ys rest:=by
 cases o with
 |none=>simp only[Option.isSome,Sl,Sj,Pj] at h;obtain⟨rfl,rfl⟩:=h;exact⟨trivial,ha⟩
 |some x=>
  simp only[Option.isSome] at h
  unfold Sl at h
  split at h
  ·next e=>cases e
  ·next e=>cases h;cases ha with
   |cons h t=>exact⟨⟨_,h⟩,t⟩
  ·cases h
theorem qI {φ:Emb} {ρ:Operand→Value} (lo hi mx:Option Operand) {xs:List AV} {bs:Option Int×Option Int×Option Int} (h:Tj lo.isSome hi.isSome mx.isSome xs=some bs)
  (ha:Aa (Cp φ) xs ((lo.toList++(hi.toList++mx.toList)).map ρ)):Jv (lo.map ρ) bs.1∧Jv (hi.map ρ) bs.2.1∧Jv (mx.map ρ) bs.2.2:=by
 simp only[List.map_append] at ha
 unfold Tj at h
 split at h
 ·next a xs1 e1=>
  obtain⟨h1,ha⟩:=Vs lo e1 ha
  split at h
  ·next b xs2 e2=>
   obtain⟨h2,ha⟩:=Vs hi e2 ha
   split at h
   ·next c e3=>
    cases h
    obtain⟨h3,_⟩:=Vs (rest:=[]) mx e3 (by simpa using ha)
    exact⟨h1,h2,h3⟩
   ·cases h
  ·cases h
 ·cases h
section
variable {P:Program} {w:World}
theorem dW {k:IntKind} {i:Int} {y:Nat} (code:BoundsCode) (h:0≤i∧i≤(y:Int)):(Instr.sliceBound (.int k i) y code).run P w=.ok i.toNat w:=by
 simp[Instr.sliceBound,asIntOf,h.1,h.2]
theorem Z5 {o:Option Value} {x:Option Int} {top d n y:Nat} (h:Jv o x) (e:bnd x top d=some n) (hy:top≤y) :
  (o=none∧n=d)∨(∃v,o=some v∧(∀code,(Instr.sliceBound v y code).run P w=.ok n w)∧n≤top):=by
 unfold bnd at e
 split at e
 ·cases e
  cases o with
  |none=>exact .inl ⟨rfl,rfl⟩
  |some v=>exact h.elim
 ·next v=>
  split at e
  ·next hv=>
   cases e
   cases o with
   |none=>exact h.elim
   |some u=>obtain⟨k,rfl⟩:=h;exact .inr ⟨_,rfl,fun code=>dW code ⟨hv.1,by omega⟩,by omega⟩
  ·cases e
theorem Vt {len C:Nat} {cap:Option Nat} {lo hi mx:Option Value} {bs:Option Int×Option Int×Option Int} {l n:Nat} {c':Option Nat} (isSlice:Bool) (hcap:∀k,cap=some k→C=k) (hlen:len≤C)
  (h1:Jv lo bs.1) (h2:Jv hi bs.2.1) (h3:Jv mx bs.2.2) (hb:bounds len cap bs=some (l,n,c')) (h4:mx.isSome=true→hi.isSome=true) :
  ∃h m,(Instr.sliceBounds isSlice len C lo hi mx).run P w=.ok (l,h,m) w∧h-l=n∧l≤h∧h≤m∧m≤C∧(∀k,c'=some k→m-l=k)∧(c'=none→cap=none∧m=C):=by
 unfold bounds at hb
 split at hb
 ·cases hb
 ·next m hm=>
  split at hb
  ·cases hb
  ·next h hh=>
   split at hb
   ·cases hb
   ·next l' hl=>
    cases hb
    have htop:cap.getD len≤C:=by
     cases cap with
     |none=>exact hlen
     |some k=>rw[hcap k rfl];exact Rl
    rcases Z5 (P:=P) (w:=w) (y:=C) h3 hm htop with⟨rfl,rfl⟩|⟨v,rfl,hv,hmt⟩
    ·have hnone:bs.2.2=none:=by
      cases hx:bs.2.2 with
      |none=>rfl
      |some q=>rw[hx] at h3;exact h3.elim
     have hhx:=Z5 (P:=P) (w:=w) (y:=C) h2 hh htop
     have hle:h≤C:=by
      rcases hhx with⟨_,rfl⟩|⟨_,_,_,h5⟩
      ·exact hlen
      ·omega
     have hlx:=Z5 (P:=P) (w:=w) (y:=h) h1 hl (Rl)
     have hll:l≤h:=by
      rcases hlx with⟨_,rfl⟩|⟨_,_,_,h5⟩
      ·exact Zl
      ·exact h5
     refine⟨h,C,?_,rfl,hll,hle,Rl,fun k hk=>?_,fun hk=>?_⟩
     ·rcases hhx with⟨rfl,rfl⟩|⟨v2,rfl,hv2,_⟩<;>rcases hlx with⟨rfl,rfl⟩|⟨v3,rfl,hv3,_⟩<;>simp[Instr.sliceBounds, *]
     ·rw[hnone] at hk
      simp only[Option.isSome_none,Bool.false_or] at hk
      split at hk
      ·next hs=>
       cases hk
       obtain⟨q,rfl⟩:=Option.isSome_iff_exists.1 hs
       rw[hcap q rfl];rfl
      ·cases hk
     ·rw[hnone] at hk
      simp only[Option.isSome_none,Bool.false_or] at hk
      split at hk
      ·cases hk
      ·next hs=>exact⟨by cases cap<;>simp_all,rfl⟩
    ·have hhi:=h4 rfl
     have hsome:bs.2.2.isSome=true:=by
      cases hx:bs.2.2 with
      |none=>rw[hx] at h3;exact h3.elim
      |some q=>rfl
     rcases Z5 (P:=P) (w:=w) (y:=m) h2 hh (Rl) with⟨rfl,_⟩|⟨v2,rfl,hv2,hle⟩
     ·cases hhi
     ·have hlx:=Z5 (P:=P) (w:=w) (y:=h) h1 hl (Rl)
      have hll:l≤h:=by
       rcases hlx with⟨_,rfl⟩|⟨_,_,_,h5⟩
       ·exact Zl
       ·exact h5
      refine⟨h,m,?_,rfl,hll,hle,by omega,fun k hk=>?_,fun hk=>?_⟩
      ·rcases hlx with⟨rfl,rfl⟩|⟨v3,rfl,hv3,_⟩<;>simp[Instr.sliceBounds, *]
      ·simp[hsome] at hk;exact hk
      ·simp[hsome] at hk
end
theorem Z6 {φ:Emb} {es:Nat} {x r:SV} {bs:Option Int×Option Int×Option Int} (hr:I3 es x bs=some r) {P:Program} {w:World} {lo hi mx:Option Value} {a:Option Addr} {len C:Nat}
  (hx:Bz φ x (.slice a len C)) (h1:Jv lo bs.1) (h2:Jv hi bs.2.1) (h3:Jv mx bs.2.2) (h4:mx.isSome=true→hi.isSome=true) (isSlice:Bool) :
  ∃l h m,(Instr.sliceBounds isSlice len C lo hi mx).run P w=.ok (l,h,m) w∧Bz φ r (.slice (if m=l then a else a.map (·.add (l*es))) (h-l) (m-l)):=by
 unfold I3 at hr
 split at hr
 ·split at hr
  ·next v hb=>
   cases hr
   obtain⟨l,n,c'⟩:=v
   cases hx
   obtain⟨h,m,e1,e2,e3,e4,e5,_,_⟩:=Vt (P:=P) (w:=w) (C:=0) isSlice (by simp) (Rl) h1 h2 h3 hb h4
   refine⟨l,h,m,e1,?_⟩
   have:m=l:=by omega
   subst this
   simp only[if_true]
   show Value.slice none (h-m) (m-m)=.slice none 0 0
   rw[show h-m=0 from by omega,show m-m=0 from by omega]
  ·cases hr
 ·next b o len' es' cap=>
  split at hr
  ·next hes=>
   subst hes
   split at hr
   ·next l n c hb=>
    cases hr
    obtain⟨a',c0,e0,hlc,hcap,hloc⟩:=hx
    cases e0
    obtain⟨h,m,e1,e2,e3,e4,e5,e6,e7⟩:=Vt (P:=P) (w:=w) (cap:=cap) isSlice hcap hlc h1 h2 h3 hb h4
    refine⟨l,h,m,e1,if m=l then a' else a'.add (l*es),m-l,?_,by omega,e6,?_⟩
    ·rw[e2];split<;>simp
    ·by_cases hml:m=l
     ·exact .inl (by omega)
     ·obtain⟨lc,f1,f2,f3⟩:=hloc.resolve_left (by omega)
      refine .inr ⟨lc,f1,?_,fun hc=>?_⟩
      ·simp only[hml,if_false]
       rw[f2,E4]
       rw[show o+lc.off+l*es=o+l*es+lc.off from by omega]
      ·obtain⟨g1,g2⟩:=e7 hc
       have:=f3 g1
       subst g2
       rw[←this,Nat.sub_mul]
       have:l*es≤m*es:=Nat.mul_le_mul_right _ (by omega)
       omega
   ·cases hr
  ·cases hr
 ·cases hr
theorem Z7 (sl:List Nat) (l h:Nat):(bs sl).extract l h=bs ((sl.drop l).take (h-l)):=by
 apply ByteArray.ext
 rw[ByteArray.data_extract]
 apply Array.ext'
 simp[bs,List.map_take,List.map_drop]
theorem Ss {P:Program} (t:TypeId) (x:Operand) (lo hi mx:Option Operand) (k:SlK) (hm:(mx.isSome&&hi.isNone)=false)
  (hk:match k with|.str=>P.underlying t=some .string|.slice es=>∃e,P.underlying t=some (.slice e)∧Cw P e=some es|.arr n es=>∃e,P.underlying t=some (.array n e)∧Cw P e=some es) :
  Sr P (.slice t x lo hi mx) (.slice k lo.isSome hi.isSome mx.isSome) (x::(lo.toList++(hi.toList++mx.toList))):=by
 intro o ho φ h nx w ρ args v h' hr s _ ha
 obtain⟨dst,op,type,pos,after,guard⟩:=o
 simp only at ho;subst ho
 simp only[VOp.run] at hr
 unfold Li at hr
 have h4:(mx.map ρ).isSome=true→(hi.map ρ).isSome=true:=by
  intro h5
  simp only[Option.isSome_map] at h5 ⊢
  cases hi with
  |none=>simp[h5] at hm
  |some _=>rfl
 split at hr
 ·next x0 xs0=>
  split at hr
  ·next bs hbs=>
   cases ha with
   |cons hx ha=>
   obtain⟨h1,h2,h3⟩:=qI lo hi mx hbs ha
   split at hr
   ·next sl=>
    split at hr
    ·cases hr
    ·next hmx=>
     split at hr
     ·next l n c hb=>
      cases hr
      obtain⟨hlt,e0⟩:=hx
      have e0:ρ x=.string (Go.Vm.bs sl):=e0
      have hmn:mx=none:=by cases mx<;>simp_all
      subst hmn
      obtain⟨h,m,e1,e2,e3,e4,e5,_,_⟩:=Vt (P:=P) (w:=w) (C:=sl.length) false (by intro k hk;cases hk;rfl) (Rl) h1 h2 h3 hb h4
      refine A6 (v':=.string ((Go.Vm.bs sl).extract l h)) s ?_ ⟨fun q hq=>hlt q ?_,?_⟩
      ·simp only[Option.map_none] at e1
       simp[execOp,Instr.sliceAt,Instr.slice,run_underlying hk,e0,Ts,e1]
      ·exact List.mem_of_mem_drop (List.mem_of_mem_take hq)
      ·rw[Z7,e2];rfl
     ·cases hr
   ·next es sv=>
    unfold Dh at hr
    split at hr
    ·next r hs=>
     cases hr
     obtain⟨e,hu,hes⟩:=hk
     have hx:Bz φ sv (ρ x):=hx
     obtain⟨a,len,C,e0⟩:∃a len C,ρ x=.slice a len C:=by
      unfold I3 at hs
      split at hs
      ·exact⟨_,_,_,hx⟩
      ·obtain⟨a,c,e,_⟩:=hx;exact⟨_,_,_,e⟩
      ·cases hs
     rw[e0] at hx
     obtain⟨l,h,m,e1,e2⟩:=Z6 (P:=P) (w:=w) hs hx h1 h2 h3 h4 true
     exact A6 (v':=.slice (if m=l then a else a.map (·.add (l*es))) (h-l) (m-l)) s (by simp[execOp,Instr.sliceAt,Instr.slice,run_underlying hu,e0,e1,run_sizeOf hes]) e2
    ·cases hr
   ·next n es b o'=>
    unfold Dh at hr
    split at hr
    ·next r hs=>
     cases hr
     obtain⟨e,hu,hes⟩:=hk
     obtain⟨lc,f1,f2⟩:=hx
     have hx:Bz φ (.slice b o' n es (some n)) (.slice (some ⟨lc.blk,o'+lc.off,none⟩) n n):=⟨_,n,rfl,Rl,by simp,.inr ⟨lc,f1,rfl,by simp⟩⟩
     obtain⟨l,h,m,e1,e2⟩:=Z6 (P:=P) (w:=w) hs hx h1 h2 h3 h4 false
     refine A6 (v':=.slice (if m=l then some ⟨lc.blk,o'+lc.off,none⟩ else(some ⟨lc.blk,o'+lc.off,none⟩:Option Addr).map (·.add (l*es))) (h-l) (m-l)) s ?_ e2
     simp only[execOp,Instr.sliceAt,Sem.run_bind,run_underlying hu,f2,Instr.sureAddr,e1,run_sizeOf hes,Result.andThen_ok,Sem.run_pure]
     by_cases hml:m=l<;>simp[hml]
    ·cases hr
   ·cases hr
  ·cases hr
 ·cases hr
theorem ok_slice (P:Program) (t:TypeId) (x:Operand) (lo hi mx:Option Operand):Ok P (.slice t x lo hi mx):=by
 intro vop xs hc
 simp only[cOp] at hc
 split at hc
 ·next hu=>
  unfold Fi at hc
  split at hc
  ·cases hc
  ·next hm=>cases hc;exact Ss t x lo hi mx .str (Bool.eq_false_iff.2 hm) hu
 ·next e hu=>
  split at hc
  ·next n hn=>
   unfold Fi at hc
   split at hc
   ·cases hc
   ·next hm=>cases hc;exact Ss t x lo hi mx (.slice n) (Bool.eq_false_iff.2 hm) ⟨e,hu,hn⟩
  ·cases hc
 ·next n e hu=>
  split at hc
  ·next k hn=>
   unfold Fi at hc
   split at hc
   ·cases hc
   ·next hm=>cases hc;exact Ss t x lo hi mx (.arr n k) (Bool.eq_false_iff.2 hm) ⟨e,hu,hn⟩
  ·cases hc
 ·cases hc
theorem uF {φ:Emb}:∀{xs:List AV} {l:List (Key×Nat)} {vs:List Value},pX xs=some l→Aa (Cp φ) xs vs→Aa (Yp φ) l vs
 |[],l,vs,h,ha=>by cases ha;simp[pX] at h;subst h;exact .nil
 |x::xs,l,vs,h,ha=>by
  cases ha with
  |cons hx ha=>
  unfold pX at h
  split at h
  ·next e=>cases e
  ·next b o l' e=>
   cases e
   split at h
   ·next r hr=>cases h;exact .cons hx (uF hr ha)
   ·cases h
  ·cases h
theorem lY (P:Program) (fn:Fn) (first cap:Array Operand):Ok P (.makeFunc fn first cap):=by
 intro vop xs hc
 simp only[cOp] at hc
 split at hc
 ·next f=>
  cases hc
  intro o ho φ h nx w ρ args v h' hr s _ ha
  obtain⟨dst,op,type,pos,after,guard⟩:=o
  simp only at ho;subst ho
  simp only[VOp.run] at hr
  unfold Tk at hr
  split at hr
  ·next l hl=>
   cases hr
   have h1:=uF hl ha
   simp only[List.map_append] at h1
   have ht:=Ce first.size h1
   have hd:=B3 first.size h1
   rw[List.take_left' (by simp)] at ht
   rw[List.drop_left' (by simp)] at hd
   refine A6 (v':=.func (.func f) (first.map ρ) (cap.map ρ)) s (by simp[execOp,Instr.makeFunc]) ⟨_,_,?_,ht,hd⟩
   congr 1<;>(apply Array.ext';simp)
  ·cases hr
 ·cases hc
theorem Yq (l:List UInt8):(l.map UInt8.toNat).map UInt8.ofNat=l:=by
 induction l with
 |nil=>rfl
 |cons x l ih=>simp only[List.map_cons,ih,UInt8.ofNat_toNat]
theorem AJ {φ:Emb} {v:Value} {x:SV} (h:cSV v=some x):Bz φ x v:=by
 unfold cSV at h
 split at h
 ·cases h;rfl
 ·cases h;rfl
 ·next s=>
  cases h
  refine⟨fun n hn=>?_,?_⟩
  ·obtain⟨b,_,rfl⟩:=List.mem_map.1 hn
   exact b.toNat_lt
  ·rw[Yq]
 ·cases h;rfl
 ·cases h;rfl
 ·cases h;rfl
 ·cases h;rfl
 ·cases h
theorem uG {φ:Emb}:∀{vs:List Value} {xs:List SV},AA vs=some xs→Aa (Bz φ) xs vs
 |[],xs,h=>by simp[AA] at h;subst h;exact .nil
 |v::vs,xs,h=>by
  unfold AA at h
  split at h
  ·next x hx=>
   split at h
   ·next xs' hxs=>cases h;exact .cons (AJ hx) (uG hxs)
   ·cases h
  ·cases h
theorem AK {φ:Emb} {v:Value} {x:CV} (h:cCV v=some x):E3 φ x v:=by
 unfold cCV at h
 split at h
 ·next cs=>
  split at h
  ·next l hl=>cases h;exact⟨cs.toList,by simp,uG hl⟩
  ·cases h
 ·split at h
  ·next y hy=>cases h;exact AJ hy
  ·cases h
section
variable {P:Program} {w:World} {φ:Emb}
theorem Z8 {t:TypeId} {c:CV} (h:lJ P t=some c):∃i z,P.info? t=some i∧i.zero=some z∧E3 φ c z:=by
 unfold lJ at h
 split at h
 ·next i hi=>
  split at h
  ·next z hz=>exact⟨i,z,hi,hz,AK h⟩
  ·cases h
 ·cases h
theorem Mg {t:TypeId} {i:TypeInfo} {z:Value} (hi:P.info? t=some i) (hz:i.zero=some z):(zeroValue t).run P w=.ok z w:=by
 simp[zeroValue,typeInfo,hi,hz]
theorem Mh {t:TypeId} {l:List SV} (h:Ju P t=some l):∃i z,P.info? t=some i∧i.zero=some z∧Aa (Bz φ) l z.cells.toList:=by
 unfold Ju at h
 cases hz:lJ P t with
 |none=>simp[hz] at h
 |some c=>
  simp[hz] at h
  subst h
  obtain⟨i,z,h1,h2,h3⟩:=Z8 (φ:=φ) hz
  exact⟨i,z,h1,h2,h3.cells⟩
theorem Pf {h:Ac} {nx:Nat} {w':World} (s:Sim φ h.get nx w) (hb:φ h.next=none) (x:Blk) (l:Loc) (hl:l.blk=w.heap.size) {o:Obj} (hw:w'.heap=w.heap.push o)
  (hr:Rp (φ.set h.next l) l x.own x.body o) (ho:w'.os=w.os∧w'.output=w.output:=by exact⟨rfl,rfl⟩) :
  (∀nx',nx≤nx'→(h.Bs x).next.toNat≤nx'→Sim (φ.set h.next l) (h.Bs x).get nx' w')∧Ext φ h.get h.next.toNat w (φ.set h.next l) (h.Bs x).get (h.Bs x).next.toNat w':=by
 have hn:(h.Bs x).next.toNat=h.next.toNat+1:=Key.toNat_succ _
 rw[Cf,hn]
 exact⟨fun nx' h1 h2=>s.push hb nx' h1 (by omega) x l hl hw hr,Ext.push hb x l hl hw ho⟩
theorem Jb {h:Ac} {nx:Nat} {w':World} (s:Sim φ h.get nx w) (hb:φ h.next=none) {ls:List SV} {vs:List Value} (hv:Aa (Bz φ) ls vs) (rest:List Value) (t:TypeId) (fr:Nat×Nat) (own:Bool) (hf:own=true→fr=(0,0))
  (hw:w'.heap=w.heap.push (.cells (vs++rest).toArray t fr)) (ho:w'.os=w.os∧w'.output=w.output:=by exact⟨rfl,rfl⟩) :
  (∀nx',nx≤nx'→(h.Bs ⟨Body.ofList ls,own,[]⟩).next.toNat≤nx'→Sim (φ.set h.next ⟨w.heap.size,0,(vs++rest).length⟩) (h.Bs ⟨Body.ofList ls,own,[]⟩).get nx' w') ∧
  Ext φ h.get h.next.toNat w (φ.set h.next ⟨w.heap.size,0,(vs++rest).length⟩) (h.Bs ⟨Body.ofList ls,own,[]⟩).get (h.Bs ⟨Body.ofList ls,own,[]⟩).next.toNat w':=by
 refine Pf s hb _ _ rfl hw (Rp.ofList (Ak hv fun _ _=>Bz.mono (Emb.Pe _ hb)) rest w.heap.size t fr own hf) ho
end
theorem AL (P:Program) (e:TypeId):Ok P (.alloc e):=by
 intro vop xs hc
 simp only[cOp] at hc
 cases hz:Ju P e with
 |none=>simp[hz] at hc
 |some z=>
  simp only[hz,Option.map_some,Sj,Pj,Bl.op.injEq] at hc
  obtain⟨rfl,rfl⟩:=hc
  intro o ho φ h nx w ρ args v h' hr s hb ha
  obtain⟨dst,op,type,pos,after,guard⟩:=o
  simp only at ho;subst ho
  simp only[VOp.run] at hr
  unfold eI at hr
  split at hr
  ·cases hr
   obtain⟨i,zv,h1,h2,h3⟩:=Mh (φ:=φ) hz
   obtain⟨g1,g2⟩:=Jb (w':=w.alloc (.cells zv.cells e)) s hb h3 [] e (0,0) true (fun _=>rfl) (by rw[List.append_nil];rfl)
   exact⟨.pointer (some ⟨w.heap.size,0,none⟩),w.alloc (.cells zv.cells e),.inl (by simp[execOp,Instr.alloc,Mg h1 h2,newVar,newRow]),_,g1,g2,⟨_,Emb.A3 _ _ _,rfl⟩⟩
  ·cases hr
theorem OB (P:Program) (e:TypeId) (x:Operand):Ok P (.box e x):=by
 intro vop xs hc
 simp only[cOp] at hc
 cases hz:Cw P e with
 |none=>simp[hz] at hc
 |some z=>
  simp only[hz,Option.map_some,Sj,Pj,Bl.op.injEq] at hc
  obtain⟨rfl,rfl⟩:=hc
  intro o ho φ h nx w ρ args v h' hr s hb ha
  obtain⟨dst,op,type,pos,after,guard⟩:=o
  simp only at ho;subst ho
  simp only[VOp.run] at hr
  unfold lF at hr
  split at hr
  ·next c=>
   split at hr
   ·cases hr
    have h3:=E3.cells (Km ha)
    obtain⟨g1,g2⟩:=Jb (w':=w.alloc (.cells (ρ x).cells e)) s hb h3 [] e (0,0) true (fun _=>rfl) (by rw[List.append_nil];rfl)
    exact⟨.pointer (some ⟨w.heap.size,0,none⟩),w.alloc (.cells (ρ x).cells e),.inl (by simp[execOp,Instr.box,newVar,newRow]),_,g1,g2,⟨_,Emb.A3 _ _ _,rfl⟩⟩
   ·cases hr
  ·cases hr
theorem HW (P:Program) (t:TypeId) (x:Operand):Ok P (.load t x):=by
 intro vop xs hc
 simp only[cOp] at hc
 split at hc
 ·next hsh=>
  cases hc
  intro o ho φ h nx w ρ args v h' hr s _ ha
  obtain⟨dst,op,type,pos,after,guard⟩:=o
  simp only at ho;subst ho
  simp only[VOp.run] at hr
  unfold Fx at hr
  split at hr
  ·next b o'=>
   split at hr
   ·next y hread=>
    cases hr
    obtain⟨l,e1,e2⟩:=Km ha
    obtain⟨_,vs,hv,hcell⟩:=s.read e1 hread
    obtain⟨v,rfl,hv1⟩:∃v,vs=[v]∧Bz φ y v:=by
     cases hv with
     |cons h t=>cases t;exact⟨_,rfl,h⟩
    have hc0:=hcell 0 v rfl
    rw[E4] at hc0
    exact A6 (v':=v) s (by simp[execOp,Instr.loadAt,e2,Instr.sureAddr,loadVar,I5 hsh,show w.cell? ⟨l.blk,o'+l.off,none⟩=some v from hc0]) hv1
   ·cases hr
  ·cases hr
 ·next n hsh=>
  cases hc
  intro o ho φ h nx w ρ args v h' hr s _ ha
  obtain⟨dst,op,type,pos,after,guard⟩:=o
  simp only at ho;subst ho
  simp only[VOp.run] at hr
  unfold Fy at hr
  split at hr
  ·next b o'=>
   split at hr
   ·next ls hread=>
    cases hr
    obtain⟨l,e1,e2⟩:=Km ha
    obtain⟨hl,vs,hv,hcell⟩:=s.read e1 hread
    obtain⟨h1,h2⟩:=I6 (w:=w) hsh
    have hvl:vs.length=n:=by rw[←Ah hv,hl]
    have hload:(loadCells ⟨l.blk,o'+l.off,none⟩ n).run P w=.ok vs.toArray w:=by rw[←hvl];exact run_loadCells_list w _ vs hcell
    exact A6 (v':=.agg vs.toArray) s (by simp[execOp,Instr.loadAt,e2,Instr.sureAddr,loadVar,h1,run_sizeOf h2,hload]) ⟨vs,rfl,hv⟩
   ·cases hr
  ·cases hr
 ·cases hc
theorem AM (P:Program) (t:TypeId) (x y:Operand):Ok P (.store t x y):=by
 intro vop xs hc
 simp only[cOp] at hc
 cases hz:Cw P t with
 |none=>simp[hz] at hc
 |some n=>
  simp only[hz,Option.map_some,Sj,Pj,Bl.op.injEq] at hc
  obtain⟨rfl,rfl⟩:=hc
  intro o ho φ h nx w ρ args v h' hr s _ ha
  obtain⟨dst,op,type,pos,after,guard⟩:=o
  simp only at ho;subst ho
  simp only[VOp.run] at hr
  unfold Sm at hr
  split at hr
  ·next b o' c=>
   split at hr
   ·next hlen=>
    split at hr
    ·next h1 hw=>
     cases hr
     obtain⟨a1,a2⟩:=Zx ha
     obtain⟨l,e1,e2⟩:=a1
     have hv:=E3.cells a2
     obtain⟨arr,ty,f1,f2,f3,f4,f5⟩:=s.write e1 hv hw
     refine⟨undef,w.setRow l.blk (over arr (o'+l.off) (ρ y).cells.toList),.inr ⟨?_,rfl⟩,φ,fun nx' g1 _=>f4.up g1,?_,⟨[],rfl,.nil⟩⟩
     ·have hst:=run_storeCells_at P l.blk (o'+l.off) ty (ρ y).cells.toList 0 arr w f1 (by simpa using f2) (Y1 hv)
      have hsz:(ρ y).cells.size=n:=by rw[←hlen,Ah hv];simp
      simp only[execOp,Instr.storeAt,e2,Instr.sureAddr,Sem.run_bind,Sem.run_pure,Result.andThen_ok,storeVar,run_sizeOf hz,hsz,ne_eq,not_true_eq_false,if_false,Nat.add_zero] at hst ⊢
      rw[hst];rfl
     ·rw[f3];exact f5 _
    ·cases hr
   ·cases hr
  ·cases hr
theorem lZ {P:Program} {o:Oper} {φ:Emb} {h:Ac} {nx:Nat} {w:World} {ρ:Operand→Value} (s:Sim φ h.get nx w) (hb:φ h.next=none)
  (hd:(execOp ρ o).run P w=.ok (.value (.map (some w.heap.size))) (w.alloc (.map #[] 0))) :
  ∃v' w',OA P ρ o w v' w'∧∃φ',(∀nx',nx≤nx'→(h.new (.map [])).2.next.toNat≤nx'→Sim φ' (h.new (.map [])).2.get nx' w')∧Ext φ h.get h.next.toNat w φ' (h.new (.map [])).2.get (h.new (.map [])).2.next.toNat w'∧Cp φ' (.v (.s (.map h.next))) v':=by
 obtain⟨g1,g2⟩:=Pf (w':=w.alloc (.map #[] 0)) (o:=.map #[] 0) s hb ⟨.map [],true,[]⟩ ⟨w.heap.size,0,0⟩ rfl rfl ⟨#[],rfl,by simp,by simp⟩
 exact⟨.map (some w.heap.size),w.alloc (.map #[] 0),.inl hd,_,g1,g2,⟨_,Emb.A3 _ _ _,rfl⟩⟩
theorem qJ (P:Program) (t:TypeId) (r:Option Operand):Ok P (.makeMap t r):=by
 intro vop xs hc
 cases r with
 |none=>
  simp only[cOp,Sj,Pj,Bl.op.injEq] at hc
  obtain⟨rfl,rfl⟩:=hc
  intro o ho φ h nx w ρ args v h' hr s hb ha
  obtain⟨dst,op,type,pos,after,guard⟩:=o
  simp only at ho;subst ho
  simp only[VOp.run] at hr
  unfold O3 at hr
  split at hr
  ·cases hr;exact lZ s hb (by simp[execOp,Instr.makeMap])
  ·cases ha
  ·cases hr
 |some x=>
  simp only[cOp] at hc
  split at hc
  ·next a b hu=>
   cases hc
   intro o ho φ h nx w ρ args v h' hr s hb ha
   obtain⟨dst,op,type,pos,after,guard⟩:=o
   simp only at ho;subst ho
   simp only[VOp.run] at hr
   unfold O3 at hr
   split at hr
   ·cases ha
   ·next k n=>
    cases hr
    have e1:ρ x=.int k n:=Km ha
    exact lZ s hb (by simp[execOp,Instr.makeMap,run_underlying hu,e1,asInt,asIntOf])
   ·cases hr
  ·cases hc
theorem HX (vs:List Value):∀(n off:Nat) (arr:Array Value),off+n+vs.length≤arr.size →
  (vs.zipIdx n).foldl (fun(cs:Array Value) (p:Value×Nat)=>cs.setIfInBounds (off+p.2) p.1) arr=over arr (off+n) vs:=by
 induction vs with
 |nil=>intro n off arr _;simp[over]
 |cons v vs ih=>
  intro n off arr h
  simp only[List.zipIdx_cons,List.foldl_cons]
  rw[ih (n+1) off _ (by simp at h ⊢;omega)]
  apply Array.ext_getElem?
  intro i
  have h1:off+n+(v::vs).length≤arr.size:=h
  have h2:off+(n+1)+vs.length≤(arr.setIfInBounds (off+n) v).size:=by simp at h ⊢;omega
  by_cases hi:i=off+n
  ·subst hi
   rw[Mf _ _ _ h2 _ (by omega)]
   have:=Tq arr (off+n) (v::vs) h1 0 (by simp)
   simp only[Nat.add_zero] at this
   rw[this]
   have:off+n<arr.size:=by simp at h;omega
   simp[this]
  ·by_cases hin:off+n<i∧i<off+n+(v::vs).length
   ·obtain⟨j,rfl⟩:∃j,i=off+(n+1)+j:=⟨i-(off+(n+1)),by omega⟩
    have hj:j<vs.length:=by simp at hin;omega
    rw[Tq _ _ _ h2 j hj]
    have:=Tq arr (off+n) (v::vs) h1 (j+1) (by simp;omega)
    rw[show off+n+(j+1)=off+(n+1)+j from by omega] at this
    rw[this];rfl
   ·rw[Mf _ _ _ h2 i (by simp at hin;omega),Mf _ _ _ h1 i (by omega)]
    rw[Array.getElem?_setIfInBounds_ne (by omega)]
theorem AN {φ:Emb} {cs ls:List SV} {arr:Array Value} {vs:List Value} (hc:Aa (Bz φ) cs arr.toList) (hv:Aa (Bz φ) ls vs) (o:Nat) :
  Aa (Bz φ) (cs.take o++ls++cs.drop (o+ls.length)) (over arr o vs).toList:=by
 have:=Ah hv
 simp only[over]
 rw[this]
 exact A0 (A0 (Ce _ hc) hv) (B3 _ hc)
theorem Pg {φ:Emb} {ρ:Operand→Value} {pl:Nat→Option (Nat×Nat)}:∀(parts:List (Nat×Operand)) (ps:List (Nat×Nat)) (xs:List AV) (cs cs':List SV) (arr:Array Value),
  E1 pl parts=some ps→Ii cs ps xs=some cs'→Aa (Bz φ) cs arr.toList→Aa (Cp φ) xs ((parts.map (·.2)).map ρ) →
  ∃arr',Instr.fill pl arr (parts.map fun p=>(p.1,ρ p.2))=some arr'∧Aa (Bz φ) cs' arr'.toList
 |[],ps,xs,cs,cs',arr,hp,hl,hc,ha=>by
  simp[E1] at hp;subst hp
  cases ha
  simp[Ii] at hl;subst hl
  exact⟨arr,rfl,hc⟩
 |(i,x)::parts,ps,xs,cs,cs',arr,hp,hl,hc,ha=>by
  unfold E1 at hp
  split at hp
  ·next p hpi=>
   split at hp
   ·next r hr=>
    cases hp
    cases ha with
    |cons hx ha=>
    obtain⟨off,n⟩:=p
    unfold Ii at hl
    split at hl
    ·next e1 e2=>cases e1
    ·next o' n' ps' c xs' e1 e2=>
     cases e1;cases e2
     split at hl
     ·next hcond=>
      have hv:=E3.cells hx
      have hlen:=Ah hv
      have hclen:=Ah hc
      have hsz:(ρ x).cells.size=n:=by rw[←hcond.1,hlen];simp
      have hfit:off+(ρ x).cells.toList.length≤arr.size:=by simp at hclen ⊢;omega
      have hrel:=AN hc hv off
      rw[hcond.1] at hrel
      obtain⟨arr',f1,f2⟩:=Pg parts _ _ _ _ _ hr hl hrel ha
      refine⟨arr',?_,f2⟩
      simp only[List.map_cons,Instr.fill,hpi]
      have hcnd:((ρ x).cells.size !=n||decide (off+(ρ x).cells.size>arr.size))=false:=by simp at hfit ⊢;omega
      simp only[ne_eq,hsz] at hcnd ⊢
      rw[←Array.foldl_toList,Array.toList_zipIdx]
      have hf:=HX (ρ x).cells.toList 0 off arr (by simpa using hfit)
      simp only[Nat.add_zero] at hf
      rw[hf,f1]
      simp at hfit
      simp;omega
     ·cases hl
    ·cases hl
   ·cases hp
  ·cases hp
theorem AO (P:Program) (t:TypeId) (parts:Array (Nat×Operand)):Ok P (.build t parts):=by
 intro vop xs hc
 simp only[cOp] at hc
 have key:∀(z:List SV) (pl:Nat→Option (Nat×Nat)) (ps:List (Nat×Nat)),Ju P t=some z→E1 pl parts.toList=some ps →
   (∀(ρ:Operand→Value) (arr:Array Value) (it:TypeInfo) (zv:Value),P.info? t=some it→it.zero=some zv→Instr.fill pl zv.cells (parts.toList.map fun p=>(p.1,ρ p.2))=some arr→P.built t (parts.toList.map fun p=>(p.1,ρ p.2))=some arr) →
   Sr P (.build t parts) (.build z ps) (parts.toList.map (·.2)):=by
  intro z pl ps hz hps hbuilt
  intro o ho φ h nx w ρ args v h' hr s _ ha
  obtain⟨dst,op,type,pos,after,guard⟩:=o
  simp only at ho;subst ho
  simp only[VOp.run] at hr
  unfold Zk at hr
  split at hr
  ·next cs hl=>
   cases hr
   obtain⟨it,zv,h1,h2,h3⟩:=Mh (φ:=φ) hz
   obtain⟨arr,e1,e2⟩:=Pg parts.toList ps args z cs zv.cells hps hl h3 ha
   have e3:=hbuilt ρ arr it zv h1 h2 e1
   refine A6 (v':=.agg arr) s ?_ ⟨arr.toList,by simp,e2⟩
   have e4:(Instr.build t (parts.map fun p=>(p.1,ρ p.2))).run P w=.ok (.agg arr) w:=run_build w t _ arr (by simpa using e3)
   simp[execOp,e4]
  ·cases hr
 split at hc
 ·next z fs hz hu=>
  split at hc
  ·next pls hpls=>
   cases hps:E1 (fun i=>pls[i]?) parts.toList with
   |none=>simp[hps] at hc
   |some ps=>
    simp only[hps,Option.map_some,Sj,Pj,Bl.op.injEq] at hc
    obtain⟨rfl,rfl⟩:=hc
    refine key z _ ps hz hps fun ρ arr it zv h1 h2 h3=>?_
    simp only[Program.built,h1,hu,h2,hpls]
    simpa using h3
  ·cases hc
 ·next z n e hz hu=>
  split at hc
  ·next k hk=>
   cases hps:E1 (fun i=>some (i*k,k)) parts.toList with
   |none=>simp[hps] at hc
   |some ps=>
    simp only[hps,Option.map_some,Sj,Pj,Bl.op.injEq] at hc
    obtain⟨rfl,rfl⟩:=hc
    refine key z _ ps hz hps fun ρ arr it zv h1 h2 h3=>?_
    obtain⟨ie,hie,rfl⟩:=Np hk
    simp only[Program.built,h1,hu,h2,hie]
    exact h3
  ·cases hc
 ·cases hc
theorem Nq (z:List SV):∀n,(Ey z n).length=n*z.length
 |0=>by simp[Ey]
 |n+1=>by simp[Ey,Nq z n,Nat.add_mul,Nat.add_comm]
theorem Tt (z:List SV) (hz:0<z.length):∀(n i:Nat),i<n*z.length→(Ey z n)[i]?=z[i % z.length]?
 |0,i,h=>by simp at h
 |n+1,i,h=>by
  simp only[Ey]
  by_cases hi:i<z.length
  ·rw[List.getElem?_append_left hi,Nat.mod_eq_of_lt hi]
  ·rw[List.getElem?_append_right (by omega),Tt z hz n (i-z.length) (by rw[Nat.add_mul] at h;omega)]
   rw[Nat.mod_eq_sub_mod (by omega:i≥z.length)]
theorem Rw {φ:Emb} {z:List SV} {zv:Array Value} (hz:Aa (Bz φ) z zv.toList) (h0:0<z.length) (n:Nat):Aa (Bz φ) (Ey z n) (madeCells zv (n*z.length)).toList:=by
 have hl:=Ah hz
 refine Hg (by simp[Nq,madeCells]) fun i a ha=>?_
 have hi:i<n*z.length:=by rw[←Nq z n];exact(Gi.1 ha).1
 rw[Tt z h0 n i hi] at ha
 obtain⟨v,h1,h2⟩:=Ax hz _ ha
 refine⟨v,?_,h2⟩
 have hsz:zv.size=z.length:=by rw[hl];simp
 have hm:i % z.length<zv.size:=by rw[hsz];exact Nat.mod_lt _ h0
 simp only[Array.getElem?_toList] at h1 ⊢
 rw[Array.getElem?_eq_getElem hm] at h1
 simp[madeCells,hi,hsz,getElem!_pos zv (i % z.length) hm]
 simpa using h1
theorem Tu {φ:Emb} {b:Key} {r n es tot:Nat} (len:Nat) (hlen:len≤n):Bz (φ.set b ⟨r,0,tot⟩) (.slice b 0 len es (some n)) (.slice (some ⟨r,0,none⟩) len n):=
 ⟨_,n,rfl,hlen,by simp,.inr ⟨_,Emb.A3 _ _ _,by simp,by simp⟩⟩
theorem dX (P:Program) (t:TypeId) (len:Nat) (parts:Array (Nat×Operand)):Ok P (.buildSlice t len parts):=by
 intro vop xs hc
 simp only[cOp] at hc
 split at hc
 ·next e hu=>
  split at hc
  ·next z n hz hn=>
   split at hc
   ·next hcond=>
    obtain⟨hlim,hzl,hn0⟩:=hcond
    cases hps:E1 (fun i=>some (i*n,n)) parts.toList with
    |none=>simp[hps] at hc
    |some ps=>
     simp only[hps,Option.map_some,Sj,Pj,Bl.op.injEq] at hc
     obtain⟨rfl,rfl⟩:=hc
     intro o ho φ h nx w ρ args v h' hr s hb ha
     obtain⟨dst,op,type,pos,after,guard⟩:=o
     simp only at ho;subst ho
     simp only[VOp.run] at hr
     unfold Qo at hr
     split at hr
     ·next cs hl=>
      cases hr
      obtain⟨it,zv,h1,h2,h3⟩:=Mh (φ:=φ) hz
      have hmade:=Rw h3 (by omega) len
      rw[hzl] at hmade
      obtain⟨arr,e1,e2⟩:=Pg parts.toList ps args _ cs _ hps hl hmade ha
      obtain⟨g1,g2⟩:=Jb (w':=w.alloc (.cells arr e)) s hb e2 [] e (0,0) true (fun _=>rfl) (by rw[List.append_nil];rfl)
      refine⟨.slice (some ⟨w.heap.size,0,none⟩) len len,w.alloc (.cells arr e),.inl ?_,_,g1,g2,Tu len (Rl)⟩
      have hno:¬(16777216<len*n):=by omega
      by_cases h0:len*n=0
      ·have hm0:madeCells zv.cells 0=#[]:=by simp[madeCells,Array.range_zero']
       rw[h0,hm0] at e1
       simp[execOp,Instr.buildSlice,run_underlying hu,run_sizeOf hn,h0,Array.range_zero',e1,newRow]
      ·unfold madeCells at e1
       simp[execOp,Instr.buildSlice,run_underlying hu,run_sizeOf hn,hno,h0,Mg h1 h2,e1,newRow]
     ·cases hr
   ·cases hc
  ·cases hc
 ·cases hc
theorem hZ (P:Program) (t:TypeId) (l c:Operand):Ok P (.makeSlice t l c):=by
 intro vop xs hc
 simp only[cOp] at hc
 split at hc
 ·next e hu=>
  split at hc
  ·next z n k hz hn hk=>
   split at hc
   ·next hcond=>
    obtain⟨hzl,hn0⟩:=hcond
    cases hc
    intro o ho φ h nx w ρ args v h' hr s hb ha
    obtain⟨dst,op,type,pos,after,guard⟩:=o
    simp only at ho;subst ho
    simp only[VOp.run] at hr
    unfold Ij at hr
    split at hr
    ·next kl li kc ci=>
     split at hr
     ·next hcnd=>
      obtain⟨c1,c2,c3,c4⟩:=hcnd
      cases hr
      obtain⟨a1,a2⟩:=Zx ha
      have e1:ρ l=.int kl li:=a1
      have e2:ρ c=.int kc ci:=a2
      obtain⟨it,zv,h1,h2,h3⟩:=Mh (φ:=φ) hz
      obtain⟨it1,f1,f2⟩:=Np hn
      obtain⟨it2,f3,f4⟩:=Xb hk
      rw[h1] at f1 f3
      cases f1;cases f3
      have c4':k*ci.toNat≤281474976710656:=Nat.le_of_ble_eq_true c4
      have hb48:(it.bytes:Int)*ci≤281474976710656:=by
       rw[f4,←Int.toNat_of_nonneg (show 0≤ci by omega)]
       have:((k*ci.toNat:Nat):Int)≤281474976710656:=by omega
       simpa using this
      have hrun:=run_make (P:=P) w t e it zv hu h1 h2 kl kc li ci c1 c2 hb48 (by omega)
      rw[f2] at hrun
      have hmade:=Rw h3 (by omega) ci.toNat
      rw[hzl] at hmade
      obtain⟨g1,g2⟩:=Jb (w':=w.alloc (.cells (madeCells zv.cells (ci.toNat*n)) e)) s hb hmade [] e (0,0) true (fun _=>rfl) (by rw[List.append_nil];rfl)
      exact⟨_,_,.inl (by simp[execOp,e1,e2,hrun]),_,g1,g2,Tu li.toNat (by omega)⟩
     ·cases hr
    ·cases hr
   ·cases hc
  ·cases hc
 ·cases hc
end Go.Vm
end
section
noncomputable section
namespace Go.Vm
open Key (kn)
section
variable {P:Program} {φ:Emb} {ρ:Operand→Value}
theorem mB {A:Array Operand} {a:AV} (h:Aa (Cp φ) [a] (A.toList.map ρ)):∃v,A.map ρ=#[v]∧Cp φ a v:=by
 generalize hm:A.toList.map ρ=m at h
 cases h with
 |cons h t=>cases t;exact⟨_,by apply Array.ext';simpa using hm,h⟩
theorem NZ {A:Array Operand} {a b:AV} (h:Aa (Cp φ) [a,b] (A.toList.map ρ)):∃v u,A.map ρ=#[v,u]∧Cp φ a v∧Cp φ b u:=by
 generalize hm:A.toList.map ρ=m at h
 cases h with
 |cons h t=>cases t with
  |cons h2 t=>cases t;exact⟨_,_,by apply Array.ext';simpa using hm,h,h2⟩
theorem bind_some {A:Array TypeId} {i:Nat} {d:TypeDesc} (h:(A[i]?).bind P.underlying=some d):∃t,A[i]?=some t∧P.underlying t=some d:=by
 cases hA:A[i]? with
 |none=>simp[hA] at h
 |some t=>simp[hA] at h;exact⟨t,rfl,h⟩
theorem Bw (dst:Option Tmp) (b:Builtin) (A:Array Operand) (ats:Array TypeId) (ty:TypeId) (pos:String) (af:Array Edge) (g:Option (Nat×Bool)) :
  execOp ρ ⟨dst,.call ⟨.builtin b,A,ats⟩,ty,pos,af,g⟩=builtin b ats ty (A.map fun|.const _=>true|_=>false) (A.map ρ):=rfl
variable {w:World}
theorem Xc {h:Ac} {nx:Nat} (s:Sim φ h.get nx w) {es:Nat} {x:SV} {new:List SV} {n:Nat} (e:D4 h es x=some (new,n)) {vx:Value} (hx:Bz φ x vx) :
  new.length=n*es∧(Builtin.lenOf vx).run P w=.ok n w∧∃vs:List Value,Aa (Bz φ) new vs ∧
   ∀(m:Nat) (w':World),m≤n→w'.heap=w.heap→(Builtin.firstCells es m vx).run P w'=.ok (vs.take (m*es)).toArray w':=by
 unfold D4 at e
 split at e
 ·cases e;cases hx
  refine⟨by simp,by simp[Builtin.lenOf],[],.nil,fun m w' _ _=>by simp[Builtin.firstCells]⟩
 ·next b o len es' c=>
  split at e
  ·next hes=>
   subst hes
   split at e
   ·next l hread=>
    cases e
    obtain⟨a,C,rfl,hlc,_,hloc⟩:=hx
    by_cases hc:C=0
    ·have hl0:n=0:=by omega
     subst hl0
     rw[Nat.zero_mul,Vr] at hread
     cases hread
     refine⟨by simp,by simp[Builtin.lenOf],[],.nil,fun m w' hm _=>?_⟩
     have:m=0:=by omega
     subst this
     simp[Builtin.firstCells,loadCells,loadCellsFrom]
    ·obtain⟨lc,f1,rfl,_⟩:=hloc.resolve_left hc
     obtain⟨hl,vs,hv,hcell⟩:=s.read f1 hread
     have hvl:vs.length=n*es:=by rw[←Ah hv,hl]
     refine⟨hl,by simp[Builtin.lenOf],vs,hv,fun m w' hm hw'=>?_⟩
     have hmn:m*es≤n*es:=Nat.mul_le_mul_right _ hm
     have hlen:(vs.take (m*es)).length=m*es:=by simp;omega
     have:=run_loadCells_list (P:=P) w' (⟨lc.blk,o+lc.off,none⟩:Addr) (vs.take (m*es)) (fun j v hj=>by
      rw[List.getElem?_take] at hj
      split at hj
      ·have hc:=hcell j v hj
       simp only[World.cell?] at hc ⊢
       rw[hw'];exact hc
      ·cases hj)
     rw[hlen] at this
     simpa[Builtin.firstCells] using this
   ·cases e
  ·cases e
 ·next sl=>
  split at e
  ·next hes=>
   subst hes
   cases e
   obtain⟨hlt,rfl⟩:=hx
   refine⟨by simp,by simp[Builtin.lenOf];exact Ts sl,sl.map (fun n=>Value.int .u8 (n:Nat)),Lo _ _ _ (fun n _=>rfl),fun m w' hm _=>?_⟩
   have hex:(bs sl).extract 0 m=bs (sl.take m):=by rw[Z7];simp
   have hex':(⟨(sl.map UInt8.ofNat).toArray⟩:ByteArray).extract 0 m=bs (sl.take m):=hex
   simp only[Builtin.firstCells,hex',Sem.run_pure]
   congr 2
   simp only[bs,List.map_toArray,Nat.mul_one,←List.map_take,List.map_map]
   congr 1
   apply List.map_congr_left
   intro n hn
   have:=hlt n (List.mem_of_mem_take hn)
   simp only[Function.comp]
   rw[ofNat_toNat this]
  ·cases e
 ·cases e
theorem room_le {n bytes:Nat} (h:room n bytes=true):2*n*bytes≤281474976710656:=Nat.le_of_ble_eq_true h
theorem H7 {ats:Array TypeId} {ty st xt e:TypeId} {d:TypeDesc} {i:TypeInfo} {es sLen sCap n:Nat} {base:Option Addr} {vx:Value} {news:Array Value} {w':World} (h0:ats[0]?=some st) (hst:P.underlying st=some (.slice e))
  (h1:ats[1]?=some xt) (hxt:P.underlying xt=some d) (hd:d=.string∨∃u,d=.slice u) (hi:P.info? e=some i) (hes:i.size=es) (hl:(Builtin.lenOf vx).run P w=.ok n w)
  (hnew:(Builtin.firstCells es n vx).run P w=.ok news w) (hle:sLen+n≤sCap) (hw:∀a,base=some a→(storeCells (a.add (sLen*es)) news.toList).run P w=.ok () w') (hno:base=none→w'=w) :
  (Builtin.append_ ats ty #[.slice base sLen sCap,vx]).run P w=.ok (.slice base (sLen+n) sCap) w':=by
 subst hes
 cases base with
 |none=>
  have:=hno rfl
  subst this
  rcases hd with rfl|⟨u,rfl⟩<;>simp only[Builtin.append_,h0,h1,List.getElem?_toArray,List.getElem?_cons_zero,List.getElem?_cons_succ,Sem.run_bind,run_underlying hst,run_underlying hxt,Result.andThen_ok,Sem.run_pure,sizeOf,typeInfo,run_program,hi,hl,Fj,if_false,hle,if_true,hnew,Bool.not_false]
 |some a=>
  rcases hd with rfl|⟨u,rfl⟩<;>simp only[Builtin.append_,h0,h1,List.getElem?_toArray,List.getElem?_cons_zero,List.getElem?_cons_succ,Sem.run_bind,run_underlying hst,run_underlying hxt,Result.andThen_ok,Sem.run_pure,sizeOf,typeInfo,run_program,hi,hl,Fj,if_false,hle,if_true,hnew,hw a rfl,Bool.not_false]
theorem Ph {ats:Array TypeId} {ty st xt e:TypeId} {d:TypeDesc} {i:TypeInfo} {z:Value} {es by' sLen sCap n:Nat} {base:Option Addr} {vx:Value} {olds news:Array Value} (h0:ats[0]?=some st) (hst:P.underlying st=some (.slice e))
  (h1:ats[1]?=some xt) (hxt:P.underlying xt=some d) (hd:d=.string∨∃u,d=.slice u) (hi:P.info? e=some i) (hz:i.zero=some z) (hes:i.size=es) (hby:i.bytes=by') (hby0:by'≠0) (hl:(Builtin.lenOf vx).run P w=.ok n w)
  (hold:(Builtin.firstCells es sLen (.slice base sLen sCap)).run P w.drew=.ok olds w.drew) (hnew:(Builtin.firstCells es n vx).run P w.drew=.ok news w.drew) (hgt:sCap<sLen+n) (hroom:room (sLen+n) by'=true) :
  (Builtin.append_ ats ty #[.slice base sLen sCap,vx]).run P w =
   .ok (.slice (some ⟨w.heap.size,0,none⟩) (sLen+n) (grownCap w (sLen+n) sCap e)) (w.drew.alloc (.cells (olds++news++Builtin.zeroCells z.cells (grownCap w (sLen+n) sCap e-(sLen+n))) e)):=by
 subst hes
 subst hby
 have hn:¬(sLen+n≤sCap):=by omega
 have hr:=room_le hroom
 have h48:¬(Builtin.nextslicecap (sLen+n) sCap*i.bytes>2 ^ 48):=by
  have h5:=nextslicecap_le hgt
  have h6:Builtin.nextslicecap (sLen+n) sCap*i.bytes≤2*(sLen+n)*i.bytes:=Nat.mul_le_mul_right _ h5
  omega
 have hcond:¬(((sLen+n:Nat):Int)>IntKind.i64.max∧(False∨i.bytes=0)):=by simp[hby0]
 rcases hd with rfl|⟨u,rfl⟩<;>simp only[Builtin.append_,h0,h1,List.getElem?_toArray,List.getElem?_cons_zero,List.getElem?_cons_succ,Sem.run_bind,run_underlying hst,run_underlying hxt,Result.andThen_ok,Sem.run_pure,sizeOf,typeInfo,run_program,hi,hl,Fj,if_false,hn,hcond,h48,
  run_choose,Question.forced,run_askRoom,World.drew_eq,hold,hnew,zeroValue,hz,newRow,run_newObj,World.alloc_eq,Bool.not_false,if_true,grownCap,World.size_drew]
end
end Go.Vm
end
section
noncomputable section
namespace Go.Vm
open Key (kn)
theorem Sim.renew {φ:Emb} {h h':Ac} {nx:Nat} {w:World} (s:Sim φ h.get nx w) (hb:φ h.next=none) {b b':Key} {o k:Nat} {new:List SV}
  (e:h.renew b o k new=some (b',h')) {l:Loc} (hφ:k=0∨φ b=some l) {vs:List Value} (hv:Aa (Bz φ) new vs) :
  b'=h.next∧h'.next=h.next.succ∧∃olds:List Value,olds.length=k∧(∀j v,olds[j]?=some v→w.cell? ((⟨l.blk,o+l.off,none⟩:Addr).add j)=some v) ∧
   ∀(w':World) (rest:List Value) (t:TypeId),w'.heap=w.heap.push (.cells (olds++vs++rest).toArray t (0,0))→(w'.os=w.os∧w'.output=w.output) →
    (∀nx',nx≤nx'→h'.next.toNat≤nx'→Sim (φ.set h.next ⟨w.heap.size,0,(olds++vs++rest).length⟩) h'.get nx' w') ∧
    Ext φ h.get h.next.toNat w (φ.set h.next ⟨w.heap.size,0,(olds++vs++rest).length⟩) h'.get h'.next.toNat w':=by
 unfold Ac.renew at e
 split at e
 ·next h0=>
  cases e
  subst h0
  refine⟨rfl,rfl,[],rfl,by simp,fun w' rest t hw' ho'=>?_⟩
  exact Jb s hb hv rest t (0,0) true (fun _=>rfl) (by simpa using hw') ho'
 ·next h0=>
  split at e
  ·next c m hc=>
   split at e
   ·next body hcp=>
    cases e
    obtain⟨own,anc,hg⟩:=Zw hc
    obtain⟨hle,c',rfl,hc1,hc2⟩:=Ik hcp
    have hφ:=hφ.resolve_left h0
    obtain⟨ob,hw,arr,t,fr,rfl,hs,hm,_,hcell⟩:=s.blk b _ l hg hφ
    have hlen:=Ah hv
    refine⟨rfl,rfl,(List.range k).map (fun j=>arr.getD (l.off+(o+j)) undef),by simp,fun j v hj=>?_,fun w' rest t' hw' ho'=>?_⟩
    ·have hj':j<k:=by
      have:=(Gi.1 hj).1
      simpa using this
     simp[hj'] at hj
     obtain⟨sv,v',_,h2,_⟩:=hcell (o+j) (by omega)
     rw[E4]
     simp only[World.cell?,hw]
     rw[show o+l.off+j=l.off+(o+j) from by omega]
     rw[h2] at hj ⊢
     simp at hj
     simp[hj]
    ·refine Pf s hb ⟨.cells c' (k+new.length),true,[]⟩ _ rfl hw' ⟨_,t',(0,0),rfl,by simp,by simp;omega,fun _=>rfl,fun i hi=>?_⟩ ho'
     have hle':=Emb.Pe (φ:=φ) ⟨w.heap.size,0,((List.range k).map (fun j=>arr.getD (l.off+(o+j)) undef)++vs++rest).length⟩ hb
     by_cases hik:i<k
     ·obtain⟨sv,v,h1,h2,h3⟩:=hcell (o+i) (by omega)
      refine⟨sv,v,by rw[hc1 i hik];exact h1,?_,h3.mono hle'⟩
      simp only[List.getElem?_toArray,Nat.zero_add]
      rw[List.append_assoc,List.getElem?_append_left (by simp;omega)]
      simp[hik,h2]
     ·obtain⟨j,rfl⟩:∃j,i=k+j:=⟨i-k,by omega⟩
      have hj:j<new.length:=by omega
      obtain⟨v,h1,h2⟩:=Ax hv j (a:=new[j]) (by simp[hj])
      refine⟨new[j],v,by rw[hc2 j hj];simp[hj],?_,h2.mono hle'⟩
      simp only[List.getElem?_toArray,Nat.zero_add]
      rw[List.append_assoc,List.getElem?_append_right (by simp)]
      simp only[Lm,List.length_range,show k+j-k=j from by omega]
      rw[List.getElem?_append_left (by omega)];exact h1
   ·cases e
  ·cases e
section
variable {P:Program} {φ:Emb} {w:World}
theorem dY {es n c:Nat} {a:Addr} {olds:List Value} (hl:olds.length=n*es) (hc:∀j v,olds[j]?=some v→w.cell? (a.add j)=some v) :
  (Builtin.firstCells es n (.slice (some a) n c)).run P w.drew=.ok olds.toArray w.drew:=
 run_firstCells_some (P:=P) w.drew es n a n c olds hl (by simpa using hc)
theorem dZ {z:List SV} {zv:Value} (h:Aa (Bz φ) z zv.cells.toList) (n:Nat):(Builtin.zeroCells zv.cells n).size=n*z.length:=by
 rw[size_zeroCells,Ah h];simp
theorem Jw {b:Key} {r n es cap tot:Nat} (hle:n≤cap) (ht:cap*es=tot):Bz (φ.set b ⟨r,0,tot⟩) (.slice b 0 n es none) (.slice (some ⟨r,0,none⟩) n cap):=
 ⟨_,cap,rfl,hle,by simp,.inr ⟨_,Emb.A3 _ _ _,by simp,fun _=>by simp[ht]⟩⟩
end
theorem qK {P:Program} {φ:Emb} {h h':Ac} {nx:Nat} {w:World} (s:Sim φ h.get nx w) (hb:φ h.next=none) {ats:Array TypeId} {ty st xt e:TypeId} {d:TypeDesc} {es by' n:Nat} (h0:ats[0]?=some st) (hst:P.underlying st=some (.slice e))
  (h1:ats[1]?=some xt) (hxt:P.underlying xt=some d) (hd:d=.string∨∃u,d=.slice u) (hes:Cw P e=some es) (hby:Vp P e=some by') (hby0:by'≠0) {z:List SV} (hz:Ju P e=some z) (hzl:z.length=es)
  {x:SV} {new:List SV} (hsrc:D4 h es x=some (new,n)) {vs vx:Value} (hx:Bz φ x vx) {sv r:SV} (hs:Bz φ sv vs) (ha:Cj h es by' sv new n=some (r,h')) :
  ∃v' w',(Builtin.append_ ats ty #[vs,vx]).run P w=.ok v' w'∧∃φ',(∀nx',nx≤nx'→h'.next.toNat≤nx'→Sim φ' h'.get nx' w')∧Ext φ h.get h.next.toNat w φ' h'.get h'.next.toNat w'∧Bz φ' r v':=by
 obtain⟨hnl,hlen,news,hnv,hfirst⟩:=Xc (P:=P) s hsrc hx
 obtain⟨i,zv,hi,hiz,hzr⟩:=Mh (φ:=φ) hz
 have hies:i.size=es:=by
  obtain⟨i',hi',h2⟩:=Np hes
  rw[hi] at hi';cases hi';exact h2
 have hiby:i.bytes=by':=by
  obtain⟨i',hi',h2⟩:=Xb hby
  rw[hi] at hi';cases hi';exact h2
 have hnvl:news.length=n*es:=by rw[←Ah hnv,hnl]
 have hfn:∀w',w'.heap=w.heap→(Builtin.firstCells es n vx).run P w'=.ok news.toArray w':=fun w' hw'=>by
  have:=hfirst n w' (Rl) hw'
  rwa [←hnvl,List.take_length] at this
 have hzsz:=fun k=>dZ (φ:=φ) hzr k
 unfold Cj at ha
 split at ha
 ·-- a nil slice
  cases hs
  split at ha
  ·next hn0=>
   cases ha
   subst hn0
   refine⟨_,w,H7 h0 hst h1 hxt hd hi hies hlen (hfn w rfl) (Rl) (fun a ha=>by cases ha) (fun _=>rfl),φ,fun nx' g1 _=>s.up g1,Ext.refl _ _ _ _,rfl⟩
  ·next hn0=>
   split at ha
   ·next hroom=>
    cases ha
    have hgt:(0:Nat)<0+n:=by omega
    have hrun:=Ph (P:=P) (w:=w) (ty:=ty) (base:=none) (sLen:=0) (sCap:=0) (olds:=#[]) (news:=news.toArray) h0 hst h1 hxt hd hi hiz hies hiby hby0 hlen (by simp[Builtin.firstCells]) (hfn w.drew rfl) hgt (by simpa using hroom)
    have hge:=grownCap_ge w (0+n) 0 e
    have hobj:(#[]++news.toArray++Builtin.zeroCells zv.cells (grownCap w (0+n) 0 e-(0+n)))=(news++(Builtin.zeroCells zv.cells (grownCap w (0+n) 0 e-(0+n))).toList).toArray:=by
     apply Array.ext';simp
    rw[hobj] at hrun
    obtain⟨g1,g2⟩:=Jb (w':=w.drew.alloc (.cells (news++(Builtin.zeroCells zv.cells (grownCap w (0+n) 0 e-(0+n))).toList).toArray e)) s hb hnv (Builtin.zeroCells zv.cells (grownCap w (0+n) 0 e-(0+n))).toList e (0,0) true (fun _=>rfl) rfl
    refine⟨_,_,hrun,_,g1,g2,?_⟩
    have:=Jw (φ:=φ) (b:=h.next) (r:=w.heap.size) (n:=n) (es:=es) (cap:=grownCap w (0+n) 0 e) (tot:=(news++(Builtin.zeroCells zv.cells (grownCap w (0+n) 0 e-(0+n))).toList).length) (by omega)
     (by simp only[La,Array.length_toList,hzsz,hnvl,hzl,←Nat.add_mul];congr 1;omega)
    simpa using this
   ·cases ha
 ·next b o len es' cap=>
  split at ha
  ·next hee=>
   subst hee
   split at ha
   ·next hn0=>
    cases ha
    subst hn0
    obtain⟨a,C,rfl,hlc,hcap,hloc⟩:=hs
    have hnil:news=[]:=List.eq_nil_of_length_eq_zero (by simpa using hnvl)
    refine⟨_,w,H7 h0 hst h1 hxt hd hi hies hlen (hfn w rfl) (by omega) (fun a _=>by simp[hnil,storeCells]) (fun _=>rfl),φ,fun nx' g1 _=>s.up g1,Ext.refl _ _ _ _,⟨a,C,rfl,hlc,hcap,hloc⟩⟩
   ·next hn0=>
    obtain⟨a,C,rfl,hlc,hcap,hloc⟩:=hs
    have fresh:∀(olds:List Value) (w0:World),olds.length=len*es→(C≠0→∀j v,olds[j]?=some v→w.cell? (a.add j)=some v)→C<len+n→room (len+n) by'=true →
      (Builtin.append_ ats ty #[.slice (some a) len C,vx]).run P w=.ok (.slice (some ⟨w.heap.size,0,none⟩) (len+n) (grownCap w (len+n) C e)) (w.drew.alloc (.cells (olds++news++(Builtin.zeroCells zv.cells (grownCap w (len+n) C e-(len+n))).toList).toArray e)) ∧
      grownCap w (len+n) C e*es=(olds++news++(Builtin.zeroCells zv.cells (grownCap w (len+n) C e-(len+n))).toList).length∧len+n≤grownCap w (len+n) C e:=by
     intro olds w0 hol hoc hgt hroom
     have hge:=grownCap_ge w (len+n) C e
     have hfo:(Builtin.firstCells es len (.slice (some a) len C)).run P w.drew=.ok olds.toArray w.drew:=by
      by_cases hC:C=0
      ·have hl0:len=0:=by omega
       subst hl0
       have:olds=[]:=List.eq_nil_of_length_eq_zero (by simpa using hol)
       subst this
       simp[Builtin.firstCells,loadCells,loadCellsFrom]
      ·exact dY hol (hoc hC)
     have hrun:=Ph (P:=P) (w:=w) (ty:=ty) (base:=some a) (sLen:=len) (sCap:=C) (olds:=olds.toArray) (news:=news.toArray) h0 hst h1 hxt hd hi hiz hies hiby hby0 hlen hfo (hfn w.drew rfl) hgt hroom
     have hobj:(olds.toArray++news.toArray++Builtin.zeroCells zv.cells (grownCap w (len+n) C e-(len+n)))=(olds++news++(Builtin.zeroCells zv.cells (grownCap w (len+n) C e-(len+n))).toList).toArray:=by
      apply Array.ext';simp
     rw[hobj] at hrun
     refine⟨hrun,?_,hge⟩
     simp only[La,Array.length_toList,hzsz,hnvl,hzl,hol,←Nat.add_mul];congr 1;omega
    split at ha
    ·next c=>
     have hC:C=c:=hcap c rfl
     subst hC
     split at ha
     ·next hle=>
      split at ha
      ·next h2 hw=>
       cases ha
       obtain⟨l,f1,rfl,_⟩:=hloc.resolve_left (by omega)
       obtain⟨arr,t,g1,g2,g3,g4,g5⟩:=s.write f1 hnv hw
       have hst':=run_storeCells_at P l.blk (o+len*es+l.off) t news 0 arr w g1 (by simpa using g2) (Y1 hnv)
       simp only[Nat.add_zero] at hst'
       refine⟨_,w.setRow l.blk (over arr (o+len*es+l.off) news),H7 h0 hst h1 hxt hd hi hies hlen (hfn w rfl) hle (fun a ha=>?_) (fun hh=>by cases hh),φ,fun nx' k1 _=>g4.up k1,by rw[g3];exact g5 _,⟨_,C,rfl,hle,by simp,.inr ⟨l,f1,rfl,by simp⟩⟩⟩
       cases ha
       rw[E4,show o+l.off+len*es=o+len*es+l.off from by omega]
       exact hst'
      ·cases ha
     ·next hle=>
      split at ha
      ·next hroom=>
       split at ha
       ·next b2 h2 hren=>
        cases ha
        obtain⟨lc,hlc2⟩:∃lc:Loc,C≠0→φ b=some lc∧a=⟨lc.blk,o+lc.off,none⟩:=by
         rcases hloc with hh|⟨l,h1,h2,_⟩
         ·exact⟨⟨0,0,0⟩,fun hne=>absurd hh hne⟩
         ·exact⟨l,fun _=>⟨h1,h2⟩⟩
        have hφ:len*es=0∨φ b=some lc:=by
         by_cases hh:C=0
         ·exact .inl (by have:len=0:=by omega
                         simp[this])
         ·exact .inr (hlc2 hh).1
        obtain⟨rfl,g2,olds,g3,g4,g5⟩:=s.renew hb hren hφ hnv
        obtain⟨k1,k2,k3⟩:=fresh olds w g3 (fun hh j v hj=>by
         rw[(hlc2 hh).2];exact g4 j v hj) (by omega) hroom
        obtain⟨q1,q2⟩:=g5 (w.drew.alloc (.cells (olds++news++(Builtin.zeroCells zv.cells (grownCap w (len+n) C e-(len+n))).toList).toArray e)) _ e rfl ⟨rfl,rfl⟩
        exact⟨_,_,k1,_,q1,q2,Jw k3 k2⟩
       ·cases ha
      ·cases ha
    ·split at ha
     ·next hroom=>
      split at ha
      ·next b2 h2 hgr=>
       cases ha
       by_cases hfit:len+n≤C
       ·obtain⟨l,f1,rfl,f3⟩:=hloc.resolve_left (by omega)
        have f3:=f3 rfl
        have hf:o+l.off+len*es+news.length≤l.tot:=by
         rw[hnvl,←f3,show o+l.off+len*es+n*es=o+l.off+(len+n)*es from by rw[Nat.add_mul];omega]
         have:=Nat.mul_le_mul_right es hfit
         omega
        obtain⟨rfl,g2,arr,t,g3,g4,g5⟩:=s.HR (nx':=max nx (h.next.toNat+1)) hb (by omega) (by omega) hgr f1 hnv hf
        have hn2:h'.next.toNat=h.next.toNat+1:=by rw[g2];exact Key.toNat_succ _
        have hst':=run_storeCells_at P l.blk (o+l.off+len*es) t news 0 arr w g3 (by simpa using g4) (Y1 hnv)
        simp only[Nat.add_zero] at hst'
        refine⟨_,w.setRow l.blk (over arr (o+l.off+len*es) news),H7 h0 hst h1 hxt hd hi hies hlen (hfn w rfl) hfit (fun a ha=>?_) (fun hh=>by cases hh),φ.set h.next ⟨l.blk,o+l.off,l.tot⟩,fun nx' k1 k2=>?_,by rw[hn2];exact g5.2,⟨_,C,rfl,hfit,by simp,.inr ⟨_,Emb.A3 _ _ _,by simp,fun _=>by simp;omega⟩⟩⟩
        ·cases ha
         rw[E4]
         exact hst'
        ·exact g5.1.up (by omega)
       ·obtain⟨lc,hlc2⟩:∃lc:Loc,C≠0→φ b=some lc∧a=⟨lc.blk,o+lc.off,none⟩:=by
         rcases hloc with hh|⟨l,h1,h2,_⟩
         ·exact⟨⟨0,0,0⟩,fun hne=>absurd hh hne⟩
         ·exact⟨l,fun _=>⟨h1,h2⟩⟩
        have hφ:len*es=0∨φ b=some lc:=by
         by_cases hh:C=0
         ·exact .inl (by have:len=0:=by omega
                         simp[this])
         ·exact .inr (hlc2 hh).1
        obtain⟨rfl,g2,olds,g3,g4,g5⟩:=s.AD (nx':=max nx (h.next.toNat+1)) hb (by omega) (by omega) hgr hφ hnv
        have hn2:h'.next.toNat=h.next.toNat+1:=by rw[g2];exact Key.toNat_succ _
        obtain⟨k1,k2,k3⟩:=fresh olds w g3 (fun hh j v hj=>by
         rw[(hlc2 hh).2];exact g4 j v hj) (by omega) hroom
        obtain⟨q1,q2⟩:=g5 (w.drew.alloc (.cells (olds++news++(Builtin.zeroCells zv.cells (grownCap w (len+n) C e-(len+n))).toList).toArray e)) _ e rfl ⟨rfl,rfl⟩
        exact⟨_,_,k1,_,fun nx' k4 k5=>q1.up (by omega),by rw[hn2];exact q2,Jw k3 k2⟩
      ·cases ha
     ·cases ha
  ·cases ha
 ·cases ha
theorem xL {P:Program} (A:Array Operand) (ats:Array TypeId) {t e:TypeId} (h0:ats[0]?=some t) (hu:P.underlying t=some (.slice e)) :
  Sr P (.call ⟨.builtin .len,A,ats⟩) .lens A.toList:=by
 intro o ho φ h nx w ρ args v h' hr s _ ha
 obtain⟨dst,op,type,pos,after,guard⟩:=o
 simp only at ho;subst ho
 simp only[VOp.run] at hr
 unfold tU at hr
 split at hr
 ·next b o' len es cap=>
  cases hr
  obtain⟨v,e1,a,c,e2,_⟩:=mB ha
  exact A6 (v':=.int .i64 (len:Nat)) s (by rw[Bw,e1,e2];simp[builtin,Builtin.len_,h0,run_underlying hu,goInt]) rfl
 ·cases hr
  obtain⟨v,e1,e2⟩:=mB ha
  have e2:v=.slice none 0 0:=e2
  exact A6 (v':=.int .i64 ((0:Nat):Int)) s (by rw[Bw,e1,e2];simp[builtin,Builtin.len_,h0,run_underlying hu,goInt]) rfl
 ·cases hr
theorem mC {P:Program} (A:Array Operand) (ats:Array TypeId) {t:TypeId} (h0:ats[0]?=some t) (hu:P.underlying t=some .string) :
  Sr P (.call ⟨.builtin .len,A,ats⟩) .Ld A.toList:=by
 intro o ho φ h nx w ρ args v h' hr s _ ha
 obtain⟨dst,op,type,pos,after,guard⟩:=o
 simp only at ho;subst ho
 simp only[VOp.run] at hr
 unfold Yw at hr
 split at hr
 ·next sl=>
  cases hr
  obtain⟨v,e1,hlt,e2⟩:=mB ha
  have e2:v=.string (bs sl):=e2
  exact A6 (v':=.int .i64 (sl.length:Nat)) s (by rw[Bw,e1,e2];simp[builtin,Builtin.len_,h0,run_underlying hu,goInt,Ts]) rfl
 ·cases hr
theorem mD {P:Program} (A:Array Operand) (ats:Array TypeId) {t e:TypeId} {n:Nat} (h0:ats[0]?=some t) (hu:P.underlying t=some (.array n e)) :
  Sr P (.call ⟨.builtin .len,A,ats⟩) (.Lh n) A.toList:=by
 intro o ho φ h nx w ρ args v h' hr s _ ha
 obtain⟨dst,op,type,pos,after,guard⟩:=o
 simp only at ho;subst ho
 simp only[VOp.run] at hr
 unfold Yx at hr
 split at hr
 ·next x=>
  cases hr
  obtain⟨v,e1,e2⟩:=mB ha
  exact A6 (v':=.int .i64 (n:Nat)) s (by rw[Bw,e1];simp[builtin,Builtin.len_,h0,run_underlying hu,goInt]) rfl
 ·cases hr
theorem Sim.map {φ:Emb} {h:Ac} {nx:Nat} {w:World} (s:Sim φ h.get nx w) {b:Key} {lc:Loc} (hφ:φ b=some lc) {l:List (CV×CV)} {own:Bool} {anc:List Key} (hg:h.get b=some ⟨.map l,own,anc⟩) :
  ∃arr:Array MapEntry,w.heap[lc.blk]?=some (.map arr arr.size)∧(∀i (h:i<arr.size),arr[i].born=i)∧Aa (fun p (e:MapEntry)=>E3 φ p.1 e.key∧E3 φ p.2 e.val) l arr.toList:=by
 obtain⟨o,hw,arr,rfl,hb,hr⟩:=s.blk b _ lc hg hφ
 exact⟨arr,hw,hb,hr⟩
theorem Cm {P:Program} {w:World} {r:Nat} {o:Obj} (h:w.heap[r]?=some o) (hn:∀c e f,o≠.cells c e f):(getObj r).run P w=.ok o w:=by
 cases o with
 |cells c e f=>exact absurd rfl (hn c e f)
 |_=>simp only[getObj,Sem.run,h]
theorem xM {P:Program} (A:Array Operand) (ats:Array TypeId) {t a b:TypeId} (h0:ats[0]?=some t) (hu:P.underlying t=some (.map a b)) :
  Sr P (.call ⟨.builtin .len,A,ats⟩) .dV A.toList:=by
 intro o ho φ h nx w ρ args v h' hr s _ ha
 obtain⟨dst,op,type,pos,after,guard⟩:=o
 simp only at ho;subst ho
 simp only[VOp.run] at hr
 unfold O5 at hr
 split at hr
 ·cases hr
  obtain⟨v,e1,e2⟩:=mB ha
  have e2:v=.map none:=e2
  exact A6 (v':=.int .i64 ((0:Nat):Int)) s (by rw[Bw,e1,e2];simp[builtin,Builtin.len_,h0,run_underlying hu,goInt]) rfl
 ·next bk=>
  split at hr
  ·next l own anc hg=>
   cases hr
   obtain⟨v,e1,lc,e2,e3⟩:=mB ha
   obtain⟨arr,f1,_,f3⟩:=s.map e2 hg
   have hl:=Ah f3
   refine A6 (v':=.int .i64 (l.length:Nat)) s ?_ rfl
   rw[Bw,e1,e3]
   simp[builtin,Builtin.len_,h0,run_underlying hu,goInt,Cm f1 (by simp),hl]
  ·cases hr
 ·cases hr
theorem AP {P:Program} (A:Array Operand) (ats:Array TypeId) {t e:TypeId} (h0:ats[0]?=some t) (hu:P.underlying t=some (.slice e)) :
  Sr P (.call ⟨.builtin .cap,A,ats⟩) .cap A.toList:=by
 intro o ho φ h nx w ρ args v h' hr s _ ha
 obtain⟨dst,op,type,pos,after,guard⟩:=o
 simp only at ho;subst ho
 simp only[VOp.run] at hr
 unfold HM at hr
 split at hr
 ·next b o' len es k=>
  cases hr
  obtain⟨v,e1,a,c,e2,_,e3,_⟩:=mB ha
  have:=e3 k rfl
  subst this
  exact A6 (v':=.int .i64 (c:Nat)) s (by rw[Bw,e1,e2];simp[builtin,Builtin.cap_,h0,run_underlying hu,goInt]) rfl
 ·cases hr
  obtain⟨v,e1,e2⟩:=mB ha
  have e2:v=.slice none 0 0:=e2
  exact A6 (v':=.int .i64 ((0:Nat):Int)) s (by rw[Bw,e1,e2];simp[builtin,Builtin.cap_,h0,run_underlying hu,goInt]) rfl
 ·cases hr
theorem eR {P:Program} {φ:Emb} {w:World} (m:Bool) (k:IntKind):∀(xs:List AV) (x:Int) (vs:List Value) (r:SV),Jm m k x xs=some r→Aa (Cp φ) xs vs →
  ∃v',(vs.foldlM (if m then Builtin.max2 else Builtin.min2) (.int k x)).run P w=.ok v' w∧Bz φ r v'
 |[],x,vs,r,h,ha=>by
  cases ha
  simp[Jm] at h
  subst h
  exact⟨_,by simp,rfl⟩
 |y::xs,x,vs,r,h,ha=>by
  cases ha with
  |cons hy ha=>
  unfold Jm at h
  split at h
  ·next e=>cases e
  ·next k' y' l e=>
   cases e
   have hy':_=Value.int k' y':=hy
   subst hy'
   obtain⟨v',h1,h2⟩:=eR m k _ _ _ _ h ha
   refine⟨v',?_,h2⟩
   cases m<;>simp[Builtin.max2,Builtin.min2] at h1 ⊢<;>exact h1
  ·cases h
theorem Xd {P:Program} (m:Bool) (A:Array Operand) (ats:Array TypeId):Sr P (.call ⟨.builtin (if m then .max else .min),A,ats⟩) (.Jk m) A.toList:=by
 intro o ho φ h nx w ρ args v h' hr s _ ha
 obtain⟨dst,op,type,pos,after,guard⟩:=o
 simp only at ho;subst ho
 simp only[VOp.run] at hr
 unfold Tl at hr
 split at hr
 ·next k x xs0=>
  unfold Dh at hr
  split at hr
  ·next r hm=>
   cases hr
   generalize hmm:A.toList.map ρ=vs at ha
   cases ha with
   |cons hx ha=>
   have hx:_=Value.int k x:=hx
   subst hx
   obtain⟨v',h1,h2⟩:=eR (P:=P) (w:=w) m k _ _ _ _ hm ha
   refine A6 (v':=v') s ?_ h2
   rw[Bw]
   cases m
   ·simp only[Fj,if_false] at h1 ⊢
    simp[builtin,Builtin.min_,hmm,h1]
   ·simp only[if_true] at h1 ⊢
    simp[builtin,Builtin.max_,hmm,h1]
  ·cases hr
 ·cases hr
theorem Xe {P:Program} (A:Array Operand) (ats:Array TypeId) {st xt e:TypeId} {d:TypeDesc} {es by':Nat} (h0:ats[0]?=some st) (hst:P.underlying st=some (.slice e))
  (h1:ats[1]?=some xt) (hxt:P.underlying xt=some d) (hd:d=.string∨∃u,d=.slice u) (hes:Cw P e=some es) (hby:Vp P e=some by') (hby0:by'≠0) {z:List SV} (hz:Ju P e=some z) (hzl:z.length=es) :
  Sr P (.call ⟨.builtin .append,A,ats⟩) (.append es by') A.toList:=by
 intro o ho φ h nx w ρ args v h' hr s hb ha
 obtain⟨dst,op,type,pos,after,guard⟩:=o
 simp only at ho;subst ho
 simp only[VOp.run] at hr
 unfold Nh at hr
 split at hr
 ·next sv x=>
  split at hr
  ·next new n hsrc=>
   split at hr
   ·next r h2 hap=>
    cases hr
    obtain⟨vs,vx,e1,e2,e3⟩:=NZ ha
    obtain⟨v',w',f1,f2⟩:=qK (ty:=type) s hb h0 hst h1 hxt hd hes hby hby0 hz hzl hsrc e3 e2 hap
    refine⟨v',w',.inl ?_,f2⟩
    rw[Bw,e1]
    simp[builtin,f1]
   ·cases hr
  ·cases hr
 ·cases hr
theorem xN {P:Program} (A:Array Operand) (ats:Array TypeId) {st e:TypeId} {es:Nat} (h0:ats[0]?=some st) (hst:P.underlying st=some (.slice e)) (hes:Cw P e=some es) :
  Sr P (.call ⟨.builtin .copy,A,ats⟩) (.copy es) A.toList:=by
 intro o ho φ h nx w ρ args v h' hr s _ ha
 obtain⟨dst,op,type,pos,after,guard⟩:=o
 simp only at ho;subst ho
 simp only[VOp.run] at hr
 unfold O6 at hr
 split at hr
 ·next dv x=>
  split at hr
  ·next src n hsrc=>
   obtain⟨vd,vx,e1,e2,e3⟩:=NZ ha
   obtain⟨hnl,hlen,vs,hnv,hfirst⟩:=Xc (P:=P) s hsrc e3
   split at hr
   ·cases hr
    have e2:vd=.slice none 0 0:=e2
    have hf:=hfirst 0 w (Zl) rfl
    refine A6 (v':=.int .i64 ((0:Nat):Int)) s ?_ rfl
    rw[Bw,e1,e2]
    simp[builtin,Builtin.copy_,h0,run_underlying hst,hlen,run_sizeOf hes,hf,goInt]
   ·next b o' len es' cap=>
    split at hr
    ·next hee=>
     subst hee
     obtain⟨a,C,rfl,hlc,hcap,hloc⟩:=e2
     have hmle:Nat.min n len≤n:=Nat.min_le_left n len
     have hf:=hfirst (Nat.min n len) w hmle rfl
     split at hr
     ·next hmin=>
      cases hr
      have hmin':Nat.min n len=0:=hmin
      refine A6 (v':=.int .i64 ((0:Nat):Int)) s ?_ rfl
      rw[Bw,e1]
      rw[hmin'] at hf
      simp at hf
      simp[builtin,Builtin.copy_,h0,run_underlying hst,hlen,run_sizeOf hes,hmin',hf,goInt,storeCells]
     ·next hmin=>
      split at hr
      ·next h2 hw=>
       cases hr
       have hC:C≠0:=by
        have:min n len≤len:=Nat.min_le_right n len
        omega
       obtain⟨l,f1,rfl,_⟩:=hloc.resolve_left hC
       have hv:=Ce (min n len*es) hnv
       obtain⟨arr,t,g1,g2,g3,g4,g5⟩:=s.write f1 hv hw
       have hst':=run_storeCells_at P l.blk (o'+l.off) t (vs.take (min n len*es)) 0 arr w g1 (by simpa using g2) (Y1 hv)
       simp only[Nat.add_zero] at hst'
       refine⟨.int .i64 (min n len:Nat),w.setRow l.blk (over arr (o'+l.off) (vs.take (min n len*es))),.inl ?_,φ,fun nx' k1 _=>g4.up k1,by rw[g3];exact g5 _,rfl⟩
       rw[Bw,e1]
       have hst2:(storeCells ⟨l.blk,o'+l.off,none⟩ (vs.take (Nat.min n len*es))).run P w=.ok () (w.setRow l.blk (over arr (o'+l.off) (vs.take (min n len*es)))):=hst'
       simp only[builtin,Builtin.copy_,h0,List.getElem?_toArray,List.getElem?_cons_zero,List.getElem?_cons_succ,Sem.run_bind,run_underlying hst,Result.andThen_ok,hlen,run_sizeOf hes,hf,hst2,Sem.run_pure,goInt]
      ·cases hr
    ·cases hr
   ·cases hr
  ·cases hr
 ·cases hr
theorem qL (P:Program) (b:Builtin) (A:Array Operand) (ats:Array TypeId):Ok P (.call ⟨.builtin b,A,ats⟩):=by
 intro vop xs hc
 simp only[cOp,Me] at hc
 split at hc
 ·next hu=>cases hc;obtain⟨t,h0,hu⟩:=bind_some hu;exact mC A ats h0 hu
 ·next e hu=>cases hc;obtain⟨t,h0,hu⟩:=bind_some hu;exact xL A ats h0 hu
 ·next n e hu=>cases hc;obtain⟨t,h0,hu⟩:=bind_some hu;exact mD A ats h0 hu
 ·next a b hu=>cases hc;obtain⟨t,h0,hu⟩:=bind_some hu;exact xM A ats h0 hu
 ·next e hu=>cases hc;obtain⟨t,h0,hu⟩:=bind_some hu;exact AP A ats h0 hu
 ·cases hc;exact Xd false A ats
 ·cases hc;exact Xd true A ats
 ·next e hu=>
  obtain⟨t,h0,hu⟩:=bind_some hu
  split at hc
  ·next u n k z h1 hn hk hz=>
   split at hc
   ·cases hc
   ·next hcond=>
    cases hc
    obtain⟨xt,h1,hxt⟩:=bind_some h1
    simp only[ne_eq,not_or,Classical.not_not] at hcond
    exact Xe A ats h0 hu h1 hxt (.inr ⟨_,rfl⟩) hn hk hcond.1 hz hcond.2
  ·next n k z h1 hn hk hz=>
   split at hc
   ·cases hc
   ·next hcond=>
    cases hc
    obtain⟨xt,h1,hxt⟩:=bind_some h1
    simp only[ne_eq,not_or,Classical.not_not] at hcond
    exact Xe A ats h0 hu h1 hxt (.inl rfl) hn hk hcond.1 hz hcond.2
  ·cases hc
 ·next e hu=>
  obtain⟨t,h0,hu⟩:=bind_some hu
  cases hn:Cw P e with
  |none=>simp[hn] at hc
  |some n=>
   simp only[hn,Option.map_some,Sj,Pj,Bl.op.injEq] at hc
   obtain⟨rfl,rfl⟩:=hc
   exact xN A ats h0 hu hn
 ·cases hc
end Go.Vm
end
section
noncomputable section
namespace Go.Vm
open Key (kn)
section
variable {P:Program} {w:World} {φ:Emb}
theorem Nr {t:TypeId} {ks:G7} (h:Ec P t=some ks):match ks with
  |.one k=>shapeOf P t=some none∧leaves P 20 t=some [k]
  |.agg l=>(∃n,shapeOf P t=some (some n))∧leaves P 20 t=some l:=by
 unfold Ec at h
 split at h
 ·next k h1 h2=>cases h;exact⟨h1,h2⟩
 ·next n l h1 h2=>cases h;exact⟨⟨n,h1⟩,h2⟩
 ·cases h
theorem Fs (empty:Bool):∀(d:Nat) (t:TypeId) (ks:List Ew),leaves P d t=some ks→∀(D:Nat),d≤D→∀(xs:List SV) (v:Value),xs.length=ks.length→Fk P φ t xs v →
  (Instr.checkKey empty D t v).run P w=.ok () w
 |0,t,ks,h=>by simp[leaves] at h
 |d+1,t,ks,h=>by
  intro D hD xs v hl hv
  obtain⟨D,rfl⟩:∃D',D=D'+1:=⟨D-1,by omega⟩
  simp only[leaves] at h
  split at h
  ·next hu=>simp[Instr.checkKey,run_underlying hu]
  ·next i hu=>simp[Instr.checkKey,run_underlying hu]
  ·next hu=>simp[Instr.checkKey,run_underlying hu]
  ·next fs hu=>
   split at h
   ·cases h
   ·have hsh:shapeOf P t≠some none:=fun e=>by
     unfold shapeOf at e
     cases hi:P.info? t<;>simp[hu,hi] at e
    rcases hv with⟨hn,_⟩|⟨n,_,vs,rfl,hv⟩
    ·exact absurd hn hsh
    ·simp only[Instr.checkKey,Sem.run_bind,run_underlying hu,Result.andThen_ok]
     rw[←Array.forIn_toList]
     have key:∀(fs:List Field) (off:Nat) (q:List Ew),Nm P (leaves P d) fs off=some q→off+q.length=xs.length →
       (forIn (m := Sem) fs () (fun f _ => if f.name ≠ "_" then do Instr.checkKey empty D f.type (← part f.type vs.toArray f.offset); pure (ForInStep.yield ()) else pure (ForInStep.yield ()))).run P w = .ok () w := by
      intro fs
      induction fs with
      |nil=>intro off q _ _;simp
      |cons f fs ih=>
       intro off q hq hlen
       simp only[Nm] at hq
       split at hq
       ·next hc=>
        split at hq
        ·next l hl=>
         split at hq
         ·next hsz=>
          split at hq
          ·next q' hq'=>
           cases hq
           have hone:shapeOf P f.type=some none→l.length=1:=(Gf (w:=w) (φ:=φ) d f.type l hl).1
           simp only[La] at hlen
           obtain⟨a,ha,hca⟩:=Qt (w:=w) (off:=off) hc.2.2 hsz hv (by omega) hone
           have hck:=Fs empty d f.type l hl D (by omega) _ a (by simp;omega) hca
           simp only[List.forIn_cons,hc.1,ne_eq,not_false_eq_true,if_true,Sem.run_bind,hc.2.1,ha,Result.andThen_ok,hck,Sem.run_pure]
           exact ih (off+l.length) q' hq' (by omega)
          ·cases hq
         ·cases hq
        ·cases hq
       ·cases hq
     have:=key fs.toList 0 ks h (by omega)
     simp only[ne_eq] at this ⊢
     rw[this]
     simp
  ·next n e hu=>
   split at h
   ·next hc=>
    split at h
    ·next l hll=>
     split at h
     ·next hsz=>
      cases h
      have hsh:shapeOf P t≠some none:=fun e=>by
       unfold shapeOf at e
       cases hi:P.info? t<;>simp[hu,hi] at e
      rcases hv with⟨hn,_⟩|⟨_,_,vs,rfl,hv⟩
      ·exact absurd hn hsh
      ·simp only[Instr.checkKey,Sem.run_bind,run_underlying hu,Result.andThen_ok]
       rw[Std.Legacy.Range.forIn_eq_forIn_range']
       simp only[Std.Legacy.Range.size,Nat.sub_zero,Nat.add_one_sub_one,Nat.div_one]
       have hone:shapeOf P e=some none→l.length=1:=(Gf (w:=w) (φ:=φ) d e l hll).1
       have hrl:∀n,(lK l n).length=n*l.length:=by
        intro n
        induction n with
        |zero=>simp[lK]
        |succ n ih=>simp[lK,ih,Nat.add_mul,Nat.add_comm]
       have key:∀(m i:Nat),(i+m)*l.length≤xs.length →
         (forIn (m:=Sem) (List.range' i m) () (fun i _=>do Instr.checkKey empty D e (←part e vs.toArray (i*(←sizeOf e)));pure (ForInStep.yield ()))).run P w=.ok () w:=by
        intro m
        induction m with
        |zero=>intro i _;simp
        |succ m ih=>
         intro i hle
         have hle2:i*l.length+l.length≤xs.length:=by
          have:(i+1)*l.length≤(i+(m+1))*l.length:=Nat.mul_le_mul_right _ (by omega)
          rw[Nat.add_mul,Nat.one_mul] at this
          omega
         obtain⟨a,ha,hca⟩:=Qt (w:=w) (off:=i*l.length) hc.1 hsz hv hle2 hone
         have hck:=Fs empty d e l hll D (by omega) _ a (by simp;omega) hca
         simp only[List.range'_succ,List.forIn_cons,Sem.run_bind,run_sizeOf hsz,Result.andThen_ok,ha,hck,Sem.run_pure]
         exact ih (i+1) (by rw[show i+1+m=i+(m+1) from by omega];exact hle)
       rw[hrl] at hl
       rw[key n 0 (by rw[Nat.zero_add];omega)]
       simp
     ·cases h
    ·cases h
   ·cases h
  ·cases h
theorem Pk (empty:Bool) {t:TypeId} {ks:G7} (hk:Ec P t=some ks) {k:CV} {v:Value} (hv:E3 φ k v) (hlen:match ks,k with|.one _,.s _=>True|.agg l,.agg cs=>cs.length=l.length|_,_=>False) :
  (Instr.checkKey empty 10000 t v).run P w=.ok () w:=by
 have spec:=Nr hk
 cases ks with
 |one l=>cases k with
  |s x=>exact Fs (φ:=φ) empty 20 t [l] spec.2 10000 (by omega) [x] v rfl (.inl ⟨spec.1,x,rfl,hv⟩)
  |agg cs=>exact hlen.elim
 |agg l=>cases k with
  |s x=>exact hlen.elim
  |agg cs=>
   obtain⟨⟨n,hn⟩,hl⟩:=spec
   obtain⟨vs,rfl,hvs⟩:=hv
   exact Fs (φ:=φ) empty 20 t l hl 10000 (by omega) cs _ hlen (.inr ⟨n,hn,vs,rfl,hvs⟩)
theorem Qu {t:TypeId} {ks:G7} (hk:Ec P t=some ks) {x y:CV} {v1 v2:Value} {r:Bool} (h1:E3 φ x v1) (h2:E3 φ y v2) (he:lE ks x y=some r):(Op.equal t v1 v2).run P w=.ok r w:=by
 have spec:=Nr hk
 unfold lE at he
 split at he
 ·next k a b=>
  exact(Gf (w:=w) (φ:=φ) 20 t [k] spec.2).2 10000 (by omega) [a] [b] v1 v2 r (by simp[Bi,he]) (.inl ⟨spec.1,a,rfl,h1⟩) (.inl ⟨spec.1,b,rfl,h2⟩)
 ·next l a b=>
  obtain⟨⟨n,hn⟩,hl⟩:=spec
  obtain⟨va,rfl,hva⟩:=h1
  obtain⟨vb,rfl,hvb⟩:=h2
  exact(Gf (w:=w) (φ:=φ) 20 t l hl).2 10000 (by omega) a b _ _ r he (.inr ⟨n,hn,va,rfl,hva⟩) (.inr ⟨n,hn,vb,rfl,hvb⟩)
 ·cases he
theorem Z9 {t:TypeId} {d:TypeDesc} (hu:P.underlying t=some d) {a b:Value} {r:Bool} (h:Instr.sameNow d a b=some r):(Op.equal t a b).run P w=.ok r w:=by
 unfold Instr.sameNow at h
 split at h
 ·next k0 k x k' y=>
  split at h
  ·next hk=>subst hk;cases h;exact run_equalIn_int w _ t k k0 x y hu
  ·cases h
 ·next x y=>
  cases h
  have:=run_equalIn_string w 9999 t x y hu
  rw[←beq_toListBytes] at this
  exact this
 ·next x y=>cases h;exact run_equalIn_bool' w _ t x y hu
 ·cases h
theorem aA {t:TypeId} {d:TypeDesc} (hu:P.underlying t=some d) {k:Value}:∀(es:List MapEntry) (i:Nat) (r:Option (Nat×Value)),Instr.findNow d k es i=some r→(Instr.findAsking t k es i).run P w=.ok r w
 |[],i,r,h=>by simp[Instr.findNow] at h;subst h;simp[Instr.findAsking]
 |e::es,i,r,h=>by
  simp only[Instr.findNow] at h
  split at h
  ·next hs=>cases h;simp[Instr.findAsking,Z9 hu hs]
  ·next hs=>simp only[Instr.findAsking,Sem.run_bind,Z9 hu hs,Result.andThen_ok,Fj,if_false];exact aA hu es (i+1) r h
  ·cases h
theorem Jx {t:TypeId} {d:TypeDesc} (hu:P.underlying t=some d) (k:Value) (es:List MapEntry):(Instr.findKey t k es).run P w=(Instr.findAsking t k es).run P w:=by
 simp only[Instr.findKey,Sem.run_bind,run_underlying hu,Result.andThen_ok]
 cases h:Instr.findNow d k es 0 with
 |none=>rfl
 |some r=>simp only[Sem.run_pure];rw[aA hu es 0 r h]
theorem eS {t:TypeId} {ks:G7} (hk:Ec P t=some ks) {k:CV} {vk:Value} (hv:E3 φ k vk):∀(l:List (CV×CV)) (es:List MapEntry) (i:Nat) (r:Option CV),O2 ks k l=some r →
  Aa (fun p (e:MapEntry)=>E3 φ p.1 e.key∧E3 φ p.2 e.val) l es →
  (r=none∧(Instr.findAsking t vk es i).run P w=.ok none w)∨(∃j e c,r=some c∧es[j]?=some e∧E3 φ c e.val∧(Instr.findAsking t vk es i).run P w=.ok (some (i+j,e.val)) w)
 |[],es,i,r,h,ha=>by
  cases ha
  simp[O2] at h
  subst h
  exact .inl ⟨rfl,by simp[Instr.findAsking]⟩
 |(x,v)::l,es,i,r,h,ha=>by
  cases ha with
  |@cons _ e _ es hx ha=>
  unfold O2 at h
  split at h
  ·next he=>
   cases h
   exact .inr ⟨0,e,v,rfl,rfl,hx.2,by simp[Instr.findAsking,Qu hk hv hx.1 he]⟩
  ·next he=>
   rcases eS hk hv l es (i+1) r h ha with⟨rfl,h2⟩|⟨j,e',c,rfl,h2,h3,h4⟩
   ·exact .inl ⟨rfl,by simp[Instr.findAsking,Qu hk hv hx.1 he,h2]⟩
   ·refine .inr ⟨j+1,e',c,rfl,h2,h3,?_⟩
    simp only[Instr.findAsking,Sem.run_bind,Qu hk hv hx.1 he,Result.andThen_ok,Fj,if_false,h4]
    rw[show i+1+j=i+(j+1) from by omega]
  ·cases h
end
theorem xO (P:Program) (t:TypeId) (x i:Operand) (ok:Bool):Ok P (.lookup t x i ok):=by
 intro vop xs hc
 simp only[cOp] at hc
 split at hc
 ·next kt vt hu=>
  split at hc
  ·next ks z hk hz=>
   cases hc
   intro o ho φ h nx w ρ args v h' hr s _ ha
   obtain⟨dst,op,type,pos,after,guard⟩:=o
   simp only at ho;subst ho
   simp only[VOp.run] at hr
   unfold Dq at hr
   split at hr
   ·next k=>
    split at hr
    ·next hfit=>
     cases hr
     obtain⟨a1,a2⟩:=Zx ha
     have e1:ρ x=.map none:=a1
     have hck:=Pk (P:=P) (w:=w) true hk a2 (by unfold Fp at hfit;split at hfit<;>simp_all)
     obtain⟨it,zv,h1,h2,h3⟩:=Z8 (φ:=φ) hz
     obtain⟨d,hd⟩:∃d,P.underlying kt=some d:=by
      have:=Nr hk
      cases hd:P.underlying kt with
      |some d=>exact⟨d,rfl⟩
      |none=>
       unfold Ec at hk
       simp[shapeOf,hd] at hk
     have hf:(Instr.findKey kt (ρ i) []).run P w=.ok none w:=by rw[Jx hd];simp[Instr.findAsking]
     cases ok
     ·exact A6 (v':=zv) s (by simp[execOp,Instr.lookup,run_underlying hu,e1,hck,hf,Mg h1 h2]) h3
     ·exact A6 (v':=.tuple #[zv,.bool false]) s (by simp[execOp,Instr.lookup,run_underlying hu,e1,hck,hf,Mg h1 h2]) ⟨[zv,.bool false],rfl,.cons h3 (.cons rfl .nil)⟩
    ·cases hr
   ·next bk k=>
    split at hr
    ·next hfit=>
     split at hr
     ·next l own anc hg=>
      split at hr
      ·next r hfind=>
       cases hr
       obtain⟨a1,a2⟩:=Zx ha
       obtain⟨lc,e0,e1⟩:=a1
       obtain⟨arr,f1,_,f3⟩:=s.map e0 hg
       have hck:=Pk (P:=P) (w:=w) arr.isEmpty hk a2 (by unfold Fp at hfit;split at hfit<;>simp_all)
       obtain⟨it,zv,h1,h2,h3⟩:=Z8 (φ:=φ) hz
       obtain⟨d,hd⟩:∃d,P.underlying kt=some d:=by
        cases hd:P.underlying kt with
        |some d=>exact⟨d,rfl⟩
        |none=>
         unfold Ec at hk
         simp[shapeOf,hd] at hk
       have hobj:=Cm (P:=P) f1 (by simp)
       rcases eS (w:=w) hk a2 l arr.toList 0 r hfind f3 with⟨rfl,h4⟩|⟨j,e,c,rfl,_,h5,h4⟩
       ·have hf:(Instr.findKey kt (ρ i) arr.toList).run P w=.ok none w:=by rw[Jx hd];exact h4
        cases ok
        ·exact A6 (v':=zv) s (by simp[execOp,Instr.lookup,run_underlying hu,e1,hobj,hck,hf,Mg h1 h2]) h3
        ·exact A6 (v':=.tuple #[zv,.bool false]) s (by simp[execOp,Instr.lookup,run_underlying hu,e1,hobj,hck,hf,Mg h1 h2]) ⟨[zv,.bool false],rfl,.cons h3 (.cons rfl .nil)⟩
       ·have hf:(Instr.findKey kt (ρ i) arr.toList).run P w=.ok (some (0+j,e.val)) w:=by rw[Jx hd];exact h4
        cases ok
        ·exact A6 (v':=e.val) s (by simp[execOp,Instr.lookup,run_underlying hu,e1,hobj,hck,hf]) h5
        ·exact A6 (v':=.tuple #[e.val,.bool true]) s (by simp[execOp,Instr.lookup,run_underlying hu,e1,hobj,hck,hf]) ⟨[e.val,.bool true],rfl,.cons h5 (.cons rfl .nil)⟩
      ·cases hr
     ·cases hr
    ·cases hr
   ·cases hr
  ·cases hc
 ·cases hc
end Go.Vm
end
section
noncomputable section
namespace Go.Vm
open Key (kn)
theorem Sim.qM {φ:Emb} {g:Mem} {nx:Nat} {w w':World} (s:Sim φ g nx w) {b:Key} {lc:Loc} (hφ:φ b=some lc) {body body':Body} (hg:g b=some ⟨body,true,[]⟩) {o':Obj} (hr:Rp φ lc true body' o')
  (hw:w'.heap=w.heap.setIfInBounds lc.blk o') (ho:w'.os=w.os∧w'.output=w.output:=by exact⟨rfl,rfl⟩) :
  Sim φ (fun k=>if b=k then some ⟨body',true,[]⟩ else g k) nx w'∧∀lo,Ext φ g lo w φ (fun k=>if b=k then some ⟨body',true,[]⟩ else g k) lo w':=by
 have hlt:lc.blk<w.heap.size:=s.lt hg hφ
 have hother:∀k x lk,b≠k→g k=some x→φ k=some lk→lk.blk≠lc.blk:=fun k x lk hne h1 h2 h3=>by
  have:=(s.sep b _ lc k x lk hg hφ h1 h2 h3.symm hne rfl).1
  simp at this
 refine⟨⟨fun k x lk h1 h2=>?_,fun k x lk k' x' lk' h1 h2 h3 h4 h5 h6 h7=>?_,s.fresh⟩,fun lo=>⟨Le.refl φ,fun _ h _=>h,Rl,by rw[hw];simp,fun r ob hr' hn=>?_,fun k x lk h1 h2 h3 _=>?_,fun k lk h1 h2 _=>(by rw[h1] at h2;cases h2),ho⟩⟩
 ·by_cases hk:b=k
  ·subst hk
   simp only[if_true] at h1
   cases h1
   rw[hφ] at h2;cases h2
   exact⟨o',by rw[hw];simp[hlt],hr⟩
  ·simp only[hk,if_false] at h1
   obtain⟨o,ho,hro⟩:=s.blk k x lk h1 h2
   exact⟨o,by rw[hw,Array.getElem?_setIfInBounds_ne (Ne.symm (hother k x lk hk h1 h2))];exact ho,hro⟩
 ·by_cases hk:b=k
  ·subst hk
   rw[hφ] at h2;cases h2
   simp only[h6,if_false] at h3
   exact absurd h5.symm (hother k' x' lk' h6 h3 h4)
  ·simp only[hk,if_false] at h1
   by_cases hk':b=k'
   ·subst hk'
    rw[hφ] at h4;cases h4
    exact absurd h5 (hother k x lk hk h1 h2)
   ·simp only[hk',if_false] at h3
    exact s.sep k x lk k' x' lk' h1 h2 h3 h4 h5 h6 h7
 ·have hne:lc.blk≠r:=fun e=>hn b _ lc hg rfl hφ e
  rw[hw,Array.getElem?_setIfInBounds_ne hne];exact hr'
 ·by_cases hk:b=k
  ·subst hk;exact⟨b,_,lc,hg,rfl,hφ,by rw[hφ] at h3;cases h3;rfl⟩
  ·simp only[hk,if_false] at h1
   exact⟨k,x,lk,h1,h2,h3,rfl⟩
section
variable {P:Program} {w:World} {φ:Emb}
theorem Ns {r:Nat} {o o':Obj} (h:w.heap[r]?=some o) (hn:∀c e f,o≠.cells c e f):(setObj r o').run P w=.ok () { w with heap:=w.heap.setIfInBounds r o' }:=by
 cases o with
 |cells c e f=>exact absurd rfl (hn c e f)
 |_=>simp only[setObj,Sem.run,h]
theorem Xf {k:Ew} {x y:SV} (h:Vi k x y=some true):x=y:=by
 unfold Vi at h
 split at h
 ·simp at h;rw[h]
 ·split at h
  ·next hk=>subst hk;simp at h;rw[h]
  ·cases h
 ·simp at h;rw[h]
 ·cases h
theorem Tv:∀{ks:List Ew} {xs ys:List SV},Bi ks xs ys=some true→xs=ys
 |[],[],[],_=>rfl
 |[],[],_::_,h=>by simp[Bi] at h
 |[],_::_,_,h=>by simp[Bi] at h
 |_::_,[],_,h=>by simp[Bi] at h
 |_::_,_::_,[],h=>by simp[Bi] at h
 |k::ks,x::xs,y::ys,h=>by
  simp only[Bi] at h
  split at h
  ·next r hr=>
   split at h
   ·next q hq=>
    simp at h
    obtain⟨rfl,rfl⟩:=h
    rw[Xf hr,Tv hq]
   ·cases h
  ·cases h
theorem xP {ks:G7} {x y:CV} (h:lE ks x y=some true):x=y:=by
 unfold lE at h
 split at h
 ·rw[Xf h]
 ·rw[Tv h]
 ·cases h
theorem run_keyThatStays (old new:Value):∃k w',(Instr.keyThatStays old new).run P w=.ok k w'∧w'.heap=w.heap∧(k=old∨k=new)∧w'.os=w.os∧w'.output=w.output:=by
 unfold Instr.keyThatStays
 by_cases h:Instr.sameBits 10000 old new=true
 ·exact⟨new,w,by simp only[h,if_true,Sem.run_pure],rfl,.inr rfl,rfl,rfl⟩
 ·simp only[h,if_false,Sem.run_bind,run_choose,Question.forced,Fj,Sem.run_pure]
  refine⟨_,_,rfl,rfl,?_,rfl,rfl⟩
  split
  ·exact .inr rfl
  ·exact .inl rfl
def OC (φ:Emb) (p:CV×CV) (e:MapEntry):Prop:=E3 φ p.1 e.key∧E3 φ p.2 e.val
theorem mE {t:TypeId} {ks:G7} (hk:Ec P t=some ks) {k v:CV} {vk:Value} (hv:E3 φ k vk):∀(l l':List (CV×CV)) (es:List MapEntry) (i:Nat),Wz ks k v l=some l'→Aa (OC φ) l es →
  ((Instr.findAsking t vk es i).run P w=.ok none w∧l'=l++[(k,v)]) ∨
  (∃j e,es[j]?=some e∧(Instr.findAsking t vk es i).run P w=.ok (some (i+j,e.val)) w∧E3 φ k e.key∧∀e',OC φ (k,v) e'→Aa (OC φ) l' (es.set j e'))
 |[],l',es,i,h,ha=>by
  cases ha
  simp[Wz] at h
  subst h
  exact .inl ⟨by simp[Instr.findAsking],rfl⟩
 |(x,u)::l,l',es,i,h,ha=>by
  cases ha with
  |@cons _ e _ es hx ha=>
  unfold Wz at h
  split at h
  ·next he=>
   cases h
   have:=xP he
   subst this
   exact .inr ⟨0,e,rfl,by simp[Instr.findAsking,Qu hk hv hx.1 he],hx.1,fun e' he'=>.cons he' ha⟩
  ·next he=>
   split at h
   ·next r hr=>
    cases h
    rcases mE hk hv l r es (i+1) hr ha with⟨h2,rfl⟩|⟨j,e',h1,h2,h3,h4⟩
    ·exact .inl ⟨by simp[Instr.findAsking,Qu hk hv hx.1 he,h2],rfl⟩
    ·refine .inr ⟨j+1,e',h1,?_,h3,fun e2 he2=>.cons hx (h4 e2 he2)⟩
     simp only[Instr.findAsking,Sem.run_bind,Qu hk hv hx.1 he,Result.andThen_ok,Fj,if_false,h2]
     rw[show i+1+j=i+(j+1) from by omega]
   ·cases h
  ·cases h
end
theorem eT {P:Program} {t kt vt:TypeId} (hu:P.underlying t=some (.map kt vt)) {ks:G7} (hk:Ec P kt=some ks) (op:Op) (m k x:Operand)
  (hop:∀(ρ:Operand→Value) (dst:Option Tmp) (ty:TypeId) (pos:String) (af:Array Edge) (g:Option (Nat×Bool)),execOp ρ ⟨dst,op,ty,pos,af,g⟩=(do Instr.mapUpdate t (ρ m) (ρ k) (ρ x);pure .skip)) :
  Sr P op (.Gq ks) [m,k,x]:=by
 intro o ho φ h nx w ρ args v h' hr s _ ha
 obtain⟨dst,op,type,pos,after,guard⟩:=o
 simp only at ho;subst ho
 simp only[VOp.run] at hr
 unfold Ng at hr
 split at hr
 ·next bk kc vc=>
  split at hr
  ·next hfit=>
   split at hr
   ·next l hg=>
    split at hr
    ·next l' hset=>
     cases hr
     obtain⟨⟨lc,e0,e1⟩,a2,a3⟩:=RX ha
     obtain⟨arr,f1,f2,f3⟩:=s.map e0 hg
     have hck:=Pk (P:=P) (w:=w) false hk a2 (by unfold Fp at hfit;split at hfit<;>simp_all)
     obtain⟨d,hd⟩:∃d,P.underlying kt=some d:=by
      cases hd:P.underlying kt with
      |some d=>exact⟨d,rfl⟩
      |none=>
       unfold Ec at hk
       simp[shapeOf,hd] at hk
     have hobj:=Cm (P:=P) f1 (by simp)
     have hnx:∀b:Option Blk,(h.upd bk b).next=h.next:=fun _=>rfl
     rcases mE (w:=w) hk a2 l l' arr.toList 0 hset f3 with⟨h1,rfl⟩|⟨j,e,h1,h2,h3,h4⟩
     ·have hf:(Instr.findKey kt (ρ k) arr.toList).run P w=.ok none w:=by rw[Jx hd];exact h1
      have hrel:Rp φ lc true (.map (l++[(kc,vc)])) (.map (arr.push { key:=ρ k,val:=ρ x,born:=arr.size }) (arr.size+1)):=by
       refine⟨arr.push { key:=ρ k,val:=ρ x,born:=arr.size },by simp,fun i hi=>?_,?_⟩
       ·by_cases hi2:i<arr.size
        ·simp[Array.getElem_push,hi2,f2 i hi2]
        ·have:i=arr.size:=by simp at hi;omega
         subst this;simp
       ·rw[Array.toList_push]
        exact A0 f3 (.cons ⟨a2,a3⟩ .nil)
      obtain⟨g1,g2⟩:=s.qM (w':={ w with heap:=w.heap.setIfInBounds lc.blk (.map (arr.push { key:=ρ k,val:=ρ x,born:=arr.size }) (arr.size+1)) }) e0 hg hrel rfl
      refine⟨undef,_,.inr ⟨?_,rfl⟩,φ,fun nx' k1 _=>by rw[Av];exact g1.up k1,by rw[Av];exact g2 _,⟨[],rfl,.nil⟩⟩
      rw[hop]
      simp[Instr.mapUpdate,run_underlying hu,e1,hobj,hck,hf,Ns (P:=P) f1 (by simp)]
     ·have hf:(Instr.findKey kt (ρ k) arr.toList).run P w=.ok (some (0+j,e.val)) w:=by rw[Jx hd];exact h2
      have hjlt:j<arr.size:=by
       have:=(Gi.1 h1).1
       simpa using this
      have hje:arr[j]?=some e:=by rw[←Array.getElem?_toList];exact h1
      obtain⟨key',w1,k1,k2,k3,k4⟩:=run_keyThatStays (P:=P) (w:=w) e.key (ρ k)
      have hkey:E3 φ kc key':=by
       rcases k3 with rfl|rfl
       ·exact h3
       ·exact a2
      have hmod:(arr.modify (0+j) fun e=>{ e with key:=key',val:=ρ x })=arr.setIfInBounds j { e with key:=key',val:=ρ x }:=by
       apply Array.ext_getElem?
       intro i
       rw[Array.getElem?_modify,Nat.zero_add]
       by_cases hij:j=i
       ·subst hij
        rw[if_pos rfl,hje,Array.getElem?_setIfInBounds_self_of_lt hjlt]
        rfl
       ·rw[if_neg hij,Array.getElem?_setIfInBounds_ne hij]
      have hrel:Rp φ lc true (.map l') (.map (arr.setIfInBounds j { e with key:=key',val:=ρ x }) arr.size):=by
       refine⟨arr.setIfInBounds j { e with key:=key',val:=ρ x },by simp,fun i hi=>?_,?_⟩
       ·have hi':i<arr.size:=by simpa using hi
        have hb1:=f2 i hi'
        by_cases hij:j=i
        ·subst hij
         have:arr[j]=e:=by
          have:=hje
          rw[Array.getElem?_eq_getElem hjlt] at this
          simpa using this
         rw[Array.getElem_setIfInBounds_self]
         show e.born=_
         rw[←this];exact hb1
        ·rw[Array.getElem_setIfInBounds_ne _ hij];exact hb1
       ·rw[Array.toList_setIfInBounds]
        exact h4 _ ⟨hkey,a3⟩
      obtain⟨g1,g2⟩:=s.qM (w':={ w1 with heap:=w1.heap.setIfInBounds lc.blk (.map (arr.setIfInBounds j { e with key:=key',val:=ρ x }) arr.size) }) e0 hg hrel (by simp[k2]) k4
      refine⟨undef,_,.inr ⟨?_,rfl⟩,φ,fun nx' k1 _=>by rw[Av];exact g1.up k1,by rw[Av];exact g2 _,⟨[],rfl,.nil⟩⟩
      rw[hop]
      have hset':=Ns (P:=P) (w:=w1) (r:=lc.blk) (o':=.map (arr.setIfInBounds j { e with key:=key',val:=ρ x }) arr.size) (by rw[k2];exact f1) (by simp)
      simp only[Instr.mapUpdate,Sem.run_bind,run_underlying hu,e1,hobj,hck,hf,Result.andThen_ok,Nat.zero_add,hje,Option.map_some,Option.getD_some,k1]
      rw[Nat.zero_add] at hmod
      simp only[hmod,hset',Result.andThen_ok,Sem.run_pure]
    ·cases hr
   ·cases hr
  ·cases hr
 ·cases hr
theorem iB (P:Program) (t:TypeId) (m k x:Operand):Ok P (.mapUpdate t m k x):=by
 intro vop xs hc
 simp only[cOp] at hc
 split at hc
 ·next kt vt hu=>
  cases hk:Ec P kt with
  |none=>simp[hk] at hc
  |some ks=>
   simp only[hk,Option.map_some,Sj,Pj,Bl.op.injEq] at hc
   obtain⟨rfl,rfl⟩:=hc
   exact eT hu hk _ m k x (fun _ _ _ _ _ _=>rfl)
 ·cases hc
theorem xQ (P:Program) (t:TypeId) (m k x:Operand):Ok P (.insert t m k x):=by
 intro vop xs hc
 simp only[cOp] at hc
 split at hc
 ·next kt vt hu=>
  cases hk:Ec P kt with
  |none=>simp[hk] at hc
  |some ks=>
   simp only[hk,Option.map_some,Sj,Pj,Bl.op.injEq] at hc
   obtain⟨rfl,rfl⟩:=hc
   exact eT hu hk _ m k x (fun _ _ _ _ _ _=>rfl)
 ·cases hc
theorem AQ (P:Program) (t:TypeId) (x:Operand):Ok P (.range t x):=by
 intro vop xs hc
 simp only[cOp] at hc
 split at hc
 ·next a b hu=>
  cases hc
  intro o ho φ h nx w ρ args v h' hr s hb ha
  obtain⟨dst,op,type,pos,after,guard⟩:=o
  simp only at ho;subst ho
  simp only[VOp.run] at hr
  unfold Ni at hr
  split at hr
  ·next bk=>
   split at hr
   ·next l own anc hg=>
    split at hr
    ·next hl=>
     cases hr
     obtain⟨lc,e0,e1⟩:=Km ha
     obtain⟨arr,f1,f2,f3⟩:=s.map e0 hg
     have hlen:l.length=arr.size:=by rw[Ah f3];simp
     have hobj:=Cm (P:=P) f1 (by simp)
     have hlc:(φ.set h.next ⟨w.heap.size,0,0⟩) bk=some lc:=Emb.Pe _ hb _ _ e0
     obtain⟨g1,g2⟩:=Pf (w':=w.alloc (.mapIter (some lc.blk) arr.size #[] arr.size)) (o:=.mapIter (some lc.blk) arr.size #[] arr.size) s hb ⟨.iter bk l.length 0,true,[]⟩ ⟨w.heap.size,0,0⟩ rfl rfl
      ⟨rfl,lc,hlc,by rw[hlen];rfl⟩
     exact⟨.pointer (some ⟨w.heap.size,0,none⟩),w.alloc (.mapIter (some lc.blk) arr.size #[] arr.size),.inl (by simp[execOp,Instr.range,run_underlying hu,e1,hobj]),_,g1,g2,⟨_,Emb.A3 _ _ _,rfl⟩⟩
    ·cases hr
   ·cases hr
  ·cases hr
 ·cases hc
theorem Sim.iter {φ:Emb} {h:Ac} {nx:Nat} {w:World} (s:Sim φ h.get nx w) {b m:Key} {lc:Loc} (hφ:φ b=some lc) {n st:Nat} {own:Bool} {anc:List Key} (hg:h.get b=some ⟨.iter m n st,own,anc⟩) :
  lc.off=0∧∃l',φ m=some l'∧w.heap[lc.blk]?=some (.mapIter (some l'.blk) n (if st=0 then #[] else #[0]) n):=by
 obtain⟨o,hw,h0,l',h1,rfl⟩:=s.blk b _ lc hg hφ
 exact⟨h0,l',h1,hw⟩
theorem aB {α:Type} {arr:Array α} (h:arr.size=1):∃e,arr=#[e]:=by
 obtain⟨l⟩:=arr
 match l,h with
 |[e],_=>exact⟨e,rfl⟩
theorem HY (P:Program) (i:Operand) (isString:Bool):Ok P (.next i isString):=by
 intro vop xs hc
 cases isString with
 |true=>simp[cOp] at hc
 |false=>
  simp only[cOp,Sj,Pj,Bl.op.injEq] at hc
  obtain⟨rfl,rfl⟩:=hc
  intro o ho φ h nx w ρ args v h' hr s _ ha
  obtain⟨dst,op,type,pos,after,guard⟩:=o
  simp only at ho;subst ho
  simp only[VOp.run] at hr
  unfold Jn at hr
  split at hr
  ·next ik=>
   split at hr
   ·next b n st hg=>
    split at hr
    ·next l own2 anc2 hg2=>
     split at hr
     ·next hl=>
      obtain⟨lc,e0,e1⟩:=Km ha
      obtain⟨h0,l',f0,f1⟩:=s.iter e0 hg
      obtain⟨arr,f2,f3,f4⟩:=s.map f0 hg2
      have hlen:l.length=arr.size:=by rw[Ah f4];simp
      have e1:ρ i=.pointer (some ⟨lc.blk,0,none⟩):=by rw[e1,h0]
      have hobj:=Cm (P:=P) f1 (by simp)
      have hmap:=Cm (P:=P) f2 (by simp)
      split at hr
      ·next k v _=>
       cases hr
       obtain⟨e,rfl⟩:=aB (arr:=arr) (by rw[←hlen];rfl)
       have hborn:e.born=0:=f3 0 (by simp)
       have hn:n=1:=by rw[←hl];rfl
       subst hn
       simp only[if_true] at f1 hobj
       cases f4 with
       |cons hkv _=>
       obtain⟨g1,g2⟩:=s.qM (w':={ w with heap:=w.heap.setIfInBounds lc.blk (.mapIter (some l'.blk) 1 #[0] 1) }) e0 hg (body':=.iter b 1 1) ⟨h0,l',f0,rfl⟩ rfl
       refine⟨.tuple #[.bool true,e.key,e.val],_,.inl ?_,φ,fun nx' k1 _=>by rw[Av];exact g1.up k1,by rw[Av];exact g2 _,⟨[.bool true,e.key,e.val],rfl,.cons rfl (.cons hkv.1 (.cons hkv.2 .nil))⟩⟩
       have hset:=Ns (P:=P) (o':=.mapIter (some l'.blk) 1 #[0] 1) f1 (by simp)
       simp[execOp,Instr.next,e1,hobj,hmap,hborn,Question.forced,hset]
      ·cases hr
       have hn:n=0:=by rw[←hl];rfl
       have harr:arr=#[]:=Array.eq_empty_of_size_eq_zero (by rw[←hlen];rfl)
       subst harr
       simp only[if_true] at f1 hobj
       refine A6 (v':=.tuple #[.bool false]) s ?_ ⟨[.bool false],rfl,.cons rfl .nil⟩
       simp[execOp,Instr.next,e1,hobj,hmap,Question.forced]
      ·next m' kv=>
       cases hr
       obtain⟨e,rfl⟩:=aB (arr:=arr) (by rw[←hlen];rfl)
       have hborn:e.born=0:=f3 0 (by simp)
       have hn:n=1:=by rw[←hl];rfl
       subst hn
       have hne:¬(m'+1=0):=by omega
       rw[if_neg hne] at f1 hobj
       refine A6 (v':=.tuple #[.bool false]) s ?_ ⟨[.bool false],rfl,.cons rfl .nil⟩
       simp[execOp,Instr.next,e1,hobj,hmap,hborn,Question.forced]
      ·cases hr
     ·cases hr
    ·cases hr
   ·cases hr
  ·cases hr
theorem AS (P:Program) (i:Operand):Ok P (.entry i):=by
 intro vop xs hc
 simp only[cOp,Sj,Pj,Bl.op.injEq] at hc
 obtain⟨rfl,rfl⟩:=hc
 intro o ho φ h nx w ρ args v h' hr s _ ha
 obtain⟨dst,op,type,pos,after,guard⟩:=o
 simp only at ho;subst ho
 simp only[VOp.run] at hr
 unfold Nj at hr
 split at hr
 ·next ik=>
  split at hr
  ·next b n own anc hg=>
   split at hr
   ·next k v own2 anc2 hg2=>
    split at hr
    ·next hn=>
     cases hr
     subst hn
     obtain⟨lc,e0,e1⟩:=Km ha
     obtain⟨h0,l',f0,f1⟩:=s.iter e0 hg
     obtain⟨arr,f2,f3,f4⟩:=s.map f0 hg2
     have hlen:=Ah f4
     obtain⟨e,rfl⟩:=aB (arr:=arr) (by simpa using hlen.symm)
     have hborn:e.born=0:=f3 0 (by simp)
     have e1:ρ i=.pointer (some ⟨lc.blk,0,none⟩):=by rw[e1,h0]
     simp only[Nat.one_ne_zero,if_false] at f1
     have hobj:=Cm (P:=P) f1 (by simp)
     have hmap:=Cm (P:=P) f2 (by simp)
     cases f4 with
     |cons hkv _=>
     refine A6 (v':=.tuple #[e.key,e.val]) s ?_ ⟨[e.key,e.val],rfl,.cons hkv.1 (.cons hkv.2 .nil)⟩
     simp[execOp,Instr.entry,e1,hobj,hmap,hborn]
    ·cases hr
   ·cases hr
  ·cases hr
 ·cases hr
theorem qN (P:Program) (s0 d:TypeId) (x:Operand):Ok P (.convert s0 d x):=by
 intro vop xs hc
 simp only[cOp] at hc
 split at hc
 ·next j k hs hd=>cases hc;exact xK s0 d x hs hd
 ·cases hc
theorem OD (P:Program) (op:Op):Ok P op:=by
 cases op with
 |move x=>exact HS P x
 |assign x=>exact xB P x
 |pick c a b=>exact HT P c a b
 |alloc e=>exact AL P e
 |box e v=>exact OB P e v
 |build t ps=>exact AO P t ps
 |buildSlice t n ps=>exact dX P t n ps
 |insert t m k v=>exact xQ P t m k v
 |load t a=>exact HW P t a
 |store t a v=>exact AM P t a v
 |nilCheck x=>exact lQ P x
 |binOp b t x y yt=>exact AG P b t x y yt
 |unOp u t x=>exact HU P u t x
 |convert s d x=>exact qN P s d x
 |makeFunc fn first cap=>exact lY P fn first cap
 |makeMap t r=>exact qJ P t r
 |makeSlice t l c=>exact hZ P t l c
 |slice t x lo hi mx=>exact ok_slice P t x lo hi mx
 |fieldAddr t x f=>exact hS P t x f
 |field t x f=>exact AH P t x f
 |indexAddr t x i=>exact hY P t x i
 |index t x i=>exact AI P t x i
 |lookup t x i ok=>exact xO P t x i ok
 |mapUpdate t m k v=>exact iB P t m k v
 |range t x=>exact AQ P t x
 |next i b=>exact HY P i b
 |entry i=>exact AS P i
 |extract t i=>exact qH P t i
 |call c=>
  obtain⟨callee,A,ats⟩:=c
  cases callee with
  |builtin b=>exact qL P b A ats
  |invoke r m=>intro vop xs hc;simp[cOp,Me] at hc
  |value f=>
   intro vop xs hc
   simp only[cOp,Me] at hc
   cases f with
   |func g=>
    simp only at hc
    split at hc
    ·split at hc<;>cases hc
    ·cases hc
   |_=>simp at hc
 |_=>intro vop xs hc;simp[cOp] at hc
structure C6 (φ:Emb) (N:Nat) (fr:Fr) (a:Act):Prop where
 size:N≤a.tmps.size
 get:∀k v,fr.get k=some v→Cp φ v (a.tmps.getD k.toNat undef)
 defers:a.defers=[]
theorem C6.mono {φ φ':Emb} {N:Nat} {fr:Fr} {a:Act} (h:C6 φ N fr a) (hl:Le φ φ'):C6 φ' N fr a:=
 ⟨h.size,fun k v e=>(h.get k v e).mono hl,h.defers⟩
theorem AT (a:Act) (d:Option Tmp) (v:Value):(a.put d v).tmps.size=a.tmps.size:=by cases d<;>simp[Act.put]
theorem put_defers (a:Act) (d:Option Tmp) (v:Value):(a.put d v).defers=a.defers:=by cases d<;>rfl
theorem C6.put {φ:Emb} {N:Nat} {fr:Fr} {a:Act} (h:C6 φ N fr a) {o:Oper} (hd:lL N o=true) {v:AV} {v':Value} (hv:Cp φ v v') :
  C6 φ N (Bp fr (o.dst.map kn) v) (a.put o.dst v'):=by
 refine⟨by rw[AT];exact h.size,fun k u e=>?_,by rw[put_defers];exact h.defers⟩
 unfold lL at hd
 cases hdst:o.dst with
 |none=>rw[hdst] at e;simpa[Act.put] using h.get k u e
 |some d=>
  rw[hdst] at e hd
  have hlt:d<a.tmps.size:=Nat.lt_of_lt_of_le (by simpa using hd) h.size
  simp only[Option.map_some,Bp,Tr.Av] at e
  by_cases hk:kn d=k
  ·subst hk
   simp only[if_true,Sj] at e
   subst e
   simpa[Act.put,Key.toNat_kn,hlt] using hv
  ·simp only[hk,if_false] at e
   have hne:d≠k.toNat:=fun e'=>hk (by rw[e',Key.Ff])
   have:=h.get k u e
   simpa[Act.put,Array.getElem?_setIfInBounds_ne hne] using this
theorem uH {φ:Emb} {N:Nat} {fr:Fr} {a:Act} (h:C6 φ N fr a) {x:Operand} {y:VX} (hc:cX x=some y) {v:AV} (e:y.eval fr=some v):Cp φ v (a.eval x):=by
 cases x with
 |tmp t=>
  simp only[cX,Sj] at hc
  subst hc
  have:=h.get _ _ e
  rw[Key.toNat_kn] at this
  exact this
 |const c=>
  simp only[cX] at hc
  split at hc
  ·next z hz=>
   cases hc
   simp only[VX.eval,Sj] at e
   subst e
   exact AK hz
  ·cases hc
 |func f=>
  simp only[cX,Sj] at hc
  subst hc
  simp only[VX.eval,Sj] at e
  subst e
  exact⟨[],[],rfl,.nil,.nil⟩
 |global g=>simp[cX] at hc
theorem Mj {φ:Emb} {N:Nat} {fr:Fr} {a:Act} (h:C6 φ N fr a):∀{xs:List Operand} {ys:List VX} {args:List AV},cXs xs=some ys→Cn fr ys=some args→Aa (Cp φ) args (xs.map a.eval)
 |[],ys,args,hc,e=>by
  simp[cXs] at hc;subst hc
  simp[Cn] at e;subst e
  exact .nil
 |x::xs,ys,args,hc,e=>by
  unfold cXs at hc
  split at hc
  ·next y hy=>
   split at hc
   ·next ys' hys=>
    cases hc
    unfold Cn at e
    split at e
    ·next v hv=>
     split at e
     ·next vs hvs=>cases e;exact .cons (uH h hy hv) (Mj h hys hvs)
     ·cases e
    ·cases e
   ·cases hc
  ·cases hc
theorem Xg {φ:Emb} {v:AV} {c:Bool} (h:Cp φ v (.bool c)):v=.v (.s (.bool c)):=by
 cases v with
 |tup xs=>obtain⟨vs,e,_⟩:=h;cases e
 |v x=>cases x with
  |agg cs=>obtain⟨vs,e,_⟩:=h;cases e
  |s y=>
   cases y with
   |bool b=>have h:Value.bool c=.bool b:=h;cases h;rfl
   |int k n=>have h:Value.bool c=.int k n:=h;cases h
   |str l=>obtain⟨_,e⟩:=h;cases e
   |ptr b o=>obtain⟨_,_,e⟩:=h;cases e
   |Eb=>have h:Value.bool c=.pointer none:=h;cases h
   |slice b o len es cap=>obtain⟨_,_,e,_⟩:=h;cases e
   |Af=>have h:Value.bool c=.slice none 0 0:=h;cases h
   |map b=>obtain⟨_,_,e⟩:=h;cases e
   |Dv=>have h:Value.bool c=.map none:=h;cases h
   |func f fs cs=>obtain⟨_,_,e,_⟩:=h;cases e
   |Fe=>have h:Value.bool c=.nilFunc:=h;cases h
theorem Mk {φ:Emb} {N:Nat} {fr:Fr} {a:Act} (h:C6 φ N fr a) {ops:Array Oper} {o:Oper} {g:Option (Key×Bool)} (hc:gY ops o=some g) {c:Bool} (e:Di fr g=some c) :
  Region.wanted o (yielded ops a.tmps)=c:=by
 unfold gY at hc
 split at hc
 ·next hg=>cases hc;simp only[Di,Sj] at e;subst e;simp[Region.wanted,hg]
 ·next j b hg=>
  split at hc
  ·next t ht=>
   cases hc
   simp only[Region.wanted,hg,yielded,ht,Option.bind_some]
   unfold Di at e
   split at e
   ·next e'=>cases e'
   ·next k b' e'=>
    cases e'
    split at e
    ·next c' hf=>
     cases e
     have hr:=h.get _ _ hf
     rw[Key.toNat_kn] at hr
     have hr:a.tmps.getD t undef=.bool c':=hr
     cases hb:a.tmps[t]? with
     |none=>simp[Array.getD_eq_getD_getElem?,hb,undef] at hr
     |some v=>
      simp[Array.getD_eq_getD_getElem?,hb] at hr
      subst hr
      cases c'<;>cases b<;>rfl
    ·next v hnb hf=>
     cases e
     have hr:=h.get _ _ hf
     rw[Key.toNat_kn] at hr
     cases hb:a.tmps[t]? with
     |none=>cases b<;>rfl
     |some u=>
      simp only[Array.getD_eq_getD_getElem?,hb,Option.getD_some] at hr
      cases u with
      |bool c2=>exact absurd (Xg hr▸hf) (by intro hh;exact hnb c2 (Xg hr))
      |_=>cases b<;>rfl
    ·cases e
  ·cases hc
def iC (φ:Emb) (h:Ac) (w:World) (h':Ac) (w':World) (R:Emb→Prop):Prop:=
 ∃φ',Sim φ' h'.get h'.next.toNat w'∧Ext φ h.get h.next.toNat w φ' h'.get h'.next.toNat w'∧R φ'
def Bd (b:Key) (h:Ac):Prop:=h.get b=none∧∀c y,h.get c=some y→b∉y.anc
def Clean (h:Ac):Prop:=∀b:Key,h.next.toNat≤b.toNat→Bd b h
structure Ed (P:Program) (call:Bn):Prop where
 dom : ∀ f args h r, call f args h = some r → ∃ fn, P.funcs[f]? = some fn ∧ (fn.name == "runtime.NumGoroutine") = false ∧ fn.body.isNone = false
 run:∀f args h v h',Clean h→call f args h=some (v,h')→∀φ w vs,Sim φ h.get h.next.toNat w→Aa (Cp φ) args vs →
  Calls P f vs.toArray w fun e w'=>∃v',e=.returned v'∧iC φ h w h' w' fun φ'=>Cp φ' v v'
theorem Tx {P : Program} {f : FuncId} {fn : Func} (hf : P.funcs[f]? = some fn) (hn : (fn.name == "runtime.NumGoroutine") = false) (hb : fn.body.isNone = false) (args : Array Value) (w : World) :
  (callFunc f args).run P w=.ok (.enter f args) w:=by
 simp only[callFunc,Sem.run_bind,run_program,Result.andThen_ok,hf,hn,Fj,if_false,hb,Sem.run_pure]
theorem Xh {φ:Emb} {l:List (Key×Nat)} {vs:List Value} (h:Aa (Yp φ) l vs):Aa (Cp φ) (l.map (fun p=>AV.v (.s (.ptr p.1 p.2)))) vs:=by
 induction h with
 |nil=>exact .nil
 |cons h _ ih=>exact .cons h ih
theorem aD {P : Program} {w : World} {a : Act} {φ : Emb} {call : Bn} (hdom : ∀ f args h r, call f args h = some r → ∃ fn, P.funcs[f]? = some fn ∧ (fn.name == "runtime.NumGoroutine") = false ∧ fn.body.isNone = false) {c : Call} {act : Bl} {xs : List Operand} (hc : Me P c = some (act, xs)) (hop : ∀ o, act ≠ .op o)
  {args:List AV} (ha:Aa (Cp φ) args (xs.map a.eval)) {h h':Ac} {v:AV} (hr:act.run call args h=some (v,h')) (dst:Option Tmp) (ty:TypeId) (pos:String) (af:Array Edge) (g:Option (Nat×Bool)) :
  ∃(f:FuncId) (az:List AV) (vs:List Value),(execOp a.eval ⟨dst,.call c,ty,pos,af,g⟩).run P w=.ok (.enter f vs.toArray) w∧call f az h=some (v,h')∧Aa (Cp φ) az vs:=by
 obtain⟨callee,A,ats⟩:=c
 have hval:∀x,callee=.value x→(∀f,x≠.func f)→act=.Ge∧xs=x::A.toList:=by
  rintro x rfl hnf
  simp only[Me,Sj,Pj] at hc
  exact⟨hc.1.symm,hc.2.symm⟩
 cases callee with
 |invoke r m=>simp[Me] at hc
 |builtin b=>
  exfalso
  have:∃o,act=.op o:=by
   simp only[Me] at hc
   split at hc<;>(first|(cases hc;exact⟨_,rfl⟩)|skip)
   ·split at hc
    ·split at hc
     ·cases hc
     ·cases hc;exact⟨_,rfl⟩
    ·split at hc
     ·cases hc
     ·cases hc;exact⟨_,rfl⟩
    ·cases hc
   ·next e _=>
    cases hs:Cw P e with
    |none=>simp[hs] at hc
    |some n=>simp[hs] at hc;exact⟨_,hc.1.symm⟩
   ·cases hc
  obtain⟨o,rfl⟩:=this
  exact hop o rfl
 |value x=>
  by_cases hx:∃f,x=.func f
  ·obtain⟨f,rfl⟩:=hx
   simp only[Me] at hc
   split at hc
   ·next fn hf=>
    split at hc
    ·cases hc
    ·next hcond=>
     cases hc
     simp only[Bool.or_eq_true,not_or,Bool.not_eq_true] at hcond
     refine⟨f,args,A.toList.map a.eval,?_,hr,ha⟩
     have:=Tx hf hcond.1 hcond.2 (A.map a.eval) w
     simp only[execOp,resolve,Act.eval,Deferred.ofValue,Sem.run_bind,Sem.run_pure,Result.andThen_ok,invoke,Array.empty_append,Array.append_empty]
     rw[show(A.toList.map a.eval).toArray=A.map a.eval from by apply Array.ext';simp]
     exact this
   ·cases hc
  ·obtain⟨rfl,rfl⟩:=hval x rfl (fun f e=>hx ⟨f,e⟩)
   simp only[Bl.run] at hr
   split at hr
   ·next f fs cs az=>
    cases ha with
    |cons hf ha=>
    obtain⟨vs,us,e1,h1,h2⟩:=hf
    obtain⟨fn,g1,g2,g3⟩:=hdom _ _ _ _ hr
    refine⟨f,_,vs++A.toList.map a.eval++us,?_,hr,?_⟩
    ·simp only[execOp,resolve,e1,Deferred.ofValue,Sem.run_bind,Sem.run_pure,Result.andThen_ok,invoke]
     rw[Tx g1 g2 g3]
     congr 2
     apply Array.ext';simp
    ·refine A0 (A0 ?_ ha) ?_
     ·exact Xh h1
     ·exact Xh h2
   ·cases hr
theorem xR {P:Program} {w:World} {a:Act} {φ:Emb} {call:Bn} (hcall:Ed P call) {c:Call} {act:Bl} {xs:List Operand} (hc:Me P c=some (act,xs)) (hop:∀o,act≠.op o)
  {args:List AV} (ha:Aa (Cp φ) args (xs.map a.eval)) {h h':Ac} {v:AV} (hr:act.run call args h=some (v,h')) (dst:Option Tmp) (ty:TypeId) (pos:String) (af:Array Edge) (g:Option (Nat×Bool)) :
  ∃(f:FuncId) (az:List AV) (vs:List Value),(execOp a.eval ⟨dst,.call c,ty,pos,af,g⟩).run P w=.ok (.enter f vs.toArray) w∧call f az h=some (v,h')∧Aa (Cp φ) az vs:=aD hcall.dom hc hop ha hr dst ty pos af g
theorem Dw {P:Program} {N:Nat} {ops:Array Oper} {o:Oper} {vo:An} (hc:Ix P N ops o=some vo) :
  lL N o=true∧vo.dst=o.dst.map kn∧(∃g,gY ops o=some g∧vo.guard=g) ∧
   ((∃act xs ys,cOp P o.op=some (act,xs)∧cXs xs=some ys∧vo.act=act∧vo.args=ys)∨(vo.act=.op .bad∧vo.args=[])):=by
 unfold Ix at hc
 split at hc
 ·next hd=>
  split at hc
  ·next g hg=>
   split at hc
   ·next act xs hop=>
    split at hc
    ·next ys hys=>cases hc;exact⟨hd,rfl,⟨g,hg,rfl⟩,.inl ⟨act,xs,ys,hop,hys,rfl,rfl⟩⟩
    ·cases hc;exact⟨hd,rfl,⟨g,hg,rfl⟩,.inr ⟨rfl,rfl⟩⟩
   ·cases hc;exact⟨hd,rfl,⟨g,hg,rfl⟩,.inr ⟨rfl,rfl⟩⟩
  ·cases hc
 ·cases hc
section
variable {P:Program} {call:Bn}
def OE:Bl→Bool
 |.op _=>true
 |_=>false
theorem qO {α:Type} (x:Option α) (f:α→VOp) (g:α→List Operand):(x.map fun y=>(Bl.op (f y),g y)).all (fun p=>OE p.1)=true:=by cases x<;>rfl
theorem xS (x:Operand) (lo hi mx:Option Operand) (k:SlK):(Fi x lo hi mx k).all (fun p=>OE p.1)=true:=by
 unfold Fi;split<;>rfl
theorem AU {op:Op} (h:∀c,op≠.call c):(cOp P op).all (fun p=>OE p.1)=true:=by
 cases op with
 |call c=>exact absurd rfl (h c)
 |_=>
  simp only[cOp]
  repeat'(first|rfl|exact qO _ _ _|exact xS _ _ _ _ _|(exfalso;exact h _ (by assumption))|split)
theorem mF {op:Op} {act:Bl} {xs:List Operand} (h:cOp P op=some (act,xs)) (hop:∀o,act≠.op o):∃c,op=.call c∧Me P c=some (act,xs):=by
 by_cases hc:∃c,op=.call c
 ·obtain⟨c,rfl⟩:=hc;exact⟨c,rfl,h⟩
 ·have:=AU (P:=P) (op:=op) (fun c e=>hc ⟨c,e⟩)
  rw[h] at this
  cases act with
  |op o=>exact absurd rfl (hop o)
  |_=>cases this
theorem mG (hcall:Ed P call) {N:Nat} {ops:Array Oper} {o:Oper} {vo:An} (hc:Ix P N ops o=some vo) {φ:Emb} {fr:Fr} {a:Act} {h h':Ac} {nx:Nat} {w:World} (hfr:C6 φ N fr a)
  (s:Sim φ h.get nx w) (hb:φ h.next=none) (hnx:(∀o,vo.act≠.op o)→nx=h.next.toNat∧Clean h) {args:List AV} (hf:Cn fr vo.args=some args) {v:AV} (hr:vo.act.run call args h=some (v,h'))
  {K:Act→World→Prop} {Q:Exit→Act→World→Prop}
  (hK:∀v' w' φ',(∀nx',nx≤nx'→h'.next.toNat≤nx'→Sim φ' h'.get nx' w')→Ext φ h.get h.next.toNat w φ' h'.get h'.next.toNat w'→Cp φ' v v'→K (a.put o.dst v') w'):o.wp P a w K Q:=by
 obtain⟨_,_,_,hact⟩:=Dw hc
 rcases hact with⟨act,xs,ys,hop,hys,ha,hargs⟩|⟨ha,hargs⟩
 ·rw[ha] at hr hnx
  rw[hargs] at hf
  have hrel:=Mj hfr hys hf
  by_cases hisop:∃vop,act=.op vop
  ·obtain⟨vop,rfl⟩:=hisop
   obtain⟨v',w',hd,φ',h1,h2,h3⟩:=OD P o.op vop xs hop o rfl φ h nx w a.eval args v h' hr s hb hrel
   unfold Oper.wp
   rcases hd with hd|⟨hd,rfl⟩
   ·rw[hd];exact hK v' w' φ' h1 h2 h3
   ·rw[hd];exact hK undef w' φ' h1 h2 h3
  ·have hne:∀o,act≠.op o:=fun o e=>hisop ⟨o,e⟩
   obtain⟨c,hoc,hcc⟩:=mF hop hne
   obtain⟨hnx',hcl⟩:=hnx hne
   subst hnx'
   obtain⟨dst,op,type,pos,after,guard⟩:=o
   simp only at hoc
   subst hoc
   obtain⟨f,az,vs,e1,e2,e3⟩:=xR hcall hcc hne hrel hr dst type pos after guard (w:=w)
   unfold Oper.wp
   rw[e1]
   refine Calls.mono (hcall.run f az h v h' hcl e2 φ w vs s e3) ?_
   rintro e w' ⟨v',rfl,φ',g1,g2,g3⟩
   exact hK v' w' φ' (fun nx' _ k=>g1.up k) g2 g3
 ·rw[ha] at hr
  simp[Bl.run,VOp.run] at hr
theorem Vu (hcall:Ed P call) {N:Nat} {ops:Array Oper} {o:Oper} {vo:An} (hc:Ix P N ops o=some vo) {φ:Emb} {fr fr':Fr} {a:Act} {h h':Ac} {w:World} (hfr:C6 φ N fr a)
  (s:Sim φ h.get h.next.toNat w) (hcl:Clean h) (hr:vo.run call fr h=some (fr',h')) {K:Act→World→Prop} {Q:Exit→Act→World→Prop}
  (hK:∀a' w',(iC φ h w h' w' fun φ'=>C6 φ' N fr' a')→K a' w') :
  if Region.wanted o (yielded ops a.tmps) then o.wp P a w K Q∨(o.asks P a w∧LetsOut Q) else K (a.put o.dst undef) w:=by
 obtain⟨hd,hdst,⟨g,hg,hvg⟩,_⟩:=Dw hc
 have hb:φ h.next=none:=s.fresh _ (Rl)
 unfold An.run at hr
 split at hr
 ·next hw=>
  rw[hvg] at hw
  have hwant:=Mk hfr hg hw
  split at hr
  ·next args hf=>
   split at hr
   ·next v h2 hact=>
    cases hr
    rw[hwant,if_pos rfl]
    refine .inl (mG hcall hc hfr s hb (fun _=>⟨rfl,hcl⟩) hf hact fun v' w' φ' h1 h2 h3=>hK _ _ ⟨φ',h1 _ h2.nx (Rl),h2,?_⟩)
    rw[hdst]
    exact(hfr.mono h2.le).put hd h3
   ·cases hr
  ·cases hr
 ·next hw=>
  cases hr
  rw[hvg] at hw
  have hwant:=Mk hfr hg hw
  rw[hwant]
  simp only[Fj,if_false]
  refine hK _ _ ⟨φ,s,Ext.refl _ _ _ _,?_⟩
  rw[hdst]
  exact hfr.put hd ⟨[],rfl,.nil⟩
 ·cases hr
theorem iC.trans {φ:Emb} {h h1 h2:Ac} {w w1 w2:World} {R:Emb→Prop} {φ1:Emb} (e:Ext φ h.get h.next.toNat w φ1 h1.get h1.next.toNat w1) (p:iC φ1 h1 w1 h2 w2 R):iC φ h w h2 w2 R:=by
 obtain⟨φ2,s,e2,r⟩:=p
 exact⟨φ2,s,e.trans e2,r⟩
def Jy (call:Bn):Prop:=∀(o:An) fr h fr' h',o.run call fr h=some (fr',h')→Clean h→Clean h'
theorem eU (hcall:Ed P call) (hkeep:Jy call) {N:Nat} {ops:Array Oper} {Q:Exit→Act→World→Prop}:∀(l:List Oper) (vs:List An),Ci P N ops l=some vs→∀{φ:Emb} {fr fr':Fr} {a:Act} {h h':Ac} {w:World},C6 φ N fr a →
  Sim φ h.get h.next.toNat w→Clean h→Cl call vs fr h=some (fr',h')→(∀a' w',(iC φ h w h' w' fun φ'=>C6 φ' N fr' a')→Q .normal a' w')→wpList P ops Q l a w
 |[],vs,hc,φ,fr,fr',a,h,h',w,hfr,s,hcl,hr,hQ=>by
  simp[Ci] at hc;subst hc
  simp[Cl] at hr
  obtain⟨rfl,rfl⟩:=hr
  exact hQ _ _ ⟨φ,s,Ext.refl _ _ _ _,hfr⟩
 |o::l,vs,hc,φ,fr,fr',a,h,h',w,hfr,s,hcl,hr,hQ=>by
  unfold Ci at hc
  split at hc
  ·next vo hvo=>
   split at hc
   ·next vl hvl=>
    cases hc
    unfold Cl at hr
    split at hr
    ·next fr1 h1 h1r=>
     exact Vu hcall hvo hfr s hcl h1r fun a' w' ⟨φ1,s1,e1,f1⟩=>
      eU hcall hkeep l vl hvl f1 s1 (hkeep _ _ _ _ _ h1r hcl) hr fun a2 w2 p2=>hQ a2 w2 (p2.trans e1)
    ·cases hr
   ·cases hc
  ·cases hc
end
def Cq:B2→Exit→Prop
 |.normal,.normal=>True
 |.exit i,.exit j=>i=j
 |.ret,.ret=>True
 |_,_=>False
def Pl (φ:Emb) (N:Nat) (h:Ac) (w:World) (x:B2) (fr':Fr) (h':Ac):Exit→Act→World→Prop:=
 fun e a' w'=>Cq x e∧iC φ h w h' w' fun φ'=>C6 φ' N fr' a'
def iD (P:Program) (call:Bn):Prop:=
 ∀(N id:Nat) (ops:Array Oper) (ds:List DOp),H6 P N ops true=some (.drawn ds)→∀(φ:Emb) (fr fr':Fr) (a:Act) (h h':Ac) (w:World),C6 φ N fr a→Sim φ h.get h.next.toNat w→Clean h →
  Bf call h.next (Bt h.next (Az ds)) ds h.next [] fr { h with next:=Bt h.next (Az ds) }=some (fr',h') →
  (Code.region id ops true).wp P (Pl φ N h w .normal fr' h') a w
theorem Dx {P:Program} {N:Nat} {ops:Array Oper} {vc:Ay} (h:H6 P N ops false=some vc):∃vs,Ci P N ops ops.toList=some vs∧vc=.region vs:=by
 unfold H6 at h
 split at h
 ·next vs hvs=>simp at h;exact⟨vs,hvs,h.symm⟩
 ·cases h
theorem Fa {P:Program} {N:Nat} {ops:Array Oper} {vc:Ay} (h:H6 P N ops true=some vc):∃ds,vc=.drawn ds:=by
 unfold H6 at h
 split at h
 ·next vs hvs=>
  simp only[if_true] at h
  split at h
  ·next hok=>
   cases hd:Pd (B9 ops.toList) (C8 vs) vs (Vq (B9 ops.toList) (C8 vs) vs.length) with
   |none=>simp[hd] at h
   |some ds=>simp[hd] at h;exact⟨ds,h.symm⟩
  ·cases h
 ·cases h
theorem Ty {P:Program} {F:A4} {O:Ez} (hK:∀m,Jy (Bo F O (exec F O m))) (hE:∀m c fr h x fr' h',exec F O m c fr h=some (x,fr',h')→Clean h→Clean h') (N:Nat):∀(n:Nat),(∀m,m<n→Ed P (Bo F O (exec F O m))∧iD P (Bo F O (exec F O m)))→∀(c:Code) (vc:Ay),A2 P N c=some vc →
  ∀(φ:Emb) (fr fr':Fr) (a:Act) (h h':Ac) (w:World) (x:B2),C6 φ N fr a→Sim φ h.get h.next.toNat w→Clean h→exec F O n vc fr h=some (x,fr',h')→c.wp P (Pl φ N h w x fr' h') a w
 |0,_,c,vc,hc,φ,fr,fr',a,h,h',w,x,hfr,s,hcl,hr=>by simp[exec] at hr
 |n+1,H,c,vc,hc,φ,fr,fr',a,h,h',w,x,hfr,s,hcl,hr=>by
  have ih:=Ty hK hE N n (fun m hm=>H m (by omega))
  cases c with
  |skip=>
   simp only[A2,Sj] at hc
   subst hc
   simp only[exec,Sj,Pj] at hr
   obtain⟨rfl,rfl,rfl⟩:=hr
   exact wp_skip ⟨trivial,φ,s,Ext.refl _ _ _ _,hfr⟩
  |region id ops draw=>
   cases draw with
   |false=>
    obtain⟨vs,hvs,rfl⟩:=Dx hc
    simp only[exec] at hr
    split at hr
    ·next fr1 h1 hro=>
     cases hr
     exact wp_region_list (eU (H n (by omega)).1 (hK n) _ _ hvs hfr s hcl hro fun a' w' p=>⟨trivial,p⟩)
    ·cases hr
   |true=>
    obtain⟨ds,rfl⟩:=Fa hc
    simp only[exec] at hr
    split at hr
    ·next fr1 h1 hro=>
     cases hr
     exact(H n (by omega)).2 N id ops ds hc φ fr _ a h _ w hfr s hcl hro
    ·cases hr
  |seq c1 c2=>
   simp only[A2] at hc
   split at hc
   ·next v1 v2 h1 h2=>
    cases hc
    simp only[exec] at hr
    split at hr
    ·next fr1 h1' e1=>
     refine wp_seq (wp_mono (ih c1 v1 h1 φ fr fr1 a h h1' w .normal hfr s hcl e1) ?_)
     rintro e a1 w1 ⟨hx,φ1,s1,x1,f1⟩
     cases e<;>simp only[Cq] at hx
     refine wp_mono (ih c2 v2 h2 φ1 fr1 fr' a1 h1' h' w1 x f1 s1 (hE _ _ _ _ _ _ _ e1 hcl) hr) ?_
     rintro e a2 w2 ⟨hx2,p2⟩
     exact⟨hx2,p2.trans x1⟩
    ·next hnn=>
     refine wp_seq (wp_mono (ih c1 v1 h1 φ fr fr' a h h' w x hfr s hcl hr) ?_)
     rintro e a1 w1 ⟨hx,p⟩
     cases e with
     |normal=>
      cases x<;>simp only[Cq] at hx
      exact absurd hr (hnn _ _)
     |_=>exact⟨hx,p⟩
   ·cases hc
  |cond c0 c1 c2=>
   simp only[A2] at hc
   split at hc
   ·next v0 v1 v2 h0 h1 h2=>
    cases hc
    simp only[exec] at hr
    split at hr
    ·next e0=>
     have e0':a.eval c0=.bool true:=uH hfr h0 e0
     exact wp_cond_true e0' (ih c1 v1 h1 φ fr fr' a h h' w x hfr s hcl hr)
    ·next e0=>
     have e0':a.eval c0=.bool false:=uH hfr h0 e0
     exact wp_cond_false e0' (ih c2 v2 h2 φ fr fr' a h h' w x hfr s hcl hr)
    ·cases hr
   ·cases hc
  |block id c1=>
   simp only[A2] at hc
   cases h1:A2 P N c1 with
   |none=>simp[h1] at hc
   |some v1=>
    simp only[h1,Option.map_some,Sj] at hc
    subst hc
    simp only[exec] at hr
    split at hr
    ·next j fr1 h1' e1=>
     refine wp_block (wp_mono (ih c1 v1 h1 φ fr fr1 a h h1' w (.exit j) hfr s hcl e1) ?_)
     rintro e a1 w1 ⟨hx,p⟩
     cases e<;>simp only[Cq] at hx
     subst hx
     simp only[Exit.inBlock]
     split at hr
     ·next hj=>cases hr;rw[if_pos hj];exact⟨trivial,p⟩
     ·next hj=>cases hr;rw[if_neg hj];exact⟨rfl,p⟩
    ·next hnn=>
     refine wp_block (wp_mono (ih c1 v1 h1 φ fr fr' a h h' w x hfr s hcl hr) ?_)
     rintro e a1 w1 ⟨hx,p⟩
     cases e with
     |exit j=>
      cases x<;>simp only[Cq] at hx
      exact absurd hr (hnn _ _ _)
     |_=>exact⟨hx,p⟩
  |loop c1=>
   simp only[A2] at hc
   cases h1:A2 P N c1 with
   |none=>simp[h1] at hc
   |some v1=>
    simp only[h1,Option.map_some,Sj] at hc
    subst hc
    have key:∀(m:Nat) (φ:Emb) (fr fr':Fr) (a:Act) (h h':Ac) (w:World) (x:B2),m≤n+1→C6 φ N fr a→Sim φ h.get h.next.toNat w→Clean h→exec F O m (.loop v1) fr h=some (x,fr',h') →
      Code.rounds P c1 (Pl φ N h w x fr' h') m a w:=by
     intro m
     induction m with
     |zero=>intro φ fr fr' a h h' w x _ hfr s hcl hr;simp[exec] at hr
     |succ m ihm=>
      intro φ fr fr' a h h' w x hm hfr s hcl hr
      rw[rounds_succ]
      simp only[exec] at hr
      split at hr
      ·next fr1 h1' e1=>
       refine wp_mono (Ty hK hE N m (fun m' hm'=>H m' (by omega)) c1 v1 h1 φ fr fr1 a h h1' w .normal hfr s hcl e1) ?_
       rintro e a1 w1 ⟨hx,φ1,s1,x1,f1⟩
       cases e<;>simp only[Cq] at hx
       have:=ihm φ1 fr1 fr' a1 h1' h' w1 x (by omega) f1 s1 (hE _ _ _ _ _ _ _ e1 hcl) hr
       have mono:∀k a w0,Code.rounds P c1 (Pl φ1 N h1' w1 x fr' h') k a w0→Code.rounds P c1 (Pl φ N h w x fr' h') k a w0:=by
        intro k
        induction k with
        |zero=>intro a w0 hh;exact hh
        |succ k ihk=>
         intro a w0 hh
         rw[rounds_succ] at hh ⊢
         refine wp_mono hh ?_
         intro e a w hq
         cases e with
         |normal=>exact ihk _ _ hq
         |_=>exact⟨hq.1,hq.2.trans x1⟩
       exact mono _ _ _ this
      ·next hnn=>
       refine wp_mono (Ty hK hE N m (fun m' hm'=>H m' (by omega)) c1 v1 h1 φ fr fr' a h h' w x hfr s hcl hr) ?_
       rintro e a1 w1 ⟨hx,p⟩
       cases e with
       |normal=>
        cases x<;>simp only[Cq] at hx
        exact absurd hr (hnn _ _)
       |_=>exact⟨hx,p⟩
    exact wp_loop_rounds (n+1) (key (n+1) φ fr fr' a h h' w x (Rl) hfr s hcl hr)
  |exit id=>
   simp only[A2,Sj] at hc
   subst hc
   simp only[exec,Sj,Pj] at hr
   obtain⟨rfl,rfl,rfl⟩:=hr
   exact wp_exit ⟨rfl,φ,s,Ext.refl _ _ _ _,hfr⟩
  |ret=>
   simp only[A2,Sj] at hc
   subst hc
   simp only[exec,Sj,Pj] at hr
   obtain⟨rfl,rfl,rfl⟩:=hr
   exact wp_ret ⟨trivial,φ,s,Ext.refl _ _ _ _,hfr⟩
  |_=>simp[A2] at hc
end Go.Vm
end
section
noncomputable section
namespace Go.Vm
open Key (kn)
section
variable {P:Program} {φ:Emb} {w:World}
def Ml (tmps:Array Value):ResultVar→Sem Value
 |.tmp t=>pure (tmps.getD t undef)
 |.cell a t=>do loadVar t (←asAddr (tmps.getD a undef))
theorem qP {N:Nat} {fr:Fr} {a:Act} {h:Ac} {nx:Nat} (hfr:C6 φ N fr a) (s:Sim φ h.get nx w) {r:ResultVar} {vr:Lj} (hc:HQ P r=some vr) {c:CV} (hr:Gr fr h vr=some c) :
  ∃v,(Ml a.tmps r).run P w=.ok v w∧E3 φ c v:=by
 cases r with
 |tmp t=>
  simp only[HQ,Sj] at hc
  subst hc
  simp only[Gr] at hr
  split at hr
  ·next x hx=>
   cases hr
   have:=hfr.get _ _ hx
   rw[Key.toNat_kn] at this
   exact⟨_,rfl,this⟩
  ·cases hr
 |cell t ty=>
  simp only[HQ] at hc
  split at hc
  ·next hsh=>
   cases hc
   simp only[Gr] at hr
   split at hr
   ·next b o hx=>
    split at hr
    ·next x hread=>
     cases hr
     have hp:=hfr.get _ _ hx
     rw[Key.toNat_kn] at hp
     obtain⟨l,e1,e2⟩:=hp
     obtain⟨_,vs,hv,hcell⟩:=s.read e1 hread
     obtain⟨v,rfl,hv1⟩:∃v,vs=[v]∧Bz φ x v:=by
      cases hv with
      |cons h t=>cases t;exact⟨_,rfl,h⟩
     have hc0:=hcell 0 v rfl
     rw[E4] at hc0
     exact⟨v,by simp only[Ml,e2,asAddr,Sem.run_bind,Sem.run_pure,Result.andThen_ok,loadVar,I5 hsh,Fj,if_false,run_load,show w.cell? ⟨l.blk,o+l.off,none⟩=some v from hc0],hv1⟩
    ·cases hr
   ·cases hr
  ·next n hsh=>
   cases hc
   simp only[Gr] at hr
   split at hr
   ·next b o hx=>
    split at hr
    ·next ls hread=>
     cases hr
     have hp:=hfr.get _ _ hx
     rw[Key.toNat_kn] at hp
     obtain⟨l,e1,e2⟩:=hp
     obtain⟨hl,vs,hv,hcell⟩:=s.read e1 hread
     obtain⟨h1,h2⟩:=I6 (w:=w) hsh
     have hvl:vs.length=n:=by rw[←Ah hv,hl]
     have hload:(loadCells ⟨l.blk,o+l.off,none⟩ n).run P w=.ok vs.toArray w:=by rw[←hvl];exact run_loadCells_list w _ vs hcell
     exact⟨.agg vs.toArray,by simp only[Ml,e2,asAddr,Sem.run_bind,Sem.run_pure,Result.andThen_ok,loadVar,h1,if_true,run_sizeOf h2,hload],vs,rfl,hv⟩
    ·cases hr
   ·cases hr
  ·cases hc
theorem Xi {N:Nat} {fr:Fr} {a:Act} {h:Ac} {nx:Nat} (hfr:C6 φ N fr a) (s:Sim φ h.get nx w):∀{rs:List ResultVar} {vrs:List Lj} {l:List CV},Zv P rs=some vrs→D5 fr h vrs=some l →
  ∃vs,(rs.mapM (Ml a.tmps)).run P w=.ok vs w∧Aa (E3 φ) l vs
 |[],vrs,l,hc,hr=>by
  simp[Zv] at hc;subst hc
  simp[D5] at hr;subst hr
  exact⟨[],by simp,.nil⟩
 |r::rs,vrs,l,hc,hr=>by
  unfold Zv at hc
  split at hc
  ·next vr hvr=>
   split at hc
   ·next vrs' hvrs=>
    cases hc
    unfold D5 at hr
    split at hr
    ·next x hx=>
     split at hr
     ·next xs hxs=>
      cases hr
      obtain⟨v,h1,h2⟩:=qP hfr s hvr hx
      obtain⟨vs,h3,h4⟩:=Xi hfr s hvrs hxs
      exact⟨v::vs,by simp[List.mapM_cons,h1,h3],.cons h2 h4⟩
     ·cases hr
    ·cases hr
   ·cases hc
  ·cases hc
theorem aE {N:Nat} {fn:Func} {fr:Fr} {a:Act} {h:Ac} {nx:Nat} (hfr:C6 φ N fr a) (s:Sim φ h.get nx w) {vrs:List Lj} {l:List CV} (hc:Zv P fn.results.toList=some vrs) (hr:D5 fr h vrs=some l) :
  ∃v,(results fn a.tmps).run P w=.ok v w∧Cp φ (Fh l) v:=by
 obtain⟨vs,h1,h2⟩:=Xi hfr s hc hr
 have hm:(fn.results.mapM (Ml a.tmps)).run P w=.ok vs.toArray w:=by
  rw[Array.mapM_eq_mapM_toList]
  simp[h1]
 have hres:results fn a.tmps=(do let vs←fn.results.mapM (Ml a.tmps);pure (if h:vs.size=1 then vs[0] else .tuple vs)):=by
  unfold results
  congr 1
 rw[hres]
 simp only[Sem.run_bind,hm,Result.andThen_ok,Sem.run_pure]
 refine⟨_,rfl,?_⟩
 unfold Fh
 split
 ·next x=>
  cases h2 with
  |cons hx t=>cases t;exact hx
 ·next hne=>
  have hlen:=Ah h2
  have:¬(vs.toArray.size=1):=by
   intro h
   have:l.length=1:=by rw[hlen];simpa using h
   match l,this with
   |[x],_=>exact hne x rfl
  rw[dif_neg this]
  exact⟨vs,rfl,h2⟩
end
theorem eV {φ:Emb} {args:List AV} {vs:List Value} (h:Aa (Cp φ) args vs) (N:Nat) :
  C6 φ N (Tr.z.Co 0 args) { tmps:=vs.toArray++Array.replicate (N-vs.toArray.size) undef,defers:=[] }:=by
 refine⟨by simp;omega,fun k v e=>?_,rfl⟩
 rw[←Key.Ff k,Tr.B0] at e
 split at e
 ·next hk=>
  simp only[Nat.sub_zero] at e
  obtain⟨u,h1,h2⟩:=Ax h _ e
  have hlt:k.toNat<vs.length:=(Gi.1 h1).1
  have:((vs.toArray++Array.replicate (N-vs.toArray.size) undef).getD k.toNat undef)=u:=by
   rw[Array.getD_eq_getD_getElem?,Array.getElem?_append_left (by simpa using hlt)]
   simp[h1]
  rw[this];exact h2
 ·simp at e
theorem St {P : Program} {fn : Func} {vf : El} (h : lN P fn = some vf) : (fn.name == "runtime.NumGoroutine") = false ∧ ∃ c, fn.body = some c ∧ A2 P fn.ntmps c = some vf.body ∧ Zv P fn.results.toList = some vf.results := by
 unfold lN at h
 split at h
 ·cases h
 ·next hn=>
  split at h
  ·next c hb=>
   split at h
   ·next v rs h1 h2=>cases h;exact⟨by simpa using hn,c,hb,h1,h2⟩
   ·cases h
  ·cases h
def Ez.caller (O:Ez):Bn:=fun f args h=>match O f with
 |some g=>g args h
 |none=>none
theorem HZ {P:Program} {F:A4} (hF:∀f vf,F f=some vf→Fq P f=some vf) {O:Ez} (hK:∀m,Jy (Bo F O (exec F O m))) (hE:∀m c fr h x fr' h',exec F O m c fr h=some (x,fr',h')→Clean h→Clean h') (hO:Ed P O.caller) (n:Nat) (H:∀m,m<n→Ed P (Bo F O (exec F O m))∧iD P (Bo F O (exec F O m))) :
  Ed P (Bo F O (exec F O n)):=by
 refine⟨fun f args h r hr=>?_,fun f args h v h' hcl hr φ w vs s ha=>?_⟩
 ·unfold Bo at hr
  split at hr
  ·next g ho=>exact hO.dom f args h r (by simp only[Ez.caller,ho];exact hr)
  ·split at hr
   ·next vf hf=>
    have hf:=hF _ _ hf
    unfold Fq at hf
    cases hfn:P.funcs[f]? with
    |none=>simp[hfn] at hf
    |some fn=>
     simp[hfn] at hf
     obtain⟨h1,c,h2,_⟩:=St hf
     exact⟨fn,rfl,h1,by simp[h2]⟩
   ·cases hr
 ·unfold Bo at hr
  split at hr
  ·next g ho=>exact hO.run f args h v h' hcl (by simp only[Ez.caller,ho];exact hr) φ w vs s ha
  ·split at hr
   ·next vf hf=>
    have hf:=hF _ _ hf
    unfold Fq at hf
    cases hfn:P.funcs[f]? with
    |none=>simp[hfn] at hf
    |some fn=>
     simp[hfn] at hf
     obtain⟨_,c,hb,hcode,hres⟩:=St hf
     split at hr
     ·cases hr
     ·next x fr h2 hne hex=>
      split at hr
      ·next l hl=>
       cases hr
       refine calls_of_wp hfn hb (wp_mono (Ty hK hE fn.ntmps n H c vf.body hcode φ _ fr _ h h' w x (eV ha fn.ntmps) s hcl hex) ?_)
       rintro e a w' ⟨hx,φ',s',x',f'⟩
       obtain⟨v',e1,e2⟩:=aE (P:=P) f' s' hres hl
       have hgoal:bodyPost P fn (fun e w'=>∃v',e=.returned v'∧iC φ h w h' w' fun φ'=>Cp φ' (Fh l) v') .ret a w':=⟨f'.defers,v',e1,v',rfl,φ',s',x',e2⟩
       cases e with
       |normal=>exact hgoal
       |ret=>exact hgoal
       |exit i=>
        cases x with
        |exit j=>exact(hne j rfl).elim
        |_=>exact hx.elim
       |_=>cases x<;>exact hx.elim
      ·cases hr
     ·cases hr
   ·cases hr
end Go.Vm
end
section
noncomputable section
namespace Go.Vm
open Key (kn)
def Tz {α:Type} (f:Ac→Option (α×Ac)):Prop:=
 ∀h v h',f h=some (v,h')→h.next.toNat≤h'.next.toNat∧∀b x,b.toNat<h.next.toNat→Bd b h→Bd b h'∧f (h.upd b (some x))=some (v,h'.upd b (some x))
section
variable {h:Ac} {b:Key} {x:Blk}
theorem Hh {c:Key} (hne:b≠c) (y:Option Blk):(h.upd b y).get c=h.get c:=by rw[Av];simp[hne]
theorem Bd.ne {c:Key} {y:Blk} (hf:Bd b h) (hc:h.get c=some y):b≠c:=by
 rintro rfl;rw[hf.1] at hc;cases hc
theorem Bd.get {c:Key} {y:Blk} (hf:Bd b h) (hc:h.get c=some y):(h.upd b (some x)).get c=some y:=by
 rw[Hh (hf.ne hc)];exact hc
theorem Bd.cells {c:Key} {p:Tr SV×Nat} (hf:Bd b h) (hc:h.cells c=some p):(h.upd b (some x)).cells c=some p:=by
 obtain⟨own,anc,hg⟩:=Zw (c:=p.1) (m:=p.2) hc
 unfold Ac.cells
 rw[hf.get hg]
theorem Bd.read {c:Key} {o n:Nat} {l:List SV} (hf:Bd b h) (hr:h.read c o n=some l):(h.upd b (some x)).read c o n=some l:=by
 unfold Ac.read at hr ⊢
 split at hr
 ·next h0=>rw[if_pos h0];exact hr
 ·next h0=>
  rw[if_neg h0]
  split at hr
  ·next cc m hc=>rw[hf.cells hc];exact hr
  ·cases hr
theorem Ee {c:Key} (hne:b≠c) (y z:Option Blk):(h.upd b y).upd c z=(h.upd c z).upd b y:=by
 simp only[Ac.upd];rw[Tr.O1 _ _ _ hne]
theorem Pm:∀(anc:List Key) (h:Ac),b∉anc→∀y,(h.upd b y).Bb anc=(h.Bb anc).upd b y
 |[],_,_,_=>rfl
 |c::l,h,hn,y=>by
  simp only[List.mem_cons,not_or] at hn
  rw[Ac.Bb,Ac.Bb,Ee hn.1,Pm l _ hn.2]
theorem Mm (y:Blk) (z:Option Blk) (hne:b≠h.next):(h.upd b z).Bs y=(h.Bs y).upd b z:=by
 simp only[Ac.Bs,Ac.upd];rw[Tr.O1 _ _ _ hne]
theorem E5 (z:Option Blk):(h.upd b z).next=h.next:=rfl
theorem Jc (y:Blk):(h.Bs y).next=h.next.succ:=rfl
theorem aF {c:Key} (hlt:b.toNat<c.toNat):b≠c:=by rintro rfl;omega
theorem Bd.upd {c:Key} (hf:Bd b h) (hne:b≠c) (y:Option Blk) (hy:∀z,y=some z→b∉z.anc):Bd b (h.upd c y):=by
 refine⟨by rw[Hh (Ne.symm hne)];exact hf.1,fun d z hd=>?_⟩
 rw[Av] at hd
 by_cases hc:c=d
 ·simp only[hc,if_true] at hd;exact hy z hd
 ·simp only[hc,if_false] at hd;exact hf.2 d z hd
theorem Bd.Bs (hf:Bd b h) (hlt:b.toNat<h.next.toNat) (y:Blk) (hy:b∉y.anc):Bd b (h.Bs y):=by
 have hne:=aF hlt
 refine⟨?_,fun d z hd=>?_⟩
 ·rw[Cf];simp[Ne.symm hne,hf.1]
 ·rw[Cf] at hd
  by_cases hc:h.next=d
  ·simp only[hc,if_true,Sj] at hd;subst hd;exact hy
  ·simp only[hc,if_false] at hd;exact hf.2 d z hd
theorem Bd.Bb:∀(anc:List Key) {h:Ac},Bd b h→b∉anc→Bd b (h.Bb anc)
 |[],_,hf,_=>hf
 |c::l,h,hf,hn=>by
  simp only[List.mem_cons,not_or] at hn
  exact Bd.Bb l (hf.upd hn.1 none (by simp)) hn.2
theorem Nt (c:Key) (o:Nat) (l:List SV) {h':Ac} (e:h.write c o l=some h'):h'.next=h.next∧∀b x,Bd b h→Bd b h'∧(h.upd b (some x)).write c o l=some (h'.upd b (some x)):=by
 unfold Ac.write at e
 split at e
 ·next cc m anc hg=>
  split at e
  ·next hle=>
   cases e
   refine⟨by simp[Ac.upd,Bv],fun b x hf=>⟨(hf.Bb anc (hf.2 _ _ hg)).upd (hf.ne hg) _ (by simp),?_⟩⟩
   unfold Ac.write
   rw[hf.get hg]
   simp only[hle,if_true]
   rw[Pm anc h (hf.2 _ _ hg),Ee (hf.ne hg)]
  ·cases e
 ·cases e
theorem qQ (c:Key) (o k:Nat) (l:List SV) {p:Key×Ac} (e:h.renew c o k l=some p):p.1=h.next∧p.2.next=h.next.succ∧∀b x,b.toNat<h.next.toNat→Bd b h→Bd b p.2∧(h.upd b (some x)).renew c o k l=some (p.1,p.2.upd b (some x)):=by
 unfold Ac.renew at e
 split at e
 ·next h0=>
  cases e
  refine⟨rfl,rfl,fun b x hlt hf=>⟨hf.Bs hlt _ (by simp),?_⟩⟩
  unfold Ac.renew
  rw[if_pos h0]
  simp only[Ac.new,E5]
  rw[Mm _ _ (aF hlt)]
 ·next h0=>
  split at e
  ·next cc m hc=>
   split at e
   ·next body hb=>
    cases e
    refine⟨rfl,rfl,fun b x hlt hf=>⟨hf.Bs hlt _ (by simp),?_⟩⟩
    unfold Ac.renew
    rw[if_neg h0,hf.cells hc]
    simp only[hb,Ac.new,E5]
    rw[Mm _ _ (aF hlt)]
   ·cases e
  ·cases e
theorem xU (c:Key) (o k:Nat) (l:List SV) {p:Key×Ac} (e:h.grow c o k l=some p):p.1=h.next∧p.2.next=h.next.succ∧∀b x,b.toNat<h.next.toNat→Bd b h→Bd b p.2∧(h.upd b (some x)).grow c o k l=some (p.1,p.2.upd b (some x)):=by
 unfold Ac.grow at e
 split at e
 ·next cc m anc hg=>
  split at e
  ·next body hb=>
   split at e
   ·next hm=>
    cases e
    refine⟨rfl,rfl,fun b x hlt hf=>?_⟩
    have hne:=hf.ne hg
    have hna:=hf.2 _ _ hg
    refine⟨(hf.upd hne _ (by simpa using hna)).Bs hlt _ (by simpa using⟨hne,hna⟩),?_⟩
    unfold Ac.grow
    rw[hf.get hg]
    simp only[hb,hm,if_true,E5]
    rw[Ee hne,Mm _ _ (show b≠(h.upd c (some ⟨.cells cc m,false,anc⟩)).next from aF hlt)]
   ·next hm=>
    cases e
    refine⟨rfl,by simp[Ac.Bs,Ac.upd,Bv],fun b x hlt hf=>?_⟩
    have hne:=hf.ne hg
    have hna:=hf.2 _ _ hg
    have hlt':b.toNat<((h.Bb anc).upd c none).next.toNat:=by simp only[Ac.upd,Bv];exact hlt
    refine⟨((hf.Bb anc hna).upd hne none (by simp)).Bs hlt' _ (by simp),?_⟩
    unfold Ac.grow
    rw[hf.get hg]
    simp only[hb,hm,if_false,E5]
    rw[Pm anc h hna,Ee hne,Mm _ _ (aF hlt')]
  ·cases e
 ·cases e
end
theorem Pn {h:Ac} {b:Key} {x:Blk} (hf:Bd b h) {es:Nat} {sv:SV} {r:List SV×Nat} (e:D4 h es sv=some r):D4 (h.upd b (some x)) es sv=some r:=by
 unfold D4 at e ⊢
 split at e
 ·exact e
 ·split at e
  ·next hes=>
   rw[if_pos hes]
   split at e
   ·next l hr=>rw[hf.read hr];exact e
   ·cases e
  ·cases e
 ·exact e
 ·cases e
theorem Hi {α:Type} {f:Ac→Option (α×Ac)} (h1:∀h v h',f h=some (v,h')→h'=h∧∀b x,Bd b h→f (h.upd b (some x))=some (v,h.upd b (some x))):Tz f:=by
 intro h v h' e
 obtain⟨rfl,h2⟩:=h1 h v h' e
 exact⟨Rl,fun b x _ hf=>⟨hf,h2 b x hf⟩⟩
theorem Jz {α:Type} {f:Ac→Option (α×Ac)} (h1:∀h v h',f h=some (v,h')→∃y:Blk,y.anc=[]∧h'=h.Bs y∧∀b x,b.toNat<h.next.toNat→Bd b h→f (h.upd b (some x))=some (v,(h.upd b (some x)).Bs y)):Tz f:=by
 intro h v h' e
 obtain⟨y,hy,rfl,h2⟩:=h1 h v h' e
 refine⟨by rw[Jc,Key.toNat_succ];omega,fun b x hlt hf=>⟨hf.Bs hlt y (by simp[hy]),?_⟩⟩
 rw[h2 b x hlt hf,Mm _ _ (aF hlt)]
theorem Gt {h:Ac} {x:Option SV} {v:AV} {h':Ac} (e:Dh h x=some (v,h')):h'=h∧∀h2,Dh h2 x=some (v,h2):=by
 unfold Dh at e
 split at e
 ·cases e;exact⟨rfl,fun _=>rfl⟩
 ·cases e
theorem Po {h:Ac} {x:Option CV} {v:AV} {h':Ac} (e:Ir h x=some (v,h')):h'=h∧∀h2,Ir h2 x=some (v,h2):=by
 unfold Ir at e
 split at e
 ·cases e;exact⟨rfl,fun _=>rfl⟩
 ·cases e
def RZ (op:VOp):Prop:=∀args h v h',op.run args h=some (v,h')→h'=h∧∀h2,op.run args h2=some (v,h2)
def Kv:VOp→Bool
 |.mov|.pick|.build ..|.Gp|.bin _|.eq ..|.un _|.conv _|.Nc ..|.slice ..|.B8 _|.field ..|.pV ..|.isl _|.idx ..|.pW|.extract _|.lens|.Ld|.Lh _|.cap|.Jk _|.bad|.gR|.tQ=>true
 |_=>false
theorem aG {op:VOp} (hb:Kv op=true):RZ op:=by
 intro args h v h' e
 cases op<;>simp only[Kv,Fj] at hb<;>simp only[VOp.run] at e ⊢
 case mov=>unfold zW at e;split at e<;>cases e;exact⟨rfl,fun _=>rfl⟩
 case pick=>unfold tS at e;split at e<;>cases e;exact⟨rfl,fun _=>rfl⟩
 case build z p=>
  unfold Zk at e ⊢
  split at e
  ·next cs hl=>cases e;exact⟨rfl,fun _=>rfl⟩
  ·cases e
 case Gp=>unfold Yv at e;split at e<;>cases e<;>exact⟨rfl,fun _=>rfl⟩
 case bin b=>unfold zX at e;split at e;exact Gt e;cases e
 case eq n k=>
  unfold rEq at e
  split at e
  ·split at e
   ·next r hr=>cases e;exact⟨rfl,fun _=>by unfold rEq;simp only[hr]⟩
   ·cases e
  ·cases e
 case un u=>unfold rUn at e;split at e;exact Gt e;cases e
 case conv k=>unfold tT at e;split at e<;>cases e;exact⟨rfl,fun _=>rfl⟩
 case Nc f n=>
  unfold Tk at e ⊢
  split at e
  ·cases e;exact⟨rfl,fun _=>rfl⟩
  ·cases e
 case slice k lo hi mx=>
  unfold Li at e
  split at e
  ·next x xs=>
   split at e
   ·next bs hbs=>
    split at e
    ·split at e
     ·cases e
     ·next hmx=>
      split at e
      ·next a b c hbd=>cases e;exact⟨rfl,fun _=>by unfold Li;simp only[hbs,hbd];rw[if_neg hmx]⟩
      ·cases e
    ·have:=Gt e;exact⟨this.1,fun h2=>by unfold Li;simp only[hbs];exact this.2 h2⟩
    ·have:=Gt e;exact⟨this.1,fun h2=>by unfold Li;simp only[hbs];exact this.2 h2⟩
    ·cases e
   ·cases e
  ·cases e
 case B8 off=>unfold gT at e;split at e<;>cases e;exact⟨rfl,fun _=>rfl⟩
 case field off n=>unfold Zn at e;split at e;exact Po e;cases e
 case pV n es=>
  unfold Zo at e
  split at e
  ·split at e
   ·next hc=>cases e;exact⟨rfl,fun _=>by unfold Zo;simp only[hc,and_self,if_true]⟩
   ·cases e
  ·cases e
 case isl es=>
  unfold qA at e
  split at e
  ·split at e
   ·next hc=>cases e;exact⟨rfl,fun _=>by unfold qA;simp only[hc,and_self,if_true]⟩
   ·cases e
  ·cases e
 case idx n es m=>
  unfold wY at e
  split at e
  ·split at e
   ·next hc=>have:=Po e;exact⟨this.1,fun h2=>by unfold wY;simp only[hc,and_self,if_true];exact this.2 h2⟩
   ·cases e
  ·cases e
 case pW=>
  unfold eJ at e
  split at e
  ·split at e
   ·next hc=>
    split at e
    ·next n hn=>cases e;exact⟨rfl,fun _=>by unfold eJ;simp only[hc,if_true,hn]⟩
    ·cases e
   ·cases e
  ·cases e
 case extract i=>unfold O4 at e;split at e;exact Po e;cases e
 case lens=>unfold tU at e;split at e<;>cases e<;>exact⟨rfl,fun _=>rfl⟩
 case Ld=>unfold Yw at e;split at e<;>cases e;exact⟨rfl,fun _=>rfl⟩
 case Lh n=>unfold Yx at e;split at e<;>cases e;exact⟨rfl,fun _=>rfl⟩
 case cap=>unfold HM at e;split at e<;>cases e<;>exact⟨rfl,fun _=>rfl⟩
 case Jk m=>unfold Tl at e;split at e;exact Gt e;cases e
 all_goals cases e
theorem IA (op:VOp) (args:List AV):Tz (op.run args):=by
 by_cases hbl:Kv op=true
 ·exact Hi fun h v h' e=>by
   obtain⟨h1,h2⟩:=aG hbl args h v h' e
   exact⟨h1,fun b x _=>h2 _⟩
 ·cases op<;>simp only[Kv,not_true_eq_false] at hbl
  case Fg zs=>
   refine Jz fun h v h' e=>?_
   simp only[VOp.run] at e ⊢
   unfold eI at e
   split at e
   ·cases e;exact⟨_,rfl,rfl,fun b x _ _=>rfl⟩
   ·cases e
  case box n=>
   refine Jz fun h v h' e=>?_
   simp only[VOp.run] at e ⊢
   unfold lF at e
   split at e
   ·split at e
    ·next hc=>cases e;exact⟨_,rfl,rfl,fun b x _ _=>by unfold lF;simp only[hc,if_true,E5];rfl⟩
    ·cases e
   ·cases e
  case Gn es len z p=>
   refine Jz fun h v h' e=>?_
   simp only[VOp.run] at e ⊢
   unfold Qo at e ⊢
   split at e
   ·next cs hl=>cases e;exact⟨_,rfl,rfl,fun b x _ _=>by simp only[E5];rfl⟩
   ·cases e
  case Bm=>
   refine Hi fun h v h' e=>?_
   simp only[VOp.run] at e ⊢
   unfold Fx at e
   split at e
   ·split at e
    ·next y hr=>cases e;exact⟨rfl,fun b x hf=>by unfold Fx;simp only[hf.read hr]⟩
    ·cases e
   ·cases e
  case B5 n=>
   refine Hi fun h v h' e=>?_
   simp only[VOp.run] at e ⊢
   unfold Fy at e
   split at e
   ·split at e
    ·next y hr=>cases e;exact⟨rfl,fun b x hf=>by unfold Fy;simp only[hf.read hr]⟩
    ·cases e
   ·cases e
  case store n=>
   intro h v h' e
   simp only[VOp.run] at e ⊢
   unfold Sm at e
   split at e
   ·split at e
    ·next hc=>
     split at e
     ·next h2 hw=>
      cases e
      obtain⟨h3,h4⟩:=Nt _ _ _ hw
      refine⟨by rw[h3];exact Rl,fun b x _ hf=>⟨(h4 b x hf).1,?_⟩⟩
      unfold Sm
      simp only[hc,if_true,(h4 b x hf).2]
     ·cases e
    ·cases e
   ·cases e
  case s2b=>
   refine Jz fun h v h' e=>?_
   simp only[VOp.run] at e ⊢
   unfold pY at e
   split at e
   ·split at e
    ·next hc=>cases e;exact⟨_,rfl,rfl,fun b x _ _=>by unfold pY;simp only[hc,if_true,E5]⟩
    ·cases e
   ·cases e
  case b2s=>
   refine Hi fun h v h' e=>?_
   simp only[VOp.run] at e ⊢
   unfold pZ at e
   split at e
   ·split at e
    ·next l n hs=>
     split at e
     ·next l2 hl=>cases e;exact⟨rfl,fun b x hf=>by unfold pZ;simp only[Pn hf hs,hl]⟩
     ·cases e
    ·cases e
   ·cases e;exact⟨rfl,fun b x hf=>rfl⟩
   ·cases e
  case Oi=>
   refine Jz fun h v h' e=>?_
   simp only[VOp.run] at e ⊢
   unfold O3 at e
   split at e
   ·cases e;exact⟨_,rfl,rfl,fun b x _ _=>rfl⟩
   ·cases e;exact⟨_,rfl,rfl,fun b x _ _=>rfl⟩
   ·cases e
  case Ko es by' z=>
   refine Jz fun h v h' e=>?_
   simp only[VOp.run] at e ⊢
   unfold Ij at e
   split at e
   ·split at e
    ·next hc=>cases e;exact⟨_,rfl,rfl,fun b x _ _=>by unfold Ij;simp only[hc,and_self,if_true,E5];rfl⟩
    ·cases e
   ·cases e
  case lookup ks z ok=>
   refine Hi fun h v h' e=>?_
   simp only[VOp.run] at e ⊢
   unfold Dq at e
   split at e
   ·split at e
    ·next hc=>cases e;exact⟨rfl,fun b x hf=>by unfold Dq;simp only[hc,if_true]⟩
    ·cases e
   ·split at e
    ·next hc=>
     split at e
     ·next l own anc hg=>
      split at e
      ·next r hr=>cases e;exact⟨rfl,fun b x hf=>by unfold Dq;simp only[hc,if_true,hf.get hg,hr]⟩
      ·cases e
     ·cases e
    ·cases e
   ·cases e
  case Gq ks=>
   intro h v h' e
   simp only[VOp.run] at e ⊢
   unfold Ng at e
   split at e
   ·split at e
    ·next hc=>
     split at e
     ·next l hg=>
      split at e
      ·next l2 hl=>
       cases e
       refine⟨Rl,fun b x _ hf=>⟨hf.upd (hf.ne hg) _ (by simp),?_⟩⟩
       unfold Ng
       simp only[hc,if_true,hf.get hg,hl]
       rw[Ee (hf.ne hg)]
      ·cases e
     ·cases e
    ·cases e
   ·cases e
  case dV=>
   refine Hi fun h v h' e=>?_
   simp only[VOp.run] at e ⊢
   unfold O5 at e
   split at e
   ·cases e;exact⟨rfl,fun b x hf=>rfl⟩
   ·split at e
    ·next l own anc hg=>cases e;exact⟨rfl,fun b x hf=>by unfold O5;simp only[hf.get hg]⟩
    ·cases e
   ·cases e
  case append es by'=>
   intro h v h' e
   simp only[VOp.run] at e ⊢
   unfold Nh at e
   split at e
   ·next s x0=>
    split at e
    ·next new n hs=>
     split at e
     ·next r h2 ha=>
      cases e
      have key:h.next.toNat≤h'.next.toNat∧∀b x,b.toNat<h.next.toNat→Bd b h→Bd b h'∧Cj (h.upd b (some x)) es by' s new n=some (r,h'.upd b (some x)):=by
       unfold Cj at ha
       split at ha
       ·split at ha
        ·next hn=>cases ha;exact⟨Rl,fun b x _ hf=>⟨hf,by unfold Cj;simp only[hn,if_true]⟩⟩
        ·next hn=>
         split at ha
         ·next hroom=>
          cases ha
          refine⟨by simp only[Ac.new,Jc,Key.toNat_succ];omega,fun b x hlt hf=>⟨hf.Bs hlt _ (by simp),?_⟩⟩
          unfold Cj
          simp only[hn,if_false,hroom,if_true,Ac.new,E5]
          rw[Mm _ _ (aF hlt)]
         ·cases ha
       ·split at ha
        ·next hes=>
         split at ha
         ·next hn=>cases ha;exact⟨Rl,fun b x _ hf=>⟨hf,by unfold Cj;simp only[hn,if_true,hes]⟩⟩
         ·next hn=>
          split at ha
          ·next c=>
           split at ha
           ·next hle=>
            split at ha
            ·next h3 hw=>
             cases ha
             obtain⟨g1,g2⟩:=Nt _ _ _ hw
             refine⟨by rw[g1];exact Rl,fun b x _ hf=>⟨(g2 b x hf).1,?_⟩⟩
             unfold Cj
             simp only[hes,if_true,hn,if_false,hle]
             rw[hes] at g2
             simp only[(g2 b x hf).2]
            ·cases ha
           ·next hle=>
            split at ha
            ·next hroom=>
             split at ha
             ·next b2 h3 hw=>
              cases ha
              obtain⟨g1,g2,g3⟩:=qQ _ _ _ _ hw
              refine⟨by rw[g2,Key.toNat_succ];omega,fun b x hlt hf=>⟨(g3 b x hlt hf).1,?_⟩⟩
              unfold Cj
              simp only[hes,if_true,hn,if_false,hle,hroom]
              rw[hes] at g3
              simp only[(g3 b x hlt hf).2]
             ·cases ha
            ·cases ha
          ·split at ha
           ·next hroom=>
            split at ha
            ·next b2 h3 hw=>
             cases ha
             obtain⟨g1,g2,g3⟩:=xU _ _ _ _ hw
             refine⟨by rw[g2,Key.toNat_succ];omega,fun b x hlt hf=>⟨(g3 b x hlt hf).1,?_⟩⟩
             unfold Cj
             simp only[hes,if_true,hn,if_false,hroom]
             rw[hes] at g3
             simp only[(g3 b x hlt hf).2]
            ·cases ha
           ·cases ha
        ·cases ha
       ·cases ha
      refine⟨key.1,fun b x hlt hf=>⟨(key.2 b x hlt hf).1,?_⟩⟩
      unfold Nh
      simp only[Pn hf hs,(key.2 b x hlt hf).2]
     ·cases e
    ·cases e
   ·cases e
  case copy es=>
   intro h v h' e
   simp only[VOp.run] at e ⊢
   unfold O6 at e
   split at e
   ·next d x0=>
    split at e
    ·next src n hs=>
     split at e
     ·cases e;exact⟨Rl,fun b x _ hf=>⟨hf,by unfold O6;simp only[Pn hf hs]⟩⟩
     ·split at e
      ·next hes=>
       split at e
       ·next hm=>cases e;exact⟨Rl,fun b x _ hf=>⟨hf,by unfold O6;simp only[Pn hf hs];rw[if_pos hes,if_pos hm]⟩⟩
       ·next hm=>
        split at e
        ·next h3 hw=>
         cases e
         obtain⟨g1,g2⟩:=Nt _ _ _ hw
         refine⟨by rw[g1];exact Rl,fun b x _ hf=>⟨(g2 b x hf).1,?_⟩⟩
         unfold O6
         simp only[Pn hf hs]
         rw[if_pos hes,if_neg hm]
         simp only[(g2 b x hf).2]
        ·cases e
      ·cases e
     ·cases e
    ·cases e
   ·cases e
  case Hd=>
   refine Jz fun h v h' e=>?_
   simp only[VOp.run] at e ⊢
   unfold Ni at e
   split at e
   ·split at e
    ·next l own anc hg=>
     split at e
     ·next hc=>cases e;exact⟨_,rfl,rfl,fun b x _ hf=>by unfold Ni;simp only[hf.get hg,hc,if_true,E5];rfl⟩
     ·cases e
    ·cases e
   ·cases e
  case Md=>
   intro h v h' e
   simp only[VOp.run] at e ⊢
   unfold Jn at e
   split at e
   ·split at e
    ·next b0 n st hg=>
     split at e
     ·next l own anc hg2=>
      split at e
      ·next hl=>
       split at e
       ·cases e
        refine⟨Rl,fun b x _ hf=>⟨hf.upd (hf.ne hg) _ (by simp),?_⟩⟩
        unfold Jn
        simp only[hf.get hg,hf.get hg2,hl,if_true]
        rw[Ee (hf.ne hg)]
       ·cases e;exact⟨Rl,fun b x _ hf=>⟨hf,by unfold Jn;simp only[hf.get hg,hf.get hg2,hl,if_true]⟩⟩
       ·cases e;exact⟨Rl,fun b x _ hf=>⟨hf,by unfold Jn;simp only[hf.get hg,hf.get hg2,hl,if_true]⟩⟩
       ·cases e
      ·cases e
     ·cases e
    ·cases e
   ·cases e
  case He=>
   refine Hi fun h v h' e=>?_
   simp only[VOp.run] at e ⊢
   unfold Nj at e
   split at e
   ·split at e
    ·next b0 n own anc hg=>
     split at e
     ·next k v own2 anc2 hg2=>
      split at e
      ·next hn=>cases e;exact⟨rfl,fun b x hf=>by unfold Nj;simp only[hf.get hg,hf.get hg2,hn,if_true]⟩
      ·cases e
     ·cases e
    ·cases e
   ·cases e
def Cb (call:Bn):Prop:=∀f args,Tz (call f args)
def OF {α:Type} (m:Nat) (f:Ac→Option (α×Ac)):Prop:=
 ∀h v h',m≤h.next.toNat→f h=some (v,h')→h.next.toNat≤h'.next.toNat∧∀b x,b.toNat<m→Bd b h→Bd b h'∧f (h.upd b (some x))=some (v,h'.upd b (some x))
theorem Tz.to {α:Type} {f:Ac→Option (α×Ac)} (h:Tz f) (m:Nat):OF m f:=
 fun h0 v h' hm e=>⟨(h h0 v h' e).1,fun b x hb hf=>(h h0 v h' e).2 b x (by omega) hf⟩
theorem mH {call:Bn} (hc:Cb call) (a:Bl) (args:List AV):Tz (a.run call args):=by
 cases a with
 |op o=>exact IA o args
 |call f=>exact hc f args
 |Ge=>
  intro h v h' e
  simp only[Bl.run] at e ⊢
  split at e
  ·next f fs cs xs=>exact hc _ _ h v h' e
  ·cases e
theorem Mn {call:Bn} (hc:Cb call) (o:An) (fr:Fr):Tz (o.run call fr):=by
 intro h v h' e
 simp only[An.run] at e ⊢
 split at e
 ·next hw=>
  split at e
  ·next args hf=>
   split at e
   ·next u h1 ha=>
    cases e
    obtain⟨g1,g2⟩:=mH hc o.act args h u _ ha
    exact⟨g1,fun b x hb hfr=>⟨(g2 b x hb hfr).1,by simp only[(g2 b x hb hfr).2]⟩⟩
   ·cases e
  ·cases e
 ·next hw=>cases e;exact⟨Rl,fun b x _ hfr=>⟨hfr,by simp only⟩⟩
 ·cases e
theorem mI {call:Bn} (hc:Cb call):∀(l:List An) (fr:Fr),Tz (Cl call l fr)
 |[],fr=>by
  intro h v h' e
  simp only[Cl,Sj,Pj] at e
  obtain⟨rfl,rfl⟩:=e
  exact⟨Rl,fun b x _ hf=>⟨hf,rfl⟩⟩
 |o::l,fr=>by
  intro h v h' e
  simp only[Cl] at e ⊢
  split at e
  ·next fr1 h1 h1e=>
   obtain⟨g1,g2⟩:=Mn hc o fr h fr1 h1 h1e
   obtain⟨g3,g4⟩:=mI hc l fr1 h1 v h' e
   refine⟨by omega,fun b x hb hf=>?_⟩
   obtain⟨k1,k2⟩:=g2 b x hb hf
   obtain⟨k3,k4⟩:=g4 b x (by omega) k1
   exact⟨k3,by simp only[k2,k4]⟩
  ·cases e
theorem Bd.next {b:Key} {h:Ac} (hf:Bd b h) (r:Key):Bd b { h with next:=r }:=hf
theorem En {o:VOp} (hk:o.kind=.quiet) {args:List AV} {h h':Ac} {v:AV} (e:o.run args h=some (v,h')):h'=h∧∀h2:Ac,(∀b,O7 o args=some b→h2.get b=h.get b)→o.run args h2=some (v,h2):=by
 by_cases hbl:Kv o=true
 ·obtain⟨h1,h2⟩:=aG hbl args h v h' e
  exact⟨h1,fun h3 _=>h2 h3⟩
 ·have rd:∀{h2:Ac} {b:Key},h2.get b=h.get b→∀o n,h2.read b o n=h.read b o n:=fun hg o n=>by
   unfold Ac.read Ac.cells;rw[hg]
  cases o<;>simp only[Kv,not_true_eq_false] at hbl<;>simp only[VOp.kind,reduceCtorEq] at hk<;>simp only[VOp.run] at e ⊢
  case Bm=>
   unfold Fx at e
   split at e
   ·split at e
    ·next y hr=>cases e;exact⟨rfl,fun h2 hh=>by unfold Fx;simp only[rd (hh _ rfl),hr]⟩
    ·cases e
   ·cases e
  case B5 n=>
   unfold Fy at e
   split at e
   ·split at e
    ·next b0 o0 _ y hr=>
     cases e
     refine⟨rfl,fun h2 hh=>?_⟩
     unfold Fy
     by_cases hn:n=0
     ·subst hn;rw[Vr] at hr;cases hr;simp only[Vr]
     ·simp only[rd (hh b0 (by simp[O7,hn])),hr]
    ·cases e
   ·cases e
  case lookup ks z ok=>
   unfold Dq at e
   split at e
   ·split at e
    ·next hc=>cases e;exact⟨rfl,fun h2 _=>by unfold Dq;simp only[hc,if_true]⟩
    ·cases e
   ·split at e
    ·next hc=>
     split at e
     ·next l own anc hg=>
      split at e
      ·next r hr=>cases e;exact⟨rfl,fun h2 hh=>by unfold Dq;simp only[hc,if_true,hh _ rfl,hg,hr]⟩
      ·cases e
     ·cases e
    ·cases e
   ·cases e
  case dV=>
   unfold O5 at e
   split at e
   ·cases e;exact⟨rfl,fun h2 _=>rfl⟩
   ·split at e
    ·next l own anc hg=>cases e;exact⟨rfl,fun h2 hh=>by unfold O5;simp only[hh _ rfl,hg]⟩
    ·cases e
   ·cases e
theorem AW {o:VOp} {args:List AV} {h h':Ac} {v:AV} (e:o.run args h=some (v,h')) {c:Key} (hc:O7 o args=some c):h.get c≠none:=by
 intro hn
 have hcells:h.cells c=none:=by unfold Ac.cells;rw[hn]
 unfold O7 at hc
 split at hc
 ·cases hc
  simp only[VOp.run] at e
  unfold Fx at e
  split at e
  ·next e'=>cases e';simp[Ac.read,hcells] at e
  ·cases e
 ·split at hc
  ·cases hc
  ·next hn0=>
   cases hc
   simp only[VOp.run] at e
   unfold Fy at e
   split at e
   ·next e'=>cases e';simp[Ac.read,hcells,hn0] at e
   ·cases e
 ·cases hc
  simp only[VOp.run] at e
  unfold Dq at e
  split at e
  ·next e'=>cases e'
  ·next e'=>cases e';simp[hn] at e
  ·cases e
 ·cases hc
  simp only[VOp.run] at e
  unfold O5 at e
  split at e
  ·next e'=>cases e'
  ·next e'=>cases e';simp[hn] at e
  ·cases e
 ·cases hc
theorem Xj {o:VOp} (hk:o.kind=.quiet) {args:List AV} {v:AV} {b:Key} {x:Blk} (hf0:∀c,O7 o args=some c→b≠c):∀(l:List Ac),Hf o args v l=true→Hf o args v (l.map fun h=>h.upd b (some x))=true
 |[],_=>rfl
 |h::l,e=>by
  simp only[Hf,Bool.and_eq_true] at e
  simp only[List.map_cons,Hf,Bool.and_eq_true]
  refine⟨?_,Xj hk hf0 l e.2⟩
  have e1:=e.1
  split at e1
  ·next u h2 hu=>
   obtain⟨_,hq⟩:=En hk hu
   rw[hq (h.upd b (some x)) (fun c hc=>Hh (hf0 c hc) _)]
   exact e1
  ·cases e1
theorem J0 {call:Bn} (hc:Cb call) (lo hi:Key):∀(l:List DOp) (r:Key) (Ai:List Ac) (fr:Fr) (h:Ac) (fr':Fr) (h':Ac),lo.toNat≤r.toNat→r.toNat+Az l≤h.next.toNat→lo.toNat≤h.next.toNat →
  Bf call lo hi l r Ai fr h=some (fr',h')→h.next.toNat≤h'.next.toNat∧∀b x,b.toNat<lo.toNat→Bd b h→(∀s∈Ai,s.get b=none) →
   Bd b h'∧Bf call lo hi l r (Ai.map fun s=>s.upd b (some x)) fr (h.upd b (some x))=some (fr',h'.upd b (some x))
 |[],r,Ai,fr,h,fr',h',_,_,_,e=>by
  simp only[Bf,Sj,Pj] at e
  obtain⟨rfl,rfl⟩:=e
  exact⟨Rl,fun b x _ hf _=>⟨hf,rfl⟩⟩
 |d::l,r,Ai,fr,h,fr',h',hlo,hr,hln,e=>by
  simp only[Az] at hr
  simp only[Bf] at e ⊢
  split at e
  ·next hk=>
   split at e
   ·next fr1 h1 h1e=>
    obtain⟨g1,g2⟩:=Mn hc d.o fr h fr1 h1 h1e
    obtain⟨g3,g4⟩:=J0 hc lo hi l r (Ai++[h]) fr1 h1 fr' h' hlo (by omega) (by omega) e
    refine⟨by omega,fun b x hb hf hs=>?_⟩
    obtain⟨k1,k2⟩:=g2 b x (by omega) hf
    obtain⟨k3,k4⟩:=g4 b x hb k1 (by intro s hs';rcases List.mem_append.1 hs' with h5|h5;exact hs s h5;simp at h5;subst h5;exact hf.1)
    refine⟨k3,?_⟩
    simp only[k2]
    simpa using k4
   ·cases e
  ·next hk=>
   simp only[hk,if_true] at hr
   split at e
   ·next fr1 h1 h1e=>
    obtain⟨g1,g2⟩:=Mn hc d.o fr _ fr1 h1 h1e
    have hn:({ h1 with next:=h.next }:Ac).next=h.next:=rfl
    obtain⟨g3,g4⟩:=J0 hc lo hi l r.succ Ai fr1 { h1 with next:=h.next } fr' h' (by rw[Key.toNat_succ];omega) (by rw[Key.toNat_succ,hn];omega) hln e
    refine⟨g3,fun b x hb hf hs=>?_⟩
    obtain⟨k1,k2⟩:=g2 b x (by show b.toNat<r.toNat;omega) (hf.next r)
    obtain⟨k3,k4⟩:=g4 b x hb (k1.next h.next) hs
    refine⟨k3,?_⟩
    have k2':d.o.run call fr { h.upd b (some x) with next:=r }=some (fr1,h1.upd b (some x)):=k2
    simp only[k2']
    exact k4
   ·cases e
  ·next hk=>
   split at e
   ·next o hw ha=>
    have hko:o.kind=.quiet:=by rw[ha] at hk;exact hk
    split at e
    ·next args hf0=>
     split at e
     ·next v h2 hv=>
      split at e
      ·next hchk=>
       simp only[Bool.and_eq_true] at hchk
       simp only[hko,reduceCtorEq,Bl.kind,ha,if_false] at hr
       obtain⟨g3,g4⟩:=J0 hc lo hi l r Ai _ h fr' h' hlo (by omega) hln e
       refine⟨g3,fun b x hb hf hs=>?_⟩
       obtain⟨k3,k4⟩:=g4 b x hb hf hs
       refine⟨k3,?_⟩
       obtain⟨_,hq⟩:=En hko hv
       have hne:∀c,O7 o args=some c→b≠c:=fun c hcc e'=>by
        subst e'
        exact AW hv hcc hf.1
       have hrun:o.run args (h.upd b (some x))=some (v,h.upd b (some x)):=hq _ fun c hcc=>Hh (hne c hcc) _
       have hsame:=Xj (v:=v) (b:=b) (x:=x) hko hne _ hchk.2
       simp only[hrun]
       rw[←List.map_drop,hchk.1,hsame]
       simpa using k4
      ·cases e
     ·cases e
    ·cases e
   ·next hw=>
    obtain⟨g3,g4⟩:=J0 hc lo hi l r Ai _ h fr' h' hlo (by omega) hln e
    exact⟨g3,fun b x hb hf hs=>g4 b x hb hf hs⟩
   ·cases e
theorem Db:∀(n:Nat) (k:Key),(Bt k n).toNat=k.toNat+n
 |0,k=>rfl
 |n+1,k=>by rw[Bt,Db n,Key.toNat_succ];omega
theorem T0 {h:Ac} {b:Key} {x:Blk} (hf:Bd b h) {fr:Fr}:∀{l:List Lj} {r:List CV},D5 fr h l=some r→D5 fr (h.upd b (some x)) l=some r
 |[],r,e=>e
 |v::l,r,e=>by
  unfold D5 at e ⊢
  split at e
  ·next c hc=>
   have:Gr fr (h.upd b (some x)) v=some c:=by
    unfold Gr at hc ⊢
    split at hc
    ·exact hc
    ·split at hc
     ·split at hc
      ·next y hr=>rw[hf.read hr];exact hc
      ·cases hc
     ·cases hc
    ·split at hc
     ·split at hc
      ·next y hr=>rw[hf.read hr];exact hc
      ·cases hc
     ·cases hc
   rw[this]
   split at e
   ·next cs hcs=>rw[T0 hf hcs];exact e
   ·cases e
  ·cases e
theorem Nu {F:A4} {O:Ez} (hO:∀f g,O f=some g→∀args,Tz (g args)) {ex:Ay→Fr→Ac→Option (B2×Fr×Ac)}
  (hex:∀c fr h x fr' h',ex c fr h=some (x,fr',h')→h.next.toNat≤h'.next.toNat∧∀b y,b.toNat<h.next.toNat→Bd b h→Bd b h'∧ex c fr (h.upd b (some y))=some (x,fr',h'.upd b (some y))):Cb (Bo F O ex):=by
 intro f args h v h' e
 unfold Bo at e ⊢
 split at e
 ·next g ho=>exact hO f g ho args h v h' e
 ·next ho=>
  split at e
  ·next vf hvf=>
   split at e
   ·cases e
   ·next x fr h2 hne hx=>
    split at e
    ·next l hl=>
     cases e
     obtain⟨g1,g2⟩:=hex _ _ _ _ _ _ hx
     refine⟨g1,fun b y hb hf=>⟨(g2 b y hb hf).1,?_⟩⟩
     have e2:=(g2 b y hb hf).2
     have e3:=T0 (x:=y) (g2 b y hb hf).1 hl
     simp only[e2]
     cases x with
     |exit i=>exact(hne i rfl).elim
     |normal=>simp only[e3]
     |ret=>simp only[e3]
    ·cases e
   ·cases e
  ·cases e
theorem Mo {F:A4} {O:Ez} (hO:∀f g,O f=some g→∀args,Tz (g args)):∀(n:Nat) (c:Ay) (fr:Fr) (h:Ac) (x:B2) (fr':Fr) (h':Ac),exec F O n c fr h=some (x,fr',h') →
  h.next.toNat≤h'.next.toNat∧∀b y,b.toNat<h.next.toNat→Bd b h→Bd b h'∧exec F O n c fr (h.upd b (some y))=some (x,fr',h'.upd b (some y))
 |0,c,fr,h,x,fr',h',e=>by simp[exec] at e
 |n+1,c,fr,h,x,fr',h',e=>by
  have ih:=Mo (F:=F) hO n
  have hc:Cb (Bo F O (exec F O n)):=Nu hO ih
  cases c with
  |skip=>simp only[exec,Sj,Pj] at e;obtain⟨rfl,rfl,rfl⟩:=e;exact⟨Rl,fun b y _ hf=>⟨hf,rfl⟩⟩
  |exit id=>simp only[exec,Sj,Pj] at e;obtain⟨rfl,rfl,rfl⟩:=e;exact⟨Rl,fun b y _ hf=>⟨hf,rfl⟩⟩
  |ret=>simp only[exec,Sj,Pj] at e;obtain⟨rfl,rfl,rfl⟩:=e;exact⟨Rl,fun b y _ hf=>⟨hf,rfl⟩⟩
  |region ops=>
   simp only[exec] at e ⊢
   split at e
   ·next fr1 h1 h1e=>
    cases e
    obtain⟨g1,g2⟩:=mI hc ops fr h _ _ h1e
    exact⟨g1,fun b y hb hf=>⟨(g2 b y hb hf).1,by simp only[(g2 b y hb hf).2]⟩⟩
   ·cases e
  |drawn ds=>
   simp only[exec] at e ⊢
   split at e
   ·next fr1 h1 h1e=>
    cases e
    have hn:=Db (Az ds) h.next
    obtain⟨g1,g2⟩:=J0 hc h.next _ ds h.next [] fr _ _ _ (Rl) (by show _≤(Bt h.next (Az ds)).toNat;omega) (by show _≤(Bt h.next (Az ds)).toNat;omega) h1e
    have g1':(Bt h.next (Az ds)).toNat≤h'.next.toNat:=g1
    refine⟨by omega,fun b y hb hf=>?_⟩
    obtain⟨k1,k2⟩:=g2 b y hb hf (by simp)
    refine⟨k1,?_⟩
    have k2':Bf (Bo F O (exec F O n)) h.next (Bt h.next (Az ds)) ds h.next [] fr { h.upd b (some y) with next:=Bt h.next (Az ds) }=some (fr',h'.upd b (some y)):=k2
    simp only[E5,k2']
   ·cases e
  |seq a b0=>
   simp only[exec] at e ⊢
   split at e
   ·next fr1 h1 h1e=>
    obtain⟨g1,g2⟩:=ih a fr h _ _ _ h1e
    obtain⟨g3,g4⟩:=ih b0 fr1 h1 _ _ _ e
    refine⟨by omega,fun b y hb hf=>?_⟩
    obtain⟨k1,k2⟩:=g2 b y hb hf
    obtain⟨k3,k4⟩:=g4 b y (by omega) k1
    exact⟨k3,by simp only[k2,k4]⟩
   ·next hnn=>
    obtain⟨g1,g2⟩:=ih a fr h _ _ _ e
    refine⟨g1,fun b y hb hf=>⟨(g2 b y hb hf).1,?_⟩⟩
    rw[(g2 b y hb hf).2]
    cases x with
    |normal=>exact absurd e (hnn _ _)
    |_=>rfl
  |cond c0 a b0=>
   simp only[exec] at e ⊢
   split at e
   ·next hc0=>exact ih a fr h _ _ _ e
   ·next hc0=>exact ih b0 fr h _ _ _ e
   ·cases e
  |block id c0=>
   simp only[exec] at e ⊢
   split at e
   ·next j fr1 h1 h1e=>
    obtain⟨g1,g2⟩:=ih c0 fr h _ _ _ h1e
    split at e
    ·next hj=>cases e;exact⟨g1,fun b y hb hf=>⟨(g2 b y hb hf).1,by simp only[(g2 b y hb hf).2,hj,if_true]⟩⟩
    ·next hj=>cases e;exact⟨g1,fun b y hb hf=>⟨(g2 b y hb hf).1,by simp only[(g2 b y hb hf).2,hj,if_false]⟩⟩
   ·next hnn=>
    obtain⟨g1,g2⟩:=ih c0 fr h _ _ _ e
    refine⟨g1,fun b y hb hf=>⟨(g2 b y hb hf).1,?_⟩⟩
    rw[(g2 b y hb hf).2]
    cases x with
    |exit j=>exact absurd e (hnn _ _ _)
    |_=>rfl
  |loop c0=>
   simp only[exec] at e ⊢
   split at e
   ·next fr1 h1 h1e=>
    obtain⟨g1,g2⟩:=ih c0 fr h _ _ _ h1e
    obtain⟨g3,g4⟩:=ih (.loop c0) fr1 h1 _ _ _ e
    refine⟨by omega,fun b y hb hf=>?_⟩
    obtain⟨k1,k2⟩:=g2 b y hb hf
    obtain⟨k3,k4⟩:=g4 b y (by omega) k1
    exact⟨k3,by simp only[k2,k4]⟩
   ·next hnn=>
    obtain⟨g1,g2⟩:=ih c0 fr h _ _ _ e
    refine⟨g1,fun b y hb hf=>⟨(g2 b y hb hf).1,?_⟩⟩
    rw[(g2 b y hb hf).2]
    cases x with
    |normal=>exact absurd e (hnn _ _)
    |_=>rfl
theorem aH (ms:List Nat) (i:Nat):∀(ds:List Nat),(Pc ms ds).testBit i=true↔∃k∈ds,k=i∨(ms.getD k 0).testBit i=true
 |[]=>by simp[Pc]
 |k::l=>by
  simp only[Pc,Nat.testBit_or,Bool.or_eq_true,aH ms i l,List.mem_cons,Nat.testBit_two_pow,decide_eq_true_eq]
  constructor
  ·rintro((h|h)|⟨k',h1,h2⟩)
   ·exact⟨k,.inl rfl,.inl h⟩
   ·exact⟨k,.inl rfl,.inr h⟩
   ·exact⟨k',.inr h1,h2⟩
  ·rintro⟨k',rfl|h1,h2⟩
   ·exact .inl (h2.imp id id)
   ·exact .inr ⟨k',h1,h2⟩
theorem J1:∀(ds:List (List Nat)) (ms:List Nat),(E9 ds ms).length=ms.length+ds.length ∧
  (∀j,j<ms.length→(E9 ds ms)[j]?=ms[j]?) ∧
  ∀t d,ds[t]?=some d→(E9 ds ms)[ms.length+t]?=some (Pc ((E9 ds ms).take (ms.length+t)) d)
 |[],ms=>by simp[E9]
 |d::r,ms=>by
  obtain⟨h1,h2,h3⟩:=J1 r (ms++[Pc ms d])
  simp only[E9]
  refine⟨by rw[h1];simp;omega,fun j hj=>?_,fun t d' ht=>?_⟩
  ·rw[h2 j (by simp;omega),List.getElem?_append_left hj]
  ·cases t with
   |zero=>
    simp only[List.getElem?_cons_zero,Sj] at ht
    subst ht
    rw[Nat.add_zero,h2 ms.length (by simp),List.getElem?_append_right (Rl)]
    simp only[Nat.sub_self,List.getElem?_cons_zero]
    congr 2
    apply List.ext_getElem?
    intro i
    rw[List.getElem?_take]
    by_cases hi:i<ms.length
    ·rw[if_pos hi,h2 i (by simp;omega),List.getElem?_append_left hi]
    ·rw[if_neg hi,List.getElem?_eq_none (by omega)]
   |succ t=>
    have:=h3 t d' (by simpa using ht)
    simp only[La,List.length_singleton] at this
    rw[show ms.length+(t+1)=ms.length+1+t from by omega]
    exact this
def Qv (ops:List Oper):Prop:=∀j o,ops[j]?=some o→∀k∈direct o,k<j
theorem Nv {ops:List Oper} (hd:Qv ops) {i j:Nat} {o:Oper} (hj:ops[j]?=some o):before (B9 ops) i j=true↔∃k∈direct o,k=i∨before (B9 ops) i k=true:=by
 obtain⟨h1,_,h3⟩:=J1 (ops.map direct) []
 have:=h3 j (direct o) (by simp[hj])
 simp only[List.length_nil,Nat.zero_add] at this
 have hm:(B9 ops).getD j 0=Pc ((B9 ops).take j) (direct o):=by
  unfold B9
  rw[List.getD_eq_getElem?_getD,this];rfl
 unfold before
 rw[hm,aH]
 constructor
 ·rintro⟨k,hk,h⟩
  refine⟨k,hk,h.imp id fun h=>?_⟩
  have hlt:=hd j o hj k hk
  rw[List.getD_eq_getElem?_getD,List.getElem?_take,if_pos hlt,←List.getD_eq_getElem?_getD] at h
  exact h
 ·rintro⟨k,hk,h⟩
  refine⟨k,hk,h.imp id fun h=>?_⟩
  have hlt:=hd j o hj k hk
  rw[List.getD_eq_getElem?_getD,List.getElem?_take,if_pos hlt,←List.getD_eq_getElem?_getD]
  exact h
theorem mJ {ops:List Oper} {i j:Nat} (hj:ops[j]?=none):before (B9 ops) i j=false:=by
 obtain⟨h1,_,_⟩:=J1 (ops.map direct) []
 unfold before B9
 have hlen:(E9 (ops.map direct) []).length≤j:=by
  rw[h1]
  have:=List.getElem?_eq_none_iff.1 hj
  simpa using this
 rw[List.getD_eq_getElem?_getD,List.getElem?_eq_none hlen]
 simp
def Pp (ops:List Oper) (L:Nat→Bool):Prop:=∀j o,ops[j]?=some o→L j=true→∀k∈direct o,L k=true
theorem Pp.anc {ops:List Oper} (hd:Qv ops) {L:Nat→Bool} (hc:Pp ops L) {i:Nat}:∀(n j:Nat),j<n→before (B9 ops) i j=true→L j=true→L i=true
 |0,j,h,_,_=>by omega
 |n+1,j,hjn,hb,hl=>by
  cases hj:ops[j]? with
  |none=>rw[mJ hj] at hb;cases hb
  |some o=>
   obtain⟨k,hk,h⟩:=(Nv hd hj).1 hb
   have hlk:=hc j o hj hl k hk
   rcases h with rfl|h
   ·exact hlk
   ·exact Pp.anc hd hc n k (by have:=hd j o hj k hk;omega) h hlk
theorem Pp.ready {ops:List Oper} (hd:Qv ops) {L:Nat→Bool} (hc:Pp ops L) {i j:Nat} {o:Oper} (hj:ops[j]?=some o) (hr:∀k∈direct o,L k=true) (hb:before (B9 ops) i j=true):L i=true:=by
 obtain⟨k,hk,h⟩:=(Nv hd hj).1 hb
 rcases h with rfl|h
 ·exact hr k hk
 ·exact hc.anc hd (k+1) k (by omega) h (hr k hk)
theorem aI {o:Oper} {e:Edge} (he:e∈o.after) (hb:Region.binds .any e=true):e.on∈direct o:=by
 unfold direct
 exact List.mem_map.2 ⟨e,List.mem_filter.2 ⟨by simpa using he,hb⟩,rfl⟩
theorem Rx {o:Oper} {k:Nat} (h:k∈direct o):∃e∈o.after,Region.binds .any e=true∧e.on=k:=by
 unfold direct at h
 obtain⟨e,he,rfl⟩:=List.mem_map.1 h
 obtain⟨h1,h2⟩:=List.mem_filter.1 he
 exact⟨e,by simpa using h1,h2,rfl⟩
structure Ev where
 i:Nat
 d:DOp
 v:AV
 al:Option (Key×Blk)
def iE (call:Bn) (lo hi:Key) (x:Ev) (r:Key) (Ai:List Ac) (fr:Fr) (h h1:Ac):Prop:=
 (Di fr x.d.o.guard=some true∧∃args,Cn fr x.d.o.args=some args ∧
  match x.d.o.act.kind with
  |.effect=>x.al=none∧x.d.o.act.run call args h=some (x.v,h1)
  |.alloc=>∃o blk,x.d.o.act=.op o∧x.al=some (r,blk)∧o.run args { h with next:=r }=some (x.v,({ h with next:=r }:Ac).Bs blk)∧h1=h.upd r (some blk)
  |.quiet=>∃o,x.d.o.act=.op o∧x.al=none∧o.run args h=some (x.v,h)∧outside lo hi o args=true∧Hf o args x.v (Ai.drop x.d.chk)=true∧h1=h) ∨
 (Di fr x.d.o.guard=some false∧x.v=.unit∧x.al=none∧h1=h)
def Ft (x:Ev) (r:Key):Key:=if x.d.o.act.kind=.alloc then r.succ else r
def Dm (x:Ev) (Ai:List Ac) (h:Ac):List Ac:=if x.d.o.act.kind=.effect then Ai++[h] else Ai
def Run (call:Bn) (lo hi:Key):List Ev→Key→List Ac→Fr→Ac→Fr→Ac→Prop
 |[],_,_,fr,h,fr',h'=>fr=fr'∧h=h'
 |x::l,r,Ai,fr,h,fr',h'=>∃h1,iE call lo hi x r Ai fr h h1∧Run call lo hi l (Ft x r) (Dm x Ai h) (Bp fr x.d.o.dst x.v) h1 fr' h'
theorem Mp {o:VOp} (hk:o.kind=.alloc) {args:List AV} {h h':Ac} {v:AV} (e:o.run args h=some (v,h')) :
  ∃blk:Blk,blk.anc=[]∧h'=h.Bs blk∧∀h2:Ac,h2.next=h.next→o.run args h2=some (v,h2.Bs blk):=by
 cases o<;>simp only[VOp.kind,reduceCtorEq] at hk<;>simp only[VOp.run] at e ⊢
 case Fg zs=>
  unfold eI at e
  split at e
  ·cases e;exact⟨_,rfl,rfl,fun h2 hn=>by unfold eI;simp only[hn];rfl⟩
  ·cases e
 case box n=>
  unfold lF at e
  split at e
  ·split at e
   ·next hc=>cases e;exact⟨_,rfl,rfl,fun h2 hn=>by unfold lF;simp only[hc,if_true,hn];rfl⟩
   ·cases e
  ·cases e
 case Gn es len z p=>
  unfold Qo at e ⊢
  split at e
  ·next cs hl=>cases e;exact⟨_,rfl,rfl,fun h2 hn=>by simp only[hn];rfl⟩
  ·cases e
 case s2b=>
  unfold pY at e
  split at e
  ·split at e
   ·next hc=>cases e;exact⟨_,rfl,rfl,fun h2 hn=>by unfold pY;simp only[hc,if_true,hn]⟩
   ·cases e
  ·cases e
 case Oi=>
  unfold O3 at e
  split at e
  ·cases e;exact⟨_,rfl,rfl,fun h2 hn=>by unfold O3;simp only[hn];rfl⟩
  ·cases e;exact⟨_,rfl,rfl,fun h2 hn=>by unfold O3;simp only[hn];rfl⟩
  ·cases e
 case Ko es by' z=>
  unfold Ij at e
  split at e
  ·split at e
   ·next hc=>cases e;exact⟨_,rfl,rfl,fun h2 hn=>by unfold Ij;simp only[hc,and_self,if_true,hn];rfl⟩
   ·cases e
  ·cases e
theorem mK {a:Bl} (h:a.kind=.alloc):∃o,a=.op o∧o.kind=.alloc:=by
 cases a with
 |op o=>exact⟨o,rfl,h⟩
 |_=>cases h
theorem Ef {call:Bn} {lo hi:Key}:∀(is:List Nat) (ds:List DOp) (r:Key) (Ai:List Ac) (fr:Fr) (h:Ac) (fr':Fr) (h':Ac),is.length=ds.length→Bf call lo hi ds r Ai fr h=some (fr',h') →
  ∃evs:List Ev,evs.map (·.i)=is∧evs.map (·.d)=ds∧Run call lo hi evs r Ai fr h fr' h'
 |[],[],r,Ai,fr,h,fr',h',_,e=>by
  simp only[Bf,Sj,Pj] at e
  exact⟨[],rfl,rfl,e.1,e.2⟩
 |[],_::_,_,_,_,_,_,_,hl,_=>by simp at hl
 |_::_,[],_,_,_,_,_,_,hl,_=>by simp at hl
 |i::is,d::ds,r,Ai,fr,h,fr',h',hl,e=>by
  have hl':is.length=ds.length:=by simpa using hl
  simp only[Bf] at e
  split at e
  ·next hk=>
   split at e
   ·next fr1 h1 h1e=>
    unfold An.run at h1e
    split at h1e
    ·next hw=>
     split at h1e
     ·next args hf=>
      split at h1e
      ·next v h2 ha=>
       cases h1e
       obtain⟨evs,e1,e2,e3⟩:=Ef is ds r _ _ _ fr' h' hl' e
       exact⟨⟨i,d,v,none⟩::evs,by simp[e1],by simp[e2],_,.inl ⟨hw,args,hf,by simp only[hk];exact⟨trivial,ha⟩⟩,by simpa[Ft,Dm,hk] using e3⟩
      ·cases h1e
     ·cases h1e
    ·next hw=>
     cases h1e
     obtain⟨evs,e1,e2,e3⟩:=Ef is ds r _ _ _ fr' h' hl' e
     exact⟨⟨i,d,.unit,none⟩::evs,by simp[e1],by simp[e2],_,.inr ⟨hw,rfl,rfl,rfl⟩,by simpa[Ft,Dm,hk] using e3⟩
    ·cases h1e
   ·cases e
  ·next hk=>
   split at e
   ·next fr1 h1 h1e=>
    unfold An.run at h1e
    split at h1e
    ·next hw=>
     split at h1e
     ·next args hf=>
      split at h1e
      ·next v h2 ha=>
       cases h1e
       obtain⟨o,ho,hko⟩:=mK hk
       rw[ho] at ha
       have ha':o.run args { h with next:=r }=some (v,h1):=ha
       obtain⟨blk,_,hb2,_⟩:=Mp hko ha'
       subst hb2
       have hheap:({ (({ h with next:=r }:Ac).Bs blk) with next:=h.next }:Ac)=h.upd r (some blk):=rfl
       rw[hheap] at e
       obtain⟨evs,e1,e2,e3⟩:=Ef is ds _ _ _ _ fr' h' hl' e
       exact⟨⟨i,d,v,some (r,blk)⟩::evs,by simp[e1],by simp[e2],_,.inl ⟨hw,args,hf,by simp only[hk];exact⟨o,blk,ho,rfl,ha',rfl⟩⟩,by simpa[Ft,Dm,hk] using e3⟩
      ·cases h1e
     ·cases h1e
    ·next hw=>
     cases h1e
     obtain⟨evs,e1,e2,e3⟩:=Ef is ds _ _ _ _ fr' h' hl' e
     exact⟨⟨i,d,.unit,none⟩::evs,by simp[e1],by simp[e2],_,.inr ⟨hw,rfl,rfl,rfl⟩,by simpa[Ft,Dm,hk] using e3⟩
    ·cases h1e
   ·cases e
  ·next hk=>
   split at e
   ·next o hw ha=>
    split at e
    ·next args hf=>
     split at e
     ·next v h2 hv=>
      split at e
      ·next hchk=>
       simp only[Bool.and_eq_true] at hchk
       have hko:o.kind=.quiet:=by rw[ha] at hk;exact hk
       obtain⟨hh,_⟩:=En hko hv
       subst hh
       obtain⟨evs,e1,e2,e3⟩:=Ef is ds _ _ _ _ fr' h' hl' e
       exact⟨⟨i,d,v,none⟩::evs,by simp[e1],by simp[e2],_,.inl ⟨hw,args,hf,by simp only[hk];exact⟨o,ha,trivial,hv,hchk.1,hchk.2,rfl⟩⟩,by simpa[Ft,Dm,hk] using e3⟩
      ·cases e
     ·cases e
    ·cases e
   ·next hw=>
    obtain⟨evs,e1,e2,e3⟩:=Ef is ds _ _ _ _ fr' h' hl' e
    exact⟨⟨i,d,.unit,none⟩::evs,by simp[e1],by simp[e2],_,.inr ⟨hw,rfl,rfl,rfl⟩,by simpa[Ft,Dm,hk] using e3⟩
   ·cases e
def AX {α:Type} (f:Ac→Option (α×Ac)):Prop:=
 ∀h v h',f h=some (v,h')→h.next.toNat≤h'.next.toNat∧∀b:Key,h'.next.toNat≤b.toNat→Bd b h→Bd b h'
theorem AX.clean {α:Type} {f:Ac→Option (α×Ac)} (hf:AX f) {h h':Ac} {v:α} (e:f h=some (v,h')) (hc:Clean h):Clean h':=by
 obtain⟨h1,h2⟩:=hf h v h' e
 exact fun b hb=>h2 b hb (hc b (by omega))
theorem AY {b c:Key} (h:c.succ.toNat≤b.toNat):b≠c:=by
 rintro rfl;rw[Key.toNat_succ] at h;omega
theorem Bd.AZ {h:Ac} {b:Key} (hf:Bd b h) (hne:b≠h.next) (y:Blk) (hy:b∉y.anc):Bd b (h.Bs y):=by
 refine⟨?_,fun d z hd=>?_⟩
 ·rw[Cf];simp[Ne.symm hne,hf.1]
 ·rw[Cf] at hd
  by_cases hc:h.next=d
  ·simp only[hc,if_true,Sj] at hd;subst hd;exact hy
  ·simp only[hc,if_false] at hd;exact hf.2 d z hd
theorem Mq {h:Ac} {y:Blk} (hy:y.anc=[]):h.next.toNat≤(h.Bs y).next.toNat∧∀b:Key,(h.Bs y).next.toNat≤b.toNat→Bd b h→Bd b (h.Bs y):=
 ⟨by rw[Jc,Key.toNat_succ];omega,fun b hb hf=>hf.AZ (AY hb) y (by simp[hy])⟩
theorem De {h:Ac}:h.next.toNat≤h.next.toNat∧∀b:Key,h.next.toNat≤b.toNat→Bd b h→Bd b h:=⟨Rl,fun _ _ hf=>hf⟩
theorem Pq {h h':Ac} {c:Key} {o:Nat} {l:List SV} (e:h.write c o l=some h'):h.next.toNat≤h'.next.toNat∧∀b:Key,h'.next.toNat≤b.toNat→Bd b h→Bd b h':=by
 obtain⟨h1,h2⟩:=Nt c o l e
 exact⟨by rw[h1];exact Rl,fun b _ hf=>(h2 b default hf).1⟩
theorem mL {h h':Ac} {c d:Key} {o k:Nat} {l:List SV} (e:h.renew c o k l=some (d,h')):h.next.toNat≤h'.next.toNat∧∀b:Key,h'.next.toNat≤b.toNat→Bd b h→Bd b h':=by
 unfold Ac.renew at e
 split at e
 ·cases e;exact Mq rfl
 ·split at e
  ·split at e
   ·cases e;exact Mq rfl
   ·cases e
  ·cases e
theorem qR {h h':Ac} {c d:Key} {o k:Nat} {l:List SV} (e:h.grow c o k l=some (d,h')):h.next.toNat≤h'.next.toNat∧∀b:Key,h'.next.toNat≤b.toNat→Bd b h→Bd b h':=by
 unfold Ac.grow at e
 split at e
 ·next cc m anc hg=>
  split at e
  ·next body hb=>
   split at e
   ·next hm=>
    cases e
    refine⟨by rw[Jc,Key.toNat_succ];simp only[Ac.upd];omega,fun b hlt hf=>?_⟩
    have hne:=hf.ne hg
    have hna:=hf.2 _ _ hg
    exact(hf.upd hne _ (by simpa using hna)).AZ (AY hlt) _ (by simpa using⟨hne,hna⟩)
   ·next hm=>
    cases e
    refine⟨by simp only[Jc,Key.toNat_succ,Ac.upd,Bv];omega,fun b hlt hf=>?_⟩
    have hne:=hf.ne hg
    have hna:=hf.2 _ _ hg
    exact((hf.Bb anc hna).upd hne none (by simp)).AZ (AY hlt) _ (by simp)
  ·cases e
 ·cases e
theorem iF {h h':Ac} {es by':Nat} {s r:SV} {new:List SV} {n:Nat} (e:Cj h es by' s new n=some (r,h')):h.next.toNat≤h'.next.toNat∧∀b:Key,h'.next.toNat≤b.toNat→Bd b h→Bd b h':=by
 unfold Cj at e
 split at e
 ·split at e
  ·cases e;exact De
  ·split at e
   ·cases e;exact Mq rfl
   ·cases e
 ·split at e
  ·split at e
   ·cases e;exact De
   ·split at e
    ·split at e
     ·split at e
      ·next hw=>cases e;exact Pq hw
      ·cases e
     ·split at e
      ·split at e
       ·next hw=>cases e;exact mL hw
       ·cases e
      ·cases e
    ·split at e
     ·split at e
      ·next hw=>cases e;exact qR hw
      ·cases e
     ·cases e
  ·cases e
 ·cases e
theorem BA (op:VOp) (args:List AV):AX (op.run args):=by
 intro h v h' e
 by_cases hbl:Kv op=true
 ·obtain⟨rfl,_⟩:=aG hbl args h v h' e
  exact De
 ·by_cases hk:op.kind=.quiet
  ·obtain⟨rfl,_⟩:=En hk e
   exact De
  ·by_cases hk:op.kind=.alloc
   ·obtain⟨blk,hb,rfl,_⟩:=Mp hk e
    exact Mq hb
   ·cases op<;>simp only[Kv,not_true_eq_false] at hbl<;>simp only[VOp.kind,not_true_eq_false,reduceCtorEq] at hk<;>(try(simp only[VOp.kind,not_true_eq_false] at *;done))<;>simp only[VOp.run] at e
    case store n=>
     unfold Sm at e
     split at e
     ·split at e
      ·split at e
       ·next hw=>cases e;exact Pq hw
       ·cases e
      ·cases e
     ·cases e
    case b2s=>
     unfold pZ at e
     split at e
     ·split at e
      ·split at e
       ·cases e;exact De
       ·cases e
      ·cases e
     ·cases e;exact De
     ·cases e
    case Gq ks=>
     unfold Ng at e
     split at e
     ·split at e
      ·split at e
       ·next hg=>
        split at e
        ·cases e
         exact⟨Rl,fun b _ hf=>hf.upd (hf.ne hg) _ (by simp)⟩
        ·cases e
       ·cases e
      ·cases e
     ·cases e
    case append es by'=>
     unfold Nh at e
     split at e
     ·split at e
      ·split at e
       ·next ha=>cases e;exact iF ha
       ·cases e
      ·cases e
     ·cases e
    case copy es=>
     unfold O6 at e
     split at e
     ·split at e
      ·split at e
       ·cases e;exact De
       ·split at e
        ·split at e
         ·cases e;exact De
         ·split at e
          ·next hw=>cases e;exact Pq hw
          ·cases e
        ·cases e
       ·cases e
      ·cases e
     ·cases e
    case Hd=>
     unfold Ni at e
     split at e
     ·split at e
      ·split at e
       ·cases e;exact Mq rfl
       ·cases e
      ·cases e
     ·cases e
    case Md=>
     unfold Jn at e
     split at e
     ·split at e
      ·next hg=>
       split at e
       ·split at e
        ·split at e
         ·cases e
          exact⟨Rl,fun b _ hf=>hf.upd (hf.ne hg) _ (by simp)⟩
         ·cases e;exact De
         ·cases e;exact De
         ·cases e
        ·cases e
       ·cases e
      ·cases e
     ·cases e
    case He=>
     unfold Nj at e
     split at e
     ·split at e
      ·split at e
       ·split at e
        ·cases e;exact De
        ·cases e
       ·cases e
      ·cases e
     ·cases e
def Cy (call:Bn):Prop:=∀f args h v h',call f args h=some (v,h')→Clean h→Clean h'
theorem mM {call:Bn} (hc:Cy call) {a:Bl} {args:List AV} {h h':Ac} {v:AV} (e:a.run call args h=some (v,h')) (hcl:Clean h):Clean h':=by
 cases a with
 |op o=>exact(BA o args).clean e hcl
 |call f=>exact hc f args h v h' e hcl
 |Ge=>
  simp only[Bl.run] at e
  split at e
  ·exact hc _ _ _ _ _ e hcl
  ·cases e
theorem Mr {call:Bn} (hc:Cy call):Jy call:=by
 intro o fr h fr' h' e hcl
 unfold An.run at e
 split at e
 ·split at e
  ·split at e
   ·next ha=>cases e;exact mM hc ha hcl
   ·cases e
  ·cases e
 ·cases e;exact hcl
 ·cases e
theorem mN {call:Bn} (hc:Cy call):∀(l:List An) {fr:Fr} {h:Ac} {fr':Fr} {h':Ac},Cl call l fr h=some (fr',h')→Clean h→Clean h'
 |[],fr,h,fr',h',e,hcl=>by simp only[Cl,Sj,Pj] at e;obtain⟨rfl,rfl⟩:=e;exact hcl
 |o::l,fr,h,fr',h',e,hcl=>by
  simp only[Cl] at e
  split at e
  ·next h1=>exact mN hc l e (Mr hc _ _ _ _ _ h1 hcl)
  ·cases e
theorem Vv {h:Ac} (hcl:Clean h) {c:Key} (hc:c.toNat<h.next.toNat) {y:Blk} (hy:y.anc=[]):Clean (h.upd c (some y)):=by
 intro b hb
 have hb':h.next.toNat≤b.toNat:=hb
 exact(hcl b hb').upd (by rintro rfl;omega) _ (by intro z hz;cases hz;simp[hy])
theorem BB {call:Bn} {o:An} (hk:o.act.kind=.alloc) {fr fr':Fr} {h h':Ac} {r:Key} (e:o.run call fr { h with next:=r }=some (fr',h')) :
  { h' with next:=h.next }=h∨∃blk:Blk,blk.anc=[]∧{ h' with next:=h.next }=h.upd r (some blk):=by
 unfold An.run at e
 split at e
 ·split at e
  ·split at e
   ·next ha=>
    cases e
    obtain⟨p,hp,hkp⟩:=mK hk
    rw[hp] at ha
    obtain⟨blk,hb,rfl,_⟩:=Mp hkp ha
    exact .inr ⟨blk,hb,rfl⟩
   ·cases e
  ·cases e
 ·cases e;exact .inl rfl
 ·cases e
theorem J2 {call:Bn} (hn:Cb call) (hc:Cy call) (lo hi:Key):∀(l:List DOp) (r:Key) (Ai:List Ac) (fr:Fr) (h:Ac) (fr':Fr) (h':Ac),r.toNat+Az l≤h.next.toNat →
  Bf call lo hi l r Ai fr h=some (fr',h')→Clean h→Clean h'
 |[],r,Ai,fr,h,fr',h',_,e,hcl=>by
  simp only[Bf,Sj,Pj] at e
  obtain⟨rfl,rfl⟩:=e
  exact hcl
 |d::l,r,Ai,fr,h,fr',h',hr,e,hcl=>by
  simp only[Az] at hr
  simp only[Bf] at e
  split at e
  ·next hk=>
   split at e
   ·next fr1 h1 h1e=>
    have:=(Mn hn d.o fr h fr1 h1 h1e).1
    exact J2 hn hc lo hi l r _ fr1 h1 fr' h' (by omega) e (Mr hc _ _ _ _ _ h1e hcl)
   ·cases e
  ·next hk=>
   simp only[hk,if_true] at hr
   split at e
   ·next fr1 h1 h1e=>
    have hcl1:Clean { h1 with next:=h.next }:=by
     rcases BB hk h1e with h2|⟨blk,hb,h2⟩
     ·rw[h2];exact hcl
     ·rw[h2];exact Vv hcl (by omega) hb
    exact J2 hn hc lo hi l r.succ Ai fr1 { h1 with next:=h.next } fr' h' (by rw[Key.toNat_succ];show _≤h.next.toNat;omega) e hcl1
   ·cases e
  ·next hk=>
   split at e
   ·split at e
    ·split at e
     ·split at e
      ·exact J2 hn hc lo hi l r Ai _ h fr' h' (by omega) e hcl
      ·cases e
     ·cases e
    ·cases e
   ·exact J2 hn hc lo hi l r Ai _ h fr' h' (by omega) e hcl
   ·cases e
theorem aJ {h:Ac} (hcl:Clean h) {n:Key} (hn:h.next.toNat≤n.toNat):Clean { h with next:=n }:=fun b hb=>hcl b (Nat.le_trans hn hb)
theorem J3 {F:A4} {O:Ez} (hO:∀f g,O f=some g→∀args h v h',g args h=some (v,h')→Clean h→Clean h') {ex:Ay→Fr→Ac→Option (B2×Fr×Ac)}
  (hex:∀c fr h x fr' h',ex c fr h=some (x,fr',h')→Clean h→Clean h'):Cy (Bo F O ex):=by
 intro f args h v h' e hcl
 unfold Bo at e
 split at e
 ·next g hg=>exact hO f g hg args h v h' e hcl
 ·split at e
  ·split at e
   ·cases e
   ·next he=>
    split at e
    ·cases e;exact hex _ _ _ _ _ _ he hcl
    ·cases e
   ·cases e
  ·cases e
theorem Ms {F:A4} {O:Ez} (hO:∀f g,O f=some g→∀args,Tz (g args)) (hO':∀f g,O f=some g→∀args h v h',g args h=some (v,h')→Clean h→Clean h'):∀(n:Nat) (c:Ay) (fr:Fr) (h:Ac) (x:B2) (fr':Fr) (h':Ac),
  exec F O n c fr h=some (x,fr',h')→Clean h→Clean h'
 |0,c,fr,h,x,fr',h',e,_=>by simp[exec] at e
 |n+1,c,fr,h,x,fr',h',e,hcl=>by
  have ih:=Ms (F:=F) hO hO' n
  have hcall:Cy (Bo F O (exec F O n)):=J3 hO' ih
  have hnice:Cb (Bo F O (exec F O n)):=Nu hO (Mo hO n)
  cases c with
  |skip=>simp only[exec,Sj,Pj] at e;obtain⟨rfl,rfl,rfl⟩:=e;exact hcl
  |exit id=>simp only[exec,Sj,Pj] at e;obtain⟨rfl,rfl,rfl⟩:=e;exact hcl
  |ret=>simp only[exec,Sj,Pj] at e;obtain⟨rfl,rfl,rfl⟩:=e;exact hcl
  |region ops=>
   simp only[exec] at e
   split at e
   ·next he=>cases e;exact mN hcall ops he hcl
   ·cases e
  |drawn ops=>
   simp only[exec] at e
   split at e
   ·next he=>
    cases e
    refine J2 hnice hcall _ _ ops _ _ _ _ _ _ ?_ he (aJ hcl ?_)
    ·show _≤(Bt h.next (Az ops)).toNat
     rw[Db];exact Rl
    ·rw[Db];omega
   ·cases e
  |seq a b=>
   simp only[exec] at e
   split at e
   ·next he=>exact ih _ _ _ _ _ _ e (ih _ _ _ _ _ _ he hcl)
   ·exact ih _ _ _ _ _ _ e hcl
  |cond c a b=>
   simp only[exec] at e
   split at e
   ·exact ih _ _ _ _ _ _ e hcl
   ·exact ih _ _ _ _ _ _ e hcl
   ·cases e
  |block id c=>
   simp only[exec] at e
   split at e
   ·next he=>
    split at e
    ·cases e;exact ih _ _ _ _ _ _ he hcl
    ·cases e;exact ih _ _ _ _ _ _ he hcl
   ·exact ih _ _ _ _ _ _ e hcl
  |loop c=>
   simp only[exec] at e
   split at e
   ·next he=>exact ih _ _ _ _ _ _ e (ih _ _ _ _ _ _ he hcl)
   ·exact ih _ _ _ _ _ _ e hcl
def Ev.put (x:Ev) (h:Ac):Ac:=match x.al with
 |some (k,b)=>h.upd k (some b)
 |none=>h
def eFr (L:Nat→Bool):List Ev→Fr→Fr
 |[],fr=>fr
 |x::l,fr=>eFr L l (if L x.i then Bp fr x.d.o.dst x.v else fr)
def A8 (L:Nat→Bool):List Ev→Ac→Ac
 |[],h=>h
 |x::l,h=>A8 L l (if L x.i then x.put h else h)
def pFr:List Ev→Fr→Fr
 |[],fr=>fr
 |x::l,fr=>pFr l (Bp fr x.d.o.dst x.v)
def upL (L:Nat→Bool) (i:Nat):Nat→Bool:=fun j=>if j=i then true else L j
theorem J4 (L:Nat→Bool):∀(a b:List Ev) (fr:Fr),eFr L (a++b) fr=eFr L b (eFr L a fr)
 |[],_,_=>rfl
 |_::a,b,_=>J4 L a b _
theorem Nw (L:Nat→Bool):∀(a b:List Ev) (h:Ac),A8 L (a++b) h=A8 L b (A8 L a h)
 |[],_,_=>rfl
 |_::a,b,_=>Nw L a b _
theorem Qw {L L':Nat→Bool}:∀(l:List Ev) (fr:Fr),(∀x∈l,L x.i=L' x.i)→eFr L l fr=eFr L' l fr
 |[],_,_=>rfl
 |x::l,fr,h=>by
  simp only[eFr,h x (by simp)]
  exact Qw l _ fun y hy=>h y (by simp[hy])
theorem Kw {L L':Nat→Bool}:∀(l:List Ev) (h:Ac),(∀x∈l,L x.i=L' x.i)→A8 L l h=A8 L' l h
 |[],_,_=>rfl
 |x::l,h0,h=>by
  simp only[A8,h x (by simp)]
  exact Kw l _ fun y hy=>h y (by simp[hy])
theorem aK {L:Nat→Bool}:∀(l:List Ev) (fr:Fr),(∀x∈l,L x.i=false)→eFr L l fr=fr
 |[],_,_=>rfl
 |x::l,fr,h=>by
  simp only[eFr,h x (by simp),Fj,if_false]
  exact aK l _ fun y hy=>h y (by simp[hy])
theorem aL {L:Nat→Bool}:∀(l:List Ev) (h:Ac),(∀x∈l,L x.i=false)→A8 L l h=h
 |[],_,_=>rfl
 |x::l,h0,h=>by
  simp only[A8,h x (by simp),Fj,if_false]
  exact aL l _ fun y hy=>h y (by simp[hy])
theorem xV (fr:Fr) {d d':Option Key} (v v':AV) (h:∀k,d=some k→d'≠some k):Bp (Bp fr d v) d' v'=Bp (Bp fr d' v') d v:=by
 cases d with
 |none=>rfl
 |some k=>cases d' with
  |none=>rfl
  |some k'=>
   simp only[Bp]
   exact Tr.O1 _ _ _ (fun e=>h k rfl (by rw[e]))
theorem T8 (L:Nat→Bool) {d:Option Key} {v:AV}:∀(l:List Ev) (fr:Fr),(∀y∈l,L y.i=true→∀k,d=some k→y.d.o.dst≠some k)→eFr L l (Bp fr d v)=Bp (eFr L l fr) d v
 |[],_,_=>rfl
 |x::l,fr,h=>by
  simp only[eFr]
  cases hx:L x.i with
  |false=>simp only[Fj,if_false];exact T8 L l fr fun y hy=>h y (by simp[hy])
  |true=>
   simp only[if_true]
   rw[xV fr v x.v (h x (by simp) hx)]
   exact T8 L l _ fun y hy=>h y (by simp[hy])
theorem Mt (x:Ev) (h:Ac):(x.put h).next=h.next:=by unfold Ev.put;split<;>rfl
theorem J5 (L:Nat→Bool):∀(l:List Ev) (h:Ac),(A8 L l h).next=h.next
 |[],_=>rfl
 |x::l,h=>by
  rw[A8,J5 L l]
  split
  ·exact Mt x h
  ·rfl
theorem Vw (L:Nat→Bool) {k:Key} {b:Blk}:∀(l:List Ev) (h:Ac),(∀y∈l,L y.i=true→∀k' b',y.al=some (k',b')→k≠k')→A8 L l (h.upd k (some b))=(A8 L l h).upd k (some b)
 |[],_,_=>rfl
 |x::l,h0,h=>by
  simp only[A8]
  cases hx:L x.i with
  |false=>simp only[Fj,if_false];exact Vw L l _ fun y hy=>h y (by simp[hy])
  |true=>
   simp only[if_true]
   have:x.put (h0.upd k (some b))=(x.put h0).upd k (some b):=by
    unfold Ev.put
    split
    ·next k' b' hal=>exact Ee (h x (by simp) hx k' b' hal) _ _
    ·rfl
   rw[this]
   exact Vw L l _ fun y hy=>h y (by simp[hy])
theorem xW {L:Nat→Bool} {x:Ev} {pre post:List Ev} {h:Ac} (hx:L x.i=false) (hne:∀y∈pre++post,y.i≠x.i)
  (hk:∀y∈post,∀k b k' b',x.al=some (k,b)→y.al=some (k',b')→k≠k'):A8 (upL L x.i) (pre++x::post) h=x.put (A8 L (pre++x::post) h):=by
 rw[Nw,Nw]
 simp only[A8,hx,upL,if_true,Fj,if_false]
 have h1:A8 (upL L x.i) pre h=A8 L pre h:=Kw pre h fun y hy=>by simp[upL,hne y (by simp[hy])]
 have h2:∀g,A8 (upL L x.i) post g=A8 L post g:=fun g=>Kw post g fun y hy=>by simp[upL,hne y (by simp[hy])]
 show A8 (upL L x.i) post (x.put (A8 (upL L x.i) pre h))=_
 rw[h1,h2]
 unfold Ev.put
 split
 ·next k b hal=>exact Vw L post _ fun y hy _ k' b' hy'=>hk y hy k b k' b' hal hy'
 ·rfl
theorem uI {L:Nat→Bool} {x:Ev} {pre post:List Ev} {fr:Fr} (hx:L x.i=false) (hne:∀y∈pre++post,y.i≠x.i)
  (hd:∀y∈post,∀k,x.d.o.dst=some k→y.d.o.dst≠some k):eFr (upL L x.i) (pre++x::post) fr=Bp (eFr L (pre++x::post) fr) x.d.o.dst x.v:=by
 rw[J4,J4]
 simp only[eFr,hx,upL,if_true,Fj,if_false]
 have h1:eFr (upL L x.i) pre fr=eFr L pre fr:=Qw pre fr fun y hy=>by simp[upL,hne y (by simp[hy])]
 have h2:∀g,eFr (upL L x.i) post g=eFr L post g:=fun g=>Qw post g fun y hy=>by simp[upL,hne y (by simp[hy])]
 show eFr (upL L x.i) post (Bp (eFr (upL L x.i) pre fr) x.d.o.dst x.v)=_
 rw[h1,h2]
 exact T8 L post _ fun y hy _ k e=>hd y hy k e
theorem aM {fr:Fr} {d:Option Key} {v:AV} {k:Key} (h:d≠some k):(Bp fr d v).get k=fr.get k:=by
 cases d with
 |none=>rfl
 |some j=>
  simp only[Bp,Tr.Av]
  rw[if_neg (fun e=>h (by rw[e]))]
theorem uJ {L:Nat→Bool} {k:Key}:∀(post:List Ev) (fr:Fr),(∀y∈post,y.d.o.dst=some k→L y.i=false)→(eFr L post fr).get k=fr.get k
 |[],_,_=>rfl
 |y::l,fr,h=>by
  rw[eFr,uJ l _ fun z hz=>h z (by simp[hz])]
  by_cases hd:y.d.o.dst=some k
  ·simp[h y (by simp) hd]
  ·split
   ·exact aM hd
   ·rfl
theorem uK {L:Nat→Bool} {k:Key}:∀(pre:List Ev) (fr fr2:Fr),fr.get k=fr2.get k→(∀y∈pre,y.d.o.dst=some k→L y.i=true)→(eFr L pre fr).get k=(pFr pre fr2).get k
 |[],_,_,e,_=>e
 |y::l,fr,fr2,e,h=>by
  rw[eFr,pFr]
  refine uK l _ _ ?_ fun z hz=>h z (by simp[hz])
  by_cases hd:y.d.o.dst=some k
  ·rw[h y (by simp) hd,if_pos rfl,hd]
   simp only[Bp,Tr.Av,if_true]
  ·rw[aM hd]
   split
   ·rw[aM hd];exact e
   ·exact e
theorem eW {L:Nat→Bool} {b:Key}:∀(l:List Ev) (h:Ac),(∀y∈l,∀k x,y.al=some (k,x)→k≠b)→(A8 L l h).get b=h.get b
 |[],_,_=>rfl
 |y::l,h,hk=>by
  rw[A8,eW l _ fun z hz=>hk z (by simp[hz])]
  split
  ·unfold Ev.put
   split
   ·next k x hal=>exact Hh (hk y (by simp) k x hal) _
   ·rfl
  ·rfl
theorem Im {fr fr2:Fr}:∀(xs:List VX),(∀k,VX.t k∈xs→fr.get k=fr2.get k)→Cn fr xs=Cn fr2 xs
 |[],_=>rfl
 |x::l,h=>by
  have h1:x.eval fr=x.eval fr2:=by
   cases x with
   |t k=>exact h k (by simp)
   |c v=>rfl
  simp only[Cn,h1,Im l fun k hk=>h k (by simp[hk])]
theorem Nx {o:An} {k:Key} (h:VX.t k∈o.args):k∈looks o:=by
 unfold looks
 exact List.mem_append_left _ (List.mem_filterMap.2 ⟨_,h,rfl⟩)
theorem mO {o:An} {k:Key} {b:Bool} (h:o.guard=some (k,b)):k∈looks o:=by
 unfold looks
 rw[h]
 exact List.mem_append_right _ (by simp)
theorem T9 {fr fr2:Fr} {o:An} (h:∀k∈looks o,fr.get k=fr2.get k):Di fr o.guard=Di fr2 o.guard:=by
 cases hg:o.guard with
 |none=>rfl
 |some p=>obtain⟨k,b⟩:=p;simp only[Di,h k (mO hg)]
section
variable {call:Bn} {lo hi:Key}
theorem eX {x:Ev} {r:Key} {Ai:List Ac} {fr:Fr} {h h1:Ac} (s:iE call lo hi x r Ai fr h h1) (hk:x.d.o.act.kind≠.effect):h1=x.put h:=by
 rcases s with⟨_,args,_,hm⟩|⟨_,_,ha,rfl⟩
 ·split at hm
  ·next e=>exact absurd e hk
  ·obtain⟨o,blk,_,ha,_,rfl⟩:=hm;simp only[Ev.put,ha]
  ·obtain⟨o,_,ha,_,_,_,rfl⟩:=hm;simp only[Ev.put,ha]
 ·simp only[Ev.put,ha]
theorem uM {x:Ev} {r:Key} {Ai:List Ac} {fr:Fr} {h h1:Ac} (s:iE call lo hi x r Ai fr h h1) {k:Key} {b:Blk} (ha:x.al=some (k,b)):k=r∧b.anc=[]∧x.d.o.act.kind=.alloc:=by
 rcases s with⟨_,args,_,hm⟩|⟨_,_,ha',_⟩
 ·split at hm
  ·rw[ha] at hm;cases hm.1
  ·next hk=>
   obtain⟨o,blk,ho,ha',hr,_⟩:=hm
   rw[ha] at ha'
   cases ha'
   have hko:o.kind=.alloc:=by rw[ho] at hk;exact hk
   obtain⟨blk,hb,he,_⟩:=Mp hko hr
   have:=congrArg (fun g=>Ac.get g r) he
   simp only[Cf,if_true,Sj] at this
   exact⟨rfl,this▸hb,hk⟩
  ·obtain⟨o,_,ha',_⟩:=hm;rw[ha] at ha';cases ha'
 ·rw[ha] at ha';cases ha'
theorem mP:∀(evs:List Ev) {r:Key} {Ai:List Ac} {fr:Fr} {h:Ac} {fr':Fr} {h':Ac},Run call lo hi evs r Ai fr h fr' h' →
  (∀x∈evs,∀k b,x.al=some (k,b)→r.toNat≤k.toNat∧k.toNat<r.toNat+Az (evs.map (·.d))∧b.anc=[]) ∧
  evs.Pairwise fun x y=>∀k b k' b',x.al=some (k,b)→y.al=some (k',b')→k≠k'
 |[],_,_,_,_,_,_,_=>⟨by simp,.nil⟩
 |x::l,r,Ai,fr,h,fr',h',e=>by
  obtain⟨h1,s,e⟩:=e
  obtain⟨g1,g2⟩:=mP l e
  have hr:r.toNat≤(Ft x r).toNat∧(Ft x r).toNat=r.toNat+(if x.d.o.act.kind=.alloc then 1 else 0):=by
   unfold Ft
   split<;>simp[Key.toNat_succ]
  simp only[List.map_cons,Az]
  refine⟨fun y hy k b ha=>?_,?_⟩
  ·rcases List.mem_cons.1 hy with rfl|hy
   ·obtain⟨rfl,h2,h3⟩:=uM s ha
    exact⟨Rl,by rw[if_pos h3];omega,h2⟩
   ·obtain⟨h2,h3,h4⟩:=g1 y hy k b ha
    exact⟨by omega,by omega,h4⟩
  ·refine .cons (fun y hy k b k' b' ha hb=>?_) g2
   obtain⟨rfl,_,h3⟩:=uM s ha
   obtain⟨h2,_,_⟩:=g1 y hy k' b' hb
   rw[hr.2,if_pos h3] at h2
   rintro rfl
   omega
theorem mQ {x:Ev} {post:List Ev}:∀(pre:List Ev) {r:Key} {Ai:List Ac} {fr:Fr} {h:Ac} {fr':Fr} {h':Ac},Run call lo hi (pre++x::post) r Ai fr h fr' h' →
  (∀y∈pre,∀k b,y.al=some (k,b)→lo.toNat≤k.toNat∧k.toNat<hi.toNat) →
  ∃r1 snaps1 h1 h2,iE call lo hi x r1 (Ai++snaps1) (pFr pre fr) h1 h2∧∃hs∈snaps1++[h1],∀b:Key,b.toNat<lo.toNat∨hi.toNat≤b.toNat→hs.get b=h.get b
 |[],r,Ai,fr,h,fr',h',e,_=>by
  obtain⟨h1,s,_⟩:=e
  exact⟨r,[],h,h1,by simpa[pFr] using s,h,by simp,fun _ _=>rfl⟩
 |y::pre,r,Ai,fr,h,fr',h',e,hk=>by
  obtain⟨h1,s,e⟩:=e
  obtain⟨r1,snaps1,g1,g2,s1,hs,hm,hg⟩:=mQ pre e fun z hz=>hk z (by simp[hz])
  by_cases hy:y.d.o.act.kind=.effect
  ·refine⟨r1,h::snaps1,g1,g2,?_,h,by simp,fun _ _=>rfl⟩
   simpa[Dm,hy,pFr] using s1
  ·refine⟨r1,snaps1,g1,g2,?_,hs,hm,fun b hb=>?_⟩
   ·simpa[Dm,hy,pFr] using s1
   ·rw[hg b hb,eX s hy]
    unfold Ev.put
    split
    ·next k blk hal=>
     have:=hk y (by simp) k blk hal
     exact Hh (by rintro rfl;omega) _
    ·rfl
theorem aN {o:VOp} {args:List AV} {v:AV}:∀{l:List Ac} {hs:Ac},Hf o args v l=true→hs∈l→∃g,o.run args hs=some (v,g)
 |h::l,hs,e,hm=>by
  simp only[Hf,Bool.and_eq_true] at e
  rcases List.mem_cons.1 hm with rfl|hm
  ·have e1:=e.1
   split at e1
   ·next u g hu=>
    simp only[AV.beq,decide_eq_true_eq] at e1
    exact⟨g,by rw[hu,e1]⟩
   ·cases e1
  ·exact aN e.2 hm
end
structure Reg (P:Program) (N:Nat) (ops:Array Oper) (vs:List An):Prop where
 len:vs.length=ops.size
 ok:∀(i:Nat) o,ops[i]?=some o→∃vo,vs[i]?=some vo∧Ix P N ops o=some vo
 down:Qv ops.toList
 dst:∀(i j:Nat) x y k,vs[i]?=some x→vs[j]?=some y→i≠j→x.dst=some k→y.dst≠some k
 apart:∀(i j:Nat) x y,vs[i]?=some x→vs[j]?=some y→i≠j→before (B9 ops.toList) i j=true∨before (B9 ops.toList) j i=true∨Zt x y=true
structure Rest (ops:Array Oper) (vs:List An) (lo hi:Key) (evs:List Ev) (Ai:List Ac) (h:Ac):Prop where
 idx:∀x∈evs,vs[x.i]?=some x.d.o∧x.d.chk=Zu (B9 ops.toList) (C8 vs) x.i
 pw:evs.Pairwise fun x y=>x.i≠y.i∧before (B9 ops.toList) y.i x.i=false∧(y.d.o.act.kind=.effect→before (B9 ops.toList) x.i y.i=true)
 Ai:((C8 vs).filter fun j=>decide (∀x∈evs,x.i≠j)).length≤Ai.length
 kpw:evs.Pairwise fun x y=>∀k b k' b',x.al=some (k,b)→y.al=some (k',b')→k≠k'
 key:∀x∈evs,∀k b,x.al=some (k,b)→Bd k h∧k.toNat<h.next.toNat∧lo.toNat≤k.toNat∧k.toNat<hi.toNat∧b.anc=[]
 hi:hi.toNat≤h.next.toNat
 clean:Clean h
structure Up (ops:Array Oper) (vs:List An) (evs:List Ev) (L:Nat→Bool):Prop where
 rest:∀i,i<vs.length→(∀x∈evs,x.i≠i)→L i=true
 early:∀x∈evs,L x.i=true→x.d.o.act.kind≠.effect
 closed:Pp ops.toList L
structure Ry (N:Nat) (lo:Nat) (φ0:Emb) (g0:Mem) (w0:World) (L:Nat→Bool) (evs:List Ev) (fr:Fr) (h:Ac) (φ:Emb) (a:Act) (w:World):Prop where
 fr:C6 φ N (eFr L evs fr) a
 sim:Sim φ (A8 L evs h).get h.next.toNat w
 ext:Ext φ0 g0 lo w0 φ (A8 L evs h).get h.next.toNat w
 unl:∀x∈evs,L x.i=false→∀k b,x.al=some (k,b)→φ k=none
theorem Ny {vs:List An} {j:Nat}:j∈C8 vs↔∃o,vs[j]?=some o∧o.act.kind=.effect:=by
 unfold C8
 constructor
 ·intro h
  obtain⟨⟨o,i⟩,hp,rfl⟩:=List.mem_map.1 h
  obtain⟨h1,h2⟩:=List.mem_filter.1 hp
  exact⟨o,List.mem_zipIdx_iff_getElem?.1 h1,by simpa using h2⟩
 ·rintro⟨o,ho,hk⟩
  exact List.mem_map.2 ⟨(o,j),List.mem_filter.2 ⟨List.mem_zipIdx_iff_getElem?.2 ho,by simpa using hk⟩,rfl⟩
theorem Nz (vs:List An):(C8 vs).Nodup:=by
 unfold C8
 have h:((vs.zipIdx.filter fun p=>decide (p.1.act.kind=.effect)).map (·.2)).Sublist (vs.zipIdx.map (·.2)):=List.Sublist.map _ List.filter_sublist
 refine h.nodup ?_
 have:=List.zipIdx_map_snd 0 vs
 rw[show(vs.zipIdx.map (·.2))=List.range' 0 vs.length from this]
 exact List.nodup_range'
theorem filter_le {p q:Nat→Bool}:∀(l:List Nat),(∀a∈l,p a=true→q a=true)→(l.filter p).length≤(l.filter q).length
 |[],_=>Rl
 |a::l,h=>by
  have ih:=filter_le l fun b hb=>h b (by simp[hb])
  simp only[List.filter_cons]
  cases hp:p a with
  |false=>simp only[Fj,if_false];split<;>simp<;>omega
  |true=>rw[if_pos rfl,if_pos (h a (by simp) hp)];simp;omega
theorem H8 {p q:Nat→Bool} {c:Nat}:∀(l:List Nat),l.Nodup→(∀a∈l,p a=true→a≠c→q a=true)→(l.filter p).length≤(l.filter q).length+1
 |[],_,_=>by simp
 |a::l,hn,h=>by
  obtain⟨h1,h2⟩:=List.nodup_cons.1 hn
  by_cases hc:a=c
  ·subst hc
   have:=filter_le (p:=p) (q:=q) l fun b hb hp=>h b (by simp[hb]) hp (by rintro rfl;exact h1 hb)
   simp only[List.filter_cons]
   split<;>split<;>simp<;>omega
  ·have ih:=H8 (p:=p) (q:=q) l h2 fun b hb=>h b (by simp[hb])
   simp only[List.filter_cons]
   cases hp:p a with
   |false=>simp only[Fj,if_false];split<;>simp<;>omega
   |true=>rw[if_pos rfl,if_pos (h a (by simp) hp hc)];simp;omega
section
variable {P:Program} {call:Bn} {N:Nat} {ops:Array Oper} {vs:List An} {lo hi:Key}
theorem OG (hreg:Reg P N ops vs) {evs:List Ev} {Ai:List Ac} {h:Ac} {L:Nat→Bool} (hr:Rest ops vs lo hi evs Ai h) (hu:Up ops vs evs L) {x:Ev} (hx:x∈evs) {o:Oper} (ho:ops[x.i]?=some o)
  (hd:∀k∈direct o,L k=true):x.d.chk≤Ai.length:=by
 rw[(hr.idx x hx).2]
 refine Nat.le_trans (filter_le (C8 vs) fun j hj hb=>?_) hr.Ai
 have hl:L j=true:=hu.closed.ready hreg.down (o:=o) (by simpa using ho) hd hb
 simp only[decide_eq_true_eq]
 rintro y hy rfl
 obtain⟨o',ho',hk⟩:=Ny.1 hj
 rw[(hr.idx y hy).1] at ho'
 cases ho'
 exact hu.early y hy hl hk
theorem qS {evs:List Ev} {x:Ev} {r:Key} {Ai:List Ac} {fr:Fr} {h:Ac} {fr':Fr} {h':Ac} {L:Nat→Bool} (hr:Rest ops vs lo hi (x::evs) Ai h) (hu:Up ops vs (x::evs) L) (hx:L x.i=true)
  (hrun:Run call lo hi (x::evs) r Ai fr h fr' h'):∃r1,Rest ops vs lo hi evs Ai (x.put h)∧Up ops vs evs L∧Run call lo hi evs r1 Ai (Bp fr x.d.o.dst x.v) (x.put h) fr' h':=by
 have hk:=hu.early x (by simp) hx
 obtain⟨h1,s,hrun⟩:=hrun
 have hh:=eX s hk
 subst hh
 have hpw:=List.pairwise_cons.1 hr.pw
 have hkpw:=List.pairwise_cons.1 hr.kpw
 refine⟨_,⟨fun y hy=>hr.idx y (by simp[hy]),hpw.2,?_,hkpw.2,fun y hy k b ha=>?_,by rw[Mt];exact hr.hi,?_⟩,⟨fun i hi hn=>?_,fun y hy=>hu.early y (by simp[hy]),hu.closed⟩,by simpa[Dm,hk] using hrun⟩
 ·refine Nat.le_trans (filter_le _ fun j hj hp=>?_) hr.Ai
  simp only[decide_eq_true_eq] at hp ⊢
  intro y hy
  rcases List.mem_cons.1 hy with rfl|hy
  ·rintro rfl
   obtain⟨o',ho',hk'⟩:=Ny.1 hj
   rw[(hr.idx y (by simp)).1] at ho'
   cases ho'
   exact hk hk'
  ·exact hp y hy
 ·obtain⟨h1,h2,h3,h4,h5⟩:=hr.key y (by simp[hy]) k b ha
  refine⟨?_,by rw[Mt];exact h2,h3,h4,h5⟩
  unfold Ev.put
  split
  ·next k0 b0 hal=>
   refine h1.upd (Ne.symm (hkpw.1 y hy k0 b0 k b hal ha)) _ ?_
   intro z hz
   cases hz
   rw[(hr.key x (by simp) k0 b0 hal).2.2.2.2]
   simp
  ·exact h1
 ·unfold Ev.put
  split
  ·next k0 b0 hal=>
   obtain⟨_,h2,_,_,h5⟩:=hr.key x (by simp) k0 b0 hal
   exact Vv hr.clean h2 h5
  ·exact hr.clean
 ·by_cases hxi:x.i=i
  ·exact hxi▸hx
  ·refine hu.rest i hi fun y hy=>?_
   rcases List.mem_cons.1 hy with rfl|hy
   ·exact hxi
   ·exact hn y hy
theorem iG {lo0:Nat} {φ0:Emb} {g0:Mem} {w0:World} {evs:List Ev} {x:Ev} {fr:Fr} {h:Ac} {L:Nat→Bool} {φ:Emb} {a:Act} {w:World} (hx:L x.i=true) (st:Ry N lo0 φ0 g0 w0 L (x::evs) fr h φ a w) :
  Ry N lo0 φ0 g0 w0 L evs (Bp fr x.d.o.dst x.v) (x.put h) φ a w:=by
 obtain⟨h1,h2,h3,h4⟩:=st
 simp only[eFr,A8,hx,if_true] at h1 h2 h3
 refine⟨h1,by rw[Mt];exact h2,by rw[Mt];exact h3,fun y hy=>h4 y (by simp[hy])⟩
def todo (L:Nat→Bool) (evs:List Ev):Nat:=(evs.filter fun x=>!L x.i).length
theorem qT {lo0:Nat} {φ0:Emb} {g0:Mem} {w0:World} {L:Nat→Bool} {φ:Emb} {a:Act} {w:World} {fr':Fr} {h':Ac}:∀(evs:List Ev) {r:Key} {Ai:List Ac} {fr:Fr} {h:Ac},
  Rest ops vs lo hi evs Ai h→Up ops vs evs L→Run call lo hi evs r Ai fr h fr' h'→Ry N lo0 φ0 g0 w0 L evs fr h φ a w →
  ∃evs' r' fr'' h'',Rest ops vs lo hi evs' Ai h''∧Up ops vs evs' L∧Run call lo hi evs' r' Ai fr'' h'' fr' h'∧Ry N lo0 φ0 g0 w0 L evs' fr'' h'' φ a w∧todo L evs'=todo L evs∧∀x l,evs'=x::l→L x.i=false
 |[],r,Ai,fr,h,hr,hu,hrun,st=>⟨[],r,fr,h,hr,hu,hrun,st,rfl,by simp⟩
 |x::l,r,Ai,fr,h,hr,hu,hrun,st=>by
  cases hx:L x.i with
  |false=>exact⟨x::l,r,fr,h,hr,hu,hrun,st,rfl,by rintro y l' e;cases e;exact hx⟩
  |true=>
   obtain⟨r1,g1,g2,g3⟩:=qS hr hu hx hrun
   obtain⟨evs',r',fr'',h'',k1,k2,k3,k4,k5,k6⟩:=qT l g1 g2 g3 (iG hx st)
   exact⟨evs',r',fr'',h'',k1,k2,k3,k4,by rw[k5];simp[todo,hx],k6⟩
theorem operands (hreg:Reg P N ops vs) {L:Nat→Bool} {x:Ev} {pre post:List Ev} {Ai:List Ac} {h:Ac} (hr:Rest ops vs lo hi (pre++x::post) Ai h) (hu:Up ops vs (pre++x::post) L) (hx:L x.i=false) {o:Oper} (ho:ops[x.i]?=some o)
  (hd:∀k∈direct o,L k=true) (fr:Fr):∀k∈looks x.d.o,(eFr L (pre++x::post) fr).get k=(pFr pre fr).get k:=by
 intro k hk
 have hpw:=List.pairwise_append.1 hr.pw
 have hpost:=List.pairwise_cons.1 hpw.2.1
 have hix:=(hr.idx x (by simp)).1
 rw[J4]
 have hap:∀y∈pre++x::post,y.i≠x.i→y.d.o.dst=some k→before (B9 ops.toList) y.i x.i=true∨before (B9 ops.toList) x.i y.i=true:=by
  intro y hy hne hdst
  rcases hreg.apart y.i x.i _ _ (hr.idx y hy).1 hix hne with h1|h1|h1
  ·exact .inl h1
  ·exact .inr h1
  ·exfalso
   unfold Zt at h1
   simp only[hdst,Bool.and_eq_true,Bool.not_eq_true'] at h1
   have:=h1.1
   rw[List.contains_eq_mem] at this
   simp[hk] at this
 rw[uJ]
 ·refine uK pre fr fr rfl fun y hy hdst=>?_
  obtain⟨hne,hb,_⟩:=hpw.2.2 y hy x (by simp)
  rcases hap y (by simp[hy]) hne hdst with h1|h1
  ·exact hu.closed.ready hreg.down (o:=o) (by simpa using ho) hd h1
  ·rw[hb] at h1;cases h1
 ·intro y hy hdst
  rcases List.mem_cons.1 hy with rfl|hy
  ·exact hx
  ·obtain⟨hne,hb,_⟩:=hpost.1 y hy
   rcases hap y (by simp[hy]) (Ne.symm hne) hdst with h1|h1
   ·rw[hb] at h1;cases h1
   ·cases hl:L y.i with
    |false=>rfl
    |true=>
     have:=hu.closed.anc hreg.down (y.i+1) y.i (by omega) h1 hl
     rw[hx] at this;cases this
theorem Ua (hcall:Ed P call) {o:Oper} {vo:An} (hc:Ix P N ops o=some vo) {φ:Emb} {fr:Fr} {a:Act} {h h':Ac} {nx:Nat} {w:World} {v:AV} (hfr:C6 φ N fr a)
  (s:Sim φ h.get nx w) (hb:φ h.next=none) (hnx:(∀o,vo.act≠.op o)→nx=h.next.toNat∧Clean h)
  (hrun:(Di fr vo.guard=some true∧∃args,Cn fr vo.args=some args∧vo.act.run call args h=some (v,h'))∨(Di fr vo.guard=some false∧v=.unit∧h'=h))
  {K:Act→World→Prop} {Q:Exit→Act→World→Prop}
  (hK:∀a' w' φ',(∀nx',nx≤nx'→h'.next.toNat≤nx'→Sim φ' h'.get nx' w')→Ext φ h.get h.next.toNat w φ' h'.get h'.next.toNat w'→C6 φ' N (Bp fr vo.dst v) a'→K a' w') :
  if Region.wanted o (yielded ops a.tmps) then o.wp P a w K Q∨(o.asks P a w∧LetsOut Q) else K (a.put o.dst undef) w:=by
 obtain⟨hd,hdst,⟨g,hg,hvg⟩,_⟩:=Dw hc
 rcases hrun with⟨hw,args,hf,hact⟩|⟨hw,rfl,rfl⟩
 ·rw[hvg] at hw
  rw[Mk hfr hg hw,if_pos rfl]
  refine .inl (mG hcall hc hfr s hb hnx hf hact fun v' w' φ' h1 h2 h3=>hK _ _ φ' h1 h2 ?_)
  rw[hdst]
  exact(hfr.mono h2.le).put hd h3
 ·rw[hvg] at hw
  rw[Mk hfr hg hw]
  simp only[Fj,if_false]
  refine hK _ _ φ (fun nx' h1 _=>s.up h1) (Ext.refl _ _ _ _) ?_
  rw[hdst]
  exact hfr.put hd ⟨[],rfl,.nil⟩
theorem Ext.within {φ0:Emb} {g0:Mem} {lo n r r':Nat} {w0 w w':World} {φ φ':Emb} {g g':Mem} (e:Ext φ0 g0 lo w0 φ g n w) (e':Ext φ g r w φ' g' r' w') (h1:lo≤r) (h2:r'≤n):Ext φ0 g0 lo w0 φ' g' n w' where
 le:=e.le.trans e'.le
 only b hb hr:=e'.only b (e.only b hb hr) (by have:=e'.nx;omega)
 nx:=e.nx
 size:=Nat.le_trans e.size e'.size
 frame r0 o hr hn:=by
  refine e'.frame r0 o (e.frame r0 o hr hn) fun b x l h1 h2 h3 h4=>?_
  have hlt:r0<w0.heap.size:=(Array.getElem?_eq_some_iff.1 hr).1
  obtain⟨b0,x0,l0,e1,e2,e3,e4⟩:=e.own b x l h1 h2 h3 (h4▸hlt)
  exact hn b0 x0 l0 e1 e2 e3 (e4.trans h4)
 own b x l h1 h2 h3 h4:=by
  obtain⟨b1,x1,l1,e1,e2,e3,e4⟩:=e'.own b x l h1 h2 h3 (Nat.lt_of_lt_of_le h4 e.size)
  obtain⟨b0,x0,l0,f1,f2,f3,f4⟩:=e.own b1 x1 l1 e1 e2 e3 (e4▸h4)
  exact⟨b0,x0,l0,f1,f2,f3,f4.trans e4⟩
 new b l h1 h2 h3:=by
  cases hb:φ b with
  |none=>
   obtain⟨b1,x1,l1,e1,e2,e3,e4⟩:=e'.new b l hb h2 (Nat.lt_of_lt_of_le h3 e.size)
   obtain⟨b0,x0,l0,f1,f2,f3,f4⟩:=e.own b1 x1 l1 e1 e2 e3 (e4▸h3)
   exact⟨b0,x0,l0,f1,f2,f3,f4.trans e4⟩
  |some l1=>
   have:=e'.le b l1 hb
   rw[h2] at this
   cases this
   exact e.new b l h1 hb h3
 os:=⟨e'.os.1.trans e.os.1,e'.os.2.trans e.os.2⟩
theorem Xk (L:Nat→Bool):∀(l:List Ev) (h:Ac),Clean h→(∀x∈l,∀k b,x.al=some (k,b)→k.toNat<h.next.toNat∧b.anc=[])→Clean (A8 L l h)
 |[],_,hc,_=>hc
 |x::l,h,hc,hk=>by
  rw[A8]
  have hp:Clean (x.put h):=by
   unfold Ev.put
   split
   ·next k b ha=>exact Vv hc (hk x (by simp) k b ha).1 (hk x (by simp) k b ha).2
   ·exact hc
  refine Xk L l _ (by split<;>assumption) fun y hy k b ha=>?_
  have:=hk y (by simp[hy]) k b ha
  split
  ·rw[Mt];exact this
  ·exact this
theorem N0 {α:Type} {f:Ac→Option (α×Ac)} (hf:Tz f) (L:Nat→Bool):∀(l:List Ev) {h h':Ac} {v:α},f h=some (v,h') →
  (∀x∈l,∀k b,x.al=some (k,b)→Bd k h∧k.toNat<h.next.toNat∧b.anc=[])→(l.Pairwise fun x y=>∀k b k' b',x.al=some (k,b)→y.al=some (k',b')→k≠k') →
  f (A8 L l h)=some (v,A8 L l h')∧∀x∈l,∀k b,x.al=some (k,b)→Bd k h'
 |[],_,_,_,e,_,_=>⟨e,by simp⟩
 |x::l,h,h',v,e,hk,hp=>by
  have hpc:=List.pairwise_cons.1 hp
  have hfresh:∀y∈x::l,∀k b,y.al=some (k,b)→Bd k h':=fun y hy k b ha=>by
   obtain⟨h1,h2,_⟩:=hk y hy k b ha
   exact((hf h v h' e).2 k default h2 h1).1
  refine⟨?_,hfresh⟩
  simp only[A8]
  cases hx:L x.i with
  |false=>
   simp only[Fj,if_false]
   exact(N0 hf L l e (fun y hy=>hk y (by simp[hy])) hpc.2).1
  |true=>
   simp only[if_true]
   unfold Ev.put
   split
   ·next k b ha=>
    obtain⟨h1,h2,h3⟩:=hk x (by simp) k b ha
    refine(N0 hf L l ((hf h v h' e).2 k b h2 h1).2 (fun y hy k' b' ha'=>?_) hpc.2).1
    obtain⟨g1,g2,g3⟩:=hk y (by simp[hy]) k' b' ha'
    refine⟨g1.upd (Ne.symm (hpc.1 y hy k b k' b' ha ha')) _ (by intro z hz;cases hz;simp[h3]),g2,g3⟩
   ·exact(N0 hf L l e (fun y hy=>hk y (by simp[hy])) hpc.2).1
end
end Go.Vm
end
