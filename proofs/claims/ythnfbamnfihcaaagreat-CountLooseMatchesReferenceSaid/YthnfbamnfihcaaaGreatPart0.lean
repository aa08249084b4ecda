/- A part of the proof. No condition. -/
import Derived.Test.YthnfbamnfihcaaaGreatBase
import Derived.Laws.AppendOwn
import Derived.Laws.CopyRow
import Derived.Laws.MakeOwn
import Derived.Laws.StructEq
import Derived.Laws.Concat
import Derived.LoopN
import Derived.Tactics
import Derived.Orders
set_option linter.unusedVariables false
set_option linter.unusedSimpArgs false
set_option linter.unusedSectionVars false
section
noncomputable section
namespace Go.Vm
open Key (kn)
structure Loc where
 blk:Nat
 off:Nat
 tot:Nat
abbrev Emb:=Key->Option Loc
def Le (φ φ':Emb):Prop:=∀b l,φ b=some l->φ' b=some l
theorem Le.refl (φ:Emb):Le φ φ:=λ_ _ h=>h
theorem Le.trans {φ φ' φ'':Emb} (h:Le φ φ') (h':Le φ' φ''):Le φ φ'':=λb l e=>h' b l (h b l e)
inductive A1 {α β:Type} (R:α->β->Prop):List α->List β->Prop where
 |nil:A1 R [] []
 |cons {a:α} {b:β} {l:List α} {m:List β} (h:R a b) (t:A1 R l m):A1 R (a::l) (b::m)
attribute [simp] A1.nil
def dV (φ:Emb) (p:Key×Nat) (v:Value):Prop:=∃l,φ p.1=some l/\v=.pointer (some ⟨l.blk,p.2+l.off,none⟩)
def Fx (φ:Emb):SV->Value->Prop
 |.bool b,v=>v=.bool b
 |.int k n,v=>v=.int k n
 |.str s,v=>(∀n∈s,n<256)/\v=.string ⟨(s.map UInt8.ofNat).toArray⟩
 |.ptr b o,v=>dV φ (b,o) v
 |.Iv,v=>v=.pointer none
 |.slice b o len es cap,v=>∃a c,v=.slice (some a) len c/\len<=c/\(∀k,cap=some k->c=k) /\
   (c=0∨∃l,φ b=some l/\a=⟨l.blk,o+l.off,none⟩/\(cap=none->o+l.off+c*es=l.tot))
 |.A4,v=>v=.slice none 0 0
 |.map b,v=>∃l,φ b=some l/\v=.map (some l.blk)
 |.Ic,v=>v=.map none
 |.func f fs cs,v=>∃vs us:List Value,v=.func (.func f) vs.toArray us.toArray/\A1 (dV φ) fs vs/\A1 (dV φ) cs us
 |.J5,v=>v=.nilFunc
def Jo (φ:Emb):CV->Value->Prop
 |.s x,v=>Fx φ x v
 |.agg cs,v=>∃vs:List Value,v=.agg vs.toArray/\A1 (Fx φ) cs vs
def Gr (φ:Emb):AV->Value->Prop
 |.v x,v=>Jo φ x v
 |.tup xs,v=>∃vs:List Value,v=.tuple vs.toArray/\A1 (Jo φ) xs vs
theorem A9 {α β:Type} {R R':α->β->Prop} {l:List α} {m:List β} (h:A1 R l m) (hr:∀a b,R a b->R' a b):A1 R' l m:=by
 induction h with
 |nil=>exact .nil
 |cons h _ ih=>exact .cons (hr _ _ h) ih
theorem A5 {α β:Type} {R:α->β->Prop} {l:List α} {m:List β} (h:A1 R l m):l.length=m.length:=by
 induction h with
 |nil=>rfl
 |cons _ _ ih=>simp[ih]
theorem D0 {α β:Type} {R:α->β->Prop} {l l':List α} {m m':List β} (h:A1 R l m) (h':A1 R l' m'):A1 R (l++l') (m++m'):=by
 induction h with
 |nil=>exact h'
 |cons h _ ih=>exact .cons h ih
theorem Gs {α β:Type} {R:α->β->Prop} (n:Nat) {l:List α} {m:List β} (h:A1 R l m):A1 R (l.take n) (m.take n):=by
 induction h generalizing n with
 |nil=>simp
 |cons h _ ih=>cases n with
  |zero=>simp
  |succ n=>exact .cons h (ih n)
theorem Gh {α β:Type} {R:α->β->Prop} (n:Nat) {l:List α} {m:List β} (h:A1 R l m):A1 R (l.drop n) (m.drop n):=by
 induction h generalizing n with
 |nil=>simp
 |cons h t ih=>cases n with
  |zero=>exact .cons h t
  |succ n=>exact ih n
theorem D3 {α β:Type} {R:α->β->Prop} {l:List α} {m:List β} (h:A1 R l m) (i:Nat) {a:α} (e:l[i]?=some a):∃b,m[i]?=some b/\R a b:=by
 induction h generalizing i with
 |nil=>simp at e
 |cons h _ ih=>cases i with
  |zero=>simp at e;subst e;exact⟨_,rfl,h⟩
  |succ i=>exact ih i (by simpa using e)
theorem L4 {α β:Type} {R:α->β->Prop}:∀{l:List α} {m:List β},l.length=m.length->(∀(i:Nat) a,l[i]?=some a->∃b,m[i]?=some b/\R a b)->A1 R l m
 |[],[],_,_=>.nil
 |[],_::_,e,_=>by simp at e
 |_::_,[],e,_=>by simp at e
 |a::l,b::m,e,h=>by obtain⟨b',hb,hr⟩:=h 0 a rfl;simp at hb;subst hb;exact .cons hr (L4 (by simpa using e) λi a hi=>by simpa using h (i+1) a (by simpa using hi))
theorem Qh {α β γ:Type} {R:α->β->Prop} (f:γ->α) (g:γ->β) (l:List γ) (h:∀x∈l,R (f x) (g x)):A1 R (l.map f) (l.map g):=by
 induction l with
 |nil=>exact .nil
 |cons x l ih=>exact .cons (h x Ac) (ih λy hy=>h y (by simp[hy]))
theorem dV.mono {φ φ':Emb} (h:Le φ φ') {p:Key×Nat} {v:Value} (r:dV φ p v):dV φ' p v:=by obtain⟨l,e,hv⟩:=r;exact⟨l,h _ _ e,hv⟩
theorem Fx.mono {φ φ':Emb} (h:Le φ φ') {s:SV} {v:Value} (r:Fx φ s v):Fx φ' s v:=by
 cases s with
 |ptr b o=>exact dV.mono h r
 |slice b o len es cap=>obtain⟨a,c,hv,hl,hk,hc⟩:=r;refine⟨a,c,hv,hl,hk,hc.imp id ?_⟩;rintro⟨l,e,ha,ht⟩;exact⟨l,h _ _ e,ha,ht⟩
 |map b=>obtain⟨l,e,hv⟩:=r;exact⟨l,h _ _ e,hv⟩
 |func f fs cs=>obtain⟨vs,us,hv,h1,h2⟩:=r;exact⟨vs,us,hv,A9 h1 λ_ _=>dV.mono h,A9 h2 λ_ _=>dV.mono h⟩
 |_=>exact r
theorem Jo.mono {φ φ':Emb} (h:Le φ φ') {s:CV} {v:Value} (r:Jo φ s v):Jo φ' s v:=by
 cases s with
 |s x=>exact Fx.mono h r
 |agg cs=>obtain⟨vs,hv,hr⟩:=r;exact⟨vs,hv,A9 hr λ_ _=>Fx.mono h⟩
theorem Gr.mono {φ φ':Emb} (h:Le φ φ') {s:AV} {v:Value} (r:Gr φ s v):Gr φ' s v:=by
 cases s with
 |v x=>exact Jo.mono h r
 |tup xs=>obtain⟨vs,hv,hr⟩:=r;exact⟨vs,hv,A9 hr λ_ _=>Jo.mono h⟩
theorem Fx.one {φ:Emb} {s:SV} {v:Value} (r:Fx φ s v):v.oneCell'=true:=by
 cases s<;>simp only[Fx,dV] at r;case str=>obtain⟨_,rfl⟩:=r;rfl
 case ptr=>obtain⟨_,_,rfl⟩:=r;rfl
 case slice=>obtain⟨_,_,rfl,_⟩:=r;rfl
 case map=>obtain⟨_,_,rfl⟩:=r;rfl
 case func=>obtain⟨_,_,rfl,_⟩:=r;rfl
 all_goals (subst r;rfl)
theorem oG {v:Value} (h:v.oneCell'=true):v.cells=#[v]:=by cases v<;>first|rfl|simp[Value.oneCell'] at h
theorem Jo.cells {φ:Emb} {x:CV} {v:Value} (r:Jo φ x v):A1 (Fx φ) x.cells v.cells.toList:=by
 cases x with
 |s x=>rw[oG (Fx.one r)];exact .cons r .nil
 |agg cs=>obtain⟨vs,rfl,hr⟩:=r;exact hr
theorem Pe {φ:Emb} {l:EB} {vs:List Value} (h:A1 (Fx φ) l vs):∀v∈vs,v.oneCell'=true:=by
 induction h with
 |nil=>simp
 |cons h _ ih=>intro v hv;rcases Af.1 hv with rfl|hv;exact Fx.one h;exact ih v hv
def Wl (φ:Emb) (l:Loc) (own:Bool):Body->Obj->Prop
 |.cells c m,o=>∃arr e fr,o=.cells arr e fr/\arr.size=l.tot/\l.off+m<=arr.size/\(own=true->fr=(0,0)) /\
   ∀i,i<m->∃s v,c.get (kn i)=some s/\arr[l.off+i]?=some v/\Fx φ s v
 |.map es,o=>∃arr:Array MapEntry,o=.map arr arr.size/\(∀i (h:i<arr.size),arr[i].born=i) /\
   A1 (λp (e:MapEntry)=>Jo φ p.1 e.key/\Jo φ p.2 e.val) es arr.toList
 |.iter m n st,o=>l.off=0/\∃l',φ m=some l'/\o=.mapIter (some l'.blk) n (if st=0 then #[] else #[0]) n
 |.lP s pos,o=>(∀n∈s,n<256)/\o=.stringIter ⟨(s.map UInt8.ofNat).toArray⟩ pos
theorem Wl.mono {φ φ':Emb} (h:Le φ φ') {l:Loc} {own:Bool} {b:Body} {o:Obj} (r:Wl φ l own b o):Wl φ' l own b o:=by
 cases b with
 |cells c m=>obtain⟨arr,e,fr,ho,hs,hm,hf,hc⟩:=r;exact⟨arr,e,fr,ho,hs,hm,hf,λi hi=>by obtain⟨s,v,h1,h2,h3⟩:=hc i hi;exact⟨s,v,h1,h2,h3.mono h⟩⟩
 |map es=>obtain⟨arr,ho,hb,hr⟩:=r;exact⟨arr,ho,hb,A9 hr λ_ _ hh=>⟨hh.1.mono h,hh.2.mono h⟩⟩
 |iter m n st=>obtain⟨h0,l',e,ho⟩:=r;exact⟨h0,l',h _ _ e,ho⟩
 |lP s pos=>exact r
theorem Wl.Ack {φ:Emb} {l:Loc} {own:Bool} {b:Body} {o:Obj} (r:Wl φ l own b o):Wl φ l false b o:=by
 cases b with
 |cells c m=>obtain⟨arr,e,fr,ho,hs,hm,_,hc⟩:=r;exact⟨arr,e,fr,ho,hs,hm,Ac,hc⟩
 |_=>exact r
def Body.size:Body->Nat
 |.cells _ m=>m
 |_=>0
abbrev Mem:=Key->Option Blk
structure Sim (φ:Emb) (g:Mem) (nx:Nat) (w:World):Prop where
 blk:∀b x l,g b=some x->φ b=some l->∃o,w.heap[l.blk]?=some o/\Wl φ l x.own x.body o
 sep:∀b x l b' x' l',g b=some x->φ b=some l->g b'=some x'->φ b'=some l'->l.blk=l'.blk->b≠b'->x.own=true ->
  b'∈x.anc/\l'.off+x'.body.size<=l.off+x.body.size/\x'.own=false
 fresh:∀b:Key,nx<=b.toNat->φ b=none
structure Ext (φ:Emb) (g:Mem) (lo:Nat) (w:World) (φ':Emb) (g':Mem) (hi:Nat) (w':World):Prop where
 le:Le φ φ'
 only:∀b:Key,φ b=none->(b.toNat<lo∨hi<=b.toNat)->φ' b=none
 nx:lo<=hi
 size:w.heap.size<=w'.heap.size
 frame:∀r o,w.heap[r]?=some o->(∀b x l,g b=some x->x.own=true->φ b=some l->l.blk≠r)->w'.heap[r]?=some o
 own:∀b x l,g' b=some x->x.own=true->φ' b=some l->l.blk<w.heap.size->∃b0 x0 l0,g b0=some x0/\x0.own=true/\φ b0=some l0/\l0.blk=l.blk
 new:∀b l,φ b=none->φ' b=some l->l.blk<w.heap.size->∃b0 x0 l0,g b0=some x0/\x0.own=true/\φ b0=some l0/\l0.blk=l.blk
 os:w'.os=w.os/\w'.output=w.output
theorem Ext.refl (φ:Emb) (g:Mem) (nx:Nat) (w:World):Ext φ g nx w φ g nx w:=
 ⟨Le.refl φ,λ_ h _=>h,Rl,Rl,λ_ _ h _=>h,λb x l h1 h2 h3 _=>⟨b,x,l,h1,h2,h3,rfl⟩,λb l h1 h2 _=>(by rw[h1] at h2;cases h2),rfl,rfl⟩
theorem Ext.trans {φ:Emb} {g:Mem} {nx:Nat} {w:World} {φ':Emb} {g':Mem} {nx':Nat} {w':World} {φ'':Emb} {g'':Mem} {nx'':Nat} {w'':World}
  (h:Ext φ g nx w φ' g' nx' w') (h':Ext φ' g' nx' w' φ'' g'' nx'' w''):Ext φ g nx w φ'' g'' nx'' w'' where
 le:=h.le.trans h'.le
 only b hb hr:=by have h1:=h.nx;have h2:=h'.nx;exact h'.only b (h.only b hb Aa) Aa
 nx:=AQ h.nx h'.nx
 size:=AQ h.size h'.size
 frame r o hr hn:=by refine h'.frame r o (h.frame r o hr hn) λb x l h1 h2 h3 h4=>?_;have hlt:r<w.heap.size:=(AE.1 hr).1;obtain⟨b0,x0,l0,e1,e2,e3,e4⟩:=h.own b x l h1 h2 h3 (h4▸hlt);exact hn b0 x0 l0 e1 e2 e3 (e4.trans h4)
 own b x l h1 h2 h3 h4:=by obtain⟨b1,x1,l1,e1,e2,e3,e4⟩:=h'.own b x l h1 h2 h3 (Bu h4 h.size);obtain⟨b0,x0,l0,f1,f2,f3,f4⟩:=h.own b1 x1 l1 e1 e2 e3 (e4▸h4);exact⟨b0,x0,l0,f1,f2,f3,f4.trans e4⟩
 new b l h1 h2 h3:=by
  cases hb:φ' b with
  |none=>obtain⟨b1,x1,l1,e1,e2,e3,e4⟩:=h'.new b l hb h2 (Bu h3 h.size);obtain⟨b0,x0,l0,f1,f2,f3,f4⟩:=h.own b1 x1 l1 e1 e2 e3 (e4▸h3);exact⟨b0,x0,l0,f1,f2,f3,f4.trans e4⟩
  |some l1=>have:=h'.le b l1 hb;rw[h2] at this;cases this;exact h.new b l h1 hb h3
 os:=⟨h'.os.1.trans h.os.1,h'.os.2.trans h.os.2⟩
theorem Sim.congr {φ:Emb} {g:Mem} {nx:Nat} {w w':World} (h:Sim φ g nx w) (e:w'.heap=w.heap):Sim φ g nx w':=
 ⟨λb x l h1 h2=>by rw[e];exact h.blk b x l h1 h2,h.sep,h.fresh⟩
theorem Ext.congr {φ:Emb} {g:Mem} {nx:Nat} {w w1 w':World} {φ':Emb} {g':Mem} {nx':Nat} (e:w1.heap=w.heap) (eo:w1.os=w.os/\w1.output=w.output) (h:Ext φ g nx w φ' g' nx' w'):Ext φ g nx w1 φ' g' nx' w':=
 ⟨h.le,h.only,h.nx,by rw[e];exact h.size,λr o hr=>h.frame r o (by rw[<-e];exact hr),λb x l h1 h2 h3 h4=>h.own b x l h1 h2 h3 (by rw[<-e];exact h4),λb l h1 h2 h3=>h.new b l h1 h2 (by rw[<-e];exact h3),h.os.1.trans eo.1.symm,h.os.2.trans eo.2.symm⟩
theorem Ext.of_heap {φ:Emb} {g:Mem} {nx:Nat} {w w':World} (e:w'.heap=w.heap) (eo:w'.os=w.os/\w'.output=w.output):Ext φ g nx w φ g nx w':=
 ⟨Le.refl φ,λ_ h _=>h,Rl,by rw[e];exact Rl,λr o hr _=>by rw[e];exact hr,λb x l h1 h2 h3 _=>⟨b,x,l,h1,h2,h3,rfl⟩,λb l h1 h2 _=>(by rw[h1] at h2;cases h2),eo⟩
theorem Sim.less {φ:Emb} {g g':Mem} {nx:Nat} {w:World} (h:Sim φ g nx w)
  (hg:∀b x',g' b=some x'->∃x,g b=some x/\x'.body=x.body/\x'.anc=x.anc/\(x'.own=true->x.own=true)):Sim φ g' nx w:=by
 refine⟨λb x l h1 h2=>?_,λb x l b' x' l' h1 h2 h3 h4 h5 h6 h7=>?_,h.fresh⟩
 ·obtain⟨y,hy,hb,_,ho⟩:=hg b x h1;obtain⟨o,hw,hr⟩:=h.blk b y l hy h2;refine⟨o,hw,?_⟩;rw[hb];cases hx:x.own with
  |false=>exact hr.Ack
  |true=>rw[ho hx] at hr;exact hr
 ·obtain⟨y,hy,hb,ha,ho⟩:=hg b x h1;obtain⟨y',hy',hb',_,ho'⟩:=hg b' x' h3;have hs:=h.sep b y l b' y' l' hy h2 hy' h4 h5 h6 (ho h7);rw[ha,hb,hb'];refine⟨hs.1,hs.2.1,?_⟩;cases hx:x'.own with
  |false=>rfl
  |true=>have:=ho' hx;rw[hs.2.2] at this;cases this
def Emb.set (φ:Emb) (b:Key) (l:Loc):Emb:=λk=>if b=k then some l else φ k
theorem Emb.D6 (φ:Emb) (b:Key) (l:Loc):φ.set b l b=some l:=by simp[Emb.set]
theorem Emb.Gm (φ:Emb) {b k:Key} (l:Loc) (h:b≠k):φ.set b l k=φ k:=by simp[Emb.set,h]
theorem Emb.T2 {φ:Emb} {b:Key} (l:Loc) (h:φ b=none):Le φ (φ.set b l):=by
 intro k m e;by_cases hk:b=k;·subst hk;rw[h] at e;cases e
 ·rw[Emb.Gm φ l hk];exact e
theorem Sim.lt {φ:Emb} {g:Mem} {nx:Nat} {w:World} (h:Sim φ g nx w) {b:Key} {x:Blk} {l:Loc} (h1:g b=some x) (h2:φ b=some l):l.blk<w.heap.size:=by obtain⟨o,ho,_⟩:=h.blk b x l h1 h2;exact(AE.1 ho).1
theorem Sim.push {φ:Emb} {g:Mem} {nx:Nat} {w w':World} (h:Sim φ g nx w) {b:Key} (hb:φ b=none) (nx':Nat) (hnx:nx<=nx') (hlt:b.toNat<nx') (x:Blk) (l:Loc) (hl:l.blk=w.heap.size) {o:Obj}
  (hw:w'.heap=w.heap.push o) (hr:Wl (φ.set b l) l x.own x.body o):Sim (φ.set b l) (λk=>if b=k then some x else g k) nx' w':=by
 have hold:∀r,r<w.heap.size->w'.heap[r]?=w.heap[r]?:=λr hr=>by rw[hw,DS];simp[Nat.ne_of_lt hr]
 have hnew:w'.heap[w.heap.size]?=some o:=by rw[hw];simp
 refine⟨λc y m h1 h2=>?_,λc y m c' y' m' h1 h2 h3 h4 h5 h6 h7=>?_,λc hc=>?_⟩
 ·by_cases hk:b=c;·subst hk;simp only[Ak,Sj] at h1;rw[Emb.D6] at h2;cases h1;cases h2;exact⟨o,hl▸hnew,hr⟩
  ·simp only[hk,Ag] at h1;rw[Emb.Gm φ l hk] at h2;obtain⟨p,hp,hq⟩:=h.blk c y m h1 h2;exact⟨p,by rw[hold _ (h.lt h1 h2)];exact hp,hq.mono (Emb.T2 l hb)⟩
 ·by_cases hk:b=c;·subst hk;rw[Emb.D6] at h2;cases h2;simp only[h6,Ag] at h3;rw[Emb.Gm φ l h6] at h4;have:=h.lt h3 h4;omega
  ·simp only[hk,Ag] at h1;rw[Emb.Gm φ l hk] at h2;by_cases hk':b=c';·subst hk';rw[Emb.D6] at h4;cases h4;have:=h.lt h1 h2;omega
   ·simp only[hk',Ag] at h3;rw[Emb.Gm φ l hk'] at h4;exact h.sep c y m c' y' m' h1 h2 h3 h4 h5 h6 h7
 ·rw[Emb.Gm φ l (by rintro rfl;omega)];exact h.fresh c Aa
theorem Ext.push {φ:Emb} {g:Mem} {w w':World} {b:Key} (hb:φ b=none) (x:Blk) (l:Loc) (hl:l.blk=w.heap.size) {o:Obj}
  (hw:w'.heap=w.heap.push o) (ho:w'.os=w.os/\w'.output=w.output):Ext φ g b.toNat w (φ.set b l) (λk=>if b=k then some x else g k) (b.toNat+1) w' where
 le:=Emb.T2 l hb
 only c hc hr:=by rw[Emb.Gm φ l (by rintro rfl;omega)];exact hc
 nx:=Aa
 size:=by rw[hw];simp
 frame r o' hr _:=by have hlt:r<w.heap.size:=(AE.1 hr).1;rw[hw,DS];simp[Nat.ne_of_lt hlt,hr]
 own c y m h1 h2 h3 h4:=by
  by_cases hk:b=c;·subst hk;rw[Emb.D6] at h3;cases h3;omega
  ·simp only[hk,Ag] at h1;rw[Emb.Gm φ l hk] at h3;exact⟨c,y,m,h1,h2,h3,rfl⟩
 new c m h1 h2 h3:=by
  by_cases hk:b=c;·subst hk;rw[Emb.D6] at h2;cases h2;omega
  ·rw[Emb.Gm φ l hk,h1] at h2;cases h2
 os:=ho
theorem D1 (h:Heap) (b:Key) (x:Option Blk):(h.upd b x).get=λk=>if b=k then x else h.get k:=by funext k;exact Tr.D1 x h.mem b k
theorem Gt (h:Heap) (x:Blk):(h.Fu x).get=λk=>if h.next=k then some x else h.get k:=by funext k;exact Tr.D1 (some x) h.mem h.next k
theorem Xg (l:EB) (i:Nat) (hi:i<l.length):(Tr.z.G8 0 l).get (kn i)=some l[i]:=by rw[Tr.Ge];simp[hi]
theorem Wl.ofList {φ:Emb} {l:EB} {vs:List Value} (h:A1 (Fx φ) l vs) (rest:List Value) (r:Nat) (e:TypeId) (fr:Nat×Nat) (own:Bool) (hf:own=true->fr=(0,0)) :
  Wl φ ⟨r,0,(vs++rest).length⟩ own (Body.ofList l) (.cells (vs++rest).toArray e fr):=by have hl:=A5 h;refine⟨_,e,fr,rfl,Ac,by simp[hl],hf,λi hi=>?_⟩;obtain⟨v,hv,hr⟩:=D3 h i (a:=l[i]) (by simp[hi]);refine⟨l[i],v,Xg l i hi,?_,hr⟩;have:i<vs.length:=Aa;simp[Ai this,hv]
theorem Rv (c:Tr SV):∀(n o:Nat) (ls:EB),Nv c o n=some ls->ls.length=n/\∀j,j<n->c.get (kn (o+j))=ls[j]?
 |0,o,ls,h=>by simp[Nv] at h;subst h;simp
 |n+1,o,ls,h=>by
  simp only[Nv] at h;cases h1:c.get (kn o) with
  |none=>simp[h1] at h
  |some v=>
   rw[h1] at h;cases h2:Nv c (o+1) n with
   |none=>simp[h2] at h
   |some l=>
    simp[h2] at h;subst h;obtain⟨hl,hg⟩:=Rv c n (o+1) l h2;refine⟨by simp[hl],λj hj=>?_⟩;cases j with
    |zero=>simpa using h1
    |succ j=>simpa[show o+(j+1)=o+1+j from Aa] using hg j Aa
theorem Jp (r o j:Nat):(⟨r,o,none⟩:Addr).add j=⟨r,o+j,none⟩:=by unfold Addr.add;split<;>simp_all
theorem fQ {h:Heap} {b:Key} {c:Tr SV} {m:Nat} (e:h.cells b=some (c,m)):∃own anc,h.get b=some ⟨.cells c m,own,anc⟩:=by
 unfold Heap.cells at e;split at e;·next c' n' own anc hg=>cases e;exact⟨own,anc,hg⟩
 ·cases e
theorem aT (h:Heap) (b:Key) (o:Nat):h.read b o 0=some []:=by simp[Heap.read]
theorem Sim.read {φ:Emb} {h:Heap} {nx:Nat} {w:World} (s:Sim φ h.get nx w) {b:Key} {l:Loc} (hφ:φ b=some l) {o n:Nat} {ls:EB} (hr:h.read b o n=some ls) :
  ls.length=n/\∃vs,A1 (Fx φ) ls vs/\∀j v,vs[j]?=some v->w.cell? ((⟨l.blk,o+l.off,none⟩:Addr).add j)=some v:=by
 unfold Heap.read at hr;split at hr;·next h0=>cases hr;subst h0;exact⟨rfl,[],.nil,Ac⟩
 ·split at hr
  ·next c m hc=>
   split at hr
   ·next hle=>
    obtain⟨own,anc,hg⟩:=fQ hc;obtain⟨hl,hread⟩:=Rv c n o ls hr;obtain⟨ob,hw,arr,e,fr,rfl,hs,hm,_,hcell⟩:=s.blk b _ l hg hφ;refine⟨hl,(List.range n).map (λj=>arr.getD (l.off+(o+j)) undef),?_,?_⟩
    ·refine L4 (by simp[hl]) λi a ha=>?_;have hi:i<n:=by rw[<-hl];exact(Gi.1 ha).1
     obtain⟨sv,v,h1,h2,h3⟩:=hcell (o+i) Aa;rw[hread i hi,ha] at h1;cases h1;exact⟨v,by simp[hi,h2],h3⟩
    ·intro j v hj;have hj':j<n:=by have:=(Gi.1 hj).1;simpa using this
     simp[hj'] at hj;obtain⟨sv,v',_,h2,_⟩:=hcell (o+j) Aa;rw[Jp];simp only[World.cell?,hw];rw[show o+l.off+j=l.off+(o+j) from Aa];rw[h2] at hj ⊢;simp at hj;simp[hj]
   ·cases hr
  ·cases hr
theorem H7:∀(anc:ED) (h:Heap) (k:Key),(h.E3 anc).get k=if k∈anc then none else h.get k
 |[],h,k=>by simp[Heap.E3]
 |b::l,h,k=>by
  rw[Heap.E3,H7 l];by_cases h1:k∈l;·simp[h1]
  ·simp only[h1,Ag,Af,AP];rw[D1];by_cases h2:b=k;·simp[h2]
   ·simp[h2,BL h2]
theorem Gc:∀(anc:ED) (h:Heap),(h.E3 anc).next=h.next
 |[],_=>rfl
 |_::l,h=>by rw[Heap.E3,Gc l];rfl
def over (arr:Array Value) (p:Nat) (vs:List Value):Array Value:=(arr.toList.take p++vs++arr.toList.drop (p+vs.length)).toArray
theorem Ks (arr:Array Value) (p:Nat) (vs:List Value) (h:p+vs.length<=arr.size):(over arr p vs).size=arr.size:=by simp[over];omega
theorem Y3 (arr:Array Value) (p:Nat) (vs:List Value) (h:p+vs.length<=arr.size) (i:Nat) (hi:i<vs.length):(over arr p vs)[p+i]?=vs[i]?:=by
 have hp:(arr.toList.take p).length=p:=by simp;omega
 simp only[over,Bn,AN];rw[Am Aa,hp,show p+i-p=i from Aa,Ai hi]
theorem Qt (arr:Array Value) (p:Nat) (vs:List Value) (h:p+vs.length<=arr.size) (i:Nat) (hi:i<p∨p+vs.length<=i):(over arr p vs)[i]?=arr[i]?:=by
 have hp:(arr.toList.take p).length=p:=by simp;omega
 simp only[over,Bn,AN];rcases hi with hi|hi
 ·rw[Ai Aa,AT];simp[hi]
 ·rw[Am Aa,hp,Am Aa,BF];rw[show p+vs.length+(i-p-vs.length)=i from Aa];simp
theorem setRow_os (w:World) (b:Nat) (c:Array Value):(w.setRow b c).os=w.os/\(w.setRow b c).output=w.output:=by unfold World.setRow;first|exact⟨rfl,rfl⟩|(split<;>exact⟨rfl,rfl⟩)
theorem Sim.wrote {φ:Emb} {g:Mem} {nx:Nat} {w:World} (s:Sim φ g nx w) {b:Key} {l:Loc} (hφ:φ b=some l) {c:Tr SV} {m:Nat} {anc:ED}
  (hg:g b=some ⟨.cells c m,true,anc⟩) {o:Nat} {ls:EB} {vs:List Value} (hv:A1 (Fx φ) ls vs) (hle:o+ls.length<=m)
  {g':Mem} (hb:g' b=some ⟨.cells (c.G8 o ls) m,true,[]⟩) (hk:∀k x,k≠b->g' k=some x->g k=some x/\k∉anc) :
  ∃arr e,w.heap[l.blk]?=some (.cells arr e (0,0))/\o+l.off+vs.length<=arr.size /\
   Sim φ g' nx (w.setRow l.blk (over arr (o+l.off) vs))/\∀lo,Ext φ g lo w φ g' lo (w.setRow l.blk (over arr (o+l.off) vs)):=by
 have hlen:=A5 hv;obtain⟨ob,hw,arr,e,fr,rfl,hs,hm,hf,hcell⟩:=s.blk b _ l hg hφ;have hfr:fr=(0,0):=hf rfl;subst hfr;have hfit:o+l.off+vs.length<=arr.size:=by have:l.off+m<=arr.size:=hm;omega
 have hother:∀k x lk,k≠b->g' k=some x->φ k=some lk->lk.blk≠l.blk:=λk x lk hne h1 h2 h3=>by obtain⟨h4,h5⟩:=hk k x hne h1;exact h5 (s.sep b _ l k x lk hg hφ h4 h2 h3.symm (BL hne) rfl).1
 refine⟨arr,e,hw,hfit,⟨λk x lk h1 h2=>?_,λk x lk k' x' lk' h1 h2 h3 h4 h5 h6 h7=>?_,s.fresh⟩,λlo=>⟨Le.refl φ,λ_ h _=>h,Rl,Ac,λr ob hr hn=>?_,λk x lk h1 h2 h3 _=>?_,λk lk h1 h2 _=>(by rw[h1] at h2;cases h2),setRow_os _ _ _⟩⟩
 ·by_cases hkb:k=b
  ·subst hkb;rw[hφ] at h2;cases h2;rw[hb] at h1;cases h1;refine⟨_,setRow_heap w l.blk arr _ e (0,0) hw,over arr (o+l.off) vs,e,(0,0),rfl,by rw[Ks _ _ _ hfit];exact hs,by rw[Ks _ _ _ hfit];exact hm,λ_=>rfl,λi hi=>?_⟩;by_cases hin:o<=i/\i<o+ls.length
   ·obtain⟨j,rfl⟩:∃j,i=o+j:=⟨i-o,Aa⟩;have hj:j<ls.length:=Aa;obtain⟨v,hv1,hv2⟩:=D3 hv j (a:=ls[j]) (by simp[hj]);refine⟨ls[j],v,?_,?_,hv2⟩;·rw[Tr.Ge,Aj ⟨Aa,Aa⟩,show o+j-o=j from Aa];simp[hj]
    ·rw[show l.off+(o+j)=(o+l.off)+j from Aa,Y3 _ _ _ hfit j Aa];exact hv1
   ·obtain⟨sv,v,h3,h4,h5⟩:=hcell i hi;refine⟨sv,v,?_,?_,h5⟩;·rw[Tr.Ge,Ao hin];exact h3
    ·rw[Qt _ _ _ hfit _ Aa];exact h4
  ·have hne:=hother k x lk hkb h1 h2;obtain⟨h3,_⟩:=hk k x hkb h1;obtain⟨o',ho',hr'⟩:=s.blk k x lk h3 h2;exact⟨o',by rw[setRow_other w l.blk lk.blk _ hne];exact ho',hr'⟩
 ·by_cases hkb:k=b;·subst hkb;rw[hφ] at h2;cases h2;exact absurd h5.symm (hother k' x' lk' (BL h6) h3 h4)
  ·by_cases hkb':k'=b;·subst hkb';rw[hφ] at h4;cases h4;exact absurd h5 (hother k x lk hkb h1 h2)
   ·exact s.sep k x lk k' x' lk' (hk k x hkb h1).1 h2 (hk k' x' hkb' h3).1 h4 h5 h6 h7
 ·have hne:r≠l.blk:=λe'=>hn b _ l hg rfl hφ e'.symm;rw[setRow_other w l.blk r _ hne];exact hr
 ·by_cases hkb:k=b;·subst hkb;exact⟨k,_,l,hg,rfl,hφ,by rw[hφ] at h3;cases h3;rfl⟩
  ·exact⟨k,x,lk,(hk k x hkb h1).1,h2,h3,rfl⟩
theorem xS {h h':Heap} {b:Key} {o:Nat} {ls:EB} (e:h.write b o ls=some h') :
  ∃c m anc,h.get b=some ⟨.cells c m,true,anc⟩/\o+ls.length<=m/\h'.next=h.next /\
   h'.get b=some ⟨.cells (c.G8 o ls) m,true,[]⟩/\∀k x,k≠b->h'.get k=some x->h.get k=some x/\k∉anc:=by
 unfold Heap.write at e;split at e
 ·next c m anc hg=>
  split at e
  ·next hle=>
   cases e;refine⟨c,m,anc,hg,hle,by simp[Heap.upd,Gc],by rw[D1];simp,λk x hne hx=>?_⟩;rw[D1] at hx;simp only[BL hne,Ag] at hx;rw[H7] at hx;split at hx;·cases hx
   ·next hn=>exact⟨hx,hn⟩
  ·cases e
 ·cases e
theorem Sim.write {φ:Emb} {h h':Heap} {nx:Nat} {w:World} (s:Sim φ h.get nx w) {b:Key} {l:Loc} (hφ:φ b=some l) {o:Nat} {ls:EB} {vs:List Value}
  (hv:A1 (Fx φ) ls vs) (e:h.write b o ls=some h') :
  ∃arr t,w.heap[l.blk]?=some (.cells arr t (0,0))/\o+l.off+vs.length<=arr.size/\h'.next=h.next /\
   Sim φ h'.get nx (w.setRow l.blk (over arr (o+l.off) vs))/\∀lo,Ext φ h.get lo w φ h'.get lo (w.setRow l.blk (over arr (o+l.off) vs)):=by obtain⟨c,m,anc,hg,hle,hn,hb,hk⟩:=xS e;obtain⟨arr,t,h1,h2,h3,h4⟩:=s.wrote hφ hg hv hle hb hk;exact⟨arr,t,h1,h2,hn,h3,h4⟩
theorem Mw {c:Tr SV} {m o k:Nat} {new:EB} {body:Body} (e:Heap.copied c m o k new=some body) :
  o+k<=m/\∃c',body=.cells c' (k+new.length)/\(∀i,i<k->c'.get (kn i)=c.get (kn (o+i)))/\∀i,i<new.length->c'.get (kn (k+i))=new[i]?:=by
 unfold Heap.copied at e;split at e
 ·next hle=>
  refine⟨hle,?_⟩;split at e
  ·next h0=>
   cases e;subst h0;refine⟨_,rfl,λi hi=>?_,λi hi=>?_⟩;·rw[Tr.Ge,Ao Aa];simp
   ·rw[Tr.Ge,Aj ⟨Aa,Aa⟩,show k+i-k=i from Aa]
  ·split at e
   ·next old hr=>
    cases e;obtain⟨hl,hg⟩:=Rv c k o old hr;refine⟨Tr.z.G8 0 (old++new),by simp[Body.ofList,hl],λi hi=>?_,λi hi=>?_⟩;·rw[Tr.Ge,Aj ⟨Aa,by simp;omega⟩,hg i hi];simp only[CP];rw[Ai Aa]
    ·rw[Tr.Ge,Aj ⟨Aa,by simp;omega⟩];simp only[CP];rw[Am Aa,hl,show k+i-k=i from Aa]
   ·cases e
 ·cases e
theorem Vr {h h':Heap} {b b':Key} {o k:Nat} {new:EB} (e:h.grow b o k new=some (b',h')) :
  ∃c m anc body anc' g1,h.get b=some ⟨.cells c m,true,anc⟩/\Heap.copied c m o k new=some body/\b'=h.next/\h'.next=h.next.succ /\
   (h'.get=λj=>if h.next=j then some ⟨body,true,anc'⟩ else g1 j) /\
   ((o+k=m/\anc'=b::anc/\g1=λj=>if b=j then some ⟨.cells c m,false,anc⟩ else h.get j) ∨
    (o+k≠m/\anc'=[]/\g1=λj=>if j=b∨j∈anc then none else h.get j)):=by
 unfold Heap.grow at e;split at e
 ·next c m anc hg=>
  split at e
  ·next body hc=>
   split at e
   ·next hm=>
    cases e;refine⟨c,m,anc,body,b::anc,_,hg,hc,rfl,rfl,?_,.inl ⟨hm,rfl,rfl⟩⟩;rw[Gt,D1];rfl
   ·next hm=>
    cases e;refine⟨c,m,anc,body,[],_,hg,hc,rfl,by simp[Heap.Fu,Heap.upd,Gc],?_,.inr ⟨hm,rfl,rfl⟩⟩;rw[Gt,D1];funext j;have hn:((h.E3 anc).upd b none).next=h.next:=by simp[Heap.upd,Gc]
    rw[hn];by_cases h1:h.next=j;·simp[h1]
    ·simp only[h1,Ag];by_cases h2:b=j;·simp[h2]
     ·simp only[h2,Ag,BL h2,false_or];rw[H7]
  ·cases e
 ·cases e
theorem Sim.sV {φ:Emb} {h:Heap} {nx:Nat} {w:World} (s:Sim φ h.get nx w) {b:Key} {c:Tr SV} {m:Nat} {anc:ED} {P Q:Prop} {anc':ED} {g1:Mem} (hg:h.get b=some ⟨.cells c m,true,anc⟩)
  (hg1:(P/\anc'=b::anc/\g1=λj=>if b=j then some ⟨.cells c m,false,anc⟩ else h.get j)∨(Q/\anc'=[]/\g1=λj=>if j=b∨j∈anc then none else h.get j)):Sim φ g1 nx w:=by
 refine s.less λk x hx=>?_;rcases hg1 with⟨_,_,rfl⟩|⟨_,_,rfl⟩
 ·by_cases hk:b=k;·simp only[hk,Ak] at hx;cases hx;exact⟨⟨.cells c m,true,anc⟩,by rw[<-hk];exact hg,rfl,rfl,Ac⟩
  ·simp only[hk,Ag] at hx;exact⟨x,hx,rfl,rfl,id⟩
 ·simp only at hx;split at hx;·cases hx
  ·exact⟨x,hx,rfl,rfl,id⟩
theorem Sim.sW {φ:Emb} {h h':Heap} {nx nx':Nat} {w:World} (s:Sim φ h.get nx w) (hb:φ h.next=none) (hnx:nx<=nx') (hlt:h.next.toNat<nx') {b b':Key} {o k:Nat} {new:EB}
  (e:h.grow b o k new=some (b',h')) {l:Loc} (hφ:k=0∨φ b=some l) {vs:List Value} (hv:A1 (Fx φ) new vs) :
  b'=h.next/\h'.next=h.next.succ/\∃olds:List Value,olds.length=k/\(∀j v,olds[j]?=some v->w.cell? ((⟨l.blk,o+l.off,none⟩:Addr).add j)=some v) /\
   ∀(w':World) (rest:List Value) (t:TypeId),w'.heap=w.heap.push (.cells (olds++vs++rest).toArray t (0,0))->(w'.os=w.os/\w'.output=w.output) ->
    Sim (φ.set h.next ⟨w.heap.size,0,(olds++vs++rest).length⟩) h'.get nx' w' /\
    Ext φ h.get h.next.toNat w (φ.set h.next ⟨w.heap.size,0,(olds++vs++rest).length⟩) h'.get (h.next.toNat+1) w':=by
 obtain⟨c,m,anc,body,anc',g1,hg,hc,rfl,hn,hget,hg1⟩:=Vr e;obtain⟨hle,c',rfl,hc1,hc2⟩:=Mw hc;have hlen:=A5 hv;have s1:Sim φ g1 nx w:=s.sV hg hg1;have hold:∃olds:List Value,olds.length=k/\(∀j v,olds[j]?=some v->w.cell? ((⟨l.blk,o+l.off,none⟩:Addr).add j)=some v) /\
   ∀i,i<k->∃sv v,c'.get (kn i)=some sv/\olds[i]?=some v/\Fx φ sv v:=by
  rcases hφ with rfl|hφ
  ·exact⟨[],rfl,Ac,Aa⟩
  ·obtain⟨ob,hw,arr,t,fr,rfl,hs,hm,_,hcell⟩:=s.blk b _ l hg hφ
   refine⟨(List.range k).map (λj=>arr.getD (l.off+(o+j)) undef),Ac,λj v hj=>?_,λi hi=>?_⟩
   ·have hj':j<k:=by
     have:=(Gi.1 hj).1
     simpa using this
    simp[hj'] at hj
    obtain⟨sv,v',_,h2,_⟩:=hcell (o+j) Aa
    rw[Jp]
    simp only[World.cell?,hw]
    rw[show o+l.off+j=l.off+(o+j) from Aa]
    rw[h2] at hj ⊢
    simp at hj
    simp[hj]
   ·obtain⟨sv,v,h1,h2,h3⟩:=hcell (o+i) Aa
    exact⟨sv,v,by rw[hc1 i hi];exact h1,by simp[hi,h2],h3⟩
 obtain⟨olds,hol,hoc,hor⟩:=hold;refine⟨rfl,hn,olds,hol,hoc,λw' rest t hw' ho'=>?_⟩;rw[hget];refine⟨s1.push hb nx' hnx hlt ⟨.cells c' (k+new.length),true,anc'⟩ _ rfl hw' ⟨_,t,(0,0),rfl,Ac,by simp;omega,λ_=>rfl,λi hi=>?_⟩,?_⟩
 ·have hle':=Emb.T2 (φ:=φ) ⟨w.heap.size,0,(olds++vs++rest).length⟩ hb;by_cases hik:i<k;·obtain⟨sv,v,h1,h2,h3⟩:=hor i hik;refine⟨sv,v,h1,?_,h3.mono hle'⟩;simp only[Bn,AO];rw[AN,Ai Aa];exact h2
  ·obtain⟨j,rfl⟩:∃j,i=k+j:=⟨i-k,Aa⟩;have hj:j<new.length:=Aa;obtain⟨v,h1,h2⟩:=D3 hv j (a:=new[j]) (by simp[hj]);refine⟨new[j],v,by rw[hc2 j hj];simp[hj],?_,h2.mono hle'⟩;simp only[Bn,AO];rw[AN,Am Aa,hol,show k+j-k=j from Aa,Ai Aa];exact h1
 ·have x1:=Ext.push (φ:=φ) (g:=g1) (w:=w) (w':=w') (b:=h.next) hb ⟨.cells c' (k+new.length),true,anc'⟩ ⟨w.heap.size,0,(olds++vs++rest).length⟩ rfl hw' ho';refine⟨x1.le,x1.only,x1.nx,x1.size,λr ob hr hnr=>?_,λk1 x1' l1 h1 h2 h3 h4=>?_,λk1 l1 h1 h2 h3=>?_,ho'⟩;·have:r<w.heap.size:=(AE.1 hr).1;rw[hw',DS];simp[Nat.ne_of_lt this,hr]
  ·obtain⟨b0,x0,l0,f1,f2,f3,f4⟩:=x1.own k1 x1' l1 h1 h2 h3 h4;rcases hg1 with⟨_,_,rfl⟩|⟨_,_,rfl⟩
   ·by_cases hk:b=b0;·simp only[hk,Ak] at f1;cases f1;cases f2
    ·simp only[hk,Ag] at f1;exact⟨b0,x0,l0,f1,f2,f3,f4⟩
   ·simp only at f1;split at f1;·cases f1
    ·exact⟨b0,x0,l0,f1,f2,f3,f4⟩
  ·obtain⟨b0,x0,l0,f1,f2,f3,f4⟩:=x1.new k1 l1 h1 h2 h3;rcases hg1 with⟨_,_,rfl⟩|⟨_,_,rfl⟩
   ·by_cases hk:b=b0;·simp only[hk,Ak] at f1;cases f1;cases f2
    ·simp only[hk,Ag] at f1;exact⟨b0,x0,l0,f1,f2,f3,f4⟩
   ·simp only at f1;split at f1;·cases f1
    ·exact⟨b0,x0,l0,f1,f2,f3,f4⟩
theorem Sim.FZ {φ:Emb} {h h':Heap} {nx nx':Nat} {w:World} (s:Sim φ h.get nx w) (hb:φ h.next=none) (hnx:nx<=nx') (hlt:h.next.toNat<nx') {b b':Key} {o k:Nat} {new:EB}
  (e:h.grow b o k new=some (b',h')) {l:Loc} (hφ:φ b=some l) {vs:List Value} (hv:A1 (Fx φ) new vs) (hfit:o+l.off+k+vs.length<=l.tot) :
  b'=h.next/\h'.next=h.next.succ/\∃arr t,w.heap[l.blk]?=some (.cells arr t (0,0))/\o+l.off+k+vs.length<=arr.size /\
    Sim (φ.set h.next ⟨l.blk,o+l.off,l.tot⟩) h'.get nx' (w.setRow l.blk (over arr (o+l.off+k) vs)) /\
    Ext φ h.get h.next.toNat w (φ.set h.next ⟨l.blk,o+l.off,l.tot⟩) h'.get (h.next.toNat+1) (w.setRow l.blk (over arr (o+l.off+k) vs)):=by
 obtain⟨c,m,anc,body,anc',g1,hg,hc,rfl,hn,hget,hg1⟩:=Vr e;obtain⟨hle,c',rfl,hc1,hc2⟩:=Mw hc;have hlen:=A5 hv;have s1:Sim φ g1 nx w:=s.sV hg hg1;obtain⟨ob,hw,arr,t,fr,rfl,hs,hm,hf,hcell⟩:=s.blk b _ l hg hφ;have hfr:fr=(0,0):=hf rfl;subst hfr;have hfit':o+l.off+k+vs.length<=arr.size:=by rw[hs];exact hfit
 have hne:h.next≠b:=λe'=>by rw[e'] at hb;rw[hb] at hφ;cases hφ
 have hle':=Emb.T2 (φ:=φ) ⟨l.blk,o+l.off,l.tot⟩ hb;have share:∀j x lj,g1 j=some x->φ j=some lj->lj.blk=l.blk->j∈anc'/\lj.off+x.body.size<=o+l.off+k/\x.own=false/\(o+k=m):=λj x lj h1 h2 h3=>by
  rcases hg1 with⟨hm',rfl,rfl⟩|⟨hm',rfl,rfl⟩
  ·by_cases hj:b=j;·subst hj;simp only[Ak] at h1;cases h1;rw[hφ] at h2;cases h2;exact⟨Ac,by simp[Body.size];omega,rfl,hm'⟩
   ·simp only[hj,Ag] at h1;have hsep:=s.sep b _ l j x lj hg hφ h1 h2 h3.symm hj rfl;refine⟨by simp[hsep.1],?_,hsep.2.2,hm'⟩;have h9:=hsep.2.1;change lj.off+x.body.size<=l.off+m at h9;omega
  ·simp only at h1;split at h1;·cases h1
   ·next hj=>
    have hsep:=s.sep b _ l j x lj hg hφ h1 h2 h3.symm (λe'=>hj (.inl e'.symm)) rfl;exact absurd (.inr hsep.1) hj
 refine⟨rfl,hn,arr,t,hw,hfit',⟨λj x lj h1 h2=>?_,λj x lj j' x' lj' h1 h2 h3 h4 h5 h6 h7=>?_,λj hj=>?_⟩,⟨hle',λj hj hr=>?_,Aa,Ac,λr ob hr hnr=>?_,λj x lj h1 h2 h3 h4=>?_,λj lj h1 h2 h3=>?_,setRow_os _ _ _⟩⟩
 ·rw[hget] at h1;by_cases hj:h.next=j
  ·subst hj;simp only[Ak] at h1;cases h1;rw[Emb.D6] at h2;cases h2;refine⟨_,setRow_heap w l.blk arr _ t (0,0) hw,over arr (o+l.off+k) vs,t,(0,0),rfl,by rw[Ks _ _ _ hfit'];exact hs,by rw[Ks _ _ _ hfit'];simp;omega,λ_=>rfl,λi hi=>?_⟩;by_cases hik:i<k;·obtain⟨sv,v,h1,h2,h3⟩:=hcell (o+i) Aa;refine⟨sv,v,by rw[hc1 i hik];exact h1,?_,h3.mono hle'⟩;simp only;rw[Qt _ _ _ hfit' _ Aa,show o+l.off+i=l.off+(o+i) from Aa];exact h2
   ·obtain⟨q,rfl⟩:∃q,i=k+q:=⟨i-k,Aa⟩;have hq:q<new.length:=Aa;obtain⟨v,h1,h2⟩:=D3 hv q (a:=new[q]) (by simp[hq]);refine⟨new[q],v,by rw[hc2 q hq];simp[hq],?_,h2.mono hle'⟩;simp only;rw[show o+l.off+(k+q)=o+l.off+k+q from Aa,Y3 _ _ _ hfit' q Aa];exact h1
  ·simp only[hj,Ag] at h1;rw[Emb.Gm φ _ hj] at h2;obtain⟨ob,ho,hr⟩:=s1.blk j x lj h1 h2;by_cases hbl:lj.blk=l.blk
   ·obtain⟨_,hend,hown,_⟩:=share j x lj h1 h2 hbl;rw[hbl,hw] at ho;cases ho;cases hbody:x.body with
    |cells cx mx=>rw[hbody] at hr hend;obtain⟨NF,t2,fr2,he2,hs2,hm2,hf2,hc2'⟩:=hr;cases he2;refine⟨_,hbl▸setRow_heap w l.blk arr _ t (0,0) hw,over arr (o+l.off+k) vs,t,(0,0),rfl,by rw[Ks _ _ _ hfit'];exact hs2,by rw[Ks _ _ _ hfit'];exact hm2,λ_=>rfl,λi hi=>?_⟩;obtain⟨sv,v,g1',g2',g3'⟩:=hc2' i hi;refine⟨sv,v,g1',?_,g3'.mono hle'⟩;rw[Qt _ _ _ hfit' _ (by simp only[Body.size] at hend;omega)];exact g2'
    |map es=>rw[hbody] at hr;obtain⟨_,he,_⟩:=hr;cases he
    |iter a1 a2 a3=>rw[hbody] at hr;obtain⟨_,_,_,he⟩:=hr;cases he
    |lP a1 a2=>rw[hbody] at hr;obtain⟨_,he⟩:=hr;cases he
   ·exact⟨ob,by rw[setRow_other w l.blk lj.blk _ hbl];exact ho,hr.mono hle'⟩
 ·rw[hget] at h1 h3;by_cases hj:h.next=j;·subst hj;simp only[Ak] at h1;cases h1;rw[Emb.D6] at h2;cases h2;simp only[h6,Ag] at h3;rw[Emb.Gm φ _ h6] at h4;obtain⟨hm1,hm2,hm3,hm4⟩:=share j' x' lj' h3 h4 h5.symm;refine⟨hm1,?_,hm3⟩;change lj'.off+x'.body.size<=o+l.off+(k+new.length);omega
  ·simp only[hj,Ag] at h1;rw[Emb.Gm φ _ hj] at h2;by_cases hj':h.next=j';·subst hj';rw[Emb.D6] at h4;cases h4;have:=(share j x lj h1 h2 h5).2.2.1;rw[this] at h7;cases h7
   ·simp only[hj',Ag] at h3;rw[Emb.Gm φ _ hj'] at h4;exact s1.sep j x lj j' x' lj' h1 h2 h3 h4 h5 h6 h7
 ·rw[Emb.Gm φ _ (by rintro rfl;omega)];exact s.fresh j Aa
 ·rw[Emb.Gm φ _ (by rintro rfl;omega)];exact hj
 ·have hne':r≠l.blk:=λe'=>hnr b _ l hg rfl hφ e'.symm;rw[setRow_other w l.blk r _ hne'];exact hr
 ·rw[hget] at h1;by_cases hj:h.next=j;·subst hj;rw[Emb.D6] at h3;cases h3;exact⟨b,_,l,hg,rfl,hφ,rfl⟩
  ·simp only[hj,Ag] at h1;rw[Emb.Gm φ _ hj] at h3;rcases hg1 with⟨_,_,rfl⟩|⟨_,_,rfl⟩
   ·by_cases hk:b=j;·simp only[hk,Ak] at h1;cases h1;cases h2
    ·simp only[hk,Ag] at h1;exact⟨j,x,lj,h1,h2,h3,rfl⟩
   ·simp only at h1;split at h1;·cases h1
    ·exact⟨j,x,lj,h1,h2,h3,rfl⟩
 ·by_cases hj:h.next=j;·subst hj;rw[Emb.D6] at h2;cases h2;exact⟨b,_,l,hg,rfl,hφ,rfl⟩
  ·rw[Emb.Gm φ _ hj,h1] at h2;cases h2
def Aaw (P:Program) (ρ:Operand->Value) (o:Oper) (w:World) (v:Value) (w':World):Prop:=
 (execOp ρ o).run P w=.ok (.value v) w'∨((execOp ρ o).run P w=.ok .skip w'/\v=undef)
def Xh (P:Program) (op:Op) (vop:VOp) (xs:List Operand):Prop:=
 ∀(o:Oper),o.op=op->∀(φ:Emb) (h:Heap) (nx:Nat) (w:World) (ρ:Operand->Value) (args:EA) (v:AV) (h':Heap),
  vop.run args h=some (v,h')->Sim φ h.get nx w->φ h.next=none->A1 (Gr φ) args (xs.map ρ) ->
  ∃v' w',Aaw P ρ o w v' w'/\∃φ',(∀nx',nx<=nx'->h'.next.toNat<=nx'->Sim φ' h'.get nx' w')/\Ext φ h.get h.next.toNat w φ' h'.get h'.next.toNat w'/\Gr φ' v v'
def Ok (P:Program) (op:Op):Prop:=∀vop xs,cOp P op=some (.op vop,xs)->Xh P op vop xs
theorem Sim.up {φ:Emb} {g:Mem} {nx nx':Nat} {w:World} (s:Sim φ g nx w) (h:nx<=nx'):Sim φ g nx' w:=
 ⟨s.blk,s.sep,λb hb=>s.fresh b Aa⟩
theorem D9 {P:Program} {o:Oper} {φ:Emb} {h:Heap} {nx:Nat} {w:World} {ρ:Operand->Value} {v:AV} {v':Value} (s:Sim φ h.get nx w)
  (hd:(execOp ρ o).run P w=.ok (.value v') w) (hv:Gr φ v v') :
  ∃v' w',Aaw P ρ o w v' w'/\∃φ',(∀nx',nx<=nx'->h.next.toNat<=nx'->Sim φ' h.get nx' w')/\Ext φ h.get h.next.toNat w φ' h.get h.next.toNat w'/\Gr φ' v v':=
 ⟨v',w,.inl hd,φ,λ_ h1 _=>s.up h1,Ext.refl _ _ _ _,hv⟩
theorem O5 {φ:Emb} {a:AV} {x:Operand} {ρ:Operand->Value} (h:A1 (Gr φ) [a] ([x].map ρ)):Gr φ a (ρ x):=by
 cases h with
 |cons h t=>exact h
theorem fS {φ:Emb} {a b:AV} {x y:Operand} {ρ:Operand->Value} (h:A1 (Gr φ) [a,b] ([x,y].map ρ)):Gr φ a (ρ x)/\Gr φ b (ρ y):=by
 cases h with
 |cons h t=>exact⟨h,O5 t⟩
theorem arg3 {φ:Emb} {a b c:AV} {x y z:Operand} {ρ:Operand->Value} (h:A1 (Gr φ) [a,b,c] ([x,y,z].map ρ)):Gr φ a (ρ x)/\Gr φ b (ρ y)/\Gr φ c (ρ z):=by
 cases h with
 |cons h t=>exact⟨h,fS t⟩
section
variable {P:Program} {w:World}
theorem Oc {t:TypeId} {n:Nat} (h:Gv P t=some n):∃i,P.info? t=some i/\i.size=n:=by
 unfold Gv at h;cases hi:P.info? t with
 |none=>simp[hi] at h
 |some i=>simp[hi] at h;exact⟨i,rfl,h⟩
theorem T3 {t:TypeId} {n:Nat} (h:Ty P t=some n):∃i,P.info? t=some i/\i.bytes=n:=by
 unfold Ty at h;cases hi:P.info? t with
 |none=>simp[hi] at h
 |some i=>simp[hi] at h;exact⟨i,rfl,h⟩
theorem run_sizeOf {t:TypeId} {n:Nat} (h:Gv P t=some n):(sizeOf t).run P w=.ok n w:=by obtain⟨i,hi,rfl⟩:=Oc h;simp[sizeOf,typeInfo,hi]
theorem sX (op:BinOp) (t:TypeId) (x y:Operand) (k k':IntKind) (a b:Int):(eqGuard op t x y (.int k a) (.int k' b)).run P w=.ok () w:=by cases op<;>simp[eqGuard]
theorem fT (op:BinOp) (t:TypeId) (x y:Operand) (a b:ByteArray):(eqGuard op t x y (.string a) (.string b)).run P w=.ok () w:=by cases op<;>simp[eqGuard]
end
theorem UO (P:Program) (x:Operand):Ok P (.move x):=by
 intro vop xs hc;simp only[cOp,Sj,Pj,Ff.op.injEq] at hc;obtain⟨rfl,rfl⟩:=hc;intro o ho φ h nx w ρ args v h' hr s _ ha;obtain⟨dst,op,type,pos,after,guard⟩:=o;simp only at ho;subst ho;simp only[VOp.run] at hr;unfold MY at hr;split at hr;·cases hr;exact D9 (v':=ρ x) s (by simp[execOp]) (O5 ha)
 ·cases hr
theorem JN (P:Program) (x:Operand):Ok P (.assign x):=by
 intro vop xs hc;simp only[cOp,Sj,Pj,Ff.op.injEq] at hc;obtain⟨rfl,rfl⟩:=hc;intro o ho φ h nx w ρ args v h' hr s _ ha;obtain⟨dst,op,type,pos,after,guard⟩:=o;simp only at ho;subst ho;simp only[VOp.run] at hr;unfold MY at hr;split at hr;·cases hr;exact D9 (v':=ρ x) s (by simp[execOp]) (O5 ha)
 ·cases hr
theorem UP (P:Program) (c a b:Operand):Ok P (.pick c a b):=by
 intro vop xs hc;simp only[cOp,Sj,Pj,Ff.op.injEq] at hc;obtain⟨rfl,rfl⟩:=hc;intro o ho φ h nx w ρ args v h' hr s _ ha;obtain⟨dst,op,type,pos,after,guard⟩:=o;simp only at ho;subst ho;simp only[VOp.run] at hr;unfold FP at hr;split at hr
 ·next cb x y=>
  cases hr;obtain⟨r1,r2,r3⟩:=arg3 ha;have e1:ρ c=.bool cb:=r1;refine D9 (v':=if cb then ρ a else ρ b) s (by simp[execOp,e1,asBool]) ?_;cases cb;·exact r3
  ·exact r2
 ·cases hr
theorem sY (P:Program) (x:Operand):Ok P (.nilCheck x):=by
 intro vop xs hc;simp only[cOp,Sj,Pj,Ff.op.injEq] at hc;obtain⟨rfl,rfl⟩:=hc;intro o ho φ h nx w ρ args v h' hr s _ ha;obtain⟨dst,op,type,pos,after,guard⟩:=o;simp only at ho;subst ho;simp only[VOp.run] at hr;unfold eB at hr;split at hr;·cases hr;obtain⟨l,e1,e2⟩:=O5 ha;exact D9 (v':=ρ x) s (by rw[e2];simp[execOp,e2]) (O5 ha)
 ·cases hr;obtain⟨vs,us,e2,_,_⟩:=O5 ha;exact D9 (v':=ρ x) s (by rw[e2];simp[execOp,e2]) (O5 ha)
 ·cases hr
theorem NG {P:Program} {w:World} {φ:Emb} {u:UnOp} {x r:SV} {v:Value} (hr:UI u x=some r) (hv:Fx φ x v) :
  ∃v',(Op.unary u v).run P w=.ok v' w/\Fx φ r v':=by
 unfold UI at hr;split at hr;·next k n=>cases hr;cases hv;exact⟨_,by simp[Op.unary,Op.intArith],rfl⟩
 ·next k n=>cases hr;cases hv;exact⟨_,by simp[Op.unary,Op.intBits],rfl⟩
 ·next b=>cases hr;cases hv;exact⟨_,by simp[Op.unary],rfl⟩
 ·cases hr
theorem UQ (P:Program) (u:UnOp) (t:TypeId) (x:Operand):Ok P (.unOp u t x):=by
 intro vop xs hc;simp only[cOp,Sj,Pj,Ff.op.injEq] at hc;obtain⟨rfl,rfl⟩:=hc;intro o ho φ h nx w ρ args v h' hr s _ ha;obtain⟨dst,op,type,pos,after,guard⟩:=o;simp only at ho;subst ho;simp only[VOp.run] at hr;unfold rUn at hr;split at hr
 ·next y=>
  unfold Hs at hr;split at hr
  ·next r hu=>
   cases hr;obtain⟨v',h1,h2⟩:=NG (P:=P) (w:=w) hu (O5 ha);exact D9 (v':=v') s (by simp[execOp,h1]) h2
  ·cases hr
 ·cases hr
theorem JO {P:Program} {w:World} {φ:Emb} (b:BinOp) (t:TypeId) {k k':IntKind} {x y:Int} {r:SV}
  (hr:Ym b (.int k x) (.int k' y)=some r):∃v',(binOp b t (.int k x) (.int k' y)).run P w=.ok v' w/\Fx φ r v':=by
 simp only[Ym] at hr;split at hr
 ·next hs=>
  unfold fF at hr;split at hr;·cases hr
  ·next hy=>
   split at hr;·cases hr;exact⟨_,by simp[binOp,Op.shift,hy],rfl⟩
   ·cases hr;exact⟨_,by simp[binOp,Op.shift,hy],rfl⟩
   ·cases hr
 ·next hs=>
  split at hr
  ·next hk=>
   subst hk;unfold Rn at hr;split at hr;case h_4=>
    split at hr;·cases hr
    ·next hy=>cases hr;exact⟨_,by simp[binOp,Op.intDiv,hy],rfl⟩
   case h_5=>
    split at hr;·cases hr
    ·next hy=>cases hr;exact⟨_,by simp[binOp,Op.intDiv,hy],rfl⟩
   case h_16=>cases hr
   all_goals (cases hr;exact⟨_,by simp[binOp,Op.intArith,Op.intBits,Op.intCmp],rfl⟩)
  ·cases hr
def bs (l:EF):ByteArray:=⟨(l.map UInt8.ofNat).toArray⟩
theorem ofNat_toNat {n:Nat} (h:n<256):(UInt8.ofNat n).toNat=n:=by simp;omega
theorem ofNat_inj {a b:Nat} (ha:a<256) (hb:b<256) (e:UInt8.ofNat a=UInt8.ofNat b):a=b:=by
 have:=Bh UInt8.toNat e
 rwa [ofNat_toNat ha,ofNat_toNat hb] at this
theorem Wq:∀{l m:EF},(∀n∈l,n<256)->(∀n∈m,n<256)->l.map UInt8.ofNat=m.map UInt8.ofNat->l=m
 |[],[],_,_,_=>rfl
 |[],_::_,_,_,e=>by simp at e
 |_::_,[],_,_,e=>by simp at e
 |a::l,b::m,hl,hm,e=>by simp only[AG,BG] at e;rw[ofNat_inj (hl a Ac) (hm b Ac) e.1,Wq (λn h=>hl n (by simp[h])) (λn h=>hm n (by simp[h])) e.2]
theorem Nm (l:EF):(bs l).toList=l.map UInt8.ofNat:=by rw[ByteArray.toList_eq];rfl
section
variable {P:Program} {w:World} {φ:Emb}
def Kb (P:Program) (φ:Emb) (t:TypeId) (xs:EB) (v:Value):Prop:=
 (shapeOf P t=some none/\∃x,xs=[x]/\Fx φ x v)∨(∃n,shapeOf P t=some (some n)/\∃vs:List Value,v=.agg vs.toArray/\A1 (Fx φ) xs vs)
theorem Ni {t:TypeId} (h:shapeOf P t=some none):(isAgg t).run P w=.ok false w:=by
 unfold shapeOf at h;cases hd:P.underlying t with
 |none=>simp[hd] at h
 |some d=>cases hi:P.info? t with
  |none=>cases d<;>simp[hd,hi] at h
  |some i=>cases d<;>simp[hd,hi] at h<;>simp[isAgg,run_underlying hd]
theorem Nj {t:TypeId} {n:Nat} (h:shapeOf P t=some (some n)):(isAgg t).run P w=.ok true w/\Gv P t=some n:=by
 unfold shapeOf at h;split at h;·next fs i hd hi=>cases h;exact⟨by simp[isAgg,run_underlying hd],by simp[Gv,hi]⟩
 ·next n e i hd hi=>cases h;exact⟨by simp[isAgg,run_underlying hd],by simp[Gv,hi]⟩
 ·cases h
 ·cases h
theorem Mx:∀{ks:List Jk} {xs ys:EB} {r:Bool},Fc ks xs ys=some r->xs.length=ks.length/\ys.length=ks.length
 |[],[],[],_,_=>Ac
 |[],[],_::_,_,h=>by simp[Fc] at h
 |[],_::_,_,_,h=>by simp[Fc] at h
 |_::_,[],_,_,h=>by simp[Fc] at h
 |_::_,_::_,[],_,h=>by simp[Fc] at h
 |k::ks,x::xs,y::ys,r,h=>by
  simp only[Fc] at h;split at h
  ·split at h;·next q hq=>have:=Mx hq;simp[this]
   ·cases h
  ·cases h
theorem Qi:∀(l q:List Jk) {xs ys:EB} {r:Bool},Fc (l++q) xs ys=some r ->
  ∃r1 r2,Fc l (xs.take l.length) (ys.take l.length)=some r1/\Fc q (xs.drop l.length) (ys.drop l.length)=some r2/\r=(r1&&r2)
 |[],q,xs,ys,r,h=>⟨true,r,by simp[Fc],by simpa using h,Ac⟩
 |k::l,q,[],ys,r,h=>by simp[Fc] at h
 |k::l,q,x::xs,[],r,h=>by simp[Fc] at h
 |k::l,q,x::xs,y::ys,r,h=>by
  simp only[AH,Fc] at h;split at h
  ·next r0 h0=>
   split at h
   ·next q0 hq=>
    cases h;obtain⟨r1,r2,h1,h2,rfl⟩:=Qi l q hq;exact⟨r0&&r1,r2,by simp[Fc,h0,h1],by simpa using h2,by cases r0<;>simp⟩
   ·cases h
  ·cases h
theorem GA {a b:EF} (ha:∀n∈a,n<256) (hb:∀n∈b,n<256):(a.map UInt8.ofNat==b.map UInt8.ofNat)=(a==b):=by
 by_cases h:a=b;·subst h;simp
 ·have:a.map UInt8.ofNat≠b.map UInt8.ofNat:=λe=>h (Wq ha hb e);rw[beq_eq_false_iff_ne.2 this,beq_eq_false_iff_ne.2 h]
theorem JP {t:TypeId} {k:Jk} {x y:SV} {r:Bool} {vx vy:Value} (d:Nat) (ht:match k with|.bool=>P.underlying t=some .bool|.int=>∃i,P.underlying t=some (.int i)|.str=>P.underlying t=some .string)
  (h:aM k x y=some r) (hx:Fx φ x vx) (hy:Fx φ y vy):(Op.equalIn (d+1) t vx vy).run P w=.ok r w:=by
 unfold aM at h;split at h;·cases h;cases hx;cases hy;exact run_equalIn_bool' w d t _ _ ht
 ·split at h
  ·next hk=>
   subst hk;cases h;cases hx;cases hy;obtain⟨i,hi⟩:=ht;exact run_equalIn_int w d t _ i _ _ hi
  ·cases h
 ·cases h;obtain⟨ha,rfl⟩:=hx;obtain⟨hb,rfl⟩:=hy;rw[run_equalIn_string w d t _ _ ht];rw[show(⟨(_:List UInt8).toArray⟩:ByteArray).toList=_ from ByteArray.toList_mk _,show(⟨(_:List UInt8).toArray⟩:ByteArray).toList=_ from ByteArray.toList_mk _];rw[GA ha hb]
 ·cases h
theorem Acm {α:Type} (xs:List α) (i:Nat) (h:i<xs.length):(xs.drop i).take 1=[xs[i]]:=by have e:=Ax h;rw[e];rfl
theorem Vs {t:TypeId} {n off:Nat} {vs:List Value} {xs:EB} (hs:(shapeOf P t).isSome) (hn:Gv P t=some n) (hv:A1 (Fx φ) xs vs) (hle:off+n<=xs.length) (h1:shapeOf P t=some none->n=1) :
  ∃v,(part t vs.toArray off).run P w=.ok v w/\Kb P φ t ((xs.drop off).take n) v:=by
 have hl:=A5 hv;cases hsh:shapeOf P t with
 |none=>simp[hsh] at hs
 |some o=>cases o with
  |none=>
   have hn1:=h1 hsh
   subst hn1
   obtain⟨v,e1,e2⟩:=D3 hv off (a:=xs[off]) Ac
   refine⟨v,by simp[part,Ni hsh,e1],.inl ⟨hsh,xs[off],?_,e2⟩⟩
   exact Acm xs off Aa
  |some m=>
   obtain⟨ha,hm⟩:=Nj (w:=w) hsh
   rw[hn] at hm;cases hm
   refine⟨.agg ((vs.drop off).take n).toArray,?_,.inr ⟨n,hsh,_,rfl,Gs _ (Gh _ hv)⟩⟩
   simp only[part,Sem.run_bind,ha,Result.andThen_ok,Ak,run_sizeOf hn,Sem.run_pure]
   congr 2
   apply Db
   simp
theorem fU {lv:TypeId->Option (List Jk)} {D:Nat}
  (ih:∀(t:TypeId) (ks:List Jk),lv t=some ks->(shapeOf P t=some none->ks.length=1)/\∀(xs ys:EB) (vx vy:Value) (r:Bool),Fc ks xs ys=some r->Kb P φ t xs vx->Kb P φ t ys vy->(Op.equalIn D t vx vy).run P w=.ok r w) :
  ∀(fs:List Field) (off:Nat) (q:List Jk),Ru P lv fs off=some q->∀(xs ys:EB) (vx vy:List Value) (r:Bool),A1 (Fx φ) xs vx->A1 (Fx φ) ys vy ->
   Fc q (xs.drop off) (ys.drop off)=some r->off<=xs.length->off<=ys.length->(Op.eqFields D vx.toArray vy.toArray fs).run P w=.ok r w
 |[],off,q,h,xs,ys,vx,vy,r,hx,hy,he,_,_=>by simp only[Ru,Sj] at h;subst h;have:=Mx he;have e1:xs.drop off=[]:=BA this.1;have e2:ys.drop off=[]:=BA this.2;rw[e1,e2] at he;simp[Fc] at he;subst he;simp[Op.eqFields]
 |f::fs,off,q,h,xs,ys,vx,vy,r,hx,hy,he,ho1,ho2=>by
  simp only[Ru] at h;split at h
  ·next hc=>
   obtain⟨hname,hoff,hsh⟩:=hc;split at h
   ·next l hl=>
    split at h
    ·next hsz=>
     split at h
     ·next q' hq=>
      cases h;obtain⟨r1,r2,e1,e2,rfl⟩:=Qi l q' he;have hlen:=Mx e1;simp only[Ba,Cr] at hlen;obtain⟨hone,hih⟩:=ih f.type l hl;have hl1:off+l.length<=xs.length:=Aa;have hl2:off+l.length<=ys.length:=Aa;obtain⟨a,ha,hca⟩:=Vs (w:=w) (off:=off) hsh hsz hx hl1 hone;obtain⟨b,hb,hcb⟩:=Vs (w:=w) (off:=off) hsh hsz hy hl2 hone;have heq:=hih _ _ a b r1 e1 hca hcb;simp only[Op.eqFields,hname,ne_eq,not_false_eq_true,Ak,Sem.run_bind,hoff,ha,hb,Result.andThen_ok,heq];cases r1;·simp
      ·simp only[Dv,Fj,Ag,Bool.true_and];exact fU ih fs (off+l.length) q' hq xs ys vx vy r2 hx hy (by rw[<-De,<-De];exact e2) hl1 hl2
     ·cases h
    ·cases h
   ·cases h
  ·cases h
theorem sZ {t:TypeId} {D n:Nat} {l:List Jk} (hs:(shapeOf P t).isSome) (hn:Gv P t=some l.length)
  (h1:shapeOf P t=some none->l.length=1) (hih:∀(xs ys:EB) (vx vy:Value) (r:Bool),Fc l xs ys=some r->Kb P φ t xs vx->Kb P φ t ys vy->(Op.equalIn D t vx vy).run P w=.ok r w)
  (xs ys:EB) (vx vy:List Value) (hx:A1 (Fx φ) xs vx) (hy:A1 (Fx φ) ys vy) :
  ∀(m i:Nat) (r:Bool),i+m=n->Fc (sR l m) (xs.drop (i*l.length)) (ys.drop (i*l.length))=some r->i*l.length<=xs.length->i*l.length<=ys.length ->
  (forIn (m:=Sem) (List.range' i m) ((none,()):Option Bool×Unit) (λi _=>do
   let a<-part t vx.toArray (i*l.length)
   let b<-part t vy.toArray (i*l.length)
   let r<-Op.equalIn D t a b
   if(!r)=true then pure (ForInStep.done (some false,())) else pure (ForInStep.yield (none,())))).run P w =
   .ok (if r then(none,()) else(some false,())) w
 |0,i,r,_,he,_,_=>by simp only[sR] at he;have:=Mx he;have e1:xs.drop (i*l.length)=[]:=BA this.1;have e2:ys.drop (i*l.length)=[]:=BA this.2;rw[e1,e2] at he;simp[Fc] at he;subst he;simp
 |m+1,i,r,hi,he,ho1,ho2=>by
  simp only[sR] at he;obtain⟨r1,r2,e1,e2,rfl⟩:=Qi l _ he;have hlen:=Mx e1;simp only[Ba,Cr] at hlen;have hl1:i*l.length+l.length<=xs.length:=Aa;have hl2:i*l.length+l.length<=ys.length:=Aa;obtain⟨a,ha,hca⟩:=Vs (w:=w) (off:=i*l.length) hs hn hx hl1 h1;obtain⟨b,hb,hcb⟩:=Vs (w:=w) (off:=i*l.length) hs hn hy hl2 h1;have heq:=hih _ _ a b r1 e1 hca hcb;have hsucc:(i+1)*l.length=i*l.length+l.length:=by rw[Bg,Ce]
  simp only[List.range'_succ,List.forIn_cons,Sem.run_bind,ha,hb,Result.andThen_ok,heq];cases r1;·simp
  ·simp only[Dv,Fj,Ag,Sem.run_pure,Result.andThen_ok,Bool.true_and];exact sZ (n:=n) hs hn h1 hih xs ys vx vy hx hy m (i+1) r2 Aa (by rw[hsucc,<-De,<-De];exact e2) (by rw[hsucc];exact hl1) (by rw[hsucc];exact hl2)
theorem Kt:∀(d:Nat) (t:TypeId) (ks:List Jk),leaves P d t=some ks->(shapeOf P t=some none->ks.length=1) /\
  ∀(D:Nat),d<=D->∀(xs ys:EB) (vx vy:Value) (r:Bool),Fc ks xs ys=some r->Kb P φ t xs vx->Kb P φ t ys vy->(Op.equalIn D t vx vy).run P w=.ok r w
 |0,t,ks,h=>by simp[leaves] at h
 |d+1,t,ks,h=>by
  have scalar:∀(k:Jk),(∀n,shapeOf P t≠some (some n))->(match k with|.bool=>P.underlying t=some .bool|.int=>∃i,P.underlying t=some (.int i)|.str=>P.underlying t=some .string)->ks=[k] ->
    (shapeOf P t=some none->ks.length=1)/\∀(D:Nat),d+1<=D->∀(xs ys:EB) (vx vy:Value) (r:Bool),Fc ks xs ys=some r->Kb P φ t xs vx->Kb P φ t ys vy->(Op.equalIn D t vx vy).run P w=.ok r w:=by
   rintro k hno ht rfl
   refine⟨λ_=>rfl,λD hD xs ys vx vy r he hx hy=>?_⟩
   rcases hx with⟨_,x,rfl,hx⟩|⟨n,hn,_⟩
   ·rcases hy with⟨_,y,rfl,hy⟩|⟨n,hn,_⟩
    ·simp only[Fc] at he
     split at he
     ·next r0 h0=>
      simp at he;subst he
      obtain⟨D,rfl⟩:∃D',D=D'+1:=⟨D-1,Aa⟩
      exact JP D ht h0 hx hy
     ·cases he
    ·exact absurd hn (hno n)
   ·exact absurd hn (hno n)
  have noagg:(∀fs,P.underlying t≠some (.struct fs))->(∀n e,P.underlying t≠some (.array n e))->∀n,shapeOf P t≠some (some n):=λh1 h2 n hn=>by
   unfold shapeOf at hn;cases hd:P.underlying t with
   |none=>simp[hd] at hn
   |some dd=>cases hi:P.info? t with
    |none=>cases dd<;>simp[hd,hi] at hn
    |some i=>cases dd<;>simp[hd,hi] at hn<;>first|exact h1 _ hd|exact h2 _ _ hd
  simp only[leaves] at h;split at h;·next hu=>cases h;exact scalar .bool (noagg (by simp[hu]) (by simp[hu])) hu rfl
  ·next i hu=>cases h;exact scalar .int (noagg (by simp[hu]) (by simp[hu])) ⟨i,hu⟩ rfl
  ·next hu=>cases h;exact scalar .str (noagg (by simp[hu]) (by simp[hu])) hu rfl
  ·next fs hu=>
   split at h;·cases h
   ·next hst=>
    have hsh:shapeOf P t≠some none:=λe=>by unfold shapeOf at e;cases hi:P.info? t<;>simp[hu,hi] at e
    refine⟨λe=>absurd e hsh,λD hD xs ys vx vy r he hx hy=>?_⟩;rcases hx with⟨hn,_⟩|⟨n,_,vx,rfl,hx⟩
    ·exact absurd hn hsh
    ·rcases hy with⟨hn,_⟩|⟨n,_,vy,rfl,hy⟩;·exact absurd hn hsh
     ·obtain⟨D,rfl⟩:∃D',D=D'+1:=⟨D-1,Aa⟩;have hf:P.fieldsOf t=fs:=by simp[Program.fieldsOf,hu]
      rw[run_equalIn_struct w D t _ _ (by rw[hf];exact hu) (by simpa using hst),hf];exact fU (lv:=leaves P d) (D:=D) (λt' ks' h'=>⟨(Kt d t' ks' h').1,(Kt d t' ks' h').2 D Aa⟩) fs.toList 0 ks h xs ys vx vy r hx hy (by simpa using he) Aa Aa
  ·next n e hu=>
   split at h
   ·next hc=>
    split at h
    ·next l hl=>
     split at h
     ·next hsz=>
      cases h;have hsh:shapeOf P t≠some none:=λe=>by unfold shapeOf at e;cases hi:P.info? t<;>simp[hu,hi] at e
      refine⟨λe=>absurd e hsh,λD hD xs ys vx vy r he hx hy=>?_⟩;rcases hx with⟨hn,_⟩|⟨_,_,vx,rfl,hx⟩
      ·exact absurd hn hsh
      ·rcases hy with⟨hn,_⟩|⟨_,_,vy,rfl,hy⟩;·exact absurd hn hsh
       ·obtain⟨D,rfl⟩:∃D',D=D'+1:=⟨D-1,Aa⟩;obtain⟨hone,hih⟩:=Kt d e l hl;have hloop:=sZ (D:=D) (n:=n) hc.1 hsz hone (hih D Aa) xs ys vx vy hx hy n 0 r Aa (by simpa using he) Aa Aa;simp only[Op.equalIn,Sem.run_bind,run_underlying hu,Result.andThen_ok,run_sizeOf hsz];rw[Dc];simp only[Std.Legacy.Range.size,CP,Nat.add_one_sub_one,Nat.div_one];rw[hloop];cases r<;>simp
     ·cases h
    ·cases h
   ·cases h
  ·cases h
end
theorem Y4 (l:EF):(bs l).size=l.length:=by simp[bs,ByteArray.size]
theorem JQ (a b:EF):bs a++bs b=bs (a++b):=by apply ByteArray.ext;simp[bs,ByteArray.data_append]
theorem fW:∀{a b:EF},(∀n∈a,n<256)->(∀n∈b,n<256)->Op.bytesLess (a.map UInt8.ofNat) (b.map UInt8.ofNat)=Nc a b
 |_,[],_,_=>by simp[Op.bytesLess,Nc]
 |[],_::_,_,_=>by simp[Op.bytesLess,Nc]
 |x::a,y::b,ha,hb=>by
  have hx:=ha x Ac;have hy:=hb y Ac;have ih:=fW (a:=a) (b:=b) (λn h=>ha n (by simp[h])) (λn h=>hb n (by simp[h]));simp only[AG,Op.bytesLess,Nc,ih];have e1:decide (UInt8.ofNat x<UInt8.ofNat y)=Nat.blt x y:=by rw[Dw];simp only[Bk,UInt8.lt_iff_toNat_lt,ofNat_toNat hx,ofNat_toNat hy,Bs]
  have e2:(UInt8.ofNat x==UInt8.ofNat y)=Nat.beq x y:=by rw[Dw,beq_iff_eq,BQ];exact⟨λe=>ofNat_inj hx hy e,λe=>by rw[e]⟩
  rw[e1,e2]
theorem JR {P:Program} {w:World} {φ:Emb} (b:BinOp) (t:TypeId) {x y:EF} {r:SV} (hx:∀n∈x,n<256) (hy:∀n∈y,n<256)
  (hr:nX b x y=some r):∃v',(binOp b t (.string (bs x)) (.string (bs y))).run P w=.ok v' w/\Fx φ r v':=by
 have eq:(x.map UInt8.ofNat==y.map UInt8.ofNat)=(x==y):=GA hx hy;have lt:=fW hx hy;unfold nX at hr;split at hr
 ·split at hr
  ·next hl=>
   cases hr;have hn:¬(9223372036854775807<((x.length:Int)+(y.length:Int))):=Aa;refine⟨.string (bs (x++y)),?_,λn hn=>?_,rfl⟩;·simp[binOp,Op.stringOp,Y4,JQ,IntKind.max,IntKind.signed,IntKind.bits,hn]
   ·rcases Av.1 hn with h|h;·exact hx n h
    ·exact hy n h
  ·cases hr
 ·cases hr;exact⟨_,by simp[binOp,Op.stringOp,Nm,eq],rfl⟩
 ·cases hr;exact⟨_,by simp[binOp,Op.stringOp,Nm,eq],rfl⟩
 ·cases hr;exact⟨_,by simp[binOp,Op.stringOp,Nm,lt],rfl⟩
 ·cases hr;exact⟨_,by simp[binOp,Op.stringOp,Nm,lt,eq],rfl⟩
 ·cases hr;exact⟨_,by simp[binOp,Op.stringOp,Nm,lt,eq],rfl⟩
 ·cases hr;exact⟨_,by simp[binOp,Op.stringOp,Nm,lt],rfl⟩
 ·cases hr
theorem NH {P:Program} {w:World} {φ:Emb} (b:BinOp) (t:TypeId) (x y:Operand) {s1 s2 r:SV} {v1 v2:Value} (h1:Fx φ s1 v1) (h2:Fx φ s2 v2)
  (hr:Ym b s1 s2=some r):∃v',(do eqGuard b t x y v1 v2;binOp b t v1 v2).run P w=.ok v' w/\Fx φ r v':=by
 unfold Ym at hr;split at hr
 ·next k a k' c=>
  cases h1;cases h2;obtain⟨v',e1,e2⟩:=JO (P:=P) (w:=w) (φ:=φ) b t (k:=k) (k':=k') (x:=a) (y:=c) (r:=r) (by simpa[Ym] using hr);exact⟨v',by simp[sX,e1],e2⟩
 ·next a c=>
  obtain⟨ha,rfl⟩:=h1;obtain⟨hc,rfl⟩:=h2;obtain⟨v',e1,e2⟩:=JR (P:=P) (w:=w) (φ:=φ) b t ha hc hr;exact⟨v',by simp only[Sem.run_bind,fT,Result.andThen_ok];exact e1,e2⟩
 ·cases hr
theorem info_of_underlying {P:Program} {t:TypeId} {d:TypeDesc} (h:P.underlying t=some d):∃i,P.info? t=some i:=by
 unfold Program.underlying at h;cases hi:P.info? t with
 |none=>simp[hi] at h
 |some i=>exact⟨i,rfl⟩
theorem tB {P:Program} {t:TypeId} {k:EqK} (hk:fM P t=some k):match k with
  |.bool=>P.underlying t=some .bool
  |.ptr=>∃e,P.underlying t=some (.pointer e)
  |.slice=>∃e,P.underlying t=some (.slice e)
  |.map=>∃a b,P.underlying t=some (.map a b)
  |.func=>∃a b c,P.underlying t=some (.func a b c)
  |.agg ks=>P.eqGuardType P.depth t=false/\leaves P 20 t=some ks/\∃n,shapeOf P t=some (some n):=by
 unfold fM at hk
 split at hk
 ·next hu=>cases hk;exact hu
 ·next e hu=>cases hk;exact⟨e,hu⟩
 ·next e hu=>cases hk;exact⟨e,hu⟩
 ·next a b hu=>cases hk;exact⟨a,b,hu⟩
 ·next a b c hu=>cases hk;exact⟨a,b,c,hu⟩
 ·next fs hu=>
  split at hk
  ·cases hk
  ·next hg=>
   obtain⟨i,hi⟩:=info_of_underlying hu
   cases hl:leaves P 20 t with
   |none=>simp[hl] at hk
   |some ks=>simp[hl] at hk;subst hk;exact⟨by simpa using hg,rfl,i.size,by simp[shapeOf,hu,hi]⟩
 ·next n e hu=>
  split at hk
  ·cases hk
  ·next hg=>
   obtain⟨i,hi⟩:=info_of_underlying hu
   cases hl:leaves P 20 t with
   |none=>simp[hl] at hk
   |some ks=>simp[hl] at hk;subst hk;exact⟨by simpa using hg,rfl,i.size,by simp[shapeOf,hu,hi]⟩
 ·cases hk
section
variable {P:Program} (w:World) (d:Nat) (t:TypeId)
theorem tC (e:TypeId) (hu:P.underlying t=some (.pointer e)) (b:Option Addr):(Op.equalIn (d+1) t (.pointer none) (.pointer b)).run P w=.ok b.isNone w:=by simp[Op.equalIn,run_underlying hu]
theorem JS (e:TypeId) (hu:P.underlying t=some (.pointer e)) (a:Addr):(Op.equalIn (d+1) t (.pointer (some a)) (.pointer none)).run P w=.ok false w:=by simp[Op.equalIn,run_underlying hu]
theorem fX (e:TypeId) (hu:P.underlying t=some (.slice e)) (b:Option Addr) (n m n' m':Nat):(Op.equalIn (d+1) t (.slice none n m) (.slice b n' m')).run P w=.ok b.isNone w:=by simp[Op.equalIn,run_underlying hu]
theorem tG (e:TypeId) (hu:P.underlying t=some (.slice e)) (a:Addr) (n m n' m':Nat):(Op.equalIn (d+1) t (.slice (some a) n m) (.slice none n' m')).run P w=.ok false w:=by simp[Op.equalIn,run_underlying hu]
theorem tH (e e':TypeId) (hu:P.underlying t=some (.map e e')) (b:Option Nat):(Op.equalIn (d+1) t (.map none) (.map b)).run P w=.ok b.isNone w:=by simp[Op.equalIn,run_underlying hu]
theorem JT (e e':TypeId) (hu:P.underlying t=some (.map e e')) (a:Nat):(Op.equalIn (d+1) t (.map (some a)) (.map none)).run P w=.ok false w:=by simp[Op.equalIn,run_underlying hu]
theorem JU (e e':Array TypeId) (e'':Bool) (hu:P.underlying t=some (.func e e' e'')):(Op.equalIn (d+1) t .nilFunc .nilFunc).run P w=.ok true w:=by simp[Op.equalIn,run_underlying hu]
theorem xT (e e':Array TypeId) (e'':Bool) (hu:P.underlying t=some (.func e e' e'')) (f:Fn) (x y:Array Value):(Op.equalIn (d+1) t .nilFunc (.func f x y)).run P w=.ok false w:=by simp[Op.equalIn,run_underlying hu]
theorem tI (e e':Array TypeId) (e'':Bool) (hu:P.underlying t=some (.func e e' e'')) (f:Fn) (x y:Array Value):(Op.equalIn (d+1) t (.func f x y) .nilFunc).run P w=.ok false w:=by simp[Op.equalIn,run_underlying hu]
end
theorem UR {P:Program} {w:World} {φ:Emb} {t:TypeId} {k:EqK} (hk:fM P t=some k) {x y:CV} {v1 v2:Value} {r neg:Bool} (h1:Jo φ x v1) (h2:Jo φ y v2) (b:BinOp) (hb:(b=.eql/\neg=false)∨(b=.neq/\neg=true)) (p q:Operand)
  (hr:UH k x y=some r):(do eqGuard b t p q v1 v2;binOp b t v1 v2).run P w=.ok (.bool (r !=neg)) w:=by
 have spec:=tB hk;unfold UH at hr;split at hr;case h_1 a c=>cases hr;cases h1;cases h2;rcases hb with⟨rfl,rfl⟩|⟨rfl,rfl⟩<;>simp[eqGuard,binOp,Op.equal,Op.maxDepth,run_equalIn_bool' w _ t a c spec]
 case h_2=>cases hr;cases h1;cases h2;obtain⟨e,hu⟩:=spec;rcases hb with⟨rfl,rfl⟩|⟨rfl,rfl⟩<;>simp[eqGuard,binOp,Op.equal,Op.maxDepth,tC w _ t e hu]
 case h_3=>cases hr;cases h1;obtain⟨l,_,rfl⟩:=h2;obtain⟨e,hu⟩:=spec;rcases hb with⟨rfl,rfl⟩|⟨rfl,rfl⟩<;>simp[eqGuard,binOp,Op.equal,Op.maxDepth,tC w _ t e hu]
 case h_4=>cases hr;cases h2;obtain⟨l,_,rfl⟩:=h1;obtain⟨e,hu⟩:=spec;rcases hb with⟨rfl,rfl⟩|⟨rfl,rfl⟩<;>simp[eqGuard,binOp,Op.equal,Op.maxDepth,JS w _ t e hu]
 case h_5=>cases hr;cases h1;cases h2;obtain⟨e,hu⟩:=spec;rcases hb with⟨rfl,rfl⟩|⟨rfl,rfl⟩<;>simp[eqGuard,binOp,Op.equal,Op.maxDepth,fX w _ t e hu]
 case h_6=>cases hr;cases h1;obtain⟨a,c,rfl,_⟩:=h2;obtain⟨e,hu⟩:=spec;rcases hb with⟨rfl,rfl⟩|⟨rfl,rfl⟩<;>simp[eqGuard,binOp,Op.equal,Op.maxDepth,fX w _ t e hu]
 case h_7=>cases hr;cases h2;obtain⟨a,c,rfl,_⟩:=h1;obtain⟨e,hu⟩:=spec;rcases hb with⟨rfl,rfl⟩|⟨rfl,rfl⟩<;>simp[eqGuard,binOp,Op.equal,Op.maxDepth,tG w _ t e hu]
 case h_8=>cases hr;cases h1;cases h2;obtain⟨e,e',hu⟩:=spec;rcases hb with⟨rfl,rfl⟩|⟨rfl,rfl⟩<;>simp[eqGuard,binOp,Op.equal,Op.maxDepth,tH w _ t e e' hu]
 case h_9=>cases hr;cases h1;obtain⟨l,_,rfl⟩:=h2;obtain⟨e,e',hu⟩:=spec;rcases hb with⟨rfl,rfl⟩|⟨rfl,rfl⟩<;>simp[eqGuard,binOp,Op.equal,Op.maxDepth,tH w _ t e e' hu]
 case h_10=>cases hr;cases h2;obtain⟨l,_,rfl⟩:=h1;obtain⟨e,e',hu⟩:=spec;rcases hb with⟨rfl,rfl⟩|⟨rfl,rfl⟩<;>simp[eqGuard,binOp,Op.equal,Op.maxDepth,JT w _ t e e' hu]
 case h_11=>cases hr;cases h1;cases h2;obtain⟨e,e',e'',hu⟩:=spec;rcases hb with⟨rfl,rfl⟩|⟨rfl,rfl⟩<;>simp[eqGuard,binOp,Op.equal,Op.maxDepth,JU w _ t e e' e'' hu]
 case h_12=>cases hr;cases h1;obtain⟨vs,us,rfl,_⟩:=h2;obtain⟨e,e',e'',hu⟩:=spec;rcases hb with⟨rfl,rfl⟩|⟨rfl,rfl⟩<;>simp[eqGuard,binOp,Op.equal,Op.maxDepth,xT w _ t e e' e'' hu]
 case h_13=>cases hr;cases h2;obtain⟨vs,us,rfl,_⟩:=h1;obtain⟨e,e',e'',hu⟩:=spec;rcases hb with⟨rfl,rfl⟩|⟨rfl,rfl⟩<;>simp[eqGuard,binOp,Op.equal,Op.maxDepth,tI w _ t e e' e'' hu]
 case h_14 ks xs ys=>obtain⟨hg,hl,n,hn⟩:=spec;obtain⟨vx,rfl,hx⟩:=h1;obtain⟨vy,rfl,hy⟩:=h2;have he:=(Kt (P:=P) (w:=w) (φ:=φ) 20 t ks hl).2 10000 Aa xs ys (.agg vx.toArray) (.agg vy.toArray) r hr (.inr ⟨n,hn,vx,rfl,hx⟩) (.inr ⟨n,hn,vy,rfl,hy⟩);rcases hb with⟨rfl,rfl⟩|⟨rfl,rfl⟩<;>simp[run_eqGuard_agg w _ t p q _ _ hg,binOp,Op.equal,Op.maxDepth,he]
 case h_15=>cases hr
theorem tJ {P:Program} (b:BinOp) (t:TypeId) (x y:Operand) (yt:TypeId):Xh P (.binOp b t x y yt) (.bin b) [x,y]:=by
 intro o ho φ h nx w ρ args v h' hr s _ ha;obtain⟨dst,op,type,pos,after,guard⟩:=o;simp only at ho;subst ho;simp only[VOp.run] at hr;unfold MZ at hr;split at hr
 ·next s1 s2=>
  unfold Hs at hr;split at hr
  ·next r hbin=>
   cases hr;obtain⟨h1,h2⟩:=fS ha;obtain⟨v',e1,e2⟩:=NH (P:=P) (w:=w) b t x y h1 h2 hbin;refine D9 (v':=v') s ?_ e2;simp only[execOp,Sem.run_bind] at e1 ⊢;rw[e1];rfl
  ·cases hr
 ·cases hr
theorem GB {P:Program} (b:BinOp) (neg:Bool) (hb:(b=.eql/\neg=false)∨(b=.neq/\neg=true)) (t:TypeId) (x y:Operand) (yt:TypeId) {k:EqK} (hk:fM P t=some k):Xh P (.binOp b t x y yt) (.eq neg k) [x,y]:=by
 intro o ho φ h nx w ρ args v h' hr s _ ha;obtain⟨dst,op,type,pos,after,guard⟩:=o;simp only at ho;subst ho;simp only[VOp.run] at hr;unfold rEq at hr;split at hr
 ·next c1 c2=>
  split at hr
  ·next r he=>
   cases hr;obtain⟨h1,h2⟩:=fS ha;have e1:=UR (P:=P) (w:=w) hk h1 h2 b hb x y he;refine D9 (v':=.bool (r !=neg)) s ?_ rfl;simp only[execOp,Sem.run_bind] at e1 ⊢;rw[e1];rfl
  ·cases hr
 ·cases hr
theorem NI (P:Program) (b:BinOp) (t:TypeId) (x y:Operand) (yt:TypeId):Ok P (.binOp b t x y yt):=by
 intro vop xs hc;simp only[cOp] at hc;split at hc;·cases hc;exact tJ b t x y yt
 ·cases hc;exact tJ b t x y yt
 ·split at hc;·next k hk=>cases hc;exact GB _ _ (.inl ⟨rfl,rfl⟩) t x y yt hk
  ·next k hk=>cases hc;exact GB _ _ (.inr ⟨rfl,rfl⟩) t x y yt hk
  ·cases hc
theorem JV {P:Program} (s0 d:TypeId) (x:Operand) {k j:IntKind} (hs0:P.underlying s0=some (.int j)) (hd:P.underlying d=some (.int k)):Xh P (.convert s0 d x) (.conv k) [x]:=by
 intro o ho φ h nx w ρ args v h' hr s _ ha;obtain⟨dst,op,type,pos,after,guard⟩:=o;simp only at ho;subst ho;simp only[VOp.run] at hr;unfold FQ at hr;split at hr
 ·next k' n=>
  cases hr;have e1:ρ x=.int k' n:=O5 ha;exact D9 (v':=.int k (k.wrap n)) s (by simp[execOp,e1,convert,run_underlying hs0,run_underlying hd,Conv.intToInt]) rfl
 ·cases hr
theorem lW {P:Program} {w:World} {φ:Emb} {t:TypeId} {s:Option Nat} (hs:shapeOf P t=some s) {cs:EB} {vs:List Value} (hv:A1 (Fx φ) cs vs) {o:Nat} {c:CV} (hp:Xb cs o s=some c) :
  ∃v',(part t vs.toArray o).run P w=.ok v' w/\Jo φ c v':=by
 unfold Xb at hp;split at hp
 ·split at hp
  ·next x hx=>
   cases hp;obtain⟨v,h1,h2⟩:=D3 hv o hx;exact⟨v,by simp[part,Ni hs,h1],h2⟩
  ·cases hp
 ·next n=>
  split at hp
  ·next hle=>
   cases hp;obtain⟨h1,h2⟩:=Nj (w:=w) hs;refine⟨.agg ((vs.drop o).take n).toArray,?_,_,rfl,Gs _ (Gh _ hv)⟩;simp only[part,Sem.run_bind,h1,Result.andThen_ok,Ak,run_sizeOf h2,Sem.run_pure];congr 2;apply Db;simp
  ·cases hp
theorem NJ (P:Program) (t:TypeId) (x:Operand) (f:Nat):Ok P (.field t x f):=by
 intro vop xs hc;simp only[cOp] at hc;split at hc
 ·next fs hu=>
  split at hc
  ·next fd hf=>
   split at hc
   ·next sh hsh=>
    cases hc;intro o ho φ h nx w ρ args v h' hr s _ ha;obtain⟨dst,op,type,pos,after,guard⟩:=o;simp only at ho;subst ho;simp only[VOp.run] at hr;unfold fH at hr;split at hr
    ·next cs=>
     unfold M5 at hr;split at hr
     ·next c hp=>
      cases hr;obtain⟨vs,e1,hv⟩:=O5 ha;obtain⟨v',e2,e3⟩:=lW (P:=P) (w:=w) hsh hv hp;exact D9 (v':=v') s (by simp[execOp,Instr.field,run_underlying hu,hf,e1,asAgg,e2]) e3
     ·cases hr
    ·cases hr
   ·cases hc
  ·cases hc
 ·cases hc
theorem oH (P:Program) (t:TypeId) (x:Operand) (f:Nat):Ok P (.fieldAddr t x f):=by
 intro vop xs hc;simp only[cOp] at hc;split at hc
 ·next fs hu=>
  split at hc
  ·next fd hf=>
   split at hc
   ·next n hn=>
    split at hc;·cases hc
    ·next hn0=>
     cases hc;intro o ho φ h nx w ρ args v h' hr s _ ha;obtain⟨dst,op,type,pos,after,guard⟩:=o;simp only at ho;subst ho;simp only[VOp.run] at hr;unfold nY at hr;split at hr
     ·next b o'=>
      cases hr;obtain⟨l,e1,e2⟩:=O5 ha;refine D9 (v':=.pointer (some ⟨l.blk,o'+fd.offset+l.off,none⟩)) s ?_ ⟨l,e1,rfl⟩;simp[execOp,Instr.fieldAt,run_underlying hu,hf,e2,Instr.sureAddr,fieldPlace,run_sizeOf hn,hn0,Jp,show o'+l.off+fd.offset=o'+fd.offset+l.off from Aa]
     ·cases hr
   ·cases hc
  ·cases hc
 ·cases hc
theorem oI (P:Program) (t:TypeId) (x i:Operand):Ok P (.indexAddr t x i):=by
 intro vop xs hc;simp only[cOp] at hc;split at hc
 ·next n e hu=>
  cases hk:Gv P e with
  |none=>simp[hk] at hc
  |some k=>
   simp only[hk,AK,Sj,Pj,Ff.op.injEq] at hc;obtain⟨rfl,rfl⟩:=hc;intro o ho φ h nx w ρ args v h' hr s _ ha;obtain⟨dst,op,type,pos,after,guard⟩:=o;simp only at ho;subst ho;simp only[VOp.run] at hr;unfold fI at hr;split at hr
   ·next b o' k' j=>
    split at hr
    ·next hj=>
     cases hr;obtain⟨h1,h2⟩:=fS ha;obtain⟨l,e1,e2⟩:=h1;have e3:ρ i=.int k' j:=h2;refine D9 (v':=.pointer (some ⟨l.blk,o'+j.toNat*k+l.off,none⟩)) s ?_ ⟨l,e1,rfl⟩;simp[execOp,Instr.indexAt,run_underlying hu,e2,e3,asIntOf,Instr.sureAddr,hj.1,hj.2,run_sizeOf hk,Jp,show o'+l.off+j.toNat*k=o'+j.toNat*k+l.off from Aa]
    ·cases hr
   ·cases hr
 ·next e hu=>
  cases hk:Gv P e with
  |none=>simp[hk] at hc
  |some k=>
   simp only[hk,AK,Sj,Pj,Ff.op.injEq] at hc;obtain⟨rfl,rfl⟩:=hc;intro o ho φ h nx w ρ args v h' hr s _ ha;obtain⟨dst,op,type,pos,after,guard⟩:=o;simp only at ho;subst ho;simp only[VOp.run] at hr;unfold xN at hr;split at hr
   ·next b o' len es' cap k' j=>
    split at hr
    ·next hj=>
     cases hr;obtain⟨h1,h2⟩:=fS ha;obtain⟨a,c,e2,hlc,_,hloc⟩:=h1;have e3:ρ i=.int k' j:=h2;have hc0:c≠0:=Aa;obtain⟨l,e1,rfl,_⟩:=hloc.resolve_left hc0;refine D9 (v':=.pointer (some ⟨l.blk,o'+j.toNat*k+l.off,none⟩)) s ?_ ⟨l,e1,rfl⟩;simp[execOp,Instr.indexAt,run_underlying hu,e2,e3,asIntOf,hj.2.1,hj.2.2,run_sizeOf hk,Jp,show o'+l.off+j.toNat*k=o'+j.toNat*k+l.off from Aa]
    ·cases hr
   ·cases hr
 ·cases hc
theorem NK (P:Program) (t:TypeId) (x i:Operand):Ok P (.index t x i):=by
 intro vop xs hc;simp only[cOp] at hc;split at hc
 ·next n e hu=>
  split at hc
  ·next k sh hk hsh=>
   cases hc;intro o ho φ h nx w ρ args v h' hr s _ ha;obtain⟨dst,op,type,pos,after,guard⟩:=o;simp only at ho;subst ho;simp only[VOp.run] at hr;unfold JK at hr;split at hr
   ·next cs k' j=>
    split at hr
    ·next hj=>
     unfold M5 at hr;split at hr
     ·next c hp=>
      cases hr;obtain⟨h1,h2⟩:=fS ha;obtain⟨vs,e1,hv⟩:=h1;have e3:ρ i=.int k' j:=h2;obtain⟨v',e4,e5⟩:=lW (P:=P) (w:=w) hsh hv hp;exact D9 (v':=v') s (by simp[execOp,Instr.index,run_underlying hu,e1,e3,asIntOf,hj.1,hj.2,run_sizeOf hk,e4]) e5
     ·cases hr
    ·cases hr
   ·cases hr
  ·cases hc
 ·next hu=>
  cases hc;intro o ho φ h nx w ρ args v h' hr s _ ha;obtain⟨dst,op,type,pos,after,guard⟩:=o;simp only at ho;subst ho;simp only[VOp.run] at hr;unfold lR at hr;split at hr
  ·next sl k' j=>
   split at hr
   ·next hj=>
    split at hr
    ·next n hn=>
     cases hr;obtain⟨h1,h2⟩:=fS ha;obtain⟨hlt,e1⟩:=h1;have e3:ρ i=.int k' j:=h2;have hlen:j.toNat<sl.length:=(Gi.1 hn).1;have hmem:n∈sl:=Aq hn;have hget:(⟨(sl.map UInt8.ofNat).toArray⟩:ByteArray)[j.toNat]?=some (UInt8.ofNat n):=by
      have hsz:j.toNat<(⟨(sl.map UInt8.ofNat).toArray⟩:ByteArray).size:=by rw[show(⟨(sl.map UInt8.ofNat).toArray⟩:ByteArray).size=sl.length from Y4 sl];exact hlen
      rw[getElem?_pos (⟨(sl.map UInt8.ofNat).toArray⟩:ByteArray) j.toNat hsz];congr 1;show(sl.map UInt8.ofNat).toArray[j.toNat]=_;simp[(Gi.1 hn).2]
     refine D9 (v':=.int .u8 (n:Nat)) s ?_ rfl;simp[execOp,Instr.index,run_underlying hu,e1,e3,asIntOf,hj,hget];have:=hlt n hmem;omega
    ·cases hr
   ·cases hr
  ·cases hr
 ·cases hc
theorem xU (P:Program) (t:Operand) (i:Nat):Ok P (.extract t i):=by
 intro vop xs hc;simp only[cOp,Sj,Pj,Ff.op.injEq] at hc;obtain⟨rfl,rfl⟩:=hc;intro o ho φ h nx w ρ args v h' hr s _ ha;obtain⟨dst,op,type,pos,after,guard⟩:=o;simp only at ho;subst ho;simp only[VOp.run] at hr;unfold Tn at hr;split at hr
 ·next xs=>
  unfold M5 at hr;split at hr
  ·next c hp=>
   cases hr;obtain⟨vs,e1,hv⟩:=O5 ha;obtain⟨v',e2,e3⟩:=D3 hv i hp;exact D9 (v':=v') s (by simp[execOp,Instr.extract,e1,e2]) e3
  ·cases hr
 ·cases hr
def Od:Option Value->Option Int->Prop
 |none,none=>True
 |some v,some n=>∃k,v=.int k n
 |_,_=>False
theorem aU {φ:Emb} {ρ:Operand->Value} (o:Option Operand) {xs ys:EA} {a:Option Int} {rest:List Value} (h:Xc o.isSome xs=some (a,ys))
  (ha:A1 (Gr φ) xs (o.toList.map ρ++rest)):Od (o.map ρ) a/\A1 (Gr φ) ys rest:=by
 cases o with
 |none=>simp only[Option.isSome,Xc,Sj,Pj] at h;obtain⟨rfl,rfl⟩:=h;exact⟨Ae,ha⟩
 |some x=>
  simp only[Option.isSome] at h;unfold Xc at h;split at h;·next e=>cases e
  ·next e=>cases h;cases ha with
   |cons h t=>exact⟨⟨_,h⟩,t⟩
  ·cases h
theorem xV {φ:Emb} {ρ:Operand->Value} (lo hi mx:Option Operand) {xs:EA} {bs:Option Int×Option Int×Option Int} (h:Yn lo.isSome hi.isSome mx.isSome xs=some bs)
  (ha:A1 (Gr φ) xs ((lo.toList++(hi.toList++mx.toList)).map ρ)):Od (lo.map ρ) bs.1/\Od (hi.map ρ) bs.2.1/\Od (mx.map ρ) bs.2.2:=by
 simp only[Cm] at ha;unfold Yn at h;split at h
 ·next a xs1 e1=>
  obtain⟨h1,ha⟩:=aU lo e1 ha;split at h
  ·next b xs2 e2=>
   obtain⟨h2,ha⟩:=aU hi e2 ha;split at h
   ·next c e3=>
    cases h;obtain⟨h3,_⟩:=aU (rest:=[]) mx e3 (by simpa using ha);exact⟨h1,h2,h3⟩
   ·cases h
  ·cases h
 ·cases h
section
variable {P:Program} {w:World}
theorem lG {k:IntKind} {i:Int} {y:Nat} (code:BoundsCode) (h:0<=i/\i<=(y:Int)):(Instr.sliceBound (.int k i) y code).run P w=.ok i.toNat w:=by simp[Instr.sliceBound,asIntOf,h.1,h.2]
theorem fY {o:Option Value} {x:Option Int} {top d n y:Nat} (h:Od o x) (e:bnd x top d=some n) (hy:top<=y) :
  (o=none/\n=d)∨(∃v,o=some v/\(∀code,(Instr.sliceBound v y code).run P w=.ok n w)/\n<=top):=by
 unfold bnd at e;split at e
 ·cases e;cases o with
  |none=>exact .inl ⟨rfl,rfl⟩
  |some v=>exact h.elim
 ·next v=>
  split at e
  ·next hv=>
   cases e;cases o with
   |none=>exact h.elim
   |some u=>obtain⟨k,rfl⟩:=h;exact .inr ⟨_,rfl,λcode=>lG code ⟨hv.1,Aa⟩,Aa⟩
  ·cases e
theorem aW {len C:Nat} {cap:Option Nat} {lo hi mx:Option Value} {bs:Option Int×Option Int×Option Int} {l n:Nat} {c':Option Nat} (isSlice:Bool) (hcap:∀k,cap=some k->C=k) (hlen:len<=C)
  (h1:Od lo bs.1) (h2:Od hi bs.2.1) (h3:Od mx bs.2.2) (hb:bounds len cap bs=some (l,n,c')) (h4:mx.isSome=true->hi.isSome=true) :
  ∃h m,(Instr.sliceBounds isSlice len C lo hi mx).run P w=.ok (l,h,m) w/\h-l=n/\l<=h/\h<=m/\m<=C/\(∀k,c'=some k->m-l=k)/\(c'=none->cap=none/\m=C):=by
 unfold bounds at hb;split at hb;·cases hb
 ·next m hm=>
  split at hb;·cases hb
  ·next h hh=>
   split at hb;·cases hb
   ·next l' hl=>
    cases hb;have htop:cap.getD len<=C:=by
     cases cap with
     |none=>exact hlen
     |some k=>rw[hcap k rfl];exact Rl
    rcases fY (P:=P) (w:=w) (y:=C) h3 hm htop with⟨rfl,rfl⟩|⟨v,rfl,hv,hmt⟩
    ·have hnone:bs.2.2=none:=by
      cases hx:bs.2.2 with
      |none=>rfl
      |some q=>rw[hx] at h3;exact h3.elim
     have hhx:=fY (P:=P) (w:=w) (y:=C) h2 hh htop;have hle:h<=C:=by
      rcases hhx with⟨_,rfl⟩|⟨_,_,_,h5⟩;·exact hlen
      ·omega
     have hlx:=fY (P:=P) (w:=w) (y:=h) h1 hl Rl;have hll:l<=h:=by
      rcases hlx with⟨_,rfl⟩|⟨_,_,_,h5⟩;·exact Zl
      ·exact h5
     refine⟨h,C,?_,rfl,hll,hle,Rl,λk hk=>?_,λhk=>?_⟩;·rcases hhx with⟨rfl,rfl⟩|⟨v2,rfl,hv2,_⟩<;>rcases hlx with⟨rfl,rfl⟩|⟨v3,rfl,hv3,_⟩<;>simp[Instr.sliceBounds, *]
     ·rw[hnone] at hk;simp only[DZ,Ed] at hk;split at hk
      ·next hs=>
       cases hk;obtain⟨q,rfl⟩:=Option.isSome_iff_exists.1 hs;rw[hcap q rfl];rfl
      ·cases hk
     ·rw[hnone] at hk;simp only[DZ,Ed] at hk;split at hk;·cases hk
      ·next hs=>exact⟨by cases cap<;>simp_all,rfl⟩
    ·have hhi:=h4 rfl;have hsome:bs.2.2.isSome=true:=by
      cases hx:bs.2.2 with
      |none=>rw[hx] at h3;exact h3.elim
      |some q=>rfl
     rcases fY (P:=P) (w:=w) (y:=m) h2 hh Rl with⟨rfl,_⟩|⟨v2,rfl,hv2,hle⟩;·cases hhi
     ·have hlx:=fY (P:=P) (w:=w) (y:=h) h1 hl Rl;have hll:l<=h:=by
       rcases hlx with⟨_,rfl⟩|⟨_,_,_,h5⟩;·exact Zl
       ·exact h5
      refine⟨h,m,?_,rfl,hll,hle,Aa,λk hk=>?_,λhk=>?_⟩;·rcases hlx with⟨rfl,rfl⟩|⟨v3,rfl,hv3,_⟩<;>simp[Instr.sliceBounds, *]
      ·simp[hsome] at hk;exact hk
      ·simp[hsome] at hk
end
theorem fZ {φ:Emb} {es:Nat} {x r:SV} {bs:Option Int×Option Int×Option Int} (hr:Nf es x bs=some r) {P:Program} {w:World} {lo hi mx:Option Value} {a:Option Addr} {len C:Nat}
  (hx:Fx φ x (.slice a len C)) (h1:Od lo bs.1) (h2:Od hi bs.2.1) (h3:Od mx bs.2.2) (h4:mx.isSome=true->hi.isSome=true) (isSlice:Bool) :
  ∃l h m,(Instr.sliceBounds isSlice len C lo hi mx).run P w=.ok (l,h,m) w/\Fx φ r (.slice (if m=l then a else a.map (·.add (l*es))) (h-l) (m-l)):=by
 unfold Nf at hr;split at hr
 ·split at hr
  ·next v hb=>
   cases hr;obtain⟨l,n,c'⟩:=v;cases hx;obtain⟨h,m,e1,e2,e3,e4,e5,_,_⟩:=aW (P:=P) (w:=w) (C:=0) isSlice Ac Rl h1 h2 h3 hb h4;refine⟨l,h,m,e1,?_⟩;have:m=l:=Aa;subst this;simp only[Ak];show Value.slice none (h-m) (m-m)=.slice none 0 0;rw[show h-m=0 from Aa,show m-m=0 from Aa]
  ·cases hr
 ·next b o len' es' cap=>
  split at hr
  ·next hes=>
   subst hes;split at hr
   ·next l n c hb=>
    cases hr;obtain⟨a',c0,e0,hlc,hcap,hloc⟩:=hx;cases e0;obtain⟨h,m,e1,e2,e3,e4,e5,e6,e7⟩:=aW (P:=P) (w:=w) (cap:=cap) isSlice hcap hlc h1 h2 h3 hb h4;refine⟨l,h,m,e1,if m=l then a' else a'.add (l*es),m-l,?_,Aa,e6,?_⟩;·rw[e2];split<;>simp
    ·by_cases hml:m=l;·exact .inl Aa
     ·obtain⟨lc,f1,f2,f3⟩:=hloc.resolve_left Aa;refine .inr ⟨lc,f1,?_,λhc=>?_⟩;·simp only[hml,Ag];rw[f2,Jp];rw[show o+lc.off+l*es=o+l*es+lc.off from Aa]
      ·obtain⟨g1,g2⟩:=e7 hc;have:=f3 g1;subst g2;rw[<-this,Nat.sub_mul];have:l*es<=m*es:=AZ _ Aa;omega
   ·cases hr
  ·cases hr
 ·cases hr
theorem gA (sl:EF) (l h:Nat):(bs sl).extract l h=bs ((sl.drop l).take (h-l)):=by apply ByteArray.ext;rw[ByteArray.data_extract];apply Db;simp[bs,Dq,List.map_drop]
theorem Xi {P:Program} (t:TypeId) (x:Operand) (lo hi mx:Option Operand) (k:SlK) (hm:(mx.isSome&&hi.isNone)=false)
  (hk:match k with|.str=>P.underlying t=some .string|.slice es=>∃e,P.underlying t=some (.slice e)/\Gv P e=some es|.arr n es=>∃e,P.underlying t=some (.array n e)/\Gv P e=some es) :
  Xh P (.slice t x lo hi mx) (.slice k lo.isSome hi.isSome mx.isSome) (x::(lo.toList++(hi.toList++mx.toList))):=by
 intro o ho φ h nx w ρ args v h' hr s _ ha;obtain⟨dst,op,type,pos,after,guard⟩:=o;simp only at ho;subst ho;simp only[VOp.run] at hr;unfold Qa at hr;have h4:(mx.map ρ).isSome=true->(hi.map ρ).isSome=true:=by
  intro h5;simp only[Option.isSome_map] at h5 ⊢;cases hi with
  |none=>simp[h5] at hm
  |some _=>rfl
 split at hr
 ·next x0 xs0=>
  split at hr
  ·next bs hbs=>
   cases ha with
   |cons hx ha=>
   obtain⟨h1,h2,h3⟩:=xV lo hi mx hbs ha;split at hr
   ·next sl=>
    split at hr;·cases hr
    ·next hmx=>
     split at hr
     ·next l n c hb=>
      cases hr;obtain⟨hlt,e0⟩:=hx;have e0:ρ x=.string (Go.Vm.bs sl):=e0;have hmn:mx=none:=by cases mx<;>simp_all
      subst hmn;obtain⟨h,m,e1,e2,e3,e4,e5,_,_⟩:=aW (P:=P) (w:=w) (C:=sl.length) false (by intro k hk;cases hk;rfl) Rl h1 h2 h3 hb h4;refine D9 (v':=.string ((Go.Vm.bs sl).extract l h)) s ?_ ⟨λq hq=>hlt q ?_,?_⟩;·simp only[Option.map_none] at e1;simp[execOp,Instr.sliceAt,Instr.slice,run_underlying hk,e0,Y4,e1]
      ·exact DM (Bq hq)
      ·rw[gA,e2];rfl
     ·cases hr
   ·next es sv=>
    unfold Hs at hr;split at hr
    ·next r hs=>
     cases hr;obtain⟨e,hu,hes⟩:=hk;have hx:Fx φ sv (ρ x):=hx;obtain⟨a,len,C,e0⟩:∃a len C,ρ x=.slice a len C:=by
      unfold Nf at hs;split at hs;·exact⟨_,_,_,hx⟩
      ·obtain⟨a,c,e,_⟩:=hx;exact⟨_,_,_,e⟩
      ·cases hs
     rw[e0] at hx;obtain⟨l,h,m,e1,e2⟩:=fZ (P:=P) (w:=w) hs hx h1 h2 h3 h4 true;exact D9 (v':=.slice (if m=l then a else a.map (·.add (l*es))) (h-l) (m-l)) s (by simp[execOp,Instr.sliceAt,Instr.slice,run_underlying hu,e0,e1,run_sizeOf hes]) e2
    ·cases hr
   ·next n es b o'=>
    unfold Hs at hr;split at hr
    ·next r hs=>
     cases hr;obtain⟨e,hu,hes⟩:=hk;obtain⟨lc,f1,f2⟩:=hx;have hx:Fx φ (.slice b o' n es (some n)) (.slice (some ⟨lc.blk,o'+lc.off,none⟩) n n):=⟨_,n,rfl,Rl,Ac,.inr ⟨lc,f1,rfl,Ac⟩⟩;obtain⟨l,h,m,e1,e2⟩:=fZ (P:=P) (w:=w) hs hx h1 h2 h3 h4 false;refine D9 (v':=.slice (if m=l then some ⟨lc.blk,o'+lc.off,none⟩ else(some ⟨lc.blk,o'+lc.off,none⟩:Option Addr).map (·.add (l*es))) (h-l) (m-l)) s ?_ e2;simp only[execOp,Instr.sliceAt,Sem.run_bind,run_underlying hu,f2,Instr.sureAddr,e1,run_sizeOf hes,Result.andThen_ok,Sem.run_pure];by_cases hml:m=l<;>simp[hml]
    ·cases hr
   ·cases hr
  ·cases hr
 ·cases hr
theorem ok_slice (P:Program) (t:TypeId) (x:Operand) (lo hi mx:Option Operand):Ok P (.slice t x lo hi mx):=by
 intro vop xs hc;simp only[cOp] at hc;split at hc
 ·next hu=>
  unfold Ka at hc;split at hc;·cases hc
  ·next hm=>cases hc;exact Xi t x lo hi mx .str (Ec.2 hm) hu
 ·next e hu=>
  split at hc
  ·next n hn=>
   unfold Ka at hc;split at hc;·cases hc
   ·next hm=>cases hc;exact Xi t x lo hi mx (.slice n) (Ec.2 hm) ⟨e,hu,hn⟩
  ·cases hc
 ·next n e hu=>
  split at hc
  ·next k hn=>
   unfold Ka at hc;split at hc;·cases hc
   ·next hm=>cases hc;exact Xi t x lo hi mx (.arr n k) (Ec.2 hm) ⟨e,hu,hn⟩
  ·cases hc
 ·cases hc
theorem GC {φ:Emb}:∀{xs:EA} {l:List (Key×Nat)} {vs:List Value},xK xs=some l->A1 (Gr φ) xs vs->A1 (dV φ) l vs
 |[],l,vs,h,ha=>by cases ha;simp[xK] at h;subst h;exact .nil
 |x::xs,l,vs,h,ha=>by
  cases ha with
  |cons hx ha=>
  unfold xK at h;split at h;·next e=>cases e
  ·next b o l' e=>
   cases e;split at h;·next r hr=>cases h;exact .cons hx (GC hr ha)
   ·cases h
  ·cases h
theorem tK (P:Program) (fn:Fn) (first cap:Array Operand):Ok P (.makeFunc fn first cap):=by
 intro vop xs hc;simp only[cOp] at hc;split at hc
 ·next f=>
  cases hc;intro o ho φ h nx w ρ args v h' hr s _ ha;obtain⟨dst,op,type,pos,after,guard⟩:=o;simp only at ho;subst ho;simp only[VOp.run] at hr;unfold Yr at hr;split at hr
  ·next l hl=>
   cases hr;have h1:=GC hl ha;simp only[Cm] at h1;have ht:=Gs first.size h1
   have hd:=Gh first.size h1
   rw[List.take_left' Ac] at ht;rw[List.drop_left' Ac] at hd;refine D9 (v':=.func (.func f) (first.map ρ) (cap.map ρ)) s (by simp[execOp,Instr.makeFunc]) ⟨_,_,?_,ht,hd⟩;congr 1<;>(apply Db;simp)
  ·cases hr
 ·cases hc
theorem dW (l:List UInt8):(l.map UInt8.toNat).map UInt8.ofNat=l:=by
 induction l with
 |nil=>rfl
 |cons x l ih=>simp only[AG,ih,UInt8.ofNat_toNat]
theorem NL {φ:Emb} {v:Value} {x:SV} (h:cSV v=some x):Fx φ x v:=by
 unfold cSV at h;split at h;·cases h;rfl
 ·cases h;rfl
 ·next s=>
  cases h;refine⟨λn hn=>?_,?_⟩;·obtain⟨b,_,rfl⟩:=Aw.1 hn;exact b.toNat_lt
  ·rw[dW]
 ·cases h;rfl
 ·cases h;rfl
 ·cases h;rfl
 ·cases h;rfl
 ·cases h
theorem GD {φ:Emb}:∀{vs:List Value} {xs:EB},NC vs=some xs->A1 (Fx φ) xs vs
 |[],xs,h=>by simp[NC] at h;subst h;exact .nil
 |v::vs,xs,h=>by
  unfold NC at h;split at h
  ·next x hx=>
   split at h;·next xs' hxs=>cases h;exact .cons (NL hx) (GD hxs)
   ·cases h
  ·cases h
theorem NM {φ:Emb} {v:Value} {x:CV} (h:cCV v=some x):Jo φ x v:=by
 unfold cCV at h;split at h
 ·next cs=>
  split at h;·next l hl=>cases h;exact⟨cs.toList,Ac,GD hl⟩
  ·cases h
 ·split at h;·next y hy=>cases h;exact NL hy
  ·cases h
section
variable {P:Program} {w:World} {φ:Emb}
theorem gB {t:TypeId} {c:CV} (h:sQ P t=some c):∃i z,P.info? t=some i/\i.zero=some z/\Jo φ c z:=by
 unfold sQ at h;split at h
 ·next i hi=>
  split at h;·next z hz=>exact⟨i,z,hi,hz,NM h⟩
  ·cases h
 ·cases h
theorem Qu {t:TypeId} {i:TypeInfo} {z:Value} (hi:P.info? t=some i) (hz:i.zero=some z):(zeroValue t).run P w=.ok z w:=by simp[zeroValue,typeInfo,hi,hz]
theorem Nn {t:TypeId} {l:EB} (h:Ly P t=some l):∃i z,P.info? t=some i/\i.zero=some z/\A1 (Fx φ) l z.cells.toList:=by
 unfold Ly at h;cases hz:sQ P t with
 |none=>simp[hz] at h
 |some c=>simp[hz] at h;subst h;obtain⟨i,z,h1,h2,h3⟩:=gB (φ:=φ) hz;exact⟨i,z,h1,h2,h3.cells⟩
theorem T4 {h:Heap} {nx:Nat} {w':World} (s:Sim φ h.get nx w) (hb:φ h.next=none) (x:Blk) (l:Loc) (hl:l.blk=w.heap.size) {o:Obj} (hw:w'.heap=w.heap.push o)
  (hr:Wl (φ.set h.next l) l x.own x.body o) (ho:w'.os=w.os/\w'.output=w.output:=by exact⟨rfl,rfl⟩) :
  (∀nx',nx<=nx'->(h.Fu x).next.toNat<=nx'->Sim (φ.set h.next l) (h.Fu x).get nx' w')/\Ext φ h.get h.next.toNat w (φ.set h.next l) (h.Fu x).get (h.Fu x).next.toNat w':=by have hn:(h.Fu x).next.toNat=h.next.toNat+1:=Key.toNat_succ _;rw[Gt,hn];exact⟨λnx' h1 h2=>s.push hb nx' h1 Aa x l hl hw hr,Ext.push hb x l hl hw ho⟩
theorem Np {h:Heap} {nx:Nat} {w':World} (s:Sim φ h.get nx w) (hb:φ h.next=none) {ls:EB} {vs:List Value} (hv:A1 (Fx φ) ls vs) (rest:List Value) (t:TypeId) (fr:Nat×Nat) (own:Bool) (hf:own=true->fr=(0,0))
  (hw:w'.heap=w.heap.push (.cells (vs++rest).toArray t fr)) (ho:w'.os=w.os/\w'.output=w.output:=by exact⟨rfl,rfl⟩) :
  (∀nx',nx<=nx'->(h.Fu ⟨Body.ofList ls,own,[]⟩).next.toNat<=nx'->Sim (φ.set h.next ⟨w.heap.size,0,(vs++rest).length⟩) (h.Fu ⟨Body.ofList ls,own,[]⟩).get nx' w') /\
  Ext φ h.get h.next.toNat w (φ.set h.next ⟨w.heap.size,0,(vs++rest).length⟩) (h.Fu ⟨Body.ofList ls,own,[]⟩).get (h.Fu ⟨Body.ofList ls,own,[]⟩).next.toNat w':=by refine T4 s hb _ _ rfl hw (Wl.ofList (A9 hv λ_ _=>Fx.mono (Emb.T2 _ hb)) rest w.heap.size t fr own hf) ho
end
theorem NN (P:Program) (e:TypeId):Ok P (.alloc e):=by
 intro vop xs hc;simp only[cOp] at hc;cases hz:Ly P e with
 |none=>simp[hz] at hc
 |some z=>
  simp only[hz,AK,Sj,Pj,Ff.op.injEq] at hc;obtain⟨rfl,rfl⟩:=hc;intro o ho φ h nx w ρ args v h' hr s hb ha;obtain⟨dst,op,type,pos,after,guard⟩:=o;simp only at ho;subst ho;simp only[VOp.run] at hr;unfold lQ at hr;split at hr;·cases hr;obtain⟨i,zv,h1,h2,h3⟩:=Nn (φ:=φ) hz;obtain⟨g1,g2⟩:=Np (w':=w.alloc (.cells zv.cells e)) s hb h3 [] e (0,0) true (λ_=>rfl) (by rw[Ay];rfl);exact⟨.pointer (some ⟨w.heap.size,0,none⟩),w.alloc (.cells zv.cells e),.inl (by simp[execOp,Instr.alloc,Qu h1 h2,newVar,newRow]),_,g1,g2,⟨_,Emb.D6 _ _ _,rfl⟩⟩
  ·cases hr
theorem Aax (P:Program) (e:TypeId) (x:Operand):Ok P (.box e x):=by
 intro vop xs hc;simp only[cOp] at hc;cases hz:Gv P e with
 |none=>simp[hz] at hc
 |some z=>
  simp only[hz,AK,Sj,Pj,Ff.op.injEq] at hc;obtain⟨rfl,rfl⟩:=hc;intro o ho φ h nx w ρ args v h' hr s hb ha;obtain⟨dst,op,type,pos,after,guard⟩:=o;simp only at ho;subst ho;simp only[VOp.run] at hr;unfold sM at hr;split at hr
  ·next c=>
   split at hr;·cases hr;have h3:=Jo.cells (O5 ha);obtain⟨g1,g2⟩:=Np (w':=w.alloc (.cells (ρ x).cells e)) s hb h3 [] e (0,0) true (λ_=>rfl) (by rw[Ay];rfl);exact⟨.pointer (some ⟨w.heap.size,0,none⟩),w.alloc (.cells (ρ x).cells e),.inl (by simp[execOp,Instr.box,newVar,newRow]),_,g1,g2,⟨_,Emb.D6 _ _ _,rfl⟩⟩
   ·cases hr
  ·cases hr
theorem US (P:Program) (t:TypeId) (x:Operand):Ok P (.load t x):=by
 intro vop xs hc;simp only[cOp] at hc;split at hc
 ·next hsh=>
  cases hc;intro o ho φ h nx w ρ args v h' hr s _ ha;obtain⟨dst,op,type,pos,after,guard⟩:=o;simp only at ho;subst ho;simp only[VOp.run] at hr;unfold Kk at hr;split at hr
  ·next b o'=>
   split at hr
   ·next y hread=>
    cases hr;obtain⟨l,e1,e2⟩:=O5 ha;obtain⟨_,vs,hv,hcell⟩:=s.read e1 hread;obtain⟨v,rfl,hv1⟩:∃v,vs=[v]/\Fx φ y v:=by
     cases hv with
     |cons h t=>cases t;exact⟨_,rfl,h⟩
    have hc0:=hcell 0 v rfl;rw[Jp] at hc0;exact D9 (v':=v) s (by simp[execOp,Instr.loadAt,e2,Instr.sureAddr,loadVar,Ni hsh,show w.cell? ⟨l.blk,o'+l.off,none⟩=some v from hc0]) hv1
   ·cases hr
  ·cases hr
 ·next n hsh=>
  cases hc;intro o ho φ h nx w ρ args v h' hr s _ ha;obtain⟨dst,op,type,pos,after,guard⟩:=o;simp only at ho;subst ho;simp only[VOp.run] at hr;unfold Kl at hr;split at hr
  ·next b o'=>
   split at hr
   ·next ls hread=>
    cases hr;obtain⟨l,e1,e2⟩:=O5 ha;obtain⟨hl,vs,hv,hcell⟩:=s.read e1 hread;obtain⟨h1,h2⟩:=Nj (w:=w) hsh;have hvl:vs.length=n:=by rw[<-A5 hv,hl]
    have hload:(loadCells ⟨l.blk,o'+l.off,none⟩ n).run P w=.ok vs.toArray w:=by rw[<-hvl];exact run_loadCells_list w _ vs hcell
    exact D9 (v':=.agg vs.toArray) s (by simp[execOp,Instr.loadAt,e2,Instr.sureAddr,loadVar,h1,run_sizeOf h2,hload]) ⟨vs,rfl,hv⟩
   ·cases hr
  ·cases hr
 ·cases hc
theorem NO (P:Program) (t:TypeId) (x y:Operand):Ok P (.store t x y):=by
 intro vop xs hc;simp only[cOp] at hc;cases hz:Gv P t with
 |none=>simp[hz] at hc
 |some n=>
  simp only[hz,AK,Sj,Pj,Ff.op.injEq] at hc;obtain⟨rfl,rfl⟩:=hc;intro o ho φ h nx w ρ args v h' hr s _ ha;obtain⟨dst,op,type,pos,after,guard⟩:=o;simp only at ho;subst ho;simp only[VOp.run] at hr;unfold Xd at hr;split at hr
  ·next b o' c=>
   split at hr
   ·next hlen=>
    split at hr
    ·next h1 hw=>
     cases hr;obtain⟨a1,a2⟩:=fS ha;obtain⟨l,e1,e2⟩:=a1;have hv:=Jo.cells a2;obtain⟨arr,ty,f1,f2,f3,f4,f5⟩:=s.write e1 hv hw;refine⟨undef,w.setRow l.blk (over arr (o'+l.off) (ρ y).cells.toList),.inr ⟨?_,rfl⟩,φ,λnx' g1 _=>f4.up g1,?_,⟨[],rfl,.nil⟩⟩
     ·have hst:=run_storeCells_at P l.blk (o'+l.off) ty (ρ y).cells.toList 0 arr w f1 (by simpa using f2) (Pe hv);have hsz:(ρ y).cells.size=n:=by rw[<-hlen,A5 hv];simp
      simp only[execOp,Instr.storeAt,e2,Instr.sureAddr,Sem.run_bind,Sem.run_pure,Result.andThen_ok,storeVar,run_sizeOf hz,hsz,ne_eq,CN,Ag,BI] at hst ⊢;rw[hst];rfl
     ·rw[f3];exact f5 _
    ·cases hr
   ·cases hr
  ·cases hr
theorem tL {P:Program} {o:Oper} {φ:Emb} {h:Heap} {nx:Nat} {w:World} {ρ:Operand->Value} (s:Sim φ h.get nx w) (hb:φ h.next=none)
  (hd:(execOp ρ o).run P w=.ok (.value (.map (some w.heap.size))) (w.alloc (.map #[] 0))) :
  ∃v' w',Aaw P ρ o w v' w'/\∃φ',(∀nx',nx<=nx'->(h.new (.map [])).2.next.toNat<=nx'->Sim φ' (h.new (.map [])).2.get nx' w')/\Ext φ h.get h.next.toNat w φ' (h.new (.map [])).2.get (h.new (.map [])).2.next.toNat w'/\Gr φ' (.v (.s (.map h.next))) v':=by obtain⟨g1,g2⟩:=T4 (w':=w.alloc (.map #[] 0)) (o:=.map #[] 0) s hb ⟨.map [],true,[]⟩ ⟨w.heap.size,0,0⟩ rfl rfl ⟨#[],rfl,Ac,Ac⟩;exact⟨.map (some w.heap.size),w.alloc (.map #[] 0),.inl hd,_,g1,g2,⟨_,Emb.D6 _ _ _,rfl⟩⟩
theorem xW (P:Program) (t:TypeId) (r:Option Operand):Ok P (.makeMap t r):=by
 intro vop xs hc;cases r with
 |none=>
  simp only[cOp,Sj,Pj,Ff.op.injEq] at hc;obtain⟨rfl,rfl⟩:=hc;intro o ho φ h nx w ρ args v h' hr s hb ha;obtain⟨dst,op,type,pos,after,guard⟩:=o;simp only at ho;subst ho;simp only[VOp.run] at hr;unfold Tm at hr;split at hr;·cases hr;exact tL s hb (by simp[execOp,Instr.makeMap])
  ·cases ha
  ·cases hr
 |some x=>
  simp only[cOp] at hc;split at hc
  ·next a b hu=>
   cases hc;intro o ho φ h nx w ρ args v h' hr s hb ha;obtain⟨dst,op,type,pos,after,guard⟩:=o;simp only at ho;subst ho;simp only[VOp.run] at hr;unfold Tm at hr;split at hr;·cases ha
   ·next k n=>
    cases hr;have e1:ρ x=.int k n:=O5 ha;exact tL s hb (by simp[execOp,Instr.makeMap,run_underlying hu,e1,asInt,asIntOf])
   ·cases hr
  ·cases hc
theorem UT (vs:List Value):∀(n off:Nat) (arr:Array Value),off+n+vs.length<=arr.size ->
  (vs.zipIdx n).foldl (λ(cs:Array Value) (p:Value×Nat)=>cs.setIfInBounds (off+p.2) p.1) arr=over arr (off+n) vs:=by
 induction vs with
 |nil=>intro n off arr _;simp[over]
 |cons v vs ih=>
  intro n off arr h;simp only[List.zipIdx_cons,List.foldl_cons];rw[ih (n+1) off _ (by simp at h ⊢;omega)];apply Array.ext_getElem?;intro i;have h1:off+n+(v::vs).length<=arr.size:=h;have h2:off+(n+1)+vs.length<=(arr.setIfInBounds (off+n) v).size:=by simp at h ⊢;omega
  by_cases hi:i=off+n
  ·subst hi;rw[Qt _ _ _ h2 _ Aa];have:=Y3 arr (off+n) (v::vs) h1 0 Ac;simp only[BI] at this;rw[this];have:off+n<arr.size:=by simp at h;omega
   simp[this]
  ·by_cases hin:off+n<i/\i<off+n+(v::vs).length
   ·obtain⟨j,rfl⟩:∃j,i=off+(n+1)+j:=⟨i-(off+(n+1)),Aa⟩;have hj:j<vs.length:=by simp at hin;omega
    rw[Y3 _ _ _ h2 j hj];have:=Y3 arr (off+n) (v::vs) h1 (j+1) (by simp;omega);rw[show off+n+(j+1)=off+(n+1)+j from Aa] at this;rw[this];rfl
   ·rw[Qt _ _ _ h2 i (by simp at hin;omega),Qt _ _ _ h1 i Aa];rw[Bt Aa]
theorem NP {φ:Emb} {cs ls:EB} {arr:Array Value} {vs:List Value} (hc:A1 (Fx φ) cs arr.toList) (hv:A1 (Fx φ) ls vs) (o:Nat) :
  A1 (Fx φ) (cs.take o++ls++cs.drop (o+ls.length)) (over arr o vs).toList:=by have:=A5 hv;simp only[over];rw[this];exact D0 (D0 (Gs _ hc) hv) (Gh _ hc)
theorem T5 {φ:Emb} {ρ:Operand->Value} {pl:Nat->Option (Nat×Nat)}:∀(parts:List (Nat×Operand)) (ps:Es) (xs:EA) (cs cs':EB) (arr:Array Value),
  Jn pl parts=some ps->Mu cs ps xs=some cs'->A1 (Fx φ) cs arr.toList->A1 (Gr φ) xs ((parts.map (·.2)).map ρ) ->
  ∃arr',Instr.fill pl arr (parts.map λp=>(p.1,ρ p.2))=some arr'/\A1 (Fx φ) cs' arr'.toList
 |[],ps,xs,cs,cs',arr,hp,hl,hc,ha=>by simp[Jn] at hp;subst hp;cases ha;simp[Mu] at hl;subst hl;exact⟨arr,rfl,hc⟩
 |(i,x)::parts,ps,xs,cs,cs',arr,hp,hl,hc,ha=>by
  unfold Jn at hp;split at hp
  ·next p hpi=>
   split at hp
   ·next r hr=>
    cases hp;cases ha with
    |cons hx ha=>
    obtain⟨off,n⟩:=p;unfold Mu at hl;split at hl;·next e1 e2=>cases e1
    ·next o' n' ps' c xs' e1 e2=>
     cases e1;cases e2;split at hl
     ·next hcond=>
      have hv:=Jo.cells hx;have hlen:=A5 hv;have hclen:=A5 hc;have hsz:(ρ x).cells.size=n:=by rw[<-hcond.1,hlen];simp
      have hfit:off+(ρ x).cells.toList.length<=arr.size:=by simp at hclen ⊢;omega
      have hrel:=NP hc hv off;rw[hcond.1] at hrel;obtain⟨arr',f1,f2⟩:=T5 parts _ _ _ _ _ hr hl hrel ha;refine⟨arr',?_,f2⟩;simp only[AG,Instr.fill,hpi];have hcnd:((ρ x).cells.size !=n||decide (off+(ρ x).cells.size>arr.size))=false:=by simp at hfit ⊢;omega
      simp only[ne_eq,hsz] at hcnd ⊢;rw[<-Array.foldl_toList,Array.toList_zipIdx];have hf:=UT (ρ x).cells.toList 0 off arr (by simpa using hfit);simp only[BI] at hf;rw[hf,f1];simp at hfit;simp;omega
     ·cases hl
    ·cases hl
   ·cases hp
  ·cases hp
theorem NQ (P:Program) (t:TypeId) (parts:Array (Nat×Operand)):Ok P (.build t parts):=by
 intro vop xs hc;simp only[cOp] at hc;have key:∀(z:EB) (pl:Nat->Option (Nat×Nat)) (ps:Es),Ly P t=some z->Jn pl parts.toList=some ps ->
   (∀(ρ:Operand->Value) (arr:Array Value) (it:TypeInfo) (zv:Value),P.info? t=some it->it.zero=some zv->Instr.fill pl zv.cells (parts.toList.map λp=>(p.1,ρ p.2))=some arr->P.built t (parts.toList.map λp=>(p.1,ρ p.2))=some arr) ->
   Xh P (.build t parts) (.build z ps) (parts.toList.map (·.2)):=by
  intro z pl ps hz hps hbuilt
  intro o ho φ h nx w ρ args v h' hr s _ ha
  obtain⟨dst,op,type,pos,after,guard⟩:=o
  simp only at ho;subst ho
  simp only[VOp.run] at hr
  unfold fG at hr
  split at hr
  ·next cs hl=>
   cases hr
   obtain⟨it,zv,h1,h2,h3⟩:=Nn (φ:=φ) hz
   obtain⟨arr,e1,e2⟩:=T5 parts.toList ps args z cs zv.cells hps hl h3 ha
   have e3:=hbuilt ρ arr it zv h1 h2 e1
   refine D9 (v':=.agg arr) s ?_ ⟨arr.toList,Ac,e2⟩
   have e4:(Instr.build t (parts.map λp=>(p.1,ρ p.2))).run P w=.ok (.agg arr) w:=run_build w t _ arr (by simpa using e3)
   simp[execOp,e4]
  ·cases hr
 split at hc
 ·next z fs hz hu=>
  split at hc
  ·next pls hpls=>
   cases hps:Jn (λi=>pls[i]?) parts.toList with
   |none=>simp[hps] at hc
   |some ps=>simp only[hps,AK,Sj,Pj,Ff.op.injEq] at hc;obtain⟨rfl,rfl⟩:=hc;refine key z _ ps hz hps λρ arr it zv h1 h2 h3=>?_;simp only[Program.built,h1,hu,h2,hpls];simpa using h3
  ·cases hc
 ·next z n e hz hu=>
  split at hc
  ·next k hk=>
   cases hps:Jn (λi=>some (i*k,k)) parts.toList with
   |none=>simp[hps] at hc
   |some ps=>simp only[hps,AK,Sj,Pj,Ff.op.injEq] at hc;obtain⟨rfl,rfl⟩:=hc;refine key z _ ps hz hps λρ arr it zv h1 h2 h3=>?_;obtain⟨ie,hie,rfl⟩:=Oc hk;simp only[Program.built,h1,hu,h2,hie];exact h3
  ·cases hc
 ·cases hc
theorem Rw (z:EB):∀n,(Jl z n).length=n*z.length
 |0=>by simp[Jl]
 |n+1=>by simp[Jl,Rw z n,Bg,DW]
theorem Y5 (z:EB) (hz:0<z.length):∀(n i:Nat),i<n*z.length->(Jl z n)[i]?=z[i % z.length]?
 |0,i,h=>by simp at h
 |n+1,i,h=>by
  simp only[Jl];by_cases hi:i<z.length;·rw[Ai hi,Bz hi]
  ·rw[Am Aa,Y5 z hz n (i-z.length) (by rw[Bg] at h;omega)];rw[Nat.mod_eq_sub_mod (by omega:i>=z.length)]
theorem Wr {φ:Emb} {z:EB} {zv:Array Value} (hz:A1 (Fx φ) z zv.toList) (h0:0<z.length) (n:Nat):A1 (Fx φ) (Jl z n) (madeCells zv (n*z.length)).toList:=by
 have hl:=A5 hz;refine L4 (by simp[Rw,madeCells]) λi a ha=>?_;have hi:i<n*z.length:=by rw[<-Rw z n];exact(Gi.1 ha).1
 rw[Y5 z h0 n i hi] at ha;obtain⟨v,h1,h2⟩:=D3 hz _ ha;refine⟨v,?_,h2⟩;have hsz:zv.size=z.length:=by rw[hl];simp
 have hm:i % z.length<zv.size:=by rw[hsz];exact Cu _ h0
 simp only[DC] at h1 ⊢;rw[CI hm] at h1;simp[madeCells,hi,hsz,getElem!_pos zv (i % z.length) hm];simpa using h1
theorem Y6 {φ:Emb} {b:Key} {r n es tot:Nat} (len:Nat) (hlen:len<=n):Fx (φ.set b ⟨r,0,tot⟩) (.slice b 0 len es (some n)) (.slice (some ⟨r,0,none⟩) len n):=
 ⟨_,n,rfl,hlen,Ac,.inr ⟨_,Emb.D6 _ _ _,Ac,Ac⟩⟩
theorem lH (P:Program) (t:TypeId) (len:Nat) (parts:Array (Nat×Operand)):Ok P (.buildSlice t len parts):=by
 intro vop xs hc;simp only[cOp] at hc;split at hc
 ·next e hu=>
  split at hc
  ·next z n hz hn=>
   split at hc
   ·next hcond=>
    obtain⟨hlim,hzl,hn0⟩:=hcond;cases hps:Jn (λi=>some (i*n,n)) parts.toList with
    |none=>simp[hps] at hc
    |some ps=>
     simp only[hps,AK,Sj,Pj,Ff.op.injEq] at hc;obtain⟨rfl,rfl⟩:=hc;intro o ho φ h nx w ρ args v h' hr s hb ha;obtain⟨dst,op,type,pos,after,guard⟩:=o;simp only at ho;subst ho;simp only[VOp.run] at hr;unfold Vl at hr;split at hr
     ·next cs hl=>
      cases hr;obtain⟨it,zv,h1,h2,h3⟩:=Nn (φ:=φ) hz;have hmade:=Wr h3 Aa len;rw[hzl] at hmade;obtain⟨arr,e1,e2⟩:=T5 parts.toList ps args _ cs _ hps hl hmade ha;obtain⟨g1,g2⟩:=Np (w':=w.alloc (.cells arr e)) s hb e2 [] e (0,0) true (λ_=>rfl) (by rw[Ay];rfl);refine⟨.slice (some ⟨w.heap.size,0,none⟩) len len,w.alloc (.cells arr e),.inl ?_,_,g1,g2,Y6 len Rl⟩;have hno:¬(16777216<len*n):=Aa;by_cases h0:len*n=0
      ·have hm0:madeCells zv.cells 0=#[]:=by simp[madeCells,Array.range_zero']
       rw[h0,hm0] at e1;simp[execOp,Instr.buildSlice,run_underlying hu,run_sizeOf hn,h0,Array.range_zero',e1,newRow]
      ·unfold madeCells at e1;simp[execOp,Instr.buildSlice,run_underlying hu,run_sizeOf hn,hno,h0,Qu h1 h2,e1,newRow]
     ·cases hr
   ·cases hc
  ·cases hc
 ·cases hc
theorem oJ (P:Program) (t:TypeId) (l c:Operand):Ok P (.makeSlice t l c):=by
 intro vop xs hc;simp only[cOp] at hc;split at hc
 ·next e hu=>
  split at hc
  ·next z n k hz hn hk=>
   split at hc
   ·next hcond=>
    obtain⟨hzl,hn0⟩:=hcond;cases hc;intro o ho φ h nx w ρ args v h' hr s hb ha;obtain⟨dst,op,type,pos,after,guard⟩:=o;simp only at ho;subst ho;simp only[VOp.run] at hr;unfold Mv at hr;split at hr
    ·next kl li kc ci=>
     split at hr
     ·next hcnd=>
      obtain⟨c1,c2,c3,c4⟩:=hcnd;cases hr;obtain⟨a1,a2⟩:=fS ha;have e1:ρ l=.int kl li:=a1;have e2:ρ c=.int kc ci:=a2;obtain⟨it,zv,h1,h2,h3⟩:=Nn (φ:=φ) hz;obtain⟨it1,f1,f2⟩:=Oc hn;obtain⟨it2,f3,f4⟩:=T3 hk;rw[h1] at f1 f3;cases f1;cases f3;have c4':k*ci.toNat<=281474976710656:=Nat.le_of_ble_eq_true c4;have hb48:(it.bytes:Int)*ci<=281474976710656:=by rw[f4,<-Int.toNat_of_nonneg (show 0<=ci by omega)];have:((k*ci.toNat:Nat):Int)<=281474976710656:=Aa;simpa using this
      have hrun:=run_make (P:=P) w t e it zv hu h1 h2 kl kc li ci c1 c2 hb48 Aa;rw[f2] at hrun;have hmade:=Wr h3 Aa ci.toNat;rw[hzl] at hmade;obtain⟨g1,g2⟩:=Np (w':=w.alloc (.cells (madeCells zv.cells (ci.toNat*n)) e)) s hb hmade [] e (0,0) true (λ_=>rfl) (by rw[Ay];rfl);exact⟨_,_,.inl (by simp[execOp,e1,e2,hrun]),_,g1,g2,Y6 li.toNat Aa⟩
     ·cases hr
    ·cases hr
   ·cases hc
  ·cases hc
 ·cases hc
section
variable {P:Program} {φ:Emb} {ρ:Operand->Value}
theorem tM {A:Array Operand} {a:AV} (h:A1 (Gr φ) [a] (A.toList.map ρ)):∃v,A.map ρ=#[v]/\Gr φ a v:=by
 generalize hm:A.toList.map ρ=m at h;cases h with
 |cons h t=>cases t;exact⟨_,by apply Db;simpa using hm,h⟩
theorem NF {A:Array Operand} {a b:AV} (h:A1 (Gr φ) [a,b] (A.toList.map ρ)):∃v u,A.map ρ=#[v,u]/\Gr φ a v/\Gr φ b u:=by
 generalize hm:A.toList.map ρ=m at h;cases h with
 |cons h t=>cases t with
  |cons h2 t=>cases t;exact⟨_,_,by apply Db;simpa using hm,h,h2⟩
theorem bind_some {A:Array TypeId} {i:Nat} {d:TypeDesc} (h:(A[i]?).bind P.underlying=some d):∃t,A[i]?=some t/\P.underlying t=some d:=by
 cases hA:A[i]? with
 |none=>simp[hA] at h
 |some t=>simp[hA] at h;exact⟨t,rfl,h⟩
theorem Gd (dst:Option Tmp) (b:Builtin) (A:Array Operand) (ats:Array TypeId) (ty:TypeId) (pos:String) (af:Array Edge) (g:Option (Nat×Bool)) :
  execOp ρ ⟨dst,.call ⟨.builtin b,A,ats⟩,ty,pos,af,g⟩=builtin b ats ty (A.map fun|.const _=>true|_=>false) (A.map ρ):=rfl
variable {w:World}
theorem cL {h:Heap} {nx:Nat} (s:Sim φ h.get nx w) {es:Nat} {x:SV} {new:EB} {n:Nat} (e:Il h es x=some (new,n)) {vx:Value} (hx:Fx φ x vx) :
  new.length=n*es/\(Builtin.lenOf vx).run P w=.ok n w/\∃vs:List Value,A1 (Fx φ) new vs /\
   ∀(m:Nat) (w':World),m<=n->w'.heap=w.heap->(Builtin.firstCells es m vx).run P w'=.ok (vs.take (m*es)).toArray w':=by
 unfold Il at e;split at e;·cases e;cases hx;refine⟨Ac,by simp[Builtin.lenOf],[],.nil,λm w' _ _=>by simp[Builtin.firstCells]⟩
 ·next b o len es' c=>
  split at e
  ·next hes=>
   subst hes;split at e
   ·next l hread=>
    cases e;obtain⟨a,C,rfl,hlc,_,hloc⟩:=hx;by_cases hc:C=0;·have hl0:n=0:=Aa;subst hl0;rw[Bo,aT] at hread;cases hread;refine⟨Ac,by simp[Builtin.lenOf],[],.nil,λm w' hm _=>?_⟩;have:m=0:=Aa;subst this;simp[Builtin.firstCells,loadCells,loadCellsFrom]
    ·obtain⟨lc,f1,rfl,_⟩:=hloc.resolve_left hc;obtain⟨hl,vs,hv,hcell⟩:=s.read f1 hread;have hvl:vs.length=n*es:=by rw[<-A5 hv,hl]
     refine⟨hl,by simp[Builtin.lenOf],vs,hv,λm w' hm hw'=>?_⟩;have hmn:m*es<=n*es:=AZ _ hm;have hlen:(vs.take (m*es)).length=m*es:=by simp;omega
     have:=run_loadCells_list (P:=P) w' (⟨lc.blk,o+lc.off,none⟩:Addr) (vs.take (m*es)) (λj v hj=>by
      rw[AT] at hj
      split at hj
      ·have hc:=hcell j v hj
       simp only[World.cell?] at hc ⊢
       rw[hw'];exact hc
      ·cases hj)
     rw[hlen] at this;simpa[Builtin.firstCells] using this
   ·cases e
  ·cases e
 ·next sl=>
  split at e
  ·next hes=>
   subst hes;cases e;obtain⟨hlt,rfl⟩:=hx;refine⟨Ac,by simp[Builtin.lenOf];exact Y4 sl,sl.map (λn=>Value.int .u8 (n:Nat)),Qh _ _ _ (λn _=>rfl),λm w' hm _=>?_⟩;have hex:(bs sl).extract 0 m=bs (sl.take m):=by rw[gA];simp
   have hex':(⟨(sl.map UInt8.ofNat).toArray⟩:ByteArray).extract 0 m=bs (sl.take m):=hex;simp only[Builtin.firstCells,hex',Sem.run_pure];congr 2;simp only[bs,List.map_toArray,CS,<-Dq,DB];congr 1;apply List.map_congr_left;intro n hn;have:=hlt n (Bq hn);simp only[Function.comp];rw[ofNat_toNat this]
  ·cases e
 ·cases e
theorem room_le {n bytes:Nat} (h:room n bytes=true):2*n*bytes<=281474976710656:=Nat.le_of_ble_eq_true h
theorem Mj {ats:Array TypeId} {ty st xt e:TypeId} {d:TypeDesc} {i:TypeInfo} {es sLen sCap n:Nat} {base:Option Addr} {vx:Value} {news:Array Value} {w':World} (h0:ats[0]?=some st) (hst:P.underlying st=some (.slice e))
  (h1:ats[1]?=some xt) (hxt:P.underlying xt=some d) (hd:d=.string∨∃u,d=.slice u) (hi:P.info? e=some i) (hes:i.size=es) (hl:(Builtin.lenOf vx).run P w=.ok n w)
  (hnew:(Builtin.firstCells es n vx).run P w=.ok news w) (hle:sLen+n<=sCap) (hw:∀a,base=some a->(storeCells (a.add (sLen*es)) news.toList).run P w=.ok () w') (hno:base=none->w'=w) :
  (Builtin.append_ ats ty #[.slice base sLen sCap,vx]).run P w=.ok (.slice base (sLen+n) sCap) w':=by
 subst hes;cases base with
 |none=>have:=hno rfl;subst this;rcases hd with rfl|⟨u,rfl⟩<;>simp only[Builtin.append_,h0,h1,Bn,Bb,Bc,Sem.run_bind,run_underlying hst,run_underlying hxt,Result.andThen_ok,Sem.run_pure,sizeOf,typeInfo,run_program,hi,hl,Fj,Ag,hle,Ak,hnew,CH]
 |some a=>rcases hd with rfl|⟨u,rfl⟩<;>simp only[Builtin.append_,h0,h1,Bn,Bb,Bc,Sem.run_bind,run_underlying hst,run_underlying hxt,Result.andThen_ok,Sem.run_pure,sizeOf,typeInfo,run_program,hi,hl,Fj,Ag,hle,Ak,hnew,hw a rfl,CH]
theorem T9 {ats:Array TypeId} {ty st xt e:TypeId} {d:TypeDesc} {i:TypeInfo} {z:Value} {es by' sLen sCap n:Nat} {base:Option Addr} {vx:Value} {olds news:Array Value} (h0:ats[0]?=some st) (hst:P.underlying st=some (.slice e))
  (h1:ats[1]?=some xt) (hxt:P.underlying xt=some d) (hd:d=.string∨∃u,d=.slice u) (hi:P.info? e=some i) (hz:i.zero=some z) (hes:i.size=es) (hby:i.bytes=by') (hby0:by'≠0) (hl:(Builtin.lenOf vx).run P w=.ok n w)
  (hold:(Builtin.firstCells es sLen (.slice base sLen sCap)).run P w.drew=.ok olds w.drew) (hnew:(Builtin.firstCells es n vx).run P w.drew=.ok news w.drew) (hgt:sCap<sLen+n) (hroom:room (sLen+n) by'=true) :
  (Builtin.append_ ats ty #[.slice base sLen sCap,vx]).run P w =
   .ok (.slice (some ⟨w.heap.size,0,none⟩) (sLen+n) (grownCap w (sLen+n) sCap e)) (w.drew.alloc (.cells (olds++news++Builtin.zeroCells z.cells (grownCap w (sLen+n) sCap e-(sLen+n))) e)):=by
 subst hes;subst hby;have hn:¬(sLen+n<=sCap):=Aa;have hr:=room_le hroom;have h48:¬(Builtin.nextslicecap (sLen+n) sCap*i.bytes>2 ^ 48):=by have h5:=nextslicecap_le hgt;have h6:Builtin.nextslicecap (sLen+n) sCap*i.bytes<=2*(sLen+n)*i.bytes:=AZ _ h5;omega
 have hcond:¬(((sLen+n:Nat):Int)>IntKind.i64.max/\(False∨i.bytes=0)):=by simp[hby0]
 rcases hd with rfl|⟨u,rfl⟩<;>simp only[Builtin.append_,h0,h1,Bn,Bb,Bc,Sem.run_bind,run_underlying hst,run_underlying hxt,Result.andThen_ok,Sem.run_pure,sizeOf,typeInfo,run_program,hi,hl,Fj,Ag,hn,hcond,h48,
  run_choose,Question.forced,run_askRoom,World.drew_eq,hold,hnew,zeroValue,hz,newRow,run_newObj,World.alloc_eq,CH,Ak,grownCap,World.size_drew]
end
theorem Sim.renew {φ:Emb} {h h':Heap} {nx:Nat} {w:World} (s:Sim φ h.get nx w) (hb:φ h.next=none) {b b':Key} {o k:Nat} {new:EB}
  (e:h.renew b o k new=some (b',h')) {l:Loc} (hφ:k=0∨φ b=some l) {vs:List Value} (hv:A1 (Fx φ) new vs) :
  b'=h.next/\h'.next=h.next.succ/\∃olds:List Value,olds.length=k/\(∀j v,olds[j]?=some v->w.cell? ((⟨l.blk,o+l.off,none⟩:Addr).add j)=some v) /\
   ∀(w':World) (rest:List Value) (t:TypeId),w'.heap=w.heap.push (.cells (olds++vs++rest).toArray t (0,0))->(w'.os=w.os/\w'.output=w.output) ->
    (∀nx',nx<=nx'->h'.next.toNat<=nx'->Sim (φ.set h.next ⟨w.heap.size,0,(olds++vs++rest).length⟩) h'.get nx' w') /\
    Ext φ h.get h.next.toNat w (φ.set h.next ⟨w.heap.size,0,(olds++vs++rest).length⟩) h'.get h'.next.toNat w':=by
 unfold Heap.renew at e;split at e
 ·next h0=>
  cases e;subst h0;refine⟨rfl,rfl,[],rfl,Ac,λw' rest t hw' ho'=>?_⟩;exact Np s hb hv rest t (0,0) true (λ_=>rfl) (by simpa using hw') ho'
 ·next h0=>
  split at e
  ·next c m hc=>
   split at e
   ·next body hcp=>
    cases e;obtain⟨own,anc,hg⟩:=fQ hc;obtain⟨hle,c',rfl,hc1,hc2⟩:=Mw hcp;have hφ:=hφ.resolve_left h0;obtain⟨ob,hw,arr,t,fr,rfl,hs,hm,_,hcell⟩:=s.blk b _ l hg hφ;have hlen:=A5 hv;refine⟨rfl,rfl,(List.range k).map (λj=>arr.getD (l.off+(o+j)) undef),Ac,λj v hj=>?_,λw' rest t' hw' ho'=>?_⟩
    ·have hj':j<k:=by have:=(Gi.1 hj).1;simpa using this
     simp[hj'] at hj;obtain⟨sv,v',_,h2,_⟩:=hcell (o+j) Aa;rw[Jp];simp only[World.cell?,hw];rw[show o+l.off+j=l.off+(o+j) from Aa];rw[h2] at hj ⊢;simp at hj;simp[hj]
    ·refine T4 s hb ⟨.cells c' (k+new.length),true,[]⟩ _ rfl hw' ⟨_,t',(0,0),rfl,Ac,by simp;omega,λ_=>rfl,λi hi=>?_⟩ ho';have hle':=Emb.T2 (φ:=φ) ⟨w.heap.size,0,((List.range k).map (λj=>arr.getD (l.off+(o+j)) undef)++vs++rest).length⟩ hb;by_cases hik:i<k;·obtain⟨sv,v,h1,h2,h3⟩:=hcell (o+i) Aa;refine⟨sv,v,by rw[hc1 i hik];exact h1,?_,h3.mono hle'⟩;simp only[Bn,AO];rw[AN,Ai (by simp;omega)];simp[hik,h2]
     ·obtain⟨j,rfl⟩:∃j,i=k+j:=⟨i-k,Aa⟩;have hj:j<new.length:=Aa;obtain⟨v,h1,h2⟩:=D3 hv j (a:=new[j]) (by simp[hj]);refine⟨new[j],v,by rw[hc2 j hj];simp[hj],?_,h2.mono hle'⟩;simp only[Bn,AO];rw[AN,Am Ac];simp only[Lm,CL,show k+j-k=j from Aa];rw[Ai Aa];exact h1
   ·cases e
  ·cases e
section
variable {P:Program} {φ:Emb} {w:World}
theorem lI {es n c:Nat} {a:Addr} {olds:List Value} (hl:olds.length=n*es) (hc:∀j v,olds[j]?=some v->w.cell? (a.add j)=some v) :
  (Builtin.firstCells es n (.slice (some a) n c)).run P w.drew=.ok olds.toArray w.drew:=
 run_firstCells_some (P:=P) w.drew es n a n c olds hl (by simpa using hc)
theorem Ws {z:EB} {zv:Value} (h:A1 (Fx φ) z zv.cells.toList) (n:Nat):(Builtin.zeroCells zv.cells n).size=n*z.length:=by rw[size_zeroCells,A5 h];simp
theorem Oe {b:Key} {r n es cap tot:Nat} (hle:n<=cap) (ht:cap*es=tot):Fx (φ.set b ⟨r,0,tot⟩) (.slice b 0 n es none) (.slice (some ⟨r,0,none⟩) n cap):=
 ⟨_,cap,rfl,hle,Ac,.inr ⟨_,Emb.D6 _ _ _,Ac,λ_=>by simp[ht]⟩⟩
end
theorem gC {P:Program} {φ:Emb} {h h':Heap} {nx:Nat} {w:World} (s:Sim φ h.get nx w) (hb:φ h.next=none) {ats:Array TypeId} {ty st xt e:TypeId} {d:TypeDesc} {es by' n:Nat} (h0:ats[0]?=some st) (hst:P.underlying st=some (.slice e))
  (h1:ats[1]?=some xt) (hxt:P.underlying xt=some d) (hd:d=.string∨∃u,d=.slice u) (hes:Gv P e=some es) (hby:Ty P e=some by') (hby0:by'≠0) {z:EB} (hz:Ly P e=some z) (hzl:z.length=es)
  {x:SV} {new:EB} (hsrc:Il h es x=some (new,n)) {vs vx:Value} (hx:Fx φ x vx) {sv r:SV} (hs:Fx φ sv vs) (ha:Gx h es by' sv new n=some (r,h')) :
  ∃v' w',(Builtin.append_ ats ty #[vs,vx]).run P w=.ok v' w'/\∃φ',(∀nx',nx<=nx'->h'.next.toNat<=nx'->Sim φ' h'.get nx' w')/\Ext φ h.get h.next.toNat w φ' h'.get h'.next.toNat w'/\Fx φ' r v':=by
 obtain⟨hnl,hlen,news,hnv,hfirst⟩:=cL (P:=P) s hsrc hx;obtain⟨i,zv,hi,hiz,hzr⟩:=Nn (φ:=φ) hz;have hies:i.size=es:=by obtain⟨i',hi',h2⟩:=Oc hes;rw[hi] at hi';cases hi';exact h2
 have hiby:i.bytes=by':=by obtain⟨i',hi',h2⟩:=T3 hby;rw[hi] at hi';cases hi';exact h2
 have hnvl:news.length=n*es:=by rw[<-A5 hnv,hnl]
 have hfn:∀w',w'.heap=w.heap->(Builtin.firstCells es n vx).run P w'=.ok news.toArray w':=λw' hw'=>by
  have:=hfirst n w' Rl hw'
  rwa [<-hnvl,AB] at this
 have hzsz:=λk=>Ws (φ:=φ) hzr k;unfold Gx at ha;split at ha
 ·-- a nil slice
  cases hs
  split at ha
  ·next hn0=>
   cases ha
   subst hn0
   refine⟨_,w,Mj h0 hst h1 hxt hd hi hies hlen (hfn w rfl) Rl (λa ha=>by cases ha) (λ_=>rfl),φ,λnx' g1 _=>s.up g1,Ext.refl _ _ _ _,rfl⟩
  ·next hn0=>
   split at ha
   ·next hroom=>
    cases ha
    have hgt:(0:Nat)<0+n:=Aa
    have hrun:=T9 (P:=P) (w:=w) (ty:=ty) (base:=none) (sLen:=0) (sCap:=0) (olds:=#[]) (news:=news.toArray) h0 hst h1 hxt hd hi hiz hies hiby hby0 hlen (by simp[Builtin.firstCells]) (hfn w.drew rfl) hgt (by simpa using hroom)
    have hge:=grownCap_ge w (0+n) 0 e
    have hobj:(#[]++news.toArray++Builtin.zeroCells zv.cells (grownCap w (0+n) 0 e-(0+n)))=(news++(Builtin.zeroCells zv.cells (grownCap w (0+n) 0 e-(0+n))).toList).toArray:=by
     apply Db;simp
    rw[hobj] at hrun
    obtain⟨g1,g2⟩:=Np (w':=w.drew.alloc (.cells (news++(Builtin.zeroCells zv.cells (grownCap w (0+n) 0 e-(0+n))).toList).toArray e)) s hb hnv (Builtin.zeroCells zv.cells (grownCap w (0+n) 0 e-(0+n))).toList e (0,0) true (λ_=>rfl) rfl
    refine⟨_,_,hrun,_,g1,g2,?_⟩
    have:=Oe (φ:=φ) (b:=h.next) (r:=w.heap.size) (n:=n) (es:=es) (cap:=grownCap w (0+n) 0 e) (tot:=(news++(Builtin.zeroCells zv.cells (grownCap w (0+n) 0 e-(0+n))).toList).length) Aa
     (by simp only[La,Array.length_toList,hzsz,hnvl,hzl,<-Bg];congr 1;omega)
    simpa using this
   ·cases ha
 ·next b o len es' cap=>
  split at ha
  ·next hee=>
   subst hee;split at ha
   ·next hn0=>
    cases ha;subst hn0;obtain⟨a,C,rfl,hlc,hcap,hloc⟩:=hs;have hnil:news=[]:=BA (by simpa using hnvl);refine⟨_,w,Mj h0 hst h1 hxt hd hi hies hlen (hfn w rfl) Aa (λa _=>by simp[hnil,storeCells]) (λ_=>rfl),φ,λnx' g1 _=>s.up g1,Ext.refl _ _ _ _,⟨a,C,rfl,hlc,hcap,hloc⟩⟩
   ·next hn0=>
    obtain⟨a,C,rfl,hlc,hcap,hloc⟩:=hs;have fresh:∀(olds:List Value) (w0:World),olds.length=len*es->(C≠0->∀j v,olds[j]?=some v->w.cell? (a.add j)=some v)->C<len+n->room (len+n) by'=true ->
      (Builtin.append_ ats ty #[.slice (some a) len C,vx]).run P w=.ok (.slice (some ⟨w.heap.size,0,none⟩) (len+n) (grownCap w (len+n) C e)) (w.drew.alloc (.cells (olds++news++(Builtin.zeroCells zv.cells (grownCap w (len+n) C e-(len+n))).toList).toArray e)) /\
      grownCap w (len+n) C e*es=(olds++news++(Builtin.zeroCells zv.cells (grownCap w (len+n) C e-(len+n))).toList).length/\len+n<=grownCap w (len+n) C e:=by
     intro olds w0 hol hoc hgt hroom
     have hge:=grownCap_ge w (len+n) C e
     have hfo:(Builtin.firstCells es len (.slice (some a) len C)).run P w.drew=.ok olds.toArray w.drew:=by
      by_cases hC:C=0
      ·have hl0:len=0:=Aa
       subst hl0
       have:olds=[]:=BA (by simpa using hol)
       subst this
       simp[Builtin.firstCells,loadCells,loadCellsFrom]
      ·exact lI hol (hoc hC)
     have hrun:=T9 (P:=P) (w:=w) (ty:=ty) (base:=some a) (sLen:=len) (sCap:=C) (olds:=olds.toArray) (news:=news.toArray) h0 hst h1 hxt hd hi hiz hies hiby hby0 hlen hfo (hfn w.drew rfl) hgt hroom
     have hobj:(olds.toArray++news.toArray++Builtin.zeroCells zv.cells (grownCap w (len+n) C e-(len+n)))=(olds++news++(Builtin.zeroCells zv.cells (grownCap w (len+n) C e-(len+n))).toList).toArray:=by
      apply Db;simp
     rw[hobj] at hrun
     refine⟨hrun,?_,hge⟩
     simp only[La,Array.length_toList,hzsz,hnvl,hzl,hol,<-Bg];congr 1;omega
    split at ha
    ·next c=>
     have hC:C=c:=hcap c rfl;subst hC;split at ha
     ·next hle=>
      split at ha
      ·next h2 hw=>
       cases ha;obtain⟨l,f1,rfl,_⟩:=hloc.resolve_left Aa;obtain⟨arr,t,g1,g2,g3,g4,g5⟩:=s.write f1 hnv hw;have hst':=run_storeCells_at P l.blk (o+len*es+l.off) t news 0 arr w g1 (by simpa using g2) (Pe hnv);simp only[BI] at hst';refine⟨_,w.setRow l.blk (over arr (o+len*es+l.off) news),Mj h0 hst h1 hxt hd hi hies hlen (hfn w rfl) hle (λa ha=>?_) (λhh=>by cases hh),φ,λnx' k1 _=>g4.up k1,by rw[g3];exact g5 _,⟨_,C,rfl,hle,Ac,.inr ⟨l,f1,rfl,Ac⟩⟩⟩;cases ha;rw[Jp,show o+l.off+len*es=o+len*es+l.off from Aa];exact hst'
      ·cases ha
     ·next hle=>
      split at ha
      ·next hroom=>
       split at ha
       ·next b2 h2 hren=>
        cases ha;obtain⟨lc,hlc2⟩:∃lc:Loc,C≠0->φ b=some lc/\a=⟨lc.blk,o+lc.off,none⟩:=by
         rcases hloc with hh|⟨l,h1,h2,_⟩;·exact⟨⟨0,0,0⟩,λhne=>absurd hh hne⟩
         ·exact⟨l,λ_=>⟨h1,h2⟩⟩
        have hφ:len*es=0∨φ b=some lc:=by
         by_cases hh:C=0
         ·exact .inl (by have:len=0:=Aa
                         simp[this])
         ·exact .inr (hlc2 hh).1
        obtain⟨rfl,g2,olds,g3,g4,g5⟩:=s.renew hb hren hφ hnv;obtain⟨k1,k2,k3⟩:=fresh olds w g3 (λhh j v hj=>by
         rw[(hlc2 hh).2];exact g4 j v hj) Aa hroom
        obtain⟨q1,q2⟩:=g5 (w.drew.alloc (.cells (olds++news++(Builtin.zeroCells zv.cells (grownCap w (len+n) C e-(len+n))).toList).toArray e)) _ e rfl ⟨rfl,rfl⟩;exact⟨_,_,k1,_,q1,q2,Oe k3 k2⟩
       ·cases ha
      ·cases ha
    ·split at ha
     ·next hroom=>
      split at ha
      ·next b2 h2 hgr=>
       cases ha;by_cases hfit:len+n<=C
       ·obtain⟨l,f1,rfl,f3⟩:=hloc.resolve_left Aa;have f3:=f3 rfl;have hf:o+l.off+len*es+news.length<=l.tot:=by rw[hnvl,<-f3,show o+l.off+len*es+n*es=o+l.off+(len+n)*es from by rw[Bg];omega];have:=AZ es hfit;omega
        obtain⟨rfl,g2,arr,t,g3,g4,g5⟩:=s.FZ (nx':=max nx (h.next.toNat+1)) hb Aa Aa hgr f1 hnv hf;have hn2:h'.next.toNat=h.next.toNat+1:=by rw[g2];exact Key.toNat_succ _
        have hst':=run_storeCells_at P l.blk (o+l.off+len*es) t news 0 arr w g3 (by simpa using g4) (Pe hnv);simp only[BI] at hst';refine⟨_,w.setRow l.blk (over arr (o+l.off+len*es) news),Mj h0 hst h1 hxt hd hi hies hlen (hfn w rfl) hfit (λa ha=>?_) (λhh=>by cases hh),φ.set h.next ⟨l.blk,o+l.off,l.tot⟩,λnx' k1 k2=>?_,by rw[hn2];exact g5.2,⟨_,C,rfl,hfit,Ac,.inr ⟨_,Emb.D6 _ _ _,Ac,λ_=>by simp;omega⟩⟩⟩;·cases ha;rw[Jp];exact hst'
        ·exact g5.1.up Aa
       ·obtain⟨lc,hlc2⟩:∃lc:Loc,C≠0->φ b=some lc/\a=⟨lc.blk,o+lc.off,none⟩:=by
         rcases hloc with hh|⟨l,h1,h2,_⟩;·exact⟨⟨0,0,0⟩,λhne=>absurd hh hne⟩
         ·exact⟨l,λ_=>⟨h1,h2⟩⟩
        have hφ:len*es=0∨φ b=some lc:=by
         by_cases hh:C=0
         ·exact .inl (by have:len=0:=Aa
                         simp[this])
         ·exact .inr (hlc2 hh).1
        obtain⟨rfl,g2,olds,g3,g4,g5⟩:=s.sW (nx':=max nx (h.next.toNat+1)) hb Aa Aa hgr hφ hnv;have hn2:h'.next.toNat=h.next.toNat+1:=by rw[g2];exact Key.toNat_succ _
        obtain⟨k1,k2,k3⟩:=fresh olds w g3 (λhh j v hj=>by
         rw[(hlc2 hh).2];exact g4 j v hj) Aa hroom
        obtain⟨q1,q2⟩:=g5 (w.drew.alloc (.cells (olds++news++(Builtin.zeroCells zv.cells (grownCap w (len+n) C e-(len+n))).toList).toArray e)) _ e rfl ⟨rfl,rfl⟩;exact⟨_,_,k1,_,λnx' k4 k5=>q1.up Aa,by rw[hn2];exact q2,Oe k3 k2⟩
      ·cases ha
     ·cases ha
  ·cases ha
 ·cases ha
theorem JW {P:Program} (A:Array Operand) (ats:Array TypeId) {t e:TypeId} (h0:ats[0]?=some t) (hu:P.underlying t=some (.slice e)) :
  Xh P (.call ⟨.builtin .len,A,ats⟩) .lens A.toList:=by
 intro o ho φ h nx w ρ args v h' hr s _ ha;obtain⟨dst,op,type,pos,after,guard⟩:=o;simp only at ho;subst ho;simp only[VOp.run] at hr;unfold FT at hr;split at hr
 ·next b o' len es cap=>
  cases hr;obtain⟨v,e1,a,c,e2,_⟩:=tM ha;exact D9 (v':=.int .i64 (len:Nat)) s (by rw[Gd,e1,e2];simp[builtin,Builtin.len_,h0,run_underlying hu,goInt]) rfl
 ·cases hr;obtain⟨v,e1,e2⟩:=tM ha;have e2:v=.slice none 0 0:=e2;exact D9 (v':=.int .i64 ((0:Nat):Int)) s (by rw[Gd,e1,e2];simp[builtin,Builtin.len_,h0,run_underlying hu,goInt]) rfl
 ·cases hr
theorem tO {P:Program} (A:Array Operand) (ats:Array TypeId) {t:TypeId} (h0:ats[0]?=some t) (hu:P.underlying t=some .string) :
  Xh P (.call ⟨.builtin .len,A,ats⟩) .Pz A.toList:=by
 intro o ho φ h nx w ρ args v h' hr s _ ha;obtain⟨dst,op,type,pos,after,guard⟩:=o;simp only at ho;subst ho;simp only[VOp.run] at hr;unfold eC at hr;split at hr
 ·next sl=>
  cases hr;obtain⟨v,e1,hlt,e2⟩:=tM ha;have e2:v=.string (bs sl):=e2;exact D9 (v':=.int .i64 (sl.length:Nat)) s (by rw[Gd,e1,e2];simp[builtin,Builtin.len_,h0,run_underlying hu,goInt,Y4]) rfl
 ·cases hr
theorem tP {P:Program} (A:Array Operand) (ats:Array TypeId) {t e:TypeId} {n:Nat} (h0:ats[0]?=some t) (hu:P.underlying t=some (.array n e)) :
  Xh P (.call ⟨.builtin .len,A,ats⟩) (.P0 n) A.toList:=by
 intro o ho φ h nx w ρ args v h' hr s _ ha;obtain⟨dst,op,type,pos,after,guard⟩:=o;simp only at ho;subst ho;simp only[VOp.run] at hr;unfold eD at hr;split at hr
 ·next x=>
  cases hr;obtain⟨v,e1,e2⟩:=tM ha;exact D9 (v':=.int .i64 (n:Nat)) s (by rw[Gd,e1];simp[builtin,Builtin.len_,h0,run_underlying hu,goInt]) rfl
 ·cases hr
theorem Sim.map {φ:Emb} {h:Heap} {nx:Nat} {w:World} (s:Sim φ h.get nx w) {b:Key} {lc:Loc} (hφ:φ b=some lc) {l:List (CV×CV)} {own:Bool} {anc:ED} (hg:h.get b=some ⟨.map l,own,anc⟩) :
  ∃arr:Array MapEntry,w.heap[lc.blk]?=some (.map arr arr.size)/\(∀i (h:i<arr.size),arr[i].born=i)/\A1 (λp (e:MapEntry)=>Jo φ p.1 e.key/\Jo φ p.2 e.val) l arr.toList:=by obtain⟨o,hw,arr,rfl,hb,hr⟩:=s.blk b _ lc hg hφ;exact⟨arr,hw,hb,hr⟩
theorem G5 {P:Program} {w:World} {r:Nat} {o:Obj} (h:w.heap[r]?=some o) (hn:∀c e f,o≠.cells c e f):(getObj r).run P w=.ok o w:=by
 cases o with
 |cells c e f=>exact absurd rfl (hn c e f)
 |_=>simp only[getObj,Sem.run,h]
theorem JX {P:Program} (A:Array Operand) (ats:Array TypeId) {t a b:TypeId} (h0:ats[0]?=some t) (hu:P.underlying t=some (.map a b)) :
  Xh P (.call ⟨.builtin .len,A,ats⟩) .lE A.toList:=by
 intro o ho φ h nx w ρ args v h' hr s _ ha;obtain⟨dst,op,type,pos,after,guard⟩:=o;simp only at ho;subst ho;simp only[VOp.run] at hr;unfold Tp at hr;split at hr;·cases hr;obtain⟨v,e1,e2⟩:=tM ha;have e2:v=.map none:=e2;exact D9 (v':=.int .i64 ((0:Nat):Int)) s (by rw[Gd,e1,e2];simp[builtin,Builtin.len_,h0,run_underlying hu,goInt]) rfl
 ·next bk=>
  split at hr
  ·next l own anc hg=>
   cases hr;obtain⟨v,e1,lc,e2,e3⟩:=tM ha;obtain⟨arr,f1,_,f3⟩:=s.map e2 hg;have hl:=A5 f3;refine D9 (v':=.int .i64 (l.length:Nat)) s ?_ rfl;rw[Gd,e1,e3];simp[builtin,Builtin.len_,h0,run_underlying hu,goInt,G5 f1 Ac,hl]
  ·cases hr
 ·cases hr
theorem NR {P:Program} (A:Array Operand) (ats:Array TypeId) {t e:TypeId} (h0:ats[0]?=some t) (hu:P.underlying t=some (.slice e)) :
  Xh P (.call ⟨.builtin .cap,A,ats⟩) .cap A.toList:=by
 intro o ho φ h nx w ρ args v h' hr s _ ha;obtain⟨dst,op,type,pos,after,guard⟩:=o;simp only at ho;subst ho;simp only[VOp.run] at hr;unfold UJ at hr;split at hr
 ·next b o' len es k=>
  cases hr;obtain⟨v,e1,a,c,e2,_,e3,_⟩:=tM ha;have:=e3 k rfl;subst this;exact D9 (v':=.int .i64 (c:Nat)) s (by rw[Gd,e1,e2];simp[builtin,Builtin.cap_,h0,run_underlying hu,goInt]) rfl
 ·cases hr;obtain⟨v,e1,e2⟩:=tM ha;have e2:v=.slice none 0 0:=e2;exact D9 (v':=.int .i64 ((0:Nat):Int)) s (by rw[Gd,e1,e2];simp[builtin,Builtin.cap_,h0,run_underlying hu,goInt]) rfl
 ·cases hr
theorem lX {P:Program} {φ:Emb} {w:World} (m:Bool) (k:IntKind):∀(xs:EA) (x:Int) (vs:List Value) (r:SV),Nw m k x xs=some r->A1 (Gr φ) xs vs ->
  ∃v',(vs.foldlM (if m then Builtin.max2 else Builtin.min2) (.int k x)).run P w=.ok v' w/\Fx φ r v'
 |[],x,vs,r,h,ha=>by cases ha;simp[Nw] at h;subst h;exact⟨_,Ac,rfl⟩
 |y::xs,x,vs,r,h,ha=>by
  cases ha with
  |cons hy ha=>
  unfold Nw at h;split at h;·next e=>cases e
  ·next k' y' l e=>
   cases e;have hy':_=Value.int k' y':=hy;subst hy';obtain⟨v',h1,h2⟩:=lX m k _ _ _ _ h ha;refine⟨v',?_,h2⟩;cases m<;>simp[Builtin.max2,Builtin.min2] at h1 ⊢<;>exact h1
  ·cases h
theorem cM {P:Program} (m:Bool) (A:Array Operand) (ats:Array TypeId):Xh P (.call ⟨.builtin (if m then .max else .min),A,ats⟩) (.Nu m) A.toList:=by
 intro o ho φ h nx w ρ args v h' hr s _ ha;obtain⟨dst,op,type,pos,after,guard⟩:=o;simp only at ho;subst ho;simp only[VOp.run] at hr;unfold Yu at hr;split at hr
 ·next k x xs0=>
  unfold Hs at hr;split at hr
  ·next r hm=>
   cases hr;generalize hmm:A.toList.map ρ=vs at ha;cases ha with
   |cons hx ha=>
   have hx:_=Value.int k x:=hx;subst hx;obtain⟨v',h1,h2⟩:=lX (P:=P) (w:=w) m k _ _ _ _ hm ha;refine D9 (v':=v') s ?_ h2;rw[Gd];cases m;·simp only[Fj,Ag] at h1 ⊢;simp[builtin,Builtin.min_,hmm,h1]
   ·simp only[Ak] at h1 ⊢;simp[builtin,Builtin.max_,hmm,h1]
  ·cases hr
 ·cases hr
theorem cN {P:Program} (A:Array Operand) (ats:Array TypeId) {st xt e:TypeId} {d:TypeDesc} {es by':Nat} (h0:ats[0]?=some st) (hst:P.underlying st=some (.slice e))
  (h1:ats[1]?=some xt) (hxt:P.underlying xt=some d) (hd:d=.string∨∃u,d=.slice u) (hes:Gv P e=some es) (hby:Ty P e=some by') (hby0:by'≠0) {z:EB} (hz:Ly P e=some z) (hzl:z.length=es) :
  Xh P (.call ⟨.builtin .append,A,ats⟩) (.append es by') A.toList:=by
 intro o ho φ h nx w ρ args v h' hr s hb ha;obtain⟨dst,op,type,pos,after,guard⟩:=o;simp only at ho;subst ho;simp only[VOp.run] at hr;unfold O9 at hr;split at hr
 ·next sv x=>
  split at hr
  ·next new n hsrc=>
   split at hr
   ·next r h2 hap=>
    cases hr;obtain⟨vs,vx,e1,e2,e3⟩:=NF ha;obtain⟨v',w',f1,f2⟩:=gC (ty:=type) s hb h0 hst h1 hxt hd hes hby hby0 hz hzl hsrc e3 e2 hap;refine⟨v',w',.inl ?_,f2⟩;rw[Gd,e1];simp[builtin,f1]
   ·cases hr
  ·cases hr
 ·cases hr
theorem JY {P:Program} (A:Array Operand) (ats:Array TypeId) {st e:TypeId} {es:Nat} (h0:ats[0]?=some st) (hst:P.underlying st=some (.slice e)) (hes:Gv P e=some es) :
  Xh P (.call ⟨.builtin .copy,A,ats⟩) (.copy es) A.toList:=by
 intro o ho φ h nx w ρ args v h' hr s _ ha;obtain⟨dst,op,type,pos,after,guard⟩:=o;simp only at ho;subst ho;simp only[VOp.run] at hr;unfold Tq at hr;split at hr
 ·next dv x=>
  split at hr
  ·next src n hsrc=>
   obtain⟨vd,vx,e1,e2,e3⟩:=NF ha;obtain⟨hnl,hlen,vs,hnv,hfirst⟩:=cL (P:=P) s hsrc e3;split at hr;·cases hr;have e2:vd=.slice none 0 0:=e2;have hf:=hfirst 0 w Zl rfl;refine D9 (v':=.int .i64 ((0:Nat):Int)) s ?_ rfl;rw[Gd,e1,e2];simp[builtin,Builtin.copy_,h0,run_underlying hst,hlen,run_sizeOf hes,hf,goInt]
   ·next b o' len es' cap=>
    split at hr
    ·next hee=>
     subst hee;obtain⟨a,C,rfl,hlc,hcap,hloc⟩:=e2;have hmle:Nat.min n len<=n:=Nat.min_le_left n len;have hf:=hfirst (Nat.min n len) w hmle rfl;split at hr
     ·next hmin=>
      cases hr;have hmin':Nat.min n len=0:=hmin;refine D9 (v':=.int .i64 ((0:Nat):Int)) s ?_ rfl;rw[Gd,e1];rw[hmin'] at hf;simp at hf;simp[builtin,Builtin.copy_,h0,run_underlying hst,hlen,run_sizeOf hes,hmin',hf,goInt,storeCells]
     ·next hmin=>
      split at hr
      ·next h2 hw=>
       cases hr;have hC:C≠0:=by have:min n len<=len:=Nat.min_le_right n len;omega
       obtain⟨l,f1,rfl,_⟩:=hloc.resolve_left hC;have hv:=Gs (min n len*es) hnv;obtain⟨arr,t,g1,g2,g3,g4,g5⟩:=s.write f1 hv hw;have hst':=run_storeCells_at P l.blk (o'+l.off) t (vs.take (min n len*es)) 0 arr w g1 (by simpa using g2) (Pe hv);simp only[BI] at hst';refine⟨.int .i64 (min n len:Nat),w.setRow l.blk (over arr (o'+l.off) (vs.take (min n len*es))),.inl ?_,φ,λnx' k1 _=>g4.up k1,by rw[g3];exact g5 _,rfl⟩;rw[Gd,e1];have hst2:(storeCells ⟨l.blk,o'+l.off,none⟩ (vs.take (Nat.min n len*es))).run P w=.ok () (w.setRow l.blk (over arr (o'+l.off) (vs.take (min n len*es)))):=hst';simp only[builtin,Builtin.copy_,h0,Bn,Bb,Bc,Sem.run_bind,run_underlying hst,Result.andThen_ok,hlen,run_sizeOf hes,hf,hst2,Sem.run_pure,goInt]
      ·cases hr
    ·cases hr
   ·cases hr
  ·cases hr
 ·cases hr
theorem xX (P:Program) (b:Builtin) (A:Array Operand) (ats:Array TypeId):Ok P (.call ⟨.builtin b,A,ats⟩):=by
 intro vop xs hc;simp only[cOp,Qs] at hc;split at hc;·next hu=>cases hc;obtain⟨t,h0,hu⟩:=bind_some hu;exact tO A ats h0 hu
 ·next e hu=>cases hc;obtain⟨t,h0,hu⟩:=bind_some hu;exact JW A ats h0 hu
 ·next n e hu=>cases hc;obtain⟨t,h0,hu⟩:=bind_some hu;exact tP A ats h0 hu
 ·next a b hu=>cases hc;obtain⟨t,h0,hu⟩:=bind_some hu;exact JX A ats h0 hu
 ·next e hu=>cases hc;obtain⟨t,h0,hu⟩:=bind_some hu;exact NR A ats h0 hu
 ·cases hc;exact cM false A ats
 ·cases hc;exact cM true A ats
 ·next e hu=>
  obtain⟨t,h0,hu⟩:=bind_some hu;split at hc
  ·next u n k z h1 hn hk hz=>
   split at hc;·cases hc
   ·next hcond=>
    cases hc;obtain⟨xt,h1,hxt⟩:=bind_some h1;simp only[ne_eq,not_or,Classical.not_not] at hcond;exact cN A ats h0 hu h1 hxt (.inr ⟨_,rfl⟩) hn hk hcond.1 hz hcond.2
  ·next n k z h1 hn hk hz=>
   split at hc;·cases hc
   ·next hcond=>
    cases hc;obtain⟨xt,h1,hxt⟩:=bind_some h1;simp only[ne_eq,not_or,Classical.not_not] at hcond;exact cN A ats h0 hu h1 hxt (.inl rfl) hn hk hcond.1 hz hcond.2
  ·cases hc
 ·next e hu=>
  obtain⟨t,h0,hu⟩:=bind_some hu;cases hn:Gv P e with
  |none=>simp[hn] at hc
  |some n=>simp only[hn,AK,Sj,Pj,Ff.op.injEq] at hc;obtain⟨rfl,rfl⟩:=hc;exact JY A ats h0 hu hn
 ·cases hc
section
variable {P:Program} {w:World} {φ:Emb}
theorem Rx {t:TypeId} {ks:Lp} (h:Ix P t=some ks):match ks with
  |.one k=>shapeOf P t=some none/\leaves P 20 t=some [k]
  |.agg l=>(∃n,shapeOf P t=some (some n))/\leaves P 20 t=some l:=by
 unfold Ix at h
 split at h
 ·next k h1 h2=>cases h;exact⟨h1,h2⟩
 ·next n l h1 h2=>cases h;exact⟨⟨n,h1⟩,h2⟩
 ·cases h
theorem Kg (empty:Bool):∀(d:Nat) (t:TypeId) (ks:List Jk),leaves P d t=some ks->∀(D:Nat),d<=D->∀(xs:EB) (v:Value),xs.length=ks.length->Kb P φ t xs v ->
  (Instr.checkKey empty D t v).run P w=.ok () w
 |0,t,ks,h=>by simp[leaves] at h
 |d+1,t,ks,h=>by
  intro D hD xs v hl hv;obtain⟨D,rfl⟩:∃D',D=D'+1:=⟨D-1,Aa⟩;simp only[leaves] at h;split at h;·next hu=>simp[Instr.checkKey,run_underlying hu]
  ·next i hu=>simp[Instr.checkKey,run_underlying hu]
  ·next hu=>simp[Instr.checkKey,run_underlying hu]
  ·next fs hu=>
   split at h;·cases h
   ·have hsh:shapeOf P t≠some none:=λe=>by unfold shapeOf at e;cases hi:P.info? t<;>simp[hu,hi] at e
    rcases hv with⟨hn,_⟩|⟨n,_,vs,rfl,hv⟩;·exact absurd hn hsh
    ·simp only[Instr.checkKey,Sem.run_bind,run_underlying hu,Result.andThen_ok];rw[<-Array.forIn_toList];have key:∀(fs:List Field) (off:Nat) (q:List Jk),Ru P (leaves P d) fs off=some q->off+q.length=xs.length ->
       (forIn (m := Sem) fs () (fun f _ => if f.name ≠ "_" then do Instr.checkKey empty D f.type (← part f.type vs.toArray f.offset); pure (ForInStep.yield ()) else pure (ForInStep.yield ()))).run P w = .ok () w := by
      intro fs
      induction fs with
      |nil=>intro off q _ _;simp
      |cons f fs ih=>
       intro off q hq hlen
       simp only[Ru] at hq
       split at hq
       ·next hc=>
        split at hq
        ·next l hl=>
         split at hq
         ·next hsz=>
          split at hq
          ·next q' hq'=>
           cases hq
           have hone:shapeOf P f.type=some none->l.length=1:=(Kt (w:=w) (φ:=φ) d f.type l hl).1
           simp only[La] at hlen
           obtain⟨a,ha,hca⟩:=Vs (w:=w) (off:=off) hc.2.2 hsz hv Aa hone
           have hck:=Kg empty d f.type l hl D Aa _ a (by simp;omega) hca
           simp only[List.forIn_cons,hc.1,ne_eq,not_false_eq_true,Ak,Sem.run_bind,hc.2.1,ha,Result.andThen_ok,hck,Sem.run_pure]
           exact ih (off+l.length) q' hq' Aa
          ·cases hq
         ·cases hq
        ·cases hq
       ·cases hq
     have:=key fs.toList 0 ks h Aa;simp only[ne_eq] at this ⊢;rw[this];simp
  ·next n e hu=>
   split at h
   ·next hc=>
    split at h
    ·next l hll=>
     split at h
     ·next hsz=>
      cases h;have hsh:shapeOf P t≠some none:=λe=>by unfold shapeOf at e;cases hi:P.info? t<;>simp[hu,hi] at e
      rcases hv with⟨hn,_⟩|⟨_,_,vs,rfl,hv⟩;·exact absurd hn hsh
      ·simp only[Instr.checkKey,Sem.run_bind,run_underlying hu,Result.andThen_ok];rw[Dc];simp only[Std.Legacy.Range.size,CP,Nat.add_one_sub_one,Nat.div_one];have hone:shapeOf P e=some none->l.length=1:=(Kt (w:=w) (φ:=φ) d e l hll).1;have hrl:∀n,(sR l n).length=n*l.length:=by
        intro n;induction n with
        |zero=>simp[sR]
        |succ n ih=>simp[sR,ih,Bg,DW]
       have key:∀(m i:Nat),(i+m)*l.length<=xs.length ->
         (forIn (m:=Sem) (List.range' i m) () (λi _=>do Instr.checkKey empty D e (<-part e vs.toArray (i*(<-sizeOf e)));pure (ForInStep.yield ()))).run P w=.ok () w:=by
        intro m
        induction m with
        |zero=>intro i _;simp
        |succ m ih=>
         intro i hle
         have hle2:i*l.length+l.length<=xs.length:=by
          have:(i+1)*l.length<=(i+(m+1))*l.length:=AZ _ Aa
          rw[Bg,Ce] at this
          omega
         obtain⟨a,ha,hca⟩:=Vs (w:=w) (off:=i*l.length) hc.1 hsz hv hle2 hone
         have hck:=Kg empty d e l hll D Aa _ a (by simp;omega) hca
         simp only[List.range'_succ,List.forIn_cons,Sem.run_bind,run_sizeOf hsz,Result.andThen_ok,ha,hck,Sem.run_pure]
         exact ih (i+1) (by rw[show i+1+m=i+(m+1) from Aa];exact hle)
       rw[hrl] at hl;rw[key n 0 (by rw[AO];omega)];simp
     ·cases h
    ·cases h
   ·cases h
  ·cases h
theorem Ua (empty:Bool) {t:TypeId} {ks:Lp} (hk:Ix P t=some ks) {k:CV} {v:Value} (hv:Jo φ k v) (hlen:match ks,k with|.one _,.s _=>True|.agg l,.agg cs=>cs.length=l.length|_,_=>False) :
  (Instr.checkKey empty 10000 t v).run P w=.ok () w:=by
 have spec:=Rx hk;cases ks with
 |one l=>cases k with
  |s x=>exact Kg (φ:=φ) empty 20 t [l] spec.2 10000 Aa [x] v rfl (.inl ⟨spec.1,x,rfl,hv⟩)
  |agg cs=>exact hlen.elim
 |agg l=>cases k with
  |s x=>exact hlen.elim
  |agg cs=>
   obtain⟨⟨n,hn⟩,hl⟩:=spec
   obtain⟨vs,rfl,hvs⟩:=hv
   exact Kg (φ:=φ) empty 20 t l hl 10000 Aa cs _ hlen (.inr ⟨n,hn,vs,rfl,hvs⟩)
theorem Vt {t:TypeId} {ks:Lp} (hk:Ix P t=some ks) {x y:CV} {v1 v2:Value} {r:Bool} (h1:Jo φ x v1) (h2:Jo φ y v2) (he:sL ks x y=some r):(Op.equal t v1 v2).run P w=.ok r w:=by
 have spec:=Rx hk;unfold sL at he;split at he
 ·next k a b=>
  exact(Kt (w:=w) (φ:=φ) 20 t [k] spec.2).2 10000 Aa [a] [b] v1 v2 r (by simp[Fc,he]) (.inl ⟨spec.1,a,rfl,h1⟩) (.inl ⟨spec.1,b,rfl,h2⟩)
 ·next l a b=>
  obtain⟨⟨n,hn⟩,hl⟩:=spec;obtain⟨va,rfl,hva⟩:=h1;obtain⟨vb,rfl,hvb⟩:=h2;exact(Kt (w:=w) (φ:=φ) 20 t l hl).2 10000 Aa a b _ _ r he (.inr ⟨n,hn,va,rfl,hva⟩) (.inr ⟨n,hn,vb,rfl,hvb⟩)
 ·cases he
theorem gD {t:TypeId} {d:TypeDesc} (hu:P.underlying t=some d) {a b:Value} {r:Bool} (h:Instr.sameNow d a b=some r):(Op.equal t a b).run P w=.ok r w:=by
 unfold Instr.sameNow at h;split at h
 ·next k0 k x k' y=>
  split at h;·next hk=>subst hk;cases h;exact run_equalIn_int w _ t k k0 x y hu
  ·cases h
 ·next x y=>
  cases h;have:=run_equalIn_string w 9999 t x y hu;rw[<-beq_toListBytes] at this;exact this
 ·next x y=>cases h;exact run_equalIn_bool' w _ t x y hu
 ·cases h
theorem gE {t:TypeId} {d:TypeDesc} (hu:P.underlying t=some d) {k:Value}:∀(es:List MapEntry) (i:Nat) (r:Option (Nat×Value)),Instr.findNow d k es i=some r->(Instr.findAsking t k es i).run P w=.ok r w
 |[],i,r,h=>by simp[Instr.findNow] at h;subst h;simp[Instr.findAsking]
 |e::es,i,r,h=>by
  simp only[Instr.findNow] at h;split at h;·next hs=>cases h;simp[Instr.findAsking,gD hu hs]
  ·next hs=>simp only[Instr.findAsking,Sem.run_bind,gD hu hs,Result.andThen_ok,Fj,Ag];exact gE hu es (i+1) r h
  ·cases h
theorem Og {t:TypeId} {d:TypeDesc} (hu:P.underlying t=some d) (k:Value) (es:List MapEntry):(Instr.findKey t k es).run P w=(Instr.findAsking t k es).run P w:=by
 simp only[Instr.findKey,Sem.run_bind,run_underlying hu,Result.andThen_ok];cases h:Instr.findNow d k es 0 with
 |none=>rfl
 |some r=>simp only[Sem.run_pure];rw[gE hu es 0 r h]
theorem lY {t:TypeId} {ks:Lp} (hk:Ix P t=some ks) {k:CV} {vk:Value} (hv:Jo φ k vk):∀(l:List (CV×CV)) (es:List MapEntry) (i:Nat) (r:Option CV),Tl ks k l=some r ->
  A1 (λp (e:MapEntry)=>Jo φ p.1 e.key/\Jo φ p.2 e.val) l es ->
  (r=none/\(Instr.findAsking t vk es i).run P w=.ok none w)∨(∃j e c,r=some c/\es[j]?=some e/\Jo φ c e.val/\(Instr.findAsking t vk es i).run P w=.ok (some (i+j,e.val)) w)
 |[],es,i,r,h,ha=>by cases ha;simp[Tl] at h;subst h;exact .inl ⟨rfl,by simp[Instr.findAsking]⟩
 |(x,v)::l,es,i,r,h,ha=>by
  cases ha with
  |@cons _ e _ es hx ha=>
  unfold Tl at h;split at h
  ·next he=>
   cases h;exact .inr ⟨0,e,v,rfl,rfl,hx.2,by simp[Instr.findAsking,Vt hk hv hx.1 he]⟩
  ·next he=>
   rcases lY hk hv l es (i+1) r h ha with⟨rfl,h2⟩|⟨j,e',c,rfl,h2,h3,h4⟩;·exact .inl ⟨rfl,by simp[Instr.findAsking,Vt hk hv hx.1 he,h2]⟩
   ·refine .inr ⟨j+1,e',c,rfl,h2,h3,?_⟩;simp only[Instr.findAsking,Sem.run_bind,Vt hk hv hx.1 he,Result.andThen_ok,Fj,Ag,h4];rw[show i+1+j=i+(j+1) from Aa]
  ·cases h
end
theorem JZ (P:Program) (t:TypeId) (x i:Operand) (ok:Bool):Ok P (.lookup t x i ok):=by
 intro vop xs hc;simp only[cOp] at hc;split at hc
 ·next kt vt hu=>
  split at hc
  ·next ks z hk hz=>
   cases hc;intro o ho φ h nx w ρ args v h' hr s _ ha;obtain⟨dst,op,type,pos,after,guard⟩:=o;simp only at ho;subst ho;simp only[VOp.run] at hr;unfold H5 at hr;split at hr
   ·next k=>
    split at hr
    ·next hfit=>
     cases hr;obtain⟨a1,a2⟩:=fS ha;have e1:ρ x=.map none:=a1;have hck:=Ua (P:=P) (w:=w) true hk a2 (by unfold Kf at hfit;split at hfit<;>simp_all);obtain⟨it,zv,h1,h2,h3⟩:=gB (φ:=φ) hz;obtain⟨d,hd⟩:∃d,P.underlying kt=some d:=by
      have:=Rx hk;cases hd:P.underlying kt with
      |some d=>exact⟨d,rfl⟩
      |none=>unfold Ix at hk;simp[shapeOf,hd] at hk
     have hf:(Instr.findKey kt (ρ i) []).run P w=.ok none w:=by rw[Og hd];simp[Instr.findAsking]
     cases ok;·exact D9 (v':=zv) s (by simp[execOp,Instr.lookup,run_underlying hu,e1,hck,hf,Qu h1 h2]) h3
     ·exact D9 (v':=.tuple #[zv,.bool false]) s (by simp[execOp,Instr.lookup,run_underlying hu,e1,hck,hf,Qu h1 h2]) ⟨[zv,.bool false],rfl,.cons h3 (.cons rfl .nil)⟩
    ·cases hr
   ·next bk k=>
    split at hr
    ·next hfit=>
     split at hr
     ·next l own anc hg=>
      split at hr
      ·next r hfind=>
       cases hr;obtain⟨a1,a2⟩:=fS ha;obtain⟨lc,e0,e1⟩:=a1;obtain⟨arr,f1,_,f3⟩:=s.map e0 hg;have hck:=Ua (P:=P) (w:=w) arr.isEmpty hk a2 (by unfold Kf at hfit;split at hfit<;>simp_all);obtain⟨it,zv,h1,h2,h3⟩:=gB (φ:=φ) hz;obtain⟨d,hd⟩:∃d,P.underlying kt=some d:=by
        cases hd:P.underlying kt with
        |some d=>exact⟨d,rfl⟩
        |none=>unfold Ix at hk;simp[shapeOf,hd] at hk
       have hobj:=G5 (P:=P) f1 Ac;rcases lY (w:=w) hk a2 l arr.toList 0 r hfind f3 with⟨rfl,h4⟩|⟨j,e,c,rfl,_,h5,h4⟩
       ·have hf:(Instr.findKey kt (ρ i) arr.toList).run P w=.ok none w:=by rw[Og hd];exact h4
        cases ok;·exact D9 (v':=zv) s (by simp[execOp,Instr.lookup,run_underlying hu,e1,hobj,hck,hf,Qu h1 h2]) h3
        ·exact D9 (v':=.tuple #[zv,.bool false]) s (by simp[execOp,Instr.lookup,run_underlying hu,e1,hobj,hck,hf,Qu h1 h2]) ⟨[zv,.bool false],rfl,.cons h3 (.cons rfl .nil)⟩
       ·have hf:(Instr.findKey kt (ρ i) arr.toList).run P w=.ok (some (0+j,e.val)) w:=by rw[Og hd];exact h4
        cases ok;·exact D9 (v':=e.val) s (by simp[execOp,Instr.lookup,run_underlying hu,e1,hobj,hck,hf]) h5
        ·exact D9 (v':=.tuple #[e.val,.bool true]) s (by simp[execOp,Instr.lookup,run_underlying hu,e1,hobj,hck,hf]) ⟨[e.val,.bool true],rfl,.cons h5 (.cons rfl .nil)⟩
      ·cases hr
     ·cases hr
    ·cases hr
   ·cases hr
  ·cases hc
 ·cases hc
theorem Sim.xY {φ:Emb} {g:Mem} {nx:Nat} {w w':World} (s:Sim φ g nx w) {b:Key} {lc:Loc} (hφ:φ b=some lc) {body body':Body} (hg:g b=some ⟨body,true,[]⟩) {o':Obj} (hr:Wl φ lc true body' o')
  (hw:w'.heap=w.heap.setIfInBounds lc.blk o') (ho:w'.os=w.os/\w'.output=w.output:=by exact⟨rfl,rfl⟩) :
  Sim φ (λk=>if b=k then some ⟨body',true,[]⟩ else g k) nx w'/\∀lo,Ext φ g lo w φ (λk=>if b=k then some ⟨body',true,[]⟩ else g k) lo w':=by
 have hlt:lc.blk<w.heap.size:=s.lt hg hφ;have hother:∀k x lk,b≠k->g k=some x->φ k=some lk->lk.blk≠lc.blk:=λk x lk hne h1 h2 h3=>by have:=(s.sep b _ lc k x lk hg hφ h1 h2 h3.symm hne rfl).1;simp at this
 refine⟨⟨λk x lk h1 h2=>?_,λk x lk k' x' lk' h1 h2 h3 h4 h5 h6 h7=>?_,s.fresh⟩,λlo=>⟨Le.refl φ,λ_ h _=>h,Rl,by rw[hw];simp,λr ob hr' hn=>?_,λk x lk h1 h2 h3 _=>?_,λk lk h1 h2 _=>(by rw[h1] at h2;cases h2),ho⟩⟩
 ·by_cases hk:b=k;·subst hk;simp only[Ak] at h1;cases h1;rw[hφ] at h2;cases h2;exact⟨o',by rw[hw];simp[hlt],hr⟩
  ·simp only[hk,Ag] at h1;obtain⟨o,ho,hro⟩:=s.blk k x lk h1 h2;exact⟨o,by rw[hw,Bt (BL (hother k x lk hk h1 h2))];exact ho,hro⟩
 ·by_cases hk:b=k;·subst hk;rw[hφ] at h2;cases h2;simp only[h6,Ag] at h3;exact absurd h5.symm (hother k' x' lk' h6 h3 h4)
  ·simp only[hk,Ag] at h1;by_cases hk':b=k';·subst hk';rw[hφ] at h4;cases h4;exact absurd h5 (hother k x lk hk h1 h2)
   ·simp only[hk',Ag] at h3;exact s.sep k x lk k' x' lk' h1 h2 h3 h4 h5 h6 h7
 ·have hne:lc.blk≠r:=λe=>hn b _ lc hg rfl hφ e;rw[hw,Bt hne];exact hr'
 ·by_cases hk:b=k;·subst hk;exact⟨b,_,lc,hg,rfl,hφ,by rw[hφ] at h3;cases h3;rfl⟩
  ·simp only[hk,Ag] at h1;exact⟨k,x,lk,h1,h2,h3,rfl⟩
section
variable {P:Program} {w:World} {φ:Emb}
theorem Ry {r:Nat} {o o':Obj} (h:w.heap[r]?=some o) (hn:∀c e f,o≠.cells c e f):(setObj r o').run P w=.ok () { w with heap:=w.heap.setIfInBounds r o' }:=by
 cases o with
 |cells c e f=>exact absurd rfl (hn c e f)
 |_=>simp only[setObj,Sem.run,h]
theorem cO {k:Jk} {x y:SV} (h:aM k x y=some true):x=y:=by
 unfold aM at h;split at h;·simp at h;rw[h]
 ·split at h;·next hk=>subst hk;simp at h;rw[h]
  ·cases h
 ·simp at h;rw[h]
 ·cases h
theorem Y7:∀{ks:List Jk} {xs ys:EB},Fc ks xs ys=some true->xs=ys
 |[],[],[],_=>rfl
 |[],[],_::_,h=>by simp[Fc] at h
 |[],_::_,_,h=>by simp[Fc] at h
 |_::_,[],_,h=>by simp[Fc] at h
 |_::_,_::_,[],h=>by simp[Fc] at h
 |k::ks,x::xs,y::ys,h=>by
  simp only[Fc] at h;split at h
  ·next r hr=>
   split at h
   ·next q hq=>
    simp at h;obtain⟨rfl,rfl⟩:=h;rw[cO hr,Y7 hq]
   ·cases h
  ·cases h
theorem KA {ks:Lp} {x y:CV} (h:sL ks x y=some true):x=y:=by
 unfold sL at h;split at h;·rw[cO h]
 ·rw[Y7 h]
 ·cases h
theorem run_keyThatStays (old new:Value):∃k w',(Instr.keyThatStays old new).run P w=.ok k w'/\w'.heap=w.heap/\(k=old∨k=new)/\w'.os=w.os/\w'.output=w.output:=by
 unfold Instr.keyThatStays;by_cases h:Instr.sameBits 10000 old new=true;·exact⟨new,w,by simp only[h,Ak,Sem.run_pure],rfl,.inr rfl,rfl,rfl⟩
 ·simp only[h,Ag,Sem.run_bind,run_choose,Question.forced,Fj,Sem.run_pure];refine⟨_,_,rfl,rfl,?_,rfl,rfl⟩;split;·exact .inr rfl
  ·exact .inl rfl
def Aay (φ:Emb) (p:CV×CV) (e:MapEntry):Prop:=Jo φ p.1 e.key/\Jo φ p.2 e.val
theorem tQ {t:TypeId} {ks:Lp} (hk:Ix P t=some ks) {k v:CV} {vk:Value} (hv:Jo φ k vk):∀(l l':List (CV×CV)) (es:List MapEntry) (i:Nat),cI ks k v l=some l'->A1 (Aay φ) l es ->
  ((Instr.findAsking t vk es i).run P w=.ok none w/\l'=l++[(k,v)]) ∨
  (∃j e,es[j]?=some e/\(Instr.findAsking t vk es i).run P w=.ok (some (i+j,e.val)) w/\Jo φ k e.key/\∀e',Aay φ (k,v) e'->A1 (Aay φ) l' (es.set j e'))
 |[],l',es,i,h,ha=>by cases ha;simp[cI] at h;subst h;exact .inl ⟨by simp[Instr.findAsking],rfl⟩
 |(x,u)::l,l',es,i,h,ha=>by
  cases ha with
  |@cons _ e _ es hx ha=>
  unfold cI at h;split at h
  ·next he=>
   cases h;have:=KA he;subst this;exact .inr ⟨0,e,rfl,by simp[Instr.findAsking,Vt hk hv hx.1 he],hx.1,λe' he'=>.cons he' ha⟩
  ·next he=>
   split at h
   ·next r hr=>
    cases h;rcases tQ hk hv l r es (i+1) hr ha with⟨h2,rfl⟩|⟨j,e',h1,h2,h3,h4⟩
    ·exact .inl ⟨by simp[Instr.findAsking,Vt hk hv hx.1 he,h2],rfl⟩
    ·refine .inr ⟨j+1,e',h1,?_,h3,λe2 he2=>.cons hx (h4 e2 he2)⟩;simp only[Instr.findAsking,Sem.run_bind,Vt hk hv hx.1 he,Result.andThen_ok,Fj,Ag,h2];rw[show i+1+j=i+(j+1) from Aa]
   ·cases h
  ·cases h
end
theorem lZ {P:Program} {t kt vt:TypeId} (hu:P.underlying t=some (.map kt vt)) {ks:Lp} (hk:Ix P kt=some ks) (op:Op) (m k x:Operand)
  (hop:∀(ρ:Operand->Value) (dst:Option Tmp) (ty:TypeId) (pos:String) (af:Array Edge) (g:Option (Nat×Bool)),execOp ρ ⟨dst,op,ty,pos,af,g⟩=(do Instr.mapUpdate t (ρ m) (ρ k) (ρ x);pure .skip)) :
  Xh P op (.K1 ks) [m,k,x]:=by
 intro o ho φ h nx w ρ args v h' hr s _ ha;obtain⟨dst,op,type,pos,after,guard⟩:=o;simp only at ho;subst ho;simp only[VOp.run] at hr;unfold Ro at hr;split at hr
 ·next bk kc vc=>
  split at hr
  ·next hfit=>
   split at hr
   ·next l hg=>
    split at hr
    ·next l' hset=>
     cases hr;obtain⟨⟨lc,e0,e1⟩,a2,a3⟩:=arg3 ha;obtain⟨arr,f1,f2,f3⟩:=s.map e0 hg;have hck:=Ua (P:=P) (w:=w) false hk a2 (by unfold Kf at hfit;split at hfit<;>simp_all);obtain⟨d,hd⟩:∃d,P.underlying kt=some d:=by
      cases hd:P.underlying kt with
      |some d=>exact⟨d,rfl⟩
      |none=>unfold Ix at hk;simp[shapeOf,hd] at hk
     have hobj:=G5 (P:=P) f1 Ac;have hnx:∀b:Option Blk,(h.upd bk b).next=h.next:=λ_=>rfl;rcases tQ (w:=w) hk a2 l l' arr.toList 0 hset f3 with⟨h1,rfl⟩|⟨j,e,h1,h2,h3,h4⟩
     ·have hf:(Instr.findKey kt (ρ k) arr.toList).run P w=.ok none w:=by rw[Og hd];exact h1
      have hrel:Wl φ lc true (.map (l++[(kc,vc)])) (.map (arr.push { key:=ρ k,val:=ρ x,born:=arr.size }) (arr.size+1)):=by
       refine⟨arr.push { key:=ρ k,val:=ρ x,born:=arr.size },Ac,λi hi=>?_,?_⟩
       ·by_cases hi2:i<arr.size;·simp[Array.getElem_push,hi2,f2 i hi2]
        ·have:i=arr.size:=by simp at hi;omega
         subst this;simp
       ·rw[Array.toList_push];exact D0 f3 (.cons ⟨a2,a3⟩ .nil)
      obtain⟨g1,g2⟩:=s.xY (w':={ w with heap:=w.heap.setIfInBounds lc.blk (.map (arr.push { key:=ρ k,val:=ρ x,born:=arr.size }) (arr.size+1)) }) e0 hg hrel rfl;refine⟨undef,_,.inr ⟨?_,rfl⟩,φ,λnx' k1 _=>by rw[D1];exact g1.up k1,by rw[D1];exact g2 _,⟨[],rfl,.nil⟩⟩;rw[hop];simp[Instr.mapUpdate,run_underlying hu,e1,hobj,hck,hf,Ry (P:=P) f1 Ac]
     ·have hf:(Instr.findKey kt (ρ k) arr.toList).run P w=.ok (some (0+j,e.val)) w:=by rw[Og hd];exact h2
      have hjlt:j<arr.size:=by have:=(Gi.1 h1).1;simpa using this
      have hje:arr[j]?=some e:=by rw[<-DC];exact h1
      obtain⟨key',w1,k1,k2,k3,k4⟩:=run_keyThatStays (P:=P) (w:=w) e.key (ρ k);have hkey:Jo φ kc key':=by
       rcases k3 with rfl|rfl;·exact h3
       ·exact a2
      have hmod:(arr.modify (0+j) λe=>{ e with key:=key',val:=ρ x })=arr.setIfInBounds j { e with key:=key',val:=ρ x }:=by
       apply Array.ext_getElem?;intro i;rw[Array.getElem?_modify,AO];by_cases hij:j=i;·subst hij;rw[Aj rfl,hje,Array.getElem?_setIfInBounds_self_of_lt hjlt];rfl
       ·rw[Ao hij,Bt hij]
      have hrel:Wl φ lc true (.map l') (.map (arr.setIfInBounds j { e with key:=key',val:=ρ x }) arr.size):=by
       refine⟨arr.setIfInBounds j { e with key:=key',val:=ρ x },Ac,λi hi=>?_,?_⟩
       ·have hi':i<arr.size:=by simpa using hi
        have hb1:=f2 i hi';by_cases hij:j=i
        ·subst hij;have:arr[j]=e:=by have:=hje;rw[CI hjlt] at this;simpa using this
         rw[Array.getElem_setIfInBounds_self];show e.born=_;rw[<-this];exact hb1
        ·rw[Array.getElem_setIfInBounds_ne _ hij];exact hb1
       ·rw[Array.toList_setIfInBounds];exact h4 _ ⟨hkey,a3⟩
      obtain⟨g1,g2⟩:=s.xY (w':={ w1 with heap:=w1.heap.setIfInBounds lc.blk (.map (arr.setIfInBounds j { e with key:=key',val:=ρ x }) arr.size) }) e0 hg hrel (by simp[k2]) k4;refine⟨undef,_,.inr ⟨?_,rfl⟩,φ,λnx' k1 _=>by rw[D1];exact g1.up k1,by rw[D1];exact g2 _,⟨[],rfl,.nil⟩⟩;rw[hop];have hset':=Ry (P:=P) (w:=w1) (r:=lc.blk) (o':=.map (arr.setIfInBounds j { e with key:=key',val:=ρ x }) arr.size) (by rw[k2];exact f1) Ac;simp only[Instr.mapUpdate,Sem.run_bind,run_underlying hu,e1,hobj,hck,hf,Result.andThen_ok,AO,hje,AK,Di,k1];rw[AO] at hmod;simp only[hmod,hset',Result.andThen_ok,Sem.run_pure]
    ·cases hr
   ·cases hr
  ·cases hr
 ·cases hr
theorem oK (P:Program) (t:TypeId) (m k x:Operand):Ok P (.mapUpdate t m k x):=by
 intro vop xs hc;simp only[cOp] at hc;split at hc
 ·next kt vt hu=>
  cases hk:Ix P kt with
  |none=>simp[hk] at hc
  |some ks=>simp only[hk,AK,Sj,Pj,Ff.op.injEq] at hc;obtain⟨rfl,rfl⟩:=hc;exact lZ hu hk _ m k x (λ_ _ _ _ _ _=>rfl)
 ·cases hc
theorem KB (P:Program) (t:TypeId) (m k x:Operand):Ok P (.insert t m k x):=by
 intro vop xs hc;simp only[cOp] at hc;split at hc
 ·next kt vt hu=>
  cases hk:Ix P kt with
  |none=>simp[hk] at hc
  |some ks=>simp only[hk,AK,Sj,Pj,Ff.op.injEq] at hc;obtain⟨rfl,rfl⟩:=hc;exact lZ hu hk _ m k x (λ_ _ _ _ _ _=>rfl)
 ·cases hc
theorem NS (P:Program) (t:TypeId) (x:Operand):Ok P (.range t x):=by
 intro vop xs hc;simp only[cOp] at hc;split at hc
 ·next a b hu=>
  cases hc;intro o ho φ h nx w ρ args v h' hr s hb ha;obtain⟨dst,op,type,pos,after,guard⟩:=o;simp only at ho;subst ho;simp only[VOp.run] at hr;unfold Rp at hr;split at hr
  ·next bk=>
   split at hr
   ·next l own anc hg=>
    split at hr
    ·next hl=>
     cases hr;obtain⟨lc,e0,e1⟩:=O5 ha;obtain⟨arr,f1,f2,f3⟩:=s.map e0 hg;have hlen:l.length=arr.size:=by rw[A5 f3];simp
     have hobj:=G5 (P:=P) f1 Ac;have hlc:(φ.set h.next ⟨w.heap.size,0,0⟩) bk=some lc:=Emb.T2 _ hb _ _ e0;obtain⟨g1,g2⟩:=T4 (w':=w.alloc (.mapIter (some lc.blk) arr.size #[] arr.size)) (o:=.mapIter (some lc.blk) arr.size #[] arr.size) s hb ⟨.iter bk l.length 0,true,[]⟩ ⟨w.heap.size,0,0⟩ rfl rfl
      ⟨rfl,lc,hlc,by rw[hlen];rfl⟩
     exact⟨.pointer (some ⟨w.heap.size,0,none⟩),w.alloc (.mapIter (some lc.blk) arr.size #[] arr.size),.inl (by simp[execOp,Instr.range,run_underlying hu,e1,hobj]),_,g1,g2,⟨_,Emb.D6 _ _ _,rfl⟩⟩
    ·cases hr
   ·cases hr
  ·cases hr
 ·cases hc
theorem Sim.iter {φ:Emb} {h:Heap} {nx:Nat} {w:World} (s:Sim φ h.get nx w) {b m:Key} {lc:Loc} (hφ:φ b=some lc) {n st:Nat} {own:Bool} {anc:ED} (hg:h.get b=some ⟨.iter m n st,own,anc⟩) :
  lc.off=0/\∃l',φ m=some l'/\w.heap[lc.blk]?=some (.mapIter (some l'.blk) n (if st=0 then #[] else #[0]) n):=by obtain⟨o,hw,h0,l',h1,rfl⟩:=s.blk b _ lc hg hφ;exact⟨h0,l',h1,hw⟩
theorem gF {α:Type} {arr:Array α} (h:arr.size=1):∃e,arr=#[e]:=by
 obtain⟨l⟩:=arr;match l,h with
 |[e],_=>exact⟨e,rfl⟩
theorem UU (P:Program) (i:Operand) (isString:Bool):Ok P (.next i isString):=by
 intro vop xs hc;cases isString with
 |true=>simp[cOp] at hc
 |false=>
  simp only[cOp,Sj,Pj,Ff.op.injEq] at hc;obtain⟨rfl,rfl⟩:=hc;intro o ho φ h nx w ρ args v h' hr s _ ha;obtain⟨dst,op,type,pos,after,guard⟩:=o;simp only at ho;subst ho;simp only[VOp.run] at hr;unfold Nx at hr;split at hr
  ·next ik=>
   split at hr
   ·next b n st hg=>
    split at hr
    ·next l own2 anc2 hg2=>
     split at hr
     ·next hl=>
      obtain⟨lc,e0,e1⟩:=O5 ha;obtain⟨h0,l',f0,f1⟩:=s.iter e0 hg;obtain⟨arr,f2,f3,f4⟩:=s.map f0 hg2;have hlen:l.length=arr.size:=by rw[A5 f4];simp
      have e1:ρ i=.pointer (some ⟨lc.blk,0,none⟩):=by rw[e1,h0]
      have hobj:=G5 (P:=P) f1 Ac;have hmap:=G5 (P:=P) f2 Ac;split at hr
      ·next k v _=>
       cases hr;obtain⟨e,rfl⟩:=gF (arr:=arr) (by rw[<-hlen];rfl);have hborn:e.born=0:=f3 0 Ac;have hn:n=1:=by rw[<-hl];rfl
       subst hn;simp only[Ak] at f1 hobj;cases f4 with
       |cons hkv _=>
       obtain⟨g1,g2⟩:=s.xY (w':={ w with heap:=w.heap.setIfInBounds lc.blk (.mapIter (some l'.blk) 1 #[0] 1) }) e0 hg (body':=.iter b 1 1) ⟨h0,l',f0,rfl⟩ rfl;refine⟨.tuple #[.bool true,e.key,e.val],_,.inl ?_,φ,λnx' k1 _=>by rw[D1];exact g1.up k1,by rw[D1];exact g2 _,⟨[.bool true,e.key,e.val],rfl,.cons rfl (.cons hkv.1 (.cons hkv.2 .nil))⟩⟩;have hset:=Ry (P:=P) (o':=.mapIter (some l'.blk) 1 #[0] 1) f1 Ac;simp[execOp,Instr.next,e1,hobj,hmap,hborn,Question.forced,hset]
      ·cases hr;have hn:n=0:=by rw[<-hl];rfl
       have harr:arr=#[]:=Array.eq_empty_of_size_eq_zero (by rw[<-hlen];rfl);subst harr;simp only[Ak] at f1 hobj;refine D9 (v':=.tuple #[.bool false]) s ?_ ⟨[.bool false],rfl,.cons rfl .nil⟩;simp[execOp,Instr.next,e1,hobj,hmap,Question.forced]
      ·next m' kv=>
       cases hr;obtain⟨e,rfl⟩:=gF (arr:=arr) (by rw[<-hlen];rfl);have hborn:e.born=0:=f3 0 Ac;have hn:n=1:=by rw[<-hl];rfl
       subst hn;have hne:¬(m'+1=0):=Aa;rw[Ao hne] at f1 hobj;refine D9 (v':=.tuple #[.bool false]) s ?_ ⟨[.bool false],rfl,.cons rfl .nil⟩;simp[execOp,Instr.next,e1,hobj,hmap,hborn,Question.forced]
      ·cases hr
     ·cases hr
    ·cases hr
   ·cases hr
  ·cases hr
theorem NT (P:Program) (i:Operand):Ok P (.entry i):=by
 intro vop xs hc;simp only[cOp,Sj,Pj,Ff.op.injEq] at hc;obtain⟨rfl,rfl⟩:=hc;intro o ho φ h nx w ρ args v h' hr s _ ha;obtain⟨dst,op,type,pos,after,guard⟩:=o;simp only at ho;subst ho;simp only[VOp.run] at hr;unfold Rq at hr;split at hr
 ·next ik=>
  split at hr
  ·next b n own anc hg=>
   split at hr
   ·next k v own2 anc2 hg2=>
    split at hr
    ·next hn=>
     cases hr;subst hn;obtain⟨lc,e0,e1⟩:=O5 ha;obtain⟨h0,l',f0,f1⟩:=s.iter e0 hg;obtain⟨arr,f2,f3,f4⟩:=s.map f0 hg2;have hlen:=A5 f4;obtain⟨e,rfl⟩:=gF (arr:=arr) (by simpa using hlen.symm);have hborn:e.born=0:=f3 0 Ac;have e1:ρ i=.pointer (some ⟨lc.blk,0,none⟩):=by rw[e1,h0]
     simp only[Nat.one_ne_zero,Ag] at f1;have hobj:=G5 (P:=P) f1 Ac;have hmap:=G5 (P:=P) f2 Ac;cases f4 with
     |cons hkv _=>
     refine D9 (v':=.tuple #[e.key,e.val]) s ?_ ⟨[e.key,e.val],rfl,.cons hkv.1 (.cons hkv.2 .nil)⟩;simp[execOp,Instr.entry,e1,hobj,hmap,hborn]
    ·cases hr
   ·cases hr
  ·cases hr
 ·cases hr
theorem xZ (P:Program) (s0 d:TypeId) (x:Operand):Ok P (.convert s0 d x):=by
 intro vop xs hc;simp only[cOp] at hc;split at hc;·next j k hs hd=>cases hc;exact JV s0 d x hs hd
 ·cases hc
theorem Aaz (P:Program) (op:Op):Ok P op:=by
 cases op with
 |move x=>exact UO P x
 |assign x=>exact JN P x
 |pick c a b=>exact UP P c a b
 |alloc e=>exact NN P e
 |box e v=>exact Aax P e v
 |build t ps=>exact NQ P t ps
 |buildSlice t n ps=>exact lH P t n ps
 |insert t m k v=>exact KB P t m k v
 |load t a=>exact US P t a
 |store t a v=>exact NO P t a v
 |nilCheck x=>exact sY P x
 |binOp b t x y yt=>exact NI P b t x y yt
 |unOp u t x=>exact UQ P u t x
 |convert s d x=>exact xZ P s d x
 |makeFunc fn first cap=>exact tK P fn first cap
 |makeMap t r=>exact xW P t r
 |makeSlice t l c=>exact oJ P t l c
 |slice t x lo hi mx=>exact ok_slice P t x lo hi mx
 |fieldAddr t x f=>exact oH P t x f
 |field t x f=>exact NJ P t x f
 |indexAddr t x i=>exact oI P t x i
 |index t x i=>exact NK P t x i
 |lookup t x i ok=>exact JZ P t x i ok
 |mapUpdate t m k v=>exact oK P t m k v
 |range t x=>exact NS P t x
 |next i b=>exact UU P i b
 |entry i=>exact NT P i
 |extract t i=>exact xU P t i
 |call c=>
  obtain⟨callee,A,ats⟩:=c;cases callee with
  |builtin b=>exact xX P b A ats
  |invoke r m=>intro vop xs hc;simp[cOp,Qs] at hc
  |value f=>
   intro vop xs hc;simp only[cOp,Qs] at hc;cases f with
   |func g=>
    simp only at hc;split at hc;·split at hc<;>cases hc
    ·cases hc
   |_=>simp at hc
 |_=>intro vop xs hc;simp[cOp] at hc
structure Hk (φ:Emb) (N:Nat) (fr:Fr) (a:Act):Prop where
 size:N<=a.tmps.size
 get:∀k v,fr.get k=some v->Gr φ v (a.tmps.getD k.toNat undef)
 defers:a.defers=[]
theorem Hk.mono {φ φ':Emb} {N:Nat} {fr:Fr} {a:Act} (h:Hk φ N fr a) (hl:Le φ φ'):Hk φ' N fr a:=
 ⟨h.size,λk v e=>(h.get k v e).mono hl,h.defers⟩
theorem NU (a:Act) (d:Option Tmp) (v:Value):(a.put d v).tmps.size=a.tmps.size:=by cases d<;>simp[Act.put]
theorem put_defers (a:Act) (d:Option Tmp) (v:Value):(a.put d v).defers=a.defers:=by cases d<;>rfl
theorem Hk.put {φ:Emb} {N:Nat} {fr:Fr} {a:Act} (h:Hk φ N fr a) {o:Oper} (hd:sS N o=true) {v:AV} {v':Value} (hv:Gr φ v v') :
  Hk φ N (Fp fr (o.dst.map kn) v) (a.put o.dst v'):=by
 refine⟨by rw[NU];exact h.size,λk u e=>?_,by rw[put_defers];exact h.defers⟩;unfold sS at hd;cases hdst:o.dst with
 |none=>rw[hdst] at e;simpa[Act.put] using h.get k u e
 |some d=>
  rw[hdst] at e hd;have hlt:d<a.tmps.size:=Bu (by simpa using hd) h.size;simp only[AK,Fp,Tr.D1] at e;by_cases hk:kn d=k;·subst hk;simp only[Ak,Sj] at e;subst e;simpa[Act.put,Key.toNat_kn,hlt] using hv
  ·simp only[hk,Ag] at e;have hne:d≠k.toNat:=λe'=>hk (by rw[e',Key.J8]);have:=h.get k u e;simpa[Act.put,Bt hne] using this
theorem GF {φ:Emb} {N:Nat} {fr:Fr} {a:Act} (h:Hk φ N fr a) {x:Operand} {y:VX} (hc:cX x=some y) {v:AV} (e:y.eval fr=some v):Gr φ v (a.eval x):=by
 cases x with
 |tmp t=>simp only[cX,Sj] at hc;subst hc;have:=h.get _ _ e;rw[Key.toNat_kn] at this;exact this
 |const c=>
  simp only[cX] at hc;split at hc
  ·next z hz=>
   cases hc;simp only[VX.eval,Sj] at e;subst e;exact NM hz
  ·cases hc
 |func f=>simp only[cX,Sj] at hc;subst hc;simp only[VX.eval,Sj] at e;subst e;exact⟨[],[],rfl,.nil,.nil⟩
 |global g=>simp[cX] at hc
theorem Qv {φ:Emb} {N:Nat} {fr:Fr} {a:Act} (h:Hk φ N fr a):∀{xs:List Operand} {ys:List VX} {args:EA},cXs xs=some ys->G7 fr ys=some args->A1 (Gr φ) args (xs.map a.eval)
 |[],ys,args,hc,e=>by simp[cXs] at hc;subst hc;simp[G7] at e;subst e;exact .nil
 |x::xs,ys,args,hc,e=>by
  unfold cXs at hc;split at hc
  ·next y hy=>
   split at hc
   ·next ys' hys=>
    cases hc;unfold G7 at e;split at e
    ·next v hv=>
     split at e;·next vs hvs=>cases e;exact .cons (GF h hy hv) (Qv h hys hvs)
     ·cases e
    ·cases e
   ·cases hc
  ·cases hc
theorem cP {φ:Emb} {v:AV} {c:Bool} (h:Gr φ v (.bool c)):v=.v (.s (.bool c)):=by
 cases v with
 |tup xs=>obtain⟨vs,e,_⟩:=h;cases e
 |v x=>cases x with
  |agg cs=>obtain⟨vs,e,_⟩:=h;cases e
  |s y=>
   cases y with
   |bool b=>have h:Value.bool c=.bool b:=h;cases h;rfl
   |int k n=>have h:Value.bool c=.int k n:=h;cases h
   |str l=>obtain⟨_,e⟩:=h;cases e
   |ptr b o=>obtain⟨_,_,e⟩:=h;cases e
   |Iv=>have h:Value.bool c=.pointer none:=h;cases h
   |slice b o len es cap=>obtain⟨_,_,e,_⟩:=h;cases e
   |A4=>have h:Value.bool c=.slice none 0 0:=h;cases h
   |map b=>obtain⟨_,_,e⟩:=h;cases e
   |Ic=>have h:Value.bool c=.map none:=h;cases h
   |func f fs cs=>obtain⟨_,_,e,_⟩:=h;cases e
   |J5=>have h:Value.bool c=.nilFunc:=h;cases h
theorem Qw {φ:Emb} {N:Nat} {fr:Fr} {a:Act} (h:Hk φ N fr a) {ops:Array Oper} {o:Oper} {g:Option (Key×Bool)} (hc:oE ops o=some g) {c:Bool} (e:Ht fr g=some c) :
  Region.wanted o (yielded ops a.tmps)=c:=by
 unfold oE at hc;split at hc;·next hg=>cases hc;simp only[Ht,Sj] at e;subst e;simp[Region.wanted,hg]
 ·next j b hg=>
  split at hc
  ·next t ht=>
   cases hc;simp only[Region.wanted,hg,yielded,ht,Option.bind_some];unfold Ht at e;split at e;·next e'=>cases e'
   ·next k b' e'=>
    cases e';split at e
    ·next c' hf=>
     cases e;have hr:=h.get _ _ hf;rw[Key.toNat_kn] at hr;have hr:a.tmps.getD t undef=.bool c':=hr;cases hb:a.tmps[t]? with
     |none=>simp[CA,hb,undef] at hr
     |some v=>simp[CA,hb] at hr;subst hr;cases c'<;>cases b<;>rfl
    ·next v hnb hf=>
     cases e;have hr:=h.get _ _ hf;rw[Key.toNat_kn] at hr;cases hb:a.tmps[t]? with
     |none=>cases b<;>rfl
     |some u=>
      simp only[CA,hb,Di] at hr;cases u with
      |bool c2=>exact absurd (cP hr▸hf) (by intro hh;exact hnb c2 (cP hr))
      |_=>cases b<;>rfl
    ·cases e
  ·cases hc
def dX (φ:Emb) (h:Heap) (w:World) (h':Heap) (w':World) (R:Emb->Prop):Prop:=
 ∃φ',Sim φ' h'.get h'.next.toNat w'/\Ext φ h.get h.next.toNat w φ' h'.get h'.next.toNat w'/\R φ'
def E6 (b:Key) (h:Heap):Prop:=h.get b=none/\∀c y,h.get c=some y->b∉y.anc
def Clean (h:Heap):Prop:=∀b:Key,h.next.toNat<=b.toNat->E6 b h
structure Iy (P:Program) (call:Fg):Prop where
 dom : ∀ f args h r, call f args h = some r → ∃ fn, P.funcs[f]? = some fn ∧ (fn.name == "runtime.NumGoroutine") = false ∧ fn.body.isNone = false
 run:∀f args h v h',Clean h->call f args h=some (v,h')->∀φ w vs,Sim φ h.get h.next.toNat w->A1 (Gr φ) args vs ->
  Calls P f vs.toArray w λe w'=>∃v',e=.returned v'/\dX φ h w h' w' λφ'=>Gr φ' v v'
theorem Y8 {P : Program} {f : FuncId} {fn : Func} (hf : P.funcs[f]? = some fn) (hn : (fn.name == "runtime.NumGoroutine") = false) (hb : fn.body.isNone = false) (args : Array Value) (w : World) :
  (callFunc f args).run P w=.ok (.enter f args) w:=by simp only[callFunc,Sem.run_bind,run_program,Result.andThen_ok,hf,hn,Fj,Ag,hb,Sem.run_pure]
theorem cQ {φ:Emb} {l:List (Key×Nat)} {vs:List Value} (h:A1 (dV φ) l vs):A1 (Gr φ) (l.map (λp=>AV.v (.s (.ptr p.1 p.2)))) vs:=by
 induction h with
 |nil=>exact .nil
 |cons h _ ih=>exact .cons h ih
theorem gG {P : Program} {w : World} {a : Act} {φ : Emb} {call : Fg} (hdom : ∀ f args h r, call f args h = some r → ∃ fn, P.funcs[f]? = some fn ∧ (fn.name == "runtime.NumGoroutine") = false ∧ fn.body.isNone = false) {c : Call} {act : Ff} {xs : List Operand} (hc : Qs P c = some (act, xs)) (hop : ∀ o, act ≠ .op o)
  {args:EA} (ha:A1 (Gr φ) args (xs.map a.eval)) {h h':Heap} {v:AV} (hr:act.run call args h=some (v,h')) (dst:Option Tmp) (ty:TypeId) (pos:String) (af:Array Edge) (g:Option (Nat×Bool)) :
  ∃(f:FuncId) (az:EA) (vs:List Value),(execOp a.eval ⟨dst,.call c,ty,pos,af,g⟩).run P w=.ok (.enter f vs.toArray) w/\call f az h=some (v,h')/\A1 (Gr φ) az vs:=by
 obtain⟨callee,A,ats⟩:=c;have hval:∀x,callee=.value x->(∀f,x≠.func f)->act=.Kr/\xs=x::A.toList:=by rintro x rfl hnf;simp only[Qs,Sj,Pj] at hc;exact⟨hc.1.symm,hc.2.symm⟩
 cases callee with
 |invoke r m=>simp[Qs] at hc
 |builtin b=>
  exfalso;have:∃o,act=.op o:=by
   simp only[Qs] at hc;split at hc<;>(first|(cases hc;exact⟨_,rfl⟩)|skip)
   ·split at hc
    ·split at hc;·cases hc
     ·cases hc;exact⟨_,rfl⟩
    ·split at hc;·cases hc
     ·cases hc;exact⟨_,rfl⟩
    ·cases hc
   ·next e _=>
    cases hs:Gv P e with
    |none=>simp[hs] at hc
    |some n=>simp[hs] at hc;exact⟨_,hc.1.symm⟩
   ·cases hc
  obtain⟨o,rfl⟩:=this;exact hop o rfl
 |value x=>
  by_cases hx:∃f,x=.func f
  ·obtain⟨f,rfl⟩:=hx;simp only[Qs] at hc;split at hc
   ·next fn hf=>
    split at hc;·cases hc
    ·next hcond=>
     cases hc;simp only[AW,not_or,Bool.not_eq_true] at hcond;refine⟨f,args,A.toList.map a.eval,?_,hr,ha⟩;have:=Y8 hf hcond.1 hcond.2 (A.map a.eval) w;simp only[execOp,resolve,Act.eval,Deferred.ofValue,Sem.run_bind,Sem.run_pure,Result.andThen_ok,invoke,Array.empty_append,DX];rw[show(A.toList.map a.eval).toArray=A.map a.eval from by apply Db;simp];exact this
   ·cases hc
  ·obtain⟨rfl,rfl⟩:=hval x rfl (λf e=>hx ⟨f,e⟩);simp only[Ff.run] at hr;split at hr
   ·next f fs cs az=>
    cases ha with
    |cons hf ha=>
    obtain⟨vs,us,e1,h1,h2⟩:=hf;obtain⟨fn,g1,g2,g3⟩:=hdom _ _ _ _ hr;refine⟨f,_,vs++A.toList.map a.eval++us,?_,hr,?_⟩;·simp only[execOp,resolve,e1,Deferred.ofValue,Sem.run_bind,Sem.run_pure,Result.andThen_ok,invoke];rw[Y8 g1 g2 g3];congr 2;apply Db;simp
    ·refine D0 (D0 ?_ ha) ?_;·exact cQ h1
     ·exact cQ h2
   ·cases hr
theorem KC {P:Program} {w:World} {a:Act} {φ:Emb} {call:Fg} (hcall:Iy P call) {c:Call} {act:Ff} {xs:List Operand} (hc:Qs P c=some (act,xs)) (hop:∀o,act≠.op o)
  {args:EA} (ha:A1 (Gr φ) args (xs.map a.eval)) {h h':Heap} {v:AV} (hr:act.run call args h=some (v,h')) (dst:Option Tmp) (ty:TypeId) (pos:String) (af:Array Edge) (g:Option (Nat×Bool)) :
  ∃(f:FuncId) (az:EA) (vs:List Value),(execOp a.eval ⟨dst,.call c,ty,pos,af,g⟩).run P w=.ok (.enter f vs.toArray) w/\call f az h=some (v,h')/\A1 (Gr φ) az vs:=gG hcall.dom hc hop ha hr dst ty pos af g
theorem Ie {P:Program} {N:Nat} {ops:Array Oper} {o:Oper} {vo:B3} (hc:M9 P N ops o=some vo) :
  sS N o=true/\vo.dst=o.dst.map kn/\(∃g,oE ops o=some g/\vo.guard=g) /\
   ((∃act xs ys,cOp P o.op=some (act,xs)/\cXs xs=some ys/\vo.act=act/\vo.args=ys)∨(vo.act=.op .bad/\vo.args=[])):=by
 unfold M9 at hc;split at hc
 ·next hd=>
  split at hc
  ·next g hg=>
   split at hc
   ·next act xs hop=>
    split at hc;·next ys hys=>cases hc;exact⟨hd,rfl,⟨g,hg,rfl⟩,.inl ⟨act,xs,ys,hop,hys,rfl,rfl⟩⟩
    ·cases hc;exact⟨hd,rfl,⟨g,hg,rfl⟩,.inr ⟨rfl,rfl⟩⟩
   ·cases hc;exact⟨hd,rfl,⟨g,hg,rfl⟩,.inr ⟨rfl,rfl⟩⟩
  ·cases hc
 ·cases hc
section
variable {P:Program} {call:Fg}
def Aa0:Ff->Bool
 |.op _=>true
 |_=>false
theorem yA {α:Type} (x:Option α) (f:α->VOp) (g:α->List Operand):(x.map λy=>(Ff.op (f y),g y)).all (λp=>Aa0 p.1)=true:=by cases x<;>rfl
theorem KE (x:Operand) (lo hi mx:Option Operand) (k:SlK):(Ka x lo hi mx k).all (λp=>Aa0 p.1)=true:=by unfold Ka;split<;>rfl
theorem NV {op:Op} (h:∀c,op≠.call c):(cOp P op).all (λp=>Aa0 p.1)=true:=by
 cases op with
 |call c=>exact absurd rfl (h c)
 |_=>simp only[cOp];repeat'(first|rfl|exact yA _ _ _|exact KE _ _ _ _ _|(exfalso;exact h _ (by assumption))|split)
theorem tS {op:Op} {act:Ff} {xs:List Operand} (h:cOp P op=some (act,xs)) (hop:∀o,act≠.op o):∃c,op=.call c/\Qs P c=some (act,xs):=by
 by_cases hc:∃c,op=.call c;·obtain⟨c,rfl⟩:=hc;exact⟨c,rfl,h⟩
 ·have:=NV (P:=P) (op:=op) (λc e=>hc ⟨c,e⟩);rw[h] at this;cases act with
  |op o=>exact absurd rfl (hop o)
  |_=>cases this
theorem tT (hcall:Iy P call) {N:Nat} {ops:Array Oper} {o:Oper} {vo:B3} (hc:M9 P N ops o=some vo) {φ:Emb} {fr:Fr} {a:Act} {h h':Heap} {nx:Nat} {w:World} (hfr:Hk φ N fr a)
  (s:Sim φ h.get nx w) (hb:φ h.next=none) (hnx:(∀o,vo.act≠.op o)->nx=h.next.toNat/\Clean h) {args:EA} (hf:G7 fr vo.args=some args) {v:AV} (hr:vo.act.run call args h=some (v,h'))
  {K:Act->World->Prop} {Q:Exit->Act->World->Prop}
  (hK:∀v' w' φ',(∀nx',nx<=nx'->h'.next.toNat<=nx'->Sim φ' h'.get nx' w')->Ext φ h.get h.next.toNat w φ' h'.get h'.next.toNat w'->Gr φ' v v'->K (a.put o.dst v') w'):o.wp P a w K Q:=by
 obtain⟨_,_,_,hact⟩:=Ie hc;rcases hact with⟨act,xs,ys,hop,hys,ha,hargs⟩|⟨ha,hargs⟩
 ·rw[ha] at hr hnx;rw[hargs] at hf;have hrel:=Qv hfr hys hf;by_cases hisop:∃vop,act=.op vop
  ·obtain⟨vop,rfl⟩:=hisop;obtain⟨v',w',hd,φ',h1,h2,h3⟩:=Aaz P o.op vop xs hop o rfl φ h nx w a.eval args v h' hr s hb hrel;unfold Oper.wp;rcases hd with hd|⟨hd,rfl⟩;·rw[hd];exact hK v' w' φ' h1 h2 h3
   ·rw[hd];exact hK undef w' φ' h1 h2 h3
  ·have hne:∀o,act≠.op o:=λo e=>hisop ⟨o,e⟩;obtain⟨c,hoc,hcc⟩:=tS hop hne;obtain⟨hnx',hcl⟩:=hnx hne;subst hnx';obtain⟨dst,op,type,pos,after,guard⟩:=o;simp only at hoc;subst hoc;obtain⟨f,az,vs,e1,e2,e3⟩:=KC hcall hcc hne hrel hr dst type pos after guard (w:=w);unfold Oper.wp;rw[e1];refine Calls.mono (hcall.run f az h v h' hcl e2 φ w vs s e3) ?_;rintro e w' ⟨v',rfl,φ',g1,g2,g3⟩;exact hK v' w' φ' (λnx' _ k=>g1.up k) g2 g3
 ·rw[ha] at hr;simp[Ff.run,VOp.run] at hr
theorem aX (hcall:Iy P call) {N:Nat} {ops:Array Oper} {o:Oper} {vo:B3} (hc:M9 P N ops o=some vo) {φ:Emb} {fr fr':Fr} {a:Act} {h h':Heap} {w:World} (hfr:Hk φ N fr a)
  (s:Sim φ h.get h.next.toNat w) (hcl:Clean h) (hr:vo.run call fr h=some (fr',h')) {K:Act->World->Prop} {Q:Exit->Act->World->Prop}
  (hK:∀a' w',(dX φ h w h' w' λφ'=>Hk φ' N fr' a')->K a' w') :
  if Region.wanted o (yielded ops a.tmps) then o.wp P a w K Q∨(o.asks P a w/\LetsOut Q) else K (a.put o.dst undef) w:=by
 obtain⟨hd,hdst,⟨g,hg,hvg⟩,_⟩:=Ie hc;have hb:φ h.next=none:=s.fresh _ Rl;unfold B3.run at hr;split at hr
 ·next hw=>
  rw[hvg] at hw;have hwant:=Qw hfr hg hw;split at hr
  ·next args hf=>
   split at hr
   ·next v h2 hact=>
    cases hr;rw[hwant,Aj rfl];refine .inl (tT hcall hc hfr s hb (λ_=>⟨rfl,hcl⟩) hf hact λv' w' φ' h1 h2 h3=>hK _ _ ⟨φ',h1 _ h2.nx Rl,h2,?_⟩);rw[hdst];exact(hfr.mono h2.le).put hd h3
   ·cases hr
  ·cases hr
 ·next hw=>
  cases hr;rw[hvg] at hw;have hwant:=Qw hfr hg hw;rw[hwant];simp only[Fj,Ag];refine hK _ _ ⟨φ,s,Ext.refl _ _ _ _,?_⟩;rw[hdst];exact hfr.put hd ⟨[],rfl,.nil⟩
 ·cases hr
theorem dX.trans {φ:Emb} {h h1 h2:Heap} {w w1 w2:World} {R:Emb->Prop} {φ1:Emb} (e:Ext φ h.get h.next.toNat w φ1 h1.get h1.next.toNat w1) (p:dX φ1 h1 w1 h2 w2 R):dX φ h w h2 w2 R:=by obtain⟨φ2,s,e2,r⟩:=p;exact⟨φ2,s,e.trans e2,r⟩
def Oh (call:Fg):Prop:=∀(o:B3) fr h fr' h',o.run call fr h=some (fr',h')->Clean h->Clean h'
theorem mB (hcall:Iy P call) (hkeep:Oh call) {N:Nat} {ops:Array Oper} {Q:Exit->Act->World->Prop}:∀(l:List Oper) (vs:List B3),Gw P N ops l=some vs->∀{φ:Emb} {fr fr':Fr} {a:Act} {h h':Heap} {w:World},Hk φ N fr a ->
  Sim φ h.get h.next.toNat w->Clean h->G0 call vs fr h=some (fr',h')->(∀a' w',(dX φ h w h' w' λφ'=>Hk φ' N fr' a')->Q .normal a' w')->wpList P ops Q l a w
 |[],vs,hc,φ,fr,fr',a,h,h',w,hfr,s,hcl,hr,hQ=>by simp[Gw] at hc;subst hc;simp[G0] at hr;obtain⟨rfl,rfl⟩:=hr;exact hQ _ _ ⟨φ,s,Ext.refl _ _ _ _,hfr⟩
 |o::l,vs,hc,φ,fr,fr',a,h,h',w,hfr,s,hcl,hr,hQ=>by
  unfold Gw at hc;split at hc
  ·next vo hvo=>
   split at hc
   ·next vl hvl=>
    cases hc;unfold G0 at hr;split at hr
    ·next fr1 h1 h1r=>
     exact aX hcall hvo hfr s hcl h1r λa' w' ⟨φ1,s1,e1,f1⟩=>
      mB hcall hkeep l vl hvl f1 s1 (hkeep _ _ _ _ _ h1r hcl) hr λa2 w2 p2=>hQ a2 w2 (p2.trans e1)
    ·cases hr
   ·cases hc
  ·cases hc
end
def G9:Fk->Exit->Prop
 |.normal,.normal=>True
 |.exit i,.exit j=>i=j
 |.ret,.ret=>True
 |_,_=>False
def Ub (φ:Emb) (N:Nat) (h:Heap) (w:World) (x:Fk) (fr':Fr) (h':Heap):Exit->Act->World->Prop:=
 λe a' w'=>G9 x e/\dX φ h w h' w' λφ'=>Hk φ' N fr' a'
def oL (P:Program) (call:Fg):Prop:=
 ∀(N id:Nat) (ops:Array Oper) (ds:List DOp),Mh P N ops true=some (.drawn ds)->∀(φ:Emb) (fr fr':Fr) (a:Act) (h h':Heap) (w:World),Hk φ N fr a->Sim φ h.get h.next.toNat w->Clean h ->
  E8 call h.next (Fz h.next (D4 ds)) ds h.next [] fr { h with next:=Fz h.next (D4 ds) }=some (fr',h') ->
  (Code.region id ops true).wp P (Ub φ N h w .normal fr' h') a w
theorem Ig {P:Program} {N:Nat} {ops:Array Oper} {vc:B7} (h:Mh P N ops false=some vc):∃vs,Gw P N ops ops.toList=some vs/\vc=.region vs:=by
 unfold Mh at h;split at h;·next vs hvs=>simp at h;exact⟨vs,hvs,h.symm⟩
 ·cases h
theorem Jy {P:Program} {N:Nat} {ops:Array Oper} {vc:B7} (h:Mh P N ops true=some vc):∃ds,vc=.drawn ds:=by
 unfold Mh at h;split at h
 ·next vs hvs=>
  simp only[Ak] at h;split at h
  ·next hok=>
   cases hd:T0 (Gl ops.toList) (Hn vs) vs (aS (Gl ops.toList) (Hn vs) vs.length) with
   |none=>simp[hd] at h
   |some ds=>simp[hd] at h;exact⟨ds,h.symm⟩
  ·cases h
 ·cases h
theorem Y9 {P:Program} {F:D5} {O:Iw} (hK:∀m,Oh (Fh F O (exec F O m))) (hE:∀m c fr h x fr' h',exec F O m c fr h=some (x,fr',h')->Clean h->Clean h') (N:Nat):∀(n:Nat),(∀m,m<n->Iy P (Fh F O (exec F O m))/\oL P (Fh F O (exec F O m)))->∀(c:Code) (vc:B7),D7 P N c=some vc ->
  ∀(φ:Emb) (fr fr':Fr) (a:Act) (h h':Heap) (w:World) (x:Fk),Hk φ N fr a->Sim φ h.get h.next.toNat w->Clean h->exec F O n vc fr h=some (x,fr',h')->c.wp P (Ub φ N h w x fr' h') a w
 |0,_,c,vc,hc,φ,fr,fr',a,h,h',w,x,hfr,s,hcl,hr=>by simp[exec] at hr
 |n+1,H,c,vc,hc,φ,fr,fr',a,h,h',w,x,hfr,s,hcl,hr=>by
  have ih:=Y9 hK hE N n (λm hm=>H m Aa);cases c with
  |skip=>simp only[D7,Sj] at hc;subst hc;simp only[exec,Sj,Pj] at hr;obtain⟨rfl,rfl,rfl⟩:=hr;exact wp_skip ⟨Ae,φ,s,Ext.refl _ _ _ _,hfr⟩
  |region id ops draw=>
   cases draw with
   |false=>
    obtain⟨vs,hvs,rfl⟩:=Ig hc;simp only[exec] at hr;split at hr
    ·next fr1 h1 hro=>
     cases hr;exact wp_region_list (mB (H n Aa).1 (hK n) _ _ hvs hfr s hcl hro λa' w' p=>⟨Ae,p⟩)
    ·cases hr
   |true=>
    obtain⟨ds,rfl⟩:=Jy hc;simp only[exec] at hr;split at hr
    ·next fr1 h1 hro=>
     cases hr;exact(H n Aa).2 N id ops ds hc φ fr _ a h _ w hfr s hcl hro
    ·cases hr
  |seq c1 c2=>
   simp only[D7] at hc;split at hc
   ·next v1 v2 h1 h2=>
    cases hc;simp only[exec] at hr;split at hr
    ·next fr1 h1' e1=>
     refine wp_seq (wp_mono (ih c1 v1 h1 φ fr fr1 a h h1' w .normal hfr s hcl e1) ?_);rintro e a1 w1 ⟨hx,φ1,s1,x1,f1⟩;cases e<;>simp only[G9] at hx;refine wp_mono (ih c2 v2 h2 φ1 fr1 fr' a1 h1' h' w1 x f1 s1 (hE _ _ _ _ _ _ _ e1 hcl) hr) ?_;rintro e a2 w2 ⟨hx2,p2⟩;exact⟨hx2,p2.trans x1⟩
    ·next hnn=>
     refine wp_seq (wp_mono (ih c1 v1 h1 φ fr fr' a h h' w x hfr s hcl hr) ?_);rintro e a1 w1 ⟨hx,p⟩;cases e with
     |normal=>cases x<;>simp only[G9] at hx;exact absurd hr (hnn _ _)
     |_=>exact⟨hx,p⟩
   ·cases hc
  |cond c0 c1 c2=>
   simp only[D7] at hc;split at hc
   ·next v0 v1 v2 h0 h1 h2=>
    cases hc;simp only[exec] at hr;split at hr
    ·next e0=>
     have e0':a.eval c0=.bool true:=GF hfr h0 e0;exact wp_cond_true e0' (ih c1 v1 h1 φ fr fr' a h h' w x hfr s hcl hr)
    ·next e0=>
     have e0':a.eval c0=.bool false:=GF hfr h0 e0;exact wp_cond_false e0' (ih c2 v2 h2 φ fr fr' a h h' w x hfr s hcl hr)
    ·cases hr
   ·cases hc
  |block id c1=>
   simp only[D7] at hc;cases h1:D7 P N c1 with
   |none=>simp[h1] at hc
   |some v1=>
    simp only[h1,AK,Sj] at hc;subst hc;simp only[exec] at hr;split at hr
    ·next j fr1 h1' e1=>
     refine wp_block (wp_mono (ih c1 v1 h1 φ fr fr1 a h h1' w (.exit j) hfr s hcl e1) ?_);rintro e a1 w1 ⟨hx,p⟩;cases e<;>simp only[G9] at hx;subst hx;simp only[Exit.inBlock];split at hr;·next hj=>cases hr;rw[Aj hj];exact⟨Ae,p⟩
     ·next hj=>cases hr;rw[Ao hj];exact⟨rfl,p⟩
    ·next hnn=>
     refine wp_block (wp_mono (ih c1 v1 h1 φ fr fr' a h h' w x hfr s hcl hr) ?_);rintro e a1 w1 ⟨hx,p⟩;cases e with
     |exit j=>cases x<;>simp only[G9] at hx;exact absurd hr (hnn _ _ _)
     |_=>exact⟨hx,p⟩
  |loop c1=>
   simp only[D7] at hc;cases h1:D7 P N c1 with
   |none=>simp[h1] at hc
   |some v1=>
    simp only[h1,AK,Sj] at hc;subst hc;have key:∀(m:Nat) (φ:Emb) (fr fr':Fr) (a:Act) (h h':Heap) (w:World) (x:Fk),m<=n+1->Hk φ N fr a->Sim φ h.get h.next.toNat w->Clean h->exec F O m (.loop v1) fr h=some (x,fr',h') ->
      Code.rounds P c1 (Ub φ N h w x fr' h') m a w:=by
     intro m
     induction m with
     |zero=>intro φ fr fr' a h h' w x _ hfr s hcl hr;simp[exec] at hr
     |succ m ihm=>
      intro φ fr fr' a h h' w x hm hfr s hcl hr
      rw[rounds_succ]
      simp only[exec] at hr
      split at hr
      ·next fr1 h1' e1=>
       refine wp_mono (Y9 hK hE N m (λm' hm'=>H m' Aa) c1 v1 h1 φ fr fr1 a h h1' w .normal hfr s hcl e1) ?_
       rintro e a1 w1 ⟨hx,φ1,s1,x1,f1⟩
       cases e<;>simp only[G9] at hx
       have:=ihm φ1 fr1 fr' a1 h1' h' w1 x Aa f1 s1 (hE _ _ _ _ _ _ _ e1 hcl) hr
       have mono:∀k a w0,Code.rounds P c1 (Ub φ1 N h1' w1 x fr' h') k a w0->Code.rounds P c1 (Ub φ N h w x fr' h') k a w0:=by
        intro k
        induction k with
        |zero=>intro a w0 hh;exact hh
        |succ k ihk=>
         intro a w0 hh
         rw[rounds_succ] at hh ⊢
         refine wp_mono hh ?_
         intro e a w hq
         cases e with
         |normal=>exact ihk _ _ hq
         |_=>exact⟨hq.1,hq.2.trans x1⟩
       exact mono _ _ _ this
      ·next hnn=>
       refine wp_mono (Y9 hK hE N m (λm' hm'=>H m' Aa) c1 v1 h1 φ fr fr' a h h' w x hfr s hcl hr) ?_
       rintro e a1 w1 ⟨hx,p⟩
       cases e with
       |normal=>
        cases x<;>simp only[G9] at hx
        exact absurd hr (hnn _ _)
       |_=>exact⟨hx,p⟩
    exact wp_loop_rounds (n+1) (key (n+1) φ fr fr' a h h' w x Rl hfr s hcl hr)
  |exit id=>simp only[D7,Sj] at hc;subst hc;simp only[exec,Sj,Pj] at hr;obtain⟨rfl,rfl,rfl⟩:=hr;exact wp_exit ⟨rfl,φ,s,Ext.refl _ _ _ _,hfr⟩
  |ret=>simp only[D7,Sj] at hc;subst hc;simp only[exec,Sj,Pj] at hr;obtain⟨rfl,rfl,rfl⟩:=hr;exact wp_ret ⟨Ae,φ,s,Ext.refl _ _ _ _,hfr⟩
  |_=>simp[D7] at hc
section
variable {P:Program} {φ:Emb} {w:World}
def Qx (tmps:Array Value):ResultVar->Sem Value
 |.tmp t=>pure (tmps.getD t undef)
 |.cell a t=>do loadVar t (<-asAddr (tmps.getD a undef))
theorem yB {N:Nat} {fr:Fr} {a:Act} {h:Heap} {nx:Nat} (hfr:Hk φ N fr a) (s:Sim φ h.get nx w) {r:ResultVar} {vr:Qb} (hc:UN P r=some vr) {c:CV} (hr:K3 fr h vr=some c) :
  ∃v,(Qx a.tmps r).run P w=.ok v w/\Jo φ c v:=by
 cases r with
 |tmp t=>
  simp only[UN,Sj] at hc;subst hc;simp only[K3] at hr;split at hr
  ·next x hx=>
   cases hr;have:=hfr.get _ _ hx;rw[Key.toNat_kn] at this;exact⟨_,rfl,this⟩
  ·cases hr
 |cell t ty=>
  simp only[UN] at hc;split at hc
  ·next hsh=>
   cases hc;simp only[K3] at hr;split at hr
   ·next b o hx=>
    split at hr
    ·next x hread=>
     cases hr;have hp:=hfr.get _ _ hx;rw[Key.toNat_kn] at hp;obtain⟨l,e1,e2⟩:=hp;obtain⟨_,vs,hv,hcell⟩:=s.read e1 hread;obtain⟨v,rfl,hv1⟩:∃v,vs=[v]/\Fx φ x v:=by
      cases hv with
      |cons h t=>cases t;exact⟨_,rfl,h⟩
     have hc0:=hcell 0 v rfl;rw[Jp] at hc0;exact⟨v,by simp only[Qx,e2,asAddr,Sem.run_bind,Sem.run_pure,Result.andThen_ok,loadVar,Ni hsh,Fj,Ag,run_load,show w.cell? ⟨l.blk,o+l.off,none⟩=some v from hc0],hv1⟩
    ·cases hr
   ·cases hr
  ·next n hsh=>
   cases hc;simp only[K3] at hr;split at hr
   ·next b o hx=>
    split at hr
    ·next ls hread=>
     cases hr;have hp:=hfr.get _ _ hx;rw[Key.toNat_kn] at hp;obtain⟨l,e1,e2⟩:=hp;obtain⟨hl,vs,hv,hcell⟩:=s.read e1 hread;obtain⟨h1,h2⟩:=Nj (w:=w) hsh;have hvl:vs.length=n:=by rw[<-A5 hv,hl]
     have hload:(loadCells ⟨l.blk,o+l.off,none⟩ n).run P w=.ok vs.toArray w:=by rw[<-hvl];exact run_loadCells_list w _ vs hcell
     exact⟨.agg vs.toArray,by simp only[Qx,e2,asAddr,Sem.run_bind,Sem.run_pure,Result.andThen_ok,loadVar,h1,Ak,run_sizeOf h2,hload],vs,rfl,hv⟩
    ·cases hr
   ·cases hr
  ·cases hc
theorem cR {N:Nat} {fr:Fr} {a:Act} {h:Heap} {nx:Nat} (hfr:Hk φ N fr a) (s:Sim φ h.get nx w):∀{rs:List ResultVar} {vrs:List Qb} {l:List CV},fP P rs=some vrs->Im fr h vrs=some l ->
  ∃vs,(rs.mapM (Qx a.tmps)).run P w=.ok vs w/\A1 (Jo φ) l vs
 |[],vrs,l,hc,hr=>by simp[fP] at hc;subst hc;simp[Im] at hr;subst hr;exact⟨[],Ac,.nil⟩
 |r::rs,vrs,l,hc,hr=>by
  unfold fP at hc;split at hc
  ·next vr hvr=>
   split at hc
   ·next vrs' hvrs=>
    cases hc;unfold Im at hr;split at hr
    ·next x hx=>
     split at hr
     ·next xs hxs=>
      cases hr;obtain⟨v,h1,h2⟩:=yB hfr s hvr hx;obtain⟨vs,h3,h4⟩:=cR hfr s hvrs hxs;exact⟨v::vs,by simp[List.mapM_cons,h1,h3],.cons h2 h4⟩
     ·cases hr
    ·cases hr
   ·cases hc
  ·cases hc
theorem gH {N:Nat} {fn:Func} {fr:Fr} {a:Act} {h:Heap} {nx:Nat} (hfr:Hk φ N fr a) (s:Sim φ h.get nx w) {vrs:List Qb} {l:List CV} (hc:fP P fn.results.toList=some vrs) (hr:Im fr h vrs=some l) :
  ∃v,(results fn a.tmps).run P w=.ok v w/\Gr φ (J9 l) v:=by
 obtain⟨vs,h1,h2⟩:=cR hfr s hc hr;have hm:(fn.results.mapM (Qx a.tmps)).run P w=.ok vs.toArray w:=by rw[Array.mapM_eq_mapM_toList];simp[h1]
 have hres:results fn a.tmps=(do let vs<-fn.results.mapM (Qx a.tmps);pure (if h:vs.size=1 then vs[0] else .tuple vs)):=by unfold results;congr 1
 rw[hres];simp only[Sem.run_bind,hm,Result.andThen_ok,Sem.run_pure];refine⟨_,rfl,?_⟩;unfold J9;split
 ·next x=>
  cases h2 with
  |cons hx t=>cases t;exact hx
 ·next hne=>
  have hlen:=A5 h2;have:¬(vs.toArray.size=1):=by
   intro h;have:l.length=1:=by rw[hlen];simpa using h
   match l,this with
   |[x],_=>exact hne x rfl
  rw[dif_neg this];exact⟨vs,rfl,h2⟩
end
theorem mC {φ:Emb} {args:EA} {vs:List Value} (h:A1 (Gr φ) args vs) (N:Nat) :
  Hk φ N (Tr.z.G8 0 args) { tmps:=vs.toArray++Array.replicate (N-vs.toArray.size) undef,defers:=[] }:=by
 refine⟨by simp;omega,λk v e=>?_,rfl⟩;rw[<-Key.J8 k,Tr.Ge] at e;split at e
 ·next hk=>
  simp only[CP] at e;obtain⟨u,h1,h2⟩:=D3 h _ e;have hlt:k.toNat<vs.length:=(Gi.1 h1).1;have:((vs.toArray++Array.replicate (N-vs.toArray.size) undef).getD k.toNat undef)=u:=by rw[CA,Array.getElem?_append_left (by simpa using hlt)];simp[h1]
  rw[this];exact h2
 ·simp at e
theorem Xj {P : Program} {fn : Func} {vf : Gq} (h : sU P fn = some vf) : (fn.name == "runtime.NumGoroutine") = false ∧ ∃ c, fn.body = some c ∧ D7 P fn.ntmps c = some vf.body ∧ fP P fn.results.toList = some vf.results := by
 unfold sU at h
 split at h
 ·cases h
 ·next hn=>
  split at h
  ·next c hb=>
   split at h
   ·next v rs h1 h2=>cases h;exact⟨by simpa using hn,c,hb,h1,h2⟩
   ·cases h
  ·cases h
def Iw.caller (O:Iw):Fg:=λf args h=>match O f with
 |some g=>g args h
 |none=>none
theorem UW {P:Program} {F:D5} (hF:∀f vf,F f=some vf->Jf P f=some vf) {O:Iw} (hK:∀m,Oh (Fh F O (exec F O m))) (hE:∀m c fr h x fr' h',exec F O m c fr h=some (x,fr',h')->Clean h->Clean h') (hO:Iy P O.caller) (n:Nat) (H:∀m,m<n->Iy P (Fh F O (exec F O m))/\oL P (Fh F O (exec F O m))) :
  Iy P (Fh F O (exec F O n)):=by
 refine⟨λf args h r hr=>?_,λf args h v h' hcl hr φ w vs s ha=>?_⟩
 ·unfold Fh at hr;split at hr
  ·next vf hf=>
   have hf:=hF _ _ hf;unfold Jf at hf;cases hfn:P.funcs[f]? with
   |none=>simp[hfn] at hf
   |some fn=>simp[hfn] at hf;obtain⟨h1,c,h2,_⟩:=Xj hf;exact⟨fn,rfl,h1,by simp[h2]⟩
  ·split at hr;·next g ho=>exact hO.dom f args h r (by simp only[Iw.caller,ho];exact hr)
   ·cases hr
 ·unfold Fh at hr;split at hr
  ·next vf hf=>
   have hf:=hF _ _ hf;unfold Jf at hf;cases hfn:P.funcs[f]? with
   |none=>simp[hfn] at hf
   |some fn=>
    simp[hfn] at hf;obtain⟨_,c,hb,hcode,hres⟩:=Xj hf;split at hr;·cases hr
    ·next x fr h2 hne hex=>
     split at hr
     ·next l hl=>
      cases hr;refine calls_of_wp hfn hb (wp_mono (Y9 hK hE fn.ntmps n H c vf.body hcode φ _ fr _ h h' w x (mC ha fn.ntmps) s hcl hex) ?_);rintro e a w' ⟨hx,φ',s',x',f'⟩;obtain⟨v',e1,e2⟩:=gH (P:=P) f' s' hres hl;have hgoal:bodyPost P fn (λe w'=>∃v',e=.returned v'/\dX φ h w h' w' λφ'=>Gr φ' (J9 l) v') .ret a w':=⟨f'.defers,v',e1,v',rfl,φ',s',x',e2⟩;cases e with
      |normal=>exact hgoal
      |ret=>exact hgoal
      |exit i=>
       cases x with
       |exit j=>exact(hne j rfl).elim
       |_=>exact hx.elim
      |_=>cases x<;>exact hx.elim
     ·cases hr
    ·cases hr
  ·split at hr;·next g ho=>exact hO.run f args h v h' hcl (by simp only[Iw.caller,ho];exact hr) φ w vs s ha
   ·cases hr
def Wm {α:Type} (f:Heap->Option (α×Heap)):Prop:=
 ∀h v h',f h=some (v,h')->h.next.toNat<=h'.next.toNat/\∀b x,b.toNat<h.next.toNat->E6 b h->E6 b h'/\f (h.upd b (some x))=some (v,h'.upd b (some x))
section
variable {h:Heap} {b:Key} {x:Blk}
theorem L5 {c:Key} (hne:b≠c) (y:Option Blk):(h.upd b y).get c=h.get c:=by rw[D1];simp[hne]
theorem E6.ne {c:Key} {y:Blk} (hf:E6 b h) (hc:h.get c=some y):b≠c:=by rintro rfl;rw[hf.1] at hc;cases hc
theorem E6.get {c:Key} {y:Blk} (hf:E6 b h) (hc:h.get c=some y):(h.upd b (some x)).get c=some y:=by rw[L5 (hf.ne hc)];exact hc
theorem E6.cells {c:Key} {p:Tr SV×Nat} (hf:E6 b h) (hc:h.cells c=some p):(h.upd b (some x)).cells c=some p:=by obtain⟨own,anc,hg⟩:=fQ (c:=p.1) (m:=p.2) hc;unfold Heap.cells;rw[hf.get hg]
theorem E6.read {c:Key} {o n:Nat} {l:EB} (hf:E6 b h) (hr:h.read c o n=some l):(h.upd b (some x)).read c o n=some l:=by
 unfold Heap.read at hr ⊢;split at hr;·next h0=>rw[Aj h0];exact hr
 ·next h0=>
  rw[Ao h0];split at hr;·next cc m hc=>rw[hf.cells hc];exact hr
  ·cases hr
theorem Iz {c:Key} (hne:b≠c) (y z:Option Blk):(h.upd b y).upd c z=(h.upd c z).upd b y:=by simp only[Heap.upd];rw[Tr.Tk _ _ _ hne]
theorem Uc:∀(anc:ED) (h:Heap),b∉anc->∀y,(h.upd b y).E3 anc=(h.E3 anc).upd b y
 |[],_,_,_=>rfl
 |c::l,h,hn,y=>by simp only[Af,not_or] at hn;rw[Heap.E3,Heap.E3,Iz hn.1,Uc l _ hn.2]
theorem Qy (y:Blk) (z:Option Blk) (hne:b≠h.next):(h.upd b z).Fu y=(h.Fu y).upd b z:=by simp only[Heap.Fu,Heap.upd];rw[Tr.Tk _ _ _ hne]
theorem Jq (z:Option Blk):(h.upd b z).next=h.next:=rfl
theorem Nq (y:Blk):(h.Fu y).next=h.next.succ:=rfl
theorem gI {c:Key} (hlt:b.toNat<c.toNat):b≠c:=by rintro rfl;omega
theorem E6.upd {c:Key} (hf:E6 b h) (hne:b≠c) (y:Option Blk) (hy:∀z,y=some z->b∉z.anc):E6 b (h.upd c y):=by
 refine⟨by rw[L5 (BL hne)];exact hf.1,λd z hd=>?_⟩;rw[D1] at hd;by_cases hc:c=d;·simp only[hc,Ak] at hd;exact hy z hd
 ·simp only[hc,Ag] at hd;exact hf.2 d z hd
theorem E6.Fu (hf:E6 b h) (hlt:b.toNat<h.next.toNat) (y:Blk) (hy:b∉y.anc):E6 b (h.Fu y):=by
 have hne:=gI hlt;refine⟨?_,λd z hd=>?_⟩;·rw[Gt];simp[BL hne,hf.1]
 ·rw[Gt] at hd;by_cases hc:h.next=d;·simp only[hc,Ak,Sj] at hd;subst hd;exact hy
  ·simp only[hc,Ag] at hd;exact hf.2 d z hd
theorem E6.E3:∀(anc:ED) {h:Heap},E6 b h->b∉anc->E6 b (h.E3 anc)
 |[],_,hf,_=>hf
 |c::l,h,hf,hn=>by simp only[Af,not_or] at hn;exact E6.E3 l (hf.upd hn.1 none Ac) hn.2
theorem Rz (c:Key) (o:Nat) (l:EB) {h':Heap} (e:h.write c o l=some h'):h'.next=h.next/\∀b x,E6 b h->E6 b h'/\(h.upd b (some x)).write c o l=some (h'.upd b (some x)):=by
 unfold Heap.write at e;split at e
 ·next cc m anc hg=>
  split at e
  ·next hle=>
   cases e;refine⟨by simp[Heap.upd,Gc],λb x hf=>⟨(hf.E3 anc (hf.2 _ _ hg)).upd (hf.ne hg) _ Ac,?_⟩⟩;unfold Heap.write;rw[hf.get hg];simp only[hle,Ak];rw[Uc anc h (hf.2 _ _ hg),Iz (hf.ne hg)]
  ·cases e
 ·cases e
theorem yC (c:Key) (o k:Nat) (l:EB) {p:Key×Heap} (e:h.renew c o k l=some p):p.1=h.next/\p.2.next=h.next.succ/\∀b x,b.toNat<h.next.toNat->E6 b h->E6 b p.2/\(h.upd b (some x)).renew c o k l=some (p.1,p.2.upd b (some x)):=by
 unfold Heap.renew at e;split at e
 ·next h0=>
  cases e;refine⟨rfl,rfl,λb x hlt hf=>⟨hf.Fu hlt _ Ac,?_⟩⟩;unfold Heap.renew;rw[Aj h0];simp only[Heap.new,Jq];rw[Qy _ _ (gI hlt)]
 ·next h0=>
  split at e
  ·next cc m hc=>
   split at e
   ·next body hb=>
    cases e;refine⟨rfl,rfl,λb x hlt hf=>⟨hf.Fu hlt _ Ac,?_⟩⟩;unfold Heap.renew;rw[Ao h0,hf.cells hc];simp only[hb,Heap.new,Jq];rw[Qy _ _ (gI hlt)]
   ·cases e
  ·cases e
theorem mD (c:Key) (o k:Nat) (l:EB) {p:Key×Heap} (e:h.grow c o k l=some p):p.1=h.next/\p.2.next=h.next.succ/\∀b x,b.toNat<h.next.toNat->E6 b h->E6 b p.2/\(h.upd b (some x)).grow c o k l=some (p.1,p.2.upd b (some x)):=by
 unfold Heap.grow at e;split at e
 ·next cc m anc hg=>
  split at e
  ·next body hb=>
   split at e
   ·next hm=>
    cases e;refine⟨rfl,rfl,λb x hlt hf=>?_⟩;have hne:=hf.ne hg;have hna:=hf.2 _ _ hg;refine⟨(hf.upd hne _ (by simpa using hna)).Fu hlt _ (by simpa using⟨hne,hna⟩),?_⟩;unfold Heap.grow;rw[hf.get hg];simp only[hb,hm,Ak,Jq];rw[Iz hne,Qy _ _ (show b≠(h.upd c (some ⟨.cells cc m,false,anc⟩)).next from gI hlt)]
   ·next hm=>
    cases e;refine⟨rfl,by simp[Heap.Fu,Heap.upd,Gc],λb x hlt hf=>?_⟩;have hne:=hf.ne hg;have hna:=hf.2 _ _ hg;have hlt':b.toNat<((h.E3 anc).upd c none).next.toNat:=by simp only[Heap.upd,Gc];exact hlt
    refine⟨((hf.E3 anc hna).upd hne none Ac).Fu hlt' _ Ac,?_⟩;unfold Heap.grow;rw[hf.get hg];simp only[hb,hm,Ag,Jq];rw[Uc anc h hna,Iz hne,Qy _ _ (gI hlt')]
  ·cases e
 ·cases e
end
theorem Ud {h:Heap} {b:Key} {x:Blk} (hf:E6 b h) {es:Nat} {sv:SV} {r:EB×Nat} (e:Il h es sv=some r):Il (h.upd b (some x)) es sv=some r:=by
 unfold Il at e ⊢;split at e;·exact e
 ·split at e
  ·next hes=>
   rw[Aj hes];split at e;·next l hr=>rw[hf.read hr];exact e
   ·cases e
  ·cases e
 ·exact e
 ·cases e
theorem L6 {α:Type} {f:Heap->Option (α×Heap)} (h1:∀h v h',f h=some (v,h')->h'=h/\∀b x,E6 b h->f (h.upd b (some x))=some (v,h.upd b (some x))):Wm f:=by intro h v h' e;obtain⟨rfl,h2⟩:=h1 h v h' e;exact⟨Rl,λb x _ hf=>⟨hf,h2 b x hf⟩⟩
theorem Oi {α:Type} {f:Heap->Option (α×Heap)} (h1:∀h v h',f h=some (v,h')->∃y:Blk,y.anc=[]/\h'=h.Fu y/\∀b x,b.toNat<h.next.toNat->E6 b h->f (h.upd b (some x))=some (v,(h.upd b (some x)).Fu y)):Wm f:=by intro h v h' e;obtain⟨y,hy,rfl,h2⟩:=h1 h v h' e;refine⟨by rw[Nq,Key.toNat_succ];omega,λb x hlt hf=>⟨hf.Fu hlt y (by simp[hy]),?_⟩⟩;rw[h2 b x hlt hf,Qy _ _ (gI hlt)]
theorem K7 {h:Heap} {x:Option SV} {v:AV} {h':Heap} (e:Hs h x=some (v,h')):h'=h/\∀h2,Hs h2 x=some (v,h2):=by
 unfold Hs at e;split at e;·cases e;exact⟨rfl,λ_=>rfl⟩
 ·cases e
theorem Ue {h:Heap} {x:Option CV} {v:AV} {h':Heap} (e:M5 h x=some (v,h')):h'=h/\∀h2,M5 h2 x=some (v,h2):=by
 unfold M5 at e;split at e;·cases e;exact⟨rfl,λ_=>rfl⟩
 ·cases e
def Acn (op:VOp):Prop:=∀args h v h',op.run args h=some (v,h')->h'=h/\∀h2,op.run args h2=some (v,h2)
def Pf:VOp->Bool
 |.mov|.pick|.build ..|.J7|.bin _|.eq ..|.un _|.conv _|.Rk ..|.slice ..|.Ft _|.field ..|.xI ..|.isl _|.idx ..|.xJ|.extract _|.lens|.Pz|.P0 _|.cap|.Nu _|.bad|.nW|.FO=>true
 |_=>false
theorem gJ {op:VOp} (hb:Pf op=true):Acn op:=by
 intro args h v h' e;cases op<;>simp only[Pf,Fj] at hb<;>simp only[VOp.run] at e ⊢;case mov=>unfold MY at e;split at e<;>cases e;exact⟨rfl,λ_=>rfl⟩
 case pick=>unfold FP at e;split at e<;>cases e;exact⟨rfl,λ_=>rfl⟩
 case build z p=>
  unfold fG at e ⊢;split at e;·next cs hl=>cases e;exact⟨rfl,λ_=>rfl⟩
  ·cases e
 case J7=>unfold eB at e;split at e<;>cases e<;>exact⟨rfl,λ_=>rfl⟩
 case bin b=>unfold MZ at e;split at e;exact K7 e;cases e
 case eq n k=>
  unfold rEq at e;split at e
  ·split at e;·next r hr=>cases e;exact⟨rfl,λ_=>by unfold rEq;simp only[hr]⟩
   ·cases e
  ·cases e
 case un u=>unfold rUn at e;split at e;exact K7 e;cases e
 case conv k=>unfold FQ at e;split at e<;>cases e;exact⟨rfl,λ_=>rfl⟩
 case Rk f n=>
  unfold Yr at e ⊢;split at e;·cases e;exact⟨rfl,λ_=>rfl⟩
  ·cases e
 case slice k lo hi mx=>
  unfold Qa at e;split at e
  ·next x xs=>
   split at e
   ·next bs hbs=>
    split at e
    ·split at e;·cases e
     ·next hmx=>
      split at e;·next a b c hbd=>cases e;exact⟨rfl,λ_=>by unfold Qa;simp only[hbs,hbd];rw[Ao hmx]⟩
      ·cases e
    ·have:=K7 e;exact⟨this.1,λh2=>by unfold Qa;simp only[hbs];exact this.2 h2⟩
    ·have:=K7 e;exact⟨this.1,λh2=>by unfold Qa;simp only[hbs];exact this.2 h2⟩
    ·cases e
   ·cases e
  ·cases e
 case Ft off=>unfold nY at e;split at e<;>cases e;exact⟨rfl,λ_=>rfl⟩
 case field off n=>unfold fH at e;split at e;exact Ue e;cases e
 case xI n es=>
  unfold fI at e;split at e
  ·split at e;·next hc=>cases e;exact⟨rfl,λ_=>by unfold fI;simp only[hc,and_self,Ak]⟩
   ·cases e
  ·cases e
 case isl es=>
  unfold xN at e;split at e
  ·split at e;·next hc=>cases e;exact⟨rfl,λ_=>by unfold xN;simp only[hc,and_self,Ak]⟩
   ·cases e
  ·cases e
 case idx n es m=>
  unfold JK at e;split at e
  ·split at e;·next hc=>have:=Ue e;exact⟨this.1,λh2=>by unfold JK;simp only[hc,and_self,Ak];exact this.2 h2⟩
   ·cases e
  ·cases e
 case xJ=>
  unfold lR at e;split at e
  ·split at e
   ·next hc=>
    split at e;·next n hn=>cases e;exact⟨rfl,λ_=>by unfold lR;simp only[hc,Ak,hn]⟩
    ·cases e
   ·cases e
  ·cases e
 case extract i=>unfold Tn at e;split at e;exact Ue e;cases e
 case lens=>unfold FT at e;split at e<;>cases e<;>exact⟨rfl,λ_=>rfl⟩
 case Pz=>unfold eC at e;split at e<;>cases e;exact⟨rfl,λ_=>rfl⟩
 case P0 n=>unfold eD at e;split at e<;>cases e;exact⟨rfl,λ_=>rfl⟩
 case cap=>unfold UJ at e;split at e<;>cases e<;>exact⟨rfl,λ_=>rfl⟩
 case Nu m=>unfold Yu at e;split at e;exact K7 e;cases e
 all_goals cases e
theorem oM (op:VOp) (args:EA):Wm (op.run args):=by
 by_cases hbl:Pf op=true;·exact L6 λh v h' e=>by obtain⟨h1,h2⟩:=gJ hbl args h v h' e;exact⟨h1,λb x _=>h2 _⟩
 ·cases op<;>simp only[Pf,CN] at hbl;case Jv zs=>
   refine Oi λh v h' e=>?_;simp only[VOp.run] at e ⊢;unfold lQ at e;split at e;·cases e;exact⟨_,rfl,rfl,λb x _ _=>rfl⟩
   ·cases e
  case box n=>
   refine Oi λh v h' e=>?_;simp only[VOp.run] at e ⊢;unfold sM at e;split at e
   ·split at e;·next hc=>cases e;exact⟨_,rfl,rfl,λb x _ _=>by unfold sM;simp only[hc,Ak,Jq];rfl⟩
    ·cases e
   ·cases e
  case J6 es len z p=>
   refine Oi λh v h' e=>?_;simp only[VOp.run] at e ⊢;unfold Vl at e ⊢;split at e;·next cs hl=>cases e;exact⟨_,rfl,rfl,λb x _ _=>by simp only[Jq];rfl⟩
   ·cases e
  case Fb=>
   refine L6 λh v h' e=>?_;simp only[VOp.run] at e ⊢;unfold Kk at e;split at e
   ·split at e;·next y hr=>cases e;exact⟨rfl,λb x hf=>by unfold Kk;simp only[hf.read hr]⟩
    ·cases e
   ·cases e
  case Fl n=>
   refine L6 λh v h' e=>?_;simp only[VOp.run] at e ⊢;unfold Kl at e;split at e
   ·split at e;·next y hr=>cases e;exact⟨rfl,λb x hf=>by unfold Kl;simp only[hf.read hr]⟩
    ·cases e
   ·cases e
  case store n=>
   intro h v h' e;simp only[VOp.run] at e ⊢;unfold Xd at e;split at e
   ·split at e
    ·next hc=>
     split at e
     ·next h2 hw=>
      cases e;obtain⟨h3,h4⟩:=Rz _ _ _ hw;refine⟨by rw[h3];exact Rl,λb x _ hf=>⟨(h4 b x hf).1,?_⟩⟩;unfold Xd;simp only[hc,Ak,(h4 b x hf).2]
     ·cases e
    ·cases e
   ·cases e
  case s2b=>
   refine Oi λh v h' e=>?_;simp only[VOp.run] at e ⊢;unfold xL at e;split at e
   ·split at e;·next hc=>cases e;exact⟨_,rfl,rfl,λb x _ _=>by unfold xL;simp only[hc,Ak,Jq]⟩
    ·cases e
   ·cases e
  case b2s=>
   refine L6 λh v h' e=>?_;simp only[VOp.run] at e ⊢;unfold xM at e;split at e
   ·split at e
    ·next l n hs=>
     split at e;·next l2 hl=>cases e;exact⟨rfl,λb x hf=>by unfold xM;simp only[Ud hf hs,hl]⟩
     ·cases e
    ·cases e
   ·cases e;exact⟨rfl,λb x hf=>rfl⟩
   ·cases e
  case S7=>
   refine Oi λh v h' e=>?_;simp only[VOp.run] at e ⊢;unfold Tm at e;split at e;·cases e;exact⟨_,rfl,rfl,λb x _ _=>rfl⟩
   ·cases e;exact⟨_,rfl,rfl,λb x _ _=>rfl⟩
   ·cases e
  case O7 es by' z=>
   refine Oi λh v h' e=>?_;simp only[VOp.run] at e ⊢;unfold Mv at e;split at e
   ·split at e;·next hc=>cases e;exact⟨_,rfl,rfl,λb x _ _=>by unfold Mv;simp only[hc,and_self,Ak,Jq];rfl⟩
    ·cases e
   ·cases e
  case lookup ks z ok=>
   refine L6 λh v h' e=>?_;simp only[VOp.run] at e ⊢;unfold H5 at e;split at e
   ·split at e;·next hc=>cases e;exact⟨rfl,λb x hf=>by unfold H5;simp only[hc,Ak]⟩
    ·cases e
   ·split at e
    ·next hc=>
     split at e
     ·next l own anc hg=>
      split at e;·next r hr=>cases e;exact⟨rfl,λb x hf=>by unfold H5;simp only[hc,Ak,hf.get hg,hr]⟩
      ·cases e
     ·cases e
    ·cases e
   ·cases e
  case K1 ks=>
   intro h v h' e;simp only[VOp.run] at e ⊢;unfold Ro at e;split at e
   ·split at e
    ·next hc=>
     split at e
     ·next l hg=>
      split at e
      ·next l2 hl=>
       cases e;refine⟨Rl,λb x _ hf=>⟨hf.upd (hf.ne hg) _ Ac,?_⟩⟩;unfold Ro;simp only[hc,Ak,hf.get hg,hl];rw[Iz (hf.ne hg)]
      ·cases e
     ·cases e
    ·cases e
   ·cases e
  case lE=>
   refine L6 λh v h' e=>?_;simp only[VOp.run] at e ⊢;unfold Tp at e;split at e;·cases e;exact⟨rfl,λb x hf=>rfl⟩
   ·split at e;·next l own anc hg=>cases e;exact⟨rfl,λb x hf=>by unfold Tp;simp only[hf.get hg]⟩
    ·cases e
   ·cases e
  case append es by'=>
   intro h v h' e;simp only[VOp.run] at e ⊢;unfold O9 at e;split at e
   ·next s x0=>
    split at e
    ·next new n hs=>
     split at e
     ·next r h2 ha=>
      cases e;have key:h.next.toNat<=h'.next.toNat/\∀b x,b.toNat<h.next.toNat->E6 b h->E6 b h'/\Gx (h.upd b (some x)) es by' s new n=some (r,h'.upd b (some x)):=by
       unfold Gx at ha;split at ha
       ·split at ha;·next hn=>cases ha;exact⟨Rl,λb x _ hf=>⟨hf,by unfold Gx;simp only[hn,Ak]⟩⟩
        ·next hn=>
         split at ha
         ·next hroom=>
          cases ha;refine⟨by simp only[Heap.new,Nq,Key.toNat_succ];omega,λb x hlt hf=>⟨hf.Fu hlt _ Ac,?_⟩⟩;unfold Gx;simp only[hn,Ag,hroom,Ak,Heap.new,Jq];rw[Qy _ _ (gI hlt)]
         ·cases ha
       ·split at ha
        ·next hes=>
         split at ha;·next hn=>cases ha;exact⟨Rl,λb x _ hf=>⟨hf,by unfold Gx;simp only[hn,Ak,hes]⟩⟩
         ·next hn=>
          split at ha
          ·next c=>
           split at ha
           ·next hle=>
            split at ha
            ·next h3 hw=>
             cases ha;obtain⟨g1,g2⟩:=Rz _ _ _ hw;refine⟨by rw[g1];exact Rl,λb x _ hf=>⟨(g2 b x hf).1,?_⟩⟩;unfold Gx;simp only[hes,Ak,hn,Ag,hle];rw[hes] at g2;simp only[(g2 b x hf).2]
            ·cases ha
           ·next hle=>
            split at ha
            ·next hroom=>
             split at ha
             ·next b2 h3 hw=>
              cases ha;obtain⟨g1,g2,g3⟩:=yC _ _ _ _ hw;refine⟨by rw[g2,Key.toNat_succ];omega,λb x hlt hf=>⟨(g3 b x hlt hf).1,?_⟩⟩;unfold Gx;simp only[hes,Ak,hn,Ag,hle,hroom];rw[hes] at g3;simp only[(g3 b x hlt hf).2]
             ·cases ha
            ·cases ha
          ·split at ha
           ·next hroom=>
            split at ha
            ·next b2 h3 hw=>
             cases ha;obtain⟨g1,g2,g3⟩:=mD _ _ _ _ hw;refine⟨by rw[g2,Key.toNat_succ];omega,λb x hlt hf=>⟨(g3 b x hlt hf).1,?_⟩⟩;unfold Gx;simp only[hes,Ak,hn,Ag,hroom];rw[hes] at g3;simp only[(g3 b x hlt hf).2]
            ·cases ha
           ·cases ha
        ·cases ha
       ·cases ha
      refine⟨key.1,λb x hlt hf=>⟨(key.2 b x hlt hf).1,?_⟩⟩;unfold O9;simp only[Ud hf hs,(key.2 b x hlt hf).2]
     ·cases e
    ·cases e
   ·cases e
  case copy es=>
   intro h v h' e;simp only[VOp.run] at e ⊢;unfold Tq at e;split at e
   ·next d x0=>
    split at e
    ·next src n hs=>
     split at e;·cases e;exact⟨Rl,λb x _ hf=>⟨hf,by unfold Tq;simp only[Ud hf hs]⟩⟩
     ·split at e
      ·next hes=>
       split at e;·next hm=>cases e;exact⟨Rl,λb x _ hf=>⟨hf,by unfold Tq;simp only[Ud hf hs];rw[Aj hes,Aj hm]⟩⟩
       ·next hm=>
        split at e
        ·next h3 hw=>
         cases e;obtain⟨g1,g2⟩:=Rz _ _ _ hw;refine⟨by rw[g1];exact Rl,λb x _ hf=>⟨(g2 b x hf).1,?_⟩⟩;unfold Tq;simp only[Ud hf hs];rw[Aj hes,Ao hm];simp only[(g2 b x hf).2]
        ·cases e
      ·cases e
     ·cases e
    ·cases e
   ·cases e
  case Lu=>
   refine Oi λh v h' e=>?_;simp only[VOp.run] at e ⊢;unfold Rp at e;split at e
   ·split at e
    ·next l own anc hg=>
     split at e;·next hc=>cases e;exact⟨_,rfl,rfl,λb x _ hf=>by unfold Rp;simp only[hf.get hg,hc,Ak,Jq];rfl⟩
     ·cases e
    ·cases e
   ·cases e
  case Qr=>
   intro h v h' e;simp only[VOp.run] at e ⊢;unfold Nx at e;split at e
   ·split at e
    ·next b0 n st hg=>
     split at e
     ·next l own anc hg2=>
      split at e
      ·next hl=>
       split at e;·cases e;refine⟨Rl,λb x _ hf=>⟨hf.upd (hf.ne hg) _ Ac,?_⟩⟩;unfold Nx;simp only[hf.get hg,hf.get hg2,hl,Ak];rw[Iz (hf.ne hg)]
       ·cases e;exact⟨Rl,λb x _ hf=>⟨hf,by unfold Nx;simp only[hf.get hg,hf.get hg2,hl,Ak]⟩⟩
       ·cases e;exact⟨Rl,λb x _ hf=>⟨hf,by unfold Nx;simp only[hf.get hg,hf.get hg2,hl,Ak]⟩⟩
       ·cases e
      ·cases e
     ·cases e
    ·cases e
   ·cases e
  case Lv=>
   refine L6 λh v h' e=>?_;simp only[VOp.run] at e ⊢;unfold Rq at e;split at e
   ·split at e
    ·next b0 n own anc hg=>
     split at e
     ·next k v own2 anc2 hg2=>
      split at e;·next hn=>cases e;exact⟨rfl,λb x hf=>by unfold Rq;simp only[hf.get hg,hf.get hg2,hn,Ak]⟩
      ·cases e
     ·cases e
    ·cases e
   ·cases e
def Gn (call:Fg):Prop:=∀f args,Wm (call f args)
def Aa1 {α:Type} (m:Nat) (f:Heap->Option (α×Heap)):Prop:=
 ∀h v h',m<=h.next.toNat->f h=some (v,h')->h.next.toNat<=h'.next.toNat/\∀b x,b.toNat<m->E6 b h->E6 b h'/\f (h.upd b (some x))=some (v,h'.upd b (some x))
theorem Wm.to {α:Type} {f:Heap->Option (α×Heap)} (h:Wm f) (m:Nat):Aa1 m f:=
 λh0 v h' hm e=>⟨(h h0 v h' e).1,λb x hb hf=>(h h0 v h' e).2 b x Aa hf⟩
theorem tU {call:Fg} (hc:Gn call) (a:Ff) (args:EA):Wm (a.run call args):=by
 cases a with
 |op o=>exact oM o args
 |call f=>exact hc f args
 |Kr=>
  intro h v h' e;simp only[Ff.run] at e ⊢;split at e;·next f fs cs xs=>exact hc _ _ h v h' e
  ·cases e
theorem Qz {call:Fg} (hc:Gn call) (o:B3) (fr:Fr):Wm (o.run call fr):=by
 intro h v h' e;simp only[B3.run] at e ⊢;split at e
 ·next hw=>
  split at e
  ·next args hf=>
   split at e
   ·next u h1 ha=>
    cases e;obtain⟨g1,g2⟩:=tU hc o.act args h u _ ha;exact⟨g1,λb x hb hfr=>⟨(g2 b x hb hfr).1,by simp only[(g2 b x hb hfr).2]⟩⟩
   ·cases e
  ·cases e
 ·next hw=>cases e;exact⟨Rl,λb x _ hfr=>⟨hfr,by simp only⟩⟩
 ·cases e
theorem tW {call:Fg} (hc:Gn call):∀(l:List B3) (fr:Fr),Wm (G0 call l fr)
 |[],fr=>by intro h v h' e;simp only[G0,Sj,Pj] at e;obtain⟨rfl,rfl⟩:=e;exact⟨Rl,λb x _ hf=>⟨hf,rfl⟩⟩
 |o::l,fr=>by
  intro h v h' e;simp only[G0] at e ⊢;split at e
  ·next fr1 h1 h1e=>
   obtain⟨g1,g2⟩:=Qz hc o fr h fr1 h1 h1e;obtain⟨g3,g4⟩:=tW hc l fr1 h1 v h' e;refine⟨Aa,λb x hb hf=>?_⟩;obtain⟨k1,k2⟩:=g2 b x hb hf;obtain⟨k3,k4⟩:=g4 b x Aa k1;exact⟨k3,by simp only[k2,k4]⟩
  ·cases e
theorem E6.next {b:Key} {h:Heap} (hf:E6 b h) (r:Key):E6 b { h with next:=r }:=hf
theorem Jb {o:VOp} (hk:o.kind=.quiet) {args:EA} {h h':Heap} {v:AV} (e:o.run args h=some (v,h')):h'=h/\∀h2:Heap,(∀b,Ts o args=some b->h2.get b=h.get b)->o.run args h2=some (v,h2):=by
 by_cases hbl:Pf o=true;·obtain⟨h1,h2⟩:=gJ hbl args h v h' e;exact⟨h1,λh3 _=>h2 h3⟩
 ·have rd:∀{h2:Heap} {b:Key},h2.get b=h.get b->∀o n,h2.read b o n=h.read b o n:=λhg o n=>by unfold Heap.read Heap.cells;rw[hg]
  cases o<;>simp only[Pf,CN] at hbl<;>simp only[VOp.kind,reduceCtorEq] at hk<;>simp only[VOp.run] at e ⊢;case Fb=>
   unfold Kk at e;split at e
   ·split at e;·next y hr=>cases e;exact⟨rfl,λh2 hh=>by unfold Kk;simp only[rd (hh _ rfl),hr]⟩
    ·cases e
   ·cases e
  case Fl n=>
   unfold Kl at e;split at e
   ·split at e
    ·next b0 o0 _ y hr=>
     cases e;refine⟨rfl,λh2 hh=>?_⟩;unfold Kl;by_cases hn:n=0;·subst hn;rw[aT] at hr;cases hr;simp only[aT]
     ·simp only[rd (hh b0 (by simp[Ts,hn])),hr]
    ·cases e
   ·cases e
  case lookup ks z ok=>
   unfold H5 at e;split at e
   ·split at e;·next hc=>cases e;exact⟨rfl,λh2 _=>by unfold H5;simp only[hc,Ak]⟩
    ·cases e
   ·split at e
    ·next hc=>
     split at e
     ·next l own anc hg=>
      split at e;·next r hr=>cases e;exact⟨rfl,λh2 hh=>by unfold H5;simp only[hc,Ak,hh _ rfl,hg,hr]⟩
      ·cases e
     ·cases e
    ·cases e
   ·cases e
  case lE=>
   unfold Tp at e;split at e;·cases e;exact⟨rfl,λh2 _=>rfl⟩
   ·split at e;·next l own anc hg=>cases e;exact⟨rfl,λh2 hh=>by unfold Tp;simp only[hh _ rfl,hg]⟩
    ·cases e
   ·cases e
theorem NW {o:VOp} {args:EA} {h h':Heap} {v:AV} (e:o.run args h=some (v,h')) {c:Key} (hc:Ts o args=some c):h.get c≠none:=by
 intro hn;have hcells:h.cells c=none:=by unfold Heap.cells;rw[hn]
 unfold Ts at hc;split at hc
 ·cases hc;simp only[VOp.run] at e;unfold Kk at e;split at e;·next e'=>cases e';simp[Heap.read,hcells] at e
  ·cases e
 ·split at hc;·cases hc
  ·next hn0=>
   cases hc;simp only[VOp.run] at e;unfold Kl at e;split at e;·next e'=>cases e';simp[Heap.read,hcells,hn0] at e
   ·cases e
 ·cases hc;simp only[VOp.run] at e;unfold H5 at e;split at e;·next e'=>cases e'
  ·next e'=>cases e';simp[hn] at e
  ·cases e
 ·cases hc;simp only[VOp.run] at e;unfold Tp at e;split at e;·next e'=>cases e'
  ·next e'=>cases e';simp[hn] at e
  ·cases e
 ·cases hc
theorem cS {o:VOp} (hk:o.kind=.quiet) {args:EA} {v:AV} {b:Key} {x:Blk} (hf0:∀c,Ts o args=some c->b≠c):∀(l:List Heap),Lw o args v l=true->Lw o args v (l.map λh=>h.upd b (some x))=true
 |[],_=>rfl
 |h::l,e=>by
  simp only[Lw,Au] at e;simp only[AG,Lw,Au];refine⟨?_,cS hk hf0 l e.2⟩;have e1:=e.1;split at e1
  ·next u h2 hu=>
   obtain⟨_,hq⟩:=Jb hk hu;rw[hq (h.upd b (some x)) (λc hc=>L5 (hf0 c hc) _)];exact e1
  ·cases e1
theorem Oj {call:Fg} (hc:Gn call) (lo hi:Key):∀(l:List DOp) (r:Key) (A7:List Heap) (fr:Fr) (h:Heap) (fr':Fr) (h':Heap),lo.toNat<=r.toNat->r.toNat+D4 l<=h.next.toNat->lo.toNat<=h.next.toNat ->
  E8 call lo hi l r A7 fr h=some (fr',h')->h.next.toNat<=h'.next.toNat/\∀b x,b.toNat<lo.toNat->E6 b h->(∀s∈A7,s.get b=none) ->
   E6 b h'/\E8 call lo hi l r (A7.map λs=>s.upd b (some x)) fr (h.upd b (some x))=some (fr',h'.upd b (some x))
 |[],r,A7,fr,h,fr',h',_,_,_,e=>by simp only[E8,Sj,Pj] at e;obtain⟨rfl,rfl⟩:=e;exact⟨Rl,λb x _ hf _=>⟨hf,rfl⟩⟩
 |d::l,r,A7,fr,h,fr',h',hlo,hr,hln,e=>by
  simp only[D4] at hr;simp only[E8] at e ⊢;split at e
  ·next hk=>
   split at e
   ·next fr1 h1 h1e=>
    obtain⟨g1,g2⟩:=Qz hc d.o fr h fr1 h1 h1e;obtain⟨g3,g4⟩:=Oj hc lo hi l r (A7++[h]) fr1 h1 fr' h' hlo Aa Aa e;refine⟨Aa,λb x hb hf hs=>?_⟩;obtain⟨k1,k2⟩:=g2 b x Aa hf;obtain⟨k3,k4⟩:=g4 b x hb k1 (by intro s hs';rcases Av.1 hs' with h5|h5;exact hs s h5;simp at h5;subst h5;exact hf.1);refine⟨k3,?_⟩;simp only[k2];simpa using k4
   ·cases e
  ·next hk=>
   simp only[hk,Ak] at hr;split at e
   ·next fr1 h1 h1e=>
    obtain⟨g1,g2⟩:=Qz hc d.o fr _ fr1 h1 h1e;have hn:({ h1 with next:=h.next }:Heap).next=h.next:=rfl;obtain⟨g3,g4⟩:=Oj hc lo hi l r.succ A7 fr1 { h1 with next:=h.next } fr' h' (by rw[Key.toNat_succ];omega) (by rw[Key.toNat_succ,hn];omega) hln e;refine⟨g3,λb x hb hf hs=>?_⟩;obtain⟨k1,k2⟩:=g2 b x (by show b.toNat<r.toNat;omega) (hf.next r);obtain⟨k3,k4⟩:=g4 b x hb (k1.next h.next) hs;refine⟨k3,?_⟩;have k2':d.o.run call fr { h.upd b (some x) with next:=r }=some (fr1,h1.upd b (some x)):=k2;simp only[k2'];exact k4
   ·cases e
  ·next hk=>
   split at e
   ·next o hw ha=>
    have hko:o.kind=.quiet:=by rw[ha] at hk;exact hk
    split at e
    ·next args hf0=>
     split at e
     ·next v h2 hv=>
      split at e
      ·next hchk=>
       simp only[Au] at hchk;simp only[hko,reduceCtorEq,Ff.kind,ha,Ag] at hr;obtain⟨g3,g4⟩:=Oj hc lo hi l r A7 _ h fr' h' hlo Aa hln e;refine⟨g3,λb x hb hf hs=>?_⟩;obtain⟨k3,k4⟩:=g4 b x hb hf hs;refine⟨k3,?_⟩;obtain⟨_,hq⟩:=Jb hko hv;have hne:∀c,Ts o args=some c->b≠c:=λc hcc e'=>by subst e';exact NW hv hcc hf.1
       have hrun:o.run args (h.upd b (some x))=some (v,h.upd b (some x)):=hq _ λc hcc=>L5 (hne c hcc) _;have hsame:=cS (v:=v) (b:=b) (x:=x) hko hne _ hchk.2;simp only[hrun];rw[<-List.map_drop,hchk.1,hsame];simpa using k4
      ·cases e
     ·cases e
    ·cases e
   ·next hw=>
    obtain⟨g3,g4⟩:=Oj hc lo hi l r A7 _ h fr' h' hlo Aa hln e;exact⟨g3,λb x hb hf hs=>g4 b x hb hf hs⟩
   ·cases e
theorem Ho:∀(n:Nat) (k:Key),(Fz k n).toNat=k.toNat+n
 |0,k=>rfl
 |n+1,k=>by rw[Fz,Ho n,Key.toNat_succ];omega
theorem Za {h:Heap} {b:Key} {x:Blk} (hf:E6 b h) {fr:Fr}:∀{l:List Qb} {r:List CV},Im fr h l=some r->Im fr (h.upd b (some x)) l=some r
 |[],r,e=>e
 |v::l,r,e=>by
  unfold Im at e ⊢;split at e
  ·next c hc=>
   have:K3 fr (h.upd b (some x)) v=some c:=by
    unfold K3 at hc ⊢;split at hc;·exact hc
    ·split at hc
     ·split at hc;·next y hr=>rw[hf.read hr];exact hc
      ·cases hc
     ·cases hc
    ·split at hc
     ·split at hc;·next y hr=>rw[hf.read hr];exact hc
      ·cases hc
     ·cases hc
   rw[this];split at e;·next cs hcs=>rw[Za hf hcs];exact e
   ·cases e
  ·cases e
theorem R0 {F:D5} {O:Iw} (hO:∀f g,O f=some g->∀args,Wm (g args)) {ex:B7->Fr->Heap->Option (Fk×Fr×Heap)}
  (hex:∀c fr h x fr' h',ex c fr h=some (x,fr',h')->h.next.toNat<=h'.next.toNat/\∀b y,b.toNat<h.next.toNat->E6 b h->E6 b h'/\ex c fr (h.upd b (some y))=some (x,fr',h'.upd b (some y))):Gn (Fh F O ex):=by
 intro f args h v h' e;unfold Fh at e ⊢;split at e
 ·next vf hvf=>
  split at e;·cases e
  ·next x fr h2 hne hx=>
   split at e
   ·next l hl=>
    cases e;obtain⟨g1,g2⟩:=hex _ _ _ _ _ _ hx;refine⟨g1,λb y hb hf=>⟨(g2 b y hb hf).1,?_⟩⟩;have e2:=(g2 b y hb hf).2;have e3:=Za (x:=y) (g2 b y hb hf).1 hl;simp only[e2];cases x with
    |exit i=>exact(hne i rfl).elim
    |normal=>simp only[e3]
    |ret=>simp only[e3]
   ·cases e
  ·cases e
 ·next ho=>
  split at e;·next g hg=>exact hO f g hg args h v h' e
  ·cases e
theorem Q0 {F:D5} {O:Iw} (hO:∀f g,O f=some g->∀args,Wm (g args)):∀(n:Nat) (c:B7) (fr:Fr) (h:Heap) (x:Fk) (fr':Fr) (h':Heap),exec F O n c fr h=some (x,fr',h') ->
  h.next.toNat<=h'.next.toNat/\∀b y,b.toNat<h.next.toNat->E6 b h->E6 b h'/\exec F O n c fr (h.upd b (some y))=some (x,fr',h'.upd b (some y))
 |0,c,fr,h,x,fr',h',e=>by simp[exec] at e
 |n+1,c,fr,h,x,fr',h',e=>by
  have ih:=Q0 (F:=F) hO n;have hc:Gn (Fh F O (exec F O n)):=R0 hO ih;cases c with
  |skip=>simp only[exec,Sj,Pj] at e;obtain⟨rfl,rfl,rfl⟩:=e;exact⟨Rl,λb y _ hf=>⟨hf,rfl⟩⟩
  |exit id=>simp only[exec,Sj,Pj] at e;obtain⟨rfl,rfl,rfl⟩:=e;exact⟨Rl,λb y _ hf=>⟨hf,rfl⟩⟩
  |ret=>simp only[exec,Sj,Pj] at e;obtain⟨rfl,rfl,rfl⟩:=e;exact⟨Rl,λb y _ hf=>⟨hf,rfl⟩⟩
  |region ops=>
   simp only[exec] at e ⊢;split at e
   ·next fr1 h1 h1e=>
    cases e;obtain⟨g1,g2⟩:=tW hc ops fr h _ _ h1e;exact⟨g1,λb y hb hf=>⟨(g2 b y hb hf).1,by simp only[(g2 b y hb hf).2]⟩⟩
   ·cases e
  |drawn ds=>
   simp only[exec] at e ⊢;split at e
   ·next fr1 h1 h1e=>
    cases e;have hn:=Ho (D4 ds) h.next;obtain⟨g1,g2⟩:=Oj hc h.next _ ds h.next [] fr _ _ _ Rl (by show _<=(Fz h.next (D4 ds)).toNat;omega) (by show _<=(Fz h.next (D4 ds)).toNat;omega) h1e;have g1':(Fz h.next (D4 ds)).toNat<=h'.next.toNat:=g1;refine⟨Aa,λb y hb hf=>?_⟩;obtain⟨k1,k2⟩:=g2 b y hb hf Ac;refine⟨k1,?_⟩;have k2':E8 (Fh F O (exec F O n)) h.next (Fz h.next (D4 ds)) ds h.next [] fr { h.upd b (some y) with next:=Fz h.next (D4 ds) }=some (fr',h'.upd b (some y)):=k2;simp only[Jq,k2']
   ·cases e
  |seq a b0=>
   simp only[exec] at e ⊢;split at e
   ·next fr1 h1 h1e=>
    obtain⟨g1,g2⟩:=ih a fr h _ _ _ h1e;obtain⟨g3,g4⟩:=ih b0 fr1 h1 _ _ _ e;refine⟨Aa,λb y hb hf=>?_⟩;obtain⟨k1,k2⟩:=g2 b y hb hf;obtain⟨k3,k4⟩:=g4 b y Aa k1;exact⟨k3,by simp only[k2,k4]⟩
   ·next hnn=>
    obtain⟨g1,g2⟩:=ih a fr h _ _ _ e;refine⟨g1,λb y hb hf=>⟨(g2 b y hb hf).1,?_⟩⟩;rw[(g2 b y hb hf).2];cases x with
    |normal=>exact absurd e (hnn _ _)
    |_=>rfl
  |cond c0 a b0=>
   simp only[exec] at e ⊢;split at e;·next hc0=>exact ih a fr h _ _ _ e
   ·next hc0=>exact ih b0 fr h _ _ _ e
   ·cases e
  |block id c0=>
   simp only[exec] at e ⊢;split at e
   ·next j fr1 h1 h1e=>
    obtain⟨g1,g2⟩:=ih c0 fr h _ _ _ h1e;split at e;·next hj=>cases e;exact⟨g1,λb y hb hf=>⟨(g2 b y hb hf).1,by simp only[(g2 b y hb hf).2,hj,Ak]⟩⟩
    ·next hj=>cases e;exact⟨g1,λb y hb hf=>⟨(g2 b y hb hf).1,by simp only[(g2 b y hb hf).2,hj,Ag]⟩⟩
   ·next hnn=>
    obtain⟨g1,g2⟩:=ih c0 fr h _ _ _ e;refine⟨g1,λb y hb hf=>⟨(g2 b y hb hf).1,?_⟩⟩;rw[(g2 b y hb hf).2];cases x with
    |exit j=>exact absurd e (hnn _ _ _)
    |_=>rfl
  |loop c0=>
   simp only[exec] at e ⊢;split at e
   ·next fr1 h1 h1e=>
    obtain⟨g1,g2⟩:=ih c0 fr h _ _ _ h1e;obtain⟨g3,g4⟩:=ih (.loop c0) fr1 h1 _ _ _ e;refine⟨Aa,λb y hb hf=>?_⟩;obtain⟨k1,k2⟩:=g2 b y hb hf;obtain⟨k3,k4⟩:=g4 b y Aa k1;exact⟨k3,by simp only[k2,k4]⟩
   ·next hnn=>
    obtain⟨g1,g2⟩:=ih c0 fr h _ _ _ e;refine⟨g1,λb y hb hf=>⟨(g2 b y hb hf).1,?_⟩⟩;rw[(g2 b y hb hf).2];cases x with
    |normal=>exact absurd e (hnn _ _)
    |_=>rfl
theorem gK (ms:EF) (i:Nat):∀(ds:EF),(Tz ms ds).testBit i=true↔∃k∈ds,k=i∨(ms.getD k 0).testBit i=true
 |[]=>by simp[Tz]
 |k::l=>by
  simp only[Tz,Nat.testBit_or,AW,gK ms i l,Af,Nat.testBit_two_pow,Bk];constructor
  ·rintro((h|h)|⟨k',h1,h2⟩);·exact⟨k,.inl rfl,.inl h⟩
   ·exact⟨k,.inl rfl,.inr h⟩
   ·exact⟨k',.inr h1,h2⟩
  ·rintro⟨k',rfl|h1,h2⟩;·exact .inl (h2.imp id id)
   ·exact .inr ⟨k',h1,h2⟩
theorem Ol:∀(ds:List (EF)) (ms:EF),(Jx ds ms).length=ms.length+ds.length /\
  (∀j,j<ms.length->(Jx ds ms)[j]?=ms[j]?) /\
  ∀t d,ds[t]?=some d->(Jx ds ms)[ms.length+t]?=some (Tz ((Jx ds ms).take (ms.length+t)) d)
 |[],ms=>by simp[Jx]
 |d::r,ms=>by
  obtain⟨h1,h2,h3⟩:=Ol r (ms++[Tz ms d]);simp only[Jx];refine⟨by rw[h1];simp;omega,λj hj=>?_,λt d' ht=>?_⟩;·rw[h2 j (by simp;omega),Ai hj]
  ·cases t with
   |zero=>
    simp only[Bb,Sj] at ht;subst ht;rw[BI,h2 ms.length Ac,Am (Rl)];simp only[Dl,Bb];congr 2;apply Cv;intro i;rw[AT];by_cases hi:i<ms.length;·rw[Aj hi,h2 i (by simp;omega),Ai hi]
    ·rw[Ao hi,AJ Aa]
   |succ t=>have:=h3 t d' (by simpa using ht);simp only[La,Bl] at this;rw[show ms.length+(t+1)=ms.length+1+t from Aa];exact this
def Vu (ops:List Oper):Prop:=∀j o,ops[j]?=some o->∀k∈direct o,k<j
theorem Sa {ops:List Oper} (hd:Vu ops) {i j:Nat} {o:Oper} (hj:ops[j]?=some o):before (Gl ops) i j=true↔∃k∈direct o,k=i∨before (Gl ops) i k=true:=by
 obtain⟨h1,_,h3⟩:=Ol (ops.map direct) [];have:=h3 j (direct o) (by simp[hj]);simp only[BO,AO] at this;have hm:(Gl ops).getD j 0=Tz ((Gl ops).take j) (direct o):=by unfold Gl;rw[AM,this];rfl
 unfold before;rw[hm,gK];constructor;·rintro⟨k,hk,h⟩;refine⟨k,hk,h.imp id λh=>?_⟩;have hlt:=hd j o hj k hk;rw[AM,AT,Aj hlt,<-AM] at h;exact h
 ·rintro⟨k,hk,h⟩;refine⟨k,hk,h.imp id λh=>?_⟩;have hlt:=hd j o hj k hk;rw[AM,AT,Aj hlt,<-AM];exact h
theorem tX {ops:List Oper} {i j:Nat} (hj:ops[j]?=none):before (Gl ops) i j=false:=by
 obtain⟨h1,_,_⟩:=Ol (ops.map direct) [];unfold before Gl;have hlen:(Jx (ops.map direct) []).length<=j:=by rw[h1];have:=CJ.1 hj;simpa using this
 rw[AM,AJ hlen];simp
def Uf (ops:List Oper) (L:EH):Prop:=∀j o,ops[j]?=some o->L j=true->∀k∈direct o,L k=true
theorem Uf.anc {ops:List Oper} (hd:Vu ops) {L:EH} (hc:Uf ops L) {i:Nat}:∀(n j:Nat),j<n->before (Gl ops) i j=true->L j=true->L i=true
 |0,j,h,_,_=>Aa
 |n+1,j,hjn,hb,hl=>by
  cases hj:ops[j]? with
  |none=>rw[tX hj] at hb;cases hb
  |some o=>
   obtain⟨k,hk,h⟩:=(Sa hd hj).1 hb;have hlk:=hc j o hj hl k hk;rcases h with rfl|h;·exact hlk
   ·exact Uf.anc hd hc n k (by have:=hd j o hj k hk;omega) h hlk
theorem Uf.ready {ops:List Oper} (hd:Vu ops) {L:EH} (hc:Uf ops L) {i j:Nat} {o:Oper} (hj:ops[j]?=some o) (hr:∀k∈direct o,L k=true) (hb:before (Gl ops) i j=true):L i=true:=by
 obtain⟨k,hk,h⟩:=(Sa hd hj).1 hb;rcases h with rfl|h;·exact hr k hk
 ·exact hc.anc hd (k+1) k Aa h (hr k hk)
theorem gL {o:Oper} {e:Edge} (he:e∈o.after) (hb:Region.binds .any e=true):e.on∈direct o:=by unfold direct;exact Aw.2 ⟨e,Co.2 ⟨by simpa using he,hb⟩,rfl⟩
theorem Wt {o:Oper} {k:Nat} (h:k∈direct o):∃e∈o.after,Region.binds .any e=true/\e.on=k:=by unfold direct at h;obtain⟨e,he,rfl⟩:=Aw.1 h;obtain⟨h1,h2⟩:=Co.1 he;exact⟨e,by simpa using h1,h2,rfl⟩
structure Ev where
 i:Nat
 d:DOp
 v:AV
 al:Option (Key×Blk)
def oO (call:Fg) (lo hi:Key) (x:Ev) (r:Key) (A7:List Heap) (fr:Fr) (h h1:Heap):Prop:=
 (Ht fr x.d.o.guard=some true/\∃args,G7 fr x.d.o.args=some args /\
  match x.d.o.act.kind with
  |.effect=>x.al=none/\x.d.o.act.run call args h=some (x.v,h1)
  |.alloc=>∃o blk,x.d.o.act=.op o/\x.al=some (r,blk)/\o.run args { h with next:=r }=some (x.v,({ h with next:=r }:Heap).Fu blk)/\h1=h.upd r (some blk)
  |.quiet=>∃o,x.d.o.act=.op o/\x.al=none/\o.run args h=some (x.v,h)/\outside lo hi o args=true/\Lw o args x.v (A7.drop x.d.chk)=true/\h1=h) ∨
 (Ht fr x.d.o.guard=some false/\x.v=.unit/\x.al=none/\h1=h)
def Kh (x:Ev) (r:Key):Key:=if x.d.o.act.kind=.alloc then r.succ else r
def H3 (x:Ev) (A7:List Heap) (h:Heap):List Heap:=if x.d.o.act.kind=.effect then A7++[h] else A7
def Run (call:Fg) (lo hi:Key):List Ev->Key->List Heap->Fr->Heap->Fr->Heap->Prop
 |[],_,_,fr,h,fr',h'=>fr=fr'/\h=h'
 |x::l,r,A7,fr,h,fr',h'=>∃h1,oO call lo hi x r A7 fr h h1/\Run call lo hi l (Kh x r) (H3 x A7 h) (Fp fr x.d.o.dst x.v) h1 fr' h'
theorem Q1 {o:VOp} (hk:o.kind=.alloc) {args:EA} {h h':Heap} {v:AV} (e:o.run args h=some (v,h')) :
  ∃blk:Blk,blk.anc=[]/\h'=h.Fu blk/\∀h2:Heap,h2.next=h.next->o.run args h2=some (v,h2.Fu blk):=by
 cases o<;>simp only[VOp.kind,reduceCtorEq] at hk<;>simp only[VOp.run] at e ⊢;case Jv zs=>
  unfold lQ at e;split at e;·cases e;exact⟨_,rfl,rfl,λh2 hn=>by unfold lQ;simp only[hn];rfl⟩
  ·cases e
 case box n=>
  unfold sM at e;split at e
  ·split at e;·next hc=>cases e;exact⟨_,rfl,rfl,λh2 hn=>by unfold sM;simp only[hc,Ak,hn];rfl⟩
   ·cases e
  ·cases e
 case J6 es len z p=>
  unfold Vl at e ⊢;split at e;·next cs hl=>cases e;exact⟨_,rfl,rfl,λh2 hn=>by simp only[hn];rfl⟩
  ·cases e
 case s2b=>
  unfold xL at e;split at e
  ·split at e;·next hc=>cases e;exact⟨_,rfl,rfl,λh2 hn=>by unfold xL;simp only[hc,Ak,hn]⟩
   ·cases e
  ·cases e
 case S7=>
  unfold Tm at e;split at e;·cases e;exact⟨_,rfl,rfl,λh2 hn=>by unfold Tm;simp only[hn];rfl⟩
  ·cases e;exact⟨_,rfl,rfl,λh2 hn=>by unfold Tm;simp only[hn];rfl⟩
  ·cases e
 case O7 es by' z=>
  unfold Mv at e;split at e
  ·split at e;·next hc=>cases e;exact⟨_,rfl,rfl,λh2 hn=>by unfold Mv;simp only[hc,and_self,Ak,hn];rfl⟩
   ·cases e
  ·cases e
theorem tY {a:Ff} (h:a.kind=.alloc):∃o,a=.op o/\o.kind=.alloc:=by
 cases a with
 |op o=>exact⟨o,rfl,h⟩
 |_=>cases h
theorem I0 {call:Fg} {lo hi:Key}:∀(is:EF) (ds:List DOp) (r:Key) (A7:List Heap) (fr:Fr) (h:Heap) (fr':Fr) (h':Heap),is.length=ds.length->E8 call lo hi ds r A7 fr h=some (fr',h') ->
  ∃evs:List Ev,evs.map (·.i)=is/\evs.map (·.d)=ds/\Run call lo hi evs r A7 fr h fr' h'
 |[],[],r,A7,fr,h,fr',h',_,e=>by simp only[E8,Sj,Pj] at e;exact⟨[],rfl,rfl,e.1,e.2⟩
 |[],_::_,_,_,_,_,_,_,hl,_=>by simp at hl
 |_::_,[],_,_,_,_,_,_,hl,_=>by simp at hl
 |i::is,d::ds,r,A7,fr,h,fr',h',hl,e=>by
  have hl':is.length=ds.length:=by simpa using hl
  simp only[E8] at e;split at e
  ·next hk=>
   split at e
   ·next fr1 h1 h1e=>
    unfold B3.run at h1e;split at h1e
    ·next hw=>
     split at h1e
     ·next args hf=>
      split at h1e
      ·next v h2 ha=>
       cases h1e;obtain⟨evs,e1,e2,e3⟩:=I0 is ds r _ _ _ fr' h' hl' e;exact⟨⟨i,d,v,none⟩::evs,by simp[e1],by simp[e2],_,.inl ⟨hw,args,hf,by simp only[hk];exact⟨Ae,ha⟩⟩,by simpa[Kh,H3,hk] using e3⟩
      ·cases h1e
     ·cases h1e
    ·next hw=>
     cases h1e;obtain⟨evs,e1,e2,e3⟩:=I0 is ds r _ _ _ fr' h' hl' e;exact⟨⟨i,d,.unit,none⟩::evs,by simp[e1],by simp[e2],_,.inr ⟨hw,rfl,rfl,rfl⟩,by simpa[Kh,H3,hk] using e3⟩
    ·cases h1e
   ·cases e
  ·next hk=>
   split at e
   ·next fr1 h1 h1e=>
    unfold B3.run at h1e;split at h1e
    ·next hw=>
     split at h1e
     ·next args hf=>
      split at h1e
      ·next v h2 ha=>
       cases h1e;obtain⟨o,ho,hko⟩:=tY hk;rw[ho] at ha;have ha':o.run args { h with next:=r }=some (v,h1):=ha;obtain⟨blk,_,hb2,_⟩:=Q1 hko ha';subst hb2;have hheap:({ (({ h with next:=r }:Heap).Fu blk) with next:=h.next }:Heap)=h.upd r (some blk):=rfl;rw[hheap] at e;obtain⟨evs,e1,e2,e3⟩:=I0 is ds _ _ _ _ fr' h' hl' e;exact⟨⟨i,d,v,some (r,blk)⟩::evs,by simp[e1],by simp[e2],_,.inl ⟨hw,args,hf,by simp only[hk];exact⟨o,blk,ho,rfl,ha',rfl⟩⟩,by simpa[Kh,H3,hk] using e3⟩
      ·cases h1e
     ·cases h1e
    ·next hw=>
     cases h1e;obtain⟨evs,e1,e2,e3⟩:=I0 is ds _ _ _ _ fr' h' hl' e;exact⟨⟨i,d,.unit,none⟩::evs,by simp[e1],by simp[e2],_,.inr ⟨hw,rfl,rfl,rfl⟩,by simpa[Kh,H3,hk] using e3⟩
    ·cases h1e
   ·cases e
  ·next hk=>
   split at e
   ·next o hw ha=>
    split at e
    ·next args hf=>
     split at e
     ·next v h2 hv=>
      split at e
      ·next hchk=>
       simp only[Au] at hchk;have hko:o.kind=.quiet:=by rw[ha] at hk;exact hk
       obtain⟨hh,_⟩:=Jb hko hv;subst hh;obtain⟨evs,e1,e2,e3⟩:=I0 is ds _ _ _ _ fr' h' hl' e;exact⟨⟨i,d,v,none⟩::evs,by simp[e1],by simp[e2],_,.inl ⟨hw,args,hf,by simp only[hk];exact⟨o,ha,Ae,hv,hchk.1,hchk.2,rfl⟩⟩,by simpa[Kh,H3,hk] using e3⟩
      ·cases e
     ·cases e
    ·cases e
   ·next hw=>
    obtain⟨evs,e1,e2,e3⟩:=I0 is ds _ _ _ _ fr' h' hl' e;exact⟨⟨i,d,.unit,none⟩::evs,by simp[e1],by simp[e2],_,.inr ⟨hw,rfl,rfl,rfl⟩,by simpa[Kh,H3,hk] using e3⟩
   ·cases e
def tZ {α:Type} (f:Heap->Option (α×Heap)):Prop:=
 ∀h v h',f h=some (v,h')->h.next.toNat<=h'.next.toNat/\∀b:Key,h'.next.toNat<=b.toNat->E6 b h->E6 b h'
theorem tZ.clean {α:Type} {f:Heap->Option (α×Heap)} (hf:tZ f) {h h':Heap} {v:α} (e:f h=some (v,h')) (hc:Clean h):Clean h':=by obtain⟨h1,h2⟩:=hf h v h' e;exact λb hb=>h2 b hb (hc b Aa)
theorem NX {b c:Key} (h:c.succ.toNat<=b.toNat):b≠c:=by rintro rfl;rw[Key.toNat_succ] at h;omega
theorem E6.NY {h:Heap} {b:Key} (hf:E6 b h) (hne:b≠h.next) (y:Blk) (hy:b∉y.anc):E6 b (h.Fu y):=by
 refine⟨?_,λd z hd=>?_⟩;·rw[Gt];simp[BL hne,hf.1]
 ·rw[Gt] at hd;by_cases hc:h.next=d;·simp only[hc,Ak,Sj] at hd;subst hd;exact hy
  ·simp only[hc,Ag] at hd;exact hf.2 d z hd
theorem Q2 {h:Heap} {y:Blk} (hy:y.anc=[]):h.next.toNat<=(h.Fu y).next.toNat/\∀b:Key,(h.Fu y).next.toNat<=b.toNat->E6 b h->E6 b (h.Fu y):=
 ⟨by rw[Nq,Key.toNat_succ];omega,λb hb hf=>hf.NY (NX hb) y (by simp[hy])⟩
theorem Hq {h:Heap}:h.next.toNat<=h.next.toNat/\∀b:Key,h.next.toNat<=b.toNat->E6 b h->E6 b h:=⟨Rl,λ_ _ hf=>hf⟩
theorem Ug {h h':Heap} {c:Key} {o:Nat} {l:EB} (e:h.write c o l=some h'):h.next.toNat<=h'.next.toNat/\∀b:Key,h'.next.toNat<=b.toNat->E6 b h->E6 b h':=by obtain⟨h1,h2⟩:=Rz c o l e;exact⟨by rw[h1];exact Rl,λb _ hf=>(h2 b default hf).1⟩
theorem uC {h h':Heap} {c d:Key} {o k:Nat} {l:EB} (e:h.renew c o k l=some (d,h')):h.next.toNat<=h'.next.toNat/\∀b:Key,h'.next.toNat<=b.toNat->E6 b h->E6 b h':=by
 unfold Heap.renew at e;split at e;·cases e;exact Q2 rfl
 ·split at e
  ·split at e;·cases e;exact Q2 rfl
   ·cases e
  ·cases e
theorem Sb {h h':Heap} {c d:Key} {o k:Nat} {l:EB} (e:h.grow c o k l=some (d,h')):h.next.toNat<=h'.next.toNat/\∀b:Key,h'.next.toNat<=b.toNat->E6 b h->E6 b h':=by
 unfold Heap.grow at e;split at e
 ·next cc m anc hg=>
  split at e
  ·next body hb=>
   split at e
   ·next hm=>
    cases e;refine⟨by rw[Nq,Key.toNat_succ];simp only[Heap.upd];omega,λb hlt hf=>?_⟩;have hne:=hf.ne hg;have hna:=hf.2 _ _ hg;exact(hf.upd hne _ (by simpa using hna)).NY (NX hlt) _ (by simpa using⟨hne,hna⟩)
   ·next hm=>
    cases e;refine⟨by simp only[Nq,Key.toNat_succ,Heap.upd,Gc];omega,λb hlt hf=>?_⟩;have hne:=hf.ne hg;have hna:=hf.2 _ _ hg;exact((hf.E3 anc hna).upd hne none Ac).NY (NX hlt) _ Ac
  ·cases e
 ·cases e
theorem oP {h h':Heap} {es by':Nat} {s r:SV} {new:EB} {n:Nat} (e:Gx h es by' s new n=some (r,h')):h.next.toNat<=h'.next.toNat/\∀b:Key,h'.next.toNat<=b.toNat->E6 b h->E6 b h':=by
 unfold Gx at e;split at e
 ·split at e;·cases e;exact Hq
  ·split at e;·cases e;exact Q2 rfl
   ·cases e
 ·split at e
  ·split at e;·cases e;exact Hq
   ·split at e
    ·split at e
     ·split at e;·next hw=>cases e;exact Ug hw
      ·cases e
     ·split at e
      ·split at e;·next hw=>cases e;exact uC hw
       ·cases e
      ·cases e
    ·split at e
     ·split at e;·next hw=>cases e;exact Sb hw
      ·cases e
     ·cases e
  ·cases e
 ·cases e
theorem Zb (op:VOp) (args:EA):tZ (op.run args):=by
 intro h v h' e;by_cases hbl:Pf op=true;·obtain⟨rfl,_⟩:=gJ hbl args h v h' e;exact Hq
 ·by_cases hk:op.kind=.quiet;·obtain⟨rfl,_⟩:=Jb hk e;exact Hq
  ·by_cases hk:op.kind=.alloc;·obtain⟨blk,hb,rfl,_⟩:=Q1 hk e;exact Q2 hb
   ·cases op<;>simp only[Pf,CN] at hbl<;>simp only[VOp.kind,CN,reduceCtorEq] at hk<;>(try(simp only[VOp.kind,CN] at *;done))<;>simp only[VOp.run] at e;case store n=>
     unfold Xd at e;split at e
     ·split at e
      ·split at e;·next hw=>cases e;exact Ug hw
       ·cases e
      ·cases e
     ·cases e
    case b2s=>
     unfold xM at e;split at e
     ·split at e
      ·split at e;·cases e;exact Hq
       ·cases e
      ·cases e
     ·cases e;exact Hq
     ·cases e
    case K1 ks=>
     unfold Ro at e;split at e
     ·split at e
      ·split at e
       ·next hg=>
        split at e;·cases e;exact⟨Rl,λb _ hf=>hf.upd (hf.ne hg) _ Ac⟩
        ·cases e
       ·cases e
      ·cases e
     ·cases e
    case append es by'=>
     unfold O9 at e;split at e
     ·split at e
      ·split at e;·next ha=>cases e;exact oP ha
       ·cases e
      ·cases e
     ·cases e
    case copy es=>
     unfold Tq at e;split at e
     ·split at e
      ·split at e;·cases e;exact Hq
       ·split at e
        ·split at e;·cases e;exact Hq
         ·split at e;·next hw=>cases e;exact Ug hw
          ·cases e
        ·cases e
       ·cases e
      ·cases e
     ·cases e
    case Lu=>
     unfold Rp at e;split at e
     ·split at e
      ·split at e;·cases e;exact Q2 rfl
       ·cases e
      ·cases e
     ·cases e
    case Qr=>
     unfold Nx at e;split at e
     ·split at e
      ·next hg=>
       split at e
       ·split at e
        ·split at e;·cases e;exact⟨Rl,λb _ hf=>hf.upd (hf.ne hg) _ Ac⟩
         ·cases e;exact Hq
         ·cases e;exact Hq
         ·cases e
        ·cases e
       ·cases e
      ·cases e
     ·cases e
    case Lv=>
     unfold Rq at e;split at e
     ·split at e
      ·split at e
       ·split at e;·cases e;exact Hq
        ·cases e
       ·cases e
      ·cases e
     ·cases e
def Hh (call:Fg):Prop:=∀f args h v h',call f args h=some (v,h')->Clean h->Clean h'
theorem uD {call:Fg} (hc:Hh call) {a:Ff} {args:EA} {h h':Heap} {v:AV} (e:a.run call args h=some (v,h')) (hcl:Clean h):Clean h':=by
 cases a with
 |op o=>exact(Zb o args).clean e hcl
 |call f=>exact hc f args h v h' e hcl
 |Kr=>
  simp only[Ff.run] at e;split at e;·exact hc _ _ _ _ _ e hcl
  ·cases e
theorem Q3 {call:Fg} (hc:Hh call):Oh call:=by
 intro o fr h fr' h' e hcl;unfold B3.run at e;split at e
 ·split at e
  ·split at e;·next ha=>cases e;exact uD hc ha hcl
   ·cases e
  ·cases e
 ·cases e;exact hcl
 ·cases e
theorem uE {call:Fg} (hc:Hh call):∀(l:List B3) {fr:Fr} {h:Heap} {fr':Fr} {h':Heap},G0 call l fr h=some (fr',h')->Clean h->Clean h'
 |[],fr,h,fr',h',e,hcl=>by simp only[G0,Sj,Pj] at e;obtain⟨rfl,rfl⟩:=e;exact hcl
 |o::l,fr,h,fr',h',e,hcl=>by
  simp only[G0] at e;split at e;·next h1=>exact uE hc l e (Q3 hc _ _ _ _ _ h1 hcl)
  ·cases e
theorem aY {h:Heap} (hcl:Clean h) {c:Key} (hc:c.toNat<h.next.toNat) {y:Blk} (hy:y.anc=[]):Clean (h.upd c (some y)):=by intro b hb;have hb':h.next.toNat<=b.toNat:=hb;exact(hcl b hb').upd (by rintro rfl;omega) _ (by intro z hz;cases hz;simp[hy])
theorem NZ {call:Fg} {o:B3} (hk:o.act.kind=.alloc) {fr fr':Fr} {h h':Heap} {r:Key} (e:o.run call fr { h with next:=r }=some (fr',h')) :
  { h' with next:=h.next }=h∨∃blk:Blk,blk.anc=[]/\{ h' with next:=h.next }=h.upd r (some blk):=by
 unfold B3.run at e;split at e
 ·split at e
  ·split at e
   ·next ha=>
    cases e;obtain⟨p,hp,hkp⟩:=tY hk;rw[hp] at ha;obtain⟨blk,hb,rfl,_⟩:=Q1 hkp ha;exact .inr ⟨blk,hb,rfl⟩
   ·cases e
  ·cases e
 ·cases e;exact .inl rfl
 ·cases e
theorem Om {call:Fg} (hn:Gn call) (hc:Hh call) (lo hi:Key):∀(l:List DOp) (r:Key) (A7:List Heap) (fr:Fr) (h:Heap) (fr':Fr) (h':Heap),r.toNat+D4 l<=h.next.toNat ->
  E8 call lo hi l r A7 fr h=some (fr',h')->Clean h->Clean h'
 |[],r,A7,fr,h,fr',h',_,e,hcl=>by simp only[E8,Sj,Pj] at e;obtain⟨rfl,rfl⟩:=e;exact hcl
 |d::l,r,A7,fr,h,fr',h',hr,e,hcl=>by
  simp only[D4] at hr;simp only[E8] at e;split at e
  ·next hk=>
   split at e
   ·next fr1 h1 h1e=>
    have:=(Qz hn d.o fr h fr1 h1 h1e).1;exact Om hn hc lo hi l r _ fr1 h1 fr' h' Aa e (Q3 hc _ _ _ _ _ h1e hcl)
   ·cases e
  ·next hk=>
   simp only[hk,Ak] at hr;split at e
   ·next fr1 h1 h1e=>
    have hcl1:Clean { h1 with next:=h.next }:=by
     rcases NZ hk h1e with h2|⟨blk,hb,h2⟩;·rw[h2];exact hcl
     ·rw[h2];exact aY hcl Aa hb
    exact Om hn hc lo hi l r.succ A7 fr1 { h1 with next:=h.next } fr' h' (by rw[Key.toNat_succ];show _<=h.next.toNat;omega) e hcl1
   ·cases e
  ·next hk=>
   split at e
   ·split at e
    ·split at e
     ·split at e;·exact Om hn hc lo hi l r A7 _ h fr' h' Aa e hcl
      ·cases e
     ·cases e
    ·cases e
   ·exact Om hn hc lo hi l r A7 _ h fr' h' Aa e hcl
   ·cases e
theorem gM {h:Heap} (hcl:Clean h) {n:Key} (hn:h.next.toNat<=n.toNat):Clean { h with next:=n }:=λb hb=>hcl b (AQ hn hb)
theorem Oo {F:D5} {O:Iw} (hO:∀f g,O f=some g->∀args h v h',g args h=some (v,h')->Clean h->Clean h') {ex:B7->Fr->Heap->Option (Fk×Fr×Heap)}
  (hex:∀c fr h x fr' h',ex c fr h=some (x,fr',h')->Clean h->Clean h'):Hh (Fh F O ex):=by
 intro f args h v h' e hcl;unfold Fh at e;split at e
 ·split at e;·cases e
  ·next he=>
   split at e;·cases e;exact hex _ _ _ _ _ _ he hcl
   ·cases e
  ·cases e
 ·split at e;·next g hg=>exact hO f g hg args h v h' e hcl
  ·cases e
theorem Q4 {F:D5} {O:Iw} (hO:∀f g,O f=some g->∀args,Wm (g args)) (hO':∀f g,O f=some g->∀args h v h',g args h=some (v,h')->Clean h->Clean h'):∀(n:Nat) (c:B7) (fr:Fr) (h:Heap) (x:Fk) (fr':Fr) (h':Heap),
  exec F O n c fr h=some (x,fr',h')->Clean h->Clean h'
 |0,c,fr,h,x,fr',h',e,_=>by simp[exec] at e
 |n+1,c,fr,h,x,fr',h',e,hcl=>by
  have ih:=Q4 (F:=F) hO hO' n;have hcall:Hh (Fh F O (exec F O n)):=Oo hO' ih;have hnice:Gn (Fh F O (exec F O n)):=R0 hO (Q0 hO n);cases c with
  |skip=>simp only[exec,Sj,Pj] at e;obtain⟨rfl,rfl,rfl⟩:=e;exact hcl
  |exit id=>simp only[exec,Sj,Pj] at e;obtain⟨rfl,rfl,rfl⟩:=e;exact hcl
  |ret=>simp only[exec,Sj,Pj] at e;obtain⟨rfl,rfl,rfl⟩:=e;exact hcl
  |region ops=>
   simp only[exec] at e;split at e;·next he=>cases e;exact uE hcall ops he hcl
   ·cases e
  |drawn ops=>
   simp only[exec] at e;split at e
   ·next he=>
    cases e;refine Om hnice hcall _ _ ops _ _ _ _ _ _ ?_ he (gM hcl ?_);·show _<=(Fz h.next (D4 ops)).toNat;rw[Ho];exact Rl
    ·rw[Ho];omega
   ·cases e
  |seq a b=>
   simp only[exec] at e;split at e;·next he=>exact ih _ _ _ _ _ _ e (ih _ _ _ _ _ _ he hcl)
   ·exact ih _ _ _ _ _ _ e hcl
  |cond c a b=>
   simp only[exec] at e;split at e;·exact ih _ _ _ _ _ _ e hcl
   ·exact ih _ _ _ _ _ _ e hcl
   ·cases e
  |block id c=>
   simp only[exec] at e;split at e
   ·next he=>
    split at e;·cases e;exact ih _ _ _ _ _ _ he hcl
    ·cases e;exact ih _ _ _ _ _ _ he hcl
   ·exact ih _ _ _ _ _ _ e hcl
  |loop c=>
   simp only[exec] at e;split at e;·next he=>exact ih _ _ _ _ _ _ e (ih _ _ _ _ _ _ he hcl)
   ·exact ih _ _ _ _ _ _ e hcl
def Ev.put (x:Ev) (h:Heap):Heap:=match x.al with
 |some (k,b)=>h.upd k (some b)
 |none=>h
def eFr (L:EH):List Ev->Fr->Fr
 |[],fr=>fr
 |x::l,fr=>eFr L l (if L x.i then Fp fr x.d.o.dst x.v else fr)
def E0 (L:EH):List Ev->Heap->Heap
 |[],h=>h
 |x::l,h=>E0 L l (if L x.i then x.put h else h)
def pFr:List Ev->Fr->Fr
 |[],fr=>fr
 |x::l,fr=>pFr l (Fp fr x.d.o.dst x.v)
def upL (L:EH) (i:Nat):Nat->Bool:=λj=>if j=i then true else L j
theorem Oq (L:EH):∀(a b:List Ev) (fr:Fr),eFr L (a++b) fr=eFr L b (eFr L a fr)
 |[],_,_=>rfl
 |_::a,b,_=>Oq L a b _
theorem Sc (L:EH):∀(a b:List Ev) (h:Heap),E0 L (a++b) h=E0 L b (E0 L a h)
 |[],_,_=>rfl
 |_::a,b,_=>Sc L a b _
theorem Vv {L L':EH}:∀(l:List Ev) (fr:Fr),(∀x∈l,L x.i=L' x.i)->eFr L l fr=eFr L' l fr
 |[],_,_=>rfl
 |x::l,fr,h=>by simp only[eFr,h x Ac];exact Vv l _ λy hy=>h y (by simp[hy])
theorem Pg {L L':EH}:∀(l:List Ev) (h:Heap),(∀x∈l,L x.i=L' x.i)->E0 L l h=E0 L' l h
 |[],_,_=>rfl
 |x::l,h0,h=>by simp only[E0,h x Ac];exact Pg l _ λy hy=>h y (by simp[hy])
theorem gN {L:EH}:∀(l:List Ev) (fr:Fr),(∀x∈l,L x.i=false)->eFr L l fr=fr
 |[],_,_=>rfl
 |x::l,fr,h=>by simp only[eFr,h x Ac,Fj,Ag];exact gN l _ λy hy=>h y (by simp[hy])
theorem gO {L:EH}:∀(l:List Ev) (h:Heap),(∀x∈l,L x.i=false)->E0 L l h=h
 |[],_,_=>rfl
 |x::l,h0,h=>by simp only[E0,h x Ac,Fj,Ag];exact gO l _ λy hy=>h y (by simp[hy])
theorem KF (fr:Fr) {d d':EE} (v v':AV) (h:∀k,d=some k->d'≠some k):Fp (Fp fr d v) d' v'=Fp (Fp fr d' v') d v:=by
 cases d with
 |none=>rfl
 |some k=>cases d' with
  |none=>rfl
  |some k'=>
   simp only[Fp]
   exact Tr.Tk _ _ _ (λe=>h k rfl (by rw[e]))
theorem Zc (L:EH) {d:EE} {v:AV}:∀(l:List Ev) (fr:Fr),(∀y∈l,L y.i=true->∀k,d=some k->y.d.o.dst≠some k)->eFr L l (Fp fr d v)=Fp (eFr L l fr) d v
 |[],_,_=>rfl
 |x::l,fr,h=>by
  simp only[eFr];cases hx:L x.i with
  |false=>simp only[Fj,Ag];exact Zc L l fr λy hy=>h y (by simp[hy])
  |true=>simp only[Ak];rw[KF fr v x.v (h x Ac hx)];exact Zc L l _ λy hy=>h y (by simp[hy])
theorem Q5 (x:Ev) (h:Heap):(x.put h).next=h.next:=by unfold Ev.put;split<;>rfl
theorem Ot (L:EH):∀(l:List Ev) (h:Heap),(E0 L l h).next=h.next
 |[],_=>rfl
 |x::l,h=>by
  rw[E0,Ot L l];split;·exact Q5 x h
  ·rfl
theorem aZ (L:EH) {k:Key} {b:Blk}:∀(l:List Ev) (h:Heap),(∀y∈l,L y.i=true->∀k' b',y.al=some (k',b')->k≠k')->E0 L l (h.upd k (some b))=(E0 L l h).upd k (some b)
 |[],_,_=>rfl
 |x::l,h0,h=>by
  simp only[E0];cases hx:L x.i with
  |false=>simp only[Fj,Ag];exact aZ L l _ λy hy=>h y (by simp[hy])
  |true=>
   simp only[Ak];have:x.put (h0.upd k (some b))=(x.put h0).upd k (some b):=by
    unfold Ev.put;split;·next k' b' hal=>exact Iz (h x Ac hx k' b' hal) _ _
    ·rfl
   rw[this];exact aZ L l _ λy hy=>h y (by simp[hy])
theorem KG {L:EH} {x:Ev} {pre post:List Ev} {h:Heap} (hx:L x.i=false) (hne:∀y∈pre++post,y.i≠x.i)
  (hk:∀y∈post,∀k b k' b',x.al=some (k,b)->y.al=some (k',b')->k≠k'):E0 (upL L x.i) (pre++x::post) h=x.put (E0 L (pre++x::post) h):=by
 rw[Sc,Sc];simp only[E0,hx,upL,Ak,Fj,Ag];have h1:E0 (upL L x.i) pre h=E0 L pre h:=Pg pre h λy hy=>by simp[upL,hne y (by simp[hy])]
 have h2:∀g,E0 (upL L x.i) post g=E0 L post g:=λg=>Pg post g λy hy=>by simp[upL,hne y (by simp[hy])]
 show E0 (upL L x.i) post (x.put (E0 (upL L x.i) pre h))=_;rw[h1,h2];unfold Ev.put;split;·next k b hal=>exact aZ L post _ λy hy _ k' b' hy'=>hk y hy k b k' b' hal hy'
 ·rfl
theorem GG {L:EH} {x:Ev} {pre post:List Ev} {fr:Fr} (hx:L x.i=false) (hne:∀y∈pre++post,y.i≠x.i)
  (hd:∀y∈post,∀k,x.d.o.dst=some k->y.d.o.dst≠some k):eFr (upL L x.i) (pre++x::post) fr=Fp (eFr L (pre++x::post) fr) x.d.o.dst x.v:=by
 rw[Oq,Oq];simp only[eFr,hx,upL,Ak,Fj,Ag];have h1:eFr (upL L x.i) pre fr=eFr L pre fr:=Vv pre fr λy hy=>by simp[upL,hne y (by simp[hy])]
 have h2:∀g,eFr (upL L x.i) post g=eFr L post g:=λg=>Vv post g λy hy=>by simp[upL,hne y (by simp[hy])]
 show eFr (upL L x.i) post (Fp (eFr (upL L x.i) pre fr) x.d.o.dst x.v)=_;rw[h1,h2];exact Zc L post _ λy hy _ k e=>hd y hy k e
theorem gP {fr:Fr} {d:EE} {v:AV} {k:Key} (h:d≠some k):(Fp fr d v).get k=fr.get k:=by
 cases d with
 |none=>rfl
 |some j=>simp only[Fp,Tr.D1];rw[Ao (λe=>h (by rw[e]))]
theorem GH {L:EH} {k:Key}:∀(post:List Ev) (fr:Fr),(∀y∈post,y.d.o.dst=some k->L y.i=false)->(eFr L post fr).get k=fr.get k
 |[],_,_=>rfl
 |y::l,fr,h=>by
  rw[eFr,GH l _ λz hz=>h z (by simp[hz])];by_cases hd:y.d.o.dst=some k;·simp[h y Ac hd]
  ·split;·exact gP hd
   ·rfl
theorem GI {L:EH} {k:Key}:∀(pre:List Ev) (fr fr2:Fr),fr.get k=fr2.get k->(∀y∈pre,y.d.o.dst=some k->L y.i=true)->(eFr L pre fr).get k=(pFr pre fr2).get k
 |[],_,_,e,_=>e
 |y::l,fr,fr2,e,h=>by
  rw[eFr,pFr];refine GI l _ _ ?_ λz hz=>h z (by simp[hz]);by_cases hd:y.d.o.dst=some k;·rw[h y Ac hd,Aj rfl,hd];simp only[Fp,Tr.D1,Ak]
  ·rw[gP hd];split;·rw[gP hd];exact e
   ·exact e
theorem mE {L:EH} {b:Key}:∀(l:List Ev) (h:Heap),(∀y∈l,∀k x,y.al=some (k,x)->k≠b)->(E0 L l h).get b=h.get b
 |[],_,_=>rfl
 |y::l,h,hk=>by
  rw[E0,mE l _ λz hz=>hk z (by simp[hz])];split
  ·unfold Ev.put;split;·next k x hal=>exact L5 (hk y Ac k x hal) _
   ·rfl
  ·rfl
theorem My {fr fr2:Fr}:∀(xs:List VX),(∀k,VX.t k∈xs->fr.get k=fr2.get k)->G7 fr xs=G7 fr2 xs
 |[],_=>rfl
 |x::l,h=>by
  have h1:x.eval fr=x.eval fr2:=by
   cases x with
   |t k=>exact h k Ac
   |c v=>rfl
  simp only[G7,h1,My l λk hk=>h k (by simp[hk])]
theorem Sd {o:B3} {k:Key} (h:VX.t k∈o.args):k∈looks o:=by unfold looks;exact CK _ (DU.2 ⟨_,h,rfl⟩)
theorem uF {o:B3} {k:Key} {b:Bool} (h:o.guard=some (k,b)):k∈looks o:=by unfold looks;rw[h];exact DF _ Ac
theorem Zd {fr fr2:Fr} {o:B3} (h:∀k∈looks o,fr.get k=fr2.get k):Ht fr o.guard=Ht fr2 o.guard:=by
 cases hg:o.guard with
 |none=>rfl
 |some p=>obtain⟨k,b⟩:=p;simp only[Ht,h k (uF hg)]
section
variable {call:Fg} {lo hi:Key}
theorem mF {x:Ev} {r:Key} {A7:List Heap} {fr:Fr} {h h1:Heap} (s:oO call lo hi x r A7 fr h h1) (hk:x.d.o.act.kind≠.effect):h1=x.put h:=by
 rcases s with⟨_,args,_,hm⟩|⟨_,_,ha,rfl⟩
 ·split at hm;·next e=>exact absurd e hk
  ·obtain⟨o,blk,_,ha,_,rfl⟩:=hm;simp only[Ev.put,ha]
  ·obtain⟨o,_,ha,_,_,_,rfl⟩:=hm;simp only[Ev.put,ha]
 ·simp only[Ev.put,ha]
theorem GJ {x:Ev} {r:Key} {A7:List Heap} {fr:Fr} {h h1:Heap} (s:oO call lo hi x r A7 fr h h1) {k:Key} {b:Blk} (ha:x.al=some (k,b)):k=r/\b.anc=[]/\x.d.o.act.kind=.alloc:=by
 rcases s with⟨_,args,_,hm⟩|⟨_,_,ha',_⟩
 ·split at hm;·rw[ha] at hm;cases hm.1
  ·next hk=>
   obtain⟨o,blk,ho,ha',hr,_⟩:=hm;rw[ha] at ha';cases ha';have hko:o.kind=.alloc:=by rw[ho] at hk;exact hk
   obtain⟨blk,hb,he,_⟩:=Q1 hko hr;have:=Bh (λg=>Heap.get g r) he;simp only[Gt,Ak,Sj] at this;exact⟨rfl,this▸hb,hk⟩
  ·obtain⟨o,_,ha',_⟩:=hm;rw[ha] at ha';cases ha'
 ·rw[ha] at ha';cases ha'
theorem uG:∀(evs:List Ev) {r:Key} {A7:List Heap} {fr:Fr} {h:Heap} {fr':Fr} {h':Heap},Run call lo hi evs r A7 fr h fr' h' ->
  (∀x∈evs,∀k b,x.al=some (k,b)->r.toNat<=k.toNat/\k.toNat<r.toNat+D4 (evs.map (·.d))/\b.anc=[]) /\
  evs.Pairwise λx y=>∀k b k' b',x.al=some (k,b)->y.al=some (k',b')->k≠k'
 |[],_,_,_,_,_,_,_=>⟨Ac,.nil⟩
 |x::l,r,A7,fr,h,fr',h',e=>by
  obtain⟨h1,s,e⟩:=e;obtain⟨g1,g2⟩:=uG l e;have hr:r.toNat<=(Kh x r).toNat/\(Kh x r).toNat=r.toNat+(if x.d.o.act.kind=.alloc then 1 else 0):=by unfold Kh;split<;>simp[Key.toNat_succ]
  simp only[AG,D4];refine⟨λy hy k b ha=>?_,?_⟩
  ·rcases Af.1 hy with rfl|hy;·obtain⟨rfl,h2,h3⟩:=GJ s ha;exact⟨Rl,by rw[Aj h3];omega,h2⟩
   ·obtain⟨h2,h3,h4⟩:=g1 y hy k b ha;exact⟨Aa,Aa,h4⟩
  ·refine .cons (λy hy k b k' b' ha hb=>?_) g2;obtain⟨rfl,_,h3⟩:=GJ s ha;obtain⟨h2,_,_⟩:=g1 y hy k' b' hb;rw[hr.2,Aj h3] at h2;rintro rfl;omega
theorem uH {x:Ev} {post:List Ev}:∀(pre:List Ev) {r:Key} {A7:List Heap} {fr:Fr} {h:Heap} {fr':Fr} {h':Heap},Run call lo hi (pre++x::post) r A7 fr h fr' h' ->
  (∀y∈pre,∀k b,y.al=some (k,b)->lo.toNat<=k.toNat/\k.toNat<hi.toNat) ->
  ∃r1 snaps1 h1 h2,oO call lo hi x r1 (A7++snaps1) (pFr pre fr) h1 h2/\∃hs∈snaps1++[h1],∀b:Key,b.toNat<lo.toNat∨hi.toNat<=b.toNat->hs.get b=h.get b
 |[],r,A7,fr,h,fr',h',e,_=>by obtain⟨h1,s,_⟩:=e;exact⟨r,[],h,h1,by simpa[pFr] using s,h,Ac,λ_ _=>rfl⟩
 |y::pre,r,A7,fr,h,fr',h',e,hk=>by
  obtain⟨h1,s,e⟩:=e;obtain⟨r1,snaps1,g1,g2,s1,hs,hm,hg⟩:=uH pre e λz hz=>hk z (by simp[hz]);by_cases hy:y.d.o.act.kind=.effect;·refine⟨r1,h::snaps1,g1,g2,?_,h,Ac,λ_ _=>rfl⟩;simpa[H3,hy,pFr] using s1
  ·refine⟨r1,snaps1,g1,g2,?_,hs,hm,λb hb=>?_⟩;·simpa[H3,hy,pFr] using s1
   ·rw[hg b hb,mF s hy];unfold Ev.put;split
    ·next k blk hal=>
     have:=hk y Ac k blk hal;exact L5 (by rintro rfl;omega) _
    ·rfl
theorem gQ {o:VOp} {args:EA} {v:AV}:∀{l:List Heap} {hs:Heap},Lw o args v l=true->hs∈l->∃g,o.run args hs=some (v,g)
 |h::l,hs,e,hm=>by
  simp only[Lw,Au] at e;rcases Af.1 hm with rfl|hm
  ·have e1:=e.1;split at e1
   ·next u g hu=>
    simp only[AV.beq,Bk] at e1;exact⟨g,by rw[hu,e1]⟩
   ·cases e1
  ·exact gQ e.2 hm
end
structure Reg (P:Program) (N:Nat) (ops:Array Oper) (vs:List B3):Prop where
 len:vs.length=ops.size
 ok:∀(i:Nat) o,ops[i]?=some o->∃vo,vs[i]?=some vo/\M9 P N ops o=some vo
 down:Vu ops.toList
 dst:∀(i j:Nat) x y k,vs[i]?=some x->vs[j]?=some y->i≠j->x.dst=some k->y.dst≠some k
 apart:∀(i j:Nat) x y,vs[i]?=some x->vs[j]?=some y->i≠j->before (Gl ops.toList) i j=true∨before (Gl ops.toList) j i=true∨fN x y=true
structure Rest (ops:Array Oper) (vs:List B3) (lo hi:Key) (evs:List Ev) (A7:List Heap) (h:Heap):Prop where
 idx:∀x∈evs,vs[x.i]?=some x.d.o/\x.d.chk=fO (Gl ops.toList) (Hn vs) x.i
 pw:evs.Pairwise λx y=>x.i≠y.i/\before (Gl ops.toList) y.i x.i=false/\(y.d.o.act.kind=.effect->before (Gl ops.toList) x.i y.i=true)
 A7:((Hn vs).filter λj=>decide (∀x∈evs,x.i≠j)).length<=A7.length
 kpw:evs.Pairwise λx y=>∀k b k' b',x.al=some (k,b)->y.al=some (k',b')->k≠k'
 key:∀x∈evs,∀k b,x.al=some (k,b)->E6 k h/\k.toNat<h.next.toNat/\lo.toNat<=k.toNat/\k.toNat<hi.toNat/\b.anc=[]
 hi:hi.toNat<=h.next.toNat
 clean:Clean h
structure Up (ops:Array Oper) (vs:List B3) (evs:List Ev) (L:EH):Prop where
 rest:∀i,i<vs.length->(∀x∈evs,x.i≠i)->L i=true
 early:∀x∈evs,L x.i=true->x.d.o.act.kind≠.effect
 closed:Uf ops.toList L
structure Wu (N:Nat) (lo:Nat) (φ0:Emb) (g0:Mem) (w0:World) (L:EH) (evs:List Ev) (fr:Fr) (h:Heap) (φ:Emb) (a:Act) (w:World):Prop where
 fr:Hk φ N (eFr L evs fr) a
 sim:Sim φ (E0 L evs h).get h.next.toNat w
 ext:Ext φ0 g0 lo w0 φ (E0 L evs h).get h.next.toNat w
 unl:∀x∈evs,L x.i=false->∀k b,x.al=some (k,b)->φ k=none
theorem Se {vs:List B3} {j:Nat}:j∈Hn vs↔∃o,vs[j]?=some o/\o.act.kind=.effect:=by
 unfold Hn;constructor;·intro h;obtain⟨⟨o,i⟩,hp,rfl⟩:=Aw.1 h;obtain⟨h1,h2⟩:=Co.1 hp;exact⟨o,List.mem_zipIdx_iff_getElem?.1 h1,by simpa using h2⟩
 ·rintro⟨o,ho,hk⟩;exact Aw.2 ⟨(o,j),Co.2 ⟨List.mem_zipIdx_iff_getElem?.2 ho,by simpa using hk⟩,rfl⟩
theorem Sf (vs:List B3):(Hn vs).Nodup:=by unfold Hn;have h:((vs.zipIdx.filter λp=>decide (p.1.act.kind=.effect)).map (·.2)).Sublist (vs.zipIdx.map (·.2)):=List.Sublist.map _ List.filter_sublist;refine h.nodup ?_;have:=List.zipIdx_map_snd 0 vs;rw[show(vs.zipIdx.map (·.2))=List.range' 0 vs.length from this];exact List.nodup_range'
theorem filter_le {p q:EH}:∀(l:EF),(∀a∈l,p a=true->q a=true)->(l.filter p).length<=(l.filter q).length
 |[],_=>Rl
 |a::l,h=>by
  have ih:=filter_le l λb hb=>h b (by simp[hb]);simp only[BZ];cases hp:p a with
  |false=>simp only[Fj,Ag];split<;>simp<;>omega
  |true=>rw[Aj rfl,Aj (h a Ac hp)];simp;omega
theorem Mk {p q:EH} {c:Nat}:∀(l:EF),l.Nodup->(∀a∈l,p a=true->a≠c->q a=true)->(l.filter p).length<=(l.filter q).length+1
 |[],_,_=>Ac
 |a::l,hn,h=>by
  obtain⟨h1,h2⟩:=CM.1 hn;by_cases hc:a=c;·subst hc;have:=filter_le (p:=p) (q:=q) l λb hb hp=>h b (by simp[hb]) hp (by rintro rfl;exact h1 hb);simp only[BZ];split<;>split<;>simp<;>omega
  ·have ih:=Mk (p:=p) (q:=q) l h2 λb hb=>h b (by simp[hb]);simp only[BZ];cases hp:p a with
   |false=>simp only[Fj,Ag];split<;>simp<;>omega
   |true=>rw[Aj rfl,Aj (h a Ac hp hc)];simp;omega
section
variable {P:Program} {call:Fg} {N:Nat} {ops:Array Oper} {vs:List B3} {lo hi:Key}
theorem Aa2 (hreg:Reg P N ops vs) {evs:List Ev} {A7:List Heap} {h:Heap} {L:EH} (hr:Rest ops vs lo hi evs A7 h) (hu:Up ops vs evs L) {x:Ev} (hx:x∈evs) {o:Oper} (ho:ops[x.i]?=some o)
  (hd:∀k∈direct o,L k=true):x.d.chk<=A7.length:=by rw[(hr.idx x hx).2];refine AQ (filter_le (Hn vs) λj hj hb=>?_) hr.A7;have hl:L j=true:=hu.closed.ready hreg.down (o:=o) (by simpa using ho) hd hb;simp only[Bk];rintro y hy rfl;obtain⟨o',ho',hk⟩:=Se.1 hj;rw[(hr.idx y hy).1] at ho';cases ho';exact hu.early y hy hl hk
theorem yD {evs:List Ev} {x:Ev} {r:Key} {A7:List Heap} {fr:Fr} {h:Heap} {fr':Fr} {h':Heap} {L:EH} (hr:Rest ops vs lo hi (x::evs) A7 h) (hu:Up ops vs (x::evs) L) (hx:L x.i=true)
  (hrun:Run call lo hi (x::evs) r A7 fr h fr' h'):∃r1,Rest ops vs lo hi evs A7 (x.put h)/\Up ops vs evs L/\Run call lo hi evs r1 A7 (Fp fr x.d.o.dst x.v) (x.put h) fr' h':=by
 have hk:=hu.early x Ac hx;obtain⟨h1,s,hrun⟩:=hrun;have hh:=mF s hk;subst hh;have hpw:=AA.1 hr.pw;have hkpw:=AA.1 hr.kpw;refine⟨_,⟨λy hy=>hr.idx y (by simp[hy]),hpw.2,?_,hkpw.2,λy hy k b ha=>?_,by rw[Q5];exact hr.hi,?_⟩,⟨λi hi hn=>?_,λy hy=>hu.early y (by simp[hy]),hu.closed⟩,by simpa[H3,hk] using hrun⟩
 ·refine AQ (filter_le _ λj hj hp=>?_) hr.A7;simp only[Bk] at hp ⊢;intro y hy;rcases Af.1 hy with rfl|hy
  ·rintro rfl;obtain⟨o',ho',hk'⟩:=Se.1 hj;rw[(hr.idx y Ac).1] at ho';cases ho';exact hk hk'
  ·exact hp y hy
 ·obtain⟨h1,h2,h3,h4,h5⟩:=hr.key y (by simp[hy]) k b ha;refine⟨?_,by rw[Q5];exact h2,h3,h4,h5⟩;unfold Ev.put;split
  ·next k0 b0 hal=>
   refine h1.upd (BL (hkpw.1 y hy k0 b0 k b hal ha)) _ ?_;intro z hz;cases hz;rw[(hr.key x Ac k0 b0 hal).2.2.2.2];simp
  ·exact h1
 ·unfold Ev.put;split
  ·next k0 b0 hal=>
   obtain⟨_,h2,_,_,h5⟩:=hr.key x Ac k0 b0 hal;exact aY hr.clean h2 h5
  ·exact hr.clean
 ·by_cases hxi:x.i=i;·exact hxi▸hx
  ·refine hu.rest i hi λy hy=>?_;rcases Af.1 hy with rfl|hy
   ·exact hxi
   ·exact hn y hy
theorem oQ {lo0:Nat} {φ0:Emb} {g0:Mem} {w0:World} {evs:List Ev} {x:Ev} {fr:Fr} {h:Heap} {L:EH} {φ:Emb} {a:Act} {w:World} (hx:L x.i=true) (st:Wu N lo0 φ0 g0 w0 L (x::evs) fr h φ a w) :
  Wu N lo0 φ0 g0 w0 L evs (Fp fr x.d.o.dst x.v) (x.put h) φ a w:=by obtain⟨h1,h2,h3,h4⟩:=st;simp only[eFr,E0,hx,Ak] at h1 h2 h3;refine⟨h1,by rw[Q5];exact h2,by rw[Q5];exact h3,λy hy=>h4 y (by simp[hy])⟩
def todo (L:EH) (evs:List Ev):Nat:=(evs.filter λx=>!L x.i).length
theorem yE {lo0:Nat} {φ0:Emb} {g0:Mem} {w0:World} {L:EH} {φ:Emb} {a:Act} {w:World} {fr':Fr} {h':Heap}:∀(evs:List Ev) {r:Key} {A7:List Heap} {fr:Fr} {h:Heap},
  Rest ops vs lo hi evs A7 h->Up ops vs evs L->Run call lo hi evs r A7 fr h fr' h'->Wu N lo0 φ0 g0 w0 L evs fr h φ a w ->
  ∃evs' r' fr'' h'',Rest ops vs lo hi evs' A7 h''/\Up ops vs evs' L/\Run call lo hi evs' r' A7 fr'' h'' fr' h'/\Wu N lo0 φ0 g0 w0 L evs' fr'' h'' φ a w/\todo L evs'=todo L evs/\∀x l,evs'=x::l->L x.i=false
 |[],r,A7,fr,h,hr,hu,hrun,st=>⟨[],r,fr,h,hr,hu,hrun,st,rfl,Ac⟩
 |x::l,r,A7,fr,h,hr,hu,hrun,st=>by
  cases hx:L x.i with
  |false=>exact⟨x::l,r,fr,h,hr,hu,hrun,st,rfl,by rintro y l' e;cases e;exact hx⟩
  |true=>obtain⟨r1,g1,g2,g3⟩:=yD hr hu hx hrun;obtain⟨evs',r',fr'',h'',k1,k2,k3,k4,k5,k6⟩:=yE l g1 g2 g3 (oQ hx st);exact⟨evs',r',fr'',h'',k1,k2,k3,k4,by rw[k5];simp[todo,hx],k6⟩
theorem operands (hreg:Reg P N ops vs) {L:EH} {x:Ev} {pre post:List Ev} {A7:List Heap} {h:Heap} (hr:Rest ops vs lo hi (pre++x::post) A7 h) (hu:Up ops vs (pre++x::post) L) (hx:L x.i=false) {o:Oper} (ho:ops[x.i]?=some o)
  (hd:∀k∈direct o,L k=true) (fr:Fr):∀k∈looks x.d.o,(eFr L (pre++x::post) fr).get k=(pFr pre fr).get k:=by
 intro k hk;have hpw:=Bp.1 hr.pw;have hpost:=AA.1 hpw.2.1;have hix:=(hr.idx x Ac).1;rw[Oq];have hap:∀y∈pre++x::post,y.i≠x.i->y.d.o.dst=some k->before (Gl ops.toList) y.i x.i=true∨before (Gl ops.toList) x.i y.i=true:=by
  intro y hy hne hdst;rcases hreg.apart y.i x.i _ _ (hr.idx y hy).1 hix hne with h1|h1|h1
  ·exact .inl h1
  ·exact .inr h1
  ·exfalso;unfold fN at h1;simp only[hdst,Au,AX] at h1;have:=h1.1;rw[Dd] at this;simp[hk] at this
 rw[GH]
 ·refine GI pre fr fr rfl λy hy hdst=>?_;obtain⟨hne,hb,_⟩:=hpw.2.2 y hy x Ac;rcases hap y (by simp[hy]) hne hdst with h1|h1
  ·exact hu.closed.ready hreg.down (o:=o) (by simpa using ho) hd h1
  ·rw[hb] at h1;cases h1
 ·intro y hy hdst;rcases Af.1 hy with rfl|hy
  ·exact hx
  ·obtain⟨hne,hb,_⟩:=hpost.1 y hy;rcases hap y (by simp[hy]) (BL hne) hdst with h1|h1;·rw[hb] at h1;cases h1
   ·cases hl:L y.i with
    |false=>rfl
    |true=>have:=hu.closed.anc hreg.down (y.i+1) y.i Aa h1 hl;rw[hx] at this;cases this
theorem Ze (hcall:Iy P call) {o:Oper} {vo:B3} (hc:M9 P N ops o=some vo) {φ:Emb} {fr:Fr} {a:Act} {h h':Heap} {nx:Nat} {w:World} {v:AV} (hfr:Hk φ N fr a)
  (s:Sim φ h.get nx w) (hb:φ h.next=none) (hnx:(∀o,vo.act≠.op o)->nx=h.next.toNat/\Clean h)
  (hrun:(Ht fr vo.guard=some true/\∃args,G7 fr vo.args=some args/\vo.act.run call args h=some (v,h'))∨(Ht fr vo.guard=some false/\v=.unit/\h'=h))
  {K:Act->World->Prop} {Q:Exit->Act->World->Prop}
  (hK:∀a' w' φ',(∀nx',nx<=nx'->h'.next.toNat<=nx'->Sim φ' h'.get nx' w')->Ext φ h.get h.next.toNat w φ' h'.get h'.next.toNat w'->Hk φ' N (Fp fr vo.dst v) a'->K a' w') :
  if Region.wanted o (yielded ops a.tmps) then o.wp P a w K Q∨(o.asks P a w/\LetsOut Q) else K (a.put o.dst undef) w:=by
 obtain⟨hd,hdst,⟨g,hg,hvg⟩,_⟩:=Ie hc;rcases hrun with⟨hw,args,hf,hact⟩|⟨hw,rfl,rfl⟩;·rw[hvg] at hw;rw[Qw hfr hg hw,Aj rfl];refine .inl (tT hcall hc hfr s hb hnx hf hact λv' w' φ' h1 h2 h3=>hK _ _ φ' h1 h2 ?_);rw[hdst];exact(hfr.mono h2.le).put hd h3
 ·rw[hvg] at hw;rw[Qw hfr hg hw];simp only[Fj,Ag];refine hK _ _ φ (λnx' h1 _=>s.up h1) (Ext.refl _ _ _ _) ?_;rw[hdst];exact hfr.put hd ⟨[],rfl,.nil⟩
theorem Ext.within {φ0:Emb} {g0:Mem} {lo n r r':Nat} {w0 w w':World} {φ φ':Emb} {g g':Mem} (e:Ext φ0 g0 lo w0 φ g n w) (e':Ext φ g r w φ' g' r' w') (h1:lo<=r) (h2:r'<=n):Ext φ0 g0 lo w0 φ' g' n w' where
 le:=e.le.trans e'.le
 only b hb hr:=e'.only b (e.only b hb hr) (by have:=e'.nx;omega)
 nx:=e.nx
 size:=AQ e.size e'.size
 frame r0 o hr hn:=by refine e'.frame r0 o (e.frame r0 o hr hn) λb x l h1 h2 h3 h4=>?_;have hlt:r0<w0.heap.size:=(AE.1 hr).1;obtain⟨b0,x0,l0,e1,e2,e3,e4⟩:=e.own b x l h1 h2 h3 (h4▸hlt);exact hn b0 x0 l0 e1 e2 e3 (e4.trans h4)
 own b x l h1 h2 h3 h4:=by obtain⟨b1,x1,l1,e1,e2,e3,e4⟩:=e'.own b x l h1 h2 h3 (Bu h4 e.size);obtain⟨b0,x0,l0,f1,f2,f3,f4⟩:=e.own b1 x1 l1 e1 e2 e3 (e4▸h4);exact⟨b0,x0,l0,f1,f2,f3,f4.trans e4⟩
 new b l h1 h2 h3:=by
  cases hb:φ b with
  |none=>obtain⟨b1,x1,l1,e1,e2,e3,e4⟩:=e'.new b l hb h2 (Bu h3 e.size);obtain⟨b0,x0,l0,f1,f2,f3,f4⟩:=e.own b1 x1 l1 e1 e2 e3 (e4▸h3);exact⟨b0,x0,l0,f1,f2,f3,f4.trans e4⟩
  |some l1=>have:=e'.le b l1 hb;rw[h2] at this;cases this;exact e.new b l h1 hb h3
 os:=⟨e'.os.1.trans e.os.1,e'.os.2.trans e.os.2⟩
theorem cT (L:EH):∀(l:List Ev) (h:Heap),Clean h->(∀x∈l,∀k b,x.al=some (k,b)->k.toNat<h.next.toNat/\b.anc=[])->Clean (E0 L l h)
 |[],_,hc,_=>hc
 |x::l,h,hc,hk=>by
  rw[E0];have hp:Clean (x.put h):=by
   unfold Ev.put;split;·next k b ha=>exact aY hc (hk x Ac k b ha).1 (hk x Ac k b ha).2
   ·exact hc
  refine cT L l _ (by split<;>assumption) λy hy k b ha=>?_;have:=hk y (by simp[hy]) k b ha;split;·rw[Q5];exact this
  ·exact this
theorem Sg {α:Type} {f:Heap->Option (α×Heap)} (hf:Wm f) (L:EH):∀(l:List Ev) {h h':Heap} {v:α},f h=some (v,h') ->
  (∀x∈l,∀k b,x.al=some (k,b)->E6 k h/\k.toNat<h.next.toNat/\b.anc=[])->(l.Pairwise λx y=>∀k b k' b',x.al=some (k,b)->y.al=some (k',b')->k≠k') ->
  f (E0 L l h)=some (v,E0 L l h')/\∀x∈l,∀k b,x.al=some (k,b)->E6 k h'
 |[],_,_,_,e,_,_=>⟨e,Ac⟩
 |x::l,h,h',v,e,hk,hp=>by
  have hpc:=AA.1 hp;have hfresh:∀y∈x::l,∀k b,y.al=some (k,b)->E6 k h':=λy hy k b ha=>by obtain⟨h1,h2,_⟩:=hk y hy k b ha;exact((hf h v h' e).2 k default h2 h1).1
  refine⟨?_,hfresh⟩;simp only[E0];cases hx:L x.i with
  |false=>simp only[Fj,Ag];exact(Sg hf L l e (λy hy=>hk y (by simp[hy])) hpc.2).1
  |true=>
   simp only[Ak];unfold Ev.put;split
   ·next k b ha=>
    obtain⟨h1,h2,h3⟩:=hk x Ac k b ha;refine(Sg hf L l ((hf h v h' e).2 k b h2 h1).2 (λy hy k' b' ha'=>?_) hpc.2).1;obtain⟨g1,g2,g3⟩:=hk y (by simp[hy]) k' b' ha';refine⟨g1.upd (BL (hpc.1 y hy k b k' b' ha ha')) _ (by intro z hz;cases hz;simp[h3]),g2,g3⟩
   ·exact(Sg hf L l e (λy hy=>hk y (by simp[hy])) hpc.2).1
end
theorem yF {o:VOp} (hk:o.kind=.alloc) {args:EA} {h:Heap} {r:Key} {v:AV} {blk:Blk} (e:o.run args { h with next:=r }=some (v,({ h with next:=r }:Heap).Fu blk)) (h2:Heap) (hn:h2.next=r) :
  o.run args h2=some (v,h2.Fu blk):=by obtain⟨b2,_,he,hall⟩:=Q1 hk e;have:=Bh (λg=>Heap.get g r) he;simp only[Gt,Ak,Sj] at this;rw[this];exact hall h2 hn
section
variable {P:Program} {call:Fg} {N:Nat} {ops:Array Oper} {vs:List B3} {lo hi:Key}
theorem bB {L:EH} (hc:Uf ops.toList L) {i:Nat} {o:Oper} (ho:ops[i]?=some o) (hd:∀k∈direct o,L k=true):Uf ops.toList (upL L i):=by
 intro j o' hj hl k hk;unfold upL at hl ⊢;split at hl
 ·next e=>
  subst e;have:o'=o:=by
   have h1:ops[j]?=some o':=by simpa using hj
   rw[ho] at h1;exact(Cw h1).symm
  subst this;split;·rfl
  ·exact hd k hk
 ·split;·rfl
  ·exact hc j o' hj hl k hk
theorem Up.up {evs:List Ev} {L:EH} {A7:List Heap} {h:Heap} (hr:Rest ops vs lo hi evs A7 h) (hu:Up ops vs evs L) {x:Ev} (hx:x∈evs) (hk:x.d.o.act.kind≠.effect) {o:Oper} (ho:ops[x.i]?=some o) (hd:∀k∈direct o,L k=true):Up ops vs evs (upL L x.i):=by
 refine⟨λi hi hn=>?_,λy hy hl=>?_,bB hu.closed ho hd⟩
 ·unfold upL;split;·rfl
  ·exact hu.rest i hi hn
 ·unfold upL at hl;split at hl
  ·next e=>
   have h1:=(hr.idx y hy).1;rw[e,(hr.idx x hx).1] at h1;rw[<-Cw h1];exact hk
  ·exact hu.early y hy hl
theorem todo_up {L:EH} {x:Ev} (hx:L x.i=false):∀(evs:List Ev),x∈evs->todo (upL L x.i) evs<todo L evs:=by
 have le:∀evs:List Ev,todo (upL L x.i) evs<=todo L evs:=by
  intro evs;induction evs with
  |nil=>exact Rl
  |cons y l ih=>
   simp only[todo,BZ] at ih ⊢;by_cases hy:y.i=x.i;·simp only[upL,hy,Ak,Dv,Fj,Ag];split<;>simp[upL] at ih ⊢<;>omega
   ·simp only[upL,hy,Ag] at ih ⊢;split<;>simp at ih ⊢<;>omega
 intro evs;induction evs with
 |nil=>intro h;cases h
 |cons y l ih=>
  intro hm;rcases Af.1 hm with rfl|hm
  ·have:=le l;simp only[todo,BZ,upL,Ak,Dv,Fj,Ag,hx,CH,Ap] at this ⊢;omega
  ·have:=ih hm;by_cases hy:y.i=x.i;·have h1:=le l;simp only[todo,BZ,upL,hy,Ak,Dv,Fj,Ag,hx,CH,Ap] at h1 ⊢;omega
   ·simp only[todo,BZ,upL,hy,Ag] at this ⊢;split<;>simp at this ⊢<;>omega
theorem yG (hcall:Iy P call) (hreg:Reg P N ops vs) {L:EH} {x:Ev} {pre post:List Ev} {r:Key} {A7:List Heap} {fr:Fr} {h:Heap} {fr':Fr} {h':Heap}
  (hr:Rest ops vs lo hi (pre++x::post) A7 h) (hu:Up ops vs (pre++x::post) L) (hx:L x.i=false) (hk:x.d.o.act.kind≠.effect) {o:Oper} (ho:ops[x.i]?=some o) (hd:∀k∈direct o,L k=true)
  (hrun:Run call lo hi (pre++x::post) r A7 fr h fr' h') {φ0:Emb} {g0:Mem} {w0:World} {φ:Emb} {a:Act} {w:World} (st:Wu N lo.toNat φ0 g0 w0 L (pre++x::post) fr h φ a w)
  {K:Act->World->Prop} {Q:Exit->Act->World->Prop} (hK:∀a' w' φ',Wu N lo.toNat φ0 g0 w0 (upL L x.i) (pre++x::post) fr h φ' a' w'->K a' w'):wpOp P ops Q x.i K a w:=by
 have hmem:x∈pre++x::post:=Ac;obtain⟨vo,hvo,hc⟩:=hreg.ok x.i o ho;rw[(hr.idx x hmem).1] at hvo;cases hvo;have hpw:=Bp.1 hr.pw;have hpost:=AA.1 hpw.2.1;have hne:∀y∈pre++post,y.i≠x.i:=by
  intro y hy;rcases Av.1 hy with hy|hy
  ·exact(hpw.2.2 y hy x Ac).1
  ·exact BL (hpost.1 y hy).1
 have hkpw:=Bp.1 hr.kpw;have hkpost:=AA.1 hkpw.2.1;have hkne:∀y∈pre++x::post,y.i≠x.i->∀k b k' b',x.al=some (k,b)->y.al=some (k',b')->k≠k':=by
  intro y hy hyi k b k' b' h1 h2;rcases Av.1 hy with hy|hy
  ·exact BL (hkpw.2.2 y hy x Ac k' b' k b h2 h1)
  ·rcases Af.1 hy with rfl|hy;·exact absurd rfl hyi
   ·exact hkpost.1 y hy k b k' b' h1 h2
 have hFr:eFr (upL L x.i) (pre++x::post) fr=Fp (eFr L (pre++x::post) fr) x.d.o.dst x.v:=
  GG hx hne λy hy k e=>hreg.dst x.i y.i _ _ k (hr.idx x hmem).1 (hr.idx y (by simp[hy])).1 (BL (hne y (by simp[hy]))) e
 have hHe:E0 (upL L x.i) (pre++x::post) h=x.put (E0 L (pre++x::post) h):=KG hx hne λy hy k b k' b'=>hkpost.1 y hy k b k' b';have hop:=operands hreg hr hu hx ho hd fr;have hwant:=Zd (o:=x.d.o) hop;obtain⟨r1,snaps1,h1,h2,s,hs,hm,hg⟩:=uH pre hrun λy hy k b ha=>by obtain⟨_,_,e1,e2,_⟩:=hr.key y (by simp[hy]) k b ha;exact⟨e1,e2⟩
 unfold wpOp;simp only[ho];have hb:φ (E0 L (pre++x::post) h).next=none:=st.sim.fresh _ (by rw[Ot];exact Rl);have quiet:x.al=none->(∀o,x.d.o.act≠.op o)->False:=λ_ hn=>by
  cases hact:x.d.o.act with
  |op p=>exact hn p hact
  |call f=>rw[hact] at hk;exact hk rfl
  |Kr=>rw[hact] at hk;exact hk rfl
 have same:x.al=none->∀a' w' φ',(∀nx',h.next.toNat<=nx'->(E0 L (pre++x::post) h).next.toNat<=nx'->Sim φ' (E0 L (pre++x::post) h).get nx' w') ->
   Ext φ (E0 L (pre++x::post) h).get (E0 L (pre++x::post) h).next.toNat w φ' (E0 L (pre++x::post) h).get (E0 L (pre++x::post) h).next.toNat w'->Hk φ' N (Fp (eFr L (pre++x::post) fr) x.d.o.dst x.v) a'->K a' w':=by
  intro hal a' w' φ' s1 e1 f1
  have hput:x.put (E0 L (pre++x::post) h)=E0 L (pre++x::post) h:=by simp only[Ev.put,hal]
  rw[Ot] at s1 e1
  refine hK a' w' φ' ⟨by rw[hFr];exact f1,by rw[hHe,hput];exact s1 _ Rl Rl,by rw[hHe,hput];exact st.ext.trans e1,λy hy hl k b ha=>?_⟩
  refine e1.only k (st.unl y hy ?_ k b ha) Aa
  unfold upL at hl
  split at hl
  ·cases hl
  ·exact hl
 rcases s with⟨hw,args,hf,hmm⟩|⟨hw,hv,hal,_⟩
 ·have hfetch:G7 (eFr L (pre++x::post) fr) x.d.o.args=some args:=by rw[My _ λk hk'=>hop k (Sd hk')];exact hf
  rw[<-hwant] at hw;split at hmm;·next e=>exact absurd e hk
  ·next hka=>
   obtain⟨p,blk,hp,hal,hpr,_⟩:=hmm;have hkp:p.kind=.alloc:=by rw[hp] at hka;exact hka
   obtain⟨k1,k2,k3,k4,k5⟩:=hr.key x hmem r1 blk hal;have hrun1:=yF hkp hpr { E0 L (pre++x::post) h with next:=r1 } rfl;refine Ze (ops:=ops) hcall hc (φ:=φ) (h:={ E0 L (pre++x::post) h with next:=r1 }) (nx:=h.next.toNat) (v:=x.v) st.fr st.sim (st.unl x hmem hx r1 blk hal) (λhn=>absurd hp (hn p)) (.inl ⟨hw,args,hfetch,by rw[hp];exact hrun1⟩) ?_;intro a' w' φ' s1 e1 f1;have hnx:(({ E0 L (pre++x::post) h with next:=r1 }:Heap).Fu blk).next.toNat=r1.toNat+1:=by rw[Nq,Key.toNat_succ]
   have hput:x.put (E0 L (pre++x::post) h)=(E0 L (pre++x::post) h).upd r1 (some blk):=by simp only[Ev.put,hal]
   rw[hnx] at s1 e1;have hget:(({ E0 L (pre++x::post) h with next:=r1 }:Heap).Fu blk).get=((E0 L (pre++x::post) h).upd r1 (some blk)).get:=rfl;rw[hget] at s1 e1;refine hK a' w' φ' ⟨by rw[hFr];exact f1,by rw[hHe,hput];exact s1 _ Rl Aa,by rw[hHe,hput];exact st.ext.within e1 k3 Aa,λy hy hl k b ha=>?_⟩;unfold upL at hl;split at hl;·cases hl
   ·next hyi=>
    have hkk:=hkne y hy hyi r1 blk k b hal ha;have hkk':r1.toNat≠k.toNat:=λe=>hkk (by rw[<-Key.J8 r1,e,Key.J8]);exact e1.only k (st.unl y hy hl k b ha) (by show k.toNat<r1.toNat∨r1.toNat+1<=k.toNat;omega)
  ·next hkq=>
   obtain⟨p,hp,hal,hpr,hout,hsame,_⟩:=hmm;have hkp:p.kind=.quiet:=by rw[hp] at hkq;exact hkq
   have hchk:=Aa2 hreg hr hu hmem ho hd;rw[List.drop_append_of_le_length hchk] at hsame;have hrs:∃g,p.run args hs=some (x.v,g):=by
    rcases Av.1 hm with hm|hm;·exact gQ hsame (DF _ hm)
    ·simp only[Ar] at hm;subst hm;exact⟨_,hpr⟩
   obtain⟨g,hrs⟩:=hrs;obtain⟨_,hq⟩:=Jb hkp hrs;have hrun1:p.run args (E0 L (pre++x::post) h)=some (x.v,E0 L (pre++x::post) h):=hq _ λb hb'=>by
    have hbo:b.toNat<lo.toNat∨hi.toNat<=b.toNat:=by unfold outside at hout;rw[hb'] at hout;simp only[AW,Bs,BC] at hout;exact hout
    rw[hg b hbo];refine mE _ _ λy hy k b' ha=>?_;obtain⟨_,_,e1,e2,_⟩:=hr.key y hy k b' ha;rintro rfl;omega
   exact Ze (ops:=ops) hcall hc (φ:=φ) (h:=E0 L (pre++x::post) h) (nx:=h.next.toNat) (v:=x.v) st.fr st.sim hb (λhn=>absurd hp (hn p)) (.inl ⟨hw,args,hfetch,by rw[hp];exact hrun1⟩) (same hal)
 ·rw[<-hwant] at hw;exact Ze (ops:=ops) hcall hc (φ:=φ) (h:=E0 L (pre++x::post) h) (nx:=h.next.toNat) (v:=x.v) st.fr st.sim hb (λhn=>(quiet hal hn).elim) (.inr ⟨hw,hv,rfl⟩) (same hal)
theorem uI (hcall:Iy P call) (hnice:Gn call) (hkeep:Hh call) (hreg:Reg P N ops vs) {L:EH} {x:Ev} {l:List Ev} {r:Key} {A7:List Heap} {fr:Fr} {h:Heap} {fr':Fr} {h':Heap}
  (hr:Rest ops vs lo hi (x::l) A7 h) (hu:Up ops vs (x::l) L) (hx:L x.i=false) (hk:x.d.o.act.kind=.effect) {o:Oper} (ho:ops[x.i]?=some o) (hd:∀k∈direct o,L k=true)
  (hrun:Run call lo hi (x::l) r A7 fr h fr' h') {φ0:Emb} {g0:Mem} {w0:World} {φ:Emb} {a:Act} {w:World} (st:Wu N lo.toNat φ0 g0 w0 L (x::l) fr h φ a w) :
  ∃h1,Rest ops vs lo hi l (A7++[h]) h1/\Up ops vs l (upL L x.i)/\Run call lo hi l r (A7++[h]) (Fp fr x.d.o.dst x.v) h1 fr' h' /\
   ∀(K:Act->World->Prop) (Q:Exit->Act->World->Prop),(∀a' w' φ',Wu N lo.toNat φ0 g0 w0 (upL L x.i) l (Fp fr x.d.o.dst x.v) h1 φ' a' w'->K a' w')->wpOp P ops Q x.i K a w:=by
 obtain⟨h1,s,hrun1⟩:=hrun;have hpw:=AA.1 hr.pw;have hkpw:=AA.1 hr.kpw;obtain⟨vo,hvo,hc⟩:=hreg.ok x.i o ho;have hix:=(hr.idx x Ac).1;rw[hix] at hvo;cases hvo;have hop:=operands (pre:=[]) hreg hr hu hx ho hd fr;simp only[Bw,pFr] at hop;have hwant:=Zd (o:=x.d.o) hop;have hkeys:∀y∈l,∀k b,y.al=some (k,b)->E6 k h/\k.toNat<h.next.toNat/\b.anc=[]:=λy hy k b ha=>by obtain⟨e1,e2,_,_,e5⟩:=hr.key y (by simp[hy]) k b ha;exact⟨e1,e2,e5⟩
 have hgo:((Ht (eFr L (x::l) fr) x.d.o.guard=some true/\∃args,G7 (eFr L (x::l) fr) x.d.o.args=some args/\x.d.o.act.run call args (E0 L l h)=some (x.v,E0 L l h1)) ∨
   (Ht (eFr L (x::l) fr) x.d.o.guard=some false/\x.v=.unit/\E0 L l h1=E0 L l h))/\h.next.toNat<=h1.next.toNat/\(∀y∈l,∀k b,y.al=some (k,b)->E6 k h1)/\Clean h1:=by
  rcases s with⟨hw,args,hf,hmm⟩|⟨hw,hv,hal,rfl⟩
  ·simp only[hk] at hmm
   have hn:=tU hnice x.d.o.act args
   obtain⟨e1,e2⟩:=Sg hn L l hmm.2 hkeys hkpw.2
   refine⟨.inl ⟨by rw[hwant];exact hw,args,?_,e1⟩,(hn _ _ _ hmm.2).1,e2,uD hkeep hmm.2 hr.clean⟩
   rw[My _ λk hk'=>hop k (Sd hk')];exact hf
  ·exact⟨.inr ⟨by rw[hwant];exact hw,hv,rfl⟩,Rl,λy hy k b ha=>(hkeys y hy k b ha).1,hr.clean⟩
 obtain⟨hgo,hnx,hfresh,hclean⟩:=hgo;have hne:∀y∈l,y.i≠x.i:=λy hy=>BL (hpw.1 y hy).1;refine⟨h1,⟨λy hy=>hr.idx y (by simp[hy]),hpw.2,?_,hkpw.2,λy hy k b ha=>?_,AQ hr.hi hnx,hclean⟩,⟨λi hi hn=>?_,λy hy hl=>?_,bB hu.closed ho hd⟩,?_,λK Q hK=>?_⟩
 ·have:=Mk (p:=λj=>decide (∀y∈l,y.i≠j)) (q:=λj=>decide (∀y∈x::l,y.i≠j)) (c:=x.i) (Hn vs) (Sf vs) λj _ hp hc=>by
   simp only[Bk] at hp ⊢;intro y hy;rcases Af.1 hy with rfl|hy
   ·exact BL hc
   ·exact hp y hy
  have h2:=hr.A7;simp only[La,Bl];omega
 ·obtain⟨e1,e2,e3,e4,e5⟩:=hr.key y (by simp[hy]) k b ha;exact⟨hfresh y hy k b ha,Aa,e3,e4,e5⟩
 ·unfold upL;split;·rfl
  ·next hxi=>
   refine hu.rest i hi λy hy=>?_;rcases Af.1 hy with rfl|hy
   ·exact BL hxi
   ·exact hn y hy
 ·unfold upL at hl;rw[Ao (hne y hy)] at hl;exact hu.early y (by simp[hy]) hl
 ·simpa[Kh,H3,hk] using hrun1
 ·unfold wpOp;simp only[ho];have hEh:E0 L (x::l) h=E0 L l h:=by simp[E0,hx]
  have hEf:eFr L (x::l) fr=eFr L l fr:=by simp[eFr,hx]
  obtain⟨f0,s0,e0,u0⟩:=st;rw[hEh] at s0 e0;have hcl:Clean (E0 L l h):=cT L l h hr.clean λy hy k b ha=>⟨(hkeys y hy k b ha).2.1,(hkeys y hy k b ha).2.2⟩;have hnext:(E0 L l h).next=h.next:=Ot L l h;have hnext1:(E0 L l h1).next=h1.next:=Ot L l h1;refine Ze (ops:=ops) hcall hc (φ:=φ) (h:=E0 L l h) (h':=E0 L l h1) (nx:=h.next.toNat) (v:=x.v) f0 s0 (s0.fresh _ (by rw[hnext];exact Rl)) (λ_=>⟨by rw[hnext],hcl⟩) hgo ?_;intro a' w' φ' s1 e1 f1;rw[hnext,hnext1] at e1;rw[hnext1] at s1;have hc1:E0 (upL L x.i) l h1=E0 L l h1:=Pg l h1 λy hy=>by simp[upL,hne y hy]
  have hc2:∀g,eFr (upL L x.i) l g=eFr L l g:=λg=>Vv l g λy hy=>by simp[upL,hne y hy]
  refine hK a' w' φ' ⟨?_,by rw[hc1];exact s1 _ hnx Rl,by rw[hc1];exact e0.trans e1,λy hy hl k b ha=>?_⟩;·rw[hc2,Zc L l fr λy hy _ k e=>hreg.dst x.i y.i _ _ k hix (hr.idx y (by simp[hy])).1 (BL (hne y hy)) e,<-hEf];exact f1
  ·unfold upL at hl;rw[Ao (hne y hy)] at hl;exact e1.only k (u0 y (by simp[hy]) hl k b ha) (.inl (hkeys y hy k b ha).2.1)
end
end Go.Vm
end
