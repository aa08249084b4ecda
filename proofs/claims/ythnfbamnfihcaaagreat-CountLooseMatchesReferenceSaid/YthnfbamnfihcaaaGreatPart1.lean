/- A part of the proof. No condition. -/
import Derived.Test.YthnfbamnfihcaaaGreatPart0
import Derived.Test.YthnfbamnfihcaaaGreatBase
import Derived.Test.YthnfbamnfihcaaaGreatTab
set_option linter.unusedVariables false
set_option linter.unusedSimpArgs false
set_option linter.unusedSectionVars false
section
noncomputable section
namespace Go.Vm
open Key (kn)
section
variable {P:Program} {call:Fg} {N:Nat} {ops:Array Oper} {vs:List B3} {lo hi:Key}
theorem mG (hcall:Iy P call) (hnice:Gn call) (hkeep:Hh call) (hreg:Reg P N ops vs) {Q:Exit->Act->World->Prop} {φ0:Emb} {g0:Mem} {w0:World} {fr':Fr} {h':Heap}
  (hQ:∀a w φ,Hk φ N fr' a->Sim φ h'.get h'.next.toNat w->Ext φ0 g0 lo.toNat w0 φ h'.get h'.next.toNat w->Q .normal a w) :
  ∀(fuel:Nat) (listed:Array Bool) (evs:List Ev) (r:Key) (A7:List Heap) (fr:Fr) (h:Heap) (φ:Emb) (a:Act) (w:World),listed.size=ops.size->Rest ops vs lo hi evs A7 h->Up ops vs evs (λi=>listed.getD i true) ->
   Run call lo hi evs r A7 fr h fr' h'->Wu N lo.toNat φ0 g0 w0 (λi=>listed.getD i true) evs fr h φ a w->todo (λi=>listed.getD i true) evs<=fuel->wpAny P .any ops Q fuel listed a w:=by
 have done:∀(listed:Array Bool) (evs:List Ev) (r:Key) (A7:List Heap) (fr:Fr) (h:Heap) (φ:Emb) (a:Act) (w:World),listed.size=ops.size->Rest ops vs lo hi evs A7 h->Up ops vs evs (λi=>listed.getD i true) ->
   Run call lo hi evs r A7 fr h fr' h'->Wu N lo.toNat φ0 g0 w0 (λi=>listed.getD i true) evs fr h φ a w->(∀x l,evs=x::l->(λi=>listed.getD i true) x.i=false)->Region.ready .any ops listed=[]->Q .normal a w:=by
  intro listed evs r A7 fr h φ a w hsz hr hu hrun st hhead hnil
  cases evs with
  |nil=>
   obtain⟨rfl,rfl⟩:=hrun
   exact hQ a w φ st.fr st.sim st.ext
  |cons x l=>
   exfalso
   have hx:=hhead x l rfl
   have hix:=(hr.idx x Ac).1
   have hlt:x.i<ops.size:=by rw[<-hreg.len];exact(Gi.1 hix).1
   have ho:ops[x.i]?=some ops[x.i]:=by simp[hlt]
   have hmem:x.i∈Region.ready .any ops listed:=by
    rw[mem_ready]
    refine⟨hx,_,ho,λe he hb=>?_⟩
    have hdir:=gL he hb
    have hk:e.on<x.i:=hreg.down x.i _ Ac e.on hdir
    have hl:listed.getD e.on true=true:=by
     refine hu.rest e.on (by rw[hreg.len];omega) λy hy=>?_
     rcases Af.1 hy with rfl|hy
     ·omega
     ·rintro hyi
      obtain⟨_,hb',_⟩:=(AA.1 hr.pw).1 y hy
      have:before (Gl ops.toList) y.i x.i=true:=(Sa hreg.down (o:=ops[x.i]) Ac).2 ⟨e.on,hdir,.inl hyi.symm⟩
      rw[hb'] at this;cases this
    have hlt':e.on<listed.size:=Aa
    simp only[Array.getD,hlt',dif_pos] at hl ⊢
    exact hl
   rw[hnil] at hmem
   cases hmem
 intro fuel;induction fuel with
 |zero=>
  intro listed evs r A7 fr h φ a w hsz hr hu hrun st hf;have hnil:Region.ready .any ops listed=[]:=by
   refine DA.2 λi hi=>?_;obtain⟨h1,o,ho,_⟩:=mem_ready.1 hi;have hlt:i<vs.length:=by rw[hreg.len];exact(AE.1 ho).1
   have:listed.getD i true=true:=hu.rest i hlt λy hy hyi=>by have:y∈evs.filter λx=>!(λi=>listed.getD i true) x.i:=Co.2 ⟨hy,by simp only[hyi,h1];rfl⟩;have hlen:(evs.filter λx=>!(λi=>listed.getD i true) x.i).length=0:=Nat.le_zero.1 hf;rw[Bm.1 hlen] at this;cases this
   rw[h1] at this;cases this
  obtain⟨evs',r',fr'',h'',k1,k2,k3,k4,k5,k6⟩:=yE evs hr hu hrun st;exact⟨hnil,done listed evs' r' A7 fr'' h'' φ a w hsz k1 k2 k3 k4 k6 hnil⟩
 |succ fuel ih=>
  intro listed evs r A7 fr h φ a w hsz hr hu hrun st hf;obtain⟨evs',r',fr'',h'',k1,k2,k3,k4,k5,k6⟩:=yE evs hr hu hrun st;refine⟨done listed evs' r' A7 fr'' h'' φ a w hsz k1 k2 k3 k4 k6,λi hi=>?_⟩;obtain⟨h1,o,ho,hall⟩:=mem_ready.1 hi;have hlt:i<ops.size:=(AE.1 ho).1;have hx:∃x∈evs',x.i=i:=by refine CF λhn=>?_;have:listed.getD i true=true:=k2.rest i (by rw[hreg.len];exact hlt) λy hy hyi=>hn ⟨y,hy,hyi⟩;rw[h1] at this;cases this
  obtain⟨x,hxm,rfl⟩:=hx;have hd:∀k∈direct o,(λi=>listed.getD i true) k=true:=λk hk=>by
   obtain⟨e,he,hb,rfl⟩:=Wt hk;have:=hall e he hb;rcases DT e.on listed.size with h'|h';·simpa[h'] using this
   ·simp[Array.getElem?_eq_none h'] at this
  have hL:(λi=>(listed.setIfInBounds x.i true).getD i true)=upL (λi=>listed.getD i true) x.i:=by
   funext j;unfold upL;by_cases hj:j=x.i;·subst hj;simp[hsz,hlt]
   ·rw[Ao hj,getD_set_ne true (BL hj)]
  have hsz':(listed.setIfInBounds x.i true).size=ops.size:=by simpa using hsz
  have htodo:todo (λi=>listed.getD i true) evs'<=fuel+1:=by rw[k5];exact hf
  by_cases hk:x.d.o.act.kind=.effect
  ·-- an effect: it is the head
   obtain⟨y,l,rfl⟩:∃y l,evs'=y::l:=by cases evs' with
    |nil=>cases hxm
    |cons y l=>exact⟨y,l,rfl⟩
   have hy:=k6 y l rfl
   have hxy:x=y:=by
    rcases Af.1 hxm with rfl|hxl
    ·rfl
    ·exfalso
     obtain⟨_,_,h3⟩:=(AA.1 k1.pw).1 x hxl
     have:=k2.closed.ready hreg.down (o:=o) (by simpa using ho) hd (h3 hk)
     simp only[hy] at this
     cases this
   subst hxy
   obtain⟨g1,e1,e2,e3,e4⟩:=uI hcall hnice hkeep hreg k1 k2 h1 hk ho hd k3 k4
   refine e4 _ _ λa' w' φ' st'=>?_
   refine ih _ l _ _ _ g1 φ' a' w' hsz' e1 (by rw[hL];exact e2) e3 (by rw[hL];exact st') ?_
   rw[hL]
   have h2:=todo_up (L:=λi=>listed.getD i true) h1 (x::l) Ac
   have h3:todo (upL (λi=>listed.getD i true) x.i) l<=todo (upL (λi=>listed.getD i true) x.i) (x::l):=by
    unfold todo
    rw[BZ]
    split
    ·simp
    ·exact Rl
   omega
  ·obtain⟨pre,post,rfl⟩:=Dr hxm;refine yG hcall hreg k1 k2 h1 hk ho hd k3 k4 λa' w' φ' st'=>?_;refine ih _ (pre++x::post) r' A7 fr'' h'' φ' a' w' hsz' k1 (by rw[hL];exact k2.up k1 hxm hk ho hd) k3 (by rw[hL];exact st') ?_;rw[hL];have h2:=todo_up (L:=λi=>listed.getD i true) h1 (pre++x::post) hxm;omega
end
theorem Hc:∀(n:Nat) (l:EF),l.Nodup->(∀i∈l,i<n)->l.length<=n
 |0,l,_,h=>by
  cases l with
  |nil=>exact Rl
  |cons a l=>exact absurd (h a Ac) Aa
 |n+1,l,hn,h=>by
  have h1:=Hc n (l.erase n) (hn.erase n) λi hi=>by
   have h2:=h i (List.mem_of_mem_erase hi);have h3:i≠n:=by rintro rfl;exact hn.not_mem_erase hi
   omega
  have h2:l.length<=(l.erase n).length+1:=by rw[List.length_erase];split<;>omega
  omega
theorem Ou:∀(vs:List B3),Vq vs=true->∀(i j:Nat) x y k,vs[i]?=some x->vs[j]?=some y->i<j->x.dst=some k->y.dst≠some k
 |[],_,i,j,x,y,k,h,_,_,_=>by simp at h
 |o::l,hd,i,j,x,y,k,hi,hj,hij,hx=>by
  simp only[Vq,Au] at hd;cases j with
  |zero=>omega
  |succ j=>
   simp only[Bc] at hj;cases i with
   |zero=>simp only[Bb,Sj] at hi;subst hi;have:=hd.1;rw[hx] at this;have:=AF.1 this y (Aq hj);simpa using this
   |succ i=>simp only[Bc] at hi;exact Ou l hd.2 i j x y k hi hj Aa hx
theorem gR {ms:EF} {vs:List B3}:∀(is:EF),FY ms vs is=true->is.Pairwise λi j=>i≠j/\before ms j i=false/\(sT vs j=true->before ms i j=true)
 |[],_=>.nil
 |i::l,h=>by
  simp only[FY,Au,AX] at h;refine .cons (λj hj=>?_) (gR l h.2);have:=AF.1 h.1.2 j hj;simp only[Au,AX,AW] at this;refine⟨?_,this.1,λhe=>?_⟩;·rintro rfl;have:=h.1.1;rw[Dd] at this;simp[hj] at this
  ·rcases this.2 with h2|h2;·rw[he] at h2;cases h2
   ·exact h2
theorem Uh {ms eff:EF} {vs:List B3}:∀(is:EF) {ds:List DOp},T0 ms eff vs is=some ds->is.length=ds.length /\
  ∀evs:List Ev,evs.map (·.i)=is->evs.map (·.d)=ds->∀x∈evs,vs[x.i]?=some x.d.o/\x.d.chk=fO ms eff x.i
 |[],ds,h=>by simp only[T0,Sj] at h;subst h;exact⟨rfl,λevs h1 _ x hx=>by simp at h1;subst h1;cases hx⟩
 |i::l,ds,h=>by
  unfold T0 at h;split at h
  ·next o ho=>
   split at h
   ·next r hr=>
    cases h;obtain⟨h1,h2⟩:=Uh l hr;refine⟨by simp[h1],λevs e1 e2 x hx=>?_⟩;cases evs with
    |nil=>cases hx
    |cons y evs=>
     simp only[AG,BG] at e1 e2;rcases Af.1 hx with rfl|hx
     ·rw[e1.1,e2.1];exact⟨ho,rfl⟩
     ·exact h2 evs e1.2 e2.2 x hx
   ·cases h
  ·cases h
theorem cU {P:Program} {N:Nat} {ops:Array Oper}:∀(l:List Oper) {vs:List B3},Gw P N ops l=some vs->vs.length=l.length/\∀(i:Nat) o,l[i]?=some o->∃vo,vs[i]?=some vo/\M9 P N ops o=some vo
 |[],vs,h=>by simp only[Gw,Sj] at h;subst h;exact⟨rfl,Ac⟩
 |o::l,vs,h=>by
  unfold Gw at h;split at h
  ·next vo hvo=>
   split at h
   ·next vl hvl=>
    cases h;obtain⟨h1,h2⟩:=cU l hvl;refine⟨by simp[h1],λi o' ho'=>?_⟩;cases i with
    |zero=>simp only[Bb,Sj] at ho';subst ho';exact⟨vo,rfl,hvo⟩
    |succ i=>simpa using h2 i o' (by simpa using ho')
   ·cases h
  ·cases h
theorem OA {P:Program} {N:Nat} {ops:Array Oper} {vs:List B3} (hv:Gw P N ops ops.toList=some vs) {ord:EF} (hok:eH (Gl ops.toList) ops.toList vs ord=true) :
  Reg P N ops vs/\(∀i,i<vs.length->i∈ord)/\(ord.Pairwise λi j=>i≠j/\before (Gl ops.toList) j i=false/\(sT vs j=true->before (Gl ops.toList) i j=true)):=by
 obtain⟨h1,h2⟩:=cU _ hv;unfold eH at hok;simp only[Au] at hok;obtain⟨⟨⟨⟨⟨d1,d2⟩,d3⟩,_⟩,d5⟩,d6⟩:=hok;refine⟨⟨by simpa using h1,λi o ho=>h2 i o (by simpa using ho),λj o ho k hk=>?_,λi j x y k hi hj hne hx=>?_,λi j x y hi hj hne=>?_⟩,λi hi=>?_,gR ord d6⟩;·have hlt:j<ops.toList.length:=(Gi.1 ho).1;have:=AF.1 d2 j (BU.2 hlt);simp only[ho] at this;have:=AF.1 this k hk;simpa using this
 ·rcases Nat.lt_or_gt_of_ne hne with hlt|hlt;·exact Ou vs d1 i j x y k hi hj hlt hx
  ·intro hy;exact Ou vs d1 j i y x k hj hi hlt hy hx
 ·have li:i<vs.length:=(Gi.1 hi).1;have lj:j<vs.length:=(Gi.1 hj).1;have key:∀(i j:Nat) x y,vs[i]?=some x->vs[j]?=some y->i<j->before (Gl ops.toList) i j=true∨before (Gl ops.toList) j i=true∨fN x y=true:=by
   intro i j x y hi hj hlt;have li:i<vs.length:=(Gi.1 hi).1;have lj:j<vs.length:=(Gi.1 hj).1;have:=AF.1 (AF.1 d3 i (BU.2 li)) j (BU.2 lj);simp only[AW,BC,ND,hi,hj] at this;rcases this with h|(h|h)|h
   ·omega
   ·exact .inl h
   ·exact .inr (.inl h)
   ·exact .inr (.inr h)
  rcases Nat.lt_or_gt_of_ne hne with hlt|hlt;·exact key i j x y hi hj hlt
  ·rcases key j i y x hj hi hlt with h|h|h;·exact .inr (.inl h)
   ·exact .inl h
   ·refine .inr (.inr ?_);unfold fN at h ⊢;simp only[Au] at h ⊢;exact⟨h.2,h.1⟩
 ·have:=AF.1 d5 i (BU.2 hi);rw[Dd] at this;simpa using this
theorem Wv {P:Program} {N:Nat} {ops:Array Oper} {ds:List DOp} (h:Mh P N ops true=some (.drawn ds)) :
  ∃vs ord,Gw P N ops ops.toList=some vs/\eH (Gl ops.toList) ops.toList vs ord=true/\T0 (Gl ops.toList) (Hn vs) vs ord=some ds:=by
 unfold Mh at h;split at h
 ·next vs hvs=>
  simp only[Ak] at h;split at h
  ·next hok=>
   cases hd:T0 (Gl ops.toList) (Hn vs) vs (aS (Gl ops.toList) (Hn vs) vs.length) with
   |none=>simp[hd] at h
   |some ds'=>simp[hd] at h;subst h;exact⟨vs,_,hvs,hok,hd⟩
  ·cases h
 ·cases h
theorem uJ {P:Program} (hm:P.follows .mixedOrders=true) {call:Fg} (hcall:Iy P call) (hnice:Gn call) (hkeep:Hh call):oL P call:=by
 intro N id ops ds hds φ fr fr' a h h' w hfr s hcl hr;obtain⟨vs,ord,hv,hok,hd⟩:=Wv hds;obtain⟨hreg,hall,hpw⟩:=OA hv hok;obtain⟨hlen,hspec⟩:=Uh ord hd;obtain⟨evs,hi,hdd,hrun⟩:=I0 ord ds _ _ _ _ _ _ hlen hr;have hidx:=hspec evs hi hdd;obtain⟨hk1,hk2⟩:=uG evs hrun;rw[hdd] at hk1;have hsucc:=Ho (D4 ds) h.next;have hnone:∀x∈evs,(Array.replicate ops.size false).getD x.i true=false:=λx hx=>by have:x.i<vs.length:=(Gi.1 (hidx x hx).1).1;rw[hreg.len] at this;simp[this]
 have hfun:eFr (λi=>(Array.replicate ops.size false).getD i true) evs fr=fr:=gN evs fr hnone;have hhun:E0 (λi=>(Array.replicate ops.size false).getD i true) evs { h with next:=Fz h.next (D4 ds) }={ h with next:=Fz h.next (D4 ds) }:=gO evs _ hnone;have hn:({ h with next:=Fz h.next (D4 ds) }:Heap).next.toNat=h.next.toNat+D4 ds:=hsucc;refine wp_region_any hm ?_;refine mG (lo:=h.next) (hi:=Fz h.next (D4 ds)) (φ0:=φ) (g0:=h.get) (w0:=w) hcall hnice hkeep hreg (λa' w' φ' f1 s1 e1=>⟨Ae,φ',s1,e1,f1⟩) ops.size (Array.replicate ops.size false) evs h.next [] fr { h with next:=Fz h.next (D4 ds) } φ a { w with drawn:=w.drawn+1 } Ac ?_ ?_ hrun ?_ ?_
 ·refine⟨hidx,?_,?_,hk2,λx hx k b ha=>?_,Rl,gM hcl Aa⟩;·rw[<-hi,CZ] at hpw;refine List.Pairwise.imp_of_mem (λ{x y} hx hy hxy=>?_) hpw;refine⟨hxy.1,hxy.2.1,λhe=>hxy.2.2 ?_⟩;unfold sT;rw[(hidx y hy).1];simpa using he
  ·have:(Hn vs).filter (λj=>decide (∀x∈evs,x.i≠j))=[]:=by refine Cc.2 λj hj=>?_;obtain⟨o,ho,_⟩:=Se.1 hj;have hjm:=hall j (Gi.1 ho).1;rw[<-hi] at hjm;obtain⟨x,hx,rfl⟩:=Aw.1 hjm;simp only[Bk];exact λhh=>hh x hx rfl
   rw[this];simp
  ·obtain⟨e1,e2,e3⟩:=hk1 x hx k b ha;exact⟨hcl k e1,by rw[hn];exact e2,e1,Aa,e3⟩
 ·refine⟨λi hi' hn'=>?_,λx hx hl=>?_,λj o ho hl=>?_⟩;·have hjm:=hall i hi';rw[<-hi] at hjm;obtain⟨x,hx,hxi⟩:=Aw.1 hjm;exact absurd hxi (hn' x hx)
  ·have:=hnone x hx;rw[this] at hl;cases hl
  ·have hlt:j<ops.size:=by simpa using(Gi.1 ho).1
   simp[hlt] at hl
 ·refine⟨by rw[hfun];exact hfr,by rw[hhun];exact(s.up Aa).congr rfl,?_,λx hx _ k b ha=>s.fresh k (hk1 x hx k b ha).1⟩;rw[hhun,hn];refine⟨Le.refl φ,λb hb _=>hb,Aa,Rl,λr o hr _=>hr,λb x l h1 h2 h3 _=>⟨b,x,l,h1,h2,h3,rfl⟩,λb l h1 h2 _=>(by rw[h1] at h2;cases h2),rfl,rfl⟩
 ·unfold todo;refine AQ (DD _ _) ?_;have h1:evs.length=ord.length:=by rw[<-hi];simp
  have h2:ord.Nodup:=hpw.imp λh=>h.1;have h3:∀i∈ord,i<ops.size:=λi him=>by rw[<-hi] at him;obtain⟨x,hx,rfl⟩:=Aw.1 him;rw[<-hreg.len];exact(Gi.1 (hidx x hx).1).1
  rw[h1];exact Hc ops.size ord h2 h3
structure Ui (P:Program) (O:Iw):Prop where
 call:Iy P O.caller
 nice:∀f g,O f=some g->∀args,Wm (g args)
 Zf:∀f g,O f=some g->∀args h v h',g args h=some (v,h')->Clean h->Clean h'
theorem gS {P:Program} (hm:P.follows .mixedOrders=true) {F:D5} (hF:∀f vf,F f=some vf->Jf P f=some vf) {O:Iw} (hO:Ui P O):∀n,Iy P (Fh F O (exec F O n)):=by
 have hE:=Q4 (F:=F) hO.nice hO.Zf;have hKC:∀m,Hh (Fh F O (exec F O m)):=λm=>Oo hO.Zf (hE m);have hNC:∀m,Gn (Fh F O (exec F O m)):=λm=>R0 hO.nice (Q0 hO.nice m);intro n;induction n using Nat.strongRecOn with
 |_ n ih=>exact UW hF (λm=>Q3 (hKC m)) hE hO.call n λm hlt=>⟨ih m hlt,uJ hm (ih m hlt) (hNC m) (hKC m)⟩
end Go.Vm
end
section
noncomputable section
namespace Go.Pv
open Go.Vm
open Go.Vm.Key (kn)
set_option maxRecDepth 40000
set_option maxHeartbeats 0
abbrev ZM:=Key->Option Body
abbrev Ren:=Key->EE
def InZ (Z:ZM) (b:Key) (o n:Nat) (f:Nat->SV):Prop:=
 n≠0->∃c m,Z b=some (.cells c m)/\o+n<=m/\∀t,t<n->c.get (kn (o+t))=some (f t)
inductive A8 (Z:ZM):PV->SV->Prop where
 |bool (b:Bool):A8 Z (.bool b) (.bool b)
 |int (k:IntKind) (n:Int):A8 Z (.int k n) (.int k n)
 |str (l:EF):A8 Z (.str l) (.str l)
 |Iv:A8 Z .Iv .Iv
 |A4:A8 Z .A4 .A4
 |Ic:A8 Z .Ic .Ic
 |J5:A8 Z .J5 .J5
 |func (f:Nat):A8 Z (.func f [] []) (.func f [] [])
 |lst {es:Nat} {l:Eu} {cap:Option Nat} {b:Key} {o:Nat} {vcap:Option Nat} (f:Nat->SV) (hc:cap=none∨cap=vcap) (hl:∀c,vcap=some c->l.length<=c) (he:∀e∈l,e.length=es)
   (hz:InZ Z b o (l.length*es) f) (h:∀(i:Nat) (e:Ey) (j:Nat) (x:PV),l[i]?=some e->e[j]?=some x->A8 Z x (f (i*es+j))):A8 Z (.lst es l cap) (.slice b o l.length es vcap)
 |rp {l:Ey} {b:Key} {o:Nat} (f:Nat->SV) (hz:InZ Z b o l.length f) (h:∀(j:Nat) (x:PV),l[j]?=some x->A8 Z x (f j)):A8 Z (.rp l) (.ptr b o)
 |mp {ks vs:Ey} {b:Key} (f1 f2:Nat->SV) (hn:vs.length=ks.length) (hz:Z b=some (.map ((List.range ks.length).map λi=>(.s (f1 i),.s (f2 i))))) (h1:∀(i:Nat) (x:PV),ks[i]?=some x->A8 Z x (f1 i)) (h2:∀(i:Nat) (x:PV),vs[i]?=some x->A8 Z x (f2 i)):A8 Z (.mp ks vs) (.map b)
def gT (p:Ren) (x y:Key×Nat):Prop:=p x.1=some y.1/\x.2=y.2
def Gj (Z:ZM) (p:Ren):PV->SV->Prop
 |.ptr b o,s=>∃b',p b=some b'/\s=.ptr b' o
 |.slice b o len es cap,s=>∃b',p b=some b'/\s=.slice b' o len es cap
 |.map b,s=>∃b',p b=some b'/\s=.map b'
 |.func f fs cs,s=>∃fs' cs',s=.func f fs' cs'/\A1 (gT p) fs fs'/\A1 (gT p) cs cs'
 |.bool b,s=>A8 Z (.bool b) s
 |.int k n,s=>A8 Z (.int k n) s
 |.str l,s=>A8 Z (.str l) s
 |.Iv,s=>A8 Z .Iv s
 |.A4,s=>A8 Z .A4 s
 |.Ic,s=>A8 Z .Ic s
 |.J5,s=>A8 Z .J5 s
 |.lst es l cap,s=>A8 Z (.lst es l cap) s
 |.rp l,s=>A8 Z (.rp l) s
 |.mp ks vs,s=>A8 Z (.mp ks vs) s
def CR (Z:ZM) (p:Ren):PC->CV->Prop
 |.s x,.s y=>Gj Z p x y
 |.agg l,.agg m=>A1 (Gj Z p) l m
 |_,_=>False
def AR (Z:ZM) (p:Ren):PA->AV->Prop
 |.v x,.v y=>CR Z p x y
 |.tup l,.tup m=>A1 (CR Z p) l m
 |_,_=>False
def ZLe (Z Z':ZM):Prop:=∀b c,Z b=some c->Z' b=some c
def PLe (p p':Ren):Prop:=∀k b,p k=some b->p' k=some b
theorem InZ.mono {Z Z':ZM} (hz:ZLe Z Z') {b:Key} {o n:Nat} {f:Nat->SV} (h:InZ Z b o n f):InZ Z' b o n f:=by intro hn;obtain⟨c,m,h1,h2⟩:=h hn;exact⟨c,m,hz _ _ h1,h2⟩
theorem A8.mono {Z Z':ZM} (hz:ZLe Z Z') {x:PV} {s:SV} (h:A8 Z x s):A8 Z' x s:=by
 induction h with
 |bool b=>exact .bool b
 |int k n=>exact .int k n
 |str l=>exact .str l
 |Iv=>exact .Iv
 |A4=>exact .A4
 |Ic=>exact .Ic
 |J5=>exact .J5
 |func f=>exact .func f
 |lst f hc hl he h1 _ ih=>exact .lst f hc hl he (h1.mono hz) ih
 |rp f h1 _ ih=>exact .rp f (h1.mono hz) ih
 |mp f1 f2 hn h _ _ i1 i2=>exact .mp f1 f2 hn (hz _ _ h) i1 i2
theorem A8.v {Z:ZM} {p:Ren} {x:PV} {s:SV} (h:A8 Z x s):Gj Z p x s:=by
 cases h with
 |func f=>exact⟨[],[],rfl,.nil,.nil⟩
 |bool b=>exact .bool b
 |int k n=>exact .int k n
 |str l=>exact .str l
 |Iv=>exact .Iv
 |A4=>exact .A4
 |Ic=>exact .Ic
 |J5=>exact .J5
 |lst f hc hl he h1 h2=>exact .lst f hc hl he h1 h2
 |rp f h1 h2=>exact .rp f h1 h2
 |mp f1 f2 hn h h1 h2=>exact .mp f1 f2 hn h h1 h2
theorem gT.mono {p p':Ren} (hp:PLe p p') {x y:Key×Nat} (h:gT p x y):gT p' x y:=⟨hp _ _ h.1,h.2⟩
theorem Gj.mono {Z Z':ZM} {p p':Ren} (hz:ZLe Z Z') (hp:PLe p p') {x:PV} {s:SV} (h:Gj Z p x s):Gj Z' p' x s:=by
 cases x with
 |ptr b o=>obtain⟨b',e,hs⟩:=h;exact⟨b',hp _ _ e,hs⟩
 |slice b o len es cap=>obtain⟨b',e,hs⟩:=h;exact⟨b',hp _ _ e,hs⟩
 |map b=>obtain⟨b',e,hs⟩:=h;exact⟨b',hp _ _ e,hs⟩
 |func f fs cs=>obtain⟨fs',cs',e,h1,h2⟩:=h;exact⟨fs',cs',e,A9 h1 λ_ _=>gT.mono hp,A9 h2 λ_ _=>gT.mono hp⟩
 |_=>exact A8.mono hz h
theorem CR.mono {Z Z':ZM} {p p':Ren} (hz:ZLe Z Z') (hp:PLe p p') {x:PC} {s:CV} (h:CR Z p x s):CR Z' p' x s:=by
 cases x<;>cases s<;>simp only[CR] at h ⊢;·exact h.mono hz hp
 ·exact A9 h λ_ _=>Gj.mono hz hp
theorem AR.mono {Z Z':ZM} {p p':Ren} (hz:ZLe Z Z') (hp:PLe p p') {x:PA} {s:AV} (h:AR Z p x s):AR Z' p' x s:=by
 cases x<;>cases s<;>simp only[AR] at h ⊢;·exact h.mono hz hp
 ·exact A9 h λ_ _=>CR.mono hz hp
def BR (Z:ZM) (p:Ren):Hj->Body->Prop
 |.cells l,.cells c m=>m=l.length/\∀i x,l[i]?=some x->∃s,c.get (kn i)=some s/\Gj Z p x s
 |.map l,.map m=>A1 (λx y=>CR Z p x.1 y.1/\CR Z p x.2 y.2) l m
 |.iter m n st,.iter m' n' st'=>p m=some m'/\n=n'/\st=st'
 |_,_=>False
theorem BR.mono {Z Z':ZM} {p p':Ren} (hz:ZLe Z Z') (hp:PLe p p') {x:Hj} {s:Body} (h:BR Z p x s):BR Z' p' x s:=by
 cases x<;>cases s<;>simp only[BR] at h ⊢;·exact⟨h.1,λi x hx=>by obtain⟨s,h1,h2⟩:=h.2 i x hx;exact⟨s,h1,h2.mono hz hp⟩⟩
 ·exact A9 h λ_ _ hh=>⟨hh.1.mono hz hp,hh.2.mono hz hp⟩
 ·exact⟨hp _ _ h.1,h.2⟩
structure Sta where
 Z:ZM
 p:Ren
 g:A0
 h:Heap
def I4 (Z:ZM) (p:Ren) (l m:ED):Prop:=A1 (λa a'=>p a=some a') l m∨∃a a',a∈l/\p a=some a'/\Z a'≠none
theorem I4.mono {Z Z':ZM} {p p':Ren} (hz:ZLe Z Z') (hp:PLe p p') {l m:ED} (h:I4 Z p l m):I4 Z' p' l m:=by
 rcases h with h|⟨a,a',h1,h2,h3⟩;·exact .inl (A9 h λ_ _=>hp _ _)
 ·refine .inr ⟨a,a',h1,hp _ _ h2,λe=>h3 ?_⟩;cases hc:Z a' with
  |none=>rfl
  |some c=>rw[hz _ _ hc] at e;cases e
theorem I4.nil {Z:ZM} {p:Ren}:I4 Z p [] []:=.inl .nil
theorem I4.cons {Z:ZM} {p:Ren} {a a':Key} (e:p a=some a') {l m:ED} (h:I4 Z p l m):I4 Z p (a::l) (a'::m):=by
 rcases h with h|⟨b,b',h1,h2,h3⟩;·exact .inl (.cons e h)
 ·exact .inr ⟨b,b',.tail _ h1,h2,h3⟩
theorem I4.ren {Z:ZM} {p q:Ren} {μ:EC} (hq:∀a a',μ a=some a'->q a=p a') {l m n:ED} (h:A1 (λa a'=>μ a=some a') l m) (e:I4 Z p m n):I4 Z q l n:=by
 rcases e with e|⟨b,b',h1,h2,h3⟩
 ·left;induction h generalizing n with
  |nil=>cases e;exact .nil
  |cons a1 _ ih=>cases e with
   |cons a2 a3=>exact .cons (by rw[hq _ _ a1];exact a2) (ih a3)
 ·right;induction h with
  |nil=>cases h1
  |cons a1 _ ih=>
   rcases Af.1 h1 with rfl|h1;·exact⟨_,b',.head _,by rw[hq _ _ a1];exact h2,h3⟩
   ·obtain⟨c,c',e1,e2,e3⟩:=ih h1;exact⟨c,c',.tail _ e1,e2,e3⟩
structure OB (Z:ZM) (p:Ren) (b:Key) (x:B4) (y:Blk):Prop where
 body:BR Z p x.body y.body
 own:x.own=true->y.own=true/\I4 Z p x.anc y.anc
 Si:x.frz=false->Z b=none
 frz:x.frz=true->Z b=some y.body
structure Gu (s:Sta):Prop where
 inj:∀k k' b,s.p k=some b->s.p k'=some b->k=k'
 blk:∀k x,s.g.get k=some x->∃b y,s.p k=some b/\s.h.get b=some y/\OB s.Z s.p b x y
 z:∀b c,s.Z b=some c->∃y,s.h.get b=some y/\y.body=c
 dead:∀k b,s.p k=some b->s.g.get k=none->s.h.get b=none
structure Room (s:Sta):Prop where
 pk:∀k b,s.p k=some b->k.toNat<s.g.next.toNat/\b.toNat<s.h.next.toNat
 zr:∀b c,s.Z b=some c->b.toNat<s.h.next.toNat
 top:∀b:Key,s.h.next.toNat<=b.toNat->s.h.get b=none
structure Good (s:Sta):Prop extends Gu s,Room s
def Still (new:Es) (i:Nat):Prop:=∀q∈new,i<q.1∨q.1+q.2<=i
structure M6 (new:Es) (B B':Hj) (C C':Body):Prop where
 same:new=[]->B'=B/\C'=C
 kind:∀l',B'=.cells l'->∃l,B=.cells l
 cells:∀l c m,B=.cells l->C=.cells c m->∃l' c',B'=.cells l'/\C'=.cells c' m/\l'.length=l.length/\∀i,Still new i->l'[i]?=l[i]?/\c'.get (kn i)=c.get (kn i)
theorem M6.refl (B:Hj) (C:Body):M6 [] B B C C:=
 ⟨λ_=>⟨rfl,rfl⟩,λl h=>⟨l,h⟩,λl c _ h1 h2=>⟨l,c,h1,h2,rfl,λ_ _=>⟨rfl,rfl⟩⟩⟩
theorem M6.trans {new new':Es} {B B' B'':Hj} {C C' C'':Body} (h:M6 new B B' C C') (h':M6 new' B' B'' C' C''):M6 (new'++new) B B'' C C'':=by
 refine⟨λe=>?_,λl e=>(by obtain⟨l1,e1⟩:=h'.kind l e;exact h.kind l1 e1),λl c m h1 h2=>?_⟩;·simp at e;obtain⟨a,b⟩:=h.same e.2;obtain⟨a',b'⟩:=h'.same e.1;exact⟨a'.trans a,b'.trans b⟩
 ·obtain⟨l1,c1,e1,e2,e3,e4⟩:=h.cells l c m h1 h2;obtain⟨l2,c2,f1,f2,f3,f4⟩:=h'.cells l1 c1 m e1 e2;refine⟨l2,c2,f1,f2,f3.trans e3,λi hi=>?_⟩;have hi1:Still new i:=λq hq=>hi q (DF _ hq);have hi2:Still new' i:=λq hq=>hi q (CK _ hq);exact⟨(f4 i hi2).1.trans (e4 i hi1).1,(f4 i hi2).2.trans (e4 i hi1).2⟩
structure E1 (lo lov:Nat) (s s':Sta):Prop where
 nx:s.g.next.toNat<=s'.g.next.toNat/\s.h.next.toNat<=s'.h.next.toNat
 zle:ZLe s.Z s'.Z
 ple:PLe s.p s'.p
 Nk:∀k b,s'.p k=some b->s.p k=some b∨(lo<=k.toNat/\lov<=b.toNat)
 Jv:∀b c,s'.Z b=some c->s.Z b≠none∨(∃k,s.p k=some b)∨lov<=b.toNat
 frame:∀b,b.toNat<lov->(∀k,s.p k≠some b)->s'.h.get b=s.h.get b
 gone:∀k b,s.p k=some b->s.g.get k=none->s'.g.get k=none
 log:∀k x x',s.g.get k=some x->s'.g.get k=some x'->∃new,x'.log=new++x.log /\
  ∀b y,s.p k=some b->s.h.get b=some y->∃y',s'.h.get b=some y'/\M6 new x.body x'.body y.body y'.body
theorem E1.refl (lo lov:Nat) (s:Sta):E1 lo lov s s:=
 ⟨⟨Rl,Rl⟩,λ_ _ h=>h,λ_ _ h=>h,λ_ _ h=>.inl h,λb c h=>.inl (by rw[h];simp),λ_ _ _=>rfl,λ_ _ _ h=>h,
  λk x x' h h'=>by rw[h] at h';cases h';exact⟨[],rfl,λb y _ hy=>⟨y,hy,M6.refl _ _⟩⟩⟩
theorem E1.trans {lo lov lo' lov':Nat} {s s' s'':Sta} (hs:Gu s) (h:E1 lo lov s s') (h':E1 lo' lov' s' s'') (h1:lo<=lo') (h2:lov<=lov'):E1 lo lov s s'' where
 nx:=⟨AQ h.nx.1 h'.nx.1,AQ h.nx.2 h'.nx.2⟩
 zle b c e:=h'.zle b c (h.zle b c e)
 ple k b e:=h'.ple k b (h.ple k b e)
 Nk k b e:=by
  rcases h'.Nk k b e with e|e;·exact h.Nk k b e
  ·exact .inr Aa
 Jv b c e:=by
  rcases h'.Jv b c e with e|⟨k,e⟩|e
  ·cases hz:s'.Z b with
   |none=>exact absurd hz e
   |some c'=>exact h.Jv b c' hz
  ·rcases h.Nk k b e with e|e;·exact .inr (.inl ⟨k,e⟩)
   ·exact .inr (.inr e.2)
  ·exact .inr (.inr Aa)
 frame b hb hn:=by
  rw[h'.frame b Aa λk e=>?_,h.frame b hb hn];rcases h.Nk k b e with e|e
  ·exact hn k e
  ·omega
 gone k b e e':=h'.gone k b (h.ple k b e) (h.gone k b e e')
 log k x x'' hx hx'':=by
  cases hx':s'.g.get k with
  |none=>obtain⟨b,_,hb,_⟩:=hs.blk k x hx;have hb:=h.ple k b hb;rw[h'.gone k b hb hx'] at hx'';cases hx''
  |some x'=>obtain⟨n1,l1,k1⟩:=h.log k x x' hx hx';obtain⟨n2,l2,k2⟩:=h'.log k x' x'' hx' hx'';refine⟨n2++n1,by rw[l2,l1,AN],λb y hp hy=>?_⟩;obtain⟨y',e1,e2⟩:=k1 b y hp hy;obtain⟨y'',f1,f2⟩:=k2 b y' (h.ple k b hp) e1;exact⟨y'',f1,e2.trans f2⟩
section
theorem Hd (h:A0) (b:Key) (x:Option B4):(h.upd b x).get=λk=>if b=k then x else h.get k:=by funext k;exact Tr.D1 x h.mem b k
theorem Vw (h:A0) (body:Hj) (own:Bool) (anc:ED):(h.Fu body own anc).get=λk=>if h.next=k then some ⟨body,own,false,anc,[]⟩ else h.get k:=by funext k;exact Tr.D1 _ h.mem h.next k
theorem K8:∀(anc:ED) (h:A0) (k:Key),(h.E3 anc).get k=if k∈anc then none else h.get k
 |[],h,k=>by simp[A0.E3]
 |b::l,h,k=>by
  rw[A0.E3,K8 l,Hd];by_cases h1:k∈l;·simp[h1]
  ·by_cases h2:b=k;·simp[h2]
   ·simp[h1,h2,BL h2]
theorem Ml:∀(anc:ED) (h:A0),(h.E3 anc).next=h.next
 |[],_=>rfl
 |_::l,h=>by rw[A0.E3,Ml l];rfl
def tab (f:Nat->SV):Nat->EB
 |0=>[]
 |n+1=>f 0::tab (λt=>f (t+1)) n
theorem gU:∀(n:Nat) (f:Nat->SV),(tab f n).length=n
 |0,_=>rfl
 |n+1,f=>by simp[tab,gU n]
theorem bC {c:Tr SV}:∀(n o:Nat) (f:Nat->SV),(∀t,t<n->c.get (kn (o+t))=some (f t))->Nv c o n=some (tab f n)
 |0,_,_,_=>rfl
 |n+1,o,f,h=>by have h0:=h 0 Aa;rw[BI] at h0;simp only[Nv,h0,bC n (o+1) (λt=>f (t+1)) (λt ht=>by rw[<-h (t+1) Aa];congr 2;omega),tab]
theorem oR {R:PV->SV->Prop}:∀(l:Ey) (f:Nat->SV),(∀j x,l[j]?=some x->R x (f j))->A1 R l (tab f l.length)
 |[],_,_=>.nil
 |x::l,f,h=>.cons (h 0 x rfl) (oR l (λt=>f (t+1)) λj y hy=>h (j+1) y (by simpa using hy))
theorem mH:∀(n:Nat) (f g:Nat->SV),(∀t,t<n->f t=g t)->tab f n=tab g n
 |0,_,_,_=>rfl
 |n+1,f,g,h=>by rw[tab,tab,h 0 Aa,mH n _ (λt=>g (t+1)) λt ht=>h (t+1) Aa]
theorem gV:∀(n m:Nat) (f:Nat->SV),tab f (n+m)=tab f n++tab (λt=>f (n+t)) m
 |0,m,f=>by simp[tab]
 |n+1,m,f=>by rw[show n+1+m=(n+m)+1 from Aa,tab,tab,gV n m,AH];congr 2;exact mH _ _ _ λt _=>by rw[show n+t+1=n+1+t from Aa]
theorem Vx {c:Tr SV} {R:PV->SV->Prop}:∀(l:Ey) (o:Nat),(∀i x,l[i]?=some x->∃s,c.get (kn (o+i))=some s/\R x s)->∃l',Nv c o l.length=some l'/\A1 R l l'
 |[],_,_=>⟨[],rfl,.nil⟩
 |x::l,o,h=>by
  obtain⟨s,h0,hr⟩:=h 0 x rfl;rw[BI] at h0;obtain⟨l',h1,h2⟩:=Vx l (o+1) λi y hy=>by obtain⟨t,ht,hr⟩:=h (i+1) y (by simpa using hy);exact⟨t,by rw[<-ht];congr 2;omega,hr⟩
  exact⟨s::l',by simp only[Nv,Ap,h0,h1],.cons hr h2⟩
variable {s:Sta}
theorem Uj {b:Key} {l:Ey} (e:s.g.cells b=some l):∃own frz anc log,s.g.get b=some ⟨.cells l,own,frz,anc,log⟩:=by
 unfold A0.cells at e;split at e;·next h=>cases e;exact⟨_,_,_,_,h⟩
 ·cases e
theorem BR.cells {Z:ZM} {p:Ren} {l:Ey} {y:Body} (h:BR Z p (.cells l) y):∃c,y=.cells c l.length/\∀i x,l[i]?=some x->∃s,c.get (kn i)=some s/\Gj Z p x s:=by cases y<;>simp only[BR] at h;obtain⟨rfl,h⟩:=h;exact⟨_,rfl,h⟩
theorem Gu.cells (hs:Gu s) {b b':Key} (hp:s.p b=some b') {x:B4} (hx:s.g.get b=some x) {l:Ey} (hl:x.body=.cells l) :
  ∃y c,s.h.get b'=some y/\OB s.Z s.p b' x y/\y.body=.cells c l.length/\∀i v,l[i]?=some v->∃u,c.get (kn i)=some u/\Gj s.Z s.p v u:=by obtain⟨b2,y,h1,h2,h3⟩:=hs.blk b x hx;rw[hp] at h1;cases h1;have:=h3.body;rw[hl] at this;obtain⟨c,h4,h5⟩:=this.cells;exact⟨y,c,h2,h3,h4,h5⟩
theorem Mm (l:Ey) (o n i:Nat) (x:PV) (h:((l.drop o).take n)[i]?=some x):l[o+i]?=some x/\i<n:=by
 rw[AT] at h;split at h;·next hi=>rw[BF] at h;exact⟨h,hi⟩
 ·cases h
theorem Ov (hs:Gu s) {b b':Key} (hp:s.p b=some b') {o n:Nat} {l:Ey} (e:s.g.read b o n=some l):∃l',s.h.read b' o n=some l'/\A1 (Gj s.Z s.p) l l':=by
 unfold A0.read at e;split at e;·next h0=>cases e;exact⟨[],by simp[Heap.read,h0],.nil⟩
 ·next h0=>
  split at e
  ·next c hc=>
   split at e
   ·next hle=>
    cases e;obtain⟨own,frz,anc,log,hx⟩:=Uj hc;obtain⟨y,d,h1,_,h2,h3⟩:=hs.cells hp hx rfl;have hlen:((c.drop o).take n).length=n:=by simp;omega
    obtain⟨l',h4,h5⟩:=Vx (c:=d) (R:=Gj s.Z s.p) ((c.drop o).take n) o λi x hi=>by obtain⟨h,_⟩:=Mm c o n i x hi;exact h3 _ _ h
    rw[hlen] at h4;refine⟨l',?_,h5⟩;have:s.h.cells b'=some (d,c.length):=by unfold Heap.cells;obtain⟨body,own',anc'⟩:=y;simp only at h2;subst h2;rw[h1]
    simp[Heap.read,h0,this,hle,h4]
   ·cases e
  ·cases e
theorem GK (hs:Gu s) {b:Key} {c:Tr SV} {m:Nat} (hz:s.Z b=some (.cells c m)):s.h.cells b=some (c,m):=by obtain⟨⟨body,own,anc⟩,h1,h2⟩:=hs.z b _ hz;simp only at h2;subst h2;simp[Heap.cells,h1]
theorem yH (hs:Gu s) {b:Key} {o n:Nat} {f:Nat->SV} (hz:InZ s.Z b o n f) (i k:Nat) (hk:i+k<=n):s.h.read b (o+i) k=some (tab (λt=>f (i+t)) k):=by
 unfold Heap.read;by_cases h0:k=0;·subst h0;simp[tab]
 ·obtain⟨c,m,h1,h2,h3⟩:=hz Aa;rw[Ao h0,GK hs h1];simp only[Aj (show o+i+k<=m by omega)];exact bC k (o+i) _ λt ht=>by rw[<-h3 (i+t) Aa];congr 2;omega
theorem Uk {R:PV->SV->Prop} {es:Nat}:∀(l:Eu) (f:Nat->SV),(∀e∈l,e.length=es)->(∀(i:Nat) e (j:Nat) x,l[i]?=some e->e[j]?=some x->R x (f (i*es+j)))->A1 R l.flatten (tab f (l.length*es))
 |[],f,_,_=>by simp[tab]
 |e::l,f,he,h=>by
  have h1:e.length=es:=he e Ac;have h2:A1 R e (tab f es):=h1▸oR e f λj x hx=>by have:=h 0 e j x rfl hx;simpa using this
  have h3:=Uk (es:=es) l (λt=>f (es+t)) (λe' he'=>he e' (by simp[he'])) λi e' j x hi hj=>by have:=h (i+1) e' j x (by simpa using hi) hj;rw[show(i+1)*es+j=es+(i*es+j) from by rw[Bg];omega] at this;exact this
  rw[Eb,Ap,show(l.length+1)*es=es+l.length*es from by rw[Bg];omega,gV];exact D0 h2 h3
theorem A8.lJ {Z:ZM} {es:Nat} {l:Eu} {cap:Option Nat} {v:SV} (h:A8 Z (.lst es l cap) v):∃b o vcap f,v=.slice b o l.length es vcap/\(cap=none∨cap=vcap)/\(∀c,vcap=some c->l.length<=c) /\
  (∀e∈l,e.length=es)/\InZ Z b o (l.length*es) f/\∀(i:Nat) (e:Ey) (j:Nat) (x:PV),l[i]?=some e->e[j]?=some x->A8 Z x (f (i*es+j)):=by
 cases h with
 |lst f hc hl he hz h=>exact⟨_,_,_,f,rfl,hc,hl,he,hz,h⟩
theorem A8.rp' {Z:ZM} {l:Ey} {v:SV} (h:A8 Z (.rp l) v):∃b o f,v=.ptr b o/\InZ Z b o l.length f/\∀(j:Nat) (x:PV),l[j]?=some x->A8 Z x (f j):=by
 cases h with
 |rp f hz h=>exact⟨_,_,f,rfl,hz,h⟩
theorem eI (hs:Gu s) {es:Nat} {x:PV} {v:SV} (hv:Gj s.Z s.p x v) {l:Ey} {n:Nat} (e:Yv s.g es x=some (l,n)):∃l',Il s.h es v=some (l',n)/\A1 (Gj s.Z s.p) l l':=by
 unfold Yv at e;split at e;·cases e;cases hv;exact⟨[],rfl,.nil⟩
 ·obtain⟨b',hp,rfl⟩:=hv;split at e
  ·next he=>
   split at e
   ·next l0 hr=>
    cases e;obtain⟨l',h1,h2⟩:=Ov hs hp hr;exact⟨l',by simp only[Il,Aj he,h1],h2⟩
   ·cases e
  ·cases e
 ·split at e
  ·next he=>
   cases e;subst he;obtain⟨b,o,vcap,f,rfl,_,_,he,hz,h⟩:=A8.lJ hv;have:=yH hs hz 0 _ (Nat.le_of_eq (AO _));rw[BI] at this;refine⟨_,by simp only[Il,Ak,this];rfl,?_⟩;simp only[AO];exact Uk _ f he λi e j x hi hj=>(h i e j x hi hj).v
  ·cases e
 ·split at e
  ·next he=>
   cases e;cases hv;exact⟨_,by simp only[Il,Aj he],Qh _ _ _ λn _=>A8.int .u8 n⟩
  ·cases e
 ·cases e
def Ren.set (p:Ren) (k b:Key):Ren:=λj=>if k=j then some b else p j
theorem Ren.D6 (p:Ren) (k b:Key):p.set k b k=some b:=by simp[Ren.set]
theorem Ren.Gm (p:Ren) {k j:Key} (b:Key) (h:k≠j):p.set k b j=p j:=by simp[Ren.set,h]
structure Xk (s:Sta) (k b:Key):Prop where
 k:s.p k=none
 z:s.Z b=none
 b:∀j,s.p j≠some b
theorem Xk.le {k b:Key} (hf:Xk s k b):PLe s.p (s.p.set k b):=by
 intro j c e;by_cases h:k=j;·subst h;rw[hf.k] at e;cases e
 ·rw[Ren.Gm _ _ h];exact e
theorem Good.free (hs:Good s):Xk s s.g.next s.h.next:=by
 refine⟨?_,?_,λj e=>?_⟩
 ·cases h:s.p s.g.next with
  |none=>rfl
  |some b=>have:=(hs.pk _ _ h).1;omega
 ·cases h:s.Z s.h.next with
  |none=>rfl
  |some c=>have:=hs.zr _ _ h;omega
 ·have:=(hs.pk _ _ e).2;omega
def Sta.new (s:Sta) (body:Hj) (own:Bool) (anc:ED) (y:Blk):Sta:=⟨s.Z,s.p.set s.g.next s.h.next,s.g.Fu body own anc,s.h.Fu y⟩
theorem GL (hs:Gu s) (hf:Xk s s.g.next s.h.next) {body:Hj} {own:Bool} {anc:ED} {y:Blk} (hb:BR s.Z (s.p.set s.g.next s.h.next) body y.body)
  (ho:own=true->y.own=true/\I4 s.Z s.p anc y.anc):Gu (s.new body own anc y) where
 inj k k' b h1 h2:=by
  simp only[Sta.new] at h1 h2;by_cases e1:s.g.next=k
  ·subst e1;rw[Ren.D6] at h1;cases h1;by_cases e2:s.g.next=k';·exact e2
   ·rw[Ren.Gm _ _ e2] at h2;exact absurd h2 (hf.b _)
  ·rw[Ren.Gm _ _ e1] at h1;by_cases e2:s.g.next=k';·subst e2;rw[Ren.D6] at h2;cases h2;exact absurd h1 (hf.b _)
   ·rw[Ren.Gm _ _ e2] at h2;exact hs.inj k k' b h1 h2
 blk k x hx:=by
  simp only[Sta.new] at hx ⊢;rw[Vw] at hx;by_cases e:s.g.next=k;·subst e;simp only[Ak,Sj] at hx;subst hx;refine⟨s.h.next,y,Ren.D6 _ _ _,by rw[Gt];simp,hb,λe=>?_,λ_=>hf.z,λe=>by cases e⟩;exact⟨(ho e).1,(ho e).2.mono (λ_ _ h=>h) hf.le⟩
  ·simp only[e,Ag] at hx;obtain⟨b,z,h1,h2,h3⟩:=hs.blk k x hx;have hne:s.h.next≠b:=λe=>hf.b k (e▸h1);refine⟨b,z,by rw[Ren.Gm _ _ e];exact h1,by rw[Gt];simp[hne,h2],h3.body.mono (λ_ _ h=>h) hf.le,λe=>?_,h3.Si,h3.frz⟩;exact⟨(h3.own e).1,(h3.own e).2.mono (λ_ _ h=>h) hf.le⟩
 z b c h:=by
  simp only[Sta.new] at h ⊢;have hne:s.h.next≠b:=λe=>by rw[<-e,hf.z] at h;cases h
  rw[Gt];simp only[hne,Ag];exact hs.z b c h
 dead k b h1 h2:=by
  simp only[Sta.new] at h1 h2 ⊢;rw[Vw] at h2;by_cases e:s.g.next=k;·simp[e] at h2
  ·simp only[e,Ag] at h2;rw[Ren.Gm _ _ e] at h1;have hne:s.h.next≠b:=λe=>hf.b k (e▸h1);rw[Gt];simp only[hne,Ag];exact hs.dead k b h1 h2
theorem OC (hs:Room s) {body:Hj} {own:Bool} {anc:ED} {y:Blk}:Room (s.new body own anc y) where
 pk k b h:=by
  simp only[Sta.new,A0.Fu,Heap.Fu,Key.toNat_succ] at h ⊢;by_cases e:s.g.next=k;·subst e;rw[Ren.D6] at h;cases h;omega
  ·rw[Ren.Gm _ _ e] at h;have:=hs.pk k b h;omega
 zr b c h:=by simp only[Sta.new,Heap.Fu,Key.toNat_succ] at h ⊢;have:=hs.zr b c h;omega
 top b h:=by
  simp only[Sta.new] at h ⊢;have h:s.h.next.succ.toNat<=b.toNat:=h;rw[Key.toNat_succ] at h;have hne:s.h.next≠b:=by rintro rfl;omega
  rw[Gt];simp only[hne,Ag];exact hs.top b Aa
theorem GM (hs:Gu s) (hf:Xk s s.g.next s.h.next) {body:Hj} {own:Bool} {anc:ED} {y:Blk}:E1 s.g.next.toNat s.h.next.toNat s (s.new body own anc y) where
 nx:=by simp[Sta.new,A0.Fu,Heap.Fu,Key.toNat_succ]
 zle _ _ h:=h
 ple:=hf.le
 Nk k b h:=by
  simp only[Sta.new] at h;by_cases e:s.g.next=k;·subst e;rw[Ren.D6] at h;cases h;exact .inr ⟨Rl,Rl⟩
  ·rw[Ren.Gm _ _ e] at h;exact .inl h
 Jv b c h:=.inl (by simp only[Sta.new] at h;rw[h];simp)
 frame b hb _:=by
  simp only[Sta.new];have hne:s.h.next≠b:=by rintro rfl;omega
  rw[Gt];simp[hne]
 gone k b h1 h2:=by
  simp only[Sta.new];have hne:s.g.next≠k:=by rintro rfl;rw[hf.k] at h1;cases h1
  rw[Vw];simp[hne,h2]
 log k x x' h1 h2:=by
  simp only[Sta.new] at h2 ⊢;obtain⟨b,y0,h3,h4,_⟩:=hs.blk k x h1;have hne:s.g.next≠k:=by rintro rfl;rw[hf.k] at h3;cases h3
  rw[Vw] at h2;simp only[hne,Ag,h1,Sj] at h2;subst h2;refine⟨[],rfl,λb y1 hb hy=>⟨y1,?_,M6.refl _ _⟩⟩;have hne':s.h.next≠b:=λe=>hf.b k (e▸hb);rw[Gt];simp[hne',hy]
theorem Mz (hs:Good s) {body:Hj} {own:Bool} {anc:ED} {y:Blk} (hb:BR s.Z (s.p.set s.g.next s.h.next) body y.body)
  (ho:own=true->y.own=true/\I4 s.Z s.p anc y.anc):Good (s.new body own anc y)/\E1 s.g.next.toNat s.h.next.toNat s (s.new body own anc y):=
 ⟨⟨GL hs.toGu hs.free hb ho,OC hs.toRoom⟩,GM hs.toGu hs.free⟩
theorem BR.list {Z:ZM} {p:Ren} {l:Ey} {l':EB} (h:A1 (Gj Z p) l l'):BR Z p (.cells l) (Body.ofList l'):=by refine⟨(A5 h).symm,λi x hx=>?_⟩;obtain⟨v,h1,h2⟩:=D3 h i hx;refine⟨v,?_,h2⟩;rw[Tr.Ge,Aj ⟨Aa,by rw[AO];exact(Gi.1 h1).1⟩];simpa using h1
theorem Xl {g:A0}:∀{l:ED},g.Xe l=false->∀k∈l,∀x,g.get k=some x->x.frz=false
 |[],_,_,hk=>by cases hk
 |b::l,h,k,hk=>by
  intro x hx;simp only[A0.Xe,Bool.or_eq_false_iff] at h;rcases Af.1 hk with rfl|hk
  ·rw[hx] at h;exact h.1
  ·exact Xl h.2 k hk x hx
theorem Ki {α β:Type} {R:α->β->Prop} {l:List α} {m:List β} (h:A1 R l m):∀b∈m,∃a∈l,R a b:=by
 induction h with
 |nil=>intro b hb;cases hb
 |cons h _ ih=>
  intro b hb;rcases Af.1 hb with rfl|hb
  ·exact⟨_,Ac,h⟩
  ·obtain⟨a,h1,h2⟩:=ih b hb;exact⟨a,by simp[h1],h2⟩
theorem bD {α β:Type} {R:α->β->Prop} {l:List α} {m:List β} (h:A1 R l m):∀a∈l,∃b∈m,R a b:=by
 induction h with
 |nil=>intro b hb;cases hb
 |cons h _ ih=>
  intro b hb;rcases Af.1 hb with rfl|hb
  ·exact⟨_,Ac,h⟩
  ·obtain⟨a,h1,h2⟩:=ih b hb;exact⟨a,by simp[h1],h2⟩
theorem I4.all (hs:Gu s) {l m:ED} (h:I4 s.Z s.p l m) (hn:s.g.Xe l=false):A1 (λa a'=>s.p a=some a') l m:=by
 rcases h with h|⟨a,a',h1,h2,h3⟩;·exact h
 ·cases hz:s.Z a' with
  |none=>exact absurd hz h3
  |some c=>
   obtain⟨y,hy,_⟩:=hs.z _ _ hz;cases hg:s.g.get a with
   |none=>rw[hs.dead a a' h2 hg] at hy;cases hy
   |some x=>obtain⟨b,z,e1,_,e3⟩:=hs.blk a x hg;rw[h2] at e1;cases e1;exact absurd (e3.Si (Xl hn a h1 x hg)) h3
theorem gW (hs:Gu s) {anc:ED} {anc':ED} (ha:A1 (λa a'=>s.p a=some a') anc anc') (hn:s.g.Xe anc=false) {b b':Key} (hp:s.p b=some b') (hzb:s.Z b'=none)
  {x':Option B4} {y':Option Blk} (hxy:match x' with
   |some x=>∃y,y'=some y/\BR s.Z s.p x.body y.body/\y.own=true/\y.anc=[]/\x.anc=[]/\x.frz=false
   |none=>y'=none) :
  Gu ⟨s.Z,s.p,(s.g.E3 anc).upd b x',(s.h.E3 anc').upd b' y'⟩ where
 inj:=hs.inj
 blk k x hx:=by
  simp only at hx ⊢;rw[Hd] at hx;by_cases e:b=k;·subst e;simp only[Ak] at hx;subst hx;obtain⟨y,h1,h2,h3,h4,h5,h6⟩:=hxy;refine⟨b',y,hp,by rw[D1];simp[h1],h2,λ_=>⟨h3,by rw[h4,h5];exact .nil⟩,λ_=>hzb,λh=>by rw[h6] at h;cases h⟩
  ·simp only[e,Ag] at hx;rw[K8] at hx;split at hx;·cases hx
   ·next hk=>
    obtain⟨c,y,h1,h2,h3⟩:=hs.blk k x hx;have hne:b'≠c:=λe'=>e (hs.inj b k c (e'▸hp) h1);have hnm:c∉anc':=λhm=>by obtain⟨a,h4,h5⟩:=Ki ha c hm;exact hk (hs.inj a k c h5 h1▸h4)
    exact⟨c,y,h1,by rw[D1];simp[hne,H7,hnm,h2],h3⟩
 z c body hc:=by
  simp only at hc ⊢;have hne:b'≠c:=λe=>by rw[<-e,hzb] at hc;cases hc
  have hnm:c∉anc':=λhm=>by
   obtain⟨a,h4,h5⟩:=Ki ha c hm;obtain⟨y,h6,_⟩:=hs.z c body hc;cases hg:s.g.get a with
   |none=>rw[hs.dead a c h5 hg] at h6;cases h6
   |some x=>obtain⟨c2,_,h7,_,h8⟩:=hs.blk a x hg;rw[h5] at h7;cases h7;rw[h8.Si (Xl hn a h4 x hg)] at hc;cases hc
  rw[D1];simp only[hne,Ag,H7,hnm];exact hs.z c body hc
 dead k c h1 h2:=by
  simp only at h1 h2 ⊢;rw[Hd] at h2;rw[D1];by_cases e:b=k;·subst e;rw[hp] at h1;cases h1;simp only[Ak] at h2 ⊢;subst h2;exact hxy
  ·simp only[e,Ag] at h2;have hne:b'≠c:=λe'=>e (hs.inj b k c (e'▸hp) h1);simp only[hne,Ag];rw[H7];rw[K8] at h2;split at h2
   ·next hk=>
    obtain⟨a',h3,h4⟩:=bD ha k hk;rw[h1] at h4;cases h4;simp[h3]
   ·split;·rfl
    ·exact hs.dead k c h1 h2
theorem gX (hs:Gu s) {lo lov:Nat} {anc:ED} {anc':ED} (ha:A1 (λa a'=>s.p a=some a') anc anc') {b b':Key} (hp:s.p b=some b')
  {x':Option B4} {y':Option Blk} (hx:∃x,s.g.get b=some x)
  (hlog:∀x x1,s.g.get b=some x->x'=some x1->∃new,x1.log=new++x.log/\∀y,s.h.get b'=some y->∃y1,y'=some y1/\M6 new x.body x1.body y.body y1.body) :
  E1 lo lov s ⟨s.Z,s.p,(s.g.E3 anc).upd b x',(s.h.E3 anc').upd b' y'⟩ where
 nx:=by simp[A0.upd,Heap.upd,Ml,Gc]
 zle _ _ h:=h
 ple _ _ h:=h
 Nk _ _ h:=.inl h
 Jv b c h:=.inl (by simp only at h;rw[h];simp)
 frame c hc hn:=by
  simp only;have hne:b'≠c:=λe=>hn b (e▸hp);have hnm:c∉anc':=λhm=>by obtain⟨a,_,h5⟩:=Ki ha c hm;exact hn a h5
  rw[D1];simp[hne,H7,hnm]
 gone k c h1 h2:=by
  simp only;rw[Hd];by_cases e:b=k;·subst e;obtain⟨x,hx⟩:=hx;rw[hx] at h2;cases h2
  ·simp only[e,Ag];rw[K8];split;·rfl
   ·exact h2
 log k x x1 h1 h2:=by
  simp only at h2 ⊢;rw[Hd] at h2;by_cases e:b=k;·subst e;simp only[Ak] at h2;obtain⟨new,h3,h4⟩:=hlog x x1 h1 h2;refine⟨new,h3,λc y hc hy=>?_⟩;rw[hp] at hc;cases hc;obtain⟨y1,h5,h6⟩:=h4 y hy;exact⟨y1,by rw[D1];simp[h5],h6⟩
  ·simp only[e,Ag] at h2;rw[K8] at h2;split at h2;·cases h2
   ·next hk=>
    rw[h1] at h2;cases h2;refine⟨[],rfl,λc y hc hy=>⟨y,?_,M6.refl _ _⟩⟩;have hne:b'≠c:=λe'=>e (hs.inj b k c (e'▸hp) hc);have hnm:c∉anc':=λhm=>by obtain⟨a,h4,h5⟩:=Ki ha c hm;exact hk (hs.inj a k c h5 hc▸h4)
    rw[D1];simp[hne,H7,hnm,hy]
theorem bF (hs:Room s) {anc anc':ED} {b b':Key} (hp:s.p b=some b') {x':Option B4} {y':Option Blk}:Room ⟨s.Z,s.p,(s.g.E3 anc).upd b x',(s.h.E3 anc').upd b' y'⟩:=by
 refine⟨λk c h=>?_,λc body h=>?_,λc h=>?_⟩;·have:=hs.pk k c h;simpa[A0.upd,Heap.upd,Ml,Gc] using this
 ·have:=hs.zr c body h;simpa[Heap.upd,Gc] using this
 ·have h:s.h.next.toNat<=c.toNat:=by simpa[Heap.upd,Gc] using h
  have hlt:=(hs.pk b b' hp).2;have hne:b'≠c:=by rintro rfl;omega
  simp only;rw[D1];simp only[hne,Ag];rw[H7];split;·rfl
  ·exact hs.top c h
theorem cW {c:Ey} {o:Nat} {l:Ey} (h:o+l.length<=c.length):(A0.over c o l).length=c.length:=by simp[A0.over];omega
theorem uK {c:Ey} {o:Nat} {l:Ey} (h:o+l.length<=c.length) (i:Nat):(A0.over c o l)[i]?=if o<=i/\i<o+l.length then l[i-o]? else c[i]?:=by
 unfold A0.over;rw[AN];have h0:(c.take o).length=o:=by simp;omega
 by_cases h1:i<o;·rw[Ao Aa,Ai Aa,AT,Aj h1]
 ·rw[Am Aa,h0];by_cases h2:i<o+l.length;·rw[Aj ⟨Aa,h2⟩,Ai Aa]
  ·rw[Ao Aa,Am Aa,BF];congr 1;omega
theorem BR.over {Z:ZM} {p:Ren} {c:Ey} {d:Tr SV} {o:Nat} {l:Ey} {l':EB} (h:o+l.length<=c.length)
  (hd:∀i x,c[i]?=some x->∃s,d.get (kn i)=some s/\Gj Z p x s) (hl:A1 (Gj Z p) l l'):BR Z p (.cells (A0.over c o l)) (.cells (d.G8 o l') c.length):=by
 have hlen:=A5 hl;refine⟨(cW h).symm,λi x hx=>?_⟩;rw[uK h] at hx;rw[Tr.Ge,<-hlen];split
 ·next hi=>
  rw[Aj hi] at hx;obtain⟨v,h1,h2⟩:=D3 hl _ hx;exact⟨v,h1,h2⟩
 ·next hi=>rw[Ao hi] at hx;exact hd i x hx
theorem bG (hs:Good s) {lo lov:Nat} {b b':Key} (hp:s.p b=some b') {o:Nat} {l:Ey} {l':EB} (hl:A1 (Gj s.Z s.p) l l') {g':A0} (e:s.g.write b o l=some g') :
  ∃h',s.h.write b' o l'=some h'/\Good ⟨s.Z,s.p,g',h'⟩/\E1 lo lov s ⟨s.Z,s.p,g',h'⟩:=by
 unfold A0.write at e;split at e
 ·next c anc log hx=>
  split at e
  ·next hc=>
   cases e;obtain⟨hc,hn⟩:=hc;obtain⟨⟨body,own,anc'⟩,d,h1,h2,h3,h4⟩:=hs.cells hp hx rfl;simp only at h3;obtain⟨ho,ha⟩:=h2.own rfl;simp only at ho ha;replace ha:=ha.all hs.toGu hn;subst h3;subst ho;have hlen:=A5 hl;refine⟨_,by simp only[Heap.write,h1];rw[Aj Aa],?_,?_⟩;·exact⟨gW hs.toGu ha hn hp (h2.Si rfl) ⟨_,rfl,BR.over hc h4 hl,rfl,rfl,rfl,rfl⟩,bF hs.toRoom hp⟩
   ·refine gX hs.toGu ha hp ⟨_,hx⟩ λx x1 hx0 hx1=>?_;rw[hx] at hx0;cases hx0;cases hx1;refine⟨[(o,l.length)],rfl,λy hy=>?_⟩;rw[h1] at hy;cases hy;refine⟨_,rfl,λh=>Ad,λ_ _=>⟨c,rfl⟩,λl0 c0 m e1 e2=>?_⟩;cases e1;cases e2;refine⟨_,_,rfl,rfl,cW hc,λi hi=>?_⟩;have:=hi (o,l.length) Ac;simp only at this;rw[uK hc,Ao Aa,Tr.Ge,Ao Aa];exact⟨rfl,rfl⟩
  ·cases e
 ·cases e
theorem gY {Z:ZM} {p:Ren} {c:Ey} {d:Tr SV} (hd:∀i x,c[i]?=some x->∃s,d.get (kn i)=some s/\Gj Z p x s) {o k:Nat} {new:Ey} {new':EB} (hl:A1 (Gj Z p) new new')
  {body:Hj} (e:A0.copied c o k new=some body):o+k<=c.length/\∃body',Heap.copied d c.length o k new'=some body'/\BR Z p body body':=by
 unfold A0.copied at e;split at e
 ·next hle=>
  cases e;refine⟨hle,?_⟩;have hlen:=A5 hl;have htl:((c.drop o).take k).length=k:=by simp;omega
  have hex:∃body',Heap.copied d c.length o k new'=some body':=by
   unfold Heap.copied;rw[Aj hle];split;·exact⟨_,rfl⟩
   ·obtain⟨l',h1,_⟩:=Vx (c:=d) (R:=Gj Z p) ((c.drop o).take k) o λi x hi=>by obtain⟨h,_⟩:=Mm c o k i x hi;exact hd _ _ h
    rw[htl] at h1;rw[h1];exact⟨_,rfl⟩
  obtain⟨body',hb⟩:=hex;refine⟨body',hb,?_⟩;obtain⟨_,c',rfl,h2,h3⟩:=Mw hb;refine⟨by simp only[La,htl,hlen],λi x hx=>?_⟩;by_cases hi:i<k;·rw[Ai Aa] at hx;rw[h2 i hi];exact hd _ _ (Mm c o k i x hx).1
  ·rw[Am Aa,htl] at hx;obtain⟨v,h4,h5⟩:=D3 hl _ hx;have:i-k<new'.length:=(Gi.1 h4).1;refine⟨v,?_,h5⟩;rw[<-h4,<-h3 (i-k) this];congr 2;omega
 ·cases e
theorem KH (hs:Good s) {b b':Key} (hp:s.p b=some b') {o k:Nat} {new:Ey} {new':EB} (hl:A1 (Gj s.Z s.p) new new') {c:Key} {g':A0} (e:s.g.renew b o k new=some (c,g')) :
  ∃h' p',s.h.renew b' o k new'=some (s.h.next,h')/\c=s.g.next/\Good ⟨s.Z,p',g',h'⟩/\E1 s.g.next.toNat s.h.next.toNat s ⟨s.Z,p',g',h'⟩/\p' c=some s.h.next:=by
 unfold A0.renew at e;split at e
 ·next h0=>
  cases e;obtain⟨h1,h2⟩:=Mz hs (body:=.cells new) (own:=true) (anc:=[]) (y:=⟨Body.ofList new',true,[]⟩) (BR.list (A9 hl λ_ _ h=>h.mono (λ_ _ h=>h) hs.free.le)) λ_=>⟨rfl,.nil⟩;exact⟨_,_,by simp[Heap.renew,h0,Heap.new],rfl,h1,h2,Ren.D6 _ _ _⟩
 ·next h0=>
  split at e
  ·next c0 hc=>
   split at e
   ·next body hb=>
    cases e;obtain⟨own,frz,anc,log,hx⟩:=Uj hc;obtain⟨⟨body0,own',anc'⟩,d,h1,h2,h3,h4⟩:=hs.cells hp hx rfl;simp only at h3;subst h3;obtain⟨_,body',h5,h6⟩:=gY h4 hl hb;obtain⟨h7,h8⟩:=Mz hs (body:=body) (own:=true) (anc:=[]) (y:=⟨body',true,[]⟩) (h6.mono (λ_ _ h=>h) hs.free.le) λ_=>⟨rfl,.nil⟩;exact⟨_,_,by simp[Heap.renew,h0,Heap.cells,h1,h5,Heap.new],rfl,h7,h8,Ren.D6 _ _ _⟩
   ·cases e
  ·cases e
theorem KI (hs:Gu s) {b b':Key} (hp:s.p b=some b') {x:B4} {y:Blk} (hx:s.g.get b=some x) (hy:s.h.get b'=some y) :
  Gu ⟨s.Z,s.p,s.g.upd b (some { x with own:=false }),s.h.upd b' (some { y with own:=false })⟩ where
 inj:=hs.inj
 blk k x1 h1:=by
  simp only at h1 ⊢;rw[Hd] at h1;by_cases e:b=k;·subst e;simp only[Ak,Sj] at h1;subst h1;obtain⟨c,y1,h2,h3,h4⟩:=hs.blk b x hx;rw[hp] at h2;cases h2;rw[hy] at h3;cases h3;exact⟨b',{ y with own:=false },hp,by rw[D1];simp,h4.body,λh=>Ad,h4.Si,h4.frz⟩
  ·simp only[e,Ag] at h1;obtain⟨c,y1,h2,h3,h4⟩:=hs.blk k x1 h1;have hne:b'≠c:=λe'=>e (hs.inj b k c (e'▸hp) h2);exact⟨c,y1,h2,by rw[D1];simp[hne,h3],h4⟩
 z c body hc:=by
  simp only at hc ⊢;obtain⟨y1,h1,h2⟩:=hs.z c body hc;rw[D1];by_cases e:b'=c;·subst e;rw[hy] at h1;cases h1;exact⟨{ y with own:=false },Ac,h2⟩
  ·simp only[e,Ag];exact⟨y1,h1,h2⟩
 dead k c h1 h2:=by
  simp only at h1 h2 ⊢;rw[Hd] at h2;by_cases e:b=k;·simp[e] at h2
  ·simp only[e,Ag] at h2;have hne:b'≠c:=λe'=>e (hs.inj b k c (e'▸hp) h1);rw[D1];simp only[hne,Ag];exact hs.dead k c h1 h2
theorem KJ (hs:Gu s) {lo lov:Nat} {b b':Key} (hp:s.p b=some b') {x:B4} {y:Blk} (hx:s.g.get b=some x) (hy:s.h.get b'=some y) :
  E1 lo lov s ⟨s.Z,s.p,s.g.upd b (some { x with own:=false }),s.h.upd b' (some { y with own:=false })⟩ where
 nx:=by simp[A0.upd,Heap.upd]
 zle _ _ h:=h
 ple _ _ h:=h
 Nk _ _ h:=.inl h
 Jv b c h:=.inl (by simp only at h;rw[h];simp)
 frame c hc hn:=by simp only;have hne:b'≠c:=λe=>hn b (e▸hp);rw[D1];simp[hne]
 gone k c h1 h2:=by
  simp only;rw[Hd];by_cases e:b=k;·subst e;rw[hx] at h2;cases h2
  ·simp[e,h2]
 log k x0 x1 h1 h2:=by
  simp only at h2 ⊢;rw[Hd] at h2;by_cases e:b=k;·subst e;rw[hx] at h1;cases h1;simp only[Ak,Sj] at h2;subst h2;refine⟨[],rfl,λc y1 hc hy1=>?_⟩;rw[hp] at hc;cases hc;rw[hy] at hy1;cases hy1;exact⟨{ y with own:=false },by rw[D1];simp,M6.refl _ _⟩
  ·simp only[e,Ag] at h2;rw[h1] at h2;cases h2;refine⟨[],rfl,λc y1 hc hy1=>⟨y1,?_,M6.refl _ _⟩⟩;have hne:b'≠c:=λe'=>e (hs.inj b k c (e'▸hp) hc);rw[D1];simp[hne,hy1]
theorem uM (hs:Good s) {b b':Key} (hp:s.p b=some b') {o k:Nat} {new:Ey} {new':EB} (hl:A1 (Gj s.Z s.p) new new') {c:Key} {g':A0} (e:s.g.grow b o k new=some (c,g')) :
  ∃h' p',s.h.grow b' o k new'=some (s.h.next,h')/\c=s.g.next/\Good ⟨s.Z,p',g',h'⟩/\E1 s.g.next.toNat s.h.next.toNat s ⟨s.Z,p',g',h'⟩/\p' c=some s.h.next:=by
 unfold A0.grow at e;split at e
 ·next c0 frz anc log hx=>
  split at e
  ·next body hb=>
   obtain⟨⟨body0,own',anc'⟩,d,h1,h2,h3,h4⟩:=hs.cells hp hx rfl;simp only at h3;subst h3;obtain⟨ho,ha⟩:=h2.own rfl;simp only at ho ha;subst ho;obtain⟨_,body',h5,h6⟩:=gY h4 hl hb;split at e
   ·next ht=>
    cases e;have g1:Good ⟨s.Z,s.p,s.g.upd b (some ⟨.cells c0,false,frz,anc,log⟩),s.h.upd b' (some ⟨.cells d c0.length,false,anc'⟩)⟩:=
     ⟨KI hs.toGu hp hx h1,⟨hs.pk,hs.zr,λc hc=>by
      have hlt:=(hs.pk b b' hp).2
      have hc:s.h.next.toNat<=c.toNat:=hc
      have hne:b'≠c:=by rintro rfl;omega
      simp only
      rw[D1];simp only[hne,Ag]
      exact hs.top c hc⟩⟩
    have g2:=KJ hs.toGu (lo:=s.g.next.toNat) (lov:=s.h.next.toNat) hp hx h1;obtain⟨h7,h8⟩:=Mz g1 (body:=body) (own:=true) (anc:=b::anc) (y:=⟨body',true,b'::anc'⟩) (h6.mono (λ_ _ h=>h) g1.free.le) λ_=>⟨rfl,.cons hp ha⟩;exact⟨_,_,by simp only[Heap.grow,h1,h5];rw[Aj ht],rfl,h7,g2.trans hs.toGu h8 Rl Rl,Ren.D6 _ _ _⟩
   ·next ht=>
    split at e
    ·next hf=>
     cases e;obtain⟨hf,hn⟩:=hf;replace ha:=ha.all hs.toGu hn;have g1:Good ⟨s.Z,s.p,(s.g.E3 anc).upd b none,(s.h.E3 anc').upd b' none⟩:=⟨gW hs.toGu ha hn hp (h2.Si hf) rfl,bF hs.toRoom hp⟩;have g2:=gX hs.toGu (lo:=s.g.next.toNat) (lov:=s.h.next.toNat) ha hp (x':=none) (y':=none) ⟨_,hx⟩ λx x1 _ h=>Ad;obtain⟨h7,h8⟩:=Mz g1 (body:=body) (own:=true) (anc:=[]) (y:=⟨body',true,[]⟩) (h6.mono (λ_ _ h=>h) g1.free.le) λ_=>⟨rfl,.nil⟩;have n1:((s.g.E3 anc).upd b none).next=s.g.next:=by simp[A0.upd,Ml]
     have n2:((s.h.E3 anc').upd b' none).next=s.h.next:=by simp[Heap.upd,Gc]
     refine⟨_,_,by simp only[Heap.grow,h1,h5];rw[Ao ht],rfl,h7,g2.trans hs.toGu h8 ?_ ?_,?_⟩;·rw[n1];exact Rl
     ·rw[n2];exact Rl
     ·have:=Ren.D6 s.p ((s.g.E3 anc).upd b none).next ((s.h.E3 anc').upd b' none).next;rw[n2] at this;rw[n1] at this ⊢;rw[n2];exact this
    ·cases e
  ·cases e
 ·cases e
end
section
variable {Z:ZM} {p:Ren}
theorem AR.s {x:PV} {y:AV} (h:AR Z p (.v (.s x)) y):∃z,y=.v (.s z)/\Gj Z p x z:=by
 cases y with
 |v y=>cases y with
  |s z=>exact⟨z,rfl,h⟩
  |agg l=>exact absurd h id
 |tup l=>exact absurd h id
theorem AR.agg {x:Ey} {y:AV} (h:AR Z p (.v (.agg x)) y):∃z,y=.v (.agg z)/\A1 (Gj Z p) x z:=by
 cases y with
 |v y=>cases y with
  |s z=>exact absurd h id
  |agg l=>exact⟨l,rfl,h⟩
 |tup l=>exact absurd h id
theorem AR.cv {x:PC} {y:AV} (h:AR Z p (.v x) y):∃z,y=.v z/\CR Z p x z:=by
 cases y with
 |v y=>exact⟨y,rfl,h⟩
 |tup l=>exact absurd h id
theorem AR.tup' {x:List PC} {y:AV} (h:AR Z p (.tup x) y):∃z,y=.tup z/\A1 (CR Z p) x z:=by
 cases y with
 |v y=>exact absurd h id
 |tup l=>exact⟨l,rfl,h⟩
theorem CR.cells {x:PC} {y:CV} (h:CR Z p x y):A1 (Gj Z p) x.cells y.cells:=by
 cases x<;>cases y<;>simp only[CR] at h;·exact .cons h .nil
 ·exact h
theorem A1.one {α β:Type} {R:α->β->Prop} {a:α} {m:List β} (h:A1 R [a] m):∃b,m=[b]/\R a b:=by cases h with|cons h t=>cases t;exact⟨_,rfl,h⟩
theorem A1.two {α β:Type} {R:α->β->Prop} {a a':α} {m:List β} (h:A1 R [a,a'] m):∃b b',m=[b,b']/\R a b/\R a' b':=by cases h with|cons h t=>obtain⟨_,rfl,h'⟩:=A1.one t;exact⟨_,_,rfl,h,h'⟩
theorem A1.three {α β:Type} {R:α->β->Prop} {a a' a'':α} {m:List β} (h:A1 R [a,a',a''] m):∃b b' b'',m=[b,b',b'']/\R a b/\R a' b'/\R a'' b'':=by cases h with|cons h t=>obtain⟨_,_,rfl,h',h''⟩:=A1.two t;exact⟨_,_,_,rfl,h,h',h''⟩
theorem A8.Ul {k:IntKind} {n:Int} {y:SV} (h:A8 Z (.int k n) y):y=.int k n:=by cases h;rfl
theorem A8.Zg {b:Bool} {y:SV} (h:A8 Z (.bool b) y):y=.bool b:=by cases h;rfl
theorem A8.yI {l:EF} {y:SV} (h:A8 Z (.str l) y):y=.str l:=by cases h;rfl
theorem A8.mI {y:SV} (h:A8 Z .Iv y):y=.Iv:=by cases h;rfl
theorem A8.Ta {y:SV} (h:A8 Z .A4 y):y=.A4:=by cases h;rfl
theorem A8.Ww {y:SV} (h:A8 Z .Ic y):y=.Ic:=by cases h;rfl
theorem A8.GN {y:SV} (h:A8 Z .J5 y):y=.J5:=by cases h;rfl
theorem AR.mkS {x:PV} {z:SV} (h:Gj Z p x z):AR Z p (.v (.s x)) (.v (.s z)):=h
theorem AR.mkG {x:Ey} {z:EB} (h:A1 (Gj Z p) x z):AR Z p (.v (.agg x)) (.v (.agg z)):=h
theorem AR.mkV {x:PC} {z:CV} (h:CR Z p x z):AR Z p (.v x) (.v z):=h
theorem AR.mkT {x:List PC} {z:List CV} (h:A1 (CR Z p) x z):AR Z p (.tup x) (.tup z):=h
theorem Um {x:SV} {v:PV} (h:Rr x=some v):A8 Z v x:=by unfold Rr at h;split at h<;>cases h<;>constructor
theorem Nr:∀{x:EB} {v:Ey},Ny x=some v->A1 (Gj Z p) v x
 |[],v,h=>by cases h;exact .nil
 |a::l,v,h=>by
  unfold Ny at h;split at h
  ·next y hy=>
   split at h;·next ys hys=>cases h;exact .cons (Um hy).v (Nr hys)
   ·cases h
  ·cases h
theorem Zh {x:CV} {v:PC} (h:lF x=some v):CR Z p v x:=by
 unfold lF at h;split at h
 ·split at h;·next hy=>cases h;exact(Um hy).v
  ·cases h
 ·split at h;·next hy=>cases h;exact Nr hy
  ·cases h
theorem uN {x:AV} {v:PA} (h:JL x=some v):AR Z p v x:=by
 unfold JL at h;split at h
 ·split at h;·next hy=>cases h;exact Zh hy
  ·cases h
 ·cases h
theorem toSV_rel {v:PV} {x u:SV} (h:toSV v=some x) (hv:Gj Z p v u):u=x:=by
 unfold toSV at h;split at h<;>cases h;·exact(A8.Zg hv)
 ·exact(A8.Ul hv)
 ·exact(A8.yI hv)
theorem toSVs_rel:∀{v:Ey} {x u:EB},toSVs v=some x->A1 (Gj Z p) v u->u=x
 |[],x,u,h,hv=>by cases h;cases hv;rfl
 |a::l,x,u,h,hv=>by
  unfold toSVs at h;cases hv with
  |cons h1 h2=>
  split at h
  ·next y hy=>
   split at h;·next ys hys=>cases h;rw[toSV_rel hy h1,toSVs_rel hys h2]
   ·cases h
  ·cases h
theorem toCV_rel {v:PC} {x u:CV} (h:toCV v=some x) (hv:CR Z p v u):u=x:=by
 unfold toCV at h;split at h
 ·split at h
  ·next hy=>
   cases h;cases u with
   |s u=>rw[toSV_rel hy hv]
   |agg l=>exact absurd hv id
  ·cases h
 ·split at h
  ·next hy=>
   cases h;cases u with
   |s u=>exact absurd hv id
   |agg l=>rw[toSVs_rel hy hv]
  ·cases h
def Ko (f:Ez->A0->PR) (r:EA->Heap->R):Prop:=∀s:Sta,Gu s->∀(args:Ez) (vs:EA) (v:PA) (g':A0),A1 (AR s.Z s.p) args vs->f args s.g=some (v,g') ->
 g'=s.g/\∃u,r vs s.h=some (u,s.h)/\AR s.Z s.p v u
theorem Acp:Ko UK MY:=by
 intro s hs args vs v g' ha e;unfold UK at e;split at e;·obtain⟨y,rfl,h⟩:=A1.one ha;cases e;exact⟨rfl,_,rfl,h⟩
 ·cases e
theorem Aa4:Ko FU FP:=by
 intro s hs args vs v g' ha e;unfold FU at e;split at e;·obtain⟨c,a,b,rfl,h1,h2,h3⟩:=A1.three ha;obtain⟨z,rfl,hz⟩:=h1.s;cases(A8.Zg hz);cases e;refine⟨rfl,_,rfl,?_⟩;split<;>assumption
 ·cases e
theorem oS:∀{ps:Es} {cs:Ey} {cs':EB} {xs:Ez} {ys:EA} {r:Ey},A1 (Gj Z p) cs cs'->A1 (AR Z p) xs ys->dU cs ps xs=some r ->
  ∃r',Mu cs' ps ys=some r'/\A1 (Gj Z p) r r'
 |[],cs,cs',xs,ys,r,hc,hx,e=>by
  cases xs with
  |nil=>cases hx;simp only[dU,Sj] at e;subst e;exact⟨_,rfl,hc⟩
  |cons x l=>simp[dU] at e
 |(o,n)::ps,cs,cs',xs,ys,r,hc,hx,e=>by
  cases xs with
  |nil=>simp[dU] at e
  |cons x l=>
   cases hx with
   |cons h1 h2=>
   cases x with
   |tup _=>simp[dU] at e
   |v x=>
    obtain⟨y,rfl,hy⟩:=h1.cv;simp only[dU] at e;split at e
    ·next hle=>
     have hl:=A5 hy.cells;have hl':=A5 hc;obtain⟨r',h3,h4⟩:=oS (cs':=cs'.take o++y.cells++cs'.drop (o+n)) (by
      unfold A0.over
      rw[hle.1]
      exact D0 (D0 (Gs _ hc) hy.cells) (Gh _ hc)) h2 e
     refine⟨r',?_,h4⟩;simp only[Mu];rw[Aj ⟨Aa,Aa⟩];exact h3
    ·cases e
theorem UX (zero:EB) (places:Es):Ko (fJ zero places) (fG zero places):=by
 intro s hs args vs v g' ha e;unfold fJ at e;split at e
 ·next z hz=>
  split at e
  ·next cs hcs=>
   cases e;obtain⟨r',h1,h2⟩:=oS (Nr hz) ha hcs;exact⟨rfl,_,by simp only[fG,h1],.mkG h2⟩
  ·cases e
 ·cases e
theorem UY:Ko Qc Kk:=by
 intro s hs args vs v g' ha e;unfold Qc at e;split at e
 ·obtain⟨y,rfl,h⟩:=A1.one ha;obtain⟨z,rfl,b',hp,rfl⟩:=h.s;split at e
  ·next x hr=>
   cases e;obtain⟨l',h1,h2⟩:=Ov hs hp hr;obtain⟨w,rfl,h3⟩:=A1.one h2;exact⟨rfl,_,by simp only[Kk,h1],.mkS h3⟩
  ·cases e
 ·next x l=>
  obtain⟨y,rfl,h⟩:=A1.one ha;obtain⟨z,rfl,hz⟩:=h.s;obtain⟨b,o,f,rfl,h1,h2⟩:=A8.rp' hz;cases e;have:=yH hs h1 0 1 Ac;simp only[BI,tab] at this;exact⟨rfl,_,by simp only[Kk,this],.mkS (h2 0 _ rfl).v⟩
 ·cases e
theorem OD {l:Ey} {n:Nat} {f:Nat->SV} (hn:n<=l.length) (h:∀(j:Nat) (x:PV),l[j]?=some x->A8 Z x (f j)):A1 (Gj Z p) (l.take n) (tab f n):=by
 have:=oR (R:=Gj Z p) (l.take n) f λj x hx=>by
  rw[AT] at hx;split at hx;·exact(h j x hx).v
  ·cases hx
 rw[show(l.take n).length=n by simp;omega] at this;exact this
theorem UZ (n:Nat):Ko (Km n) (Kl n):=by
 intro s hs args vs v g' ha e;unfold Km at e;split at e
 ·obtain⟨y,rfl,h⟩:=A1.one ha;obtain⟨z,rfl,b',hp,rfl⟩:=h.s;split at e
  ·next x hr=>
   cases e;obtain⟨l',h1,h2⟩:=Ov hs hp hr;exact⟨rfl,_,by simp only[Kl,h1],.mkG h2⟩
  ·cases e
 ·next l=>
  obtain⟨y,rfl,h⟩:=A1.one ha;obtain⟨z,rfl,hz⟩:=h.s;obtain⟨b,o,f,rfl,h1,h2⟩:=A8.rp' hz;split at e
  ·next hn=>
   cases e;have:=yH hs h1 0 n Aa;simp only[BI,AO] at this;exact⟨rfl,_,by simp only[Kl,this],.mkG (OD hn h2)⟩
  ·cases e
 ·cases e
theorem OE:Ko Pb eB:=by
 intro s hs args vs v g' ha e;unfold Pb at e;split at e;·obtain⟨y,rfl,h⟩:=A1.one ha;obtain⟨z,rfl,b',hp,rfl⟩:=h.s;cases e;exact⟨rfl,_,rfl,h⟩
 ·obtain⟨y,rfl,h⟩:=A1.one ha;obtain⟨z,rfl,hz⟩:=h.s;obtain⟨b,o,f,rfl,h1,h2⟩:=A8.rp' hz;cases e;exact⟨rfl,_,rfl,h⟩
 ·obtain⟨y,rfl,h⟩:=A1.one ha;obtain⟨z,rfl,fs',cs',rfl,h1,h2⟩:=h.s;cases e;exact⟨rfl,_,rfl,h⟩
 ·cases e
theorem VA {b:BinOp} {x y v:PV} {x' y':SV} (hx:Gj Z p x x') (hy:Gj Z p y y') (e:dS b x y=some v):∃r,Ym b x' y'=some r/\Gj Z p v r:=by
 unfold dS at e;split at e
 ·cases(A8.Ul hx);cases(A8.Ul hy);split at e;·next r hr=>exact⟨r,by simp only[Ym];exact hr,(Um e).v⟩
  ·cases e
 ·cases(A8.yI hx);cases(A8.yI hy);split at e;·next r hr=>exact⟨r,by simp only[Ym];exact hr,(Um e).v⟩
  ·cases e
 ·cases e
theorem Acq (b:BinOp):Ko (Td b) (MZ b):=by
 intro s hs args vs v g' ha e;unfold Td at e;split at e
 ·next x y=>
  obtain⟨x',y',rfl,h1,h2⟩:=A1.two ha;obtain⟨x',rfl,h1⟩:=h1.s;obtain⟨y',rfl,h2⟩:=h2.s;cases hb:dS b x y with
  |none=>simp[hb,Hv] at e
  |some w=>simp only[hb,Hv,Sj,Pj] at e;obtain⟨rfl,rfl⟩:=e;obtain⟨r,h3,h4⟩:=VA h1 h2 hb;exact⟨rfl,_,by simp only[MZ,h3,Hs],.mkS h4⟩
 ·cases e
theorem Aa5 {k:EqK} {x y:PC} {r:Bool} {x' y':CV} (hx:CR Z p x x') (hy:CR Z p y y') (e:eqP k x y=some r):UH k x' y'=some r:=by
 have key:∀{a:PV} {c:CV},CR Z p (.s a) c->∃z,c=.s z/\Gj Z p a z:=by
  intro a c h;cases c with
  |s z=>exact⟨z,rfl,h⟩
  |agg l=>exact absurd h id
 unfold eqP at e;split at e;case h_18 ks a b=>
  cases x' with
  |s _=>exact absurd hx id
  |agg a'=>
   cases y' with
   |s _=>exact absurd hy id
   |agg b'=>
    split at e;·next a2 b2 h1 h2=>rw[toSVs_rel h1 hx,toSVs_rel h2 hy];exact e
    ·cases e
 case h_19=>cases e
 all_goals
  obtain⟨x',rfl,hx⟩:=key hx
  obtain⟨y',rfl,hy⟩:=key hy
 case h_1=>cases(A8.Zg hx);cases(A8.Zg hy);exact e
 case h_2=>cases(A8.mI hx);cases(A8.mI hy);exact e
 case h_3=>cases(A8.mI hx);obtain⟨_,_,rfl⟩:=hy;exact e
 case h_4=>cases(A8.mI hy);obtain⟨_,_,rfl⟩:=hx;exact e
 case h_5=>cases(A8.mI hx);obtain⟨_,_,_,rfl,_⟩:=A8.rp' hy;exact e
 case h_6=>cases(A8.mI hy);obtain⟨_,_,_,rfl,_⟩:=A8.rp' hx;exact e
 case h_7=>cases(A8.Ta hx);cases(A8.Ta hy);exact e
 case h_8=>cases(A8.Ta hx);obtain⟨_,_,rfl⟩:=hy;exact e
 case h_9=>cases(A8.Ta hy);obtain⟨_,_,rfl⟩:=hx;exact e
 case h_10=>cases(A8.Ta hx);obtain⟨_,_,_,_,rfl,_⟩:=A8.lJ hy;exact e
 case h_11=>cases(A8.Ta hy);obtain⟨_,_,_,_,rfl,_⟩:=A8.lJ hx;exact e
 case h_12=>cases(A8.Ww hx);cases(A8.Ww hy);exact e
 case h_13=>cases(A8.Ww hx);obtain⟨_,_,rfl⟩:=hy;exact e
 case h_14=>cases(A8.Ww hy);obtain⟨_,_,rfl⟩:=hx;exact e
 case h_15=>cases(A8.GN hx);cases(A8.GN hy);exact e
 case h_16=>cases(A8.GN hx);obtain⟨_,_,rfl,_⟩:=hy;exact e
 case h_17=>cases(A8.GN hy);obtain⟨_,_,rfl,_⟩:=hx;exact e
theorem eq_q (neg:Bool) (k:EqK):Ko (pEq neg k) (rEq neg k):=by
 intro s hs args vs v g' ha e;unfold pEq at e;split at e
 ·obtain⟨x',y',rfl,h1,h2⟩:=A1.two ha;obtain⟨x',rfl,h1⟩:=h1.cv;obtain⟨y',rfl,h2⟩:=h2.cv;split at e
  ·next r hr=>
   cases e;exact⟨rfl,_,by simp only[rEq,Aa5 h1 h2 hr],.mkS (A8.bool _)⟩
  ·cases e
 ·cases e
theorem un_q (u:UnOp):Ko (pUn u) (rUn u):=by
 intro s hs args vs v g' ha e;unfold pUn at e;split at e
 ·next x=>
  obtain⟨x',rfl,h1⟩:=A1.one ha;obtain⟨x',rfl,h1⟩:=h1.s;cases hb:unP u x with
  |none=>simp[hb,Hv] at e
  |some w=>
   simp only[hb,Hv,Sj,Pj] at e;obtain⟨rfl,rfl⟩:=e;unfold unP at hb;split at hb
   ·next y hy=>
    split at hb
    ·next r hr=>
     cases toSV_rel hy h1;exact⟨rfl,_,by simp only[rUn,hr,Hs],.mkS (Um hb).v⟩
    ·cases hb
   ·cases hb
 ·cases e
theorem Aa6 (k:IntKind):Ko (FV k) (FQ k):=by
 intro s hs args vs v g' ha e;unfold FV at e;split at e;·obtain⟨x',rfl,h1⟩:=A1.one ha;obtain⟨x',rfl,h1⟩:=h1.s;cases(A8.Ul h1);cases e;exact⟨rfl,_,rfl,.mkS (A8.int _ _)⟩
 ·cases e
theorem uO:∀{xs:Ez} {ys:EA} {l:List (Key×Nat)},A1 (AR Z p) xs ys->sN xs=some l->∃l',xK ys=some l'/\A1 (gT p) l l'
 |[],ys,l,h,e=>by cases h;cases e;exact⟨[],rfl,.nil⟩
 |x::xs,ys,l,h,e=>by
  unfold sN at e;split at e;·next h0=>cases h0
  ·next h0=>
   cases h0;cases h with
   |cons h1 h2=>
   split at e
   ·next r hr=>
    cases e;obtain⟨z,rfl,b',hp,rfl⟩:=h1.s;obtain⟨l',h3,h4⟩:=uO h2 hr;exact⟨(b',_)::l',by simp only[xK,h3],.cons ⟨hp,rfl⟩ h4⟩
   ·cases e
  ·cases e
theorem OF (f n:Nat):Ko (Yw f n) (Yr f n):=by
 intro s hs args vs v g' ha e;unfold Yw at e;split at e
 ·next l hl=>
  cases e;obtain⟨l',h1,h2⟩:=uO ha hl;exact⟨rfl,_,by simp only[Yr,h1],.mkS ⟨_,_,rfl,Gs _ h2,Gh _ h2⟩⟩
 ·cases e
theorem oT {b:Bool} {xs:Ez} {ys:EA} (h:A1 (AR Z p) xs ys) {a:Option Int} {xs':Ez} (e:xO b xs=some (a,xs')):∃ys',Xc b ys=some (a,ys')/\A1 (AR Z p) xs' ys':=by
 unfold xO at e;split at e;·cases e;exact⟨ys,rfl,h⟩
 ·cases e;cases h with
  |cons h1 h2=>
  obtain⟨z,rfl,hz⟩:=h1.s;cases(A8.Ul hz);exact⟨_,rfl,h2⟩
 ·cases e
theorem VB {lo hi mx:Bool} {xs:Ez} {ys:EA} (h:A1 (AR Z p) xs ys) {bs:Option Int×Option Int×Option Int} (e:NA lo hi mx xs=some bs):Yn lo hi mx ys=some bs:=by
 unfold NA at e;split at e
 ·next a xs1 h1=>
  obtain⟨ys1,h2,h3⟩:=oT h h1;split at e
  ·next b xs2 h4=>
   obtain⟨ys2,h5,h6⟩:=oT h3 h4;split at e
   ·next c h7=>
    cases e;obtain⟨ys3,h8,h9⟩:=oT h6 h7;cases h9;simp only[Yn,h2,h5,h8]
   ·cases e
  ·cases e
 ·cases e
theorem yJ {x:Option Int} {top d m:Nat} (h:bnd x top d=some m):(x=none/\m=d)∨(∃v,x=some v/\0<=v/\v<=(top:Int)/\m=v.toNat):=by
 unfold bnd at h;split at h;·cases h;exact .inl ⟨rfl,rfl⟩
 ·next v=>
  split at h;·next hv=>cases h;exact .inr ⟨v,rfl,hv.1,hv.2,rfl⟩
  ·cases h
theorem OG (top d:Nat):bnd none top d=some d:=rfl
theorem uP {v:Int} {top:Nat} (d:Nat) (h:0<=v) (h':v<=(top:Int)):bnd (some v) top d=some v.toNat:=by simp[bnd,h,h']
theorem uQ {len:Nat} {bs:Option Int×Option Int×Option Int} {i n:Nat} {c0:Option Nat} (e:bounds len none bs=some (i,n,c0)) {vcap:Option Nat} (hv:∀c,vcap=some c->len<=c) :
  i+n<=len/\∃vc,bounds len vcap bs=some (i,n,vc)/\(∀m,bs.2.2=some m->vc=some (m.toNat-i))/\(bs.2.2=none->vc=vcap.map (·-i)):=by
 obtain⟨lo,hi,mx⟩:=bs;have hge:len<=vcap.getD len:=by
  cases vcap with
  |none=>simp
  |some c=>simpa using hv c rfl
 unfold bounds at e ⊢;simp only[DH,DZ,Dp] at e ⊢;cases h1:bnd mx len len with
 |none=>simp[h1] at e
 |some m=>
  simp only[h1] at e;cases h2:bnd hi m len with
  |none=>simp[h2] at e
  |some h=>
   simp only[h2] at e;cases h3:bnd lo h 0 with
   |none=>simp[h3] at e
   |some l=>
    simp only[h3,Sj,Pj] at e;obtain⟨rfl,rfl,_⟩:=e;have hm:=yJ h1;have hh:=yJ h2;have hl:=yJ h3;have hmlen:m<=len:=by
     rcases hm with⟨_,rfl⟩|⟨v,_,h4,h5,rfl⟩;·omega
     ·omega
    have hhlen:h<=len:=by
     rcases hh with⟨_,rfl⟩|⟨v,_,h4,h5,rfl⟩;·omega
     ·omega
    have hlh:l<=h:=by
     rcases hl with⟨_,rfl⟩|⟨v,_,h4,h5,rfl⟩;·omega
     ·omega
    refine⟨Aa,?_⟩;rcases hm with⟨rfl,rfl⟩|⟨v,rfl,h4,h5,rfl⟩
    ·rw[OG];have:bnd hi (vcap.getD m) m=some h:=by
      rcases hh with⟨rfl,rfl⟩|⟨v,rfl,h4,h5,rfl⟩;·rfl
      ·exact uP _ h4 Aa
     simp only[this,h3];refine⟨_,rfl,λm hm=>(by cases hm),λ_=>?_⟩;cases vcap with
     |none=>rfl
     |some c=>simp
    ·rw[uP _ h4 Aa];simp only[h2,h3];refine⟨_,rfl,λm hm=>?_,λh=>Ad⟩;cases hm;simp
theorem OH {es:Nat} {l:Eu} {b:Key} {o:Nat} {f:Nat->SV} (he:∀e∈l,e.length=es) (hz:InZ Z b o (l.length*es) f)
  (h:∀(i:Nat) (e:Ey) (j:Nat) (x:PV),l[i]?=some e->e[j]?=some x->A8 Z x (f (i*es+j))) {i n:Nat} (hin:i+n<=l.length) {cap vcap:Option Nat} (hc:cap=none∨cap=vcap) (hl:∀c,vcap=some c->n<=c) :
  A8 Z (.lst es ((l.drop i).take n) cap) (.slice b (o+i*es) n es vcap):=by
 have hlen:((l.drop i).take n).length=n:=by simp;omega
 have:=A8.lst (Z:=Z) (es:=es) (l:=(l.drop i).take n) (cap:=cap) (b:=b) (o:=o+i*es) (vcap:=vcap) (λt=>f (i*es+t)) hc (by rw[hlen];exact hl)
  (λe he'=>he e (DM (Bq he'))) (by
   rw[hlen]
   intro hn
   have hle:(i+n)*es<=l.length*es:=AZ _ hin
   rw[Bg] at hle
   obtain⟨c,m,h1,h2,h3⟩:=hz Aa
   refine⟨c,m,h1,Aa,λt ht=>?_⟩
   rw[<-h3 (i*es+t) Aa];congr 2;omega) (λi' e j x hi hj=>by
   rw[AT] at hi
   split at hi
   ·rw[BF] at hi
    have:=h (i+i') e j x hi hj
    rw[Bg,Nat.add_assoc] at this
    exact this
   ·cases hi)
 rw[hlen] at this;exact this
theorem mJ {es:Nat} {x v:PV} {x':SV} {bs:Option Int×Option Int×Option Int} (hx:Gj Z p x x') (e:Lx es x bs=some v):∃r,Nf es x' bs=some r/\Gj Z p v r:=by
 unfold Lx at e;split at e
 ·cases(A8.Ta hx);split at e;·next hb=>cases e;exact⟨.A4,by simp only[Nf,hb],A8.A4⟩
  ·cases e
 ·obtain⟨b',hp,rfl⟩:=hx;split at e
  ·next he=>
   split at e;·next hb=>cases e;exact⟨_,by simp only[Nf,Aj he,hb],b',hp,rfl⟩
   ·cases e
  ·cases e
 ·next l cap=>
  obtain⟨b,o,vcap,f,rfl,hc,hl,he,hz,h⟩:=A8.lJ hx;split at e
  ·next hes=>
   subst hes;split at e
   ·next i n c0 hb=>
    split at e
    ·next hcap=>
     cases e;obtain⟨hin,vc,h1,h2,h3⟩:=uQ hb hl;refine⟨.slice b (o+i*es) n es vc,by simp only[Nf,Ak,h1],?_⟩;apply A8.v (p:=p);have hcc:Rs i cap bs.2.2=none∨Rs i cap bs.2.2=vc:=by
      cases hm:bs.2.2 with
      |some m=>exact .inr (by simp only[Rs];rw[h2 m hm])
      |none=>
       simp only[Rs];cases cap with
       |none=>exact .inl rfl
       |some c=>
        refine .inr ?_;rw[h3 hm];rcases hc with hc|hc
        ·cases hc
        ·rw[<-hc];rfl
     refine OH he hz h hin hcc λc hvc=>?_;rcases hcc with hcc|hcc
     ·cases hm:bs.2.2 with
      |some m=>rw[hm] at hcc;simp[Rs] at hcc
      |none=>
       rw[h3 hm] at hvc;cases vcap with
       |none=>cases hvc
       |some c'=>simp at hvc;have:=hl c' rfl;omega
     ·rw[hcc,hvc] at hcap;simpa[K4] using hcap
    ·cases e
   ·cases e
  ·cases e
 ·cases e
theorem VC (k:SlK) (lo hi mx:Bool):Ko (aO k lo hi mx) (Qa k lo hi mx):=by
 intro s hs args vs v g' ha e;unfold aO at e;split at e
 ·next x xs=>
  cases ha with
  |cons h1 h2=>
  split at e
  ·next bs hbs=>
   have hb:=VB h2 hbs;split at e
   ·obtain⟨z,rfl,hz⟩:=h1.s;cases(A8.yI hz);split at e;·cases e
    ·next hmx=>
     split at e;·next hbo=>cases e;exact⟨rfl,_,by simp only[Qa,hb];rw[Ao hmx];simp only[hbo],.mkS (A8.str _)⟩
     ·cases e
   ·next es y=>
    obtain⟨z,rfl,hz⟩:=h1.s;cases hsl:Lx es y bs with
    |none=>simp[hsl,Hv] at e
    |some w=>simp only[hsl,Hv,Sj,Pj] at e;obtain⟨rfl,rfl⟩:=e;obtain⟨r,h3,h4⟩:=mJ hz hsl;exact⟨rfl,_,by simp only[Qa,hb,h3,Hs],.mkS h4⟩
   ·next n es b o=>
    obtain⟨z,rfl,b',hp,rfl⟩:=h1.s;cases hsl:Lx es (.slice b o n es (some n)) bs with
    |none=>simp[hsl,Hv] at e
    |some w=>simp only[hsl,Hv,Sj,Pj] at e;obtain⟨rfl,rfl⟩:=e;obtain⟨r,h3,h4⟩:=mJ (Z:=s.Z) (p:=s.p) (x':=.slice b' o n es (some n)) (show Gj s.Z s.p (.slice b o n es (some n)) _ from⟨b',hp,rfl⟩) hsl;exact⟨rfl,_,by simp only[Qa,hb,h3,Hs],.mkS h4⟩
   ·cases e
  ·cases e
 ·cases e
theorem GO {l:Ey} {b:Key} {o:Nat} {f:Nat->SV} (hz:InZ Z b o l.length f) (h:∀(j:Nat) (x:PV),l[j]?=some x->A8 Z x (f j)) (n:Nat) (hn:n<=l.length):A8 Z (.rp (l.drop n)) (.ptr b (o+n)):=by
 refine A8.rp (λt=>f (n+t)) (λh0=>?_) λj x hj=>?_;·simp only[Cr] at h0 ⊢;obtain⟨c,m,h1,h2,h3⟩:=hz Aa;exact⟨c,m,h1,Aa,λt ht=>by rw[<-h3 (n+t) Aa];congr 2;omega⟩
 ·rw[BF] at hj;exact h _ x hj
theorem VD (off:Nat):Ko (Xf off) (nY off):=by
 intro s hs args vs v g' ha e;unfold Xf at e;split at e;·obtain⟨y,rfl,h⟩:=A1.one ha;obtain⟨z,rfl,b',hp,rfl⟩:=h.s;cases e;exact⟨rfl,_,rfl,.mkS ⟨b',hp,rfl⟩⟩
 ·obtain⟨y,rfl,h⟩:=A1.one ha;obtain⟨z,rfl,hz⟩:=h.s;obtain⟨b,o,f,rfl,h1,h2⟩:=A8.rp' hz;split at e;·next hn=>cases e;exact⟨rfl,_,rfl,.mkS (GO h1 h2 off hn).v⟩
  ·cases e
 ·cases e
theorem uR {cs:Ey} {cs':EB} (h:A1 (Gj Z p) cs cs') {o:Nat} {m:Option Nat} {r:PC} (e:cJ cs o m=some r):∃r',Xb cs' o m=some r'/\CR Z p r r':=by
 unfold cJ at e;split at e
 ·split at e
  ·next x hx=>
   cases e;obtain⟨y,h1,h2⟩:=D3 h _ hx;exact⟨.s y,by simp only[Xb,h1],h2⟩
  ·cases e
 ·next n=>
  split at e
  ·next hn=>
   cases e;have:=A5 h;exact⟨.agg ((cs'.drop o).take n),by simp only[Xb];rw[Aj Aa],Gs _ (Gh _ h)⟩
  ·cases e
theorem VE (off:Nat) (n:Option Nat):Ko (aP off n) (fH off n):=by
 intro s hs args vs v g' ha e;unfold aP at e;split at e
 ·next cs=>
  obtain⟨y,rfl,h⟩:=A1.one ha;obtain⟨z,rfl,hz⟩:=h.agg;cases hp:cJ cs off n with
  |none=>simp[hp,noP] at e
  |some w=>simp only[hp,noP,Sj,Pj] at e;obtain⟨rfl,rfl⟩:=e;obtain⟨r,h3,h4⟩:=uR hz hp;exact⟨rfl,_,by simp only[fH,h3,M5],.mkV h4⟩
 ·cases e
theorem Aa7 (n es:Nat):Ko (FW n es) (fI n es):=by
 intro s hs args vs v g' ha e;unfold FW at e;split at e
 ·obtain⟨y,i',rfl,h,hi⟩:=A1.two ha;obtain⟨z,rfl,b',hp,rfl⟩:=h.s;obtain⟨i',rfl,hi⟩:=hi.s;cases(A8.Ul hi);split at e;·next hc=>cases e;exact⟨rfl,_,by simp only[fI];rw[Aj hc],.mkS ⟨b',hp,rfl⟩⟩
  ·cases e
 ·obtain⟨y,i',rfl,h,hi⟩:=A1.two ha;obtain⟨z,rfl,hz⟩:=h.s;obtain⟨i',rfl,hi⟩:=hi.s;cases(A8.Ul hi);obtain⟨b,o,f,rfl,h1,h2⟩:=A8.rp' hz;split at e;·next hc=>cases e;exact⟨rfl,_,by simp only[fI];rw[Aj ⟨hc.1,hc.2.1⟩],.mkS (GO h1 h2 _ hc.2.2).v⟩
  ·cases e
 ·cases e
theorem Acr (es:Nat):Ko (nZ es) (xN es):=by
 intro s hs args vs v g' ha e;unfold nZ at e;split at e
 ·obtain⟨y,i',rfl,h,hi⟩:=A1.two ha;obtain⟨z,rfl,b',hp,rfl⟩:=h.s;obtain⟨i',rfl,hi⟩:=hi.s;cases(A8.Ul hi);split at e;·next hc=>cases e;exact⟨rfl,_,by simp only[xN];rw[Aj hc],.mkS ⟨b',hp,rfl⟩⟩
  ·cases e
 ·next es' l _ k i=>
  obtain⟨y,i',rfl,h,hi⟩:=A1.two ha;obtain⟨z,rfl,hz⟩:=h.s;obtain⟨i',rfl,hi⟩:=hi.s;cases(A8.Ul hi);obtain⟨b,o,vcap,f,rfl,_,_,he,hz,h⟩:=A8.lJ hz;split at e
  ·next hc=>
   split at e
   ·next el hel=>
    cases e;obtain⟨hlt,_⟩:=Gi.1 hel;obtain⟨hes,h0⟩:=hc;subst hes;have hlen:el.length=es:=he el (Aq hel);refine⟨rfl,_,by simp only[xN,true_and];rw[Aj ⟨h0,Aa⟩],.mkS (A8.v ?_)⟩;refine A8.rp (λt=>f (i.toNat*es+t)) (λhn=>?_) λj x hj=>h _ _ _ _ hel hj;rw[hlen] at hn ⊢;have hle:(i.toNat+1)*es<=l.length*es:=AZ _ hlt;rw[Bg,Ce] at hle;obtain⟨c,m,h1,h2,h3⟩:=hz Aa;exact⟨c,m,h1,Aa,λt ht=>by rw[<-h3 (i.toNat*es+t) Aa];congr 2;omega⟩
   ·cases e
  ·cases e
 ·cases e
theorem Acs (n es:Nat) (m:Option Nat):Ko (UL n es m) (JK n es m):=by
 intro s hs args vs v g' ha e;unfold UL at e;split at e
 ·next cs _ i=>
  obtain⟨y,i',rfl,h,hi⟩:=A1.two ha;obtain⟨z,rfl,hz⟩:=h.agg;obtain⟨i',rfl,hi⟩:=hi.s;cases(A8.Ul hi);split at e
  ·next hc=>
   cases hp:cJ cs (i.toNat*es) m with
   |none=>simp[hp,noP] at e
   |some w=>simp only[hp,noP,Sj,Pj] at e;obtain⟨rfl,rfl⟩:=e;obtain⟨r,h3,h4⟩:=uR hz hp;exact⟨rfl,_,by simp only[JK];rw[Aj hc];simp only[h3,M5],.mkV h4⟩
  ·cases e
 ·cases e
theorem Aa8:Ko FX lR:=by
 intro s hs args vs v g' ha e;unfold FX at e;split at e
 ·obtain⟨y,i',rfl,h,hi⟩:=A1.two ha;obtain⟨z,rfl,hz⟩:=h.s;obtain⟨i',rfl,hi⟩:=hi.s;cases(A8.Ul hi);cases(A8.yI hz);split at e
  ·next hc=>
   split at e;·next n hn=>cases e;exact⟨rfl,_,by simp only[lR];rw[Aj hc];simp only[hn],.mkS (A8.int _ _)⟩
   ·cases e
  ·cases e
 ·cases e
theorem CR.s' {x:PV} {y:CV} (h:CR Z p (.s x) y):∃z,y=.s z/\Gj Z p x z:=by
 cases y with
 |s z=>exact⟨z,rfl,h⟩
 |agg l=>exact absurd h id
theorem Zi {ks:Lp} {k:PC} {k':CV} (h:CR Z p k k'):Io ks k=Kf ks k':=by
 cases k<;>cases k'<;>simp only[CR] at h;·cases ks<;>rfl
 ·cases ks;·rfl
  ·simp[Io,Kf,A5 h]
theorem Vy {ks:Lp} {x y:PC} {x' y':CV} (hx:CR Z p x x') (hy:CR Z p y y') {r:Bool} (e:S8 ks x y=some r):sL ks x' y'=some r:=by
 unfold S8 at e;split at e;·next h1 h2=>rw[toCV_rel h1 hx,toCV_rel h2 hy];exact e
 ·cases e
def K0 (Z:ZM) (p:Ren) (x:PC×PC) (y:CV×CV):Prop:=CR Z p x.1 y.1/\CR Z p x.2 y.2
theorem gZ {ks:Lp} {k:PC} {k':CV} (hk:CR Z p k k'):∀{l:List (PC×PC)} {m:List (CV×CV)} {r:Option PC},A1 (K0 Z p) l m->Tt ks k l=some r ->
  ∃r',Tl ks k' m=some r'/\(match r,r' with|some a,some b=>CR Z p a b|none,none=>True|_,_=>False)
 |[],m,r,h,e=>by cases h;cases e;exact⟨none,rfl,Ae⟩
 |(x,v)::l,m,r,h,e=>by
  cases h with
  |cons h1 h2=>
  rename_i y m
  obtain⟨y,w⟩:=y;unfold Tt at e;split at e
  ·next h0=>
   cases e;exact⟨some w,by simp only[Tl,Vy hk h1.1 h0],h1.2⟩
  ·next h0=>
   obtain⟨r',h3,h4⟩:=gZ hk h2 e;exact⟨r',by simp only[Tl,Vy hk h1.1 h0,h3],h4⟩
  ·cases e
theorem GP {Z:ZM} {p:Ren}:∀{ks vs:Ey} {f1 f2:Nat->SV},vs.length=ks.length->(∀(i:Nat) (x:PV),ks[i]?=some x->A8 Z x (f1 i))->(∀(i:Nat) (x:PV),vs[i]?=some x->A8 Z x (f2 i)) ->
  A1 (K0 Z p) (mpE ks vs) ((List.range ks.length).map λi=>(.s (f1 i),.s (f2 i)))
 |[],[],_,_,_,_,_=>.nil
 |k::ks,v::vs,f1,f2,hn,h1,h2=>by rw[Ap,List.range_succ_eq_map,AG,DB];exact .cons ⟨(h1 0 k rfl).v,(h2 0 v rfl).v⟩ (GP (f1:=λi=>f1 (i+1)) (f2:=λi=>f2 (i+1)) (by simpa using hn) (λi x hx=>h1 (i+1) x (by simpa using hx)) λi x hx=>h2 (i+1) x (by simpa using hx))
 |[],_::_,_,_,hn,_,_=>by simp at hn
 |_::_,[],_,_,hn,_,_=>by simp at hn
theorem A8.mp' {Z:ZM} {ks vs:Ey} {v:SV} (h:A8 Z (.mp ks vs) v):∃b lv,v=.map b/\Z b=some (.map lv)/\∀p,A1 (Go.Pv.K0 Z p) (mpE ks vs) lv:=by
 cases h with
 |mp f1 f2 hn hz h1 h2=>exact⟨_,_,rfl,hz,λp=>GP hn h1 h2⟩
theorem OI (ks:Lp) (zero:CV) (ok:Bool):Ko (Ik ks zero ok) (H5 ks zero ok):=by
 intro s hs args vs v g' ha e;unfold Ik at e;split at e
 ·obtain⟨y,k',rfl,h,hk⟩:=A1.two ha;obtain⟨z,rfl,hz⟩:=h.s;cases(A8.Ww hz);obtain⟨k',rfl,hk⟩:=hk.cv;split at e
  ·next z hz=>
   split at e
   ·next hf=>
    cases e;have hf':Kf ks k'=true:=by rw[<-Zi hk];exact hf
    refine⟨rfl,_,by simp only[H5];rw[Aj hf'],?_⟩;have hz':CR s.Z s.p z zero:=Zh hz;cases ok;·exact hz'
    ·exact .cons hz' (.cons (A8.bool _) .nil)
   ·cases e
  ·cases e
 ·next b k=>
  obtain⟨y,k',rfl,h,hk⟩:=A1.two ha;obtain⟨z,rfl,b',hp,rfl⟩:=h.s;obtain⟨k',rfl,hk⟩:=hk.cv;split at e
  ·next z hz=>
   split at e
   ·next hf=>
    split at e
    ·next l own frz anc log hx=>
     split at e
     ·next r hr=>
      cases e;have hf':Kf ks k'=true:=by rw[<-Zi hk];exact hf
      obtain⟨b2,⟨body,own',anc'⟩,h1,h2,h3⟩:=hs.blk _ _ hx;rw[hp] at h1;cases h1;have hb:=h3.body;cases body<;>simp only[BR] at hb;rename_i m
      obtain⟨r',h4,h5⟩:=gZ hk (m:=m) hb hr;refine⟨rfl,if ok then .tup [r'.getD zero,.s (.bool r'.isSome)] else .v (r'.getD zero),by simp only[H5];rw[Aj hf'];simp only[h2,h4],?_⟩;have hz':CR s.Z s.p z zero:=Zh hz;have hg:CR s.Z s.p (r.getD z) (r'.getD zero):=by cases r<;>cases r'<;>first|exact hz'|exact h5|exact absurd h5 id
      have hsome:r.isSome=r'.isSome:=by cases r<;>cases r'<;>first|rfl|exact absurd h5 id
      cases ok;·exact hg
      ·exact .cons hg (.cons (by rw[hsome];exact A8.bool _) .nil)
     ·cases e
    ·cases e
   ·cases e
  ·cases e
 ·next a b k=>
  obtain⟨y,k',rfl,h,hk⟩:=A1.two ha;obtain⟨z,rfl,hz⟩:=h.s;obtain⟨b',lv,rfl,hzb,hall⟩:=A8.mp' hz;obtain⟨k',rfl,hk⟩:=hk.cv;obtain⟨⟨body,own',anc'⟩,h2,h3⟩:=hs.z _ _ hzb;simp only at h3;subst h3;split at e
  ·next z hz=>
   split at e
   ·next hf=>
    split at e
    ·next r hr=>
     cases e;have hf':Kf ks k'=true:=by rw[<-Zi hk];exact hf
     obtain⟨r',h4,h5⟩:=gZ hk (m:=lv) (hall s.p) hr;refine⟨rfl,if ok then .tup [r'.getD zero,.s (.bool r'.isSome)] else .v (r'.getD zero),by simp only[H5];rw[Aj hf'];simp only[h2,h4],?_⟩;have hz':CR s.Z s.p z zero:=Zh hz;have hg:CR s.Z s.p (r.getD z) (r'.getD zero):=by cases r<;>cases r'<;>first|exact hz'|exact h5|exact absurd h5 id
     have hsome:r.isSome=r'.isSome:=by cases r<;>cases r'<;>first|rfl|exact absurd h5 id
     cases ok;·exact hg
     ·exact .cons hg (.cons (by rw[hsome];exact A8.bool _) .nil)
    ·cases e
   ·cases e
  ·cases e
 ·cases e
theorem KL (i:Nat):Ko (Nz i) (Tn i):=by
 intro s hs args vs v g' ha e;unfold Nz at e;split at e
 ·next xs=>
  obtain⟨y,rfl,h⟩:=A1.one ha;obtain⟨z,rfl,hz⟩:=h.tup';cases hx:xs[i]? with
  |none=>simp[hx,noP] at e
  |some w=>simp only[hx,noP,Sj,Pj] at e;obtain⟨rfl,rfl⟩:=e;obtain⟨u,h1,h2⟩:=D3 hz i hx;exact⟨rfl,_,by simp only[Tn,h1,M5],.mkV h2⟩
 ·cases e
theorem Aa9:Ko sO FT:=by
 intro s hs args vs v g' ha e;unfold sO at e;split at e;·obtain⟨y,rfl,h⟩:=A1.one ha;obtain⟨z,rfl,b',hp,rfl⟩:=h.s;cases e;exact⟨rfl,_,rfl,.mkS (A8.int _ _)⟩
 ·obtain⟨y,rfl,h⟩:=A1.one ha;obtain⟨z,rfl,hz⟩:=h.s;obtain⟨_,_,_,_,rfl,_⟩:=A8.lJ hz;cases e;exact⟨rfl,_,rfl,.mkS (A8.int _ _)⟩
 ·obtain⟨y,rfl,h⟩:=A1.one ha;obtain⟨z,rfl,hz⟩:=h.s;cases(A8.Ta hz);cases e;exact⟨rfl,_,rfl,.mkS (A8.int _ _)⟩
 ·cases e
theorem OJ:Ko eE eC:=by
 intro s hs args vs v g' ha e;unfold eE at e;split at e;·obtain⟨y,rfl,h⟩:=A1.one ha;obtain⟨z,rfl,hz⟩:=h.s;cases(A8.yI hz);cases e;exact⟨rfl,_,rfl,.mkS (A8.int _ _)⟩
 ·cases e
theorem OK (n:Nat):Ko (eG n) (eD n):=by
 intro s hs args vs v g' ha e;unfold eG at e;split at e;·obtain⟨y,rfl,h⟩:=A1.one ha;cases e;exact⟨rfl,_,rfl,.mkS (A8.int _ _)⟩
 ·cases e
theorem AaA:Ko lV Tp:=by
 intro s hs args vs v g' ha e;unfold lV at e;split at e;·obtain⟨y,rfl,h⟩:=A1.one ha;obtain⟨z,rfl,hz⟩:=h.s;cases(A8.Ww hz);cases e;exact⟨rfl,_,rfl,.mkS (A8.int _ _)⟩
 ·obtain⟨y,rfl,h⟩:=A1.one ha;obtain⟨z,rfl,b',hp,rfl⟩:=h.s;split at e
  ·next l own frz anc log hx=>
   cases e;obtain⟨b2,⟨body,own',anc'⟩,h1,h2,h3⟩:=hs.blk _ _ hx;rw[hp] at h1;cases h1;have hb:=h3.body;cases body<;>simp only[BR] at hb;rename_i m
   exact⟨rfl,.v (.s (.int .i64 (m.length:Nat))),by simp only[Tp,h2],.mkS (by rw[A5 hb];exact A8.int _ _)⟩
  ·cases e
 ·cases e
theorem Acu:Ko UM UJ:=by
 intro s hs args vs v g' ha e;unfold UM at e;split at e;·obtain⟨y,rfl,h⟩:=A1.one ha;obtain⟨z,rfl,b',hp,rfl⟩:=h.s;cases e;exact⟨rfl,_,rfl,.mkS (A8.int _ _)⟩
 ·obtain⟨y,rfl,h⟩:=A1.one ha;obtain⟨z,rfl,hz⟩:=h.s;obtain⟨_,_,vcap,_,rfl,hc,_⟩:=A8.lJ hz;rcases hc with hc|hc;·cases hc
  ·subst hc;cases e;exact⟨rfl,_,rfl,.mkS (A8.int _ _)⟩
 ·obtain⟨y,rfl,h⟩:=A1.one ha;obtain⟨z,rfl,hz⟩:=h.s;cases(A8.Ta hz);cases e;exact⟨rfl,_,rfl,.mkS (A8.int _ _)⟩
 ·cases e
theorem hY {m:Bool} {k:IntKind}:∀{xs:Ez} {ys:EA} {x:Int} {r:PV},A1 (AR Z p) xs ys->Vo m k x xs=some r->∃r',Nw m k x ys=some r'/\Gj Z p r r'
 |[],ys,x,r,h,e=>by cases h;cases e;exact⟨_,rfl,A8.int _ _⟩
 |a::xs,ys,x,r,h,e=>by
  unfold Vo at e;split at e;·next h0=>cases h0
  ·next h0=>
   cases h0;cases h with
   |cons h1 h2=>
   obtain⟨z,rfl,hz⟩:=h1.s;cases(A8.Ul hz);obtain⟨r',h3,h4⟩:=hY h2 e;exact⟨r',by simp only[Nw];exact h3,h4⟩
  ·cases e
theorem OL (m:Bool):Ko (Y0 m) (Yu m):=by
 intro s hs args vs v g' ha e;unfold Y0 at e;split at e
 ·next k x xs=>
  cases ha with
  |cons h1 h2=>
  obtain⟨z,rfl,hz⟩:=h1.s;cases(A8.Ul hz);cases hm:Vo m k x xs with
  |none=>simp[hm,Hv] at e
  |some w=>simp only[hm,Hv,Sj,Pj] at e;obtain⟨rfl,rfl⟩:=e;obtain⟨r,h3,h4⟩:=hY h2 hm;exact⟨rfl,_,by simp only[Yu,h3,Hs],.mkS h4⟩
 ·cases e
theorem Vz {o:VOp} (hk:o.kind=.quiet):Ko (opP o) o.run:=by
 cases o<;>(first
  |(simp[VOp.kind] at hk;done)
  |exact Acp|exact Aa4|exact UX _ _|exact UY|exact UZ _|exact OE|exact Acq _|exact eq_q _ _|exact un_q _|exact Aa6 _
  |exact OF _ _|exact VC _ _ _ _|exact VD _|exact VE _ _|exact Aa7 _ _|exact Acr _|exact Acs _ _ _|exact Aa8|exact OI _ _ _
  |exact KL _|exact Aa9|exact OJ|exact OK _|exact AaA|exact Acu|exact OL _
  |(intro s hs args vs v g' ha e;cases e))
end
section
variable {Z:ZM} {p:Ren}
theorem CR.mkS {x:PV} {z:SV} (h:Gj Z p x z):CR Z p (.s x) (.s z):=h
def oU (f:Ez->A0->PR) (r:EA->Heap->R):Prop:=∀s:Sta,Gu s->Xk s s.g.next s.h.next->∀(args:Ez) (vs:EA) (v:PA) (g':A0),A1 (AR s.Z s.p) args vs->f args s.g=some (v,g') ->
 ∃u body own y,g'=s.g.Fu body own []/\r vs s.h=some (u,s.h.Fu y)/\BR s.Z (s.p.set s.g.next s.h.next) body y.body/\(own=true->y.own=true/\y.anc=[])/\AR s.Z (s.p.set s.g.next s.h.next) v u
def oW (f:Ez->A0->PR) (r:EA->Heap->R):Prop:=∀s:Sta,Good s->∀(args:Ez) (vs:EA) (v:PA) (g':A0),A1 (AR s.Z s.p) args vs->f args s.g=some (v,g') ->
 ∃u h' p',r vs s.h=some (u,h')/\Good ⟨s.Z,p',g',h'⟩/\E1 s.g.next.toNat s.h.next.toNat s ⟨s.Z,p',g',h'⟩/\AR s.Z p' v u
theorem Ko.e {f:Ez->A0->PR} {r:EA->Heap->R} (h:Ko f r):oW f r:=by intro s hs args vs v g' ha e;obtain⟨rfl,u,h1,h2⟩:=h s hs.toGu args vs v g' ha e;exact⟨u,s.h,s.p,h1,hs,E1.refl _ _ _,h2⟩
theorem oU.e {f:Ez->A0->PR} {r:EA->Heap->R} (h:oU f r):oW f r:=by intro s hs args vs v g' ha e;obtain⟨u,body,own,y,rfl,h1,h2,h3,h4⟩:=h s hs.toGu hs.free args vs v g' ha e;obtain⟨h5,h6⟩:=Mz hs (anc:=[]) h2 λho=>⟨(h3 ho).1,by rw[(h3 ho).2];exact I4.nil⟩;exact⟨u,_,_,h1,h5,h6,h4⟩
theorem bH {p':Ren} (hp:PLe p p') {l:Ey} {m:EB} (h:A1 (Gj Z p) l m):A1 (Gj Z p') l m:=A9 h λ_ _=>Gj.mono (λ_ _ h=>h) hp
theorem oX (s:Sta) (o:Nat):AR s.Z (s.p.set s.g.next s.h.next) (.v (.s (.ptr s.g.next o))) (.v (.s (.ptr s.h.next o))):=⟨_,Ren.D6 _ _ _,rfl⟩
theorem bI (s:Sta) (o len es:Nat) (cap:Option Nat):AR s.Z (s.p.set s.g.next s.h.next) (.v (.s (.slice s.g.next o len es cap))) (.v (.s (.slice s.h.next o len es cap))):=⟨_,Ren.D6 _ _ _,rfl⟩
theorem AaB (zs:EB):oU (lU zs) (lQ zs):=by
 intro s hs hf args vs v g' ha e;unfold lU at e;split at e
 ·cases ha;split at e
  ·next l hl=>
   cases e;exact⟨_,_,true,⟨Body.ofList zs,true,[]⟩,rfl,rfl,BR.list (Nr hl),λ_=>⟨rfl,rfl⟩,oX s 0⟩
  ·cases e
 ·cases e
theorem Acv (n:Nat):oU (JM n) (sM n):=by
 intro s hs hf args vs v g' ha e;unfold JM at e;split at e
 ·next x=>
  obtain⟨y,rfl,h⟩:=A1.one ha;obtain⟨z,rfl,hz⟩:=h.cv;split at e
  ·next hn=>
   cases e;have hl:=A5 hz.cells;exact⟨_,_,true,⟨Body.ofList z.cells,true,[]⟩,rfl,by simp only[sM];rw[Aj Aa];rfl,BR.list (bH hf.le hz.cells),λ_=>⟨rfl,rfl⟩,oX s 0⟩
  ·cases e
 ·cases e
theorem hZ {l:Ey} {m:EB} (h:A1 (Gj Z p) l m):∀n,A1 (Gj Z p) (M8 l n) (Jl m n)
 |0=>.nil
 |n+1=>D0 h (hZ h n)
theorem OM (es len:Nat) (zero:EB) (places:Es):oU (Vp es len zero places) (Vl es len zero places):=by
 intro s hs hf args vs v g' ha e;unfold Vp at e;split at e
 ·next z hz=>
  split at e
  ·next cs hcs=>
   cases e;obtain⟨r',h1,h2⟩:=oS (hZ (Nr hz) len) ha hcs;exact⟨_,_,true,⟨Body.ofList r',true,[]⟩,rfl,by simp only[Vl,h1];rfl,BR.list (bH hf.le h2),λ_=>⟨rfl,rfl⟩,bI s 0 len es _⟩
  ·cases e
 ·cases e
theorem Acw:oU Aau xL:=by
 intro s hs hf args vs v g' ha e;unfold Aau at e;split at e
 ·next l=>
  obtain⟨y,rfl,h⟩:=A1.one ha;obtain⟨z,rfl,hz⟩:=h.s;cases A8.yI hz;split at e
  ·next hr=>
   cases e;exact⟨_,_,false,⟨Body.ofList (l.map λn=>SV.int .u8 (n:Nat)),false,[]⟩,rfl,by simp only[xL];rw[Aj hr],BR.list (Qh _ _ _ λn _=>A8.int .u8 n),λh=>Ad,bI s 0 _ 1 none⟩
  ·cases e
 ·cases e
theorem GQ (s:Sta):AR s.Z (s.p.set s.g.next s.h.next) (.v (.s (.map s.g.next))) (.v (.s (.map s.h.next))):=⟨_,Ren.D6 _ _ _,rfl⟩
theorem VF:oU xP Tm:=by
 intro s hs hf args vs v g' ha e;unfold xP at e;split at e;·cases ha;cases e;exact⟨_,_,true,⟨.map [],true,[]⟩,rfl,rfl,A1.nil,λ_=>⟨rfl,rfl⟩,GQ s⟩
 ·obtain⟨y,rfl,h⟩:=A1.one ha;obtain⟨z,rfl,hz⟩:=h.s;cases A8.Ul hz;cases e;exact⟨_,_,true,⟨.map [],true,[]⟩,rfl,rfl,A1.nil,λ_=>⟨rfl,rfl⟩,GQ s⟩
 ·cases e
theorem KM (es bytes:Nat) (zero:EB):oU (Tu es bytes zero) (Mv es bytes zero):=by
 intro s hs hf args vs v g' ha e;unfold Tu at e;split at e
 ·next _ l _ c=>
  obtain⟨y,y',rfl,h,h'⟩:=A1.two ha;obtain⟨z,rfl,hz⟩:=h.s;obtain⟨z',rfl,hz'⟩:=h'.s;cases A8.Ul hz;cases A8.Ul hz';split at e
  ·next zs hzs=>
   split at e
   ·next hc=>
    cases e;exact⟨_,_,true,⟨Body.ofList (Jl zero c.toNat),true,[]⟩,rfl,by simp only[Mv];rw[Aj hc];rfl,BR.list (hZ (Nr hzs) _),λ_=>⟨rfl,rfl⟩,bI s 0 _ es _⟩
   ·cases e
  ·cases e
 ·cases e
theorem mK {o:VOp} (hk:o.kind=.alloc):oU (opP o) o.run:=by
 cases o<;>(first
  |(simp[VOp.kind] at hk;done)
  |exact AaB _|exact Acv _|exact OM _ _ _ _|exact VF|exact KM _ _ _|exact Acw)
theorem VG (n:Nat):oW (Qd n) (Xd n):=by
 intro s hs args vs v g' ha e;unfold Qd at e;split at e
 ·next b o x=>
  obtain⟨y,y',rfl,h,h'⟩:=A1.two ha;obtain⟨z,rfl,b',hp,rfl⟩:=h.s;obtain⟨z',rfl,hz'⟩:=h'.cv;split at e
  ·next hn=>
   split at e
   ·next g1 hw=>
    cases e;obtain⟨h',h1,h2,h3⟩:=bG hs (lo:=s.g.next.toNat) (lov:=s.h.next.toNat) hp hz'.cells hw;have hl:=A5 hz'.cells;exact⟨_,h',s.p,by simp only[Xd];rw[Aj Aa];simp only[h1],h2,h3,AR.mkT .nil⟩
   ·cases e
  ·cases e
 ·cases e
theorem GR {ks:Lp} {k v:PC} {k' v':CV} (hk:CR Z p k k') (hv:CR Z p v v'):∀{l:List (PC×PC)} {m:List (CV×CV)} {r:List (PC×PC)},A1 (K0 Z p) l m->aN ks k v l=some r ->
  ∃r',cI ks k' v' m=some r'/\A1 (K0 Z p) r r'
 |[],m,r,h,e=>by cases h;cases e;exact⟨_,rfl,.cons ⟨hk,hv⟩ .nil⟩
 |(x,u)::l,m,r,h,e=>by
  cases h with
  |cons h1 h2=>
  rename_i y m
  obtain⟨y,w⟩:=y;unfold aN at e;split at e
  ·next h0=>
   cases e;exact⟨(y,v')::m,by simp only[cI,Vy hk h1.1 h0],.cons ⟨h1.1,hv⟩ h2⟩
  ·next h0=>
   split at e
   ·next r1 hr=>
    cases e;obtain⟨r',h3,h4⟩:=GR hk hv h2 hr;exact⟨(y,w)::r',by simp only[cI,Vy hk h1.1 h0,h3],.cons h1 h4⟩
   ·cases e
  ·cases e
theorem iB {s:Sta} (hs:Good s) {b b':Key} (hp:s.p b=some b') {body body':Hj} {log:Es} (hx:s.g.get b=some ⟨body,true,false,[],log⟩) (hnc:∀l,body≠.cells l) (hnc':∀l,body'≠.cells l) {y':Body} (hb:BR s.Z s.p body' y') :
  ∃y,s.h.get b'=some ⟨y,true,[]⟩/\BR s.Z s.p body y/\Good ⟨s.Z,s.p,s.g.upd b (some ⟨body',true,false,[],(0,0)::log⟩),s.h.upd b' (some ⟨y',true,[]⟩)⟩ /\
   E1 s.g.next.toNat s.h.next.toNat s ⟨s.Z,s.p,s.g.upd b (some ⟨body',true,false,[],(0,0)::log⟩),s.h.upd b' (some ⟨y',true,[]⟩)⟩:=by
 obtain⟨b2,⟨y,own,anc⟩,h1,h2,h3⟩:=hs.blk _ _ hx;rw[hp] at h1;cases h1;obtain⟨ho,ha⟩:=h3.own rfl;simp only at ho ha;subst ho;replace ha:=ha.all hs.toGu rfl;cases ha;have hz:=h3.Si rfl;have t1:=gW hs.toGu (anc:=[]) (anc':=[]) .nil rfl hp hz (x':=some ⟨body',true,false,[],(0,0)::log⟩) (y':=some ⟨y',true,[]⟩) ⟨_,rfl,hb,rfl,rfl,rfl,rfl⟩;have t2:=gX hs.toGu (lo:=s.g.next.toNat) (lov:=s.h.next.toNat) (anc:=[]) (anc':=[]) .nil hp (x':=some ⟨body',true,false,[],(0,0)::log⟩) (y':=some ⟨y',true,[]⟩) ⟨_,hx⟩ λx x1 e1 e2=>by rw[hx] at e1;cases e1;cases e2;refine⟨[(0,0)],rfl,λy0 hy0=>⟨_,rfl,λh=>Ad,λl e=>absurd e (hnc' l),λl c m e1 _=>absurd e1 (hnc l)⟩⟩
 exact⟨y,h2,h3.body,⟨t1,bF (anc:=[]) (anc':=[]) hs.toRoom hp⟩,t2⟩
theorem ON (ks:Lp):oW (Nh ks) (Ro ks):=by
 intro s hs args vs v g' ha e;unfold Nh at e;split at e
 ·next b k v0=>
  obtain⟨y,y',y'',rfl,h,h',h''⟩:=A1.three ha;obtain⟨z,rfl,b',hp,rfl⟩:=h.s;obtain⟨k',rfl,hk⟩:=h'.cv;obtain⟨v',rfl,hv⟩:=h''.cv;split at e
  ·next hf=>
   split at e
   ·next l log hx=>
    split at e
    ·next l' hl=>
     cases e;obtain⟨b2,⟨y,own,anc⟩,h1,h2,h3⟩:=hs.blk _ _ hx;rw[hp] at h1;cases h1;have hb:=h3.body;cases y<;>simp only[BR] at hb;rename_i m
     obtain⟨m',h4,h5⟩:=GR hk hv (m:=m) hb hl;obtain⟨y,h6,h7,h8,h9⟩:=iB hs hp hx (λ_ h=>Ad) (λ_ h=>Ad) (body':=.map l') (y':=.map m') h5;rw[h2] at h6;cases h6;have hf':Kf ks k'=true:=by rw[<-Zi hk];exact hf
     exact⟨.unit,_,s.p,by simp only[Ro];rw[Aj hf'];simp only[h2,h4],h8,h9,AR.mkT .nil⟩
    ·cases e
   ·cases e
  ·cases e
 ·cases e
theorem yK {s:Sta} (hs:Good s) {es bytes:Nat} {x v:PV} {x':SV} (hx:Gj s.Z s.p x x') {new:Ey} {new':EB} {n:Nat} (hn:A1 (Gj s.Z s.p) new new') {g':A0} (e:Ng s.g es bytes x new n=some (v,g')) :
  ∃u h' p',Gx s.h es bytes x' new' n=some (u,h')/\Good ⟨s.Z,p',g',h'⟩/\E1 s.g.next.toNat s.h.next.toNat s ⟨s.Z,p',g',h'⟩/\Gj s.Z p' v u:=by
 unfold Ng at e;split at e
 ·cases A8.Ta hx;split at e;·next h0=>cases e;exact⟨.A4,s.h,s.p,by simp only[Gx];rw[Aj h0],hs,E1.refl _ _ _,A8.A4⟩
  ·next h0=>
   split at e
   ·next hr=>
    cases e;obtain⟨h1,h2⟩:=Mz hs (body:=.cells new) (own:=true) (anc:=[]) (y:=⟨Body.ofList new',true,[]⟩) (BR.list (bH hs.free.le hn)) λ_=>⟨rfl,.nil⟩;exact⟨_,_,_,by simp only[Gx];rw[Ao h0,Aj hr];rfl,h1,h2,_,Ren.D6 _ _ _,rfl⟩
   ·cases e
 ·next b o len es' cap=>
  obtain⟨b',hp,rfl⟩:=hx;split at e
  ·next hes=>
   subst hes;split at e;·next h0=>cases e;exact⟨_,s.h,s.p,by simp only[Gx,Ak];rw[Aj h0],hs,E1.refl _ _ _,b',hp,rfl⟩
   ·next h0=>
    split at e
    ·next c=>
     split at e
     ·next hle=>
      split at e
      ·next g1 hw=>
       cases e;obtain⟨h',h1,h2,h3⟩:=bG hs (lo:=s.g.next.toNat) (lov:=s.h.next.toNat) hp hn hw;exact⟨.slice b' o (len+n) es (some c),h',s.p,by simp only[Gx,Ak];rw[Ao h0,Aj hle];simp only[h1],h2,h3,b',hp,rfl⟩
      ·cases e
     ·next hle=>
      split at e
      ·next hr=>
       split at e
       ·next c1 g1 hw=>
        cases e;obtain⟨h',p',h1,rfl,h2,h3,h4⟩:=KH hs hp hn hw;exact⟨.slice s.h.next 0 (len+n) es none,h',p',by simp only[Gx,Ak];rw[Ao h0,Ao hle,Aj hr];simp only[h1],h2,h3,_,h4,rfl⟩
       ·cases e
      ·cases e
    ·split at e
     ·next hr=>
      split at e
      ·next c1 g1 hw=>
       cases e;obtain⟨h',p',h1,rfl,h2,h3,h4⟩:=uM hs hp hn hw;exact⟨.slice s.h.next 0 (len+n) es none,h',p',by simp only[Gx,Ak];rw[Ao h0,Aj hr];simp only[h1],h2,h3,_,h4,rfl⟩
      ·cases e
     ·cases e
  ·cases e
 ·next es' l cap=>
  obtain⟨b,o,vcap,f,rfl,hc,hl,he,hz,h⟩:=A8.lJ hx;split at e
  ·next hes=>
   subst hes;split at e;·next h0=>cases e;exact⟨_,s.h,s.p,by simp only[Gx,Ak];rw[Aj h0],hs,E1.refl _ _ _,hx⟩
   ·next h0=>
    split at e
    ·next c=>
     split at e;·cases e
     ·next hle=>
      split at e
      ·next hr=>
       cases e;rcases hc with hc|hc
       ·cases hc
       subst hc;have hflat:A1 (Gj s.Z s.p) l.flatten (tab f (l.length*es)):=Uk l f he λi e j x hi hj=>(h i e j x hi hj).v;have hfl:=A5 hflat;rw[gU] at hfl;have hrenew:∃y,s.h.renew b o (l.length*es) new'=some (s.h.next,s.h.Fu ⟨y,true,[]⟩)/\BR s.Z s.p (.cells (l.flatten++new)) y:=by
        unfold Heap.renew;by_cases hk:l.length*es=0;·rw[Aj hk];have:l.flatten=[]:=Bm.1 Aa;rw[this];exact⟨_,rfl,BR.list hn⟩
        ·rw[Ao hk];obtain⟨c',m,h1,h2,h3⟩:=hz hk;rw[GK hs.toGu h1];have hread:Nv c' o (l.length*es)=some (tab f (l.length*es)):=bC _ _ _ h3;have hcop:∃y,Heap.copied c' m o (l.length*es) new'=some y:=by
          unfold Heap.copied;rw[Aj h2,hread];split;·exact⟨_,rfl⟩
          ·exact⟨_,rfl⟩
         obtain⟨y,hy⟩:=hcop;obtain⟨_,d,rfl,h4,h5⟩:=Mw hy;simp only[hy];refine⟨_,rfl,by simp[hfl,A5 hn],λi x hi=>?_⟩;by_cases hi':i<l.length*es
         ·rw[Ai Aa] at hi;obtain⟨u,h6,h7⟩:=D3 hflat i hi;refine⟨u,?_,h7⟩;rw[h4 i hi',h3 i hi'];have hg:(tab f (l.length*es))[i]?=some (f i):=by
           have:∀(n:Nat) (f:Nat->SV) (i:Nat),i<n->(tab f n)[i]?=some (f i):=by
            intro n;induction n with
            |zero=>intro f i h;omega
            |succ n ih=>
             intro f i h;cases i with
             |zero=>rfl
             |succ i=>simp only[tab,Bc];exact ih _ i Aa
           exact this _ _ _ hi'
          rw[hg] at h6;exact h6
         ·rw[Am Aa,hfl] at hi;obtain⟨u,h6,h7⟩:=D3 hn _ hi;have hlt:=(Gi.1 h6).1;refine⟨u,?_,h7⟩;rw[<-h6,<-h5 _ hlt];congr 2;omega
       obtain⟨y,h1,h2⟩:=hrenew;obtain⟨h3,h4⟩:=Mz hs (body:=.cells (l.flatten++new)) (own:=true) (anc:=[]) (y:=⟨y,true,[]⟩) (h2.mono (λ_ _ h=>h) hs.free.le) λ_=>⟨rfl,.nil⟩;exact⟨.slice s.h.next 0 (l.length+n) es none,_,_,by simp only[Gx,Ak];rw[Ao h0,Ao hle,Aj hr];simp only[h1],h3,h4,_,Ren.D6 _ _ _,rfl⟩
      ·cases e
    ·cases e
  ·cases e
 ·cases e
theorem OO (es bytes:Nat):oW (Hu es bytes) (O9 es bytes):=by
 intro s hs args vs v g' ha e;unfold Hu at e;split at e
 ·obtain⟨y,y',rfl,h,h'⟩:=A1.two ha;obtain⟨z,rfl,hz⟩:=h.s;obtain⟨z',rfl,hz'⟩:=h'.s;split at e
  ·next new n hn=>
   obtain⟨new',h1,h2⟩:=eI hs.toGu hz' hn;split at e
   ·next w g1 hw=>
    cases e;obtain⟨u,h',p',h3,h4,h5,h6⟩:=yK hs hz h2 hw;exact⟨.v (.s u),h',p',by simp only[O9,h1,h3],h4,h5,AR.mkS h6⟩
   ·cases e
  ·cases e
 ·cases e
theorem AaC (es:Nat):oW (NB es) (Tq es):=by
 intro s hs args vs v g' ha e;unfold NB at e;split at e
 ·obtain⟨y,y',rfl,h,h'⟩:=A1.two ha;obtain⟨z,rfl,hz⟩:=h.s;obtain⟨z',rfl,hz'⟩:=h'.s;split at e
  ·next src n hn=>
   obtain⟨src',h1,h2⟩:=eI hs.toGu hz' hn;split at e;·cases A8.Ta hz;cases e;exact⟨_,s.h,s.p,by simp only[Tq,h1],hs,E1.refl _ _ _,AR.mkS (A8.int _ _)⟩
   ·next b o len es' _=>
    obtain⟨b',hp,rfl⟩:=hz;split at e
    ·next hes=>
     subst hes;split at e
     ·next h0=>
      cases e;exact⟨_,s.h,s.p,by simp only[Tq,h1,Ak];rw[Aj h0],hs,E1.refl _ _ _,AR.mkS (A8.int _ _)⟩
     ·next h0=>
      split at e
      ·next g1 hw=>
       cases e;obtain⟨h',h3,h4,h5⟩:=bG hs (lo:=s.g.next.toNat) (lov:=s.h.next.toNat) hp (Gs _ h2) hw;exact⟨.int .i64 (min n len:Nat),h',s.p,by simp only[Tq,h1,Ak];rw[Ao h0];simp only[h3],h4,h5,AR.mkS (A8.int _ _)⟩
      ·cases e
    ·cases e
   ·cases e
  ·cases e
 ·cases e
theorem Acx:Ko Aav xM:=by
 have hby:∀{Z:ZM} {p:Ren} {l:Ey} {m:EB} {r:EF},A1 (Gj Z p) l m->fK l=some r->Vn m=some r:=by
  intro Z p l;induction l with
  |nil=>intro m r h e;cases h;exact e
  |cons x l ih=>
   intro m r h e;cases h with
   |cons h1 h2=>
   unfold fK at e;split at e
   ·next n r1 hx hr=>
    cases e;unfold ZC at hx;split at hx
    ·split at hx;·next hc=>cases hx;cases A8.Ul h1;simp only[Vn,Go.Vm.byteOf];rw[Aj hc,ih h2 hr]
     ·cases hx
    ·cases hx
   ·cases e
 intro s hs args vs v g' ha e;unfold Aav at e;split at e
 ·obtain⟨y,rfl,h⟩:=A1.one ha;obtain⟨z,rfl,hz⟩:=h.s;split at e
  ·next l n hl=>
   split at e
   ·next r hr=>
    cases e;obtain⟨l',h1,h2⟩:=eI hs hz hl;obtain⟨b',hp,rfl⟩:=hz;exact⟨rfl,_,by simp only[xM,h1,hby h2 hr],AR.mkS (A8.str _)⟩
   ·cases e
  ·cases e
 ·obtain⟨y,rfl,h⟩:=A1.one ha;obtain⟨z,rfl,hz⟩:=h.s;split at e
  ·next l n hl=>
   split at e
   ·next r hr=>
    cases e;obtain⟨l',h1,h2⟩:=eI hs hz hl;obtain⟨b,o,vcap,f,rfl,_⟩:=A8.lJ hz;exact⟨rfl,_,by simp only[xM,h1,hby h2 hr],AR.mkS (A8.str _)⟩
   ·cases e
  ·cases e
 ·obtain⟨y,rfl,h⟩:=A1.one ha;obtain⟨z,rfl,hz⟩:=h.s;cases A8.Ta hz;cases e;exact⟨rfl,_,rfl,AR.mkS (A8.str _)⟩
 ·cases e
theorem bJ {s:Sta} (hs:Gu s) {b b':Key} (hp:s.p b=some b') {l:List (PC×PC)} {own frz:Bool} {anc:ED} {log:Es} (hx:s.g.get b=some ⟨.map l,own,frz,anc,log⟩) :
  ∃m own' anc',s.h.get b'=some ⟨.map m,own',anc'⟩/\A1 (K0 s.Z s.p) l m:=by obtain⟨b2,⟨y,own',anc'⟩,h1,h2,h3⟩:=hs.blk _ _ hx;rw[hp] at h1;cases h1;have hb:=h3.body;cases y<;>simp only[BR] at hb;exact⟨_,_,_,h2,hb⟩
theorem OP:oW oA Rp:=by
 intro s hs args vs v g' ha e;unfold oA at e;split at e
 ·obtain⟨y,rfl,h⟩:=A1.one ha;obtain⟨z,rfl,b',hp,rfl⟩:=h.s;split at e
  ·next l own frz anc log hx=>
   split at e
   ·next hl=>
    cases e;obtain⟨m,own',anc',h1,h2⟩:=bJ hs.toGu hp hx;have hlen:=A5 h2;obtain⟨h3,h4⟩:=Mz hs (body:=.iter _ l.length 0) (own:=true) (anc:=[]) (y:=⟨.iter b' m.length 0,true,[]⟩) ⟨hs.free.le _ _ hp,hlen,rfl⟩ λ_=>⟨rfl,.nil⟩;exact⟨_,_,_,by simp only[Rp,h1];rw[Aj Aa];rfl,h3,h4,oX s 0⟩
   ·cases e
  ·cases e
 ·cases e
theorem iC {s:Sta} (hs:Gu s) {b b':Key} (hp:s.p b=some b') {m:Key} {n st:Nat} {own frz:Bool} {anc:ED} {log:Es} (hx:s.g.get b=some ⟨.iter m n st,own,frz,anc,log⟩) :
  ∃m' own' anc',s.h.get b'=some ⟨.iter m' n st,own',anc'⟩/\s.p m=some m':=by obtain⟨b2,⟨y,own',anc'⟩,h1,h2,h3⟩:=hs.blk _ _ hx;rw[hp] at h1;cases h1;have hb:=h3.body;cases y<;>simp only[BR] at hb;obtain⟨h4,rfl,rfl⟩:=hb;exact⟨_,_,_,h2,h4⟩
theorem VH:oW xQ Nx:=by
 intro s hs args vs v g' ha e;unfold xQ at e;split at e
 ·next i=>
  obtain⟨y,rfl,h⟩:=A1.one ha;obtain⟨z,rfl,i',hp,rfl⟩:=h.s;split at e
  ·next b n st log hx=>
   split at e
   ·next l own frz anc log' hx'=>
    split at e
    ·next hn=>
     obtain⟨b',_,_,h1,h2⟩:=iC hs.toGu hp hx;obtain⟨m,_,_,h3,h4⟩:=bJ hs.toGu h2 hx';have hlen:=A5 h4;obtain⟨y,h5,h6,h7,h8⟩:=iB hs hp hx (λ_ h=>Ad) (λ_ h=>Ad) (body':=.iter b n 1) (y':=.iter b' n 1) ⟨h2,rfl,rfl⟩;rw[h1] at h5;cases h5;split at e
     ·next k v=>
      cases e;obtain⟨⟨k',v'⟩,rfl,hkv⟩:=A1.one h4;exact⟨_,_,s.p,by simp only[Nx,h1,h3];rw[Aj Aa],h7,h8,AR.mkT (.cons (CR.mkS (A8.bool _)) (.cons hkv.1 (.cons hkv.2 .nil)))⟩
     ·cases e;cases h4;exact⟨_,s.h,s.p,by simp only[Nx,h1,h3];rw[Aj Aa],hs,E1.refl _ _ _,AR.mkT (.cons (CR.mkS (A8.bool _)) .nil)⟩
     ·cases e;obtain⟨⟨k',v'⟩,rfl,hkv⟩:=A1.one h4;exact⟨_,s.h,s.p,by simp only[Nx,h1,h3];rw[Aj Aa],hs,E1.refl _ _ _,AR.mkT (.cons (CR.mkS (A8.bool _)) .nil)⟩
     ·cases e
    ·cases e
   ·cases e
  ·cases e
 ·cases e
theorem OQ:Ko oD Rq:=by
 intro s hs args vs v g' ha e;unfold oD at e;split at e
 ·obtain⟨y,rfl,h⟩:=A1.one ha;obtain⟨z,rfl,i',hp,rfl⟩:=h.s;split at e
  ·next b n _ _ _ _ hx=>
   split at e
   ·next k v _ _ _ _ hx'=>
    split at e
    ·next hn=>
     cases e;obtain⟨b',_,_,h1,h2⟩:=iC hs hp hx;obtain⟨m,_,_,h3,h4⟩:=bJ hs h2 hx';obtain⟨⟨k',v'⟩,rfl,hkv⟩:=A1.one h4;exact⟨rfl,_,by simp only[Rq,h1,h3];rw[Aj hn],AR.mkT (.cons hkv.1 (.cons hkv.2 .nil))⟩
    ·cases e
   ·cases e
  ·cases e
 ·cases e
theorem yL (o:VOp):oW (opP o) o.run:=by
 cases hk:o.kind with
 |quiet=>exact(Vz hk).e
 |alloc=>exact(mK hk).e
 |effect=>
  cases o<;>(first
   |(simp[VOp.kind] at hk;done)
   |exact VG _|exact ON _|exact OO _ _|exact AaC _|exact Acx.e|exact OP|exact VH|exact OQ.e)
end
def QC (Z:ZM):PC->CV->Prop
 |.s x,.s y=>A8 Z x y
 |.agg l,.agg m=>A1 (A8 Z) l m
 |_,_=>False
def QA (Z:ZM):PA->AV->Prop
 |.v x,.v y=>QC Z x y
 |.tup l,.tup m=>A1 (QC Z) l m
 |_,_=>False
theorem QC.c {Z:ZM} {p:Ren} {x:PC} {y:CV} (h:QC Z x y):CR Z p x y:=by
 cases x<;>cases y<;>simp only[QC,CR] at h ⊢;·exact h.v
 ·exact A9 h λ_ _ h=>h.v
theorem QA.a {Z:ZM} {p:Ren} {x:PA} {y:AV} (h:QA Z x y):AR Z p x y:=by
 cases x<;>cases y<;>simp only[QA,AR] at h ⊢;·exact h.c
 ·exact A9 h λ_ _ h=>h.c
theorem QC.mono {Z Z':ZM} (hz:ZLe Z Z') {x:PC} {y:CV} (h:QC Z x y):QC Z' x y:=by
 cases x<;>cases y<;>simp only[QC] at h ⊢;·exact h.mono hz
 ·exact A9 h λ_ _ h=>h.mono hz
theorem QA.mono {Z Z':ZM} (hz:ZLe Z Z') {x:PA} {y:AV} (h:QA Z x y):QA Z' x y:=by
 cases x<;>cases y<;>simp only[QA] at h ⊢;·exact h.mono hz
 ·exact A9 h λ_ _ h=>h.mono hz
theorem I5 (es:Nat):∀(n:Nat) (l:Ey),(chunk es n l).length=n
 |0,_=>rfl
 |n+1,l=>by simp[chunk,I5 es n]
theorem Q6 (es:Nat):∀(n:Nat) (l:Ey) (i:Nat) (e:Ey),l.length=n*es->(chunk es n l)[i]?=some e->e.length=es/\∀(j:Nat) (x:PV),e[j]?=some x->l[i*es+j]?=some x
 |0,l,i,e,_,h=>by simp[chunk] at h
 |n+1,l,i,e,hl,h=>by
  rw[Bg,Ce] at hl;cases i with
  |zero=>
   simp[chunk] at h;subst h;refine⟨by simp;omega,λj x hx=>?_⟩;rw[AT] at hx;split at hx;·simpa using hx
   ·cases hx
  |succ i=>simp only[chunk,Bc] at h;obtain⟨h1,h2⟩:=Q6 es n (l.drop es) i e (by simp;omega) h;refine⟨h1,λj x hx=>?_⟩;have:=h2 j x hx;rw[BF] at this;rw[<-this];congr 1;rw[Bg];omega
structure Frz (s:Sta) (Z':ZM) (g':A0):Prop where
 sim:Gu ⟨Z',s.p,g',s.h⟩
 room:Room s->Room ⟨Z',s.p,g',s.h⟩
 ext:∀lo lov,E1 lo lov s ⟨Z',s.p,g',s.h⟩
theorem Frz.refl {s:Sta} (hs:Gu s):Frz s s.Z s.g:=⟨hs,λh=>h,λ_ _=>E1.refl _ _ _⟩
theorem Frz.trans {s:Sta} {Z' Z'':ZM} {g' g'':A0} (hs:Gu s) (h:Frz s Z' g') (h':Frz ⟨Z',s.p,g',s.h⟩ Z'' g''):Frz s Z'' g'':=
 ⟨h'.sim,λhr=>h'.room (h.room hr),λlo lov=>(h.ext lo lov).trans hs (h'.ext lo lov) Rl Rl⟩
theorem bK {s:Sta} (hs:Gu s) {b b':Key} (hp:s.p b=some b') {x:B4} {y:Blk} (hx:s.g.get b=some x) (hy:s.h.get b'=some y) (hf:x.frz=false) :
  Frz s (λk=>if b'=k then some y.body else s.Z k) (s.g.upd b (some { x with frz:=true })):=by
 have hz0:s.Z b'=none:=by obtain⟨b2,y2,h1,h2,h3⟩:=hs.blk b x hx;rw[hp] at h1;cases h1;exact h3.Si hf
 have hzle:ZLe s.Z (λk=>if b'=k then some y.body else s.Z k):=by
  intro k c h;have hne:b'≠k:=λe=>by rw[<-e,hz0] at h;cases h
  simp only[hne,Ag];exact h
 refine⟨⟨hs.inj,λk x1 h1=>?_,λk c h=>?_,λk c h1 h2=>?_⟩,λhr=>⟨hr.pk,λk c h=>?_,hr.top⟩,λlo lov=>⟨⟨Rl,Rl⟩,hzle,λ_ _ h=>h,λ_ _ h=>.inl h,λk c h=>?_,λ_ _ _=>rfl,λk c h1 h2=>?_,λk x1 x2 h1 h2=>?_⟩⟩
 ·simp only at h1 ⊢;rw[Hd] at h1;by_cases e:b=k;·subst e;simp only[Ak,Sj] at h1;subst h1;obtain⟨b2,y2,h1,h2,h3⟩:=hs.blk b x hx;rw[hp] at h1;cases h1;rw[hy] at h2;cases h2;exact⟨b',y,hp,hy,h3.body.mono hzle (λ_ _ h=>h),λho=>⟨(h3.own ho).1,(h3.own ho).2.mono hzle λ_ _ h=>h⟩,λh=>Ad,λ_=>Ac⟩
  ·simp only[e,Ag] at h1;obtain⟨b2,y2,h2,h3,h4⟩:=hs.blk k x1 h1;have hne:b'≠b2:=λe'=>e (hs.inj b k b2 (e'▸hp) h2);exact⟨b2,y2,h2,h3,h4.body.mono hzle (λ_ _ h=>h),λho=>⟨(h4.own ho).1,(h4.own ho).2.mono hzle λ_ _ h=>h⟩,λh=>by simp only[hne,Ag];exact h4.Si h,λh=>hzle _ _ (h4.frz h)⟩
 ·simp only at h ⊢;by_cases e:b'=k;·subst e;simp only[Ak,Sj] at h;exact⟨y,hy,h⟩
  ·simp only[e,Ag] at h;exact hs.z k c h
 ·simp only at h1 h2 ⊢;rw[Hd] at h2;by_cases e:b=k;·simp[e] at h2
  ·simp only[e,Ag] at h2;exact hs.dead k c h1 h2
 ·simp only at h ⊢;by_cases e:b'=k;·subst e;exact(hr.pk b b' hp).2
  ·simp only[e,Ag] at h;exact hr.zr k c h
 ·simp only at h;by_cases e:b'=k;·subst e;exact .inr (.inl ⟨b,hp⟩)
  ·simp only[e,Ag] at h;exact .inl (by rw[h];simp)
 ·simp only;rw[Hd];by_cases e:b=k;·subst e;rw[hx] at h2;cases h2
  ·simp[e,h2]
 ·simp only at h2 ⊢;rw[Hd] at h2;by_cases e:b=k;·subst e;rw[hx] at h1;cases h1;simp only[Ak,Sj] at h2;subst h2;exact⟨[],rfl,λc y1 _ hy1=>⟨y1,hy1,M6.refl _ _⟩⟩
  ·simp only[e,Ag] at h2;rw[h1] at h2;cases h2;exact⟨[],rfl,λc y1 _ hy1=>⟨y1,hy1,M6.refl _ _⟩⟩
def ZD (f:PV->A0->Option (PV×A0)):Prop:=∀s:Sta,Gu s->∀v u v' g',Gj s.Z s.p v u->f v s.g=some (v',g')->∃Z',Frz s Z' g'/\A8 Z' v' u
theorem iD {f:PV->A0->Option (PV×A0)} (hf:ZD f):∀(l:Ey) {s:Sta},Gu s->∀{us:EB} {l':Ey} {g':A0},A1 (Gj s.Z s.p) l us->Kz.cK f l s.g=some (l',g') ->
  ∃Z',Frz s Z' g'/\A1 (A8 Z') l' us
 |[],s,hs,us,l',g',h,e=>by cases h;simp only[Kz.cK,Sj,Pj] at e;obtain⟨rfl,rfl⟩:=e;exact⟨s.Z,Frz.refl hs,.nil⟩
 |x::l,s,hs,us,l',g',h,e=>by
  cases h with
  |cons h1 h2=>
  simp only[Kz.cK] at e;split at e
  ·next y g1 hy=>
   split at e
   ·next ys g2 hys=>
    cases e;obtain⟨Z1,f1,q1⟩:=hf s hs _ _ _ _ h1 hy;obtain⟨Z2,f2,q2⟩:=iD hf l (s:=⟨Z1,s.p,g1,s.h⟩) f1.sim (A9 h2 λ_ _ h=>h.mono (f1.ext 0 0).zle (λ_ _ h=>h)) hys;exact⟨Z2,f1.trans hs f2,.cons (q1.mono (f2.ext 0 0).zle) q2⟩
   ·cases e
  ·cases e
theorem eJ:∀n,ZD (Kz n)
 |0=>by intro s hs v u v' g' h e;cases e
 |n+1=>by
  intro s hs v u v' g' h e;unfold Kz at e;split at e;case h_1=>cases e;exact⟨s.Z,Frz.refl hs,h⟩
  case h_2=>cases e;exact⟨s.Z,Frz.refl hs,h⟩
  case h_3=>cases e;exact⟨s.Z,Frz.refl hs,h⟩
  case h_4=>cases e;exact⟨s.Z,Frz.refl hs,h⟩
  case h_5=>cases e;exact⟨s.Z,Frz.refl hs,h⟩
  case h_6=>cases e;exact⟨s.Z,Frz.refl hs,h⟩
  case h_7=>cases e;exact⟨s.Z,Frz.refl hs,h⟩
  case h_8=>cases e;obtain⟨fs',cs',rfl,h1,h2⟩:=h;cases h1;cases h2;exact⟨s.Z,Frz.refl hs,.func _⟩
  case h_9=>cases e;obtain⟨b,o,vcap,f,rfl,_,hl,he,hz,h⟩:=A8.lJ h;exact⟨s.Z,Frz.refl hs,.lst f (.inl rfl) hl he hz h⟩
  case h_10=>cases e;exact⟨s.Z,Frz.refl hs,h⟩
  case h_11=>cases e;exact⟨s.Z,Frz.refl hs,h⟩
  case h_12 b o len es cap=>
   obtain⟨b',hp,rfl⟩:=h;split at e;·cases e
   ·next hcap=>
    have hcap':∀c,cap=some c->len<=c:=by intro c hc;subst hc;simpa[K4] using hcap
    split at e
    ·next h0=>
     cases e;refine⟨s.Z,Frz.refl hs,?_⟩;have:=A8.lst (Z:=s.Z) (es:=es) (l:=chunk es len []) (cap:=none) (b:=b') (o:=o) (vcap:=cap) (λ_=>.Iv) (.inl rfl) (by rw[I5];exact hcap')
      (λe he=>by
       obtain⟨i,hi⟩:=DK he
       exact(Q6 es len [] i e (by simp[h0]) hi).1)
      (by rw[I5];exact λh=>absurd h0 h)
      (λi e j x hi hj=>by
       have:=(Q6 es len [] i e (by simp[h0]) hi).2 j x hj
       simp at this)
     rw[I5] at this;exact this
    ·next h0=>
     split at e
     ·next c own frz anc log hx=>
      split at e
      ·next hle=>
       split at e
       ·next l g1 hl=>
        cases e;obtain⟨y,d,h1,h2,h3,h4⟩:=hs.cells hp hx rfl;have hblk:∃Z1,Frz s Z1 (if frz then s.g else s.g.upd b (some ⟨.cells c,own,true,anc,log⟩))/\Z1 b'=some (.cells d c.length):=by
         cases frz with
         |true=>have:=h2.frz rfl;rw[h3] at this;exact⟨s.Z,Frz.refl hs,this⟩
         |false=>refine⟨_,bK hs hp hx h1 rfl,?_⟩;simp[h3]
        obtain⟨Z1,f1,hz1⟩:=hblk;have htl:((c.drop o).take (len*es)).length=len*es:=by simp;omega
        obtain⟨us,hr,hrel⟩:=Vx (c:=d) (R:=Gj s.Z s.p) ((c.drop o).take (len*es)) o λi x hi=>by obtain⟨h,_⟩:=Mm c o (len*es) i x hi;exact h4 _ _ h
        rw[htl] at hr;obtain⟨hul,hug⟩:=Rv d (len*es) o us hr;obtain⟨Z2,f2,q2⟩:=iD (eJ n) _ f1.sim (A9 hrel λ_ _ h=>h.mono (f1.ext 0 0).zle (λ_ _ h=>h)) hl;refine⟨Z2,f1.trans hs f2,?_⟩;have hll:=A5 q2;have hz2:Z2 b'=some (.cells d c.length):=(f2.ext 0 0).zle _ _ hz1;have:=A8.lst (Z:=Z2) (es:=es) (l:=chunk es len l) (cap:=none) (b:=b') (o:=o) (vcap:=cap) (λt=>us.getD t .Iv) (.inl rfl) (by rw[I5];exact hcap')
         (λe he=>by
          obtain⟨i,hi⟩:=DK he
          exact(Q6 es len l i e Aa hi).1)
         (by
          rw[I5]
          exact λ_=>⟨d,c.length,hz2,hle,λt ht=>by rw[hug t ht];simp only[AM];rw[Gg Aa];simp⟩)
         (λi e j x hi hj=>by
          have:=(Q6 es len l i e Aa hi).2 j x hj
          obtain⟨w,h5,h6⟩:=D3 q2 _ this
          simp only[AM,h5];exact h6)
        rw[I5] at this;exact this
       ·cases e
      ·cases e
     ·cases e
  case h_13=>cases e
theorem GS {n:Nat} {s:Sta} (hs:Gu s) {v:PC} {u:CV} {v':PC} {g':A0} (h:CR s.Z s.p v u) (e:aQ n v s.g=some (v',g')):∃Z',Frz s Z' g'/\QC Z' v' u:=by
 cases v with
 |s x=>
  obtain⟨y,rfl,hy⟩:=CR.s' h;simp only[aQ] at e;split at e
  ·next hx=>
   cases e;obtain⟨Z',f,q⟩:=eJ n s hs _ _ _ _ hy hx;exact⟨Z',f,q⟩
  ·cases e
 |agg cs=>
  cases u with
  |s _=>exact absurd h id
  |agg ds=>
   simp only[aQ] at e;split at e
   ·next hx=>
    cases e;obtain⟨Z',f,q⟩:=iD (eJ n) cs hs h hx;exact⟨Z',f,q⟩
   ·cases e
theorem uS {n:Nat}:∀(l:List PC) {s:Sta},Gu s->∀{us:List CV} {l':List PC} {g':A0},A1 (CR s.Z s.p) l us->Wo n l s.g=some (l',g')->∃Z',Frz s Z' g'/\A1 (QC Z') l' us
 |[],s,hs,us,l',g',h,e=>by cases h;simp only[Wo,Sj,Pj] at e;obtain⟨rfl,rfl⟩:=e;exact⟨s.Z,Frz.refl hs,.nil⟩
 |x::l,s,hs,us,l',g',h,e=>by
  cases h with
  |cons h1 h2=>
  simp only[Wo] at e;split at e
  ·next y g1 hy=>
   split at e
   ·next ys g2 hys=>
    cases e;obtain⟨Z1,f1,q1⟩:=GS hs h1 hy;obtain⟨Z2,f2,q2⟩:=uS l (s:=⟨Z1,s.p,g1,s.h⟩) f1.sim (A9 h2 λ_ _ h=>h.mono (f1.ext 0 0).zle (λ_ _ h=>h)) hys;exact⟨Z2,f1.trans hs f2,.cons (q1.mono (f2.ext 0 0).zle) q2⟩
   ·cases e
  ·cases e
theorem V0 {n:Nat} {s:Sta} (hs:Gu s) {v:PA} {u:AV} {v':PA} {g':A0} (h:AR s.Z s.p v u) (e:G4 n v s.g=some (v',g')):∃Z',Frz s Z' g'/\QA Z' v' u:=by
 cases v with
 |v x=>
  obtain⟨y,rfl,hy⟩:=h.cv;simp only[G4] at e;split at e
  ·next hx=>
   cases e;obtain⟨Z',f,q⟩:=GS hs hy hx;exact⟨Z',f,q⟩
  ·cases e
 |tup xs=>
  obtain⟨ys,rfl,hy⟩:=h.tup';simp only[G4] at e;split at e
  ·next hx=>
   cases e;obtain⟨Z',f,q⟩:=uS xs hs hy hx;exact⟨Z',f,q⟩
  ·cases e
theorem iE {n:Nat}:∀(l:Ez) {s:Sta},Gu s->∀{us:EA} {l':Ez} {g':A0},A1 (AR s.Z s.p) l us->Fw n l s.g=some (l',g')->∃Z',Frz s Z' g'/\A1 (QA Z') l' us
 |[],s,hs,us,l',g',h,e=>by cases h;simp only[Fw,Sj,Pj] at e;obtain⟨rfl,rfl⟩:=e;exact⟨s.Z,Frz.refl hs,.nil⟩
 |x::l,s,hs,us,l',g',h,e=>by
  cases h with
  |cons h1 h2=>
  simp only[Fw] at e;split at e
  ·next y g1 hy=>
   split at e
   ·next ys g2 hys=>
    cases e;obtain⟨Z1,f1,q1⟩:=V0 hs h1 hy;obtain⟨Z2,f2,q2⟩:=iE l (s:=⟨Z1,s.p,g1,s.h⟩) f1.sim (A9 h2 λ_ _ h=>h.mono (f1.ext 0 0).zle (λ_ _ h=>h)) hys;exact⟨Z2,f1.trans hs f2,.cons (q1.mono (f2.ext 0 0).zle) q2⟩
   ·cases e
  ·cases e
end Go.Pv
end
section
noncomputable section
namespace Go.Vm
open Key (kn)
def oY (b:Key) (n j:Nat) (b2:Key) (h:Heap):Option (AV×Heap):=
 if j<n/\n<=1000/\b≠b2 then
  match h.get b2 with
  |some ⟨.cells _ _,true,_⟩=>match h.read b2 0 3 with
   |some vls=>match h.read b (j*3) ((n-j)*3) with
    |some tl=>match h.grow b 0 (j*3) (vls++tl) with
     |some (b',h')=>some (.v (.s (.slice b' 0 (n+1) 3 none)),h')
     |none=>none
    |none=>none
   |none=>none
  |_=>none
 else none
def yM (s:SV) (i:Int) (x:AV) (b2:Key) (h:Heap):Option (AV×Heap):=
 match s with
 |.A4=>if i=0 then(VOp.append 3 56).run [.v (.s .A4),x] h else none
 |.slice b 0 n 3 none=>if i=n then(VOp.append 3 56).run [.v (.s (.slice b 0 n 3 none)),x] h else oY b n i.toNat b2 h
 |_=>none
def Un (args:EA) (h:Heap):Option (AV×Heap):=
 match args with
 |[.v (.s s),.v (.s (.int .i64 i)),.v (.s (.slice b2 0 1 3 c2))]=>if 0<=i then yM s i (.v (.s (.slice b2 0 1 3 c2))) b2 h else none
 |_=>none
theorem KN (b:Key) (n j:Nat) (b2:Key):Wm (oY b n j b2):=by
 intro h v h' e;unfold oY at e;split at e
 ·next hc=>
  split at e
  ·next c2 m2 anc2 hg2=>
   split at e
   ·next vls hr=>
    split at e
    ·next tl ht=>
     split at e
     ·next b' h1 hgr=>
      cases e;obtain⟨k1,k2,k3⟩:=mD _ _ _ _ hgr;refine⟨by rw[k2,Key.toNat_succ];omega,λk x hk hf=>⟨(k3 k x hk hf).1,?_⟩⟩;unfold oY;rw[Aj hc,hf.get hg2];simp only[hf.read hr,hf.read ht,(k3 k x hk hf).2]
     ·cases e
    ·cases e
   ·cases e
  ·cases e
 ·cases e
theorem yN (b:Key) (n j:Nat) (b2:Key):tZ (oY b n j b2):=by
 intro h v h' e;unfold oY at e;split at e
 ·split at e
  ·split at e
   ·split at e
    ·split at e;·next hgr=>cases e;exact Sb hgr
     ·cases e
    ·cases e
   ·cases e
  ·cases e
 ·cases e
theorem yO (args:EA):Wm (Un args):=by
 intro h v h' e;unfold Un at e ⊢;split at e
 ·split at e
  ·next h0=>
   simp only[h0,Ak];unfold yM at e ⊢;split at e
   ·split at e;·next hi=>simp only[hi,Ak];exact oM _ _ h v h' e
    ·cases e
   ·split at e;·next hi=>simp only[hi,Ak];exact oM _ _ h v h' e
    ·next hi=>simp only[hi,Ag];exact KN _ _ _ _ h v h' e
   ·cases e
  ·cases e
 ·cases e
theorem uT (args:EA):tZ (Un args):=by
 intro h v h' e;unfold Un at e;split at e
 ·split at e
  ·unfold yM at e;split at e
   ·split at e;·exact Zb _ _ h v h' e
    ·cases e
   ·split at e;·exact Zb _ _ h v h' e
    ·exact yN _ _ _ _ h v h' e
   ·cases e
  ·cases e
 ·cases e
def noO:Iw:=λf=>if f=40 then some Un else none
theorem OR {P : Program} (hd : ∃ fn, P.funcs[40]? = some fn ∧ (fn.name == "runtime.NumGoroutine") = false ∧ fn.body.isNone = false)
  (hr:∀args h v h',Clean h->Un args h=some (v,h')->∀φ w vs,Sim φ h.get h.next.toNat w->A1 (Gr φ) args vs->Calls P 40 vs.toArray w λe w'=>∃v',e=.returned v'/\dX φ h w h' w' λφ'=>Gr φ' v v'):Ui P noO where
 call:=⟨λf args h r e=>(by
  unfold Iw.caller noO at e
  split at e
  ·next g hg=>
   split at hg
   ·next hf=>rw[hf];exact hd
   ·cases hg
  ·cases e),λf args h v h' hcl e=>(by
  unfold Iw.caller noO at e
  split at e
  ·next g hg=>
   split at hg
   ·next hf=>cases hg;rw[hf];exact hr args h v h' hcl e
   ·cases hg
  ·cases e)⟩
 nice f g e:=by
  unfold noO at e;split at e;·cases e;exact yO
  ·cases e
 Zf f g e:=by
  unfold noO at e;split at e;·cases e;exact λargs h v h' e=>(uT args).clean e
  ·cases e
end Go.Vm
end
section
noncomputable section
namespace Go.Pv
open Go.Vm
open Go.Vm.Key (kn)
set_option maxRecDepth 40000
set_option maxHeartbeats 0
section
def CLe (c c':Fg):Prop:=∀f a h r,c f a h=some r->c' f a h=some r
variable {c c':Fg}
theorem OS (hc:CLe c c') {a:Ff} {args:EA} {h:Heap} {r:AV×Heap} (e:a.run c args h=some r):a.run c' args h=some r:=by
 cases a with
 |op o=>exact e
 |call f=>exact hc _ _ _ _ e
 |Kr=>
  simp only[Ff.run] at e ⊢;split at e;·exact hc _ _ _ _ e
  ·cases e
theorem L7 (hc:CLe c c') {o:B3} {fr:Fr} {h:Heap} {r:Fr×Heap} (e:o.run c fr h=some r):o.run c' fr h=some r:=by
 unfold B3.run at e ⊢;split at e
 ·next hw=>
  split at e
  ·next args ha=>
   split at e;·next v h' hr=>rw[OS hc hr];exact e
   ·cases e
  ·cases e
 ·next hw=>exact e
 ·cases e
theorem Zj (hc:CLe c c'):∀(l:List B3) {fr:Fr} {h:Heap} {r:Fr×Heap},G0 c l fr h=some r->G0 c' l fr h=some r
 |[],_,_,_,e=>e
 |o::l,fr,h,r,e=>by
  simp only[G0] at e ⊢;split at e;·next fr1 h1 h2=>rw[L7 hc h2];exact Zj hc l e
  ·cases e
theorem Kp (hc:CLe c c') (lo hi:Key):∀(l:List DOp) {k:Key} {A7:List Heap} {fr:Fr} {h:Heap} {r:Fr×Heap},E8 c lo hi l k A7 fr h=some r->E8 c' lo hi l k A7 fr h=some r
 |[],_,_,_,_,_,e=>e
 |d::l,k,A7,fr,h,r,e=>by
  simp only[E8] at e ⊢;split at e
  ·next hk=>
   split at e;·next fr1 h1 h2=>rw[L7 hc h2];exact Kp hc lo hi l e
   ·cases e
  ·next hk=>
   split at e;·next fr1 h1 h2=>rw[L7 hc h2];exact Kp hc lo hi l e
   ·cases e
  ·next hk=>
   split at e
   ·next o hw ha=>
    split at e
    ·next args hf=>
     split at e
     ·next v h1 hr=>
      split at e
      ·next hcond=>
       simp only[hcond,Ak];exact Kp hc lo hi l e
      ·cases e
     ·cases e
    ·cases e
   ·next hw=>
    exact Kp hc lo hi l e
   ·cases e
abbrev Ex:=B7->Fr->Heap->Option (Fk×Fr×Heap)
def XLe (x x':Ex):Prop:=∀cd fr h r,x cd fr h=some r->x' cd fr h=some r
theorem iF {F:D5} {x x':Ex} (hx:XLe x x'):CLe (Fh F noO x) (Fh F noO x'):=by
 intro f a h r e;unfold Fh at e ⊢;cases hF:F f with
 |none=>simp only[hF] at e ⊢;exact e
 |some vf=>
  simp only[hF] at e ⊢;split at e;·cases e
  ·next x1 fr1 h1 hne hr=>
   rw[hx _ _ _ _ hr];cases x1 with
   |exit id=>exact absurd rfl (hne id)
   |normal=>exact e
   |ret=>exact e
  ·cases e
section
variable {F:D5} {O:Iw} {n:Nat} {fr:Fr} {h:Heap}
theorem bM (ops:List B3):exec F O (n+1) (.region ops) fr h=match G0 (Fh F O (exec F O n)) ops fr h with
   |some (fr,h)=>some (.normal,fr,h)
   |none=>none:=rfl
theorem iG (ops:List DOp):exec F O (n+1) (.drawn ops) fr h=match E8 (Fh F O (exec F O n)) h.next (Fz h.next (D4 ops)) ops h.next [] fr { h with next:=Fz h.next (D4 ops) } with
   |some (fr,h)=>some (.normal,fr,h)
   |none=>none:=rfl
theorem Xm (a b:B7):exec F O (n+1) (.seq a b) fr h=match exec F O n a fr h with
   |some (.normal,fr,h)=>exec F O n b fr h
   |r=>r:=rfl
theorem Zk (x:VX) (a b:B7):exec F O (n+1) (.cond x a b) fr h=match x.eval fr with
   |some (.v (.s (.bool true)))=>exec F O n a fr h
   |some (.v (.s (.bool false)))=>exec F O n b fr h
   |_=>none:=rfl
theorem K9 (id:Nat) (a:B7):exec F O (n+1) (.block id a) fr h=match exec F O n a fr h with
   |some (.exit j,fr,h)=>if j=id then some (.normal,fr,h) else some (.exit j,fr,h)
   |r=>r:=rfl
theorem Mn (a:B7):exec F O (n+1) (.loop a) fr h=match exec F O n a fr h with
   |some (.normal,fr,h)=>exec F O n (.loop a) fr h
   |r=>r:=rfl
end
theorem mL {F:D5}:∀n,XLe (exec F noO n) (exec F noO (n+1))
 |0=>by intro cd fr h r e;cases e
 |n+1=>by
  have ih:=mL (F:=F) n;have hc:=iF (F:=F) ih;intro cd fr h r e;cases cd with
  |skip=>exact e
  |region ops=>
   rw[bM] at e ⊢;split at e;·next fr1 h1 h2=>rw[Zj hc ops h2];exact e
   ·cases e
  |drawn ops=>
   rw[iG] at e ⊢;split at e;·next fr1 h1 h2=>rw[Kp hc _ _ ops h2];exact e
   ·cases e
  |seq a b=>
   rw[Xm] at e ⊢;cases hr:exec F noO n a fr h with
   |none=>rw[hr] at e;cases e
   |some q=>
    rw[hr] at e;rw[ih _ _ _ _ hr];obtain⟨x,fr1,h1⟩:=q;cases x with
    |normal=>exact ih _ _ _ _ e
    |exit id=>exact e
    |ret=>exact e
  |cond x a b=>
   rw[Zk] at e ⊢;split at e;·next h1=>exact ih _ _ _ _ e
   ·next h1=>exact ih _ _ _ _ e
   ·cases e
  |block id a=>
   rw[K9] at e ⊢;cases hr:exec F noO n a fr h with
   |none=>rw[hr] at e;cases e
   |some q=>
    rw[hr] at e;rw[ih _ _ _ _ hr];obtain⟨x,fr1,h1⟩:=q;cases x with
    |normal=>exact e
    |exit id=>exact e
    |ret=>exact e
  |loop a=>
   rw[Mn] at e ⊢;cases hr:exec F noO n a fr h with
   |none=>rw[hr] at e;cases e
   |some q=>
    rw[hr] at e;rw[ih _ _ _ _ hr];obtain⟨x,fr1,h1⟩:=q;cases x with
    |normal=>exact ih _ _ _ _ e
    |exit id=>exact e
    |ret=>exact e
  |exit id=>exact e
  |ret=>exact e
theorem Lb {F:D5} {n m:Nat} (h:n<=m):XLe (exec F noO n) (exec F noO m):=by
 induction h with
 |refl=>exact λ_ _ _ _ e=>e
 |step _ ih=>exact λcd fr h r e=>mL _ _ _ _ _ (ih cd fr h r e)
theorem Ph {F:D5} {n m:Nat} (h:n<=m):CLe (Fh F noO (exec F noO n)) (Fh F noO (exec F noO m)):=iF (Lb h)
end
section
def yP (F:D5) (pc:Jw):Prop:=∀(f:Nat) (s:Sta),Good s->∀(args:Ez) (vs:EA) (v:PA) (g':A0),A1 (AR s.Z s.p) args vs->pc f args s.g=some (v,g') ->
 ∃N u h' Z' p',Fh F noO (exec F noO N) f vs s.h=some (u,h')/\Good ⟨Z',p',g',h'⟩/\E1 s.g.next.toNat s.h.next.toNat s ⟨Z',p',g',h'⟩/\AR Z' p' v u
def FR (Z:ZM) (p:Ren) (fr:PFr) (fr1:Fr):Prop:=∀k v,fr.get k=some v->∃u,fr1.get k=some u/\AR Z p v u
variable {Z:ZM} {p:Ren} {fr:PFr} {fr1:Fr} {F:D5} {pc:Jw}
theorem FR.mono {Z':ZM} {p':Ren} (hz:ZLe Z Z') (hp:PLe p p') (h:FR Z p fr fr1):FR Z' p' fr fr1:=by intro k v e;obtain⟨u,h1,h2⟩:=h k v e;exact⟨u,h1,h2.mono hz hp⟩
theorem Ow (d:EE) (v:PA) (k:Key):(O4 fr d v).get k=if d=some k then some v else fr.get k:=by
 cases d with
 |none=>simp[O4]
 |some d=>simp only[O4,Tr.D1,Sj]
theorem L8 (d:EE) (v:AV) (k:Key):(Fp fr1 d v).get k=if d=some k then some v else fr1.get k:=by
 cases d with
 |none=>simp[Fp]
 |some d=>simp only[Fp,Tr.D1,Sj]
theorem FR.put (h:FR Z p fr fr1) {v:PA} {u:AV} (hv:AR Z p v u) (d:EE):FR Z p (O4 fr d v) (Fp fr1 d u):=by
 intro k w e;rw[Ow] at e;rw[L8];split at e;·next hd=>cases e;rw[Aj hd];exact⟨u,rfl,hv⟩
 ·next hd=>rw[Ao hd];exact h k w e
theorem Uo (h:FR Z p fr fr1) {x:VX} {v:PA} (e:Tv fr x=some v):∃u,x.eval fr1=some u/\AR Z p v u:=by
 cases x with
 |t k=>exact h k v e
 |c a=>exact⟨a,rfl,uN e⟩
theorem L9 (h:FR Z p fr fr1):∀{xs:List VX} {vs:Ez},Ip fr xs=some vs->∃us,G7 fr1 xs=some us/\A1 (AR Z p) vs us
 |[],vs,e=>by cases e;exact⟨[],rfl,.nil⟩
 |x::xs,vs,e=>by
  simp only[Ip] at e;split at e
  ·next v hv=>
   split at e
   ·next vs' hvs=>
    cases e;obtain⟨u,h1,h2⟩:=Uo h hv;obtain⟨us,h3,h4⟩:=L9 h hvs;exact⟨u::us,by simp only[G7,h1,h3],.cons h2 h4⟩
   ·cases e
  ·cases e
theorem KP {v:PA} {c:Bool} (h:AR Z p v (.v (.s (.bool c)))):v=.v (.s (.bool c)):=by
 cases v with
 |tup _=>exact absurd h id
 |v x=>cases x with
  |agg _=>exact absurd h id
  |s x=>
   have h:Gj Z p x (.bool c):=h
   cases x with
   |ptr b o=>obtain⟨_,_,e⟩:=h;cases e
   |slice b o len es cap=>obtain⟨_,_,e⟩:=h;cases e
   |map b=>obtain⟨_,_,e⟩:=h;cases e
   |func f fs cs=>obtain⟨_,_,e,_⟩:=h;cases e
   |bool b=>have h:A8 Z (.bool b) (.bool c):=h;cases h;rfl
   |int k n=>have h:A8 Z (.int k n) (.bool c):=h;cases h
   |str l=>have h:A8 Z (.str l) (.bool c):=h;cases h
   |Iv=>have h:A8 Z .Iv (.bool c):=h;cases h
   |A4=>have h:A8 Z .A4 (.bool c):=h;cases h
   |Ic=>have h:A8 Z .Ic (.bool c):=h;cases h
   |J5=>have h:A8 Z .J5 (.bool c):=h;cases h
   |lst es l cap=>have h:A8 Z (.lst es l cap) (.bool c):=h;cases h
   |rp l=>have h:A8 Z (.rp l) (.bool c):=h;cases h
   |mp ks vs=>have h:A8 Z (.mp ks vs) (.bool c):=h;cases h
theorem Hr (h:FR Z p fr fr1) {g:Option (Key×Bool)} {c:Bool} (e:Hf fr g=some c):Ht fr1 g=some c:=by
 unfold Hf at e;split at e;·exact e
 ·next k b=>
  split at e
  ·next b' hb=>
   obtain⟨u,h1,h2⟩:=h _ _ hb;obtain⟨z,rfl,hz⟩:=h2.s;cases A8.Zg hz;simp only[Ht,h1];exact e
  ·next v hnb hb=>
   obtain⟨u,h1,h2⟩:=h _ _ hb;simp only[Ht,h1];split;·next c' hc'=>cases hc';exact absurd (KP h2) (hnb c')
   ·exact e
   ·next h0=>cases h0
  ·cases e
theorem Ns {l:List (Key×Nat)} {m:List (Key×Nat)} (h:A1 (gT p) l m):A1 (AR Z p) (Y1 l) (m.map λq=>AV.v (.s (.ptr q.1 q.2))):=by
 induction h with
 |nil=>exact .nil
 |cons h _ ih=>refine .cons ?_ ih;obtain⟨h1,h2⟩:=h;exact⟨_,h1,by rw[h2]⟩
variable {s:Sta}
theorem VI (hc:yP F pc) (hs:Good s) {a:Ff} {args:Ez} {vs:EA} {v:PA} {g':A0} (ha:A1 (AR s.Z s.p) args vs) (e:sP pc a args s.g=some (v,g')) :
  ∃N u h' Z' p',a.run (Fh F noO (exec F noO N)) vs s.h=some (u,h')/\Good ⟨Z',p',g',h'⟩/\E1 s.g.next.toNat s.h.next.toNat s ⟨Z',p',g',h'⟩/\AR Z' p' v u:=by
 unfold sP at e;split at e;·obtain⟨u,h',p',h1,h2,h3,h4⟩:=yL _ s hs args vs v g' ha e;exact⟨0,u,h',s.Z,p',h1,h2,h3,h4⟩
 ·exact hc _ s hs args vs v g' ha e
 ·split at e
  ·next f fs cs xs=>
   cases ha with
   |cons h1 h2=>
   obtain⟨z,rfl,fs',cs',rfl,h3,h4⟩:=h1.s;obtain⟨N,u,h',Z',p',h5,h6⟩:=hc f s hs _ _ v g' (D0 (D0 (Ns h3) h2) (Ns h4)) e;exact⟨N,u,h',Z',p',h5,h6⟩
  ·cases e
theorem Lc:AR Z p .unit .unit:=AR.mkT .nil
theorem uU (hc:yP F pc) (hs:Good s) {o:B3} (hf:FR s.Z s.p fr fr1) {fr':PFr} {g':A0} (e:Pc pc o fr s.g=some (fr',g')) :
  ∃N v u h' Z' p',o.run (Fh F noO (exec F noO N)) fr1 s.h=some (Fp fr1 o.dst u,h')/\fr'=O4 fr o.dst v/\Good ⟨Z',p',g',h'⟩/\E1 s.g.next.toNat s.h.next.toNat s ⟨Z',p',g',h'⟩/\AR Z' p' v u:=by
 unfold Pc at e;split at e
 ·next hw=>
  split at e
  ·next args ha=>
   split at e
   ·next v g1 hr=>
    cases e;obtain⟨us,h1,h2⟩:=L9 hf ha;obtain⟨N,u,h',Z',p',h3,h4,h5,h6⟩:=VI hc hs h2 hr;exact⟨N,v,u,h',Z',p',by simp only[B3.run,Hr hf hw,h1,h3],rfl,h4,h5,h6⟩
   ·cases e
  ·cases e
 ·next hw=>
  cases e;exact⟨0,.unit,.unit,s.h,s.Z,s.p,by simp only[B3.run,Hr hf hw],rfl,hs,E1.refl _ _ _,Lc⟩
 ·cases e
theorem GU (hc:yP F pc):∀(l:List B3) {s:Sta} {fr:PFr} {fr1:Fr},Good s->FR s.Z s.p fr fr1->∀{fr':PFr} {g':A0},xR pc l fr s.g=some (fr',g') ->
  ∃N fr1' h' Z' p',G0 (Fh F noO (exec F noO N)) l fr1 s.h=some (fr1',h')/\Good ⟨Z',p',g',h'⟩/\E1 s.g.next.toNat s.h.next.toNat s ⟨Z',p',g',h'⟩/\FR Z' p' fr' fr1'
 |[],s,fr,fr1,hs,hf,fr',g',e=>by cases e;exact⟨0,fr1,s.h,s.Z,s.p,rfl,hs,E1.refl _ _ _,hf⟩
 |o::l,s,fr,fr1,hs,hf,fr',g',e=>by
  simp only[xR] at e;split at e
  ·next fr2 g2 ho=>
   obtain⟨N,v,u,h2,Z2,p2,h3,rfl,h4,h5,h6⟩:=uU hc hs hf ho;obtain⟨N',fr3,h7,Z3,p3,h8,h9,h10,h11⟩:=GU hc l h4 ((hf.mono h5.zle h5.ple).put h6 o.dst) e;refine⟨max N N',fr3,h7,Z3,p3,?_,h9,h5.trans hs.toGu h10 h5.nx.1 h5.nx.2,h11⟩;simp only[G0,L7 (Ph (Cp N N')) h3];exact Zj (Ph (Ca N N')) l h8
  ·cases e
theorem Uq {o n:Nat}:∀{l:Es},Tx o n l=true->∀i,o<=i->i<o+n->Still l i
 |[],_,i,_,_=>by intro q hq;cases hq
 |(a,m)::l,h,i,h1,h2=>by
  intro q hq;simp only[Tx,Au,AW,BC] at h;rcases Af.1 hq with rfl|hq
  ·simp only;omega
  ·exact Uq h.2 i h1 h2 q hq
theorem oZ {lo lov:Nat} {s s':Sta} (hs:Gu s) (he:E1 lo lov s s') {k:Key} {o n:Nat} (h:Rt (some (k,some (o,n))) s.g s'.g=true) :
  ∃x x' b,s.g.get k=some x/\s'.g.get k=some x'/\s.p k=some b/\∃y y',s.h.get b=some y/\s'.h.get b=some y'/\∃new,M6 new x.body x'.body y.body y'.body/\∀i,o<=i->i<o+n->Still new i:=by
 simp only[Rt] at h;split at h
 ·next x x' h1 h2=>
  obtain⟨b,y,h3,h4,_⟩:=hs.blk k x h1;obtain⟨new,h5,h6⟩:=he.log k x x' h1 h2;obtain⟨y',h7,h8⟩:=h6 b y h3 h4;rw[h5] at h;have:(new++x.log).take ((new++x.log).length-x.log.length)=new:=Ac;rw[this] at h;exact⟨x,x',b,h1,h2,h3,y,y',h4,h7,new,h8,Uq h⟩
 ·cases h
theorem iH {lo lov:Nat} {s s':Sta} (hs:Gu s) (he:E1 lo lov s s') {k:Key} (h:Rt (some (k,none)) s.g s'.g=true) :
  ∃x x' b,s.g.get k=some x/\s'.g.get k=some x'/\s.p k=some b/\∃y y',s.h.get b=some y/\s'.h.get b=some y'/\x'.body=x.body/\y'.body=y.body:=by
 simp only[Rt] at h;split at h
 ·next x x' h1 h2=>
  obtain⟨b,y,h3,h4,_⟩:=hs.blk k x h1;obtain⟨new,h5,h6⟩:=he.log k x x' h1 h2;obtain⟨y',h7,h8⟩:=h6 b y h3 h4;rw[h5] at h;have:new=[]:=by simp only[La,BQ] at h;exact Bm.1 Aa
  exact⟨x,x',b,h1,h2,h3,y,y',h4,h7,(h8.same this).1,(h8.same this).2⟩
 ·cases h
theorem yQ {g g':A0} {k:Key} {o n:Nat} {l:Ey} (h:g'.read k o n=some l) (hn:n≠0) {x x':B4} (h1:g.get k=some x) (h2:g'.get k=some x')
  (hk:∀c',x'.body=.cells c'->∃c,x.body=.cells c/\c.length=c'.length/\∀i,o<=i->i<o+n->c[i]?=c'[i]?):g.read k o n=some l:=by
 unfold A0.read at h ⊢;rw[Ao hn] at h ⊢;split at h
 ·next c' hc'=>
  split at h
  ·next hle=>
   cases h;obtain⟨own,frz,anc,log,hx⟩:=Uj (s:=⟨λ_=>none,λ_=>none,g',default⟩) hc';simp only at hx;rw[h2] at hx;cases hx;obtain⟨c,h3,h4,h5⟩:=hk c' rfl;obtain⟨body,own',frz',anc',log'⟩:=x;simp only at h3;subst h3;have:g.cells k=some c:=by simp[A0.cells,h1]
   simp only[this,h4,hle,Ak,Sj];apply Cv;intro i;rw[AT,AT];split;·next hi=>rw[BF,BF];exact h5 _ Aa Aa
   ·rfl
  ·cases h
 ·cases h
theorem yR {g g':Heap} {k:Key} {o n:Nat} {l:EB} (h:g'.read k o n=some l) (hn:n≠0) {x x':Blk} (h1:g.get k=some x) (h2:g'.get k=some x')
  (hk:∀c' m,x'.body=.cells c' m->∃c,x.body=.cells c m/\∀i,o<=i->i<o+n->c.get (kn i)=c'.get (kn i)):g.read k o n=some l:=by
 unfold Heap.read at h ⊢;rw[Ao hn] at h ⊢;split at h
 ·next c' m hc'=>
  split at h
  ·next hle=>
   unfold Heap.cells at hc';split at hc'
   ·next c0 n0 own anc hx=>
    cases hc';rw[h2] at hx;cases hx;obtain⟨c,h3,h4⟩:=hk _ _ rfl;obtain⟨body,own',anc'⟩:=x;simp only at h3;subst h3;have:g.cells k=some (c,m):=by simp[Heap.cells,h1]
    simp only[this,hle,Ak];have key:∀(n o:Nat) (l:EB),(∀i,o<=i->i<o+n->c.get (kn i)=c'.get (kn i))->Nv c' o n=some l->Nv c o n=some l:=by
     intro n;induction n with
     |zero=>intro o l _ e;exact e
     |succ n ih=>
      intro o l hh e;simp only[Nv] at e ⊢;rw[hh o Aa Aa];split at e
      ·next v hv=>
       split at e
       ·next l' hl=>
        simp only[ih (o+1) l' (λi h1 h2=>hh i Aa Aa) hl];exact e
       ·cases e
      ·cases e
    exact key n o l h4 h
   ·cases hc'
  ·cases h
 ·cases h
theorem M6.AaD {new:Es} {B B':Hj} {C C':Body} (h:M6 new B B' C C') {Z Z':ZM} {p p':Ren} (hb:BR Z p B C) (hb':BR Z' p' B' C') {o n:Nat} (hst:∀i,o<=i->i<o+n->Still new i) :
  (∀c',B'=.cells c'->∃c,B=.cells c/\c.length=c'.length/\∀i,o<=i->i<o+n->c[i]?=c'[i]?) /\
  (∀c' m,C'=.cells c' m->∃c,C=.cells c m/\∀i,o<=i->i<o+n->c.get (kn i)=c'.get (kn i)):=by
 have main:∀l,B=.cells l->(∀c',B'=.cells c'->∃c,B=.cells c/\c.length=c'.length/\∀i,o<=i->i<o+n->c[i]?=c'[i]?) /\
  (∀c' m,C'=.cells c' m->∃c,C=.cells c m/\∀i,o<=i->i<o+n->c.get (kn i)=c'.get (kn i)):=by
  intro l hl
  subst hl
  obtain⟨c,rfl,_⟩:=hb.cells
  obtain⟨l',c',rfl,rfl,h3,h4⟩:=h.cells l c _ rfl rfl
  exact⟨λc1 e=>by cases e;exact⟨l,rfl,h3.symm,λi h1 h2=>(h4 i (hst i h1 h2)).1.symm⟩,λc1 m e=>by cases e;exact⟨c,rfl,λi h1 h2=>(h4 i (hst i h1 h2)).2.symm⟩⟩
 refine⟨λc' e=>?_,λc' m e=>?_⟩;·obtain⟨l,hl⟩:=h.kind c' e;exact(main l hl).1 c' e
 ·subst e;cases B' with
  |cells l'=>obtain⟨l,hl⟩:=h.kind l' rfl;exact(main l hl).2 c' m rfl
  |map _=>exact absurd hb' id
  |iter _ _ _=>exact absurd hb' id
theorem cY {lo lov:Nat} {s s':Sta} (hs:Gu s) (hs':Gu s') (he:E1 lo lov s s') {k:Key} {o n:Nat} (h:Rt (some (k,some (o,n))) s.g s'.g=true) (hn:n≠0) {b:Key} (hb:s'.p k=some b) :
  (∀l,s'.g.read k o n=some l->s.g.read k o n=some l)/\(∀l,s'.h.read b o n=some l->s.h.read b o n=some l):=by obtain⟨x,x',b1,h1,h2,h3,y,y',h4,h5,new,h6,h7⟩:=oZ hs he h;have h8:=he.ple _ _ h3;rw[hb] at h8;cases h8;obtain⟨b2,y2,e1,e2,e3⟩:=hs.blk k x h1;rw[h3] at e1;cases e1;rw[h4] at e2;cases e2;obtain⟨b3,y3,f1,f2,f3⟩:=hs'.blk k x' h2;rw[hb] at f1;cases f1;rw[h5] at f2;cases f2;obtain⟨m1,m2⟩:=h6.AaD e3.body f3.body h7;exact⟨λl e=>yQ e hn h1 h2 m1,λl e=>yR e hn h4 h5 m2⟩
end
section
theorem KQ {o:VOp} (hb:Qg o=true) (args:Ez):∃r:Option PA,∀h:A0,opP o args h=r.map λv=>(v,h):=by
 refine⟨(opP o args default).map (·.1),λh=>?_⟩;cases o<;>first|(simp[Qg] at hb;done)|skip
 case mov=>simp only[opP,UK];split<;>rfl
 case pick=>simp only[opP,FU];split<;>rfl
 case build=>simp only[opP,fJ];split<;>(try split)<;>rfl
 case J7=>simp only[opP,Pb];split<;>rfl
 case bin=>simp only[opP,Td,Hv];split<;>(try split)<;>rfl
 case eq=>simp only[opP,pEq];split<;>(try split)<;>rfl
 case un=>simp only[opP,pUn,Hv];split<;>(try split)<;>rfl
 case conv=>simp only[opP,FV];split<;>rfl
 case Rk=>simp only[opP,Yw];split<;>rfl
 case slice k lo hi mx=>
  simp only[opP,aO];split
  ·split
   ·split
    ·split;·rfl
     ·split<;>rfl
    ·unfold Hv;split<;>rfl
    ·unfold Hv;split<;>rfl
    ·rfl
   ·rfl
  ·rfl
 case Ft=>simp only[opP,Xf];split<;>(try split)<;>rfl
 case field=>simp only[opP,aP,noP];split<;>(try split)<;>rfl
 case xI=>simp only[opP,FW];split<;>(try split)<;>rfl
 case isl=>simp only[opP,nZ];split<;>(try split)<;>(try split)<;>rfl
 case idx=>simp only[opP,UL,noP];split<;>(try split)<;>(try split)<;>rfl
 case xJ=>simp only[opP,FX];split<;>(try split)<;>(try split)<;>rfl
 case extract=>simp only[opP,Nz,noP];split<;>(try split)<;>rfl
 case lens=>simp only[opP,sO];split<;>rfl
 case Pz=>simp only[opP,eE];split<;>rfl
 case P0=>simp only[opP,eG];split<;>rfl
 case cap=>simp only[opP,UM];split<;>rfl
 case Nu=>simp only[opP,Y0,Hv];split<;>(try split)<;>rfl
 all_goals rfl
theorem uV {o:VOp} (hb:Qg o=true) (vs:EA):Ts o vs=none:=by cases o<;>first|(simp[Qg] at hb;done)|rfl
variable {lo lov:Nat} {s s':Sta}
theorem VJ (hs:Gu s) (hs':Gu s') (he:E1 lo lov s s') {b:Key} (hz:s.Z b≠none) {c:Tr SV} {m:Nat} (h:s'.h.cells b=some (c,m)):s.h.cells b=some (c,m):=by
 cases h1:s.Z b with
 |none=>exact absurd h1 hz
 |some body=>obtain⟨⟨b1,o1,a1⟩,e1,e2⟩:=hs.z b body h1;obtain⟨⟨b2,o2,a2⟩,f1,f2⟩:=hs'.z b body (he.zle _ _ h1);simp only at e2 f2;subst e2;subst f2;simp only[Heap.cells,f1] at h;simp only[Heap.cells,e1];cases b2<;>first|exact h|cases h
theorem OT (hs:Gu s) (hs':Gu s') (he:E1 lo lov s s') {b:Key} {o n:Nat} (hz:n≠0->s.Z b≠none) {l:EB} (h:s'.h.read b o n=some l):s.h.read b o n=some l:=by
 unfold Heap.read at h ⊢;split at h;·next h0=>rw[Aj h0];exact h
 ·next h0=>
  rw[Ao h0];split at h;·next c m hc=>rw[VJ hs hs' he (hz h0) hc];exact h
  ·cases h
theorem Xn (hs:Gu s) (hs':Gu s') (he:E1 lo lov s s') {o:VOp} (hk:o.kind=.quiet) {args:Ez} {vs:EA} {v:PA} (ha:A1 (AR s'.Z s'.p) args vs) (e:opP o args s'.g=some (v,s'.g)) {u:AV}
  (hu:o.run vs s'.h=some (u,s'.h)) (hrd:Rt (rdP o args) s.g s'.g=true) (hrf:rdF o args=true->A1 (AR s.Z s.p) args vs):opP o args s.g=some (v,s.g)/\o.run vs s.h=some (u,s.h):=by
 by_cases hb:Qg o=true
 ·obtain⟨r,hr⟩:=KQ hb args;rw[hr] at e ⊢;cases r with
  |none=>cases e
  |some w=>simp only[AK,Sj,Pj] at e ⊢;refine⟨⟨e.1,Ae⟩,(Jb hk hu).2 s.h λb h=>?_⟩;rw[uV hb] at h;cases h
 ·cases o<;>first|exact absurd rfl hb|(simp[VOp.kind] at hk;done)|skip
  case Fb=>
   simp only[opP,Qc] at e;split at e
   ·next b o=>
    obtain⟨y,rfl,h⟩:=A1.one ha;obtain⟨z,rfl,b',hp,rfl⟩:=h.s;obtain⟨m1,m2⟩:=cY hs hs' he hrd Aa hp;split at e
    ·next x hx=>
     cases e;simp only[VOp.run,Kk] at hu;split at hu
     ·next w hw=>
      cases hu;exact⟨by simp only[opP,Qc,m1 _ hx],by simp only[VOp.run,Kk,m2 _ hw]⟩
     ·cases hu
    ·cases e
   ·next x l=>
    obtain⟨y,rfl,h⟩:=A1.one (hrf rfl);obtain⟨z,rfl,hz⟩:=h.s;obtain⟨b,o,f,rfl,h1,h2⟩:=A8.rp' hz;cases e;simp only[VOp.run,Kk] at hu;split at hu
    ·next w hw=>
     cases hu;obtain⟨c,m,h3,_⟩:=h1 Ac;have:=OT hs hs' he (λ_=>by rw[h3];simp) hw;exact⟨rfl,by simp only[VOp.run,Kk,this]⟩
    ·cases hu
   ·cases e
  case Fl n=>
   simp only[opP,Km] at e;split at e
   ·next b o=>
    obtain⟨y,rfl,h⟩:=A1.one ha;obtain⟨z,rfl,b',hp,rfl⟩:=h.s;split at e
    ·next x hx=>
     cases e;simp only[VOp.run,Kl] at hu;split at hu
     ·next w hw=>
      cases hu;by_cases h0:n=0;·subst h0;simp only[A0.read,Heap.read,Ak,Sj] at hx hw;subst hx;subst hw;exact⟨by simp[opP,Km,A0.read],by simp[VOp.run,Kl,Heap.read]⟩
      ·simp only[rdP,h0,Ag] at hrd;obtain⟨m1,m2⟩:=cY hs hs' he hrd h0 hp;exact⟨by simp only[opP,Km,m1 _ hx],by simp only[VOp.run,Kl,m2 _ hw]⟩
     ·cases hu
    ·cases e
   ·next l=>
    obtain⟨y,rfl,h⟩:=A1.one (hrf rfl);obtain⟨z,rfl,hz⟩:=h.s;obtain⟨b,o,f,rfl,h1,h2⟩:=A8.rp' hz;split at e
    ·next hn=>
     cases e;simp only[VOp.run,Kl] at hu;split at hu
     ·next w hw=>
      cases hu;have:=OT hs hs' he (λh0=>by obtain⟨c,m,h3,_⟩:=h1 Aa;rw[h3];simp) hw;exact⟨by simp only[opP,Km];rw[Aj hn],by simp only[VOp.run,Kl,this]⟩
     ·cases hu
    ·cases e
   ·cases e
  case lookup ks zero ok=>
   simp only[opP,Ik] at e;split at e
   ·next k=>
    obtain⟨y,k',rfl,h,hk'⟩:=A1.two ha;obtain⟨z,rfl,hz⟩:=h.s;cases A8.Ww hz;obtain⟨k',rfl,hk'⟩:=hk'.cv;refine⟨?_,(Jb hk hu).2 s.h λb h=>Ad⟩;split at e
    ·next z hz=>
     split at e;·next hf=>cases e;simp only[opP,Ik,hz];rw[Aj hf]
     ·cases e
    ·cases e
   ·next b k=>
    obtain⟨y,k',rfl,h,hk'⟩:=A1.two ha;obtain⟨z,rfl,b',hp,rfl⟩:=h.s;obtain⟨k',rfl,hk'⟩:=hk'.cv;obtain⟨x,x',b1,h1,h2,h3,y,y',h4,h5,h6,h7⟩:=iH hs he hrd;have h8:=he.ple _ _ h3;rw[hp] at h8;cases h8;obtain⟨body,own,frz,anc,log⟩:=x;obtain⟨body',own',frz',anc',log'⟩:=x';obtain⟨yb,yo,ya⟩:=y;obtain⟨yb',yo',ya'⟩:=y';simp only at h6 h7;subst h6;subst h7;rw[h2] at e;constructor
    ·simp only[opP,Ik,h1];split at e
     ·next z hz=>
      split at e
      ·next hf=>
       rw[Aj hf];cases body' with
       |map l=>
        simp only at e ⊢;split at e;·cases e;rfl
        ·cases e
       |cells _=>cases e
       |iter _ _ _=>cases e
      ·cases e
     ·cases e
    ·simp only[VOp.run,H5,h5] at hu;simp only[VOp.run,H5,h4];split at hu
     ·next hf=>
      rw[Aj hf];cases yb' with
      |map l=>
       simp only at hu ⊢;split at hu;·cases hu;rfl
       ·cases hu
      |cells _ _=>cases hu
      |iter _ _ _=>cases hu
      |lP _ _=>cases hu
     ·cases hu
   ·next a b k=>
    obtain⟨y,k',rfl,h,hk'⟩:=A1.two (hrf rfl);obtain⟨z,rfl,hz⟩:=h.s;obtain⟨b',lv,rfl,hzb,_⟩:=A8.mp' hz;obtain⟨k',rfl,hk'⟩:=hk'.cv;obtain⟨⟨yb,yo,ya⟩,h2,h3⟩:=hs.z _ _ hzb;obtain⟨⟨zb,zo,za⟩,h4,h5⟩:=hs'.z _ _ (he.zle _ _ hzb);simp only at h3 h5;subst h3;subst h5;constructor
    ·simp only[opP,Ik];split at e
     ·next z hz=>
      split at e
      ·next hf=>
       rw[Aj hf];split at e;·next r hr=>cases e;rfl
       ·cases e
      ·cases e
     ·cases e
    ·simp only[VOp.run,H5,h4] at hu;simp only[VOp.run,H5,h2];split at hu
     ·next hf=>
      rw[Aj hf];split at hu;·cases hu;rfl
      ·cases hu
     ·cases hu
   ·cases e
  case lE=>
   simp only[opP,lV] at e;split at e;·obtain⟨y,rfl,h⟩:=A1.one ha;obtain⟨z,rfl,hz⟩:=h.s;cases A8.Ww hz;cases e;exact⟨rfl,(Jb hk hu).2 s.h λb h=>Ad⟩
   ·next b=>
    obtain⟨y,rfl,h⟩:=A1.one ha;obtain⟨z,rfl,b',hp,rfl⟩:=h.s;obtain⟨x,x',b1,h1,h2,h3,y,y',h4,h5,h6,h7⟩:=iH hs he hrd;have h8:=he.ple _ _ h3;rw[hp] at h8;cases h8;obtain⟨body,own,frz,anc,log⟩:=x;obtain⟨body',own',frz',anc',log'⟩:=x';obtain⟨yb,yo,ya⟩:=y;obtain⟨yb',yo',ya'⟩:=y';simp only at h6 h7;subst h6;subst h7;rw[h2] at e;constructor
    ·simp only[opP,lV,h1];cases body' with
     |map l=>cases e;rfl
     |cells _=>cases e
     |iter _ _ _=>cases e
    ·simp only[VOp.run,Tp,h5] at hu;simp only[VOp.run,Tp,h4];cases yb' with
     |map l=>cases hu;rfl
     |cells _ _=>cases hu
     |iter _ _ _=>cases hu
     |lP _ _=>cases hu
   ·cases e
theorem yS (hs:Gu s) {o:VOp} (hk:o.kind=.quiet) {args:Ez} {vs:EA} {v:PA} {g':A0} (ha:A1 (AR s.Z s.p) args vs) (e:opP o args s.g=some (v,g')) {b:Key} (hb:Ts o vs=some b) :
  (∃k r,rdP o args=some (k,r)/\s.p k=some b)∨(rdF o args=true/\s.Z b≠none):=by
 by_cases hbl:Qg o=true;·rw[uV hbl] at hb;cases hb
 ·cases o<;>first|exact absurd rfl hbl|(simp[VOp.kind] at hk;done)|skip
  case Fb=>
   simp only[opP,Qc] at e;split at e
   ·next b o=>
    obtain⟨y,rfl,h⟩:=A1.one ha;obtain⟨z,rfl,b',hp,rfl⟩:=h.s;cases hb;exact .inl ⟨_,_,rfl,hp⟩
   ·next x l=>
    obtain⟨y,rfl,h⟩:=A1.one ha;obtain⟨z,rfl,hz⟩:=h.s;obtain⟨b,o,f,rfl,h1,h2⟩:=A8.rp' hz;cases hb;obtain⟨c,m,h3,_⟩:=h1 Ac;exact .inr ⟨rfl,by rw[h3];simp⟩
   ·cases e
  case Fl n=>
   simp only[opP,Km] at e;split at e
   ·next b o=>
    obtain⟨y,rfl,h⟩:=A1.one ha;obtain⟨z,rfl,b',hp,rfl⟩:=h.s;simp only[Ts] at hb;split at hb;·cases hb
    ·next h0=>cases hb;exact .inl ⟨_,_,by simp only[rdP,h0,Ag];rfl,hp⟩
   ·next l=>
    obtain⟨y,rfl,h⟩:=A1.one ha;obtain⟨z,rfl,hz⟩:=h.s;obtain⟨b,o,f,rfl,h1,h2⟩:=A8.rp' hz;simp only[Ts] at hb;split at hb;·cases hb
    ·next h0=>
     cases hb;split at e
     ·next hn=>
      obtain⟨c,m,h3,_⟩:=h1 Aa;exact .inr ⟨rfl,by rw[h3];simp⟩
     ·cases e
   ·cases e
  case lookup ks zero ok=>
   simp only[opP,Ik] at e;split at e;·obtain⟨y,k',rfl,h,hk'⟩:=A1.two ha;obtain⟨z,rfl,hz⟩:=h.s;cases A8.Ww hz;cases hb
   ·obtain⟨y,k',rfl,h,hk'⟩:=A1.two ha;obtain⟨z,rfl,b',hp,rfl⟩:=h.s;cases hb;exact .inl ⟨_,_,rfl,hp⟩
   ·obtain⟨y,k',rfl,h,hk'⟩:=A1.two ha;obtain⟨z,rfl,hz⟩:=h.s;obtain⟨b',lv,rfl,hzb,_⟩:=A8.mp' hz;cases hb;exact .inr ⟨rfl,by rw[hzb];simp⟩
   ·cases e
  case lE=>
   simp only[opP,lV] at e;split at e;·obtain⟨y,rfl,h⟩:=A1.one ha;obtain⟨z,rfl,hz⟩:=h.s;cases A8.Ww hz;cases hb
   ·obtain⟨y,rfl,h⟩:=A1.one ha;obtain⟨z,rfl,b',hp,rfl⟩:=h.s;cases hb;exact .inl ⟨_,_,rfl,hp⟩
   ·cases e
end
section
variable {F:D5} {pc:Jw} {Z:ZM} {p:Ren}
def Hg (lo lov:Nat) (s:Sta) (fr:PFr) (fr1:Fr) (a:A0×ED) (b:Heap):Prop:=
 ∃Z p,Gu ⟨Z,p,a.1,b⟩/\E1 lo lov ⟨Z,p,a.1,b⟩ s/\∀k v,k∉a.2->fr.get k=some v->∃u,fr1.get k=some u/\AR Z p v u
structure lK (lo hi:Key) (lov hiv:Key) (r rv:Key) (s:Sta):Prop where
 Ij:Good s
 nx:s.g.next=hi∨hi.toNat<=s.g.next.toNat
 nxv:hiv.toNat<=s.h.next.toNat
 same:∀k b,s.p k=some b->((lo.toNat<=k.toNat/\k.toNat<hi.toNat)↔(lov.toNat<=b.toNat/\b.toNat<hiv.toNat))
 made:∀b:Key,lov.toNat<=b.toNat->b.toNat<hiv.toNat->s.h.get b≠none->∃k,s.p k=some b
 uW:∀k:Key,r.toNat<=k.toNat->k.toNat<hi.toNat->s.p k=none
 mM:∀b:Key,rv.toNat<=b.toNat->b.toNat<hiv.toNat->(∀k,s.p k≠some b)/\s.Z b=none
 step:r.toNat+lov.toNat=rv.toNat+lo.toNat
 len:hi.toNat+lov.toNat=hiv.toNat+lo.toNat
 ge:lo.toNat<=r.toNat
theorem Sk {lo lov:Nat} {s s':Sta} {fr fr':PFr} {fr1 fr1':Fr} (he:∀Z p g h,Gu ⟨Z,p,g,h⟩->E1 lo lov ⟨Z,p,g,h⟩ s->E1 lo lov ⟨Z,p,g,h⟩ s') {d:EE}
  (hfr:∀k,d≠some k->fr'.get k=fr.get k) (hfr1:∀k,d≠some k->fr1'.get k=fr1.get k) {a:Hp} {b:List Heap} (h:A1 (Hg lo lov s fr fr1) a b):A1 (Hg lo lov s' fr' fr1') (wrote d a) b:=by
 have one:∀x y,Hg lo lov s fr fr1 x y->Hg lo lov s' fr' fr1' (match d with|some k=>(x.1,k::x.2)|none=>x) y:=by
  rintro x y ⟨Z,p,h1,h2,h3⟩;cases d with
  |none=>exact⟨Z,p,h1,he _ _ _ _ h1 h2,λk v hk e=>by rw[hfr k Ac] at e;rw[hfr1 k Ac];exact h3 k v hk e⟩
  |some d=>refine⟨Z,p,h1,he _ _ _ _ h1 h2,λk v hk e=>?_⟩;simp only[Af,not_or] at hk;rw[hfr k (by simp[BL hk.1])] at e;rw[hfr1 k (by simp[BL hk.1])];exact h3 k v hk.2 e
 induction h with
 |nil=>cases d<;>exact .nil
 |cons h _ ih=>
  cases d with
  |none=>exact .cons (one _ _ h) ih
  |some d=>exact .cons (one _ _ h) ih
theorem Xo {g:A0}:∀{n:Nat} {k:Key},S9 g k n=true->∀j:Key,k.toNat<=j.toNat->j.toNat<k.toNat+n->∀x,g.get j=some x->x.frz=false
 |0,k,_,j,h1,h2=>Aa
 |n+1,k,h,j,h1,h2=>by
  intro x hx;simp only[S9,Au] at h;by_cases e:k.toNat=j.toNat;·have:=Key.toNat_inj e;subst this;rw[hx] at h;simpa using h.1
  ·exact Xo h.2 j (by rw[Key.toNat_succ];omega) (by rw[Key.toNat_succ];omega) x hx
theorem Ur {ws:ED} {fr:PFr} {fr1:Fr} (h:∀k v,k∉ws->fr.get k=some v->∃u,fr1.get k=some u/\AR Z p v u):∀{xs:List VX} {args:Ez} {vs:EA},Oa ws xs=true->Ip fr xs=some args->G7 fr1 xs=some vs->A1 (AR Z p) args vs
 |[],args,vs,_,e,e'=>by cases e;cases e';exact .nil
 |x::xs,args,vs,hk,e,e'=>by
  simp only[Ip] at e;simp only[G7] at e';split at e
  ·next v hv=>
   split at e
   ·next ws' hws=>
    cases e;split at e'
    ·next u hu=>
     split at e'
     ·next us hus=>
      cases e';cases x with
      |t k=>simp only[Oa,Au,AX,Dd,decide_eq_false_iff_not] at hk;obtain⟨u',h1,h2⟩:=h k v hk.1 hv;simp only[VX.eval] at hu;rw[h1] at hu;cases hu;exact .cons h2 (Ur h hk.2 hws hus)
      |c a=>simp only[Oa] at hk;simp only[VX.eval,Sj] at hu;subst hu;exact .cons (uN hv) (Ur h hk hws hus)
     ·cases e'
    ·cases e'
   ·cases e
  ·cases e
theorem uX (v:AV):AV.beq v v=true:=by simp[AV.beq]
theorem iI {lo lov:Nat} {s:Sta} (hs:Gu s) {fr:PFr} {fr1:Fr} {o:VOp} (hk:o.kind=.quiet) {xs:List VX} {args:Ez} {vs:EA} (hfe:Ip fr xs=some args) (hfe1:G7 fr1 xs=some vs) (ha:A1 (AR s.Z s.p) args vs)
  {v:PA} {u:AV} (e:opP o args s.g=some (v,s.g)) (hu:o.run vs s.h=some (u,s.h)):∀{a:Hp} {b:List Heap},A1 (Hg lo lov s fr fr1) a b->Pd xs (rdP o args) (rdF o args) s.g a=true->Lw o vs u b=true
 |[],[],_,_=>rfl
 |(g,ws)::a,h::b,hab,hsame=>by
  cases hab with
  |cons h1 h2=>
  obtain⟨Z,p,h3,h4,h5⟩:=h1;simp only[Pd,Au,AW,AX] at hsame;obtain⟨⟨hk1,hk2⟩,hk3⟩:=hsame;have:=(Xn h3 hs h4 hk ha e hu hk2 λhf=>by
   rcases hk1 with hk1|hk1
   ·rw[hf] at hk1;cases hk1
   ·exact Ur h5 hk1 hfe hfe1).2
  simp only[Lw,this,uX,Bool.true_and];exact iI hs hk hfe hfe1 ha e hu h2 hk3
 |[],_::_,hab,_=>by cases hab
 |_::_,[],hab,_=>by cases hab
theorem Xp {lo lov:Nat} {s:Sta} (hs:Gu s) {fr:PFr} {fr1:Fr} {o:VOp} (hk:o.kind=.quiet) {xs:List VX} {args:Ez} {vs:EA} (hfe:Ip fr xs=some args) (hfe1:G7 fr1 xs=some vs) (ha:A1 (AR s.Z s.p) args vs)
  {v:PA} {u:AV} (e:opP o args s.g=some (v,s.g)) (hu:o.run vs s.h=some (u,s.h)) (d:EE):∀{a:Hp} {b:List Heap},A1 (Hg lo lov s fr fr1) a b->A1 (Hg lo lov s (O4 fr d v) (Fp fr1 d u)) (Ob d xs (rdP o args) s.g a) b
 |[],[],_=>.nil
 |(g,ws)::a,h::b,hab=>by
  cases hab with
  |cons h1 h2=>
  refine .cons ?_ (Xp hs hk hfe hfe1 ha e hu d h2);obtain⟨Z,p,h3,h4,h5⟩:=h1;refine⟨Z,p,h3,h4,?_⟩;cases d with
  |none=>exact λk w hk e=>h5 k w hk e
  |some d=>
   intro k w hkw ew;simp only[O4,Tr.D1] at ew;simp only[Fp,Tr.D1];simp only at hkw;by_cases hd:d=k
   ·subst hd;simp only[Ak,Sj] at ew ⊢;subst ew;split at hkw
    ·next hc=>
     simp only[Au] at hc;have hargs:=Ur h5 hc.1 hfe hfe1;obtain⟨q1,q2⟩:=Xn h3 hs h4 hk ha e hu hc.2 λ_=>hargs;obtain⟨_,u',q3,q4⟩:=Vz hk ⟨Z,p,g,h⟩ h3 args vs _ _ hargs q1;simp only at q2 q3;rw[q2] at q3;cases q3;exact⟨u,rfl,q4⟩
    ·simp at hkw
   ·simp only[hd,Ag] at ew ⊢;refine h5 k w (λhm=>hkw ?_) ew;split;·exact hm
    ·exact BX _ hm
 |[],_::_,hab=>by cases hab
 |_::_,[],hab=>by cases hab
theorem Gu.Xq {Z:ZM} {p:Ren} {g g':A0} {h h':Heap} (e:g'.mem=g.mem) (e':h'.mem=h.mem) (hs:Gu ⟨Z,p,g,h⟩):Gu ⟨Z,p,g',h'⟩:=by
 have h1:g'.get=g.get:=by funext k;simp[A0.get,e]
 have h2:h'.get=h.get:=by funext k;simp[Heap.get,e']
 exact⟨hs.inj,λk x hx=>by simp only[h1,h2] at hx ⊢;exact hs.blk k x hx,λb c hc=>by simp only[h2];exact hs.z b c hc,λk b hp hg=>by simp only[h1,h2] at hg ⊢;exact hs.dead k b hp hg⟩
theorem E1.Xq {lo lov:Nat} {s:Sta} {Z:ZM} {p:Ren} {g g':A0} {h h':Heap} (e:g'.mem=g.mem) (e':h'.mem=h.mem) (hn:s.g.next.toNat<=g'.next.toNat/\s.h.next.toNat<=h'.next.toNat) (hx:E1 lo lov s ⟨Z,p,g,h⟩):E1 lo lov s ⟨Z,p,g',h'⟩:=by
 have h1:g'.get=g.get:=by funext k;simp[A0.get,e]
 have h2:h'.get=h.get:=by funext k;simp[Heap.get,e']
 exact⟨hn,hx.zle,hx.ple,hx.Nk,hx.Jv,λb hb hn=>by simp only[h2];exact hx.frame b hb hn,λk b hp hg=>by simp only[h1];exact hx.gone k b hp hg,
  λk x x' a b=>by simp only[h1,h2] at b ⊢;exact hx.log k x x' a b⟩
theorem E1.pC {lo lov:Nat} {s':Sta} {Z:ZM} {p:Ren} {g g':A0} {h h':Heap} (e:g'.mem=g.mem) (e':h'.mem=h.mem) (hn:g'.next.toNat<=s'.g.next.toNat/\h'.next.toNat<=s'.h.next.toNat) (hx:E1 lo lov ⟨Z,p,g,h⟩ s'):E1 lo lov ⟨Z,p,g',h'⟩ s':=by
 have h1:g'.get=g.get:=by funext k;simp[A0.get,e]
 have h2:h'.get=h.get:=by funext k;simp[Heap.get,e']
 exact⟨hn,hx.zle,hx.ple,hx.Nk,hx.Jv,λb hb hn=>by simp only[h2];exact hx.frame b hb hn,λk b hp hg=>hx.gone k b hp (by simp only[h1] at hg;exact hg),
  λk x x' a b=>by simp only[h1,h2] at a ⊢;exact hx.log k x x' a b⟩
theorem iJ {lo hi lov hiv r rv:Key} {s:Sta} (hd:lK lo hi lov hiv r rv s) (hlt:r.toNat<hi.toNat) {o:B3} (hk:o.act.kind=.alloc) {fr:PFr} {fr1:Fr} (hf:FR s.Z s.p fr fr1) {fr':PFr} {g':A0} (e:Pc pc o fr { s.g with next:=r }=some (fr',g')) :
  ∃v u h' p',(∀N,o.run (Fh F noO (exec F noO N)) fr1 { s.h with next:=rv }=some (Fp fr1 o.dst u,h'))/\fr'=O4 fr o.dst v/\lK lo hi lov hiv r.succ rv.succ ⟨s.Z,p',{ g' with next:=s.g.next },{ h' with next:=s.h.next }⟩ /\
   E1 lo.toNat lov.toNat s ⟨s.Z,p',{ g' with next:=s.g.next },{ h' with next:=s.h.next }⟩/\AR s.Z p' v u:=by
 have hlv:rv.toNat<hiv.toNat:=by have:=hd.step;have:=hd.len;omega
 have hgv:lov.toNat<=rv.toNat:=by have:=hd.step;have:=hd.ge;omega
 unfold Pc at e;split at e
 ·next hw=>
  split at e
  ·next args ha=>
   split at e
   ·next v g1 hr=>
    cases e;obtain⟨us,h1,h2⟩:=L9 hf ha;obtain⟨dst,act,xs,gd⟩:=o;simp only at hk hw ha hr;cases act with
    |call f=>simp[Ff.kind] at hk
    |Kr=>simp[Ff.kind] at hk
    |op a=>
     have hsr:Gu ⟨s.Z,s.p,{ s.g with next:=r },{ s.h with next:=rv }⟩:=Gu.Xq (g:=s.g) (h:=s.h) rfl rfl hd.Ij.toGu;have hfa:Xk ⟨s.Z,s.p,{ s.g with next:=r },{ s.h with next:=rv }⟩ r rv:=⟨hd.uW r Rl hlt,(hd.mM rv Rl hlv).2,(hd.mM rv Rl hlv).1⟩;simp only[sP] at hr;obtain⟨u,body,own,y,rfl,h3,h4,h5,h6⟩:=mK hk _ hsr hfa args us v _ h2 hr;simp only at h3 h4 h6;have hns:=GL hsr hfa (anc:=[]) h4 λho=>⟨(h5 ho).1,by rw[(h5 ho).2];exact .nil⟩;have hne:=GM hsr hfa (body:=body) (own:=own) (anc:=[]) (y:=y);refine⟨v,u,_,s.p.set r rv,λN=>by simp only[B3.run,Hr hf hw,h1,Ff.run,h3];rfl,rfl,?_,?_,h6⟩
     ·refine⟨⟨Gu.Xq (g:=({ s.g with next:=r }:A0).Fu body own []) (h:=({ s.h with next:=rv }:Heap).Fu y) rfl rfl hns,⟨λk b hkb=>?_,λb c hc=>?_,λb hb=>?_⟩⟩,hd.nx,hd.nxv,λk b hkb=>?_,λb hb1 hb2 hb3=>?_,λk hk1 hk2=>?_,λb hb1 hb2=>?_,?_,hd.len,?_⟩
      ·simp only at hkb ⊢;by_cases e:r=k
       ·subst e;rw[Ren.D6] at hkb;cases hkb;have:=hd.nxv;rcases hd.nx with h|h
        ·rw[h];omega
        ·omega
       ·rw[Ren.Gm _ _ e] at hkb;exact hd.Ij.pk k b hkb
      ·exact hd.Ij.zr b c hc
      ·have hb:s.h.next.toNat<=b.toNat:=hb;have:=hd.nxv;have hne':rv≠b:=by rintro rfl;omega
       have h9:(({ s.h with next:=rv }:Heap).Fu y).get b=s.h.get b:=by rw[Gt];simp only[hne',Ag];rfl
       exact h9.trans (hd.Ij.top b hb)
      ·simp only at hkb;by_cases e:r=k;·subst e;rw[Ren.D6] at hkb;cases hkb;have:=hd.ge;exact⟨λ_=>⟨hgv,hlv⟩,λ_=>⟨this,hlt⟩⟩
       ·rw[Ren.Gm _ _ e] at hkb;exact hd.same k b hkb
      ·simp only at hb3 ⊢;by_cases e:rv=b;·subst e;exact⟨r,Ren.D6 _ _ _⟩
       ·have:s.h.get b≠none:=by
         intro h0;apply hb3;have:(({ s.h with next:=rv }:Heap).Fu y).get b=none:=by rw[Gt];simp only[e,Ag];exact h0
         exact this
        obtain⟨k,hkb⟩:=hd.made b hb1 hb2 this;exact⟨k,hfa.le k b hkb⟩
      ·simp only;rw[Key.toNat_succ] at hk1;have hne':r≠k:=by rintro rfl;omega
       rw[Ren.Gm _ _ hne'];exact hd.uW k Aa hk2
      ·rw[Key.toNat_succ] at hb1;obtain⟨h7,h8⟩:=hd.mM b Aa hb2;refine⟨λk hkb=>?_,h8⟩;simp only at hkb;by_cases e:r=k;·subst e;rw[Ren.D6] at hkb;cases hkb;omega
       ·rw[Ren.Gm _ _ e] at hkb;exact h7 k hkb
      ·rw[Key.toNat_succ,Key.toNat_succ];have:=hd.step;omega
      ·rw[Key.toNat_succ];have:=hd.ge;omega
     ·have h7:E1 lo.toNat lov.toNat ⟨s.Z,s.p,{ s.g with next:=r },{ s.h with next:=rv }⟩ (Sta.new ⟨s.Z,s.p,{ s.g with next:=r },{ s.h with next:=rv }⟩ body own [] y):=
       (E1.refl lo.toNat lov.toNat _).trans hsr hne (by simpa using hd.ge) (by simpa using hgv)
      have h8:=E1.Xq (s:=⟨s.Z,s.p,{ s.g with next:=r },{ s.h with next:=rv }⟩) (Z:=s.Z) (p:=s.p.set r rv) (g:=({ s.g with next:=r }:A0).Fu body own []) (h:=({ s.h with next:=rv }:Heap).Fu y) (g':={ ({ s.g with next:=r }:A0).Fu body own [] with next:=s.g.next }) (h':={ ({ s.h with next:=rv }:Heap).Fu y with next:=s.h.next }) rfl rfl
       (by
        have h1:=hd.nxv
        have h2:hi.toNat<=s.g.next.toNat:=by
         rcases hd.nx with h|h
         ·rw[h];exact Rl
         ·exact h
        refine⟨?_,?_⟩
        ·show r.toNat<=s.g.next.toNat
         omega
        ·show rv.toNat<=s.h.next.toNat
         omega) h7
      exact E1.pC (g:={ s.g with next:=r }) (h:={ s.h with next:=rv }) rfl rfl ⟨Rl,Rl⟩ h8
   ·cases e
  ·cases e
 ·next hw=>
  cases e;refine⟨.unit,.unit,{ s.h with next:=rv },s.p,λN=>by simp only[B3.run,Hr hf hw],rfl,?_,?_,Lc⟩
  ·refine⟨⟨Gu.Xq (g:=s.g) (h:=s.h) rfl rfl hd.Ij.toGu,⟨hd.Ij.pk,hd.Ij.zr,hd.Ij.top⟩⟩,hd.nx,hd.nxv,hd.same,hd.made,λk h1 h2=>hd.uW k (by rw[Key.toNat_succ] at h1;omega) h2,λb h1 h2=>hd.mM b (by rw[Key.toNat_succ] at h1;omega) h2,?_,hd.len,?_⟩;·rw[Key.toNat_succ,Key.toNat_succ];have:=hd.step;omega
   ·rw[Key.toNat_succ];have:=hd.ge;omega
  ·exact E1.refl _ _ _
 ·cases e
theorem Ir (d:DOp) (l:List DOp):D4 (d::l)=(if d.o.act.kind=.alloc then 1 else 0)+D4 l:=rfl
theorem Q7 (hc:yP F pc) (lo hi lov hiv:Key) (n:Nat) (hn:lo.toNat+n=hi.toNat):∀(l:List DOp) {r rv:Key} {s:Sta} {a:Hp} {b:List Heap} {fr:PFr} {fr1:Fr},lK lo hi lov hiv r rv s->r.toNat+D4 l<=hi.toNat->FR s.Z s.p fr fr1->A1 (Hg lo.toNat lov.toNat s fr fr1) a b ->
  ∀{fr':PFr} {g':A0},Hm pc lo hi n l r a fr s.g=some (fr',g') ->
  ∃N fr1' h' Z' p',E8 (Fh F noO (exec F noO N)) lov hiv l rv b fr1 s.h=some (fr1',h')/\Good ⟨Z',p',g',h'⟩/\E1 lo.toNat lov.toNat s ⟨Z',p',g',h'⟩/\FR Z' p' fr' fr1'
 |[],r,rv,s,a,b,fr,fr1,hd,_,hf,_,fr',g',e=>by cases e;exact⟨0,fr1,s.h,s.Z,s.p,rfl,hd.Ij,E1.refl _ _ _,hf⟩
 |d::l,r,rv,s,a,b,fr,fr1,hd,hr,hf,hab,fr',g',e=>by
  have hlh:lo.toNat<=hi.toNat:=Aa;simp only[Hm] at e;split at e
  ·next hk=>
   split at e
   ·next fr2 g2 ho=>
    obtain⟨N,v,u,h2,Z2,p2,h3,rfl,h4,h5,h6⟩:=uU hc hd.Ij hf ho;have hnx:=hd.nxv;have hnx0:hi.toNat<=s.g.next.toNat:=by
     rcases hd.nx with h|h;·rw[h];exact Rl
     ·exact h
    have hlv:lov.toNat<=hiv.toNat:=by have:=hd.len;omega
    have hd2:lK lo hi lov hiv r rv ⟨Z2,p2,g2,h2⟩:=by
     refine⟨h4,.inr (AQ hnx0 h5.nx.1),AQ hnx h5.nx.2,λk b hkb=>?_,λb hb1 hb2 hb3=>?_,λk hk1 hk2=>?_,λb hb1 hb2=>?_,hd.step,hd.len,hd.ge⟩
     ·rcases h5.Nk k b hkb with h|h;·exact hd.same k b h
      ·constructor;·intro h';omega
       ·intro h';omega
     ·have:=h5.frame b Aa;by_cases hex:∃k,s.p k=some b;·obtain⟨k,hkb⟩:=hex;exact⟨k,h5.ple k b hkb⟩
      ·exfalso;have hfr:=this λk hkb=>hex ⟨k,hkb⟩;simp only at hb3 hfr;rw[hfr] at hb3;exact hex (hd.made b hb1 hb2 hb3)
     ·cases hkb:p2 k with
      |none=>exact hkb
      |some b=>
       rcases h5.Nk k b hkb with h|h;·rw[hd.uW k hk1 hk2] at h;cases h
       ·omega
     ·obtain⟨h7,h8⟩:=hd.mM b hb1 hb2;refine⟨λk hkb=>?_,?_⟩
      ·rcases h5.Nk k b hkb with h|h;·exact h7 k h
       ·omega
      ·cases hz:Z2 b with
       |none=>exact hz
       |some c=>
        rcases h5.Jv b c hz with h|⟨k,h⟩|h;·exact absurd h8 h
        ·exact absurd h (h7 k)
        ·omega
    have hext:E1 lo.toNat lov.toNat s ⟨Z2,p2,g2,h2⟩:=(E1.refl lo.toNat lov.toNat s).trans hd.Ij.toGu h5 Aa Aa;have hsn:A1 (Hg lo.toNat lov.toNat s fr fr1) (a++[(s.g,[])]) (b++[s.h]):=D0 hab (.cons ⟨s.Z,s.p,hd.Ij.toGu,E1.refl _ _ _,λk v _ e=>hf k v e⟩ .nil);have hsn2:A1 (Hg lo.toNat lov.toNat ⟨Z2,p2,g2,h2⟩ (O4 fr d.o.dst v) (Fp fr1 d.o.dst u)) (wrote d.o.dst (a++[(s.g,[])])) (b++[s.h]):=
     Sk (λZ p g h hp he=>he.trans hp hext Rl Rl) (λk hk=>by rw[Ow,Ao hk]) (λk hk=>by rw[L8,Ao hk]) hsn
    rw[Ir] at hr;obtain⟨N',fr3,h7,Z3,p3,h8,h9,h10,h11⟩:=Q7 hc lo hi lov hiv n hn l hd2 Aa ((hf.mono h5.zle h5.ple).put h6 d.o.dst) hsn2 e;refine⟨max N N',fr3,h7,Z3,p3,?_,h9,hext.trans hd.Ij.toGu h10 Rl Rl,h11⟩;simp only[E8,hk,L7 (Ph (Cp N N')) h3];exact Kp (Ph (Ca N N')) lov hiv l h8
   ·cases e
  ·next hk=>
   split at e
   ·next fr2 g2 ho=>
    rw[Ir,hk] at hr;simp only[Ak] at hr;obtain⟨v,u,h2,p2,h3,rfl,h4,h5,h6⟩:=iJ (F:=F) hd Aa hk hf ho;have hsn2:A1 (Hg lo.toNat lov.toNat ⟨s.Z,p2,{ g2 with next:=s.g.next },{ h2 with next:=s.h.next }⟩ (O4 fr d.o.dst v) (Fp fr1 d.o.dst u)) (wrote d.o.dst a) b:=
     Sk (λZ p g h hp he=>he.trans hp h5 Rl Rl) (λk hk=>by rw[Ow,Ao hk]) (λk hk=>by rw[L8,Ao hk]) hab
    obtain⟨N',fr3,h7,Z3,p3,h8,h9,h10,h11⟩:=Q7 hc lo hi lov hiv n hn l (s:=⟨s.Z,p2,{ g2 with next:=s.g.next },{ h2 with next:=s.h.next }⟩) h4 (by rw[Key.toNat_succ];omega) ((hf.mono h5.zle h5.ple).put h6 d.o.dst) hsn2 e;refine⟨N',fr3,h7,Z3,p3,?_,h9,h5.trans hd.Ij.toGu h10 Rl Rl,h11⟩;simp only[E8,hk,h3];exact h8
   ·cases e
  ·next hk=>
   rw[Ir,hk] at hr;simp only[reduceCtorEq,Ag,AO] at hr;split at e
   ·next o hw hact=>
    split at e
    ·next args hfe=>
     split at e
     ·next v g2 hop=>
      split at e
      ·next hcond=>
       obtain⟨us,h1,h2⟩:=L9 hf hfe;have hko:o.kind=.quiet:=by rw[hact] at hk;exact hk
       obtain⟨rfl,u,h3,h4⟩:=Vz hko s hd.Ij.toGu args us v g2 h2 hop;simp only[Au,AW,AX] at hcond;obtain⟨⟨hc1,hc2⟩,hc3⟩:=hcond;have hsame:=iI hd.Ij.toGu hko hfe h1 h2 hop h3 (Gh d.chk hab) hc3;have hout:outside lov hiv o us=true:=by
        unfold outside;split
        ·next bk hbk=>
         simp only[AW,Bs,BC];rcases yS hd.Ij.toGu hko h2 hop hbk with⟨k,rr,h5,h6⟩|⟨h5,h6⟩
         ·rw[h5] at hc1;simp only[H6,AW,Bs,BC] at hc1;have:=hd.same k bk h6;have hx:¬(lo.toNat<=k.toNat/\k.toNat<hi.toNat):=Aa;have hy:¬(lov.toNat<=bk.toNat/\bk.toNat<hiv.toNat):=λh=>hx (this.2 h);omega
         ·rw[h5] at hc2;simp only[Dt,false_or] at hc2;by_cases hin:lov.toNat<=bk.toNat/\bk.toNat<hiv.toNat
          ·exfalso;cases hz:s.Z bk with
           |none=>exact h6 hz
           |some c=>
            obtain⟨y,hy,_⟩:=hd.Ij.z bk c hz;obtain⟨k,hkb⟩:=hd.made bk hin.1 hin.2 (by rw[hy];simp);have hkr:=(hd.same k bk hkb).2 hin;cases hg:s.g.get k with
            |none=>rw[hd.Ij.dead k bk hkb hg] at hy;cases hy
            |some x=>have hfz:=Xo hc2 k hkr.1 Aa x hg;obtain⟨b2,y2,e1,_,e3⟩:=hd.Ij.blk k x hg;rw[hkb] at e1;cases e1;rw[e3.Si hfz] at hz;cases hz
          ·omega
        ·rfl
       obtain⟨N',fr3,h7,Z3,p3,h8,h9,h10,h11⟩:=Q7 hc lo hi lov hiv n hn l hd hr (hf.put h4 d.o.dst) (Xp hd.Ij.toGu hko hfe h1 h2 hop h3 d.o.dst hab) e;refine⟨N',fr3,h7,Z3,p3,?_,h9,h10,h11⟩;have hk2:(Ff.op o).kind=Kind.quiet:=hko;simp only[E8,Hr hf hw,hact,hk2,h1,h3,hout,hsame,CY,Ak];exact h8
      ·cases e
     ·cases e
    ·cases e
   ·next hw=>
    have hsn2:A1 (Hg lo.toNat lov.toNat s (O4 fr d.o.dst .unit) (Fp fr1 d.o.dst .unit)) a b:=by
     refine A9 hab λx y=>?_;rintro⟨Z,p,h3,h4,h5⟩;refine⟨Z,p,h3,h4,λk w hkw ew=>?_⟩;rw[Ow] at ew;rw[L8];split at ew;·next hd=>cases ew;rw[Aj hd];exact⟨_,rfl,Lc⟩
     ·next hd=>rw[Ao hd];exact h5 k w hkw ew
    obtain⟨N',fr3,h7,Z3,p3,h8,h9,h10,h11⟩:=Q7 hc lo hi lov hiv n hn l hd hr (hf.put Lc d.o.dst) hsn2 e;refine⟨N',fr3,h7,Z3,p3,?_,h9,h10,h11⟩;simp only[E8,hk,Hr hf hw];exact h8
   ·cases e
end
section
variable {F:D5} {K:Y2}
def A3 (F:D5) (f:Nat) (xs:Ez) (r:PA):Prop:=∀s:Sta,Good s->∀vs:EA,A1 (QA s.Z) xs vs ->
 ∃N u h' Z',Fh F noO (exec F noO N) f vs s.h=some (u,h')/\Good ⟨Z',s.p,s.g,h'⟩/\E1 s.g.next.toNat s.h.next.toNat s ⟨Z',s.p,s.g,h'⟩/\QA Z' r u
def eK (F:D5) (K:Y2):Prop:=∀f xs r,K.pure f=true->K.ans f xs=some r->A3 F f xs r
abbrev PEx:=B7->PFr->A0->Option (Fk×PFr×A0)
def VK (F:D5) (px:PEx):Prop:=∀(c:B7) (s:Sta) (fr:PFr) (fr1:Fr),Good s->FR s.Z s.p fr fr1->∀(x:Fk) (fr':PFr) (g':A0),px c fr s.g=some (x,fr',g') ->
 ∃N fr1' h' Z' p',exec F noO N c fr1 s.h=some (x,fr1',h')/\Good ⟨Z',p',g',h'⟩/\E1 s.g.next.toNat s.h.next.toNat s ⟨Z',p',g',h'⟩/\FR Z' p' fr' fr1'
theorem uY {Z:ZM} {p:Ren} {xs:Ez} {vs:EA} (h:A1 (AR Z p) xs vs):FR Z p (Tr.z.G8 0 xs) (Tr.z.G8 0 vs):=by
 intro k v e;rw[<-Key.J8 k,Tr.Ge] at e;rw[<-Key.J8 k,Tr.Ge,<-A5 h];split at e
 ·next hk=>
  rw[Aj hk];obtain⟨u,h1,h2⟩:=D3 h _ e;exact⟨u,h1,h2⟩
 ·simp at e
theorem yT {s:Sta} (hs:Gu s) {fr:PFr} {fr1:Fr} (hf:FR s.Z s.p fr fr1) {r:Qb} {x:PC} (e:K5 fr s.g r=some x):∃u,K3 fr1 s.h r=some u/\CR s.Z s.p x u:=by
 unfold K5 at e;split at e
 ·split at e
  ·next k y hy=>
   cases e;obtain⟨u,h1,h2⟩:=hf _ _ hy;obtain⟨z,rfl,hz⟩:=h2.cv;exact⟨z,by simp only[K3,h1],hz⟩
  ·cases e
 ·split at e
  ·next k b o hb=>
   obtain⟨u,h1,h2⟩:=hf _ _ hb;obtain⟨z,rfl,b',hp,rfl⟩:=h2.s;split at e
   ·next y hy=>
    cases e;obtain⟨l',h3,h4⟩:=Ov hs hp hy;obtain⟨w,rfl,h5⟩:=A1.one h4;exact⟨.s w,by simp only[K3,h1,h3],h5⟩
   ·cases e
  ·cases e
 ·split at e
  ·next k b o hb=>
   obtain⟨u,h1,h2⟩:=hf _ _ hb;obtain⟨z,rfl,b',hp,rfl⟩:=h2.s;split at e
   ·next y hy=>
    cases e;obtain⟨l',h3,h4⟩:=Ov hs hp hy;exact⟨.agg l',by simp only[K3,h1,h3],h4⟩
   ·cases e
  ·cases e
theorem Pk {s:Sta} (hs:Gu s) {fr:PFr} {fr1:Fr} (hf:FR s.Z s.p fr fr1):∀{l:List Qb} {xs:List PC},Jm fr s.g l=some xs->∃us,Im fr1 s.h l=some us/\A1 (CR s.Z s.p) xs us
 |[],xs,e=>by cases e;exact⟨[],rfl,.nil⟩
 |r::l,xs,e=>by
  simp only[Jm] at e;split at e
  ·next x hx=>
   split at e
   ·next ys hys=>
    cases e;obtain⟨u,h1,h2⟩:=yT hs hf hx;obtain⟨us,h3,h4⟩:=Pk hs hf hys;exact⟨u::us,by simp only[Im,h1,h3],.cons h2 h4⟩
   ·cases e
  ·cases e
theorem Sl {Z:ZM} {p:Ren} {xs:List PC} {us:List CV} (h:A1 (CR Z p) xs us):AR Z p (G3 xs) (J9 us):=by
 cases h with
 |nil=>exact A1.nil
 |cons h1 h2=>cases h2 with
  |nil=>exact h1
  |cons h3 h4=>exact .cons h1 (.cons h3 h4)
theorem uZ {px:PEx} (hx:VK F px):yP F (fL F px):=by
 intro f s hs args vs v g' ha e;unfold fL at e;split at e
 ·next vf hvf=>
  have main:∀x fr g1,px vf.body (Tr.z.G8 0 args) s.g=some (x,fr,g1)->(∀i,x≠.exit i)->(match Jm fr g1 vf.results with|some l=>some (G3 l,g1)|none=>none)=some (v,g') ->
    ∃N u h' Z' p',Fh F noO (exec F noO N) f vs s.h=some (u,h')/\Good ⟨Z',p',g',h'⟩/\E1 s.g.next.toNat s.h.next.toNat s ⟨Z',p',g',h'⟩/\AR Z' p' v u:=by
   intro x fr g1 h1 h2 h3
   obtain⟨N,fr1',h',Z',p',h4,h5,h6,h7⟩:=hx vf.body s _ _ hs (uY ha) x fr g1 h1
   split at h3
   ·next l hl=>
    cases h3
    obtain⟨us,h8,h9⟩:=Pk h5.toGu h7 hl
    refine⟨N,J9 us,h',Z',p',?_,h5,h6,Sl h9⟩
    simp only[Fh,hvf,h4]
    cases x with
    |exit i=>exact absurd rfl (h2 i)
    |normal=>simp only[h8]
    |ret=>simp only[h8]
   ·cases h3
  split at e;·cases e
  ·next x fr g1 hne hr=>exact main x fr g1 hr (λi hi=>hne i hi) e
  ·cases e
 ·cases e
theorem Sm {s:Sta} (hs:Good s):Good ⟨s.Z,λ_=>none,.empty,s.h⟩ where
 inj _ _ _ h:=by cases h
 blk k x h:=by simp[A0.get,A0.empty] at h
 z:=hs.z
 dead _ _ h:=by cases h
 pk _ _ h:=by cases h
 zr:=hs.zr
 top:=hs.top
theorem iK {s:Sta} (hs:Good s) {Z':ZM} {p':Ren} {g':A0} {h':Heap} (hg:Good ⟨Z',p',g',h'⟩) (he:E1 0 s.h.next.toNat ⟨s.Z,λ_=>none,.empty,s.h⟩ ⟨Z',p',g',h'⟩):Good ⟨Z',s.p,s.g,h'⟩/\E1 s.g.next.toNat s.h.next.toNat s ⟨Z',s.p,s.g,h'⟩:=by
 have hsame:∀b:Key,b.toNat<s.h.next.toNat->h'.get b=s.h.get b:=λb hb=>he.frame b hb λk h=>Ad;have hzn:∀b:Key,b.toNat<s.h.next.toNat->s.Z b=none->Z' b=none:=by
  intro b hb hz;cases h:Z' b with
  |none=>rfl
  |some c=>
   rcases he.Jv b c h with h1|⟨k,h1⟩|h1;·exact absurd hz h1
   ·cases h1
   ·omega
 have hzle:ZLe s.Z Z':=he.zle;have hnx:=he.nx.2;simp only at hnx;refine⟨⟨⟨hs.inj,λk x hx=>?_,hg.z,λk b hp hk=>?_⟩,⟨λk b hp=>?_,hg.zr,hg.top⟩⟩,⟨⟨Rl,hnx⟩,hzle,λ_ _ h=>h,λ_ _ h=>.inl h,λb c h=>?_,λb hb _=>hsame b hb,λ_ _ _ h=>h,λk x x' h1 h2=>?_⟩⟩;·obtain⟨b,y,h1,h2,h3⟩:=hs.blk k x hx;have hlt:=(hs.pk k b h1).2;refine⟨b,y,h1,by rw[<-h2];exact hsame b hlt,h3.body.mono hzle (λ_ _ h=>h),λho=>⟨(h3.own ho).1,(h3.own ho).2.mono hzle λ_ _ h=>h⟩,λh=>hzn b hlt (h3.Si h),λh=>hzle _ _ (h3.frz h)⟩
 ·have hlt:=(hs.pk k b hp).2;show h'.get b=none;rw[hsame b hlt];exact hs.dead k b hp hk
 ·have:=hs.pk k b hp;exact⟨this.1,Bu this.2 hnx⟩
 ·rcases he.Jv b c h with h1|⟨k,h1⟩|h1;·exact .inl h1
  ·cases h1
  ·exact .inr (.inr h1)
 ·simp only at h2;rw[h1] at h2;cases h2;refine⟨[],rfl,λb y hp hy=>⟨y,?_,M6.refl _ _⟩⟩;have hlt:=(hs.pk k b hp).2;show h'.get b=some y;rw[hsame b hlt];exact hy
theorem vA {px:PEx} (hx:VK F px) {f:Nat} {xs:Ez} {r:PA} (e:aR F px f xs=some r):A3 F f xs r:=by
 intro s hs vs hv;unfold aR at e;split at e
 ·next r0 g0 hb=>
  split at e
  ·next r1 g1 hfz=>
   cases e;obtain⟨N,u,h',Z',p',h1,h2,h3,h4⟩:=uZ hx f ⟨s.Z,λ_=>none,.empty,s.h⟩ (Sm hs) xs vs r0 g0 (A9 hv λ_ _ h=>h.a) hb;obtain⟨Z2,h5,h6⟩:=V0 h2.toGu h4 hfz;have hg:Good ⟨Z2,p',g1,h'⟩:=⟨h5.sim,h5.room h2.toRoom⟩;have he:=E1.trans (lo:=0) (lov:=s.h.next.toNat) (Sm hs).toGu h3 (h5.ext 0 h'.next.toNat) Rl h3.nx.2;obtain⟨h7,h8⟩:=iK hs hg he;exact⟨N,u,h',Z2,h1,h7,h8,h6⟩
  ·cases e
 ·cases e
theorem OU {px:PEx} (hx:VK F px) (hK:eK F K):yP F (Wp F K px):=by
 intro f s hs args vs v g' ha e;unfold Wp at e;split at e
 ·next hpf=>
  split at e
  ·next xs g1 hfz=>
   obtain⟨Z1,h1,h2⟩:=iE args hs.toGu ha hfz;have hg:Good ⟨Z1,s.p,g1,s.h⟩:=⟨h1.sim,h1.room hs.toRoom⟩;have main:∀r,A3 F f xs r->v=r->g'=g1->∃N u h' Z' p',Fh F noO (exec F noO N) f vs s.h=some (u,h')/\Good ⟨Z',p',g',h'⟩/\E1 s.g.next.toNat s.h.next.toNat s ⟨Z',p',g',h'⟩/\AR Z' p' v u:=by rintro r hr rfl rfl;obtain⟨N,u,h',Z',h3,h4,h5,h6⟩:=hr _ hg vs h2;have hext:=h1.ext s.g.next.toNat s.h.next.toNat;exact⟨N,u,h',Z',s.p,h3,h4,hext.trans hs.toGu h5 hext.nx.1 Rl,h6.a⟩
   split at e;·next r hr=>cases e;exact main _ (hK f xs _ hpf hr) rfl rfl
   ·split at e;·next r hr=>cases e;exact main _ (vA hx hr) rfl rfl
    ·cases e
  ·cases e
 ·exact uZ hx f s hs args vs v g' ha e
section
variable {n:Nat} {fr:PFr} {h:A0}
theorem iM (ops:List B3):Hy F K (n+1) (.region ops) fr h=match xR (Wp F K (Hy F K n)) ops fr h with
   |some (fr,h)=>some (.normal,fr,h)
   |none=>none:=rfl
theorem mN (ops:List DOp):Hy F K (n+1) (.drawn ops) fr h=match Hm (Wp F K (Hy F K n)) h.next (Fz h.next (D4 ops)) (D4 ops) ops h.next [] fr { h with next:=Fz h.next (D4 ops) } with
   |some (fr,h)=>some (.normal,fr,h)
   |none=>none:=rfl
theorem eL (a b:B7):Hy F K (n+1) (.seq a b) fr h=match Hy F K n a fr h with
   |some (.normal,fr,h)=>Hy F K n b fr h
   |r=>r:=rfl
theorem iN (x:VX) (a b:B7):Hy F K (n+1) (.cond x a b) fr h=match Tv fr x with
   |some (.v (.s (.bool true)))=>Hy F K n a fr h
   |some (.v (.s (.bool false)))=>Hy F K n b fr h
   |_=>none:=rfl
theorem Q8 (id:Nat) (a:B7):Hy F K (n+1) (.block id a) fr h=match Hy F K n a fr h with
   |some (.exit j,fr,h)=>if j=id then some (.normal,fr,h) else some (.exit j,fr,h)
   |r=>r:=rfl
theorem Zn (a:B7):Hy F K (n+1) (.loop a) fr h=match Hy F K n a fr h with
   |some (.normal,fr,h)=>Hy F K n (.loop a) fr h
   |r=>r:=rfl
end
theorem yU {pc:Jw} (hc:yP F pc) (ops:List DOp) {s:Sta} (hs:Good s) {fr:PFr} {fr1:Fr} (hf:FR s.Z s.p fr fr1) {fr':PFr} {g':A0}
  (e:Hm pc s.g.next (Fz s.g.next (D4 ops)) (D4 ops) ops s.g.next [] fr { s.g with next:=Fz s.g.next (D4 ops) }=some (fr',g')) :
  ∃N fr1' h' Z' p',E8 (Fh F noO (exec F noO N)) s.h.next (Fz s.h.next (D4 ops)) ops s.h.next [] fr1 { s.h with next:=Fz s.h.next (D4 ops) }=some (fr1',h')/\Good ⟨Z',p',g',h'⟩ /\
   E1 s.g.next.toNat s.h.next.toNat s ⟨Z',p',g',h'⟩/\FR Z' p' fr' fr1':=by
 have e1:=Ho (D4 ops) s.g.next;have e2:=Ho (D4 ops) s.h.next;have hd:lK s.g.next (Fz s.g.next (D4 ops)) s.h.next (Fz s.h.next (D4 ops)) s.g.next s.h.next ⟨s.Z,s.p,{ s.g with next:=Fz s.g.next (D4 ops) },{ s.h with next:=Fz s.h.next (D4 ops) }⟩:=by
  refine⟨⟨Gu.Xq (g:=s.g) (h:=s.h) rfl rfl hs.toGu,⟨λk b h=>?_,λb c h=>?_,λb h=>?_⟩⟩,.inl rfl,Rl,λk b h=>?_,λb h1 _ h3=>?_,λk h1 _=>?_,λb h1 _=>⟨λk h=>?_,?_⟩,Aa,Aa,Rl⟩;·have:=hs.pk k b h;simp only;omega
  ·have:=hs.zr b c h;simp only;omega
  ·simp only at h;exact hs.top b Aa
  ·have:=hs.pk k b h;omega
  ·exact absurd (hs.top b h1) h3
  ·cases h:s.p k with
   |none=>rfl
   |some b=>have:=hs.pk k b h;omega
  ·have:=hs.pk k b h;omega
  ·cases h:s.Z b with
   |none=>rfl
   |some c=>have:=hs.zr b c h;omega
 obtain⟨N,fr1',h',Z',p',h1,h2,h3,h4⟩:=Q7 hc s.g.next (Fz s.g.next (D4 ops)) s.h.next (Fz s.h.next (D4 ops)) (D4 ops) e1.symm ops (r:=s.g.next) (rv:=s.h.next) hd Aa hf .nil e;refine⟨N,fr1',h',Z',p',h1,h2,?_,h4⟩;refine E1.pC (g:={ s.g with next:=Fz s.g.next (D4 ops) }) (h:={ s.h with next:=Fz s.h.next (D4 ops) }) (g':=s.g) (h':=s.h) rfl rfl ⟨?_,?_⟩ h3;·have:=h3.nx.1;simp only at this ⊢;omega
 ·have:=h3.nx.2;simp only at this ⊢;omega
theorem vB (hK:eK F K):∀n,VK F (Hy F K n)
 |0=>by intro c s fr fr1 _ _ x fr' g' e;cases e
 |n+1=>by
  have ih:=vB hK n;have hc:=OU ih hK;intro c s fr fr1 hs hf x fr' g' e;cases c with
  |skip=>cases e;exact⟨1,fr1,s.h,s.Z,s.p,rfl,hs,E1.refl _ _ _,hf⟩
  |region ops=>
   rw[iM] at e;split at e
   ·next fr2 g2 ho=>
    cases e;obtain⟨N,fr1',h',Z',p',h1,h2⟩:=GU hc ops hs hf ho;exact⟨N+1,fr1',h',Z',p',by rw[bM,h1],h2⟩
   ·cases e
  |drawn ops=>
   rw[mN] at e;split at e
   ·next fr2 g2 ho=>
    cases e;obtain⟨N,fr1',h',Z',p',h1,h2⟩:=yU hc ops hs hf ho;exact⟨N+1,fr1',h',Z',p',by rw[iG,h1],h2⟩
   ·cases e
  |seq a b=>
   rw[eL] at e;cases hr:Hy F K n a fr s.g with
   |none=>rw[hr] at e;cases e
   |some q=>
    obtain⟨x1,fr2,g2⟩:=q;rw[hr] at e;obtain⟨N,fr1',h',Z',p',h1,h2,h3,h4⟩:=ih a s fr fr1 hs hf x1 fr2 g2 hr;cases x1 with
    |normal=>obtain⟨N',fr2',h'',Z'',p'',h5,h6,h7,h8⟩:=ih b ⟨Z',p',g2,h'⟩ fr2 fr1' h2 h4 x fr' g' e;refine⟨max N N'+1,fr2',h'',Z'',p'',?_,h6,h3.trans hs.toGu h7 h3.nx.1 h3.nx.2,h8⟩;rw[Xm,Lb (Cp N N') _ _ _ _ h1];exact Lb (Ca N N') _ _ _ _ h5
    |exit id=>cases e;exact⟨N+1,fr1',h',Z',p',by rw[Xm,h1],h2,h3,h4⟩
    |ret=>cases e;exact⟨N+1,fr1',h',Z',p',by rw[Xm,h1],h2,h3,h4⟩
  |cond y a b=>
   rw[iN] at e;split at e
   ·next hy=>
    obtain⟨u,h0,hu⟩:=Uo hf hy;obtain⟨z,rfl,hz⟩:=hu.s;cases A8.Zg hz;obtain⟨N,fr1',h',Z',p',h1,h2⟩:=ih a s fr fr1 hs hf x fr' g' e;exact⟨N+1,fr1',h',Z',p',by rw[Zk,h0];exact h1,h2⟩
   ·next hy=>
    obtain⟨u,h0,hu⟩:=Uo hf hy;obtain⟨z,rfl,hz⟩:=hu.s;cases A8.Zg hz;obtain⟨N,fr1',h',Z',p',h1,h2⟩:=ih b s fr fr1 hs hf x fr' g' e;exact⟨N+1,fr1',h',Z',p',by rw[Zk,h0];exact h1,h2⟩
   ·cases e
  |block id a=>
   rw[Q8] at e;cases hr:Hy F K n a fr s.g with
   |none=>rw[hr] at e;cases e
   |some q=>
    obtain⟨x1,fr2,g2⟩:=q;rw[hr] at e;obtain⟨N,fr1',h',Z',p',h1,h2,h3,h4⟩:=ih a s fr fr1 hs hf x1 fr2 g2 hr;cases x1 with
    |normal=>cases e;exact⟨N+1,fr1',h',Z',p',by rw[K9,h1],h2,h3,h4⟩
    |exit j=>
     simp only at e;split at e;·next hj=>cases e;exact⟨N+1,fr1',h',Z',p',by rw[K9,h1];simp only[hj,Ak],h2,h3,h4⟩
     ·next hj=>cases e;exact⟨N+1,fr1',h',Z',p',by rw[K9,h1];simp only[hj,Ag],h2,h3,h4⟩
    |ret=>cases e;exact⟨N+1,fr1',h',Z',p',by rw[K9,h1],h2,h3,h4⟩
  |loop a=>
   rw[Zn] at e;cases hr:Hy F K n a fr s.g with
   |none=>rw[hr] at e;cases e
   |some q=>
    obtain⟨x1,fr2,g2⟩:=q;rw[hr] at e;obtain⟨N,fr1',h',Z',p',h1,h2,h3,h4⟩:=ih a s fr fr1 hs hf x1 fr2 g2 hr;cases x1 with
    |normal=>obtain⟨N',fr2',h'',Z'',p'',h5,h6,h7,h8⟩:=ih (.loop a) ⟨Z',p',g2,h'⟩ fr2 fr1' h2 h4 x fr' g' e;refine⟨max N N'+1,fr2',h'',Z'',p'',?_,h6,h3.trans hs.toGu h7 h3.nx.1 h3.nx.2,h8⟩;rw[Mn,Lb (Cp N N') _ _ _ _ h1];exact Lb (Ca N N') _ _ _ _ h5
    |exit id=>cases e;exact⟨N+1,fr1',h',Z',p',by rw[Mn,h1],h2,h3,h4⟩
    |ret=>cases e;exact⟨N+1,fr1',h',Z',p',by rw[Mn,h1],h2,h3,h4⟩
  |exit id=>cases e;exact⟨1,fr1,s.h,s.Z,s.p,rfl,hs,E1.refl _ _ _,hf⟩
  |ret=>cases e;exact⟨1,fr1,s.h,s.Z,s.p,rfl,hs,E1.refl _ _ _,hf⟩
theorem AaE (hK:eK F K) {n f:Nat} {xs:Ez} {r:PA} (e:runP F K n f xs=some r):A3 F f xs r:=vA (vB hK n) e
end
structure Bx (p:Prop):Prop where
 o:p
theorem Yc {P:Prop} (h:P:=by repeat' first|exact A1.nil|exact A2.cells (by assumption)|refine A1.cons rfl ?_|refine A1.cons (E9 _ _).rn ?_|refine A1.cons (A2.rn (by assumption)) ?_|fail):P:=h
theorem Yb {P:Prop} (h:P:=by repeat' first|refine⟨⟨_,_,rfl,rfl,Ku.same (by repeat' first|exact A1.nil|exact A2.cells (by assumption)|refine A1.cons rfl ?_|refine A1.cons (E9 _ _).rn ?_|refine A1.cons (A2.rn (by assumption)) ?_|fail)⟩,?_⟩|refine⟨⟨_,_,rfl,rfl,⟨(show A1 _ _ _ by repeat' first|exact A1.nil|exact A2.cells (by assumption)|refine A1.cons rfl ?_|refine A1.cons (E9 _ _).rn ?_|refine A1.cons (A2.rn (by assumption)) ?_|fail),λh=>(by first|cases h;done|exact⟨rfl,.inl .nil⟩|exact⟨rfl,.inl (.cons rfl .nil)⟩|exact⟨rfl,.inl (.cons rfl (.cons rfl .nil))⟩|exact⟨rfl,.inl (.cons rfl (.cons rfl (.cons rfl .nil)))⟩|exact⟨rfl,.inr ⟨_,_,_,.head _,rfl,rfl,rfl⟩⟩),rfl⟩⟩,?_⟩|exact trivial|fail):P:=h
theorem Ya {P:Prop} (h:P:=by repeat' first|exact A1.nil|refine A1.cons rfl ?_|refine A1.cons (E9 _ _).rn ?_|refine A1.cons (A2.rn (by assumption)) ?_|refine A1.cons (show A1 _ _ _ by repeat' first|exact A1.nil|exact A2.cells (by assumption)|refine A1.cons rfl ?_|refine A1.cons (E9 _ _).rn ?_|refine A1.cons (A2.rn (by assumption)) ?_|fail) ?_|fail):P:=h
theorem Yo {P:Prop} (h:P:=by repeat' first|refine⟨⟨_,_,_,rfl,Ku.same (by repeat' first|exact A1.nil|exact A2.cells (by assumption)|refine A1.cons rfl ?_|refine A1.cons (E9 _ _).rn ?_|refine A1.cons (A2.rn (by assumption)) ?_|fail),rfl,rfl,rfl,rfl⟩,?_⟩|refine⟨⟨_,_,_,rfl,⟨(show A1 _ _ _ by repeat' first|exact A1.nil|exact A2.cells (by assumption)|refine A1.cons rfl ?_|refine A1.cons (E9 _ _).rn ?_|refine A1.cons (A2.rn (by assumption)) ?_|fail),λh=>(by first|cases h;done|exact⟨rfl,.inl .nil⟩|exact⟨rfl,.inl (.cons rfl .nil)⟩|exact⟨rfl,.inl (.cons rfl (.cons rfl .nil))⟩|exact⟨rfl,.inl (.cons rfl (.cons rfl (.cons rfl .nil)))⟩|exact⟨rfl,.inr ⟨_,_,_,.head _,rfl,rfl,rfl⟩⟩),rfl⟩,rfl,rfl,rfl,rfl⟩,?_⟩|exact trivial|fail):P:=h
theorem Yg {P:Prop} (h:P:=by repeat' first|exact Lg.nil|assumption|refine Lg.app ?_ ?_|exact Lg.one|fail):P:=h
theorem Yl {P:Prop} (h:P:=by repeat' first|refine⟨rfl,?_⟩|exact trivial|fail):P:=h
theorem Yk {P:Prop} (h:P:=by intro k b h;repeat' first|(cases h;done)|(rcases List.mem_cons.1 h with h|h;· cases h;rfl)|fail):P:=h
theorem Yt {P:Prop} (h:P:=by repeat' first|refine⟨⟨_,_,_,hp.el _ _ (by first|exact List.Mem.head _|exact List.Mem.tail _ (List.Mem.head _)|exact List.Mem.tail _ (List.Mem.tail _ (List.Mem.head _))|exact List.Mem.tail _ (List.Mem.tail _ (List.Mem.tail _ (List.Mem.head _)))|exact List.Mem.tail _ (List.Mem.tail _ (List.Mem.tail _ (List.Mem.tail _ (List.Mem.head _))))|exact List.Mem.tail _ (List.Mem.tail _ (List.Mem.tail _ (List.Mem.tail _ (List.Mem.tail _ (List.Mem.head _)))))),.same (by repeat' first|exact A1.nil|exact A2.cells (by assumption)|refine A1.cons rfl ?_|refine A1.cons (E9 _ _).rn ?_|refine A1.cons (A2.rn (by assumption)) ?_|fail),rfl,rfl,rfl,rfl⟩,?_⟩|exact trivial|fail):P:=h
theorem Yf {P:Prop} (h:P:=by repeat' first|refine⟨⟨_,rfl,rfl⟩,?_⟩|refine⟨⟨_,rfl,A2.rn (by assumption)⟩,?_⟩|exact trivial|fail):P:=h
theorem Ys {α β:Type} {R:α->β->Prop} {l:List α} {m:List β} (h:A1 R l m:=by repeat' first|exact A1.nil|exact A2.cells (by assumption)|refine A1.cons rfl ?_|refine A1.cons (E9 _ _).rn ?_|refine A1.cons (A2.rn (by assumption)) ?_|fail):A1 R l m:=h
theorem Yw0 {G:Prop} (h:G:=by repeat'(try conv=>whnf)<;>first|(refine⟨λh=>?_,λh=>?_⟩<;>first|exact I9 h|exact Jr h|exact absurd (B0 h) (by omega)|exact absurd (B5 h) (by omega)|replace h:=B0 h|replace h:=B5 h|skip)|refine⟨_,⟨by omega,by assumption⟩,?_⟩|refine⟨_,⟨by omega,rfl⟩,?_⟩|refine⟨_,_,_,(rfl:Fw _ _ _=_),by assumption,?_⟩|refine⟨_,_,_,Fi (by repeat' first|exact trivial|refine⟨?_,?_⟩|exact Fv _ _|(show Hl _;assumption)|fail),by assumption,?_⟩|refine⟨(by omega:_/\_),?_⟩|refine⟨(by omega:_≠_),?_⟩|refine⟨_,_,(rfl:opP _ _ _=_),?_⟩|exact⟨_,(rfl:G4 _ _ _=_)⟩|fail):G:=h
theorem Yw1 {G A:Prop} (c:A) (h:Bx A->G:=by(intro c;(repeat'(try conv=>whnf)<;>first|(refine⟨λh=>?_,λh=>?_⟩<;>first|exact I9 h|exact Jr h|exact absurd (B0 h) (by omega)|exact absurd (B5 h) (by omega)|replace h:=B0 h|replace h:=B5 h|skip)|refine⟨_,⟨by omega,by assumption⟩,?_⟩|refine⟨_,⟨by omega,rfl⟩,?_⟩|refine⟨_,_,_,(rfl:Fw _ _ _=_),by assumption,?_⟩|refine⟨_,_,_,Fi (by repeat' first|exact trivial|refine⟨?_,?_⟩|exact Fv _ _|(show Hl _;assumption)|fail),by assumption,?_⟩|refine⟨(by omega:_/\_),?_⟩|refine⟨(by omega:_≠_),?_⟩|refine⟨_,_,(rfl:opP _ _ _=_),?_⟩|exact⟨_,(rfl:G4 _ _ _=_)⟩|fail);exact c.o)):G:=h ⟨c⟩
theorem Yw2 {G A B:Prop} (a:A) (b:B) (h:Bx A->Bx B->G:=by(intro a b;(repeat'(try conv=>whnf)<;>first|(refine⟨λh=>?_,λh=>?_⟩<;>first|exact I9 h|exact Jr h|exact absurd (B0 h) (by omega)|exact absurd (B5 h) (by omega)|replace h:=B0 h|replace h:=B5 h|skip)|refine⟨_,⟨by omega,by assumption⟩,?_⟩|refine⟨_,⟨by omega,rfl⟩,?_⟩|refine⟨_,_,_,(rfl:Fw _ _ _=_),by assumption,?_⟩|refine⟨_,_,_,Fi (by repeat' first|exact trivial|refine⟨?_,?_⟩|exact Fv _ _|(show Hl _;assumption)|fail),by assumption,?_⟩|refine⟨(by omega:_/\_),?_⟩|refine⟨(by omega:_≠_),?_⟩|refine⟨_,_,(rfl:opP _ _ _=_),?_⟩|exact⟨_,(rfl:G4 _ _ _=_)⟩|fail);revert h;exact a.o;revert h;exact b.o)):G:=h ⟨a⟩ ⟨b⟩
theorem Ywa {G A:Prop} (c:A) (h:Bx A->G:=by(intro c;(iterate 2 refine Yw1 ?_);exact c.o)):G:=h ⟨c⟩
theorem Ywb {G A:Prop} (c:A) (h:Bx A->G:=by(intro c;(iterate 3 refine Yw1 ?_);exact c.o)):G:=h ⟨c⟩
theorem Ywc {G A:Prop} (c:A) (h:Bx A->G:=by(intro c;(iterate 4 refine Yw1 ?_);exact c.o)):G:=h ⟨c⟩
theorem Ywd {G A:Prop} (c:A) (h:Bx A->G:=by(intro c;(iterate 5 refine Yw1 ?_);exact c.o)):G:=h ⟨c⟩
theorem Ywe {G A:Prop} (c:A) (h:Bx A->G:=by(intro c;(iterate 6 refine Yw1 ?_);exact c.o)):G:=h ⟨c⟩
theorem Yv0 {G:Prop} (h:G:=by repeat'(try conv=>whnf)<;>first|(refine⟨λh=>?_,λh=>?_⟩<;>first|exact I9 h|exact Jr h|exact absurd (B0 h) (by omega)|exact absurd (B5 h) (by omega)|replace h:=B0 h|replace h:=B5 h|skip)|refine⟨(by omega:_/\_),?_⟩|refine⟨_,⟨by omega,by assumption⟩,?_⟩|refine⟨_,⟨by omega,rfl⟩,?_⟩|refine⟨_,_,_,(rfl:Fw _ _ _=_),by assumption,?_⟩|refine⟨_,_,_,Fi (by repeat' first|exact trivial|refine⟨?_,?_⟩|exact Fv _ _|(show Hl _;assumption)|fail),by assumption,?_⟩|refine⟨(by omega:_≠_),?_⟩|refine⟨_,_,(rfl:opP _ _ _=_),?_⟩|exact⟨_,(rfl:G4 _ _ _=_)⟩|fail):G:=h
theorem Yv1 {G A:Prop} (c:A) (h:Bx A->G:=by(intro c;(repeat'(try conv=>whnf)<;>first|(refine⟨λh=>?_,λh=>?_⟩<;>first|exact I9 h|exact Jr h|exact absurd (B0 h) (by omega)|exact absurd (B5 h) (by omega)|replace h:=B0 h|replace h:=B5 h|skip)|refine⟨(by omega:_/\_),?_⟩|refine⟨_,⟨by omega,by assumption⟩,?_⟩|refine⟨_,⟨by omega,rfl⟩,?_⟩|refine⟨_,_,_,(rfl:Fw _ _ _=_),by assumption,?_⟩|refine⟨_,_,_,Fi (by repeat' first|exact trivial|refine⟨?_,?_⟩|exact Fv _ _|(show Hl _;assumption)|fail),by assumption,?_⟩|refine⟨(by omega:_≠_),?_⟩|refine⟨_,_,(rfl:opP _ _ _=_),?_⟩|exact⟨_,(rfl:G4 _ _ _=_)⟩|fail);exact c.o)):G:=h ⟨c⟩
theorem Yv2 {G A B:Prop} (a:A) (b:B) (h:Bx A->Bx B->G:=by(intro a b;(repeat'(try conv=>whnf)<;>first|(refine⟨λh=>?_,λh=>?_⟩<;>first|exact I9 h|exact Jr h|exact absurd (B0 h) (by omega)|exact absurd (B5 h) (by omega)|replace h:=B0 h|replace h:=B5 h|skip)|refine⟨(by omega:_/\_),?_⟩|refine⟨_,⟨by omega,by assumption⟩,?_⟩|refine⟨_,⟨by omega,rfl⟩,?_⟩|refine⟨_,_,_,(rfl:Fw _ _ _=_),by assumption,?_⟩|refine⟨_,_,_,Fi (by repeat' first|exact trivial|refine⟨?_,?_⟩|exact Fv _ _|(show Hl _;assumption)|fail),by assumption,?_⟩|refine⟨(by omega:_≠_),?_⟩|refine⟨_,_,(rfl:opP _ _ _=_),?_⟩|exact⟨_,(rfl:G4 _ _ _=_)⟩|fail);revert h;exact a.o;revert h;exact b.o)):G:=h ⟨a⟩ ⟨b⟩
theorem Yva {G A:Prop} (c:A) (h:Bx A->G:=by(intro c;(iterate 2 refine Yv1 ?_);exact c.o)):G:=h ⟨c⟩
theorem Yvb {G A:Prop} (c:A) (h:Bx A->G:=by(intro c;(iterate 3 refine Yv1 ?_);exact c.o)):G:=h ⟨c⟩
theorem Yvc {G A:Prop} (c:A) (h:Bx A->G:=by(intro c;(iterate 4 refine Yv1 ?_);exact c.o)):G:=h ⟨c⟩
theorem Yvd {G A:Prop} (c:A) (h:Bx A->G:=by(intro c;(iterate 5 refine Yv1 ?_);exact c.o)):G:=h ⟨c⟩
theorem Yve {G A:Prop} (c:A) (h:Bx A->G:=by(intro c;(iterate 6 refine Yv1 ?_);exact c.o)):G:=h ⟨c⟩
def keq:Key->Key->Bool
 |.h,.h=>true
 |.o a,.o b=>keq a b
 |.i a,.i b=>keq a b
 |_,_=>false
theorem He:∀{a b:Key},keq a b=true->a=b
 |.h,.h,_=>rfl
 |.o a,.o b,h=>by rw[He (a:=a) (b:=b) h]
 |.i a,.i b,h=>by rw[He (a:=a) (b:=b) h]
 |.h,.o _,h=>Ad
 |.h,.i _,h=>Ad
 |.o _,.h,h=>Ad
 |.o _,.i _,h=>Ad
 |.i _,.h,h=>Ad
 |.i _,.o _,h=>Ad
theorem Gy:∀a:Key,keq a a=true
 |.h=>rfl
 |.o a=>Gy a
 |.i a=>Gy a
inductive FE where
 |v (x:PA)
 |b (c:Bool)
 |q (x:PA)
def FE.pa:FE->PA
 |.v x=>x
 |.b c=>.v (.s (.bool c))
 |.q x=>x
abbrev Fm:=List (Key×FE)
def look:Fm->Key->Option FE
 |[],_=>none
 |(j,x)::l,k=>match keq j k with
  |true=>some x
  |false=>look l k
def Fit (L:Fm) (fr:PFr):Prop:=∀k x,look L k=some x->fr.get k=some x.pa
def Jj (L:Fm):EE->FE->Fm
 |some k,x=>(k,x)::L
 |none,_=>L
theorem Fit.put {L:Fm} {fr:PFr} (h:Fit L fr) (d:EE) (x:FE):Fit (Jj L d x) (O4 fr d x.pa):=by
 cases d with
 |none=>exact h
 |some j=>
  intro k y e;simp only[Jj,look] at e;simp only[O4,Tr.D1];split at e;·next hk=>cases e;rw[Aj (He hk)]
  ·next hk=>
   rw[Ao (λhe=>by subst he;rw[Gy] at hk;cases hk)];exact h k y e
def Sub (L L':Fm):Prop:=∀k x,look L k=some x->∃y,look L' k=some y/\y.pa=x.pa
theorem Fit.sub {L L':Fm} {fr:PFr} (h:Fit L' fr) (s:Sub L L'):Fit L fr:=by intro k x e;obtain⟨y,h1,h2⟩:=s k x e;rw[h k y h1,h2]
theorem Sub.nil (L:Fm):Sub [] L:=λ_ _ h=>Ad
theorem Sub.cons {L L':Fm} {k:Key} {x y:FE} (h:look L' k=some y) (e:y.pa=x.pa) (s:Sub L L'):Sub ((k,x)::L) L':=by
 intro j z hz;simp only[look] at hz;split at hz;·next hk=>cases hz;rw[<-He hk];exact⟨y,h,e⟩
 ·exact s j z hz
theorem Sub.refl (L:Fm):Sub L L:=λ_ x h=>⟨x,h,rfl⟩
theorem Fit.known {L:Fm} {fr:PFr} (h:Fit L fr) {k:Key} {x y:FE} (e:look L k=some x) (hy:y.pa=x.pa):Fit ((k,y)::L) fr:=by
 intro j z hz;simp only[look] at hz;split at hz;·next hk=>cases hz;rw[<-He hk,hy];exact h k x e
 ·exact h j z hz
def OV:AV->Option FE
 |.v (.s (.bool c))=>some (.b c)
 |.v (.s (.int k (.ofNat n)))=>some (.v (.v (.s (.int k (n:Int)))))
 |.v (.s (.int k (.negSucc n)))=>some (.v (.v (.s (.int k (-((n+1:Nat):Int))))))
 |v=>match JL v with
  |some x=>some (.v x)
  |none=>none
def cZ (L:Fm):VX->Option FE
 |.t k=>look L k
 |.c v=>OV v
def Qj (L:Fm):List VX->Option (List FE)
 |[]=>some []
 |x::l=>match cZ L x with
  |some v=>match Qj L l with
   |some vs=>some (v::vs)
   |none=>none
  |none=>none
theorem iO {L:Fm} {fr:PFr} (h:Fit L fr) {x:VX} {y:FE} (e:cZ L x=some y):Tv fr x=some y.pa:=by
 cases x with
 |t k=>exact h k y e
 |c v=>
  simp only[cZ,OV] at e;simp only[Tv];split at e;·cases e;rfl
  ·cases e;rfl
  ·cases e;rfl
  ·split at e;·next hx=>cases e;exact hx
   ·cases e
theorem V5 {L:Fm} {fr:PFr} (h:Fit L fr):∀{l:List VX} {ys:List FE},Qj L l=some ys->Ip fr l=some (ys.map FE.pa)
 |[],ys,e=>by cases e;rfl
 |x::l,ys,e=>by
  simp only[Qj] at e;split at e
  ·next v hv=>
   split at e;·next vs hvs=>cases e;simp only[Ip,iO h hv,V5 h hvs,AG]
   ·cases e
  ·cases e
def vC {α:Type}:Nat->List α->Option (List α)
 |0,l=>some l
 |n+1,_::l=>vC n l
 |_+1,[]=>none
def dB {α:Type}:Nat->List α->Option (List α)
 |0,_=>some []
 |n+1,x::l=>match dB n l with
  |some r=>some (x::r)
  |none=>none
 |_+1,[]=>none
def VL {α:Type}:Nat->List α->Option α
 |0,x::_=>some x
 |n+1,_::l=>VL n l
 |_,[]=>none
theorem Zo {α:Type}:∀{n:Nat} {l r:List α},vC n l=some r->n<=l.length/\l.drop n=r
 |0,l,r,e=>by cases e;exact⟨Zl,rfl⟩
 |n+1,x::l,r,e=>by obtain⟨h1,h2⟩:=Zo (n:=n) (l:=l) e;exact⟨Nat.succ_le_succ h1,h2⟩
theorem Us {α:Type}:∀{n:Nat} {l r:List α},dB n l=some r->n<=l.length/\l.take n=r
 |0,l,r,e=>by simp only[dB] at e;cases e;exact⟨Zl,rfl⟩
 |n+1,x::l,r,e=>by
  simp only[dB] at e;split at e
  ·next q hq=>
   cases e;obtain⟨h1,h2⟩:=Us hq;exact⟨Nat.succ_le_succ h1,by rw[Dj,h2]⟩
  ·cases e
theorem pD {α:Type}:∀{n:Nat} {l:List α} {x:α},VL n l=some x->l[n]?=some x
 |0,x::l,y,e=>e
 |n+1,_::l,y,e=>pD (n:=n) (l:=l) e
def OW {α:Type}:Nat->List α->Bool
 |0,[]=>true
 |n+1,_::l=>OW n l
 |_,_=>false
theorem eM {α:Type}:∀{n:Nat} {l:List α},OW n l=true->l.length=n
 |0,[],_=>rfl
 |n+1,_::l,e=>by rw[Ap,eM (n:=n) (l:=l) e]
def Wx:Ey->Nat->Ey->Option (Ey)
 |cs,0,[]=>some cs
 |_::cs,0,x::l=>match Wx cs 0 l with
  |some r=>some (x::r)
  |none=>none
 |c::cs,n+1,l=>match Wx cs n l with
  |some r=>some (c::r)
  |none=>none
 |[],_,_=>none
theorem Zp:∀{cs:Ey} {o:Nat} {l r:Ey},Wx cs o l=some r->o+l.length<=cs.length/\A0.over cs o l=r
 |cs,0,[],r,e=>by simp only[Wx] at e;cases e;simp[A0.over]
 |c::cs,0,x::l,r,e=>by
  simp only[Wx] at e;split at e
  ·next q hq=>
   cases e;obtain⟨h1,h2⟩:=Zp hq;simp only[A0.over,Ea,Bw,AO,Ap,AH,DP] at h1 h2 ⊢;exact⟨Aa,by rw[h2]⟩
  ·cases e
 |c::cs,n+1,l,r,e=>by
  simp only[Wx] at e;split at e
  ·next q hq=>
   cases e;obtain⟨h1,h2⟩:=Zp hq;simp only[A0.over,Ap,Dj,AH,Nat.succ_add,DP] at h1 h2 ⊢;exact⟨Aa,by rw[h2]⟩
  ·cases e
 |[],n+1,l,r,e=>by simp[Wx] at e
 |[],0,_::_,r,e=>by simp[Wx] at e
def OX:Ey->Es->Ez->Option (Ey)
 |cs,[],[]=>some cs
 |cs,(o,n)::ps,.v x::xs=>match OW n x.cells with
  |true=>match Wx cs o x.cells with
   |some r=>OX r ps xs
   |none=>none
  |false=>none
 |_,_,_=>none
theorem pG:∀{ps:Es} {cs:Ey} {xs:Ez} {r:Ey},OX cs ps xs=some r->dU cs ps xs=some r
 |[],cs,[],r,e=>e
 |(o,n)::ps,cs,.v x::xs,r,e=>by
  simp only[OX] at e;split at e
  ·next hn=>
   split at e
   ·next q hq=>
    obtain⟨h1,h2⟩:=Zp hq;have h3:=eM hn;simp only[dU];rw[Aj ⟨h3,Aa⟩,h2];exact pG e
   ·cases e
  ·cases e
 |[],_,_::_,_,e=>by cases e
 |_::_,_,[],_,e=>by cases e
 |(_,_)::_,_,.tup _::_,_,e=>by cases e
def opE (op:VOp) (args:Ez):Option PA:=
 match op,args with
 |.build z p,xs=>match Ny z with
  |some z=>match OX z p xs with
   |some cs=>some (.v (.agg cs))
   |none=>none
  |none=>none
 |.Fb,[.v (.s (.rp (x::_)))]=>some (.v (.s x))
 |.Fl n,[.v (.s (.rp l))]=>match dB n l with
  |some r=>some (.v (.agg r))
  |none=>none
 |.Ft off,[.v (.s (.ptr b o))]=>some (.v (.s (.ptr b (o+off))))
 |.Ft off,[.v (.s (.rp l))]=>match vC off l with
  |some r=>some (.v (.s (.rp r)))
  |none=>none
 |.field off none,[.v (.agg cs)]=>match VL off cs with
  |some x=>some (.v (.s x))
  |none=>none
 |.field off (some n),[.v (.agg cs)]=>match vC off cs with
  |some r=>match dB n r with
   |some q=>some (.v (.agg q))
   |none=>none
  |none=>none
 |.extract i,[.tup xs]=>match VL i xs with
  |some x=>some (.v x)
  |none=>none
 |.J7,xs=>match Pb xs .empty with
  |some (v,_)=>some v
  |none=>none
 |.bin b,[.v (.s x),.v (.s y)]=>match dS b x y with
  |some v=>some (.v (.s v))
  |none=>none
 |.eq neg k,[.v x,.v y]=>match eqP k x y with
  |some r=>some (.v (.s (.bool (r !=neg))))
  |none=>none
 |.un u,[.v (.s x)]=>match unP u x with
  |some v=>some (.v (.s v))
  |none=>none
 |.conv k,[.v (.s (.int _ n))]=>some (.v (.s (.int k (k.wrap n))))
 |.Rk f n,xs=>match sN xs with
  |some l=>some (.v (.s (.func f (l.take n) (l.drop n))))
  |none=>none
 |.lens,[.v (.s (.slice _ _ len _ _))]=>some (.int .i64 (len:Nat))
 |.lens,[.v (.s (.lst _ l _))]=>some (.int .i64 (l.length:Nat))
 |.lens,[.v (.s .A4)]=>some (.int .i64 (0:Nat))
 |.Pz,[.v (.s (.str l))]=>some (.int .i64 (l.length:Nat))
 |.P0 n,[_]=>some (.int .i64 (n:Nat))
 |.Nu m,.v (.s (.int k x))::xs=>match Vo m k x xs with
  |some v=>some (.v (.s v))
  |none=>none
 |_,_=>none
def isE:VOp->Bool
 |.build ..|.Ft _|.field ..|.extract _|.J7|.bin _|.eq ..|.un _|.conv _|.Rk ..|.lens|.Pz|.P0 _|.Nu _=>true
 |_=>false
theorem AaF {op:VOp} {args:Ez} {v:PA} (e:opE op args=some v) (g:A0):opP op args g=some (v,g):=by
 unfold opE at e;split at e
 ·split at e
  ·next z hz=>
   split at e;·next cs hcs=>cases e;simp only[opP,fJ,hz,pG hcs]
   ·cases e
  ·cases e
 ·cases e;rfl
 ·split at e
  ·next r hr=>
   cases e;obtain⟨h1,h2⟩:=Us hr;simp only[opP,Km,Aj h1,h2]
  ·cases e
 ·cases e;rfl
 ·split at e
  ·next r hr=>
   cases e;obtain⟨h1,h2⟩:=Zo hr;simp only[opP,Xf,Aj h1,h2]
  ·cases e
 ·split at e;·next x hx=>cases e;simp only[opP,aP,cJ,pD hx,noP]
  ·cases e
 ·split at e
  ·next r hr=>
   split at e
   ·next q hq=>
    cases e;obtain⟨h1,h2⟩:=Zo hr;obtain⟨h3,h4⟩:=Us hq;subst h2;rw[Cr] at h3;simp only[opP,aP,cJ];rw[Aj Aa,h4];rfl
   ·cases e
  ·cases e
 ·split at e;·next x hx=>cases e;simp only[opP,Nz,pD hx,noP]
  ·cases e
 ·split at e
  ·next v' h' hv=>
   cases e;simp only[opP];unfold Pb at hv ⊢;split at hv<;>first|(cases hv;rfl)|cases hv
  ·cases e
 ·split at e;·next x hx=>cases e;simp only[opP,Td,hx,Hv]
  ·cases e
 ·split at e;·next x hx=>cases e;simp only[opP,pEq,hx]
  ·cases e
 ·split at e;·next x hx=>cases e;simp only[opP,pUn,hx,Hv]
  ·cases e
 ·cases e;rfl
 ·split at e;·next x hx=>cases e;simp only[opP,Yw,hx]
  ·cases e
 ·cases e;rfl
 ·cases e;rfl
 ·cases e;rfl
 ·cases e;rfl
 ·cases e;rfl
 ·split at e;·next x hx=>cases e;simp only[opP,Y0,hx,Hv]
  ·cases e
 ·cases e
def mO (g:A0) (b:Key) (o n:Nat):Option (Ey):=
 match g.get b with
 |some ⟨.cells c,_,_,_,_⟩=>match vC o c with
  |some r=>dB n r
  |none=>none
 |_=>none
theorem Zq {g:A0} {b:Key} {o n:Nat} {l:Ey} (e:mO g b o n=some l):g.read b o n=some l:=by
 unfold mO at e;split at e
 ·next c _ _ _ _ hg=>
  split at e
  ·next r hr=>
   obtain⟨h1,h2⟩:=Zo hr;obtain⟨h3,h4⟩:=Us e;subst h2;rw[Cr] at h3;unfold A0.read;split;·next h0=>subst h0;simp only[Ea] at h4;rw[h4]
   ·have hc:g.cells b=some c:=by simp only[A0.cells,hg]
    rw[hc];simp only;rw[Aj Aa,h4]
  ·cases e
 ·cases e
def yV (g:A0) (b:Key) (o:Nat) (l:Ey):Option A0:=
 match g.get b with
 |some ⟨.cells c,true,false,[],log⟩=>match Wx c o l with
  |some r=>some (g.upd b (some ⟨.cells r,true,false,[],(o,l.length)::log⟩))
  |none=>none
 |_=>none
theorem KR {g g':A0} {b:Key} {o:Nat} {l:Ey} (e:yV g b o l=some g'):g.write b o l=some g':=by
 unfold yV at e;split at e
 ·next c log hg=>
  split at e
  ·next r hr=>
   cases e;obtain⟨h1,h2⟩:=Zp hr;unfold A0.write;rw[hg];simp only;rw[Aj ⟨h1,rfl⟩,h2];rfl
  ·cases e
 ·cases e
def frL:Fm->PFr
 |[]=>.z
 |(k,x)::L=>(frL L).upd k (some x.pa)
theorem Ha:∀L:Fm,Fit L (frL L)
 |[],k,x,h=>Ad
 |(j,y)::L,k,x,h=>by
  simp only[look] at h;simp only[frL,Tr.D1];split at h;·next hk=>cases h;rw[Aj (He hk)]
  ·next hk=>
   rw[Ao (λhe=>by subst he;rw[Gy] at hk;cases hk)];exact Ha L k x h
theorem M0:∀(L:Fm) (k:Key) (v:PA),(frL L).get k=some v->∃x,look L k=some x/\x.pa=v
 |[],k,v,h=>by simp[frL] at h
 |(j,y)::L,k,v,h=>by
  simp only[frL,Tr.D1] at h;simp only[look];split at h;·next hk=>cases h;subst hk;rw[Gy];exact⟨y,rfl,rfl⟩
  ·next hk=>
   split;·next he=>exact absurd (He he) hk
   ·exact M0 L k v h
theorem Zr (L:Fm) (d:EE) (x:FE):frL (Jj L d x)=O4 (frL L) d x.pa:=by cases d<;>rfl
theorem VM {L L':Fm} (s:Sub L L') (k:Key) (v:PA) (h:(frL L).get k=some v):(frL L').get k=some v:=by obtain⟨x,h1,h2⟩:=M0 L k v h;obtain⟨y,h3,h4⟩:=s k x h1;rw[Ha L' k y h3,h4,h2]
def V6 (L:Fm) (gd:Option (Key×Bool)) (T U:Fm->Prop):Prop:=
 match gd with
 |none=>T L
 |some (k,b)=>match look L k with
  |some (.b c)=>match Bool.xor c b with
   |false=>T L
   |true=>U L
  |some (.v (.v (.s (.bool c))))=>(c=b->T ((k,.b b)::L))/\(c=!b->U ((k,.b !b)::L))
  |some (.v (.tup _))=>U L
  |_=>False
theorem yW {L:Fm} {gd:Option (Key×Bool)} {T U:Fm->Prop} (h:V6 L gd T U) {fr:PFr} (hf:Fit L fr) :
  ∃L1,Fit L1 fr/\(((∀fr,Fit L1 fr->Hf fr gd=some true)/\T L1)∨((∀fr,Fit L1 fr->Hf fr gd=some false)/\U L1)):=by
 unfold V6 at h;split at h;·exact⟨L,hf,.inl ⟨λ_ _=>rfl,h⟩⟩
 ·next k b=>
  split at h
  ·next c hc=>
   split at h
   ·next hx=>
    refine⟨L,hf,.inl ⟨λfr hf=>?_,h⟩⟩;simp only[Hf,hf k _ hc,FE.pa];cases c<;>cases b<;>first|rfl|cases hx
   ·next hx=>
    refine⟨L,hf,.inr ⟨λfr hf=>?_,h⟩⟩;simp only[Hf,hf k _ hc,FE.pa];cases c<;>cases b<;>first|rfl|cases hx
  ·next c hc=>
   have mark:∀x:FE,look ((k,x)::L) k=some x:=λx=>by simp only[look,Gy]
   by_cases hcb:c=b;·subst hcb;refine⟨_,hf.known (y:=.b c) hc rfl,.inl ⟨λfr hf=>?_,h.1 rfl⟩⟩;simp only[Hf,hf k _ (mark _),FE.pa,beq_self_eq_true]
   ·have hn:c=!b:=by cases c<;>cases b<;>first|rfl|exact absurd rfl hcb
    refine⟨_,hf.known (y:=.b !b) hc (by rw[<-hn];rfl),.inr ⟨λfr hf=>?_,h.2 hn⟩⟩;simp only[Hf,hf k _ (mark _),FE.pa];cases b<;>rfl
  ·next x hc=>
   exact⟨L,hf,.inr ⟨λfr hf=>by simp only[Hf,hf k _ hc,FE.pa],h⟩⟩
  ·exact h.elim
abbrev pE(k b:Key):Key×FE:=(k,.v (.v (.s (.ptr b 0))))
abbrev sE(k:Key)(x:PV):Key×FE:=(k,.v (.v (.s x)))
theorem Lq{a b c d:Nat}(h:a-b<c-d:=by omega):a-b<c-d:=h
section
variable {F:D5} {pu:EH}
theorem wrap_i64 {n:Int} (h:-9223372036854775808<=n/\n<9223372036854775808):IntKind.wrap .i64 n=n:=by
 show(if(true&&decide (n % 18446744073709551616>=9223372036854775808))=true then n % 18446744073709551616-18446744073709551616 else n % 18446744073709551616)=n;by_cases h0:n % 18446744073709551616>=9223372036854775808;·rw[Aj (by simp[h0])];omega
 ·rw[Ao (by simp[h0])];omega
theorem wrap_u8 (n:Int):IntKind.wrap .u8 n=n % 256:=by simp[IntKind.wrap,IntKind.signed,IntKind.bits]
theorem GV {x y:Int} (h:0<=x/\0<y):0<=x / y/\x / y<=x:=⟨Int.ediv_nonneg h.1 (Int.le_of_lt h.2),Int.ediv_le_self y h.1⟩
theorem wrap_u64 {n:Int} (h:0<=n/\n<18446744073709551616):IntKind.wrap .u64 n=n:=by unfold IntKind.wrap;simp only[IntKind.bits,IntKind.signed,Bool.false_and,Fj,Ag];have e1:(2:Int) ^ 64=18446744073709551616:=rfl;rw[e1];omega
theorem wrap_u32 (n:Int):IntKind.wrap .u32 n=n % 4294967296:=by unfold IntKind.wrap;simp only[IntKind.bits,IntKind.signed,Bool.false_and,Fj,Ag];rfl
def XC (F:D5) (f:Nat) (args:Ez) (g:A0) (R:PA->A0->Prop):Prop:=∀s:Sta,Good s->s.g=g->∀vs:EA,A1 (AR s.Z s.p) args vs ->
 ∃N u h' Z' p' r g',Fh F noO (exec F noO N) f vs s.h=some (u,h')/\Good ⟨Z',p',g',h'⟩/\E1 s.g.next.toNat s.h.next.toNat s ⟨Z',p',g',h'⟩/\AR Z' p' r u/\R r g'
theorem XC.mono {f:Nat} {args:Ez} {g:A0} {R R':PA->A0->Prop} (h:XC F f args g R) (hr:∀r g',R r g'->R' r g'):XC F f args g R':=by intro s hs hg vs hv;obtain⟨N,u,h',Z',p',r,g',h1,h2,h3,h4,h5⟩:=h s hs hg vs hv;exact⟨N,u,h',Z',p',r,g',h1,h2,h3,h4,hr r g' h5⟩
def iP (F:D5) (pu:EH) (f:Nat) (args:Ez) (g:A0) (R:PA->A0->Prop):Prop:=
 match pu f with
 |true=>∃xs g1 r,Fw deep args g=some (xs,g1)/\A3 F f xs r/\R r g1
 |false=>XC F f args g R
theorem bN {f:Nat} {args:Ez} {g:A0} {R:PA->A0->Prop} (h:iP F pu f args g R):XC F f args g R:=by
 unfold iP at h;split at h;·obtain⟨xs,g1,r,hx,hr,hR⟩:=h;intro s hs hg vs hv;subst hg;obtain⟨Z1,h1,h2⟩:=iE args hs.toGu hv hx;have hg:Good ⟨Z1,s.p,g1,s.h⟩:=⟨h1.sim,h1.room hs.toRoom⟩;obtain⟨N,u,h',Z',h3,h4,h5,h6⟩:=hr _ hg vs h2;have hext:=h1.ext s.g.next.toNat s.h.next.toNat;exact⟨N,u,h',Z',s.p,r,g1,h3,h4,hext.trans hs.toGu h5 hext.nx.1 Rl,h6.a,hR⟩
 ·exact h
def GW (o:VOp) (xs:List FE) (g:A0) (R:FE->A0->Prop):Prop:=
 match o,xs with
 |.mov,[x]=>R x g
 |.pick,[.b c,x,y]=>match c with
  |true=>R x g
  |false=>R y g
 |.un .not,[.b c]=>R (.b (!c)) g
 |.isl es,[.v (.v (.s (.lst es' l _))),.v (.v (.s (.int _ i)))]=>match Nat.beq es es' with
  |true=>∃e,(0<=i/\l[i.toNat]?=some e)/\R (.v (.v (.s (.rp e)))) g
  |false=>False
 |.isl es,[.v (.v (.s (.slice b o len es' _))),.v (.v (.s (.int _ i)))]=>match Nat.beq es es' with
  |true=>(0<=i/\i<(len:Int))/\R (.q (.v (.s (.ptr b (o+i.toNat*es))))) g
  |false=>False
 |.bin .add,[.v (.v (.s (.int .i64 x))),.v (.v (.s (.int .i64 y)))]=>(-9223372036854775808<=x+y/\x+y<9223372036854775808)/\R (.v (.v (.s (.int .i64 (x+y))))) g
 |.bin .sub,[.v (.v (.s (.int .i64 x))),.v (.v (.s (.int .i64 y)))]=>(-9223372036854775808<=x-y/\x-y<9223372036854775808)/\R (.v (.v (.s (.int .i64 (x-y))))) g
 |.bin .mul,[.v (.v (.s (.int .i64 x))),.v (.v (.s (.int .i64 y)))]=>(-9223372036854775808<=x*y/\x*y<9223372036854775808)/\R (.v (.v (.s (.int .i64 (x*y))))) g
 |.bin .add,[.v (.v (.s (.int .u64 x))),.v (.v (.s (.int .u64 y)))]=>(0<=x+y/\x+y<18446744073709551616)/\R (.v (.v (.s (.int .u64 (x+y))))) g
 |.bin .mul,[.v (.v (.s (.int .u64 x))),.v (.v (.s (.int .u64 y)))]=>(0<=x*y/\x*y<18446744073709551616)/\R (.v (.v (.s (.int .u64 (x*y))))) g
 |.bin .quo,[.v (.v (.s (.int .u64 x))),.v (.v (.s (.int .u64 y)))]=>y≠0/\R (.v (.v (.s (.int .u64 (IntKind.wrap .u64 (x.tdiv y)))))) g
 |.bin .rem,[.v (.v (.s (.int .u64 x))),.v (.v (.s (.int .u64 y)))]=>y≠0/\R (.v (.v (.s (.int .u64 (x.tmod y))))) g
 |.bin .quo,[.v (.v (.s (.int .i64 x))),.v (.v (.s (.int .i64 y)))]=>(0<=x/\x<9223372036854775808/\0<y)/\R (.v (.v (.s (.int .i64 (x / y))))) g
 |.bin .rem,[.v (.v (.s (.int .i64 x))),.v (.v (.s (.int .i64 y)))]=>(0<=x/\0<y)/\R (.v (.v (.s (.int .i64 (x % y))))) g
 |.bin .quo,[.v (.v (.s (.int .u8 x))),.v (.v (.s (.int .u8 y)))]=>(0<=x/\x<256/\0<y)/\R (.v (.v (.s (.int .u8 (x / y))))) g
 |.bin .rem,[.v (.v (.s (.int .u8 x))),.v (.v (.s (.int .u8 y)))]=>(0<=x/\0<y)/\R (.v (.v (.s (.int .u8 (x % y))))) g
 |.bin .add,[.v (.v (.s (.int .u8 x))),.v (.v (.s (.int .u8 y)))]=>R (.v (.v (.s (.int .u8 ((x+y) % 256))))) g
 |.bin .mul,[.v (.v (.s (.int .u8 x))),.v (.v (.s (.int .u8 y)))]=>R (.v (.v (.s (.int .u8 ((x*y) % 256))))) g
 |.conv .i64,[.v (.v (.s (.int .u8 x)))]=>(0<=x/\x<9223372036854775808)/\R (.v (.v (.s (.int .i64 x)))) g
 |.conv .i64,[.v (.v (.s (.int .u16 x)))]=>(0<=x/\x<9223372036854775808)/\R (.v (.v (.s (.int .i64 x)))) g
 |.conv .u8,[.v (.v (.s (.int .i64 x)))]=>R (.v (.v (.s (.int .u8 (x % 256))))) g
 |.conv .u64,[.v (.v (.s (.int .u8 x)))]=>(0<=x/\x<18446744073709551616)/\R (.v (.v (.s (.int .u64 x)))) g
 |.Ft off,[.q (.v (.s (.ptr b o)))]=>R (.q (.v (.s (.ptr b (o+off))))) g
 |.Fb,[.v (.v (.s (.rp (x::_))))]=>R (.v (.v (.s x))) g
 |.Fl n,[.v (.v (.s (.rp l)))]=>match dB n l with
  |some r=>R (.v (.v (.agg r))) g
  |none=>False
 |.Fb,[.v (.v (.s (.ptr b o)))]=>match mO g b o 1 with
  |some [x]=>R (.v (.v (.s x))) g
  |_=>False
 |.Fl n,[.v (.v (.s (.ptr b o)))]=>match mO g b o n with
  |some l=>R (.v (.v (.agg l))) g
  |none=>False
 |.store n,[.v (.v (.s (.ptr b o))),x]=>match x.pa with
  |.v c=>match OW n c.cells with
   |true=>match yV g b o c.cells with
    |some g'=>R (.v .unit) g'
    |none=>False
   |false=>False
  |.tup _=>False
 |.Jv zs,[]=>match Ny zs with
  |some l=>R (.v (.v (.s (.ptr g.next 0)))) (g.new (.cells l))
  |none=>False
 |.box n,[x]=>match x.pa with
  |.v c=>match OW n c.cells with
   |true=>R (.v (.v (.s (.ptr g.next 0)))) (g.new (.cells c.cells))
   |false=>False
  |.tup _=>False
 |.J6 es len zero places,xs=>match Ny zero with
  |some z=>match OX (M8 z len) places (xs.map FE.pa) with
   |some cs=>R (.v (.v (.s (.slice g.next 0 len es (some len))))) (g.new (.cells cs))
   |none=>False
  |none=>False
 |.S7,[]=>R (.v (.v (.s (.map g.next)))) (g.new (.map []))
 |o,xs=>match isE o with
  |true=>match opE o (xs.map FE.pa) with
   |some v=>R (.v v) g
   |none=>False
  |false=>∃v g',opP o (xs.map FE.pa) g=some (v,g')/\R (.v v) g'
def mP (F:D5) (pu:EH) (a:Ff) (xs:List FE) (g:A0) (R:FE->A0->Prop):Prop:=
 match a with
 |.op o=>GW o xs g R
 |.call f=>iP F pu f (xs.map FE.pa) g λr g'=>R (.v r) g'
 |.Kr=>match xs with
  |.v (.v (.s (.func f fs cs)))::xs=>iP F pu f (Y1 fs++xs.map FE.pa++Y1 cs) g λr g'=>R (.v r) g'
  |_=>False
theorem vD {o:VOp} {xs:List FE} {g:A0} {R:FE->A0->Prop} (h:GW o xs g R):∃x g',opP o (xs.map FE.pa) g=some (x.pa,g')/\R x g':=by
 have main:∀{x:FE} {g':A0},opP o (xs.map FE.pa) g=some (x.pa,g')->R x g'->∃x g',opP o (xs.map FE.pa) g=some (x.pa,g')/\R x g':=λh1 h2=>⟨_,_,h1,h2⟩;unfold GW at h;split at h;·next x=>exact main rfl h
 ·next c x y=>
  split at h;·exact main (x:=x) rfl h
  ·exact main (x:=y) rfl h
 ·next c=>exact main rfl h
 ·next es es' l cap k i=>
  split at h
  ·next he=>
   obtain⟨e,⟨h1,h2⟩,hR⟩:=h;refine main ?_ hR;simp only[AG,BH,FE.pa,opP,nZ];rw[Aj ⟨CX he,h1⟩,h2]
  ·exact h.elim
 ·next es b o len es' cap k i=>
  split at h
  ·next he=>
   obtain⟨h1,hR⟩:=h;refine main ?_ hR;simp only[AG,BH,FE.pa,opP,nZ];rw[Aj ⟨CX he,h1⟩]
  ·exact h.elim
 ·exact main (by show Hv _ (some (.int .i64 (IntKind.wrap .i64 _)))=_;rw[wrap_i64 h.1];rfl) h.2
 ·exact main (by show Hv _ (some (.int .i64 (IntKind.wrap .i64 _)))=_;rw[wrap_i64 h.1];rfl) h.2
 ·exact main (by show Hv _ (some (.int .i64 (IntKind.wrap .i64 _)))=_;rw[wrap_i64 h.1];rfl) h.2
 ·exact main (by show Hv _ (some (.int .u64 (IntKind.wrap .u64 _)))=_;rw[wrap_u64 h.1];rfl) h.2
 ·exact main (by show Hv _ (some (.int .u64 (IntKind.wrap .u64 _)))=_;rw[wrap_u64 h.1];rfl) h.2
 ·exact main (by simp only[AG,BH,FE.pa,opP,Td,dS,O8,Fj,Ag,Ak,Rn,Ao h.1,Rr,Hv]) h.2
 ·exact main (by simp only[AG,BH,FE.pa,opP,Td,dS,O8,Fj,Ag,Ak,Rn,Ao h.1,Rr,Hv]) h.2
 ·next x y=>
  refine main ?_ h.2;have hq:=GV ⟨h.1.1,h.1.2.2⟩;simp only[AG,BH,FE.pa,opP,Td,dS,O8,Fj,Ag,Ak,Rn,Ao (Ef h.1.2.2),Rr,Hv];rw[BK h.1.1,wrap_i64 Aa]
 ·refine main ?_ h.2;simp only[AG,BH,FE.pa,opP,Td,dS,O8,Fj,Ag,Ak,Rn,Ao (Ef h.1.2),Rr,Hv];rw[Bv h.1.1]
 ·next x y=>
  refine main ?_ h.2;have hq:=GV ⟨h.1.1,h.1.2.2⟩;simp only[AG,BH,FE.pa,opP,Td,dS,O8,Fj,Ag,Ak,Rn,Ao (Ef h.1.2.2),Rr,Hv];rw[BK h.1.1,wrap_u8,Int.emod_eq_of_lt hq.1 Aa]
 ·refine main ?_ h.2;simp only[AG,BH,FE.pa,opP,Td,dS,O8,Fj,Ag,Ak,Rn,Ao (Ef h.1.2),Rr,Hv];rw[Bv h.1.1]
 ·exact main (by show Hv _ (some (.int .u8 (IntKind.wrap .u8 _)))=_;rw[wrap_u8];rfl) h
 ·exact main (by show Hv _ (some (.int .u8 (IntKind.wrap .u8 _)))=_;rw[wrap_u8];rfl) h
 ·refine main ?_ h.2;show some (PA.int .i64 (IntKind.wrap .i64 _),g)=_;rw[wrap_i64 ⟨Aa,h.1.2⟩];rfl
 ·refine main ?_ h.2;show some (PA.int .i64 (IntKind.wrap .i64 _),g)=_;rw[wrap_i64 ⟨Aa,h.1.2⟩];rfl
 ·refine main ?_ h;show some (PA.int .u8 (IntKind.wrap .u8 _),g)=_;rw[wrap_u8];rfl
 ·refine main ?_ h.2;show some (PA.int .u64 (IntKind.wrap .u64 _),g)=_;rw[wrap_u64 h.1];rfl
 ·exact main rfl h
 ·exact main rfl h
 ·next n l=>
  split at h
  ·next r hr=>
   obtain⟨h1,h2⟩:=Us hr;refine main ?_ h;simp only[AG,BH,FE.pa,opP,Km,Aj h1,h2]
  ·exact h.elim
 ·next b o=>
  split at h;·next x hx=>refine main ?_ h;simp only[AG,BH,FE.pa,opP,Qc,Zq hx]
  ·exact h.elim
 ·next n b o=>
  split at h;·next x hx=>refine main ?_ h;simp only[AG,BH,FE.pa,opP,Km,Zq hx]
  ·exact h.elim
 ·next n b o x=>
  split at h
  ·next c hc=>
   split at h
   ·next hn=>
    split at h;·next g' hg'=>refine main ?_ h;simp only[AG,BH,hc];simp only[FE.pa,opP,Qd,Aj (eM hn),KR hg']
    ·exact h.elim
   ·exact h.elim
  ·exact h.elim
 ·next zs=>
  split at h;·next l hl=>refine main ?_ h;simp only[BH,FE.pa,opP,lU,hl]
  ·exact h.elim
 ·next n x=>
  split at h
  ·next c hc=>
   split at h;·next hn=>refine main ?_ h;simp only[AG,BH,hc];simp only[FE.pa,opP,JM,Aj (eM hn)]
   ·exact h.elim
  ·exact h.elim
 ·next es len zero places=>
  split at h
  ·next z hz=>
   split at h;·next cs hcs=>refine main ?_ h;simp only[FE.pa,opP,Vp,hz,pG hcs]
   ·exact h.elim
  ·exact h.elim
 ·exact main rfl h
 ·next o xs _ _ _ _ _ _ _ _ _ _ _ _ _ _ _=>
  split at h
  ·split at h;·next v hv'=>exact main (x:=.v v) (AaF hv' g) h
   ·exact h.elim
  ·obtain⟨v,g',h1,h2⟩:=h;exact main (x:=.v v) h1 h2
theorem vE {a:Ff} {xs:List FE} {g:A0} {R:FE->A0->Prop} (h:mP F pu a xs g R) {s:Sta} (hs:Good s) (hg:s.g=g) {vs:EA} (hv:A1 (AR s.Z s.p) (xs.map FE.pa) vs) :
  ∃N u h' Z' p' x g',a.run (Fh F noO (exec F noO N)) vs s.h=some (u,h')/\Good ⟨Z',p',g',h'⟩/\E1 s.g.next.toNat s.h.next.toNat s ⟨Z',p',g',h'⟩/\AR Z' p' x.pa u/\R x g':=by
 subst hg;cases a with
 |op o=>obtain⟨x,g',h1,h2⟩:=vD h;obtain⟨u,h',p',h3,h4,h5,h6⟩:=yL o s hs _ vs _ g' hv h1;exact⟨0,u,h',s.Z,p',x,g',h3,h4,h5,h6,h2⟩
 |call f=>obtain⟨N,u,h',Z',p',r,g',h1,h2,h3,h4,h5⟩:=bN (by simpa only[mP] using h) s hs rfl vs hv;exact⟨N,u,h',Z',p',.v r,g',h1,h2,h3,h4,h5⟩
 |Kr=>
  unfold mP at h;simp only at h;split at h;case h_2=>exact h.elim
  next f fs cs xs=>
  cases hv with
  |cons h1 h2=>
  obtain⟨z,rfl,fs',cs',rfl,h3,h4⟩:=h1.s;obtain⟨N,u,h',Z',p',r,g',h5,h6,h7,h8,h9⟩:=bN h s hs rfl _ (D0 (D0 (Ns h3) h2) (Ns h4));exact⟨N,u,h',Z',p',.v r,g',h5,h6,h7,h8,h9⟩
def Acz (F:D5) (pu:EH) (o:B3) (ih:Fm->A0->(Fm->A0->Prop)->Prop) (L:Fm) (g:A0) (Q:Fm->A0->Prop):Prop:=
 V6 L o.guard (λL=>match Qj L o.args with
   |some xs=>mP F pu o.act xs g λx g'=>ih (Jj L o.dst x) g' Q
   |none=>False) (λL=>ih (Jj L o.dst (.v .unit)) g Q)
def wpOps (F:D5) (pu:EH) (l:List B3):Fm->A0->(Fm->A0->Prop)->Prop:=
 @List.rec B3 (λ_=>Fm->A0->(Fm->A0->Prop)->Prop) (λL g Q=>Q L g) (λo _ ih=>Acz F pu o ih) l
theorem wpOps_cons (o:B3) (l:List B3) (L:Fm) (g:A0) (Q:Fm->A0->Prop):wpOps F pu (o::l) L g Q=V6 L o.guard (λL=>match Qj L o.args with
   |some xs=>mP F pu o.act xs g λx g'=>wpOps F pu l (Jj L o.dst x) g' Q
   |none=>False) (λL=>wpOps F pu l (Jj L o.dst (.v .unit)) g Q):=rfl
abbrev FRL (Z:ZM) (p:Ren) (L:Fm) (fr1:Fr):Prop:=FR Z p (frL L) fr1
theorem FRL.fit {Z:ZM} {p:Ren} {L L1:Fm} {fr1:Fr} (h:FRL Z p L fr1) (hf:Fit L1 (frL L)):FRL Z p L1 fr1:=by intro k v e;obtain⟨x,h1,rfl⟩:=M0 L1 k v e;exact h k _ (hf k x h1)
theorem FRL.sub {Z:ZM} {p:Ren} {L L1:Fm} {fr1:Fr} (h:FRL Z p L fr1) (s:Sub L1 L):FRL Z p L1 fr1:=λk v e=>h k v (VM s k v e)
theorem FRL.put {Z:ZM} {p:Ren} {L:Fm} {fr1:Fr} (h:FRL Z p L fr1) {x:FE} {u:AV} (hv:AR Z p x.pa u) (d:EE):FRL Z p (Jj L d x) (Fp fr1 d u):=by
 have:=FR.put h hv d
 rwa [<-Zr] at this
theorem dD {L:Fm} {gd:Option (Key×Bool)} {T U:Fm->Prop} (h:V6 L gd T U) {Z:ZM} {p:Ren} {fr1:Fr} (hf:FRL Z p L fr1) :
  ∃L1,FRL Z p L1 fr1/\(∀k v,(frL L1).get k=some v->(frL L).get k=some v)/\((Hf (frL L1) gd=some true/\T L1)∨(Hf (frL L1) gd=some false/\U L1)):=by
 obtain⟨L1,h1,h2⟩:=yW h (Ha L);refine⟨L1,FRL.fit hf h1,λk v e=>?_,?_⟩;·obtain⟨x,h3,rfl⟩:=M0 L1 k v e;exact h1 k x h3
 ·rcases h2 with⟨h2,h3⟩|⟨h2,h3⟩;·exact .inl ⟨h2 _ (Ha L1),h3⟩
  ·exact .inr ⟨h2 _ (Ha L1),h3⟩
theorem Ox:∀(l:List B3) {L:Fm} {g:A0} {Q:Fm->A0->Prop},wpOps F pu l L g Q->∀{s:Sta},Good s->s.g=g->∀{fr1:Fr},FRL s.Z s.p L fr1 ->
  ∃N fr1' h' Z' p' g' L',G0 (Fh F noO (exec F noO N)) l fr1 s.h=some (fr1',h')/\Good ⟨Z',p',g',h'⟩/\E1 s.g.next.toNat s.h.next.toNat s ⟨Z',p',g',h'⟩/\FRL Z' p' L' fr1'/\Q L' g'
 |[],L,g,Q,h,s,hs,hg,fr1,hf=>⟨0,fr1,s.h,s.Z,s.p,s.g,L,rfl,hs,E1.refl _ _ _,hf,by rw[hg];exact h⟩
 |o::l,L,g,Q,h,s,hs,hg,fr1,hf=>by
  rw[wpOps_cons] at h;obtain⟨L1,hf1,_,⟨hw,h⟩|⟨hw,h⟩⟩:=dD h hf;all_goals have hw:=Hr hf1 hw
  ·split at h
   ·next xs hxs=>
    obtain⟨us,h1,h2⟩:=L9 hf1 (V5 (Ha L1) hxs);obtain⟨N,u,h',Z',p',x,g',h3,h4,h5,h6,h7⟩:=vE h hs hg h2;obtain⟨M,fr2,h2',Z2,p2,g2,L2,h8,h9,h10,h11,h12⟩:=Ox l h7 h4 rfl (FRL.put (hf1.mono h5.zle h5.ple) h6 o.dst);refine⟨max N M,fr2,h2',Z2,p2,g2,L2,?_,h9,h5.trans hs.toGu h10 h5.nx.1 h5.nx.2,h11,h12⟩;have:o.run (Fh F noO (exec F noO N)) fr1 s.h=some (Fp fr1 o.dst u,h'):=by simp only[B3.run,hw,h1,h3]
    simp only[G0,L7 (Ph (Cp N M)) this];exact Zj (Ph (Ca N M)) l h8
   ·exact h.elim
  ·obtain⟨M,fr2,h2',Z2,p2,g2,L2,h8,h9⟩:=Ox l h hs hg (FRL.put (x:=.v .unit) hf1 Lc o.dst);refine⟨M,fr2,h2',Z2,p2,g2,L2,?_,h9⟩;simp only[G0,B3.run,hw];exact h8
def opOf:Ff->VOp
 |.op o=>o
 |_=>.bad
def Ut:ED->(ED->Prop)->Prop
 |[],K=>K []
 |k::l,K=>Ut l λl=>K (k::l)
def Ma:Hp->(Hp->Prop)->Prop
 |[],K=>K []
 |(g,ws)::l,K=>Ut ws λws=>Ma l λl=>K ((g,ws)::l)
theorem dE:∀{l:ED} {K:ED->Prop},Ut l K->K l
 |[],_,h=>h
 |k::l,K,h=>dE (l:=l) (K:=λl=>K (k::l)) h
theorem Ld:∀{l:Hp} {K:Hp->Prop},Ma l K->K l
 |[],_,h=>h
 |(g,ws)::l,K,h=>Ld (l:=l) (K:=λl=>K ((g,ws)::l)) (dE (K:=λws=>Ma l λl=>K ((g,ws)::l)) h)
def pH (h h0:A0):Key->Nat->Bool
 |_,0=>true
 |k,n+1=>(match h.get k with
  |some x=>!x.frz||(match h0.get k with
   |some y=>!y.frz
   |none=>false)
  |none=>true)&&pH h h0 k.succ n
def yX (h:A0) (lo:Key) (n:Nat):Hp->Bool
 |[]=>S9 h lo n
 |(h0,_)::_=>pH h h0 lo n
theorem dF {g g0:A0}:∀{n:Nat} {k:Key},pH g g0 k n=true->∀j:Key,k.toNat<=j.toNat->j.toNat<k.toNat+n->∀x,g.get j=some x->x.frz=false∨∃y,g0.get j=some y/\y.frz=false
 |0,k,_,j,h1,h2,x,hx=>Aa
 |n+1,k,h,j,h1,h2,x,hx=>by
  simp only[pH,Au] at h;by_cases e:k.toNat=j.toNat
  ·have:k=j:=by rw[<-Key.J8 k,e,Key.J8]
   subst this;have h0:=h.1;rw[hx] at h0;simp only[AW,AX] at h0;rcases h0 with h0|h0
   ·exact .inl h0
   ·split at h0;·next y hy=>exact .inr ⟨y,hy,by simpa using h0⟩
    ·cases h0
  ·exact dF h.2 j (by rw[Key.toNat_succ];omega) (by rw[Key.toNat_succ];omega) x hx
theorem VN {o:VOp} {args:Ez} (h:rdF o args=true):rdP o args=none:=by unfold rdF at h;split at h<;>first|rfl|cases h
def yY (F:D5) (pu:EH) (lo hi:Key) (n:Nat) (d:DOp) (ih:Key->Hp->Fm->A0->(Fm->A0->Prop)->Prop) (r:Key) (A7:Hp) (L:Fm) (g:A0) (Q:Fm->A0->Prop):Prop:=
 V6 L d.o.guard (λL=>match Qj L d.o.args with
   |some xs=>match d.o.act.kind with
    |.effect=>mP F pu d.o.act xs g λx g'=>Ma (wrote d.o.dst (A7++[(g,[])])) λA7=>ih r A7 (Jj L d.o.dst x) g' Q
    |.alloc=>match opP (opOf d.o.act) (xs.map FE.pa) { g with next:=r } with
     |some (v,g')=>Ma (wrote d.o.dst A7) λA7=>ih r.succ A7 (Jj L d.o.dst (.v v)) { g' with next:=g.next } Q
     |none=>False
    |.quiet=>match d.o.act with
     |.op o=>GW o xs g λx g'=>match n,A7 with
       |0,[]=>ih r [] (Jj L d.o.dst x) g Q
       |_,_=>match H6 lo hi (rdP o (xs.map FE.pa))&&(!rdF o (xs.map FE.pa)||yX g lo n (A7.drop d.chk))&&Pd d.o.args (rdP o (xs.map FE.pa)) (rdF o (xs.map FE.pa)) g (A7.drop d.chk) with
        |true=>Ma (Ob d.o.dst d.o.args (rdP o (xs.map FE.pa)) g A7) λA7=>ih r A7 (Jj L d.o.dst x) g Q
        |false=>False
     |_=>False
   |none=>False) (λL=>match d.o.act.kind with
   |.effect=>Ma (wrote d.o.dst (A7++[(g,[])])) λA7=>ih r A7 (Jj L d.o.dst (.v .unit)) g Q
   |.alloc=>False
   |.quiet=>ih r A7 (Jj L d.o.dst (.v .unit)) g Q)
def Sn (F:D5) (pu:EH) (lo hi:Key) (n:Nat) (l:List DOp):Key->Hp->Fm->A0->(Fm->A0->Prop)->Prop:=
 @List.rec DOp (λ_=>Key->Hp->Fm->A0->(Fm->A0->Prop)->Prop) (λ_ _ L g Q=>Q L g) (λd _ ih=>yY F pu lo hi n d ih) l
theorem pI (lo hi:Key) (n:Nat) (d:DOp) (l:List DOp) (r:Key) (A7:Hp) (L:Fm) (g:A0) (Q:Fm->A0->Prop):Sn F pu lo hi n (d::l) r A7 L g Q=yY F pu lo hi n d (Sn F pu lo hi n l) r A7 L g Q:=rfl
def pJ (F:D5) (lo lov hiv:Key) (l:List DOp) (rv:Key) (b:List Heap) (fr1:Fr) (s:Sta) (Q:Fm->A0->Prop):Prop:=
 ∃N fr1' h' Z' p' g' L',E8 (Fh F noO (exec F noO N)) lov hiv l rv b fr1 s.h=some (fr1',h')/\Good ⟨Z',p',g',h'⟩/\E1 lo.toNat lov.toNat s ⟨Z',p',g',h'⟩/\FRL Z' p' L' fr1'/\Q L' g'
theorem mQ {lo hi lov hiv:Key} {n:Nat} (hn:lo.toNat+n=hi.toNat) {l:List DOp} {d:DOp} {r rv:Key} {s:Sta} {a:Hp} {b:List Heap} {L:Fm} {fr1:Fr} {Q:Fm->A0->Prop} (hd:lK lo hi lov hiv r rv s) (hr:r.toNat+D4 (d::l)<=hi.toNat)
  (hf:FRL s.Z s.p L fr1) (hab:A1 (Hg lo.toNat lov.toNat s (frL L) fr1) a b)
  {N:Nat} {u:AV} {h2:Heap} {Z2:ZM} {p2:Ren} {x:FE} {g2:A0} (h3:d.o.run (Fh F noO (exec F noO N)) fr1 s.h=some (Fp fr1 d.o.dst u,h2)) (hk:d.o.act.kind=.effect) (h4:Good ⟨Z2,p2,g2,h2⟩)
  (h5:E1 s.g.next.toNat s.h.next.toNat s ⟨Z2,p2,g2,h2⟩) (h6:AR Z2 p2 x.pa u)
  (IH:lK lo hi lov hiv r rv ⟨Z2,p2,g2,h2⟩->r.toNat+D4 l<=hi.toNat->FRL Z2 p2 (Jj L d.o.dst x) (Fp fr1 d.o.dst u)->A1 (Hg lo.toNat lov.toNat ⟨Z2,p2,g2,h2⟩ (frL (Jj L d.o.dst x)) (Fp fr1 d.o.dst u)) (wrote d.o.dst (a++[(s.g,[])])) (b++[s.h]) ->
   pJ F lo lov hiv l rv (b++[s.h]) (Fp fr1 d.o.dst u) ⟨Z2,p2,g2,h2⟩ Q):pJ F lo lov hiv (d::l) rv b fr1 s Q:=by
 have hlh:lo.toNat<=hi.toNat:=Aa;have hnx:=hd.nxv;have hnx0:hi.toNat<=s.g.next.toNat:=by
  rcases hd.nx with h|h;·rw[h];exact Rl
  ·exact h
 have hlv:lov.toNat<=hiv.toNat:=by have:=hd.len;omega
 have hd2:lK lo hi lov hiv r rv ⟨Z2,p2,g2,h2⟩:=by
  refine⟨h4,.inr (AQ hnx0 h5.nx.1),AQ hnx h5.nx.2,λk b hkb=>?_,λb hb1 hb2 hb3=>?_,λk hk1 hk2=>?_,λb hb1 hb2=>?_,hd.step,hd.len,hd.ge⟩
  ·rcases h5.Nk k b hkb with h|h;·exact hd.same k b h
   ·constructor;·intro h';omega
    ·intro h';omega
  ·have:=h5.frame b Aa;by_cases hex:∃k,s.p k=some b;·obtain⟨k,hkb⟩:=hex;exact⟨k,h5.ple k b hkb⟩
   ·exfalso;have hfr:=this λk hkb=>hex ⟨k,hkb⟩;simp only at hb3 hfr;rw[hfr] at hb3;exact hex (hd.made b hb1 hb2 hb3)
  ·cases hkb:p2 k with
   |none=>exact hkb
   |some b=>
    rcases h5.Nk k b hkb with h|h;·rw[hd.uW k hk1 hk2] at h;cases h
    ·omega
  ·obtain⟨h7,h8⟩:=hd.mM b hb1 hb2;refine⟨λk hkb=>?_,?_⟩
   ·rcases h5.Nk k b hkb with h|h;·exact h7 k h
    ·omega
   ·cases hz:Z2 b with
    |none=>exact hz
    |some c=>
     rcases h5.Jv b c hz with h|⟨k,h⟩|h;·exact absurd h8 h
     ·exact absurd h (h7 k)
     ·omega
 have hext:E1 lo.toNat lov.toNat s ⟨Z2,p2,g2,h2⟩:=(E1.refl lo.toNat lov.toNat s).trans hd.Ij.toGu h5 Aa Aa;have hsn:A1 (Hg lo.toNat lov.toNat s (frL L) fr1) (a++[(s.g,[])]) (b++[s.h]):=D0 hab (.cons ⟨s.Z,s.p,hd.Ij.toGu,E1.refl _ _ _,λk v _ e=>hf k v e⟩ .nil);have hsn2:A1 (Hg lo.toNat lov.toNat ⟨Z2,p2,g2,h2⟩ (frL (Jj L d.o.dst x)) (Fp fr1 d.o.dst u)) (wrote d.o.dst (a++[(s.g,[])])) (b++[s.h]):=
  Sk (λZ p g h hp he=>he.trans hp hext Rl Rl) (λk hk=>by rw[Zr,Ow,Ao hk]) (λk hk=>by rw[L8,Ao hk]) hsn
 rw[Ir] at hr;obtain⟨N',fr3,h7,Z3,p3,g3,L3,h8,h9,h10,h11,h12⟩:=IH hd2 Aa (FRL.put (hf.mono h5.zle h5.ple) h6 d.o.dst) hsn2;refine⟨max N N',fr3,h7,Z3,p3,g3,L3,?_,h9,hext.trans hd.Ij.toGu h10 Rl Rl,h11,h12⟩;simp only[E8,hk,L7 (Ph (Cp N N')) h3];exact Kp (Ph (Ca N N')) lov hiv l h8
theorem Mb {lo hi lov hiv:Key} {n:Nat} (hn:lo.toNat+n=hi.toNat):∀(l:List DOp) {r rv:Key} {s:Sta} {a:Hp} {b:List Heap} {L:Fm} {fr1:Fr} {Q:Fm->A0->Prop},lK lo hi lov hiv r rv s->r.toNat+D4 l<=hi.toNat ->
  FRL s.Z s.p L fr1->A1 (Hg lo.toNat lov.toNat s (frL L) fr1) a b->Sn F pu lo hi n l r a L s.g Q->pJ F lo lov hiv l rv b fr1 s Q
 |[],r,rv,s,a,b,L,fr1,Q,hd,_,hf,_,e=>⟨0,fr1,s.h,s.Z,s.p,s.g,L,rfl,hd.Ij,E1.refl _ _ _,hf,e⟩
 |d::l,r,rv,s,a,b,L0,fr1,Q,hd,hr,hf0,hab0,e=>by
  have hlh:lo.toNat<=hi.toNat:=Aa;rw[pI] at e;unfold yY at e;obtain⟨L,hf,hle,hh⟩:=dD e hf0;have hab:A1 (Hg lo.toNat lov.toNat s (frL L) fr1) a b:=by refine A9 hab0 λx y=>?_;rintro⟨Z,p,h3,h4,h5⟩;exact⟨Z,p,h3,h4,λk v hk e=>h5 k v hk (hle k v e)⟩
  clear e hab0 hf0;rcases hh with⟨hw,e⟩|⟨hw,e⟩
  ·split at e
   ·next xs hxs=>
    have hfe:=V5 (Ha L) hxs;obtain⟨us,h1,h2⟩:=L9 hf hfe;split at e
    ·next hk=>
     obtain⟨N,u,h',Z',p',x,g',h3,h4,h5,h6,h7⟩:=vE e hd.Ij rfl h2;exact mQ hn hd hr hf hab (N:=N) (by simp only[B3.run,Hr hf hw,h1,h3]) hk h4 h5 h6 λa1 a2 a3 a4=>Mb hn l a1 a2 a3 a4 (Ld h7)
    ·next hk=>
     split at e
     ·next v g' hop=>
      rw[Ir,hk] at hr;simp only[Ak] at hr;have ho:Pc (λ_ _ _=>none) d.o (frL L) { s.g with next:=r }=some (O4 (frL L) d.o.dst v,g'):=by
       cases hact:d.o.act with
       |call f=>rw[hact] at hk;simp[Ff.kind] at hk
       |Kr=>rw[hact] at hk;simp[Ff.kind] at hk
       |op p=>rw[hact] at hop;have hop:opP p (xs.map FE.pa) { s.g with next:=r }=some (v,g'):=hop;simp only[Pc,hw,hfe,hact,sP,hop]
      obtain⟨v',u,h2',p2,h3,hv',h4,h5,h6⟩:=iJ (F:=F) hd Aa hk hf ho;have hvv:v'=v∨d.o.dst=none:=by
       cases hdst:d.o.dst with
       |none=>exact .inr rfl
       |some k=>rw[hdst] at hv';have:=Bh (λt=>Tr.get t k) hv';simp only[O4,Tr.Ju,Sj] at this;exact .inl this.symm
      have hfr':FRL s.Z p2 (Jj L d.o.dst (.v v)) (Fp fr1 d.o.dst u):=by
       rcases hvv with rfl|hnone;·exact FRL.put (x:=.v v') (hf.mono h5.zle h5.ple) h6 d.o.dst
       ·rw[hnone];exact hf.mono h5.zle h5.ple
      have hsn2:A1 (Hg lo.toNat lov.toNat ⟨s.Z,p2,{ g' with next:=s.g.next },{ h2' with next:=s.h.next }⟩ (frL (Jj L d.o.dst (.v v))) (Fp fr1 d.o.dst u)) (wrote d.o.dst a) b:=
       Sk (λZ p g h hp he=>he.trans hp h5 Rl Rl) (λk hk=>by rw[Zr,Ow,Ao hk]) (λk hk=>by rw[L8,Ao hk]) hab
      obtain⟨N',fr3,h7,Z3,p3,g3,L3,h8,h9,h10,h11,h12⟩:=Mb hn l (s:=⟨s.Z,p2,{ g' with next:=s.g.next },{ h2' with next:=s.h.next }⟩) h4 (by rw[Key.toNat_succ];omega) hfr' hsn2 (Ld e);refine⟨N',fr3,h7,Z3,p3,g3,L3,?_,h9,h5.trans hd.Ij.toGu h10 Rl Rl,h11,h12⟩;simp only[E8,hk,h3];exact h8
     ·exact e.elim
    ·next hk=>
     rw[Ir,hk] at hr;simp only[reduceCtorEq,Ag,AO] at hr;split at e
     ·next o hact=>
      have hko:o.kind=.quiet:=by rw[hact] at hk;exact hk
      obtain⟨x,g2,hop,e⟩:=vD e;have e:(H6 lo hi (rdP o (xs.map FE.pa))&&(!rdF o (xs.map FE.pa)||yX s.g lo n (a.drop d.chk))&&Pd d.o.args (rdP o (xs.map FE.pa)) (rdF o (xs.map FE.pa)) s.g (a.drop d.chk))=true /\
        Sn F pu lo hi n l r (Ob d.o.dst d.o.args (rdP o (xs.map FE.pa)) s.g a) (Jj L d.o.dst x) s.g Q:=by
       split at e
       ·refine⟨?_,e⟩
        have h0:lo.toNat=hi.toNat:=Aa
        simp only[List.drop_nil,Pd,yX,S9,Bool.or_true,CY]
        cases rdP o (xs.map FE.pa) with
        |none=>rfl
        |some q=>simp only[H6,AW,Bs,BC];omega
       ·split at e
        ·next hc=>exact⟨hc,Ld e⟩
        ·exact e.elim
      obtain⟨hcond,e⟩:=e
      ·have hcond:=hcond;obtain⟨rfl,u,h3,h4⟩:=Vz hko s hd.Ij.toGu _ us _ g2 h2 hop;simp only[Au,AW,AX] at hcond;obtain⟨⟨hc1,hc2⟩,hc3⟩:=hcond;have hsame:=iI hd.Ij.toGu hko hfe h1 h2 hop h3 (Gh d.chk hab) hc3;have hout:outside lov hiv o us=true:=by
        unfold outside;split
        ·next bk hbk=>
         simp only[AW,Bs,BC];rcases yS hd.Ij.toGu hko h2 hop hbk with⟨k,rr,h5,h6⟩|⟨h5,h6⟩
         ·rw[h5] at hc1;simp only[H6,AW,Bs,BC] at hc1;have:=hd.same k bk h6;have hx:¬(lo.toNat<=k.toNat/\k.toNat<hi.toNat):=Aa;have hy:¬(lov.toNat<=bk.toNat/\bk.toNat<hiv.toNat):=λh=>hx (this.2 h);omega
         ·rw[h5] at hc2;simp only[Dt,false_or] at hc2;by_cases hin:lov.toNat<=bk.toNat/\bk.toNat<hiv.toNat
          ·exfalso;cases hz:s.Z bk with
           |none=>exact h6 hz
           |some c=>
            obtain⟨y,hy,_⟩:=hd.Ij.z bk c hz;obtain⟨k,hkb⟩:=hd.made bk hin.1 hin.2 (by rw[hy];simp);have hkr:=(hd.same k bk hkb).2 hin;cases hg:s.g.get k with
            |none=>rw[hd.Ij.dead k bk hkb hg] at hy;cases hy
            |some x=>
             have hthaw:x.frz=false->False:=λhfz=>by obtain⟨b2,y2,e1,_,e3⟩:=hd.Ij.blk k x hg;rw[hkb] at e1;cases e1;rw[e3.Si hfz] at hz;cases hz
             cases hdr:a.drop d.chk with
             |nil=>rw[hdr] at hc2;exact hthaw (Xo hc2 k hkr.1 Aa x hg)
             |cons q rest=>
              have hdrop:=Gh d.chk hab;rw[hdr] at hc2 hc3 hdrop;obtain⟨g0,ws⟩:=q;generalize b.drop d.chk=bd at hdrop;cases hdrop with
              |cons hs1 _=>
              obtain⟨Z,p,s3,s4,s5⟩:=hs1;simp only[Pd,Au,AW,AX] at hc3;obtain⟨⟨q1,q2⟩,_⟩:=hc3;have hkept:=Ur s5 (q1.resolve_left (by rw[h5];simp)) hfe h1;have qs:=(Xn s3 hd.Ij.toGu s4 hko h2 hop h3 q2 λ_=>hkept).1;rcases yS s3 hko hkept qs hbk with⟨k',rr,t1,_⟩|⟨_,t2⟩;·rw[VN h5] at t1;cases t1
              ·rcases dF hc2 k hkr.1 Aa x hg with t3|⟨y0,t3,t4⟩;·exact hthaw t3
               ·obtain⟨b0,y1,u1,_,u3⟩:=s3.blk k y0 t3;have:=s4.ple k b0 u1;rw[hkb] at this;cases this;exact t2 (u3.Si t4)
          ·omega
        ·rfl
       have hw2:=Xp hd.Ij.toGu hko hfe h1 h2 hop h3 d.o.dst hab;rw[<-Zr] at hw2;obtain⟨N',fr3,h7,Z3,p3,g3,L3,h8,h9⟩:=Mb hn l hd hr (FRL.put hf h4 d.o.dst) hw2 e;refine⟨N',fr3,h7,Z3,p3,g3,L3,?_,h9⟩;have hk2:(Ff.op o).kind=Kind.quiet:=hko;simp only[E8,Hr hf hw,hact,hk2,h1,h3,hout,hsame,CY,Ak];exact h8
     ·exact e.elim
   ·exact e.elim
  ·split at e;·next hk=>exact mQ hn hd hr hf hab (N:=0) (x:=.v .unit) (by simp only[B3.run,Hr hf hw]) hk hd.Ij (E1.refl _ _ _) Lc λa1 a2 a3 a4=>Mb hn l a1 a2 a3 a4 (Ld e)
   ·exact e.elim
   ·next hk=>
    rw[Ir,hk] at hr;simp only[reduceCtorEq,Ag,AO] at hr;have hsn2:A1 (Hg lo.toNat lov.toNat s (frL (Jj L d.o.dst (.v .unit))) (Fp fr1 d.o.dst .unit)) a b:=by
     refine A9 hab λx y=>?_;rintro⟨Z,p,h3,h4,h5⟩;refine⟨Z,p,h3,h4,λk w hkw ew=>?_⟩;rw[Zr,Ow] at ew;rw[L8];split at ew;·next hd=>cases ew;rw[Aj hd];exact⟨_,rfl,Lc⟩
     ·next hd=>rw[Ao hd];exact h5 k w hkw ew
    obtain⟨N',fr3,h7,Z3,p3,g3,L3,h8,h9⟩:=Mb hn l hd hr (FRL.put (x:=.v .unit) hf Lc d.o.dst) hsn2 e;refine⟨N',fr3,h7,Z3,p3,g3,L3,?_,h9⟩;simp only[E8,hk,Hr hf hw];exact h8
end
section
variable {F:D5} {pu:EH}
def rnK (ρ:EC):List (Key×Nat)->Option (List (Key×Nat))
 |[]=>some []
 |(k,o)::l=>match ρ k with
  |some j=>match rnK ρ l with
   |some r=>some ((j,o)::r)
   |none=>none
  |none=>none
def rnV (ρ:EC):PV->Option PV
 |.ptr b o=>match ρ b with
  |some j=>some (.ptr j o)
  |none=>none
 |.slice b o len es cap=>match ρ b with
  |some j=>some (.slice j o len es cap)
  |none=>none
 |.map b=>match ρ b with
  |some j=>some (.map j)
  |none=>none
 |.func f fs cs=>match rnK ρ fs with
  |some a=>match rnK ρ cs with
   |some b=>some (.func f a b)
   |none=>none
  |none=>none
 |v=>some v
def RnC (ρ:EC):PC->PC->Prop
 |.s x,.s y=>rnV ρ x=some y
 |.agg l,.agg m=>A1 (λx y=>rnV ρ x=some y) l m
 |_,_=>False
def RnA (ρ:EC):PA->PA->Prop
 |.v x,.v y=>RnC ρ x y
 |.tup l,.tup m=>A1 (RnC ρ) l m
 |_,_=>False
def RnB (ρ:EC):Hj->Hj->Prop
 |.cells l,.cells m=>A1 (λx y=>rnV ρ x=some y) l m
 |.map l,.map m=>A1 (λx y=>RnC ρ x.1 y.1/\RnC ρ x.2 y.2) l m
 |.iter m n st,.iter m' n' st'=>ρ m=some m'/\n=n'/\st=st'
 |_,_=>False
def OY (ρ:EC) (K:A0) (l m:ED):Prop:=A1 (λa a'=>ρ a=some a') l m∨∃a a' z,a∈l/\ρ a=some a'/\K.get a'=some z/\z.frz=true
theorem OY.rel {ρ:EC} {s:Sta} (hs:Gu s) {q:Ren} (hq:∀a a',ρ a=some a'->q a=s.p a') {l m n:ED} (h:OY ρ s.g l m) (e:I4 s.Z s.p m n):I4 s.Z q l n:=by
 rcases h with h|⟨a,a',z,h1,h2,h3,h4⟩;·exact e.ren hq h
 ·obtain⟨b,y,e1,e2,e3⟩:=hs.blk a' z h3;exact .inr ⟨a,b,h1,by rw[hq _ _ h2];exact e1,by rw[e3.frz h4];simp⟩
structure Ku (ρ:EC) (K:A0) (x y:B4):Prop where
 body:RnB ρ x.body y.body
 own:x.own=true->y.own=true/\OY ρ K x.anc y.anc
 frz:x.frz=y.frz
section
variable {ρ:EC} {Z:ZM} {p:Ren}
def Ren.via (ρ:EC) (p:Ren):Ren:=λk=>(ρ k).bind p
theorem Qk {k j:Key} (h:ρ k=some j):Ren.via ρ p k=p j:=by simp[Ren.via,h]
theorem pK:∀{l m:List (Key×Nat)},rnK ρ l=some m->∀{n:List (Key×Nat)},A1 (gT p) m n->A1 (gT (Ren.via ρ p)) l n
 |[],m,h,n,e=>by cases h;cases e;exact .nil
 |(k,o)::l,m,h,n,e=>by
  simp only[rnK] at h;split at h
  ·next j hj=>
   split at h
   ·next r hr=>
    cases h;cases e with
    |cons e1 e2=>exact .cons ⟨by rw[Qk hj];exact e1.1,e1.2⟩ (pK hr e2)
   ·cases h
  ·cases h
theorem pL {x y:PV} (h:rnV ρ x=some y) {u:SV} (e:Gj Z p y u):Gj Z (Ren.via ρ p) x u:=by
 cases x with
 |ptr b o=>
  simp only[rnV] at h;split at h;·next j hj=>cases h;obtain⟨b',e1,e2⟩:=e;exact⟨b',by rw[Qk hj];exact e1,e2⟩
  ·cases h
 |slice b o len es cap=>
  simp only[rnV] at h;split at h;·next j hj=>cases h;obtain⟨b',e1,e2⟩:=e;exact⟨b',by rw[Qk hj];exact e1,e2⟩
  ·cases h
 |map b=>
  simp only[rnV] at h;split at h;·next j hj=>cases h;obtain⟨b',e1,e2⟩:=e;exact⟨b',by rw[Qk hj];exact e1,e2⟩
  ·cases h
 |func f fs cs=>
  simp only[rnV] at h;split at h
  ·next a ha=>
   split at h;·next b hb=>cases h;obtain⟨fs',cs',e1,e2,e3⟩:=e;exact⟨fs',cs',e1,pK ha e2,pK hb e3⟩
   ·cases h
  ·cases h
 |_=>simp only[rnV,Sj] at h;subst h;exact e
theorem OZ {l m:Ey} (h:A1 (λx y=>rnV ρ x=some y) l m) {us:EB} (e:A1 (Gj Z p) m us):A1 (Gj Z (Ren.via ρ p)) l us:=by
 induction h generalizing us with
 |nil=>cases e;exact .nil
 |cons h1 _ ih=>cases e with
  |cons e1 e2=>exact .cons (pL h1 e1) (ih e2)
theorem eO {x y:PC} (h:RnC ρ x y) {u:CV} (e:CR Z p y u):CR Z (Ren.via ρ p) x u:=by
 cases x<;>cases y<;>cases u<;>simp only[RnC,CR] at h e ⊢;·exact pL h e
 ·exact OZ h e
theorem pO {x y:PA} (h:RnA ρ x y) {u:AV} (e:AR Z p y u):AR Z (Ren.via ρ p) x u:=by
 cases x<;>cases y<;>cases u<;>simp only[RnA,AR] at h e ⊢;·exact eO h e
 ·next l m us=>
  induction h generalizing us with
  |nil=>cases e;exact .nil
  |cons h1 _ ih=>cases e with
   |cons e1 e2=>exact .cons (eO h1 e1) (ih _ e2)
theorem GX {x y:Hj} (h:RnB ρ x y) {u:Body} (e:BR Z p y u):BR Z (Ren.via ρ p) x u:=by
 cases x<;>cases y<;>cases u<;>simp only[RnB,BR] at h e ⊢;·obtain⟨e1,e2⟩:=e;refine⟨by rw[e1,A5 h],λi x hx=>?_⟩;obtain⟨y,hy,hxy⟩:=D3 h i hx;obtain⟨s,h1,h2⟩:=e2 i y hy;exact⟨s,h1,pL hxy h2⟩
 ·next l m us=>
  induction h generalizing us with
  |nil=>cases e;exact .nil
  |cons h1 _ ih=>cases e with
   |cons e1 e2=>exact .cons ⟨eO h1.1 e1.1,eO h1.2 e1.2⟩ (ih _ e2)
 ·obtain⟨e1,e2,e3⟩:=e;obtain⟨h1,h2,h3⟩:=h;exact⟨by rw[Qk h1];exact e1,h2.trans e2,h3.trans e3⟩
end
structure Trim (lo:Nat) (ρ:EC) (L1:Fm) (g1:A0) (L2:Fm) (g2:A0):Prop where
 low:∀k:Key,k.toNat<lo->ρ k=some k/\g2.get k=g1.get k
 inj:∀k k' j,ρ k=some j->ρ k'=some j->k=k'
 dom:∀k j,ρ k=some j->j.toNat<g1.next.toNat->k.toNat<g2.next.toNat/\(lo<=k.toNat->lo<=j.toNat)
 blk:∀k x,g2.get k=some x->∃j y,ρ k=some j/\g1.get j=some y/\Ku ρ g1 x y
 dead:∀k j,ρ k=some j->g2.get k=none->g1.get j=none
 fr:∀k x,look L2 k=some x->∃y,look L1 k=some y/\RnA ρ x.pa y.pa
 next:lo<=g2.next.toNat
theorem Trim.Ij {lo:Nat} {ρ:EC} {L1 L2:Fm} {g1 g2:A0} (t:Trim lo ρ L1 g1 L2 g2) {Z:ZM} {p:Ren} {h:Heap} (hs:Good ⟨Z,p,g1,h⟩):Good ⟨Z,Ren.via ρ p,g2,h⟩ where
 inj k k' b e e':=by simp only[Ren.via,AL] at e e';obtain⟨j,h1,h2⟩:=e;obtain⟨j',h3,h4⟩:=e';have:=hs.inj j j' b h2 h4;subst this;exact t.inj k k' j h1 h3
 blk k x hx:=by obtain⟨j,y,h1,h2,h3⟩:=t.blk k x hx;obtain⟨b,z,h4,h5,h6⟩:=hs.blk j y h2;refine⟨b,z,by simp only;rw[Qk h1];exact h4,h5,⟨GX h3.body h6.body,λho=>?_,λhf=>h6.Si (by rw[<-h3.frz];exact hf),λhf=>h6.frz (by rw[<-h3.frz];exact hf)⟩⟩;obtain⟨h7,h8⟩:=h3.own ho;obtain⟨h9,h10⟩:=h6.own h7;exact⟨h9,h8.rel hs.toGu (λ_ _ e=>Qk e) h10⟩
 z:=hs.z
 dead k b hp hg:=by simp only[Ren.via,AL] at hp;obtain⟨j,h1,h2⟩:=hp;exact hs.dead j b h2 (t.dead k j h1 hg)
 pk k b hp:=by simp only[Ren.via,AL] at hp;obtain⟨j,h1,h2⟩:=hp;have:=hs.pk j b h2;exact⟨(t.dom k j h1 this.1).1,this.2⟩
 zr:=hs.zr
 top:=hs.top
theorem Trim.ext {lo:Nat} {ρ:EC} {L1 L2:Fm} {g1 g2:A0} (t:Trim lo ρ L1 g1 L2 g2) {Z:ZM} {p:Ren} {h:Heap} (hs:Good ⟨Z,p,g1,h⟩) {s0:Sta} (h0:Good s0) (hlo:s0.g.next.toNat<=lo)
  (e:E1 s0.g.next.toNat s0.h.next.toNat s0 ⟨Z,p,g1,h⟩):E1 s0.g.next.toNat s0.h.next.toNat s0 ⟨Z,Ren.via ρ p,g2,h⟩ where
 nx:=⟨AQ hlo t.next,e.nx.2⟩
 zle:=e.zle
 ple k b hk:=by have h1:=(h0.pk k b hk).1;simp only;rw[Qk (t.low k Aa).1];exact e.ple k b hk
 Nk k b hk:=by
  simp only[Ren.via,AL] at hk;obtain⟨j,h1,h2⟩:=hk;by_cases hkl:k.toNat<lo;·rw[(t.low k hkl).1] at h1;cases h1;exact e.Nk k b h2
  ·have h3:=(t.dom k j h1 (hs.pk j b h2).1).2 Aa;rcases e.Nk j b h2 with h4|h4
   ·have:=(h0.pk j b h4).1;omega
   ·exact .inr ⟨Aa,h4.2⟩
 Jv:=e.Jv
 frame:=e.frame
 gone k b hp hg:=by have h1:=(h0.pk k b hp).1;simp only;rw[(t.low k Aa).2];exact e.gone k b hp hg
 log k x x' hx hx':=by obtain⟨b,_,h1,_⟩:=h0.blk k x hx;have h2:=(h0.pk k b h1).1;simp only at hx';rw[(t.low k Aa).2] at hx';exact e.log k x x' hx hx'
theorem Trim.frl {lo:Nat} {ρ:EC} {L1 L2:Fm} {g1 g2:A0} (t:Trim lo ρ L1 g1 L2 g2) {Z:ZM} {p:Ren} {fr1:Fr} (h:FRL Z p L1 fr1):FRL Z (Ren.via ρ p) L2 fr1:=by intro k v e;obtain⟨x,h1,rfl⟩:=M0 L2 k v e;obtain⟨y,h2,h3⟩:=t.fr k x h1;obtain⟨u,h4,h5⟩:=h k y.pa (Ha L1 k y h2);exact⟨u,h4,pO h3 h5⟩
def XW (F:D5) (lo:Nat) (cd:B7) (L:Fm) (g:A0) (Q:Fk->Fm->A0->Prop):Prop:=∀s0 s:Sta,Good s0->s0.g.next.toNat<=lo->Good s->E1 s0.g.next.toNat s0.h.next.toNat s0 s->s.g=g->∀fr1:Fr,FRL s.Z s.p L fr1 ->
 ∃N x fr1' h' Z' p' g' L',exec F noO N cd fr1 s.h=some (x,fr1',h')/\Good ⟨Z',p',g',h'⟩/\E1 s0.g.next.toNat s0.h.next.toNat s0 ⟨Z',p',g',h'⟩/\FRL Z' p' L' fr1'/\Q x L' g'
abbrev WPT:=Fm->A0->(Fk->Fm->A0->Prop)->Prop
def ZE (a b:WPT):WPT:=λL g Q=>a L g λx L g=>match x with
    |.normal=>b L g Q
    |.exit i=>Q (.exit i) L g
    |.ret=>Q .ret L g
def yZ (c:VX) (a b:WPT):WPT:=λL g Q=>match cZ L c with
    |some (.b true)=>a L g Q
    |some (.b false)=>b L g Q
    |some (.v (.v (.s (.bool c))))=>(c=true->a L g Q)/\(c=false->b L g Q)
    |_=>False
def GY (id:Nat) (c:WPT):WPT:=λL g Q=>c L g λx L g=>match x with
    |.exit j=>match Nat.beq j id with
     |true=>Q .normal L g
     |false=>Q (.exit j) L g
    |.normal=>Q .normal L g
    |.ret=>Q .ret L g
def pP (F:D5) (pu:EH) (ds:List DOp):WPT:=λL g Q=>match D4 ds with
 |0=>Sn F pu g.next g.next 0 ds g.next [] L g (Q .normal)
 |n+1=>Sn F pu g.next (Fz g.next (n+1)) (n+1) ds g.next [] L { g with next:=Fz g.next (n+1) } (Q .normal)
theorem KS (ds:List DOp) (L:Fm) (g:A0) (Q:Fk->Fm->A0->Prop):pP F pu ds L g Q=Sn F pu g.next (Fz g.next (D4 ds)) (D4 ds) ds g.next [] L { g with next:=Fz g.next (D4 ds) } (Q .normal):=by
 unfold pP;split;·next h=>rw[h];rfl
 ·next n h=>rw[h]
def wp (F:D5) (pu:EH) (lo:Nat) (c:B7):WPT:=
 @B7.rec (λ_=>WPT) (λL g Q=>Q .normal L g) (λops L g Q=>wpOps F pu ops L g (Q .normal)) (λds=>pP F pu ds) (λ_ _ a b=>ZE a b) (λc _ _ a b=>yZ c a b) (λid _ c=>GY id c)
  (λc _ L g Q=>XW F lo (.loop c) L g Q) (λid L g Q=>Q (.exit id) L g) (λL g Q=>Q .ret L g) c
theorem PB (lo:Nat) (ds:List DOp):wp F pu lo (.drawn ds)=pP F pu ds:=rfl
theorem wp_seq (lo:Nat) (a b:B7):wp F pu lo (.seq a b)=ZE (wp F pu lo a) (wp F pu lo b):=rfl
theorem wp_cond (lo:Nat) (c:VX) (a b:B7):wp F pu lo (.cond c a b)=yZ c (wp F pu lo a) (wp F pu lo b):=rfl
theorem wp_block (lo:Nat) (id:Nat) (c:B7):wp F pu lo (.block id c)=GY id (wp F pu lo c):=rfl
theorem Q9 {lo:Nat}:∀(cd:B7) {L:Fm} {g:A0} {Q:Fk->Fm->A0->Prop},wp F pu lo cd L g Q->XW F lo cd L g Q
 |.skip,L,g,Q,h,s0,s,h0,hlo,hs,he,hg,fr1,hf=>⟨1,.normal,fr1,s.h,s.Z,s.p,s.g,L,rfl,hs,he,hf,by rw[hg];exact h⟩
 |.ret,L,g,Q,h,s0,s,h0,hlo,hs,he,hg,fr1,hf=>⟨1,.ret,fr1,s.h,s.Z,s.p,s.g,L,rfl,hs,he,hf,by rw[hg];exact h⟩
 |.exit id,L,g,Q,h,s0,s,h0,hlo,hs,he,hg,fr1,hf=>⟨1,.exit id,fr1,s.h,s.Z,s.p,s.g,L,rfl,hs,he,hf,by rw[hg];exact h⟩
 |.loop c,L,g,Q,h,s0,s,h0,hlo,hs,he,hg,fr1,hf=>h s0 s h0 hlo hs he hg fr1 hf
 |.region ops,L,g,Q,h,s0,s,h0,hlo,hs,he,hg,fr1,hf=>by obtain⟨N,fr1',h',Z',p',g',L',h1,h2,h3,h4,h5⟩:=Ox ops h hs hg hf;exact⟨N+1,.normal,fr1',h',Z',p',g',L',by rw[bM,h1],h2,he.trans h0.toGu h3 he.nx.1 he.nx.2,h4,h5⟩
 |.drawn ds,L,g,Q,h,s0,s,h0,hlo,hs,he,hg,fr1,hf=>by
  subst hg;rw[PB,KS] at h;have e1:=Ho (D4 ds) s.g.next;have e2:=Ho (D4 ds) s.h.next;have hd:lK s.g.next (Fz s.g.next (D4 ds)) s.h.next (Fz s.h.next (D4 ds)) s.g.next s.h.next ⟨s.Z,s.p,{ s.g with next:=Fz s.g.next (D4 ds) },{ s.h with next:=Fz s.h.next (D4 ds) }⟩:=by
   refine⟨⟨Gu.Xq (g:=s.g) (h:=s.h) rfl rfl hs.toGu,⟨λk b h=>?_,λb c h=>?_,λb h=>?_⟩⟩,.inl rfl,Rl,λk b h=>?_,λb h1 _ h3=>?_,λk h1 _=>?_,λb h1 _=>⟨λk h=>?_,?_⟩,Aa,Aa,Rl⟩;·have:=hs.pk k b h;simp only;omega
   ·have:=hs.zr b c h;simp only;omega
   ·simp only at h;exact hs.top b Aa
   ·have:=hs.pk k b h;omega
   ·exact absurd (hs.top b h1) h3
   ·cases h:s.p k with
    |none=>rfl
    |some b=>have:=hs.pk k b h;omega
   ·have:=hs.pk k b h;omega
   ·cases h:s.Z b with
    |none=>rfl
    |some c=>have:=hs.zr b c h;omega
  obtain⟨N,fr1',h',Z',p',g',L',h1,h2,h3,h4,h5⟩:=Mb e1.symm ds (r:=s.g.next) (rv:=s.h.next) hd Aa hf .nil h;have h6:E1 s.g.next.toNat s.h.next.toNat s ⟨Z',p',g',h'⟩:=by
   refine E1.pC (g:={ s.g with next:=Fz s.g.next (D4 ds) }) (h:={ s.h with next:=Fz s.h.next (D4 ds) }) (g':=s.g) (h':=s.h) rfl rfl ⟨?_,?_⟩ h3;·have:=h3.nx.1;simp only at this ⊢;omega
   ·have:=h3.nx.2;simp only at this ⊢;omega
  exact⟨N+1,.normal,fr1',h',Z',p',g',L',by rw[iG,h1],h2,he.trans h0.toGu h6 he.nx.1 he.nx.2,h4,h5⟩
 |.seq a b,L,g,Q,h,s0,s,h0,hlo,hs,he,hg,fr1,hf=>by
  obtain⟨N,x,fr2,h',Z',p',g',L',h1,h2,h3,h4,h5⟩:=Q9 a h s0 s h0 hlo hs he hg fr1 hf;cases x with
  |normal=>obtain⟨M,y,fr3,h'',Z2,p2,g2,L2,h6,h7⟩:=Q9 b h5 s0 ⟨Z',p',g',h'⟩ h0 hlo h2 h3 rfl fr2 h4;refine⟨max N M+1,y,fr3,h'',Z2,p2,g2,L2,?_,h7⟩;rw[Xm,Lb (Cp N M) _ _ _ _ h1];exact Lb (Ca N M) _ _ _ _ h6
  |exit i=>exact⟨N+1,_,fr2,h',Z',p',g',L',by rw[Xm,h1],h2,h3,h4,h5⟩
  |ret=>exact⟨N+1,_,fr2,h',Z',p',g',L',by rw[Xm,h1],h2,h3,h4,h5⟩
 |.cond c a b,L,g,Q,h,s0,s,h0,hlo,hs,he,hg,fr1,hf=>by
  have ev:∀{y:FE} {d:Bool},cZ L c=some y->y.pa=.v (.s (.bool d))->c.eval fr1=some (.v (.s (.bool d))):=λ{y d} hy hp=>by obtain⟨u,h1,hu⟩:=Uo hf (iO (Ha L) hy);rw[hp] at hu;obtain⟨z,rfl,hz⟩:=hu.s;cases A8.Zg hz;exact h1
  have hT:∀{y},cZ L c=some y->y.pa=.v (.s (.bool true))->wp F pu lo a L g Q->∃N x fr1' h' Z' p' g' L',exec F noO N (.cond c a b) fr1 s.h=some (x,fr1',h')/\Good ⟨Z',p',g',h'⟩/\E1 s0.g.next.toNat s0.h.next.toNat s0 ⟨Z',p',g',h'⟩/\FRL Z' p' L' fr1'/\Q x L' g':=λ{y} hy hp h=>by obtain⟨N,x,fr2,h',Z',p',g',L',h1,h2⟩:=Q9 a h s0 s h0 hlo hs he hg fr1 hf;exact⟨N+1,x,fr2,h',Z',p',g',L',by rw[Zk,ev hy hp];exact h1,h2⟩
  have hF:∀{y},cZ L c=some y->y.pa=.v (.s (.bool false))->wp F pu lo b L g Q->∃N x fr1' h' Z' p' g' L',exec F noO N (.cond c a b) fr1 s.h=some (x,fr1',h')/\Good ⟨Z',p',g',h'⟩/\E1 s0.g.next.toNat s0.h.next.toNat s0 ⟨Z',p',g',h'⟩/\FRL Z' p' L' fr1'/\Q x L' g':=λ{y} hy hp h=>by obtain⟨N,x,fr2,h',Z',p',g',L',h1,h2⟩:=Q9 b h s0 s h0 hlo hs he hg fr1 hf;exact⟨N+1,x,fr2,h',Z',p',g',L',by rw[Zk,ev hy hp];exact h1,h2⟩
  rw[wp_cond] at h;unfold yZ at h;split at h;·next hy=>exact hT hy rfl h
  ·next hy=>exact hF hy rfl h
  ·next c' hy=>
   cases c' with
   |true=>exact hT hy rfl (h.1 rfl)
   |false=>exact hF hy rfl (h.2 rfl)
  ·exact h.elim
 |.block id c,L,g,Q,h,s0,s,h0,hlo,hs,he,hg,fr1,hf=>by
  obtain⟨N,x,fr2,h',Z',p',g',L',h1,h2,h3,h4,h5⟩:=Q9 c h s0 s h0 hlo hs he hg fr1 hf;cases x with
  |normal=>exact⟨N+1,_,fr2,h',Z',p',g',L',by rw[K9,h1],h2,h3,h4,h5⟩
  |ret=>exact⟨N+1,_,fr2,h',Z',p',g',L',by rw[K9,h1],h2,h3,h4,h5⟩
  |exit j=>
   simp only at h5;split at h5;·next hj=>cases CX hj;exact⟨N+1,_,fr2,h',Z',p',g',L',by rw[K9,h1];simp,h2,h3,h4,h5⟩
   ·next hj=>exact⟨N+1,.exit j,fr2,h',Z',p',g',L',by rw[K9,h1];simp only;rw[Ao (λe=>by subst e;rw[Nat.beq_refl] at hj;cases hj)],h2,h3,h4,h5⟩
theorem XW.trim {lo:Nat} {cd:B7} {L1 L2:Fm} {g1 g2:A0} {Q:Fk->Fm->A0->Prop} {ρ:EC} (t:Trim lo ρ L1 g1 L2 g2) (h:XW F lo cd L2 g2 Q):XW F lo cd L1 g1 Q:=by intro s0 s h0 hlo hs he hg fr1 hf;subst hg;exact h s0 ⟨s.Z,Ren.via ρ s.p,g2,s.h⟩ h0 hlo (t.Ij hs) (t.ext hs h0 hlo he) rfl fr1 (t.frl hf)
theorem XW.mono {lo:Nat} {cd:B7} {L:Fm} {g:A0} {Q Q':Fk->Fm->A0->Prop} (h:XW F lo cd L g Q) (hq:∀x L g,Q x L g->Q' x L g):XW F lo cd L g Q':=by intro s0 s h0 hlo hs he hg fr1 hf;obtain⟨N,x,fr1',h',Z',p',g',L',h1,h2,h3,h4,h5⟩:=h s0 s h0 hlo hs he hg fr1 hf;exact⟨N,x,fr1',h',Z',p',g',L',h1,h2,h3,h4,hq _ _ _ h5⟩
theorem XW.loop {lo:Nat} {cd:B7} {Q:Fk->Fm->A0->Prop} {σ:Type} (m:σ->Nat) (I:σ->Fm) (H:σ->A0->Prop) (hr:∀s g,H s g->XW F lo cd (I s) g λx L1 g1=>match x with
   |.normal=>∃s' ρ g2,m s'<m s/\Trim lo ρ L1 g1 (I s') g2/\H s' g2
   |.exit i=>Q (.exit i) L1 g1
   |.ret=>Q .ret L1 g1):∀(n:Nat) (s:σ) (g:A0),m s<n->H s g->XW F lo (.loop cd) (I s) g Q
 |0,s,g,h,_=>absurd h (Dn _)
 |n+1,s,g,hn,hH=>by
  intro s0 s1 h0 hlo hs he hg fr1 hf;obtain⟨N,x,fr2,h',Z',p',g',L',h1,h2,h3,h4,h5⟩:=hr s g hH s0 s1 h0 hlo hs he hg fr1 hf;cases x with
  |normal=>obtain⟨s',ρ,g2,hm,t,hH'⟩:=h5;obtain⟨M,y,fr3,h'',Z2,p2,g3,L2,h6,h7⟩:=XW.trim t (XW.loop m I H hr n s' g2 Aa hH') s0 ⟨Z',p',g',h'⟩ h0 hlo h2 h3 rfl fr2 h4;refine⟨max N M+1,y,fr3,h'',Z2,p2,g3,L2,?_,h7⟩;rw[Mn,Lb (Cp N M) _ _ _ _ h1];exact Lb (Ca N M) _ _ _ _ h6
  |exit i=>exact⟨N+1,_,fr2,h',Z',p',g',L',by rw[Mn,h1],h2,h3,h4,h5⟩
  |ret=>exact⟨N+1,_,fr2,h',Z',p',g',L',by rw[Mn,h1],h2,h3,h4,h5⟩
theorem XW.pQ {lo:Nat} {cd:B7} {L:Fm} {g:A0} {Q:Fk->Fm->A0->Prop} (h:wp F pu lo cd L g λx L1 g1=>match x with
   |.normal=>XW F lo (.loop cd) L1 g1 Q
   |.exit i=>Q (.exit i) L1 g1
   |.ret=>Q .ret L1 g1):XW F lo (.loop cd) L g Q:=by
 intro s0 s h0 hlo hs he hg fr1 hf
 obtain⟨N,x,fr2,h',Z',p',g',L',h1,h2,h3,h4,h5⟩:=Q9 cd h s0 s h0 hlo hs he hg fr1 hf
 cases x with
 |normal=>
  obtain⟨M,y,fr3,h'',Z2,p2,g3,L2,h6,h7⟩:=h5 s0 ⟨Z',p',g',h'⟩ h0 hlo h2 h3 rfl fr2 h4
  refine⟨max N M+1,y,fr3,h'',Z2,p2,g3,L2,?_,h7⟩
  rw[Mn,Lb (Cp N M) _ _ _ _ h1]
  exact Lb (Ca N M) _ _ _ _ h6
 |exit i=>exact⟨N+1,_,fr2,h',Z',p',g',L',by rw[Mn,h1],h2,h3,h4,h5⟩
 |ret=>exact⟨N+1,_,fr2,h',Z',p',g',L',by rw[Mn,h1],h2,h3,h4,h5⟩
theorem XW.B6 {lo:Nat} {cd:B7} {L:Fm} {g:A0} {Q:Fk->Fm->A0->Prop} {σ:Type} (m:σ->Nat) (I:σ->Fm) (H:σ->A0->Prop) (s:σ) {ρ:EC} {g0:A0} (t:Trim lo ρ L g (I s) g0) (hH:H s g0)
  (hr:∀s g,H s g->wp F pu lo cd (I s) g λx L1 g1=>match x with
   |.normal=>∃s' ρ g2,m s'<m s/\Trim lo ρ L1 g1 (I s') g2/\H s' g2
   |.exit i=>Q (.exit i) L1 g1
   |.ret=>Q .ret L1 g1):XW F lo (.loop cd) L g Q:=XW.trim t (XW.loop m I H (λs g h=>Q9 cd (hr s g h)) (m s+1) s g0 (AI _) hH)
def iQ:Nat->Ez->Fm
 |_,[]=>[]
 |n,x::l=>(kn n,.v x)::iQ (n+1) l
theorem mR:∀(xs:Ez) (n:Nat),∀k x,look (iQ n xs) k=some x->(n<=k.toNat/\xs[k.toNat-n]?=some x.pa)
 |[],n,k,x,h=>Ad
 |a::l,n,k,x,h=>by
  simp only[iQ,look] at h;split at h;·next hk=>cases h;rw[<-He hk,Key.toNat_kn];simp[FE.pa]
  ·obtain⟨h1,h2⟩:=mR l (n+1) k x h;refine⟨Aa,?_⟩;rw[show k.toNat-n=(k.toNat-(n+1))+1 from Aa];exact h2
theorem vF {Z:ZM} {p:Ren} {xs:Ez} {vs:EA} (h:A1 (AR Z p) xs vs):FRL Z p (iQ 0 xs) (Tr.z.G8 0 vs):=by refine FRL.fit (L:=iQ 0 xs) ?_ (Ha _);intro k v e;obtain⟨x,h1,rfl⟩:=M0 _ k v e;obtain⟨_,h2⟩:=mR xs 0 k x h1;rw[CP] at h2;refine uY h k _ ?_;rw[<-Key.J8 k,Tr.Ge];have:=(Gi.1 h2).1;rw[Aj Aa,CP];exact h2
def PD (L:Fm) (g:A0):Qb->Option PC
 |.tmp k=>match look L k with
  |some (.v (.v x))=>some x
  |some (.b c)=>some (.s (.bool c))
  |_=>none
 |.lS k=>match look L k with
  |some (.v (.v (.s (.ptr b o))))=>match mO g b o 1 with
   |some [x]=>some (.s x)
   |_=>none
  |_=>none
 |.lT k n=>match look L k with
  |some (.v (.v (.s (.ptr b o))))=>match mO g b o n with
   |some l=>some (.agg l)
   |none=>none
  |_=>none
def Uu (L:Fm) (g:A0):List Qb->Option (List PC)
 |[]=>some []
 |r::l=>match PD L g r with
  |some x=>match Uu L g l with
   |some xs=>some (x::xs)
   |none=>none
  |none=>none
theorem VO {L:Fm} {g:A0} {r:Qb} {x:PC} (e:PD L g r=some x):K5 (frL L) g r=some x:=by
 have h:=Ha L;cases r with
 |tmp k=>
  simp only[PD] at e;split at e;·next y hy=>cases e;simp only[K5,h k _ hy,FE.pa]
  ·next c hc=>cases e;simp only[K5,h k _ hc,FE.pa]
  ·cases e
 |lS k=>
  simp only[PD] at e;split at e
  ·next b o hb=>
   split at e;·next y hy=>cases e;simp only[K5,h k _ hb,FE.pa,Zq hy]
   ·cases e
  ·cases e
 |lT k n=>
  simp only[PD] at e;split at e
  ·next b o hb=>
   split at e;·next y hy=>cases e;simp only[K5,h k _ hb,FE.pa,Zq hy]
   ·cases e
  ·cases e
theorem iR {L:Fm} {g:A0}:∀{l:List Qb} {xs:List PC},Uu L g l=some xs->Jm (frL L) g l=some xs
 |[],xs,e=>by cases e;rfl
 |r::l,xs,e=>by
  simp only[Uu] at e;split at e
  ·next x hx=>
   split at e;·next ys hys=>cases e;simp only[Jm,VO hx,iR hys]
   ·cases e
  ·cases e
def ZF (F:D5) (pu:EH) (vf:Gq) (args:Ez) (g:A0) (R:PA->A0->Prop):Prop:=
 wp F pu g.next.toNat vf.body (iQ 0 args) g λx L g'=>match x with
  |.exit _=>False
  |.normal=>match Uu L g' vf.results with
   |some l=>R (G3 l) g'
   |none=>False
  |.ret=>match Uu L g' vf.results with
   |some l=>R (G3 l) g'
   |none=>False
theorem XC.of {f:Nat} {vf:Gq} (hF:F f=some vf) {args:Ez} {g:A0} {R:PA->A0->Prop} (h:ZF F pu vf args g R):XC F f args g R:=by
 intro s hs hg vs hv;subst hg;obtain⟨N,x,fr1',h',Z',p',g',L',h1,h2,h3,h4,h5⟩:=Q9 vf.body h s s hs (Rl) hs (E1.refl _ _ _) rfl _ (vF hv);have fin:(match Uu L' g' vf.results with
   |some l=>R (G3 l) g'
   |none=>False)->x≠.exit 0->(∀i,x≠.exit i)->∃N u h' Z' p' r g',Fh F noO (exec F noO N) f vs s.h=some (u,h')/\Good ⟨Z',p',g',h'⟩/\E1 s.g.next.toNat s.h.next.toNat s ⟨Z',p',g',h'⟩/\AR Z' p' r u/\R r g':=by
  intro hr _ hx
  split at hr
  ·next l hl=>
   obtain⟨us,h6,h7⟩:=Pk h2.toGu h4 (iR hl)
   refine⟨N,J9 us,h',Z',p',_,g',?_,h2,h3,Sl h7,hr⟩
   simp only[Fh,hF,h1]
   cases x with
   |exit i=>exact absurd rfl (hx i)
   |normal=>simp only[h6]
   |ret=>simp only[h6]
  ·exact hr.elim
 cases x with
 |exit _=>exact h5.elim
 |normal=>exact fin h5 Ac Ac
 |ret=>exact fin h5 Ac Ac
theorem PE {f:Nat} {vf:Gq} (hF:F f=some vf) {xs:Ez} {r:PA} (h:ZF F pu vf xs .empty λr' g'=>∃g2,G4 deep r' g'=some (r,g2)):A3 F f xs r:=by intro s hs vs hv;obtain⟨N,u,h',Z',p',r',g',h1,h2,h3,h4,g2,hfz⟩:=XC.of hF h ⟨s.Z,λ_=>none,.empty,s.h⟩ (Sm hs) rfl vs (A9 hv λ_ _ h=>h.a);obtain⟨Z2,h5,h6⟩:=V0 h2.toGu h4 hfz;have hg:Good ⟨Z2,p',g2,h'⟩:=⟨h5.sim,h5.room h2.toRoom⟩;have he:=E1.trans (lo:=0) (lov:=s.h.next.toNat) (Sm hs).toGu h3 (h5.ext 0 h'.next.toNat) (Rl) h3.nx.2;obtain⟨h7,h8⟩:=iK hs hg he;exact⟨N,u,h',Z2,h1,h7,h8,h6⟩
abbrev Eg{F}(pu){lo cd L g Q}:=@XW.pQ F pu lo cd L g Q
abbrev Ej{F}(pu){f}(vf):=@PE F pu f vf
abbrev Ek{F}(pu){f}(vf):=@XC.of F pu f vf
theorem Yx{F:D5}(pu:EH){lo:Nat}{cd:B7}{L:Fm}{g:A0}{Q:Fk->Fm->A0->Prop}{G:Prop}(c:wp F pu lo cd L g λx L1 g1=>match x with
  |.normal=>XW F lo (.loop cd) L1 g1 Q
  |.exit i=>Q (.exit i) L1 g1
  |.ret=>Q .ret L1 g1)(h:Bx (XW F lo (.loop cd) L g Q)->G:=by (intro c;(repeat' (try conv => whnf) <;> first | (refine ⟨λh => ?_, λh => ?_⟩ <;> first | exact I9 h | exact Jr h | exact absurd (B0 h) (by omega) | exact absurd (B5 h) (by omega) | replace h := B0 h | replace h := B5 h | skip) | refine ⟨_, ⟨by omega, by assumption⟩, ?_⟩ | refine ⟨_, ⟨by omega, rfl⟩, ?_⟩ | refine ⟨_, _, _, (rfl : Fw _ _ _ = _), by assumption, ?_⟩ | refine ⟨_, _, _, Fi (by repeat' first | exact trivial | refine ⟨?_, ?_⟩ | exact Fv _ _ | (show Hl _; assumption) | fail), by assumption, ?_⟩ | refine ⟨(by omega : _ /\ _), ?_⟩ | refine ⟨(by omega : _ ≠ _), ?_⟩ | refine ⟨_, _, (rfl : opP _ _ _ = _), ?_⟩ | exact ⟨_, (rfl : G4 _ _ _ = _)⟩ | fail);exact c.o)):G:=h ⟨XW.pQ (pu:=pu) c⟩
theorem Yy{F:D5}(pu:EH){lo:Nat}{cd:B7}{L:Fm}{g:A0}{Q:Fk->Fm->A0->Prop}{A:Prop}(c:A)(h:Bx A->(wp F pu lo cd L g λx L1 g1=>match x with
  |.normal=>XW F lo (.loop cd) L1 g1 Q
  |.exit i=>Q (.exit i) L1 g1
  |.ret=>Q .ret L1 g1):=by (intro c;(repeat' (try conv => whnf) <;> first | (refine ⟨λh => ?_, λh => ?_⟩ <;> first | exact I9 h | exact Jr h | exact absurd (B0 h) (by omega) | exact absurd (B5 h) (by omega) | replace h := B0 h | replace h := B5 h | skip) | refine ⟨_, ⟨by omega, by assumption⟩, ?_⟩ | refine ⟨_, ⟨by omega, rfl⟩, ?_⟩ | refine ⟨_, _, _, (rfl : Fw _ _ _ = _), by assumption, ?_⟩ | refine ⟨_, _, _, Fi (by repeat' first | exact trivial | refine ⟨?_, ?_⟩ | exact Fv _ _ | (show Hl _; assumption) | fail), by assumption, ?_⟩ | refine ⟨(by omega : _ /\ _), ?_⟩ | refine ⟨(by omega : _ ≠ _), ?_⟩ | refine ⟨_, _, (rfl : opP _ _ _ = _), ?_⟩ | exact ⟨_, (rfl : G4 _ _ _ = _)⟩ | fail);exact c.o)):XW F lo (.loop cd) L g Q:=XW.pQ (pu:=pu) (h ⟨c⟩)
theorem Yz{F:D5}(pu:EH){lo:Nat}{cd:B7}{L:Fm}{g:A0}{Q:Fk->Fm->A0->Prop}{G A:Prop}(c:A)(h:Bx (XW F lo (.loop cd) L g Q)->G:=by (intro c;(repeat' (try conv => whnf) <;> first | (refine ⟨λh => ?_, λh => ?_⟩ <;> first | exact I9 h | exact Jr h | exact absurd (B0 h) (by omega) | exact absurd (B5 h) (by omega) | replace h := B0 h | replace h := B5 h | skip) | refine ⟨_, ⟨by omega, by assumption⟩, ?_⟩ | refine ⟨_, ⟨by omega, rfl⟩, ?_⟩ | refine ⟨_, _, _, (rfl : Fw _ _ _ = _), by assumption, ?_⟩ | refine ⟨_, _, _, Fi (by repeat' first | exact trivial | refine ⟨?_, ?_⟩ | exact Fv _ _ | (show Hl _; assumption) | fail), by assumption, ?_⟩ | refine ⟨(by omega : _ /\ _), ?_⟩ | refine ⟨(by omega : _ ≠ _), ?_⟩ | refine ⟨_, _, (rfl : opP _ _ _ = _), ?_⟩ | exact ⟨_, (rfl : G4 _ _ _ = _)⟩ | fail);exact c.o))(k:Bx A->(wp F pu lo cd L g λx L1 g1=>match x with
  |.normal=>XW F lo (.loop cd) L1 g1 Q
  |.exit i=>Q (.exit i) L1 g1
  |.ret=>Q .ret L1 g1):=by (intro c;(repeat' (try conv => whnf) <;> first | (refine ⟨λh => ?_, λh => ?_⟩ <;> first | exact I9 h | exact Jr h | exact absurd (B0 h) (by omega) | exact absurd (B5 h) (by omega) | replace h := B0 h | replace h := B5 h | skip) | refine ⟨_, ⟨by omega, by assumption⟩, ?_⟩ | refine ⟨_, ⟨by omega, rfl⟩, ?_⟩ | refine ⟨_, _, _, (rfl : Fw _ _ _ = _), by assumption, ?_⟩ | refine ⟨_, _, _, Fi (by repeat' first | exact trivial | refine ⟨?_, ?_⟩ | exact Fv _ _ | (show Hl _; assumption) | fail), by assumption, ?_⟩ | refine ⟨(by omega : _ /\ _), ?_⟩ | refine ⟨(by omega : _ ≠ _), ?_⟩ | refine ⟨_, _, (rfl : opP _ _ _ = _), ?_⟩ | exact ⟨_, (rfl : G4 _ _ _ = _)⟩ | fail);exact c.o)):G:=h ⟨XW.pQ (pu:=pu) (k ⟨c⟩)⟩
end
section
variable {F:D5} {pu:EH}
theorem PG:∀l:List (Key×Nat),rnK some l=some l
 |[]=>rfl
 |(k,o)::l=>by simp only[rnK,PG l]
theorem zA (v:PV):rnV some v=some v:=by cases v<;>simp only[rnV,PG]
theorem Kv {α:Type} {R:α->α->Prop} (h:∀x,R x x):∀l:List α,A1 R l l
 |[]=>.nil
 |x::l=>.cons (h x) (Kv h l)
theorem pR (v:PC):RnC some v v:=by
 cases v with
 |s x=>exact zA x
 |agg l=>exact Kv zA l
theorem AaG (v:PA):RnA some v v:=by
 cases v with
 |v x=>exact pR x
 |tup l=>exact Kv pR l
theorem AaH (v:Hj):RnB some v v:=by
 cases v with
 |cells l=>exact Kv zA l
 |map l=>exact Kv (λx=>⟨pR x.1,pR x.2⟩) l
 |iter m n st=>exact⟨rfl,rfl,rfl⟩
theorem PH (g:A0) (x:B4):Ku some g x x:=⟨AaH _,λh=>⟨h,.inl (Kv (R:=λa a':Key=>some a=some a') (λ_=>rfl) _)⟩,rfl⟩
theorem Trim.same {lo:Nat} {L1 L2:Fm} {g:A0} (hlo:lo<=g.next.toNat) (s:Sub L2 L1):Trim lo some L1 g L2 g where
 low k _:=⟨rfl,rfl⟩
 inj k k' j h h':=by cases h;cases h';rfl
 dom k j h hj:=by cases h;exact⟨hj,λh=>h⟩
 blk k x hx:=⟨k,x,rfl,hx,PH _ x⟩
 dead k j h hg:=by cases h;exact hg
 fr k x hx:=by obtain⟨y,h1,h2⟩:=s k x hx;exact⟨y,h1,by rw[h2];exact AaG _⟩
 next:=hlo
theorem XW.Wy {lo:Nat} {cd:B7} {L:Fm} {g:A0} {Q:Fk->Fm->A0->Prop} {σ:Type} (m:σ->Nat) (I:σ->Fm) (P:σ->Prop) (s:σ) (hlo:lo<=g.next.toNat) (hs:Sub (I s) L) (hP:P s)
  (hr:∀s,P s->wp F pu lo cd (I s) g λx L1 g1=>match x with
   |.normal=>∃s',m s'<m s/\Sub (I s') L1/\g1=g/\P s'
   |.exit i=>Q (.exit i) L1 g1
   |.ret=>Q .ret L1 g1):XW F lo (.loop cd) L g Q:=by
 refine XW.trim (Trim.same hlo hs) (XW.loop m I (λs g1=>g1=g/\P s) ?_ (m s+1) s g (AI _) ⟨rfl,hP⟩)
 rintro s g1 ⟨rfl,hp⟩
 refine(Q9 cd (hr s hp)).mono ?_
 intro x L1 g2 h
 cases x with
 |normal=>
  obtain⟨s',h1,h2,rfl,h4⟩:=h
  exact⟨s',some,g2,h1,Trim.same hlo h2,rfl,h4⟩
 |exit i=>exact h
 |ret=>exact h
abbrev iA (n:Int):PA:=.v (.s (.int .i64 n))
abbrev bA (b:Bool):PA:=.v (.s (.bool b))
abbrev PA.lst (es:Nat) (l:Eu):PA:=.v (.s (.lst es l none))
theorem mS {c b:Bool} {g:A0} (h:c=b):∃g2,G4 deep (bA c) g=some (bA b,g2):=by subst h;exact⟨_,rfl⟩
theorem ZG {es:Nat} {l m:Eu} {g:A0} (h:l=m):∃g2,G4 deep (PA.lst es l) g=some (PA.lst es m,g2):=by subst h;exact⟨_,rfl⟩
theorem B0 {p:Prop} [Decidable p] (h:decide p=true):p:=BB h
theorem B5 {p:Prop} [Decidable p] (h:decide p=false):¬p:=BM h
theorem Gz {es b:Nat} {zero:EB} {z:Ey} {x:Int} {n:Nat} {g:A0} (hz:Ny zero=some z) (h:x=n) (hn:n<=1000000) (hb:b<=1000000):opP (.O7 es b zero) [iA x,iA x] g=some (.v (.s (.slice g.next 0 n es (some n))),g.new (.cells (M8 z n))):=by subst h;have h1:b*n<=1000000*1000000:=Nat.mul_le_mul hb hn;simp only[opP,Tu,hz,Bj];rw[Aj ⟨BE n,Int.le_refl _,Aa,by rw[BC];omega⟩]
end
def Fn:D5:=λf=>match Nat.beq f 40 with
 |true=>none
 |false=>C.tab.get (kn f)
def Sp:EF->Nat->Bool
 |[],_=>false
 |a::l,n=>match Nat.beq a n with
  |true=>true
  |false=>Sp l n
def pu:Nat->Bool:=Sp [213,159,12,17,52,53,162,161,49,39,51,116,123,226,15,117,118,83,158,222,223,179,30,54,59,160,187,86,87,88,89,90,27,6,10,105,106,109,48,25,128,43,33,20,21,69,124,125,70,74,91,28,14,18,5,189,188,22,186]
end Go.Pv
end
section
noncomputable section
namespace Go.Pv
open Go.Vm Go.Vm.C
open Go.Vm.Key (kn)
set_option maxRecDepth 40000
set_option maxHeartbeats 0
def Iq (a b:Int):Int:=if a<b then -1 else if b<a then 1 else 0
theorem iS (a b:Int):A3 Fn 213 [iA a,iA b] (iA (Iq a b)):=by
 refine Ej pu C.f213 rfl ?_;refine⟨λh=>?_,λh=>⟨λh2=>?_,λh2=>?_⟩⟩;·have h:=BB h;rw[Iq,Aj h];exact⟨_,rfl⟩
 ·have h:=BM h;have h2:=BB h2;rw[Iq,Ao h,Aj h2];exact⟨_,rfl⟩
 ·have h:=BM h;have h2:=BM h2;rw[Iq,Ao h,Ao h2];exact⟨_,rfl⟩
def iL (l:List Int):Eu:=l.map λn=>[.int .i64 n]
theorem pS {l:List Int} {i:Nat} {n:Int} (h:l[i]?=some n):(iL l)[i]?=some [.int .i64 n]:=by simp[iL,h]
def Fq:List Int->List Int->Int
 |a::l,b::m=>if a=b then Fq l m else Iq a b
 |[],[]=>0
 |[],_::_=>-1
 |_::_,[]=>1
theorem dG (a b:List Int) (ha:a.length<1000000) (hb:b.length<1000000):A3 Fn 159 [PA.lst 1 (iL a),PA.lst 1 (iL b)] (iA (Fq a b)):=by
 refine Ej pu C.f159 rfl ?_;refine XW.Wy (pu:=pu) (σ:=Nat) (λi=>a.length-i) (λi=>[(k0,.v (PA.lst 1 (iL a))),(k1,.v (PA.lst 1 (iL b))),(k5,.v (iA i))]) (λi=>i<=a.length/\i<=b.length/\Fq (a.drop i) (b.drop i)=Fq a b) 0 Zl
  (.cons rfl rfl (.cons rfl rfl (.cons rfl rfl (.nil _)))) ⟨Zl,Zl,rfl⟩ ?_
 rintro i ⟨h1,h2,h3⟩;have da:∀j,¬j<a.length->j<=a.length->a.drop j=[]:=λj h1 h2=>CC Aa;have db:∀j,¬j<b.length->j<=b.length->b.drop j=[]:=λj h1 h2=>CC Aa;have fin:(¬i<a.length∨¬i<b.length)->Iq a.length b.length=Fq a b:=by
  intro h;rw[<-h3];by_cases ha:i<a.length;·have hb:¬i<b.length:=Aa;rw[db i hb h2,Ax ha,Fq,Iq,Ao Aa,Aj Aa]
  ·rw[da i ha h1];by_cases hb:i<b.length;·rw[Ax hb,Fq,Iq,Aj Aa]
   ·rw[db i hb h2,Fq,Iq,Ao Aa,Ao Aa]
 have la:(iL a).length=a.length:=Lm ..;have lb:(iL b).length=b.length:=Lm ..;refine⟨λh=>⟨λh'=>?_,λh'=>?_⟩,λh=>?_⟩
 ·have h:=BB h;have h':=BB h';have hi:i<a.length:=Aa;have hj:i<b.length:=Aa;have ga:=pS (Gg hi);have gb:=pS (Gg hj);refine⟨_,⟨BE i,ga⟩,_,⟨BE i,gb⟩,λhe=>?_,λhe=>?_⟩
  ·refine⟨_,⟨BE i,ga⟩,_,⟨BE i,gb⟩,_,_,_,rfl,iS _ _,?_⟩;have:a[i]≠b[i]:=by simpa using he
   rw[<-h3,Ax hi,Ax hj,Fq,Ao this];exact⟨_,rfl⟩
  ·have:a[i]=b[i]:=by simpa using he
   refine⟨Aa,i+1,Aa,.cons rfl rfl (.cons rfl rfl (.cons rfl rfl (.nil _))),rfl,hi,hj,?_⟩;rw[<-h3,Ax hi,Ax hj,Fq,Aj this]
 ·have h':=BM h';refine⟨_,_,_,rfl,iS _ _,?_⟩;rw[<-fin (.inr Aa),<-la,<-lb];exact⟨_,rfl⟩
 ·have h:=BM h;refine⟨_,_,_,rfl,iS _ _,?_⟩;rw[<-fin (.inl Aa),<-la,<-lb];exact⟨_,rfl⟩
inductive A6:Nat->PV->Prop
 |nil:A6 0 .A4
 |emp:A6 0 (.lst 1 [] none)
 |one (n:Nat) (h0:0<n) (h:n<4294967296):A6 n (.lst 1 [[.int .u32 n]] none)
theorem H8 {n:Nat} {v:PV} (h:A6 n v):A3 Fn 49 [.v (.s v)] (bA true):=by
 refine Ej pu C.f49 rfl ?_;cases h with
 |nil=>exact⟨λ_=>⟨Ep,λ_=>⟨_,rfl⟩⟩,Ep⟩
 |emp=>exact⟨λ_=>⟨Ep,λ_=>⟨_,rfl⟩⟩,Ep⟩
 |one n h0 h=>
  refine⟨λ_=>⟨λ_=>⟨Ac,_,⟨Ac,rfl⟩,?_⟩,Ep⟩,Ep⟩;have:((n:Int) !=0)=true:=by simp;omega
  exact mS this
theorem G6 {n:Nat} {v:PV} (h:A6 n v):A3 Fn 52 [.v (.s v)] (bA true):=by
 refine Ej pu C.f52 rfl ?_;cases h with
 |nil=>exact⟨λ_=>⟨Ep,λ_=>⟨_,rfl⟩⟩,Ep⟩
 |emp=>exact⟨λ_=>⟨Ep,λ_=>⟨_,rfl⟩⟩,Ep⟩
 |one n h0 h=>
  refine⟨λ_=>⟨λ_=>⟨Ac,_,⟨Ac,rfl⟩,?_⟩,Ep⟩,Ep⟩;have:((n:Int) !=0)=true:=by simp;omega
  exact mS this
abbrev uA (n:Int):PA:=.v (.s (.int .u64 n))
theorem Wz {n:Nat} {v:PV} (h:A6 n v) {i:Int} (hi:i=0) {g:A0} {R:PA->A0->Prop} (hR:R (uA n) g):XC Fn 111 [.v (.s v),iA i] g R:=by
 subst hi;refine Ek pu C.f111 rfl ?_;cases h with
 |nil=>exact⟨Ep,λ_=>hR⟩
 |emp=>exact⟨Ep,λ_=>hR⟩
 |one n h0 h=>have:IntKind.wrap .u64 (n:Int)=n:=wrap_u64 Aa;rw[<-this] at hR;exact⟨λ_=>⟨_,⟨Ac,rfl⟩,hR⟩,Ep⟩
theorem ZH {n:Nat} {v:PV} (h:A6 n v) {i:Int} (hi:0<i) {g:A0} {R:PA->A0->Prop} (hR:R (uA ((0:Nat):Int)) g):XC Fn 111 [.v (.s v),iA i] g R:=by
 refine Ek pu C.f111 rfl ?_;cases h with
 |nil=>exact⟨(λh=>by have:=B0 h;omega),λ_=>hR⟩
 |emp=>exact⟨(λh=>by have:=B0 h;simp at this;omega),λ_=>hR⟩
 |one n h0 h=>exact⟨(λh=>by have:=B0 h;simp at this;omega),λ_=>hR⟩
def uL (l:EF):Eu:=l.map λ(n:Nat)=>[.int .u32 (n:Int)]
theorem iT (l:EF):(uL l).length=l.length:=Lm ..
theorem PI {l:EF} {i n:Nat} (h:l[i]?=some n):(uL l)[i]?=some [.int .u32 n]:=by simp[uL,h]
def Ga (l:EF):Nat->Nat
 |0=>0
 |n+1=>if l[n]?=some 0 then Ga l n else n+1
theorem Zs (l:EF):∀n,Ga l n<=n
 |0=>Rl
 |n+1=>by have:=Zs l n;simp only[Ga];split<;>omega
theorem vG {es:Nat} {l:Eu} {n:Nat} {g:A0} (h:n<=l.length):opP (.slice (.slice es) false true false) [PA.lst es l,iA n] g=some (PA.lst es (l.take n),g):=by simp[opP,aO,NA,xO,Lx,bounds,bnd,Hv,Rs,K4,h]
theorem eP (l:EF) (hl:l.length<1000000000):A3 Fn 51 [PA.lst 1 (uL l)] (PA.lst 1 (uL (l.take (Ga l l.length)))):=by
 refine Ej pu C.f51 rfl ?_;refine XW.Wy (pu:=pu) (σ:=Nat) id (λn=>[(k0,.v (PA.lst 1 (uL l))),(k3,.v (iA n))]) (λn=>n<=l.length/\Ga l n=Ga l l.length) l.length Zl
  (.cons rfl rfl (.cons rfl ?_ (.nil _))) ⟨Rl,rfl⟩ ?_
 ·show iA _=iA _;rw[iT]
 rintro n ⟨h1,h2⟩;have fin:(n=0∨∃m,n=m+1/\l[m]?≠some 0)->(uL l).take n=uL (l.take (Ga l l.length)):=by
  intro h;have:Ga l n=n:=by
   rcases h with rfl|⟨m,rfl,hm⟩;·rfl
   ·simp only[Ga,Ao hm]
  rw[<-h2,this,uL,uL,<-Dq]
 have sl:=vG (es:=1) (l:=uL l) (n:=n) (g:=.empty) (by rw[iT];exact h1);refine⟨λh=>?_,λh=>?_⟩
 ·have h:=B0 h;obtain⟨m,rfl⟩:∃m,n=m+1:=⟨n-1,Aa⟩;have hm:m<l.length:=Aa;have gm:(uL l)[(((m+1:Nat):Int)-((1:Nat):Int)).toNat]?=some [.int .u32 (l[m]:Int)]:=by rw[show(((m+1:Nat):Int)-((1:Nat):Int)).toNat=m from Aa];exact PI (Gg hm)
  refine⟨Aa,_,⟨Aa,gm⟩,λhz=>?_,λhz=>?_⟩
  ·refine⟨Aa,m,AI m,.cons rfl rfl (.cons rfl ?_ (.nil _)),rfl,Aa,?_⟩;·show iA _=iA _;congr 3;omega
   ·have:l[m]?=some 0:=by rw[Gg hm];simpa using hz
    rw[<-h2,Ga,Aj this]
  ·refine⟨_,_,sl,ZG (fin (.inr ⟨m,rfl,?_⟩))⟩;rw[Gg hm];simpa using hz
 ·have h:=B5 h;exact⟨_,_,sl,ZG (fin (.inl Aa))⟩
theorem pV (l:EF) (hl:l.length<1024):A3 Fn 116 [PA.lst 1 (uL l)] (.tup [.s (.lst 1 (uL (l.take (Ga l l.length))) none),.s (.int .i64 ((0:Nat):Int))]):=by refine Ej pu C.f116 rfl ?_;refine⟨_,_,_,rfl,eP l Aa,λh=>?_,λh=>⟨_,rfl⟩⟩;have:=B0 h;have h2:=Zs l l.length;simp[iT] at this;omega
theorem Sq (n:Nat) (h:n<4294967296):A6 n (.lst 1 (uL ([n].take (Ga [n] 1))) none):=by
 by_cases h0:n=0;·subst h0;exact .emp
 ·have:Ga [n] 1=1:=by simp[Ga,h0]
  rw[this];exact .one n Aa h
theorem Ih (n:Nat) (h:n<4294967296):A6 n (.lst 1 (uL ([n,0].take (Ga [n,0] 2))) none):=by
 have e:Ga [n,0] 2=Ga [n] 1:=by simp[Ga]
 have e2:[n,0].take (Ga [n,0] 2)=[n].take (Ga [n] 1):=by rw[e];have:=Zs [n] 1;rcases(by omega:Ga [n] 1=0∨Ga [n] 1=1) with h|h<;>rw[h]<;>rfl
 rw[e2];exact Sq n h
theorem AaI {x:Int} {a:Nat} (hx:x=a):A3 Fn 116 [PA.lst 1 [[.int .u32 x]]] (.tup [.s (.lst 1 (uL ([a].take (Ga [a] 1))) none),.s (.int .i64 ((0:Nat):Int))]):=by subst hx;exact pV [a] Ac
theorem fit2 {x y:Int} {a:Nat} (hx:x=a) (hy:y=0):A3 Fn 116 [PA.lst 1 [[.int .u32 x],[.int .u32 y]]] (.tup [.s (.lst 1 (uL ([a,0].take (Ga [a,0] 2))) none),.s (.int .i64 ((0:Nat):Int))]):=by subst hx;subst hy;exact pV [a,0] Ac
theorem add0 {v w:PV} (ha:A6 0 v) (hb:A6 0 w):A3 Fn 123 [.v (.s v),.v (.s w)] (.tup [.s (.lst 1 [] none),.s (.int .i64 ((0:Nat):Int))]):=by
 have l0:∀{g R},R (uA ((0:Nat):Int)) g->XC Fn 111 [.v (.s v),iA 0] g R:=Wz ha rfl;have l1:∀{g R},R (uA ((0:Nat):Int)) g->XC Fn 111 [.v (.s w),iA 0] g R:=Wz hb rfl;have v0:=G6 ha;have v1:=G6 hb;cases ha with
 |one=>omega
 |_=>cases hb with
  |one=>omega
  |_=>
   refine Ej pu C.f123 rfl ?_
   refine⟨_,_,_,rfl,v0,λ_=>⟨_,_,_,rfl,v1,Ep,λ_=>?_⟩,Ep⟩
   refine Eg pu ⟨λ_=>?_,Ep⟩
   refine l0 (l1 ⟨⟨Aa,Aa⟩,⟨Aa,Aa⟩,?_⟩)
   refine⟨Ab,_,_,rfl,Ab,Ac,?_⟩
   refine Eg pu ⟨Ep,λ_=>?_⟩
   exact⟨_,_,_,rfl,AaI (a:=0) rfl,_,rfl⟩
theorem add1 {a b:Nat} {v w:PV} (ha:A6 a v) (hb:A6 b w) (hs:a+b<4294967296) (hp:0<a+b):A3 Fn 123 [.v (.s v),.v (.s w)] (.tup [.s (.lst 1 (uL ([a+b,0].take (Ga [a+b,0] 2))) none),.s (.int .i64 ((0:Nat):Int))]):=by
 have l0:∀{g R},R (uA a) g->XC Fn 111 [.v (.s v),iA 0] g R:=Wz ha rfl;have l1:∀{g R},R (uA b) g->XC Fn 111 [.v (.s w),iA 0] g R:=Wz hb rfl;have m0:∀{g R},R (uA ((0:Nat):Int)) g->XC Fn 111 [.v (.s v),iA (0+1)] g R:=ZH ha Ab;have m1:∀{g R},R (uA ((0:Nat):Int)) g->XC Fn 111 [.v (.s w),iA (0+1)] g R:=ZH hb Ab;have v0:=G6 ha;have v1:=G6 hb;have e1:IntKind.wrap .u32 (((a:Int)+b+((0:Nat):Int)).tmod ((4294967296:Nat):Int))=((a+b:Nat):Int):=by rw[wrap_u32,Bv Aa];omega
 have e2:IntKind.wrap .u64 (((a:Int)+b+((0:Nat):Int)).tdiv ((4294967296:Nat):Int))=0:=by rw[BK Aa,wrap_u64 Aa];omega
 cases ha<;>cases hb<;>first|(exfalso;omega)|skip
 all_goals
  refine Ej pu C.f123 rfl ?_
  refine⟨_,_,_,rfl,v0,λ_=>⟨_,_,_,rfl,v1,Ep,λ_=>?_⟩,Ep⟩
  refine Eg pu ⟨λ_=>?_,Ep⟩
  refine l0 (l1 ⟨⟨Aa,Aa⟩,⟨Aa,Aa⟩,?_⟩)
  refine⟨Ab,_,_,rfl,Ab,Ac,?_⟩
  refine Eg pu ⟨λ_=>?_,Ep⟩
  refine m0 (m1 ⟨⟨Aa,Aa⟩,?_⟩)
  refine⟨⟨by rw[e2];decide,by rw[e2];decide⟩,Ab,_,_,rfl,Ab,Ac,?_⟩
  refine Eg pu ⟨Ep,λ_=>?_⟩
  exact⟨_,_,_,rfl,fit2 e1 (by rw[e2];rfl),_,rfl⟩
theorem VP {a b:Nat} {v w:PV} (ha:A6 a v) (hb:A6 b w) (hs:a+b<4294967296):∃r,A3 Fn 123 [.v (.s v),.v (.s w)] (.tup [.s r,.s (.int .i64 ((0:Nat):Int))])/\A6 (a+b) r:=by
 by_cases hp:0<a+b;·exact⟨_,add1 ha hb hs hp,Ih _ hs⟩
 ·obtain⟨rfl,rfl⟩:a=0/\b=0:=Aa;exact⟨_,add0 ha hb,.emp⟩
theorem fit0:A3 Fn 116 [PA.lst 1 []] (.tup [.s (.lst 1 [] none),.s (.int .i64 ((0:Nat):Int))]):=pV [] Ab
theorem mul0 {a b:Nat} {v w:PV} (ha:A6 a v) (hb:A6 b w) (h0:a=0∨b=0):A3 Fn 226 [.v (.s v),.v (.s w)] (.tup [.s (.lst 1 [] none),.s (.int .i64 ((0:Nat):Int))]):=by
 have v0:=G6 ha;have v1:=G6 hb;have z:∀{x:Int},x=0->A3 Fn 116 [PA.lst 1 [[.int .u32 x]]] (.tup [.s (.lst 1 [] none),.s (.int .i64 ((0:Nat):Int))]):=λh=>AaI (a:=0) h;cases ha with
 |one=>cases hb with
  |one=>omega
  |_=>
   refine Ej pu C.f226 rfl ?_
   refine⟨_,_,_,rfl,v0,λ_=>⟨_,_,_,rfl,v1,Ep,λ_=>?_⟩,Ep⟩
   refine⟨Ac,_,_,rfl,?_⟩
   refine Eg pu ⟨λ_=>?_,Ep⟩
   refine Eg pu ⟨Ep,λ_=>?_⟩
   refine⟨Ac,⟨Ac,Ac⟩,_,_,rfl,Ac,?_⟩
   refine Eg pu ⟨Ep,λ_=>?_⟩
   exact⟨_,_,_,rfl,z (by rw[wrap_u32];rfl),_,rfl⟩
 |_=>cases hb with
  |one=>
   refine Ej pu C.f226 rfl ?_
   refine⟨_,_,_,rfl,v0,λ_=>⟨_,_,_,rfl,v1,Ep,λ_=>?_⟩,Ep⟩
   refine⟨Ac,_,_,rfl,?_⟩
   refine Eg pu ⟨Ep,λ_=>?_⟩
   exact⟨_,_,_,rfl,z rfl,_,rfl⟩
  |_=>
   refine Ej pu C.f226 rfl ?_
   refine⟨_,_,_,rfl,v0,λ_=>⟨_,_,_,rfl,v1,Ep,λ_=>?_⟩,Ep⟩
   refine⟨Ac,_,_,rfl,?_⟩
   refine Eg pu ⟨Ep,λ_=>?_⟩
   exact⟨_,_,_,rfl,fit0,_,rfl⟩
theorem mul1 {a b:Nat} {v w:PV} (ha:A6 a v) (hb:A6 b w) (h1:0<a) (h2:0<b) (hm:a*b<4294967296):A3 Fn 226 [.v (.s v),.v (.s w)] (.tup [.s (.lst 1 (uL ([a*b,0].take (Ga [a*b,0] 2))) none),.s (.int .i64 ((0:Nat):Int))]):=by
 have l0:∀{g R},R (uA a) g->XC Fn 111 [.v (.s v),iA 0] g R:=Wz ha rfl;have l1:∀{g R},R (uA b) g->XC Fn 111 [.v (.s w),iA 0] g R:=Wz hb rfl;have v0:=G6 ha;have v1:=G6 hb;have hc:(a:Int)*b=((a*b:Nat):Int):=Ac;have w0:IntKind.wrap .u64 (Int.ofNat 0)=0:=rfl;cases ha<;>first|(exfalso;omega)|skip
 cases hb<;>first|(exfalso;omega)|skip
 generalize hn:a*b=n at hm hc ⊢;have e1:IntKind.wrap .u32 (((a:Int)*b+IntKind.wrap .u64 (Int.ofNat 0)+((0:Nat):Int)).tmod ((4294967296:Nat):Int))=(n:Int):=by rw[w0,hc,wrap_u32,Bv Aa];omega
 have e2:IntKind.wrap .u64 (((a:Int)*b+IntKind.wrap .u64 (Int.ofNat 0)+((0:Nat):Int)).tdiv ((4294967296:Nat):Int))=0:=by rw[w0,hc,BK Aa,wrap_u64 Aa];omega
 refine Ej pu C.f226 rfl ?_;refine⟨_,_,_,rfl,v0,λ_=>⟨_,_,_,rfl,v1,Ep,λ_=>?_⟩,Ep⟩;refine⟨Ac,_,_,Gz (n:=2) rfl Ac Ab Ab,?_⟩;refine Eg pu ⟨λ_=>?_,Ep⟩;refine Eg pu ⟨λ_=>?_,Ep⟩;refine l0 (l1 ⟨⟨by rw[hc];omega,by rw[hc];omega⟩,Ac,Ek pu C.f111 rfl ⟨λ_=>⟨⟨Ac,Ac⟩,_,_,rfl,?_⟩,Ep⟩⟩);refine⟨⟨by rw[w0,hc];omega,by rw[w0,hc];omega⟩,?_⟩;refine⟨⟨by rw[w0,hc];omega,by rw[w0,hc];omega⟩,?_⟩;refine⟨Ac,Ab,⟨Ac,Ac⟩,_,_,rfl,Ab,Ac,?_⟩;refine Eg pu ⟨Ep,λ_=>?_⟩;refine⟨Ac,⟨Ac,Ac⟩,_,_,rfl,Ac,?_⟩;refine Eg pu ⟨Ep,λ_=>?_⟩;exact⟨_,_,_,rfl,fit2 e1 (by rw[e2];rfl),_,rfl⟩
theorem Zt {a b:Nat} {v w:PV} (ha:A6 a v) (hb:A6 b w) (hs:a*b<4294967296):∃r,A3 Fn 226 [.v (.s v),.v (.s w)] (.tup [.s r,.s (.int .i64 ((0:Nat):Int))])/\A6 (a*b) r:=by
 by_cases ha0:a=0;·subst ha0;rw[Bo];exact⟨_,mul0 ha hb (.inl rfl),.emp⟩
 ·by_cases hb0:b=0;·subst hb0;rw[BN];exact⟨_,mul0 ha hb (.inr rfl),.emp⟩
  ·exact⟨_,mul1 ha hb Aa Aa hs,Ih _ hs⟩
theorem ZI {x y:Int} {a:Nat} (hx:x=a) (hy:y=0):A3 Fn 51 [PA.lst 1 [[.int .u32 x],[.int .u32 y]]] (PA.lst 1 (uL ([a,0].take (Ga [a,0] 2)))):=by subst hx;subst hy;exact eP [a,0] Ac
theorem zB {n:Nat} (h:n<4294967296):∃r,A3 Fn 15 [uA n] (.v (.s r))/\A6 n r:=by
 refine⟨_,?_,Ih n h⟩;refine Ej pu C.f15 rfl ?_;refine⟨Ab,Ab,_,_,_,rfl,ZI (a:=n) ?_ ?_,_,rfl⟩;·rw[wrap_u32,Bv Aa];omega
 ·rw[BK Aa,wrap_u64 Aa,wrap_u32];omega
theorem Lh {a b:Nat} {v w:PV} (ha:A6 a v) (hb:A6 b w):A3 Fn 53 [.v (.s v),.v (.s w)] (iA (Iq a b)):=by
 have l0:∀{g R},R (uA a) g->XC Fn 111 [.v (.s v),iA (1-1)] g R:=Wz ha rfl;have l1:∀{g R},R (uA b) g->XC Fn 111 [.v (.s w),iA (1-1)] g R:=Wz hb rfl;have v0:=G6 ha;have v1:=G6 hb;have fin:Iq (a:Int) b=if(a:Int)<b then -1 else if(b:Int)<a then 1 else 0:=rfl
 cases ha<;>cases hb;all_goals
  refine Ej pu C.f53 rfl ?_
  refine⟨_,_,_,rfl,v0,λ_=>⟨_,_,_,rfl,v1,Ep,λ_=>?_⟩,Ep⟩
  refine⟨Ac,?_⟩
  first
   |(refine Eg pu ⟨Ep,λ_=>?_⟩
     exact⟨_,rfl⟩)
   |skip
 all_goals
  refine Eg pu ⟨λ_=>?_,Ep⟩
  refine l0 (l1 ⟨λh=>?_,λh=>l0 (l1 ⟨λh'=>?_,λh'=>?_⟩)⟩)
  ·have h:=B0 h
   rw[fin,Aj h];exact⟨_,rfl⟩
  ·have h:=B5 h
   have h':=B0 h'
   rw[fin,Ao h,Aj h'];exact⟨_,rfl⟩
  ·have h:=B5 h
   have h':=B5 h'
   refine⟨Ac,Eg pu ⟨Ep,λ_=>?_⟩⟩
   rw[fin,Ao h,Ao h'];exact⟨_,rfl⟩
abbrev okA (v:PV):PA:=.tup [.s v,.s (.int .i64 ((0:Nat):Int))]
theorem iU (l:EF) (hl:l.length<1024):A3 Fn 158 [PA.lst 1 (uL l)] (okA (.lst 1 (uL (l.take (Ga l l.length))) none)):=by
 refine Ej pu C.f158 rfl ?_;refine XW.Wy (pu:=pu) (σ:=Nat) id (λn=>[(k0,.v (PA.lst 1 (uL l))),(k4,.v (iA n))]) (λn=>n<=l.length/\Ga l n=Ga l l.length) l.length Zl
  (.cons rfl rfl (.cons rfl ?_ (.nil _))) ⟨Rl,rfl⟩ ?_
 ·show iA _=iA _;rw[iT]
 rintro n ⟨h1,h2⟩;have fin:(n=0∨∃m,n=m+1/\l[m]?≠some 0)->(uL l).take n=uL (l.take (Ga l l.length)):=by
  intro h;have:Ga l n=n:=by
   rcases h with rfl|⟨m,rfl,hm⟩;·rfl
   ·simp only[Ga,Ao hm]
  rw[<-h2,this,uL,uL,<-Dq]
 have sl:=vG (es:=1) (l:=uL l) (n:=n) (g:=.empty) (by rw[iT];exact h1);refine⟨λh=>?_,λh=>?_⟩
 ·have h:=B0 h;obtain⟨m,rfl⟩:∃m,n=m+1:=⟨n-1,Aa⟩;have hm:m<l.length:=Aa;have gm:(uL l)[(((m+1:Nat):Int)-((1:Nat):Int)).toNat]?=some [.int .u32 (l[m]:Int)]:=by rw[show(((m+1:Nat):Int)-((1:Nat):Int)).toNat=m from Aa];exact PI (Gg hm)
  refine⟨Aa,_,⟨Aa,gm⟩,λhz=>?_,λhz=>?_⟩
  ·refine⟨Aa,m,AI m,.cons rfl rfl (.cons rfl ?_ (.nil _)),rfl,Aa,?_⟩;·show iA _=iA _;congr 3;omega
   ·have:l[m]?=some 0:=by rw[Gg hm];simpa using hz
    rw[<-h2,Ga,Aj this]
  ·refine⟨(λh=>by have:=B0 h;omega),λ_=>⟨_,_,sl,?_⟩⟩;rw[<-fin (.inr ⟨m,rfl,by rw[Gg hm];simpa using hz⟩)];exact⟨_,rfl⟩
 ·have h:=B5 h;refine⟨(λh=>by have:=B0 h;omega),λ_=>⟨_,_,sl,?_⟩⟩;rw[<-fin (.inl Aa)];exact⟨_,rfl⟩
theorem pt0:A3 Fn 158 [PA.lst 1 []] (okA (.lst 1 [] none)):=iU [] Ac
theorem pt1 {x:Int} {a:Nat} (hx:x=a):A3 Fn 158 [PA.lst 1 [[.int .u32 x]]] (okA (.lst 1 (uL ([a].take (Ga [a] 1))) none)):=by subst hx;exact iU [a] Ac
theorem pt2 {x y:Int} {a:Nat} (hx:x=a) (hy:y=0):A3 Fn 158 [PA.lst 1 [[.int .u32 x],[.int .u32 y]]] (okA (.lst 1 (uL ([a,0].take (Ga [a,0] 2))) none)):=by subst hx;subst hy;exact iU [a,0] Ac
theorem Ac2 {n:Nat} (h:n<4294967296):∃r,A3 Fn 223 [uA n] (.v (.s r))/\A6 n r:=by
 refine⟨_,?_,Ih n h⟩;refine Ej pu C.f223 rfl ?_;refine⟨_,_,_,rfl,pt2 (a:=n) ?_ ?_,_,rfl⟩;·rw[wrap_u32];omega
 ·rw[wrap_u32,Int.fdiv_eq_ediv_of_nonneg _ Ab];show((n:Int) / 4294967296) % 4294967296=0;omega
theorem Xr {a b:Nat} {v w:PV} (ha:A6 a v) (hb:A6 b w):A3 Fn 39 [.v (.s v),.v (.s w)] (iA (Iq a b)):=by
 have v0:=H8 ha;have v1:=H8 hb;have fin:Iq (a:Int) b=if(a:Int)<b then -1 else if(b:Int)<a then 1 else 0:=rfl
 cases ha<;>cases hb;all_goals
  refine Ej pu C.f39 rfl ?_
  refine⟨_,_,_,rfl,v0,λ_=>⟨_,_,_,rfl,v1,Ep,λ_=>?_⟩,Ep⟩
 case one.one=>
  refine⟨Ep,λ_=>Eg pu ⟨λ_=>?_,Ep⟩⟩;refine⟨Ac,Ac,_,⟨Ac,rfl⟩,Ac,Ac,_,⟨Ac,rfl⟩,λh=>?_,λh=>⟨λh'=>?_,λh'=>?_⟩⟩;·have h:=B0 h;rw[fin,Aj h];exact⟨_,rfl⟩
  ·have h:=B5 h;have h':=B0 h';rw[fin,Ao h,Aj h'];exact⟨_,rfl⟩
  ·have h:=B5 h;have h':=B5 h';refine⟨Ac,Eg pu ⟨Ep,λ_=>?_⟩⟩;rw[fin,Ao h,Ao h'];exact⟨_,rfl⟩
 case nil.one n h0 h=>refine⟨λ_=>⟨λ_=>?_,Ep⟩,Ep⟩;rw[fin,Aj Aa];exact⟨_,rfl⟩
 case emp.one n h0 h=>refine⟨λ_=>⟨λ_=>?_,Ep⟩,Ep⟩;rw[fin,Aj Aa];exact⟨_,rfl⟩
 case one.nil n h0 h=>refine⟨λ_=>⟨Ep,λ_=>?_⟩,Ep⟩;rw[fin,Ao Aa,Aj Aa];exact⟨_,rfl⟩
 case one.emp n h0 h=>refine⟨λ_=>⟨Ep,λ_=>?_⟩,Ep⟩;rw[fin,Ao Aa,Aj Aa];exact⟨_,rfl⟩
 all_goals
  exact⟨Ep,λ_=>Eg pu ⟨Ep,λ_=>⟨_,rfl⟩⟩⟩
theorem mT {s:Int} (h0:0<=s) (h:s<4294967296):s.fdiv (2 ^ (min (Int.toNat ((32:Nat):Int)) (IntKind.bits .u64)))=0:=by rw[Int.fdiv_eq_ediv_of_nonneg _ Ab];show s / 4294967296=0;omega
theorem natAdd {a b:Nat} {v w:PV} (ha:A6 a v) (hb:A6 b w) (hs:a+b<4294967296):∃r,A3 Fn 117 [.v (.s v),.v (.s w)] (okA r)/\A6 (a+b) r:=by
 have v0:=H8 ha;have v1:=H8 hb;have wa:∀{n:Nat},n<4294967296->IntKind.wrap .u64 (n:Int)=n:=λh=>wrap_u64 Aa;cases ha<;>cases hb;case one.one h0 h g0 g=>
  refine⟨_,?_,Ih _ hs⟩;refine Ej pu C.f117 rfl ?_;refine⟨_,_,_,rfl,v0,λ_=>⟨_,_,_,rfl,v1,Ep,λ_=>?_⟩,Ep⟩;refine⟨Ep,λ_=>⟨Ac,_,_,Gz (n:=2) rfl Ac Ab Ab,?_⟩⟩;refine⟨_,_,rfl,?_⟩;refine Eg pu ⟨λ_=>?_,Ep⟩;refine⟨⟨Ac,Ac⟩,_,_,rfl,⟨by rw[wa h];omega,by rw[wa h];omega⟩,λ_=>?_,Ep⟩;refine⟨_,⟨Ac,rfl⟩,⟨by rw[wa h,wa g];omega,by rw[wa h,wa g];omega⟩,⟨Ac,Ac⟩,_,_,rfl,Ac,?_⟩;refine Eg pu ⟨Ep,λ_=>?_⟩;refine⟨⟨Ac,Ac⟩,_,_,rfl,_,_,_,rfl,pt2 (a:=a+b) ?_ ?_,_,rfl⟩;·rw[wa h,wa g,wrap_u32];omega
  ·rw[wa h,wa g,mT Aa Aa];rfl
 case one.nil h0 h=>
  refine⟨_,?_,Ih _ hs⟩;refine Ej pu C.f117 rfl ?_;refine⟨_,_,_,rfl,v0,λ_=>⟨_,_,_,rfl,v1,Ep,λ_=>?_⟩,Ep⟩;refine⟨Ep,λ_=>⟨Ac,_,_,Gz (n:=2) rfl Ac Ab Ab,?_⟩⟩;refine⟨_,_,rfl,?_⟩;refine Eg pu ⟨λ_=>?_,Ep⟩;refine⟨⟨Ac,Ac⟩,_,_,rfl,⟨by rw[wa h];omega,by rw[wa h];omega⟩,Ep,λ_=>?_⟩;refine⟨⟨Ac,Ac⟩,_,_,rfl,Ac,?_⟩;refine Eg pu ⟨Ep,λ_=>?_⟩;refine⟨⟨Ac,Ac⟩,_,_,rfl,_,_,_,rfl,pt2 (a:=a+0) ?_ ?_,_,rfl⟩;·rw[wa h,wrap_u32];omega
  ·rw[wa h,mT Aa Aa];rfl
 case one.emp h0 h=>
  refine⟨_,?_,Ih _ hs⟩;refine Ej pu C.f117 rfl ?_;refine⟨_,_,_,rfl,v0,λ_=>⟨_,_,_,rfl,v1,Ep,λ_=>?_⟩,Ep⟩;refine⟨Ep,λ_=>⟨Ac,_,_,Gz (n:=2) rfl Ac Ab Ab,?_⟩⟩;refine⟨_,_,rfl,?_⟩;refine Eg pu ⟨λ_=>?_,Ep⟩;refine⟨⟨Ac,Ac⟩,_,_,rfl,⟨by rw[wa h];omega,by rw[wa h];omega⟩,Ep,λ_=>?_⟩;refine⟨⟨Ac,Ac⟩,_,_,rfl,Ac,?_⟩;refine Eg pu ⟨Ep,λ_=>?_⟩;refine⟨⟨Ac,Ac⟩,_,_,rfl,_,_,_,rfl,pt2 (a:=a+0) ?_ ?_,_,rfl⟩;·rw[wa h,wrap_u32];omega
  ·rw[wa h,mT Aa Aa];rfl
 case nil.one g0 g=>
  refine⟨_,?_,Ih _ hs⟩;refine Ej pu C.f117 rfl ?_;refine⟨_,_,_,rfl,v0,λ_=>⟨_,_,_,rfl,v1,Ep,λ_=>?_⟩,Ep⟩;refine⟨λ_=>⟨Ac,_,_,Gz (n:=2) rfl Ac Ab Ab,?_⟩,Ep⟩;refine⟨_,_,rfl,?_⟩;refine Eg pu ⟨λ_=>?_,Ep⟩;refine⟨⟨Ac,Ac⟩,_,_,rfl,⟨by rw[wa g];omega,by rw[wa g];omega⟩,Ep,λ_=>?_⟩;refine⟨⟨Ac,Ac⟩,_,_,rfl,Ac,?_⟩;refine Eg pu ⟨Ep,λ_=>?_⟩;refine⟨⟨Ac,Ac⟩,_,_,rfl,_,_,_,rfl,pt2 (a:=0+b) ?_ ?_,_,rfl⟩;·rw[wa g,wrap_u32];omega
  ·rw[wa g,mT Aa Aa];rfl
 case emp.one g0 g=>
  refine⟨_,?_,Ih _ hs⟩;refine Ej pu C.f117 rfl ?_;refine⟨_,_,_,rfl,v0,λ_=>⟨_,_,_,rfl,v1,Ep,λ_=>?_⟩,Ep⟩;refine⟨λ_=>⟨Ac,_,_,Gz (n:=2) rfl Ac Ab Ab,?_⟩,Ep⟩;refine⟨_,_,rfl,?_⟩;refine Eg pu ⟨λ_=>?_,Ep⟩;refine⟨⟨Ac,Ac⟩,_,_,rfl,⟨by rw[wa g];omega,by rw[wa g];omega⟩,Ep,λ_=>?_⟩;refine⟨⟨Ac,Ac⟩,_,_,rfl,Ac,?_⟩;refine Eg pu ⟨Ep,λ_=>?_⟩;refine⟨⟨Ac,Ac⟩,_,_,rfl,_,_,_,rfl,pt2 (a:=0+b) ?_ ?_,_,rfl⟩;·rw[wa g,wrap_u32];omega
  ·rw[wa g,mT Aa Aa];rfl
 all_goals
  refine⟨_,?_,A6.emp⟩
  refine Ej pu C.f117 rfl ?_
  refine⟨_,_,_,rfl,v0,λ_=>⟨_,_,_,rfl,v1,Ep,λ_=>?_⟩,Ep⟩
  refine⟨Ep,λ_=>⟨Ac,_,_,Gz (n:=1) rfl Ac Ab Ab,?_⟩⟩
  refine⟨_,_,rfl,?_⟩
  refine Eg pu ⟨Ep,λ_=>?_⟩
  exact⟨⟨Ac,Ac⟩,_,_,rfl,_,_,_,rfl,pt1 (a:=0) rfl,_,rfl⟩
end Go.Pv
end
