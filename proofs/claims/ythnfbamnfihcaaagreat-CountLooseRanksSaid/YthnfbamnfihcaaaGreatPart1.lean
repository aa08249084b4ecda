/- A part of the proof that the law CountLooseRanks answers true. No condition. -/
import Derived.Test.YthnfbamnfihcaaaGreatPart0
import Derived.Test.YthnfbamnfihcaaaGreatBase
set_option linter.unusedVariables false
set_option linter.unusedSimpArgs false
set_option linter.unusedSectionVars false
section
noncomputable section
namespace Go.Vm
open Key (kn)
theorem qU {o:VOp} (hk:o.kind=.alloc) {args:List AV} {h:Ac} {r:Key} {v:AV} {blk:Blk} (e:o.run args { h with next:=r }=some (v,({ h with next:=r }:Ac).Bs blk)) (h2:Ac) (hn:h2.next=r) :
  o.run args h2=some (v,h2.Bs blk):=by
 obtain⟨b2,_,he,hall⟩:=Mp hk e
 have:=congrArg (fun g=>Ac.get g r) he
 simp only[Cf,if_true,Sj] at this
 rw[this]
 exact hall h2 hn
section
variable {P:Program} {call:Bn} {N:Nat} {ops:Array Oper} {vs:List An} {lo hi:Key}
theorem Vx {L:Nat→Bool} (hc:Pp ops.toList L) {i:Nat} {o:Oper} (ho:ops[i]?=some o) (hd:∀k∈direct o,L k=true):Pp ops.toList (upL L i):=by
 intro j o' hj hl k hk
 unfold upL at hl ⊢
 split at hl
 ·next e=>
  subst e
  have:o'=o:=by
   have h1:ops[j]?=some o':=by simpa using hj
   rw[ho] at h1;exact(Option.some.inj h1).symm
  subst this
  split
  ·rfl
  ·exact hd k hk
 ·split
  ·rfl
  ·exact hc j o' hj hl k hk
theorem Up.up {evs:List Ev} {L:Nat→Bool} {Ai:List Ac} {h:Ac} (hr:Rest ops vs lo hi evs Ai h) (hu:Up ops vs evs L) {x:Ev} (hx:x∈evs) (hk:x.d.o.act.kind≠.effect) {o:Oper} (ho:ops[x.i]?=some o) (hd:∀k∈direct o,L k=true):Up ops vs evs (upL L x.i):=by
 refine⟨fun i hi hn=>?_,fun y hy hl=>?_,Vx hu.closed ho hd⟩
 ·unfold upL;split
  ·rfl
  ·exact hu.rest i hi hn
 ·unfold upL at hl
  split at hl
  ·next e=>
   have h1:=(hr.idx y hy).1
   rw[e,(hr.idx x hx).1] at h1
   rw[←Option.some.inj h1];exact hk
  ·exact hu.early y hy hl
theorem todo_up {L:Nat→Bool} {x:Ev} (hx:L x.i=false):∀(evs:List Ev),x∈evs→todo (upL L x.i) evs<todo L evs:=by
 have le:∀evs:List Ev,todo (upL L x.i) evs≤todo L evs:=by
  intro evs
  induction evs with
  |nil=>exact Rl
  |cons y l ih=>
   simp only[todo,List.filter_cons] at ih ⊢
   by_cases hy:y.i=x.i
   ·simp only[upL,hy,if_true,Bool.not_true,Fj,if_false]
    split<;>simp[upL] at ih ⊢<;>omega
   ·simp only[upL,hy,if_false] at ih ⊢
    split<;>simp at ih ⊢<;>omega
 intro evs
 induction evs with
 |nil=>intro h;cases h
 |cons y l ih=>
  intro hm
  rcases List.mem_cons.1 hm with rfl|hm
  ·have:=le l
   simp only[todo,List.filter_cons,upL,if_true,Bool.not_true,Fj,if_false,hx,Bool.not_false,List.length_cons] at this ⊢
   omega
  ·have:=ih hm
   by_cases hy:y.i=x.i
   ·have h1:=le l
    simp only[todo,List.filter_cons,upL,hy,if_true,Bool.not_true,Fj,if_false,hx,Bool.not_false,List.length_cons] at h1 ⊢
    omega
   ·simp only[todo,List.filter_cons,upL,hy,if_false] at this ⊢
    split<;>simp at this ⊢<;>omega
theorem qV (hcall:Ed P call) (hreg:Reg P N ops vs) {L:Nat→Bool} {x:Ev} {pre post:List Ev} {r:Key} {Ai:List Ac} {fr:Fr} {h:Ac} {fr':Fr} {h':Ac}
  (hr:Rest ops vs lo hi (pre++x::post) Ai h) (hu:Up ops vs (pre++x::post) L) (hx:L x.i=false) (hk:x.d.o.act.kind≠.effect) {o:Oper} (ho:ops[x.i]?=some o) (hd:∀k∈direct o,L k=true)
  (hrun:Run call lo hi (pre++x::post) r Ai fr h fr' h') {φ0:Emb} {g0:Mem} {w0:World} {φ:Emb} {a:Act} {w:World} (st:Ry N lo.toNat φ0 g0 w0 L (pre++x::post) fr h φ a w)
  {K:Act→World→Prop} {Q:Exit→Act→World→Prop} (hK:∀a' w' φ',Ry N lo.toNat φ0 g0 w0 (upL L x.i) (pre++x::post) fr h φ' a' w'→K a' w'):wpOp P ops Q x.i K a w:=by
 have hmem:x∈pre++x::post:=by simp
 obtain⟨vo,hvo,hc⟩:=hreg.ok x.i o ho
 rw[(hr.idx x hmem).1] at hvo
 cases hvo
 have hpw:=List.pairwise_append.1 hr.pw
 have hpost:=List.pairwise_cons.1 hpw.2.1
 have hne:∀y∈pre++post,y.i≠x.i:=by
  intro y hy
  rcases List.mem_append.1 hy with hy|hy
  ·exact(hpw.2.2 y hy x (by simp)).1
  ·exact Ne.symm (hpost.1 y hy).1
 have hkpw:=List.pairwise_append.1 hr.kpw
 have hkpost:=List.pairwise_cons.1 hkpw.2.1
 have hkne:∀y∈pre++x::post,y.i≠x.i→∀k b k' b',x.al=some (k,b)→y.al=some (k',b')→k≠k':=by
  intro y hy hyi k b k' b' h1 h2
  rcases List.mem_append.1 hy with hy|hy
  ·exact Ne.symm (hkpw.2.2 y hy x (by simp) k' b' k b h2 h1)
  ·rcases List.mem_cons.1 hy with rfl|hy
   ·exact absurd rfl hyi
   ·exact hkpost.1 y hy k b k' b' h1 h2
 have hFr:eFr (upL L x.i) (pre++x::post) fr=Bp (eFr L (pre++x::post) fr) x.d.o.dst x.v:=
  uI hx hne fun y hy k e=>hreg.dst x.i y.i _ _ k (hr.idx x hmem).1 (hr.idx y (by simp[hy])).1 (Ne.symm (hne y (by simp[hy]))) e
 have hHe:A8 (upL L x.i) (pre++x::post) h=x.put (A8 L (pre++x::post) h):=xW hx hne fun y hy k b k' b'=>hkpost.1 y hy k b k' b'
 have hop:=operands hreg hr hu hx ho hd fr
 have hwant:=T9 (o:=x.d.o) hop
 obtain⟨r1,snaps1,h1,h2,s,hs,hm,hg⟩:=mQ pre hrun fun y hy k b ha=>by
  obtain⟨_,_,e1,e2,_⟩:=hr.key y (by simp[hy]) k b ha
  exact⟨e1,e2⟩
 unfold wpOp
 simp only[ho]
 have hb:φ (A8 L (pre++x::post) h).next=none:=st.sim.fresh _ (by rw[J5];exact Rl)
 have quiet:x.al=none→(∀o,x.d.o.act≠.op o)→False:=fun _ hn=>by
  cases hact:x.d.o.act with
  |op p=>exact hn p hact
  |call f=>rw[hact] at hk;exact hk rfl
  |Ge=>rw[hact] at hk;exact hk rfl
 have same:x.al=none→∀a' w' φ',(∀nx',h.next.toNat≤nx'→(A8 L (pre++x::post) h).next.toNat≤nx'→Sim φ' (A8 L (pre++x::post) h).get nx' w') →
   Ext φ (A8 L (pre++x::post) h).get (A8 L (pre++x::post) h).next.toNat w φ' (A8 L (pre++x::post) h).get (A8 L (pre++x::post) h).next.toNat w'→C6 φ' N (Bp (eFr L (pre++x::post) fr) x.d.o.dst x.v) a'→K a' w':=by
  intro hal a' w' φ' s1 e1 f1
  have hput:x.put (A8 L (pre++x::post) h)=A8 L (pre++x::post) h:=by simp only[Ev.put,hal]
  rw[J5] at s1 e1
  refine hK a' w' φ' ⟨by rw[hFr];exact f1,by rw[hHe,hput];exact s1 _ (Rl) (Rl),by rw[hHe,hput];exact st.ext.trans e1,fun y hy hl k b ha=>?_⟩
  refine e1.only k (st.unl y hy ?_ k b ha) (by omega)
  unfold upL at hl
  split at hl
  ·cases hl
  ·exact hl
 rcases s with⟨hw,args,hf,hmm⟩|⟨hw,hv,hal,_⟩
 ·have hfetch:Cn (eFr L (pre++x::post) fr) x.d.o.args=some args:=by
   rw[Im _ fun k hk'=>hop k (Nx hk')];exact hf
  rw[←hwant] at hw
  split at hmm
  ·next e=>exact absurd e hk
  ·next hka=>
   obtain⟨p,blk,hp,hal,hpr,_⟩:=hmm
   have hkp:p.kind=.alloc:=by rw[hp] at hka;exact hka
   obtain⟨k1,k2,k3,k4,k5⟩:=hr.key x hmem r1 blk hal
   have hrun1:=qU hkp hpr { A8 L (pre++x::post) h with next:=r1 } rfl
   refine Ua (ops:=ops) hcall hc (φ:=φ) (h:={ A8 L (pre++x::post) h with next:=r1 }) (nx:=h.next.toNat) (v:=x.v) st.fr st.sim (st.unl x hmem hx r1 blk hal) (fun hn=>absurd hp (hn p)) (.inl ⟨hw,args,hfetch,by rw[hp];exact hrun1⟩) ?_
   intro a' w' φ' s1 e1 f1
   have hnx:(({ A8 L (pre++x::post) h with next:=r1 }:Ac).Bs blk).next.toNat=r1.toNat+1:=by rw[Jc,Key.toNat_succ]
   have hput:x.put (A8 L (pre++x::post) h)=(A8 L (pre++x::post) h).upd r1 (some blk):=by simp only[Ev.put,hal]
   rw[hnx] at s1 e1
   have hget:(({ A8 L (pre++x::post) h with next:=r1 }:Ac).Bs blk).get=((A8 L (pre++x::post) h).upd r1 (some blk)).get:=rfl
   rw[hget] at s1 e1
   refine hK a' w' φ' ⟨by rw[hFr];exact f1,by rw[hHe,hput];exact s1 _ (Rl) (by omega),by rw[hHe,hput];exact st.ext.within e1 k3 (by omega),fun y hy hl k b ha=>?_⟩
   unfold upL at hl
   split at hl
   ·cases hl
   ·next hyi=>
    have hkk:=hkne y hy hyi r1 blk k b hal ha
    have hkk':r1.toNat≠k.toNat:=fun e=>hkk (by rw[←Key.Ff r1,e,Key.Ff])
    exact e1.only k (st.unl y hy hl k b ha) (by show k.toNat<r1.toNat∨r1.toNat+1≤k.toNat;omega)
  ·next hkq=>
   obtain⟨p,hp,hal,hpr,hout,hsame,_⟩:=hmm
   have hkp:p.kind=.quiet:=by rw[hp] at hkq;exact hkq
   have hchk:=OG hreg hr hu hmem ho hd
   rw[List.drop_append_of_le_length hchk] at hsame
   have hrs:∃g,p.run args hs=some (x.v,g):=by
    rcases List.mem_append.1 hm with hm|hm
    ·exact aN hsame (List.mem_append_right _ hm)
    ·simp only[List.mem_singleton] at hm;subst hm;exact⟨_,hpr⟩
   obtain⟨g,hrs⟩:=hrs
   obtain⟨_,hq⟩:=En hkp hrs
   have hrun1:p.run args (A8 L (pre++x::post) h)=some (x.v,A8 L (pre++x::post) h):=hq _ fun b hb'=>by
    have hbo:b.toNat<lo.toNat∨hi.toNat≤b.toNat:=by
     unfold outside at hout
     rw[hb'] at hout
     simp only[Bool.or_eq_true,Nat.blt_eq,Nat.ble_eq] at hout
     exact hout
    rw[hg b hbo]
    refine eW _ _ fun y hy k b' ha=>?_
    obtain⟨_,_,e1,e2,_⟩:=hr.key y hy k b' ha
    rintro rfl
    omega
   exact Ua (ops:=ops) hcall hc (φ:=φ) (h:=A8 L (pre++x::post) h) (nx:=h.next.toNat) (v:=x.v) st.fr st.sim hb (fun hn=>absurd hp (hn p)) (.inl ⟨hw,args,hfetch,by rw[hp];exact hrun1⟩) (same hal)
 ·rw[←hwant] at hw
  exact Ua (ops:=ops) hcall hc (φ:=φ) (h:=A8 L (pre++x::post) h) (nx:=h.next.toNat) (v:=x.v) st.fr st.sim hb (fun hn=>(quiet hal hn).elim) (.inr ⟨hw,hv,rfl⟩) (same hal)
theorem mR (hcall:Ed P call) (hnice:Cb call) (hkeep:Cy call) (hreg:Reg P N ops vs) {L:Nat→Bool} {x:Ev} {l:List Ev} {r:Key} {Ai:List Ac} {fr:Fr} {h:Ac} {fr':Fr} {h':Ac}
  (hr:Rest ops vs lo hi (x::l) Ai h) (hu:Up ops vs (x::l) L) (hx:L x.i=false) (hk:x.d.o.act.kind=.effect) {o:Oper} (ho:ops[x.i]?=some o) (hd:∀k∈direct o,L k=true)
  (hrun:Run call lo hi (x::l) r Ai fr h fr' h') {φ0:Emb} {g0:Mem} {w0:World} {φ:Emb} {a:Act} {w:World} (st:Ry N lo.toNat φ0 g0 w0 L (x::l) fr h φ a w) :
  ∃h1,Rest ops vs lo hi l (Ai++[h]) h1∧Up ops vs l (upL L x.i)∧Run call lo hi l r (Ai++[h]) (Bp fr x.d.o.dst x.v) h1 fr' h' ∧
   ∀(K:Act→World→Prop) (Q:Exit→Act→World→Prop),(∀a' w' φ',Ry N lo.toNat φ0 g0 w0 (upL L x.i) l (Bp fr x.d.o.dst x.v) h1 φ' a' w'→K a' w')→wpOp P ops Q x.i K a w:=by
 obtain⟨h1,s,hrun1⟩:=hrun
 have hpw:=List.pairwise_cons.1 hr.pw
 have hkpw:=List.pairwise_cons.1 hr.kpw
 obtain⟨vo,hvo,hc⟩:=hreg.ok x.i o ho
 have hix:=(hr.idx x (by simp)).1
 rw[hix] at hvo
 cases hvo
 have hop:=operands (pre:=[]) hreg hr hu hx ho hd fr
 simp only[List.nil_append,pFr] at hop
 have hwant:=T9 (o:=x.d.o) hop
 have hkeys:∀y∈l,∀k b,y.al=some (k,b)→Bd k h∧k.toNat<h.next.toNat∧b.anc=[]:=fun y hy k b ha=>by
  obtain⟨e1,e2,_,_,e5⟩:=hr.key y (by simp[hy]) k b ha
  exact⟨e1,e2,e5⟩
 have hgo:((Di (eFr L (x::l) fr) x.d.o.guard=some true∧∃args,Cn (eFr L (x::l) fr) x.d.o.args=some args∧x.d.o.act.run call args (A8 L l h)=some (x.v,A8 L l h1)) ∨
   (Di (eFr L (x::l) fr) x.d.o.guard=some false∧x.v=.unit∧A8 L l h1=A8 L l h))∧h.next.toNat≤h1.next.toNat∧(∀y∈l,∀k b,y.al=some (k,b)→Bd k h1)∧Clean h1:=by
  rcases s with⟨hw,args,hf,hmm⟩|⟨hw,hv,hal,rfl⟩
  ·simp only[hk] at hmm
   have hn:=mH hnice x.d.o.act args
   obtain⟨e1,e2⟩:=N0 hn L l hmm.2 hkeys hkpw.2
   refine⟨.inl ⟨by rw[hwant];exact hw,args,?_,e1⟩,(hn _ _ _ hmm.2).1,e2,mM hkeep hmm.2 hr.clean⟩
   rw[Im _ fun k hk'=>hop k (Nx hk')];exact hf
  ·exact⟨.inr ⟨by rw[hwant];exact hw,hv,rfl⟩,Rl,fun y hy k b ha=>(hkeys y hy k b ha).1,hr.clean⟩
 obtain⟨hgo,hnx,hfresh,hclean⟩:=hgo
 have hne:∀y∈l,y.i≠x.i:=fun y hy=>Ne.symm (hpw.1 y hy).1
 refine⟨h1,⟨fun y hy=>hr.idx y (by simp[hy]),hpw.2,?_,hkpw.2,fun y hy k b ha=>?_,Nat.le_trans hr.hi hnx,hclean⟩,⟨fun i hi hn=>?_,fun y hy hl=>?_,Vx hu.closed ho hd⟩,?_,fun K Q hK=>?_⟩
 ·have:=H8 (p:=fun j=>decide (∀y∈l,y.i≠j)) (q:=fun j=>decide (∀y∈x::l,y.i≠j)) (c:=x.i) (C8 vs) (Nz vs) fun j _ hp hc=>by
   simp only[decide_eq_true_eq] at hp ⊢
   intro y hy
   rcases List.mem_cons.1 hy with rfl|hy
   ·exact Ne.symm hc
   ·exact hp y hy
  have h2:=hr.Ai
  simp only[La,List.length_singleton]
  omega
 ·obtain⟨e1,e2,e3,e4,e5⟩:=hr.key y (by simp[hy]) k b ha
  exact⟨hfresh y hy k b ha,by omega,e3,e4,e5⟩
 ·unfold upL
  split
  ·rfl
  ·next hxi=>
   refine hu.rest i hi fun y hy=>?_
   rcases List.mem_cons.1 hy with rfl|hy
   ·exact Ne.symm hxi
   ·exact hn y hy
 ·unfold upL at hl
  rw[if_neg (hne y hy)] at hl
  exact hu.early y (by simp[hy]) hl
 ·simpa[Ft,Dm,hk] using hrun1
 ·unfold wpOp
  simp only[ho]
  have hEh:A8 L (x::l) h=A8 L l h:=by simp[A8,hx]
  have hEf:eFr L (x::l) fr=eFr L l fr:=by simp[eFr,hx]
  obtain⟨f0,s0,e0,u0⟩:=st
  rw[hEh] at s0 e0
  have hcl:Clean (A8 L l h):=Xk L l h hr.clean fun y hy k b ha=>⟨(hkeys y hy k b ha).2.1,(hkeys y hy k b ha).2.2⟩
  have hnext:(A8 L l h).next=h.next:=J5 L l h
  have hnext1:(A8 L l h1).next=h1.next:=J5 L l h1
  refine Ua (ops:=ops) hcall hc (φ:=φ) (h:=A8 L l h) (h':=A8 L l h1) (nx:=h.next.toNat) (v:=x.v) f0 s0 (s0.fresh _ (by rw[hnext];exact Rl)) (fun _=>⟨by rw[hnext],hcl⟩) hgo ?_
  intro a' w' φ' s1 e1 f1
  rw[hnext,hnext1] at e1
  rw[hnext1] at s1
  have hc1:A8 (upL L x.i) l h1=A8 L l h1:=Kw l h1 fun y hy=>by simp[upL,hne y hy]
  have hc2:∀g,eFr (upL L x.i) l g=eFr L l g:=fun g=>Qw l g fun y hy=>by simp[upL,hne y hy]
  refine hK a' w' φ' ⟨?_,by rw[hc1];exact s1 _ hnx (Rl),by rw[hc1];exact e0.trans e1,fun y hy hl k b ha=>?_⟩
  ·rw[hc2,T8 L l fr fun y hy _ k e=>hreg.dst x.i y.i _ _ k hix (hr.idx y (by simp[hy])).1 (Ne.symm (hne y hy)) e,←hEf]
   exact f1
  ·unfold upL at hl
   rw[if_neg (hne y hy)] at hl
   exact e1.only k (u0 y (by simp[hy]) hl k b ha) (.inl (hkeys y hy k b ha).2.1)
end
end Go.Vm
end
section
noncomputable section
namespace Go.Vm
open Key (kn)
section
variable {P:Program} {call:Bn} {N:Nat} {ops:Array Oper} {vs:List An} {lo hi:Key}
theorem eY (hcall:Ed P call) (hnice:Cb call) (hkeep:Cy call) (hreg:Reg P N ops vs) {Q:Exit→Act→World→Prop} {φ0:Emb} {g0:Mem} {w0:World} {fr':Fr} {h':Ac}
  (hQ:∀a w φ,C6 φ N fr' a→Sim φ h'.get h'.next.toNat w→Ext φ0 g0 lo.toNat w0 φ h'.get h'.next.toNat w→Q .normal a w) :
  ∀(fuel:Nat) (listed:Array Bool) (evs:List Ev) (r:Key) (Ai:List Ac) (fr:Fr) (h:Ac) (φ:Emb) (a:Act) (w:World),listed.size=ops.size→Rest ops vs lo hi evs Ai h→Up ops vs evs (fun i=>listed.getD i true) →
   Run call lo hi evs r Ai fr h fr' h'→Ry N lo.toNat φ0 g0 w0 (fun i=>listed.getD i true) evs fr h φ a w→todo (fun i=>listed.getD i true) evs≤fuel→wpAny P .any ops Q fuel listed a w:=by
 have done:∀(listed:Array Bool) (evs:List Ev) (r:Key) (Ai:List Ac) (fr:Fr) (h:Ac) (φ:Emb) (a:Act) (w:World),listed.size=ops.size→Rest ops vs lo hi evs Ai h→Up ops vs evs (fun i=>listed.getD i true) →
   Run call lo hi evs r Ai fr h fr' h'→Ry N lo.toNat φ0 g0 w0 (fun i=>listed.getD i true) evs fr h φ a w→(∀x l,evs=x::l→(fun i=>listed.getD i true) x.i=false)→Region.ready .any ops listed=[]→Q .normal a w:=by
  intro listed evs r Ai fr h φ a w hsz hr hu hrun st hhead hnil
  cases evs with
  |nil=>
   obtain⟨rfl,rfl⟩:=hrun
   exact hQ a w φ st.fr st.sim st.ext
  |cons x l=>
   exfalso
   have hx:=hhead x l rfl
   have hix:=(hr.idx x (by simp)).1
   have hlt:x.i<ops.size:=by rw[←hreg.len];exact(Gi.1 hix).1
   have ho:ops[x.i]?=some ops[x.i]:=by simp[hlt]
   have hmem:x.i∈Region.ready .any ops listed:=by
    rw[mem_ready]
    refine⟨hx,_,ho,fun e he hb=>?_⟩
    have hdir:=aI he hb
    have hk:e.on<x.i:=hreg.down x.i _ (by simp) e.on hdir
    have hl:listed.getD e.on true=true:=by
     refine hu.rest e.on (by rw[hreg.len];omega) fun y hy=>?_
     rcases List.mem_cons.1 hy with rfl|hy
     ·omega
     ·rintro hyi
      obtain⟨_,hb',_⟩:=(List.pairwise_cons.1 hr.pw).1 y hy
      have:before (B9 ops.toList) y.i x.i=true:=(Nv hreg.down (o:=ops[x.i]) (by simp)).2 ⟨e.on,hdir,.inl hyi.symm⟩
      rw[hb'] at this;cases this
    have hlt':e.on<listed.size:=by omega
    simp only[Array.getD,hlt',dif_pos] at hl ⊢
    exact hl
   rw[hnil] at hmem
   cases hmem
 intro fuel
 induction fuel with
 |zero=>
  intro listed evs r Ai fr h φ a w hsz hr hu hrun st hf
  have hnil:Region.ready .any ops listed=[]:=by
   refine List.eq_nil_iff_forall_not_mem.2 fun i hi=>?_
   obtain⟨h1,o,ho,_⟩:=mem_ready.1 hi
   have hlt:i<vs.length:=by rw[hreg.len];exact(Array.getElem?_eq_some_iff.1 ho).1
   have:listed.getD i true=true:=hu.rest i hlt fun y hy hyi=>by
    have:y∈evs.filter fun x=>!(fun i=>listed.getD i true) x.i:=List.mem_filter.2 ⟨hy,by simp only[hyi,h1];rfl⟩
    have hlen:(evs.filter fun x=>!(fun i=>listed.getD i true) x.i).length=0:=Nat.le_zero.1 hf
    rw[List.length_eq_zero_iff.1 hlen] at this
    cases this
   rw[h1] at this;cases this
  obtain⟨evs',r',fr'',h'',k1,k2,k3,k4,k5,k6⟩:=qT evs hr hu hrun st
  exact⟨hnil,done listed evs' r' Ai fr'' h'' φ a w hsz k1 k2 k3 k4 k6 hnil⟩
 |succ fuel ih=>
  intro listed evs r Ai fr h φ a w hsz hr hu hrun st hf
  obtain⟨evs',r',fr'',h'',k1,k2,k3,k4,k5,k6⟩:=qT evs hr hu hrun st
  refine⟨done listed evs' r' Ai fr'' h'' φ a w hsz k1 k2 k3 k4 k6,fun i hi=>?_⟩
  obtain⟨h1,o,ho,hall⟩:=mem_ready.1 hi
  have hlt:i<ops.size:=(Array.getElem?_eq_some_iff.1 ho).1
  have hx:∃x∈evs',x.i=i:=by
   refine Classical.byContradiction fun hn=>?_
   have:listed.getD i true=true:=k2.rest i (by rw[hreg.len];exact hlt) fun y hy hyi=>hn ⟨y,hy,hyi⟩
   rw[h1] at this;cases this
  obtain⟨x,hxm,rfl⟩:=hx
  have hd:∀k∈direct o,(fun i=>listed.getD i true) k=true:=fun k hk=>by
   obtain⟨e,he,hb,rfl⟩:=Rx hk
   have:=hall e he hb
   rcases Nat.lt_or_ge e.on listed.size with h'|h'
   ·simpa[h'] using this
   ·simp[Array.getElem?_eq_none h'] at this
  have hL:(fun i=>(listed.setIfInBounds x.i true).getD i true)=upL (fun i=>listed.getD i true) x.i:=by
   funext j
   unfold upL
   by_cases hj:j=x.i
   ·subst hj;simp[hsz,hlt]
   ·rw[if_neg hj,getD_set_ne true (Ne.symm hj)]
  have hsz':(listed.setIfInBounds x.i true).size=ops.size:=by simpa using hsz
  have htodo:todo (fun i=>listed.getD i true) evs'≤fuel+1:=by rw[k5];exact hf
  by_cases hk:x.d.o.act.kind=.effect
  ·-- an effect: it is the head
   obtain⟨y,l,rfl⟩:∃y l,evs'=y::l:=by cases evs' with
    |nil=>cases hxm
    |cons y l=>exact⟨y,l,rfl⟩
   have hy:=k6 y l rfl
   have hxy:x=y:=by
    rcases List.mem_cons.1 hxm with rfl|hxl
    ·rfl
    ·exfalso
     obtain⟨_,_,h3⟩:=(List.pairwise_cons.1 k1.pw).1 x hxl
     have:=k2.closed.ready hreg.down (o:=o) (by simpa using ho) hd (h3 hk)
     simp only[hy] at this
     cases this
   subst hxy
   obtain⟨g1,e1,e2,e3,e4⟩:=mR hcall hnice hkeep hreg k1 k2 h1 hk ho hd k3 k4
   refine e4 _ _ fun a' w' φ' st'=>?_
   refine ih _ l _ _ _ g1 φ' a' w' hsz' e1 (by rw[hL];exact e2) e3 (by rw[hL];exact st') ?_
   rw[hL]
   have h2:=todo_up (L:=fun i=>listed.getD i true) h1 (x::l) (by simp)
   have h3:todo (upL (fun i=>listed.getD i true) x.i) l≤todo (upL (fun i=>listed.getD i true) x.i) (x::l):=by
    unfold todo
    rw[List.filter_cons]
    split
    ·simp
    ·exact Rl
   omega
  ·obtain⟨pre,post,rfl⟩:=List.append_of_mem hxm
   refine qV hcall hreg k1 k2 h1 hk ho hd k3 k4 fun a' w' φ' st'=>?_
   refine ih _ (pre++x::post) r' Ai fr'' h'' φ' a' w' hsz' k1 (by rw[hL];exact k2.up k1 hxm hk ho hd) k3 (by rw[hL];exact st') ?_
   rw[hL]
   have h2:=todo_up (L:=fun i=>listed.getD i true) h1 (pre++x::post) hxm
   omega
end
theorem Gh:∀(n:Nat) (l:List Nat),l.Nodup→(∀i∈l,i<n)→l.length≤n
 |0,l,_,h=>by
  cases l with
  |nil=>exact Rl
  |cons a l=>exact absurd (h a (by simp)) (by omega)
 |n+1,l,hn,h=>by
  have h1:=Gh n (l.erase n) (hn.erase n) fun i hi=>by
   have h2:=h i (List.mem_of_mem_erase hi)
   have h3:i≠n:=by rintro rfl;exact hn.not_mem_erase hi
   omega
  have h2:l.length≤(l.erase n).length+1:=by rw[List.length_erase];split<;>omega
  omega
theorem J6:∀(vs:List An),Qs vs=true→∀(i j:Nat) x y k,vs[i]?=some x→vs[j]?=some y→i<j→x.dst=some k→y.dst≠some k
 |[],_,i,j,x,y,k,h,_,_,_=>by simp at h
 |o::l,hd,i,j,x,y,k,hi,hj,hij,hx=>by
  simp only[Qs,Bool.and_eq_true] at hd
  cases j with
  |zero=>omega
  |succ j=>
   simp only[List.getElem?_cons_succ] at hj
   cases i with
   |zero=>
    simp only[List.getElem?_cons_zero,Sj] at hi
    subst hi
    have:=hd.1
    rw[hx] at this
    have:=List.all_eq_true.1 this y (List.mem_of_getElem? hj)
    simpa using this
   |succ i=>
    simp only[List.getElem?_cons_succ] at hi
    exact J6 l hd.2 i j x y k hi hj (by omega) hx
theorem aO {ms:List Nat} {vs:List An}:∀(is:List Nat),uC ms vs is=true→is.Pairwise fun i j=>i≠j∧before ms j i=false∧(lM vs j=true→before ms i j=true)
 |[],_=>.nil
 |i::l,h=>by
  simp only[uC,Bool.and_eq_true,Bool.not_eq_true'] at h
  refine .cons (fun j hj=>?_) (aO l h.2)
  have:=List.all_eq_true.1 h.1.2 j hj
  simp only[Bool.and_eq_true,Bool.not_eq_true',Bool.or_eq_true] at this
  refine⟨?_,this.1,fun he=>?_⟩
  ·rintro rfl
   have:=h.1.1
   rw[List.contains_eq_mem] at this
   simp[hj] at this
  ·rcases this.2 with h2|h2
   ·rw[he] at h2;cases h2
   ·exact h2
theorem Pr {ms eff:List Nat} {vs:List An}:∀(is:List Nat) {ds:List DOp},Pd ms eff vs is=some ds→is.length=ds.length ∧
  ∀evs:List Ev,evs.map (·.i)=is→evs.map (·.d)=ds→∀x∈evs,vs[x.i]?=some x.d.o∧x.d.chk=Zu ms eff x.i
 |[],ds,h=>by
  simp only[Pd,Sj] at h
  subst h
  exact⟨rfl,fun evs h1 _ x hx=>by simp at h1;subst h1;cases hx⟩
 |i::l,ds,h=>by
  unfold Pd at h
  split at h
  ·next o ho=>
   split at h
   ·next r hr=>
    cases h
    obtain⟨h1,h2⟩:=Pr l hr
    refine⟨by simp[h1],fun evs e1 e2 x hx=>?_⟩
    cases evs with
    |nil=>cases hx
    |cons y evs=>
     simp only[List.map_cons,List.cons.injEq] at e1 e2
     rcases List.mem_cons.1 hx with rfl|hx
     ·rw[e1.1,e2.1];exact⟨ho,rfl⟩
     ·exact h2 evs e1.2 e2.2 x hx
   ·cases h
  ·cases h
theorem Xl {P:Program} {N:Nat} {ops:Array Oper}:∀(l:List Oper) {vs:List An},Ci P N ops l=some vs→vs.length=l.length∧∀(i:Nat) o,l[i]?=some o→∃vo,vs[i]?=some vo∧Ix P N ops o=some vo
 |[],vs,h=>by simp only[Ci,Sj] at h;subst h;exact⟨rfl,by simp⟩
 |o::l,vs,h=>by
  unfold Ci at h
  split at h
  ·next vo hvo=>
   split at h
   ·next vl hvl=>
    cases h
    obtain⟨h1,h2⟩:=Xl l hvl
    refine⟨by simp[h1],fun i o' ho'=>?_⟩
    cases i with
    |zero=>simp only[List.getElem?_cons_zero,Sj] at ho';subst ho';exact⟨vo,rfl,hvo⟩
    |succ i=>simpa using h2 i o' (by simpa using ho')
   ·cases h
  ·cases h
theorem BC {P:Program} {N:Nat} {ops:Array Oper} {vs:List An} (hv:Ci P N ops ops.toList=some vs) {ord:List Nat} (hok:Y0 (B9 ops.toList) ops.toList vs ord=true) :
  Reg P N ops vs∧(∀i,i<vs.length→i∈ord)∧(ord.Pairwise fun i j=>i≠j∧before (B9 ops.toList) j i=false∧(lM vs j=true→before (B9 ops.toList) i j=true)):=by
 obtain⟨h1,h2⟩:=Xl _ hv
 unfold Y0 at hok
 simp only[Bool.and_eq_true] at hok
 obtain⟨⟨⟨⟨⟨d1,d2⟩,d3⟩,_⟩,d5⟩,d6⟩:=hok
 refine⟨⟨by simpa using h1,fun i o ho=>h2 i o (by simpa using ho),fun j o ho k hk=>?_,fun i j x y k hi hj hne hx=>?_,fun i j x y hi hj hne=>?_⟩,fun i hi=>?_,aO ord d6⟩
 ·have hlt:j<ops.toList.length:=(Gi.1 ho).1
  have:=List.all_eq_true.1 d2 j (List.mem_range.2 hlt)
  simp only[ho] at this
  have:=List.all_eq_true.1 this k hk
  simpa using this
 ·rcases Nat.lt_or_gt_of_ne hne with hlt|hlt
  ·exact J6 vs d1 i j x y k hi hj hlt hx
  ·intro hy
   exact J6 vs d1 j i y x k hj hi hlt hy hx
 ·have li:i<vs.length:=(Gi.1 hi).1
  have lj:j<vs.length:=(Gi.1 hj).1
  have key:∀(i j:Nat) x y,vs[i]?=some x→vs[j]?=some y→i<j→before (B9 ops.toList) i j=true∨before (B9 ops.toList) j i=true∨Zt x y=true:=by
   intro i j x y hi hj hlt
   have li:i<vs.length:=(Gi.1 hi).1
   have lj:j<vs.length:=(Gi.1 hj).1
   have:=List.all_eq_true.1 (List.all_eq_true.1 d3 i (List.mem_range.2 li)) j (List.mem_range.2 lj)
   simp only[Bool.or_eq_true,Nat.ble_eq,AB,hi,hj] at this
   rcases this with h|(h|h)|h
   ·omega
   ·exact .inl h
   ·exact .inr (.inl h)
   ·exact .inr (.inr h)
  rcases Nat.lt_or_gt_of_ne hne with hlt|hlt
  ·exact key i j x y hi hj hlt
  ·rcases key j i y x hj hi hlt with h|h|h
   ·exact .inr (.inl h)
   ·exact .inl h
   ·refine .inr (.inr ?_)
    unfold Zt at h ⊢
    simp only[Bool.and_eq_true] at h ⊢
    exact⟨h.2,h.1⟩
 ·have:=List.all_eq_true.1 d5 i (List.mem_range.2 hi)
  rw[List.contains_eq_mem] at this
  simpa using this
theorem Rz {P:Program} {N:Nat} {ops:Array Oper} {ds:List DOp} (h:H6 P N ops true=some (.drawn ds)) :
  ∃vs ord,Ci P N ops ops.toList=some vs∧Y0 (B9 ops.toList) ops.toList vs ord=true∧Pd (B9 ops.toList) (C8 vs) vs ord=some ds:=by
 unfold H6 at h
 split at h
 ·next vs hvs=>
  simp only[if_true] at h
  split at h
  ·next hok=>
   cases hd:Pd (B9 ops.toList) (C8 vs) vs (Vq (B9 ops.toList) (C8 vs) vs.length) with
   |none=>simp[hd] at h
   |some ds'=>
    simp[hd] at h
    subst h
    exact⟨vs,_,hvs,hok,hd⟩
  ·cases h
 ·cases h
theorem mS {P:Program} (hm:P.follows .mixedOrders=true) {call:Bn} (hcall:Ed P call) (hnice:Cb call) (hkeep:Cy call):iD P call:=by
 intro N id ops ds hds φ fr fr' a h h' w hfr s hcl hr
 obtain⟨vs,ord,hv,hok,hd⟩:=Rz hds
 obtain⟨hreg,hall,hpw⟩:=BC hv hok
 obtain⟨hlen,hspec⟩:=Pr ord hd
 obtain⟨evs,hi,hdd,hrun⟩:=Ef ord ds _ _ _ _ _ _ hlen hr
 have hidx:=hspec evs hi hdd
 obtain⟨hk1,hk2⟩:=mP evs hrun
 rw[hdd] at hk1
 have hsucc:=Db (Az ds) h.next
 have hnone:∀x∈evs,(Array.replicate ops.size false).getD x.i true=false:=fun x hx=>by
  have:x.i<vs.length:=(Gi.1 (hidx x hx).1).1
  rw[hreg.len] at this
  simp[this]
 have hfun:eFr (fun i=>(Array.replicate ops.size false).getD i true) evs fr=fr:=aK evs fr hnone
 have hhun:A8 (fun i=>(Array.replicate ops.size false).getD i true) evs { h with next:=Bt h.next (Az ds) }={ h with next:=Bt h.next (Az ds) }:=aL evs _ hnone
 have hn:({ h with next:=Bt h.next (Az ds) }:Ac).next.toNat=h.next.toNat+Az ds:=hsucc
 refine wp_region_any hm ?_
 refine eY (lo:=h.next) (hi:=Bt h.next (Az ds)) (φ0:=φ) (g0:=h.get) (w0:=w) hcall hnice hkeep hreg (fun a' w' φ' f1 s1 e1=>⟨trivial,φ',s1,e1,f1⟩) ops.size (Array.replicate ops.size false) evs h.next [] fr { h with next:=Bt h.next (Az ds) } φ a { w with drawn:=w.drawn+1 } (by simp) ?_ ?_ hrun ?_ ?_
 ·refine⟨hidx,?_,?_,hk2,fun x hx k b ha=>?_,Rl,aJ hcl (by omega)⟩
  ·rw[←hi,List.pairwise_map] at hpw
   refine List.Pairwise.imp_of_mem (fun{x y} hx hy hxy=>?_) hpw
   refine⟨hxy.1,hxy.2.1,fun he=>hxy.2.2 ?_⟩
   unfold lM
   rw[(hidx y hy).1]
   simpa using he
  ·have:(C8 vs).filter (fun j=>decide (∀x∈evs,x.i≠j))=[]:=by
    refine List.filter_eq_nil_iff.2 fun j hj=>?_
    obtain⟨o,ho,_⟩:=Ny.1 hj
    have hjm:=hall j (Gi.1 ho).1
    rw[←hi] at hjm
    obtain⟨x,hx,rfl⟩:=List.mem_map.1 hjm
    simp only[decide_eq_true_eq]
    exact fun hh=>hh x hx rfl
   rw[this];simp
  ·obtain⟨e1,e2,e3⟩:=hk1 x hx k b ha
   exact⟨hcl k e1,by rw[hn];exact e2,e1,by omega,e3⟩
 ·refine⟨fun i hi' hn'=>?_,fun x hx hl=>?_,fun j o ho hl=>?_⟩
  ·have hjm:=hall i hi'
   rw[←hi] at hjm
   obtain⟨x,hx,hxi⟩:=List.mem_map.1 hjm
   exact absurd hxi (hn' x hx)
  ·have:=hnone x hx
   rw[this] at hl;cases hl
  ·have hlt:j<ops.size:=by simpa using(Gi.1 ho).1
   simp[hlt] at hl
 ·refine⟨by rw[hfun];exact hfr,by rw[hhun];exact(s.up (by omega)).congr rfl,?_,fun x hx _ k b ha=>s.fresh k (hk1 x hx k b ha).1⟩
  rw[hhun,hn]
  refine⟨Le.refl φ,fun b hb _=>hb,by omega,Rl,fun r o hr _=>hr,fun b x l h1 h2 h3 _=>⟨b,x,l,h1,h2,h3,rfl⟩,fun b l h1 h2 _=>(by rw[h1] at h2;cases h2),rfl,rfl⟩
 ·unfold todo
  refine Nat.le_trans (List.length_filter_le _ _) ?_
  have h1:evs.length=ord.length:=by rw[←hi];simp
  have h2:ord.Nodup:=hpw.imp fun h=>h.1
  have h3:∀i∈ord,i<ops.size:=fun i him=>by
   rw[←hi] at him
   obtain⟨x,hx,rfl⟩:=List.mem_map.1 him
   rw[←hreg.len]
   exact(Gi.1 (hidx x hx).1).1
  rw[h1]
  exact Gh ops.size ord h2 h3
structure aP (P:Program) (O:Ez):Prop where
 call:Ed P O.caller
 nice:∀f g,O f=some g→∀args,Tz (g args)
 Vy:∀f g,O f=some g→∀args h v h',g args h=some (v,h')→Clean h→Clean h'
theorem aQ {P:Program} (hm:P.follows .mixedOrders=true) {F:A4} (hF:∀f vf,F f=some vf→Fq P f=some vf) {O:Ez} (hO:aP P O):∀n,Ed P (Bo F O (exec F O n)):=by
 have hE:=Ms (F:=F) hO.nice hO.Vy
 have hKC:∀m,Cy (Bo F O (exec F O m)):=fun m=>J3 hO.Vy (hE m)
 have hNC:∀m,Cb (Bo F O (exec F O m)):=fun m=>Nu hO.nice (Mo hO.nice m)
 intro n
 induction n using Nat.strongRecOn with
 |_ n ih=>exact HZ hF (fun m=>Mr (hKC m)) hE hO.call n fun m hlt=>⟨ih m hlt,mS hm (ih m hlt) (hNC m) (hKC m)⟩
end Go.Vm
end
section
noncomputable section
namespace Go.Pv
open Go.Vm
open Go.Vm.Key (kn)
abbrev ZM:=Key→Option Body
abbrev Ren:=Key→Option Key
def InZ (Z:ZM) (b:Key) (o n:Nat) (f:Nat→SV):Prop:=
 n≠0→∃c m,Z b=some (.cells c m)∧o+n≤m∧∀t,t<n→c.get (kn (o+t))=some (f t)
inductive Aj (Z:ZM):PV→SV→Prop where
 |bool (b:Bool):Aj Z (.bool b) (.bool b)
 |int (k:IntKind) (n:Int):Aj Z (.int k n) (.int k n)
 |str (l:List Nat):Aj Z (.str l) (.str l)
 |Eb:Aj Z .Eb .Eb
 |Af:Aj Z .Af .Af
 |Dv:Aj Z .Dv .Dv
 |Fe:Aj Z .Fe .Fe
 |func (f:Nat):Aj Z (.func f [] []) (.func f [] [])
 |lst {es:Nat} {l:List (List PV)} {cap:Option Nat} {b:Key} {o:Nat} {vcap:Option Nat} (f:Nat→SV) (hc:cap=none∨cap=vcap) (hl:∀c,vcap=some c→l.length≤c) (he:∀e∈l,e.length=es)
   (hz:InZ Z b o (l.length*es) f) (h:∀(i:Nat) (e:List PV) (j:Nat) (x:PV),l[i]?=some e→e[j]?=some x→Aj Z x (f (i*es+j))):Aj Z (.lst es l cap) (.slice b o l.length es vcap)
 |rp {l:List PV} {b:Key} {o:Nat} (f:Nat→SV) (hz:InZ Z b o l.length f) (h:∀(j:Nat) (x:PV),l[j]?=some x→Aj Z x (f j)):Aj Z (.rp l) (.ptr b o)
 |mp {ks vs:List PV} {b:Key} (f1 f2:Nat→SV) (hn:vs.length=ks.length) (hz:Z b=some (.map ((List.range ks.length).map fun i=>(.s (f1 i),.s (f2 i))))) (h1:∀(i:Nat) (x:PV),ks[i]?=some x→Aj Z x (f1 i)) (h2:∀(i:Nat) (x:PV),vs[i]?=some x→Aj Z x (f2 i)):Aj Z (.mp ks vs) (.map b)
def aR (p:Ren) (x y:Key×Nat):Prop:=p x.1=some y.1∧x.2=y.2
def B4 (Z:ZM) (p:Ren):PV→SV→Prop
 |.ptr b o,s=>∃b',p b=some b'∧s=.ptr b' o
 |.slice b o len es cap,s=>∃b',p b=some b'∧s=.slice b' o len es cap
 |.map b,s=>∃b',p b=some b'∧s=.map b'
 |.func f fs cs,s=>∃fs' cs',s=.func f fs' cs'∧Aa (aR p) fs fs'∧Aa (aR p) cs cs'
 |.bool b,s=>Aj Z (.bool b) s
 |.int k n,s=>Aj Z (.int k n) s
 |.str l,s=>Aj Z (.str l) s
 |.Eb,s=>Aj Z .Eb s
 |.Af,s=>Aj Z .Af s
 |.Dv,s=>Aj Z .Dv s
 |.Fe,s=>Aj Z .Fe s
 |.lst es l cap,s=>Aj Z (.lst es l cap) s
 |.rp l,s=>Aj Z (.rp l) s
 |.mp ks vs,s=>Aj Z (.mp ks vs) s
def CR (Z:ZM) (p:Ren):PC→CV→Prop
 |.s x,.s y=>B4 Z p x y
 |.agg l,.agg m=>Aa (B4 Z p) l m
 |_,_=>False
def AR (Z:ZM) (p:Ren):PA→AV→Prop
 |.v x,.v y=>CR Z p x y
 |.tup l,.tup m=>Aa (CR Z p) l m
 |_,_=>False
def ZLe (Z Z':ZM):Prop:=∀b c,Z b=some c→Z' b=some c
def PLe (p p':Ren):Prop:=∀k b,p k=some b→p' k=some b
theorem InZ.mono {Z Z':ZM} (hz:ZLe Z Z') {b:Key} {o n:Nat} {f:Nat→SV} (h:InZ Z b o n f):InZ Z' b o n f:=by
 intro hn
 obtain⟨c,m,h1,h2⟩:=h hn
 exact⟨c,m,hz _ _ h1,h2⟩
theorem Aj.mono {Z Z':ZM} (hz:ZLe Z Z') {x:PV} {s:SV} (h:Aj Z x s):Aj Z' x s:=by
 induction h with
 |bool b=>exact .bool b
 |int k n=>exact .int k n
 |str l=>exact .str l
 |Eb=>exact .Eb
 |Af=>exact .Af
 |Dv=>exact .Dv
 |Fe=>exact .Fe
 |func f=>exact .func f
 |lst f hc hl he h1 _ ih=>exact .lst f hc hl he (h1.mono hz) ih
 |rp f h1 _ ih=>exact .rp f (h1.mono hz) ih
 |mp f1 f2 hn h _ _ i1 i2=>exact .mp f1 f2 hn (hz _ _ h) i1 i2
theorem Aj.v {Z:ZM} {p:Ren} {x:PV} {s:SV} (h:Aj Z x s):B4 Z p x s:=by
 cases h with
 |func f=>exact⟨[],[],rfl,.nil,.nil⟩
 |bool b=>exact .bool b
 |int k n=>exact .int k n
 |str l=>exact .str l
 |Eb=>exact .Eb
 |Af=>exact .Af
 |Dv=>exact .Dv
 |Fe=>exact .Fe
 |lst f hc hl he h1 h2=>exact .lst f hc hl he h1 h2
 |rp f h1 h2=>exact .rp f h1 h2
 |mp f1 f2 hn h h1 h2=>exact .mp f1 f2 hn h h1 h2
theorem aR.mono {p p':Ren} (hp:PLe p p') {x y:Key×Nat} (h:aR p x y):aR p' x y:=⟨hp _ _ h.1,h.2⟩
theorem B4.mono {Z Z':ZM} {p p':Ren} (hz:ZLe Z Z') (hp:PLe p p') {x:PV} {s:SV} (h:B4 Z p x s):B4 Z' p' x s:=by
 cases x with
 |ptr b o=>obtain⟨b',e,hs⟩:=h;exact⟨b',hp _ _ e,hs⟩
 |slice b o len es cap=>obtain⟨b',e,hs⟩:=h;exact⟨b',hp _ _ e,hs⟩
 |map b=>obtain⟨b',e,hs⟩:=h;exact⟨b',hp _ _ e,hs⟩
 |func f fs cs=>
  obtain⟨fs',cs',e,h1,h2⟩:=h
  exact⟨fs',cs',e,Ak h1 fun _ _=>aR.mono hp,Ak h2 fun _ _=>aR.mono hp⟩
 |_=>exact Aj.mono hz h
theorem CR.mono {Z Z':ZM} {p p':Ren} (hz:ZLe Z Z') (hp:PLe p p') {x:PC} {s:CV} (h:CR Z p x s):CR Z' p' x s:=by
 cases x<;>cases s<;>simp only[CR] at h ⊢
 ·exact h.mono hz hp
 ·exact Ak h fun _ _=>B4.mono hz hp
theorem AR.mono {Z Z':ZM} {p p':Ren} (hz:ZLe Z Z') (hp:PLe p p') {x:PA} {s:AV} (h:AR Z p x s):AR Z' p' x s:=by
 cases x<;>cases s<;>simp only[AR] at h ⊢
 ·exact h.mono hz hp
 ·exact Ak h fun _ _=>CR.mono hz hp
def BR (Z:ZM) (p:Ren):C5→Body→Prop
 |.cells l,.cells c m=>m=l.length∧∀i x,l[i]?=some x→∃s,c.get (kn i)=some s∧B4 Z p x s
 |.map l,.map m=>Aa (fun x y=>CR Z p x.1 y.1∧CR Z p x.2 y.2) l m
 |.iter m n st,.iter m' n' st'=>p m=some m'∧n=n'∧st=st'
 |_,_=>False
theorem BR.mono {Z Z':ZM} {p p':Ren} (hz:ZLe Z Z') (hp:PLe p p') {x:C5} {s:Body} (h:BR Z p x s):BR Z' p' x s:=by
 cases x<;>cases s<;>simp only[BR] at h ⊢
 ·exact⟨h.1,fun i x hx=>by obtain⟨s,h1,h2⟩:=h.2 i x hx;exact⟨s,h1,h2.mono hz hp⟩⟩
 ·exact Ak h fun _ _ hh=>⟨hh.1.mono hz hp,hh.2.mono hz hp⟩
 ·exact⟨hp _ _ h.1,h.2⟩
structure Sta where
 Z:ZM
 p:Ren
 g:Ab
 h:Ac
def Eg (Z:ZM) (p:Ren) (l m:List Key):Prop:=Aa (fun a a'=>p a=some a') l m∨∃a a',a∈l∧p a=some a'∧Z a'≠none
theorem Eg.mono {Z Z':ZM} {p p':Ren} (hz:ZLe Z Z') (hp:PLe p p') {l m:List Key} (h:Eg Z p l m):Eg Z' p' l m:=by
 rcases h with h|⟨a,a',h1,h2,h3⟩
 ·exact .inl (Ak h fun _ _=>hp _ _)
 ·refine .inr ⟨a,a',h1,hp _ _ h2,fun e=>h3 ?_⟩
  cases hc:Z a' with
  |none=>rfl
  |some c=>rw[hz _ _ hc] at e;cases e
theorem Eg.nil {Z:ZM} {p:Ren}:Eg Z p [] []:=.inl .nil
theorem Eg.cons {Z:ZM} {p:Ren} {a a':Key} (e:p a=some a') {l m:List Key} (h:Eg Z p l m):Eg Z p (a::l) (a'::m):=by
 rcases h with h|⟨b,b',h1,h2,h3⟩
 ·exact .inl (.cons e h)
 ·exact .inr ⟨b,b',.tail _ h1,h2,h3⟩
theorem Eg.ren {Z:ZM} {p q:Ren} {μ:Key→Option Key} (hq:∀a a',μ a=some a'→q a=p a') {l m n:List Key} (h:Aa (fun a a'=>μ a=some a') l m) (e:Eg Z p m n):Eg Z q l n:=by
 rcases e with e|⟨b,b',h1,h2,h3⟩
 ·left
  induction h generalizing n with
  |nil=>cases e;exact .nil
  |cons a1 _ ih=>cases e with
   |cons a2 a3=>exact .cons (by rw[hq _ _ a1];exact a2) (ih a3)
 ·right
  induction h with
  |nil=>cases h1
  |cons a1 _ ih=>
   rcases List.mem_cons.1 h1 with rfl|h1
   ·exact⟨_,b',.head _,by rw[hq _ _ a1];exact h2,h3⟩
   ·obtain⟨c,c',e1,e2,e3⟩:=ih h1
    exact⟨c,c',.tail _ e1,e2,e3⟩
structure BD (Z:ZM) (p:Ren) (b:Key) (x:Ap) (y:Blk):Prop where
 body:BR Z p x.body y.body
 own:x.own=true→y.own=true∧Eg Z p x.anc y.anc
 N1:x.frz=false→Z b=none
 frz:x.frz=true→Z b=some y.body
structure Cg (s:Sta):Prop where
 inj:∀k k' b,s.p k=some b→s.p k'=some b→k=k'
 blk:∀k x,s.g.get k=some x→∃b y,s.p k=some b∧s.h.get b=some y∧BD s.Z s.p b x y
 z:∀b c,s.Z b=some c→∃y,s.h.get b=some y∧y.body=c
 dead:∀k b,s.p k=some b→s.g.get k=none→s.h.get b=none
structure Room (s:Sta):Prop where
 pk:∀k b,s.p k=some b→k.toNat<s.g.next.toNat∧b.toNat<s.h.next.toNat
 zr:∀b c,s.Z b=some c→b.toNat<s.h.next.toNat
 top:∀b:Key,s.h.next.toNat≤b.toNat→s.h.get b=none
structure Good (s:Sta):Prop extends Cg s,Room s
def Still (new:List (Nat×Nat)) (i:Nat):Prop:=∀q∈new,i<q.1∨q.1+q.2≤i
structure Iu (new:List (Nat×Nat)) (B B':C5) (C C':Body):Prop where
 same:new=[]→B'=B∧C'=C
 kind:∀l',B'=.cells l'→∃l,B=.cells l
 cells:∀l c m,B=.cells l→C=.cells c m→∃l' c',B'=.cells l'∧C'=.cells c' m∧l'.length=l.length∧∀i,Still new i→l'[i]?=l[i]?∧c'.get (kn i)=c.get (kn i)
theorem Iu.refl (B:C5) (C:Body):Iu [] B B C C:=
 ⟨fun _=>⟨rfl,rfl⟩,fun l h=>⟨l,h⟩,fun l c _ h1 h2=>⟨l,c,h1,h2,rfl,fun _ _=>⟨rfl,rfl⟩⟩⟩
theorem Iu.trans {new new':List (Nat×Nat)} {B B' B'':C5} {C C' C'':Body} (h:Iu new B B' C C') (h':Iu new' B' B'' C' C''):Iu (new'++new) B B'' C C'':=by
 refine⟨fun e=>?_,fun l e=>(by obtain⟨l1,e1⟩:=h'.kind l e;exact h.kind l1 e1),fun l c m h1 h2=>?_⟩
 ·simp at e
  obtain⟨a,b⟩:=h.same e.2
  obtain⟨a',b'⟩:=h'.same e.1
  exact⟨a'.trans a,b'.trans b⟩
 ·obtain⟨l1,c1,e1,e2,e3,e4⟩:=h.cells l c m h1 h2
  obtain⟨l2,c2,f1,f2,f3,f4⟩:=h'.cells l1 c1 m e1 e2
  refine⟨l2,c2,f1,f2,f3.trans e3,fun i hi=>?_⟩
  have hi1:Still new i:=fun q hq=>hi q (List.mem_append_right _ hq)
  have hi2:Still new' i:=fun q hq=>hi q (List.mem_append_left _ hq)
  exact⟨(f4 i hi2).1.trans (e4 i hi1).1,(f4 i hi2).2.trans (e4 i hi1).2⟩
structure Ba (lo lov:Nat) (s s':Sta):Prop where
 nx:s.g.next.toNat≤s'.g.next.toNat∧s.h.next.toNat≤s'.h.next.toNat
 zle:ZLe s.Z s'.Z
 ple:PLe s.p s'.p
 I7:∀k b,s'.p k=some b→s.p k=some b∨(lo≤k.toNat∧lov≤b.toNat)
 Fg:∀b c,s'.Z b=some c→s.Z b≠none∨(∃k,s.p k=some b)∨lov≤b.toNat
 frame:∀b,b.toNat<lov→(∀k,s.p k≠some b)→s'.h.get b=s.h.get b
 gone:∀k b,s.p k=some b→s.g.get k=none→s'.g.get k=none
 log:∀k x x',s.g.get k=some x→s'.g.get k=some x'→∃new,x'.log=new++x.log ∧
  ∀b y,s.p k=some b→s.h.get b=some y→∃y',s'.h.get b=some y'∧Iu new x.body x'.body y.body y'.body
theorem Ba.refl (lo lov:Nat) (s:Sta):Ba lo lov s s:=
 ⟨⟨Rl,Rl⟩,fun _ _ h=>h,fun _ _ h=>h,fun _ _ h=>.inl h,fun b c h=>.inl (by rw[h];simp),fun _ _ _=>rfl,fun _ _ _ h=>h,
  fun k x x' h h'=>by rw[h] at h';cases h';exact⟨[],rfl,fun b y _ hy=>⟨y,hy,Iu.refl _ _⟩⟩⟩
theorem Ba.trans {lo lov lo' lov':Nat} {s s' s'':Sta} (hs:Cg s) (h:Ba lo lov s s') (h':Ba lo' lov' s' s'') (h1:lo≤lo') (h2:lov≤lov'):Ba lo lov s s'' where
 nx:=⟨Nat.le_trans h.nx.1 h'.nx.1,Nat.le_trans h.nx.2 h'.nx.2⟩
 zle b c e:=h'.zle b c (h.zle b c e)
 ple k b e:=h'.ple k b (h.ple k b e)
 I7 k b e:=by
  rcases h'.I7 k b e with e|e
  ·exact h.I7 k b e
  ·exact .inr (by omega)
 Fg b c e:=by
  rcases h'.Fg b c e with e|⟨k,e⟩|e
  ·cases hz:s'.Z b with
   |none=>exact absurd hz e
   |some c'=>exact h.Fg b c' hz
  ·rcases h.I7 k b e with e|e
   ·exact .inr (.inl ⟨k,e⟩)
   ·exact .inr (.inr e.2)
  ·exact .inr (.inr (by omega))
 frame b hb hn:=by
  rw[h'.frame b (by omega) fun k e=>?_,h.frame b hb hn]
  rcases h.I7 k b e with e|e
  ·exact hn k e
  ·omega
 gone k b e e':=h'.gone k b (h.ple k b e) (h.gone k b e e')
 log k x x'' hx hx'':=by
  cases hx':s'.g.get k with
  |none=>
   obtain⟨b,_,hb,_⟩:=hs.blk k x hx
   have hb:=h.ple k b hb
   rw[h'.gone k b hb hx'] at hx''
   cases hx''
  |some x'=>
   obtain⟨n1,l1,k1⟩:=h.log k x x' hx hx'
   obtain⟨n2,l2,k2⟩:=h'.log k x' x'' hx' hx''
   refine⟨n2++n1,by rw[l2,l1,List.append_assoc],fun b y hp hy=>?_⟩
   obtain⟨y',e1,e2⟩:=k1 b y hp hy
   obtain⟨y'',f1,f2⟩:=k2 b y' (h.ple k b hp) e1
   exact⟨y'',f1,e2.trans f2⟩
end Go.Pv
end
section
noncomputable section
namespace Go.Pv
open Go.Vm
open Go.Vm.Key (kn)
theorem Cr (h:Ab) (b:Key) (x:Option Ap):(h.upd b x).get=fun k=>if b=k then x else h.get k:=by
 funext k;exact Tr.Av x h.mem b k
theorem Qx (h:Ab) (body:C5) (own:Bool) (anc:List Key):(h.Bs body own anc).get=fun k=>if h.next=k then some ⟨body,own,false,anc,[]⟩ else h.get k:=by
 funext k;exact Tr.Av _ h.mem h.next k
theorem Gu:∀(anc:List Key) (h:Ab) (k:Key),(h.Bb anc).get k=if k∈anc then none else h.get k
 |[],h,k=>by simp[Ab.Bb]
 |b::l,h,k=>by
  rw[Ab.Bb,Gu l,Cr]
  by_cases h1:k∈l
  ·simp[h1]
  ·by_cases h2:b=k
   ·simp[h2]
   ·simp[h1,h2,Ne.symm h2]
theorem H9:∀(anc:List Key) (h:Ab),(h.Bb anc).next=h.next
 |[],_=>rfl
 |_::l,h=>by rw[Ab.Bb,H9 l];rfl
def tab (f:Nat→SV):Nat→List SV
 |0=>[]
 |n+1=>f 0::tab (fun t=>f (t+1)) n
theorem aS:∀(n:Nat) (f:Nat→SV),(tab f n).length=n
 |0,_=>rfl
 |n+1,f=>by simp[tab,aS n]
theorem Vz {c:Tr SV}:∀(n o:Nat) (f:Nat→SV),(∀t,t<n→c.get (kn (o+t))=some (f t))→Jl c o n=some (tab f n)
 |0,_,_,_=>rfl
 |n+1,o,f,h=>by
  have h0:=h 0 (by omega)
  rw[Nat.add_zero] at h0
  simp only[Jl,h0,Vz n (o+1) (fun t=>f (t+1)) (fun t ht=>by rw[←h (t+1) (by omega)];congr 2;omega),tab]
theorem iH {R:PV→SV→Prop}:∀(l:List PV) (f:Nat→SV),(∀j x,l[j]?=some x→R x (f j))→Aa R l (tab f l.length)
 |[],_,_=>.nil
 |x::l,f,h=>.cons (h 0 x rfl) (iH l (fun t=>f (t+1)) fun j y hy=>h (j+1) y (by simpa using hy))
theorem eZ:∀(n:Nat) (f g:Nat→SV),(∀t,t<n→f t=g t)→tab f n=tab g n
 |0,_,_,_=>rfl
 |n+1,f,g,h=>by rw[tab,tab,h 0 (by omega),eZ n _ (fun t=>g (t+1)) fun t ht=>h (t+1) (by omega)]
theorem aT:∀(n m:Nat) (f:Nat→SV),tab f (n+m)=tab f n++tab (fun t=>f (n+t)) m
 |0,m,f=>by simp[tab]
 |n+1,m,f=>by
  rw[show n+1+m=(n+m)+1 from by omega,tab,tab,aT n m,List.cons_append]
  congr 2
  exact eZ _ _ _ fun t _=>by rw[show n+t+1=n+1+t from by omega]
theorem Qy {c:Tr SV} {R:PV→SV→Prop}:∀(l:List PV) (o:Nat),(∀i x,l[i]?=some x→∃s,c.get (kn (o+i))=some s∧R x s)→∃l',Jl c o l.length=some l'∧Aa R l l'
 |[],_,_=>⟨[],rfl,.nil⟩
 |x::l,o,h=>by
  obtain⟨s,h0,hr⟩:=h 0 x rfl
  rw[Nat.add_zero] at h0
  obtain⟨l',h1,h2⟩:=Qy l (o+1) fun i y hy=>by
   obtain⟨t,ht,hr⟩:=h (i+1) y (by simpa using hy)
   exact⟨t,by rw[←ht];congr 2;omega,hr⟩
  exact⟨s::l',by simp only[Jl,List.length_cons,h0,h1],.cons hr h2⟩
variable {s:Sta}
theorem Ps {b:Key} {l:List PV} (e:s.g.cells b=some l):∃own frz anc log,s.g.get b=some ⟨.cells l,own,frz,anc,log⟩:=by
 unfold Ab.cells at e
 split at e
 ·next h=>cases e;exact⟨_,_,_,_,h⟩
 ·cases e
theorem BR.cells {Z:ZM} {p:Ren} {l:List PV} {y:Body} (h:BR Z p (.cells l) y):∃c,y=.cells c l.length∧∀i x,l[i]?=some x→∃s,c.get (kn i)=some s∧B4 Z p x s:=by
 cases y<;>simp only[BR] at h
 obtain⟨rfl,h⟩:=h
 exact⟨_,rfl,h⟩
theorem Cg.cells (hs:Cg s) {b b':Key} (hp:s.p b=some b') {x:Ap} (hx:s.g.get b=some x) {l:List PV} (hl:x.body=.cells l) :
  ∃y c,s.h.get b'=some y∧BD s.Z s.p b' x y∧y.body=.cells c l.length∧∀i v,l[i]?=some v→∃u,c.get (kn i)=some u∧B4 s.Z s.p v u:=by
 obtain⟨b2,y,h1,h2,h3⟩:=hs.blk b x hx
 rw[hp] at h1;cases h1
 have:=h3.body
 rw[hl] at this
 obtain⟨c,h4,h5⟩:=this.cells
 exact⟨y,c,h2,h3,h4,h5⟩
theorem Ic (l:List PV) (o n i:Nat) (x:PV) (h:((l.drop o).take n)[i]?=some x):l[o+i]?=some x∧i<n:=by
 rw[List.getElem?_take] at h
 split at h
 ·next hi=>rw[List.getElem?_drop] at h;exact⟨h,hi⟩
 ·cases h
theorem Pt (hs:Cg s) {b b':Key} (hp:s.p b=some b') {o n:Nat} {l:List PV} (e:s.g.read b o n=some l):∃l',s.h.read b' o n=some l'∧Aa (B4 s.Z s.p) l l':=by
 unfold Ab.read at e
 split at e
 ·next h0=>cases e;exact⟨[],by simp[Ac.read,h0],.nil⟩
 ·next h0=>
  split at e
  ·next c hc=>
   split at e
   ·next hle=>
    cases e
    obtain⟨own,frz,anc,log,hx⟩:=Ps hc
    obtain⟨y,d,h1,_,h2,h3⟩:=hs.cells hp hx rfl
    have hlen:((c.drop o).take n).length=n:=by simp;omega
    obtain⟨l',h4,h5⟩:=Qy (c:=d) (R:=B4 s.Z s.p) ((c.drop o).take n) o fun i x hi=>by
     obtain⟨h,_⟩:=Ic c o n i x hi
     exact h3 _ _ h
    rw[hlen] at h4
    refine⟨l',?_,h5⟩
    have:s.h.cells b'=some (d,c.length):=by
     unfold Ac.cells
     obtain⟨body,own',anc'⟩:=y
     simp only at h2
     subst h2
     rw[h1]
    simp[Ac.read,h0,this,hle,h4]
   ·cases e
  ·cases e
theorem uN (hs:Cg s) {b:Key} {c:Tr SV} {m:Nat} (hz:s.Z b=some (.cells c m)):s.h.cells b=some (c,m):=by
 obtain⟨⟨body,own,anc⟩,h1,h2⟩:=hs.z b _ hz
 simp only at h2
 subst h2
 simp[Ac.cells,h1]
theorem qW (hs:Cg s) {b:Key} {o n:Nat} {f:Nat→SV} (hz:InZ s.Z b o n f) (i k:Nat) (hk:i+k≤n):s.h.read b (o+i) k=some (tab (fun t=>f (i+t)) k):=by
 unfold Ac.read
 by_cases h0:k=0
 ·subst h0;simp[tab]
 ·obtain⟨c,m,h1,h2,h3⟩:=hz (by omega)
  rw[if_neg h0,uN hs h1]
  simp only[if_pos (show o+i+k≤m by omega)]
  exact Vz k (o+i) _ fun t ht=>by rw[←h3 (i+t) (by omega)];congr 2;omega
theorem Pu {R:PV→SV→Prop} {es:Nat}:∀(l:List (List PV)) (f:Nat→SV),(∀e∈l,e.length=es)→(∀(i:Nat) e (j:Nat) x,l[i]?=some e→e[j]?=some x→R x (f (i*es+j)))→Aa R l.flatten (tab f (l.length*es))
 |[],f,_,_=>by simp[tab]
 |e::l,f,he,h=>by
  have h1:e.length=es:=he e (by simp)
  have h2:Aa R e (tab f es):=h1▸iH e f fun j x hx=>by have:=h 0 e j x rfl hx;simpa using this
  have h3:=Pu (es:=es) l (fun t=>f (es+t)) (fun e' he'=>he e' (by simp[he'])) fun i e' j x hi hj=>by
   have:=h (i+1) e' j x (by simpa using hi) hj
   rw[show(i+1)*es+j=es+(i*es+j) from by rw[Nat.add_mul];omega] at this
   exact this
  rw[List.flatten_cons,List.length_cons,show(l.length+1)*es=es+l.length*es from by rw[Nat.add_mul];omega,aT]
  exact A0 h2 h3
theorem Aj.eA {Z:ZM} {es:Nat} {l:List (List PV)} {cap:Option Nat} {v:SV} (h:Aj Z (.lst es l cap) v):∃b o vcap f,v=.slice b o l.length es vcap∧(cap=none∨cap=vcap)∧(∀c,vcap=some c→l.length≤c) ∧
  (∀e∈l,e.length=es)∧InZ Z b o (l.length*es) f∧∀(i:Nat) (e:List PV) (j:Nat) (x:PV),l[i]?=some e→e[j]?=some x→Aj Z x (f (i*es+j)):=by
 cases h with
 |lst f hc hl he hz h=>exact⟨_,_,_,f,rfl,hc,hl,he,hz,h⟩
theorem Aj.rp' {Z:ZM} {l:List PV} {v:SV} (h:Aj Z (.rp l) v):∃b o f,v=.ptr b o∧InZ Z b o l.length f∧∀(j:Nat) (x:PV),l[j]?=some x→Aj Z x (f j):=by
 cases h with
 |rp f hz h=>exact⟨_,_,f,rfl,hz,h⟩
theorem Y2 (hs:Cg s) {es:Nat} {x:PV} {v:SV} (hv:B4 s.Z s.p x v) {l:List PV} {n:Nat} (e:Vk s.g es x=some (l,n)):∃l',D4 s.h es v=some (l',n)∧Aa (B4 s.Z s.p) l l':=by
 unfold Vk at e
 split at e
 ·cases e;cases hv;exact⟨[],rfl,.nil⟩
 ·obtain⟨b',hp,rfl⟩:=hv
  split at e
  ·next he=>
   split at e
   ·next l0 hr=>
    cases e
    obtain⟨l',h1,h2⟩:=Pt hs hp hr
    exact⟨l',by simp only[D4,if_pos he,h1],h2⟩
   ·cases e
  ·cases e
 ·split at e
  ·next he=>
   cases e
   subst he
   obtain⟨b,o,vcap,f,rfl,_,_,he,hz,h⟩:=Aj.eA hv
   have:=qW hs hz 0 _ (Nat.le_of_eq (Nat.zero_add _))
   rw[Nat.add_zero] at this
   refine⟨_,by simp only[D4,if_true,this];rfl,?_⟩
   simp only[Nat.zero_add]
   exact Pu _ f he fun i e j x hi hj=>(h i e j x hi hj).v
  ·cases e
 ·split at e
  ·next he=>
   cases e;cases hv
   exact⟨_,by simp only[D4,if_pos he],Lo _ _ _ fun n _=>Aj.int .u8 n⟩
  ·cases e
 ·cases e
def Ren.set (p:Ren) (k b:Key):Ren:=fun j=>if k=j then some b else p j
theorem Ren.A3 (p:Ren) (k b:Key):p.set k b k=some b:=by simp[Ren.set]
theorem Ren.Ca (p:Ren) {k j:Key} (b:Key) (h:k≠j):p.set k b j=p j:=by simp[Ren.set,h]
structure Su (s:Sta) (k b:Key):Prop where
 k:s.p k=none
 z:s.Z b=none
 b:∀j,s.p j≠some b
theorem Su.le {k b:Key} (hf:Su s k b):PLe s.p (s.p.set k b):=by
 intro j c e
 by_cases h:k=j
 ·subst h;rw[hf.k] at e;cases e
 ·rw[Ren.Ca _ _ h];exact e
theorem Good.free (hs:Good s):Su s s.g.next s.h.next:=by
 refine⟨?_,?_,fun j e=>?_⟩
 ·cases h:s.p s.g.next with
  |none=>rfl
  |some b=>have:=(hs.pk _ _ h).1;omega
 ·cases h:s.Z s.h.next with
  |none=>rfl
  |some c=>have:=hs.zr _ _ h;omega
 ·have:=(hs.pk _ _ e).2;omega
def Sta.new (s:Sta) (body:C5) (own:Bool) (anc:List Key) (y:Blk):Sta:=⟨s.Z,s.p.set s.g.next s.h.next,s.g.Bs body own anc,s.h.Bs y⟩
theorem uO (hs:Cg s) (hf:Su s s.g.next s.h.next) {body:C5} {own:Bool} {anc:List Key} {y:Blk} (hb:BR s.Z (s.p.set s.g.next s.h.next) body y.body)
  (ho:own=true→y.own=true∧Eg s.Z s.p anc y.anc):Cg (s.new body own anc y) where
 inj k k' b h1 h2:=by
  simp only[Sta.new] at h1 h2
  by_cases e1:s.g.next=k
  ·subst e1
   rw[Ren.A3] at h1;cases h1
   by_cases e2:s.g.next=k'
   ·exact e2
   ·rw[Ren.Ca _ _ e2] at h2;exact absurd h2 (hf.b _)
  ·rw[Ren.Ca _ _ e1] at h1
   by_cases e2:s.g.next=k'
   ·subst e2
    rw[Ren.A3] at h2;cases h2
    exact absurd h1 (hf.b _)
   ·rw[Ren.Ca _ _ e2] at h2;exact hs.inj k k' b h1 h2
 blk k x hx:=by
  simp only[Sta.new] at hx ⊢
  rw[Qx] at hx
  by_cases e:s.g.next=k
  ·subst e
   simp only[if_true,Sj] at hx
   subst hx
   refine⟨s.h.next,y,Ren.A3 _ _ _,by rw[Cf];simp,hb,fun e=>?_,fun _=>hf.z,fun e=>by cases e⟩
   exact⟨(ho e).1,(ho e).2.mono (fun _ _ h=>h) hf.le⟩
  ·simp only[e,if_false] at hx
   obtain⟨b,z,h1,h2,h3⟩:=hs.blk k x hx
   have hne:s.h.next≠b:=fun e=>hf.b k (e▸h1)
   refine⟨b,z,by rw[Ren.Ca _ _ e];exact h1,by rw[Cf];simp[hne,h2],h3.body.mono (fun _ _ h=>h) hf.le,fun e=>?_,h3.N1,h3.frz⟩
   exact⟨(h3.own e).1,(h3.own e).2.mono (fun _ _ h=>h) hf.le⟩
 z b c h:=by
  simp only[Sta.new] at h ⊢
  have hne:s.h.next≠b:=fun e=>by rw[←e,hf.z] at h;cases h
  rw[Cf];simp only[hne,if_false]
  exact hs.z b c h
 dead k b h1 h2:=by
  simp only[Sta.new] at h1 h2 ⊢
  rw[Qx] at h2
  by_cases e:s.g.next=k
  ·simp[e] at h2
  ·simp only[e,if_false] at h2
   rw[Ren.Ca _ _ e] at h1
   have hne:s.h.next≠b:=fun e=>hf.b k (e▸h1)
   rw[Cf];simp only[hne,if_false]
   exact hs.dead k b h1 h2
theorem BE (hs:Room s) {body:C5} {own:Bool} {anc:List Key} {y:Blk}:Room (s.new body own anc y) where
 pk k b h:=by
  simp only[Sta.new,Ab.Bs,Ac.Bs,Key.toNat_succ] at h ⊢
  by_cases e:s.g.next=k
  ·subst e;rw[Ren.A3] at h;cases h;omega
  ·rw[Ren.Ca _ _ e] at h;have:=hs.pk k b h;omega
 zr b c h:=by
  simp only[Sta.new,Ac.Bs,Key.toNat_succ] at h ⊢
  have:=hs.zr b c h;omega
 top b h:=by
  simp only[Sta.new] at h ⊢
  have h:s.h.next.succ.toNat≤b.toNat:=h
  rw[Key.toNat_succ] at h
  have hne:s.h.next≠b:=by rintro rfl;omega
  rw[Cf];simp only[hne,if_false]
  exact hs.top b (by omega)
theorem uP (hs:Cg s) (hf:Su s s.g.next s.h.next) {body:C5} {own:Bool} {anc:List Key} {y:Blk}:Ba s.g.next.toNat s.h.next.toNat s (s.new body own anc y) where
 nx:=by simp[Sta.new,Ab.Bs,Ac.Bs,Key.toNat_succ]
 zle _ _ h:=h
 ple:=hf.le
 I7 k b h:=by
  simp only[Sta.new] at h
  by_cases e:s.g.next=k
  ·subst e;rw[Ren.A3] at h;cases h;exact .inr ⟨Rl,Rl⟩
  ·rw[Ren.Ca _ _ e] at h;exact .inl h
 Fg b c h:=.inl (by simp only[Sta.new] at h;rw[h];simp)
 frame b hb _:=by
  simp only[Sta.new]
  have hne:s.h.next≠b:=by rintro rfl;omega
  rw[Cf];simp[hne]
 gone k b h1 h2:=by
  simp only[Sta.new]
  have hne:s.g.next≠k:=by rintro rfl;rw[hf.k] at h1;cases h1
  rw[Qx];simp[hne,h2]
 log k x x' h1 h2:=by
  simp only[Sta.new] at h2 ⊢
  obtain⟨b,y0,h3,h4,_⟩:=hs.blk k x h1
  have hne:s.g.next≠k:=by rintro rfl;rw[hf.k] at h3;cases h3
  rw[Qx] at h2
  simp only[hne,if_false,h1,Sj] at h2
  subst h2
  refine⟨[],rfl,fun b y1 hb hy=>⟨y1,?_,Iu.refl _ _⟩⟩
  have hne':s.h.next≠b:=fun e=>hf.b k (e▸hb)
  rw[Cf];simp[hne',hy]
theorem Io (hs:Good s) {body:C5} {own:Bool} {anc:List Key} {y:Blk} (hb:BR s.Z (s.p.set s.g.next s.h.next) body y.body)
  (ho:own=true→y.own=true∧Eg s.Z s.p anc y.anc):Good (s.new body own anc y)∧Ba s.g.next.toNat s.h.next.toNat s (s.new body own anc y):=
 ⟨⟨uO hs.toCg hs.free hb ho,BE hs.toRoom⟩,uP hs.toCg hs.free⟩
theorem BR.list {Z:ZM} {p:Ren} {l:List PV} {l':List SV} (h:Aa (B4 Z p) l l'):BR Z p (.cells l) (Body.ofList l'):=by
 refine⟨(Ah h).symm,fun i x hx=>?_⟩
 obtain⟨v,h1,h2⟩:=Ax h i hx
 refine⟨v,?_,h2⟩
 rw[Tr.B0,if_pos ⟨by omega,by rw[Nat.zero_add];exact(Gi.1 h1).1⟩]
 simpa using h1
theorem Sv {g:Ab}:∀{l:List Key},g.Sn l=false→∀k∈l,∀x,g.get k=some x→x.frz=false
 |[],_,_,hk=>by cases hk
 |b::l,h,k,hk=>by
  intro x hx
  simp only[Ab.Sn,Bool.or_eq_false_iff] at h
  rcases List.mem_cons.1 hk with rfl|hk
  ·rw[hx] at h;exact h.1
  ·exact Sv h.2 k hk x hx
theorem Fu {α β:Type} {R:α→β→Prop} {l:List α} {m:List β} (h:Aa R l m):∀b∈m,∃a∈l,R a b:=by
 induction h with
 |nil=>intro b hb;cases hb
 |cons h _ ih=>
  intro b hb
  rcases List.mem_cons.1 hb with rfl|hb
  ·exact⟨_,by simp,h⟩
  ·obtain⟨a,h1,h2⟩:=ih b hb;exact⟨a,by simp[h1],h2⟩
theorem V0 {α β:Type} {R:α→β→Prop} {l:List α} {m:List β} (h:Aa R l m):∀a∈l,∃b∈m,R a b:=by
 induction h with
 |nil=>intro b hb;cases hb
 |cons h _ ih=>
  intro b hb
  rcases List.mem_cons.1 hb with rfl|hb
  ·exact⟨_,by simp,h⟩
  ·obtain⟨a,h1,h2⟩:=ih b hb;exact⟨a,by simp[h1],h2⟩
theorem Eg.all (hs:Cg s) {l m:List Key} (h:Eg s.Z s.p l m) (hn:s.g.Sn l=false):Aa (fun a a'=>s.p a=some a') l m:=by
 rcases h with h|⟨a,a',h1,h2,h3⟩
 ·exact h
 ·cases hz:s.Z a' with
  |none=>exact absurd hz h3
  |some c=>
   obtain⟨y,hy,_⟩:=hs.z _ _ hz
   cases hg:s.g.get a with
   |none=>rw[hs.dead a a' h2 hg] at hy;cases hy
   |some x=>
    obtain⟨b,z,e1,_,e3⟩:=hs.blk a x hg
    rw[h2] at e1;cases e1
    exact absurd (e3.N1 (Sv hn a h1 x hg)) h3
theorem aU (hs:Cg s) {anc:List Key} {anc':List Key} (ha:Aa (fun a a'=>s.p a=some a') anc anc') (hn:s.g.Sn anc=false) {b b':Key} (hp:s.p b=some b') (hzb:s.Z b'=none)
  {x':Option Ap} {y':Option Blk} (hxy:match x' with
   |some x=>∃y,y'=some y∧BR s.Z s.p x.body y.body∧y.own=true∧y.anc=[]∧x.anc=[]∧x.frz=false
   |none=>y'=none) :
  Cg ⟨s.Z,s.p,(s.g.Bb anc).upd b x',(s.h.Bb anc').upd b' y'⟩ where
 inj:=hs.inj
 blk k x hx:=by
  simp only at hx ⊢
  rw[Cr] at hx
  by_cases e:b=k
  ·subst e
   simp only[if_true] at hx
   subst hx
   obtain⟨y,h1,h2,h3,h4,h5,h6⟩:=hxy
   refine⟨b',y,hp,by rw[Av];simp[h1],h2,fun _=>⟨h3,by rw[h4,h5];exact .nil⟩,fun _=>hzb,fun h=>by rw[h6] at h;cases h⟩
  ·simp only[e,if_false] at hx
   rw[Gu] at hx
   split at hx
   ·cases hx
   ·next hk=>
    obtain⟨c,y,h1,h2,h3⟩:=hs.blk k x hx
    have hne:b'≠c:=fun e'=>e (hs.inj b k c (e'▸hp) h1)
    have hnm:c∉anc':=fun hm=>by
     obtain⟨a,h4,h5⟩:=Fu ha c hm
     exact hk (hs.inj a k c h5 h1▸h4)
    exact⟨c,y,h1,by rw[Av];simp[hne,Dt,hnm,h2],h3⟩
 z c body hc:=by
  simp only at hc ⊢
  have hne:b'≠c:=fun e=>by rw[←e,hzb] at hc;cases hc
  have hnm:c∉anc':=fun hm=>by
   obtain⟨a,h4,h5⟩:=Fu ha c hm
   obtain⟨y,h6,_⟩:=hs.z c body hc
   cases hg:s.g.get a with
   |none=>rw[hs.dead a c h5 hg] at h6;cases h6
   |some x=>
    obtain⟨c2,_,h7,_,h8⟩:=hs.blk a x hg
    rw[h5] at h7;cases h7
    rw[h8.N1 (Sv hn a h4 x hg)] at hc;cases hc
  rw[Av];simp only[hne,if_false,Dt,hnm]
  exact hs.z c body hc
 dead k c h1 h2:=by
  simp only at h1 h2 ⊢
  rw[Cr] at h2
  rw[Av]
  by_cases e:b=k
  ·subst e
   rw[hp] at h1;cases h1
   simp only[if_true] at h2 ⊢
   subst h2
   exact hxy
  ·simp only[e,if_false] at h2
   have hne:b'≠c:=fun e'=>e (hs.inj b k c (e'▸hp) h1)
   simp only[hne,if_false]
   rw[Dt]
   rw[Gu] at h2
   split at h2
   ·next hk=>
    obtain⟨a',h3,h4⟩:=V0 ha k hk
    rw[h1] at h4;cases h4
    simp[h3]
   ·split
    ·rfl
    ·exact hs.dead k c h1 h2
theorem aW (hs:Cg s) {lo lov:Nat} {anc:List Key} {anc':List Key} (ha:Aa (fun a a'=>s.p a=some a') anc anc') {b b':Key} (hp:s.p b=some b')
  {x':Option Ap} {y':Option Blk} (hx:∃x,s.g.get b=some x)
  (hlog:∀x x1,s.g.get b=some x→x'=some x1→∃new,x1.log=new++x.log∧∀y,s.h.get b'=some y→∃y1,y'=some y1∧Iu new x.body x1.body y.body y1.body) :
  Ba lo lov s ⟨s.Z,s.p,(s.g.Bb anc).upd b x',(s.h.Bb anc').upd b' y'⟩ where
 nx:=by simp[Ab.upd,Ac.upd,H9,Bv]
 zle _ _ h:=h
 ple _ _ h:=h
 I7 _ _ h:=.inl h
 Fg b c h:=.inl (by simp only at h;rw[h];simp)
 frame c hc hn:=by
  simp only
  have hne:b'≠c:=fun e=>hn b (e▸hp)
  have hnm:c∉anc':=fun hm=>by
   obtain⟨a,_,h5⟩:=Fu ha c hm
   exact hn a h5
  rw[Av];simp[hne,Dt,hnm]
 gone k c h1 h2:=by
  simp only
  rw[Cr]
  by_cases e:b=k
  ·subst e;obtain⟨x,hx⟩:=hx;rw[hx] at h2;cases h2
  ·simp only[e,if_false];rw[Gu];split
   ·rfl
   ·exact h2
 log k x x1 h1 h2:=by
  simp only at h2 ⊢
  rw[Cr] at h2
  by_cases e:b=k
  ·subst e
   simp only[if_true] at h2
   obtain⟨new,h3,h4⟩:=hlog x x1 h1 h2
   refine⟨new,h3,fun c y hc hy=>?_⟩
   rw[hp] at hc;cases hc
   obtain⟨y1,h5,h6⟩:=h4 y hy
   exact⟨y1,by rw[Av];simp[h5],h6⟩
  ·simp only[e,if_false] at h2
   rw[Gu] at h2
   split at h2
   ·cases h2
   ·next hk=>
    rw[h1] at h2;cases h2
    refine⟨[],rfl,fun c y hc hy=>⟨y,?_,Iu.refl _ _⟩⟩
    have hne:b'≠c:=fun e'=>e (hs.inj b k c (e'▸hp) hc)
    have hnm:c∉anc':=fun hm=>by
     obtain⟨a,h4,h5⟩:=Fu ha c hm
     exact hk (hs.inj a k c h5 hc▸h4)
    rw[Av];simp[hne,Dt,hnm,hy]
theorem V5 (hs:Room s) {anc anc':List Key} {b b':Key} (hp:s.p b=some b') {x':Option Ap} {y':Option Blk}:Room ⟨s.Z,s.p,(s.g.Bb anc).upd b x',(s.h.Bb anc').upd b' y'⟩:=by
 refine⟨fun k c h=>?_,fun c body h=>?_,fun c h=>?_⟩
 ·have:=hs.pk k c h
  simpa[Ab.upd,Ac.upd,H9,Bv] using this
 ·have:=hs.zr c body h
  simpa[Ac.upd,Bv] using this
 ·have h:s.h.next.toNat≤c.toNat:=by simpa[Ac.upd,Bv] using h
  have hlt:=(hs.pk b b' hp).2
  have hne:b'≠c:=by rintro rfl;omega
  simp only
  rw[Av];simp only[hne,if_false]
  rw[Dt];split
  ·rfl
  ·exact hs.top c h
theorem Xm {c:List PV} {o:Nat} {l:List PV} (h:o+l.length≤c.length):(Ab.over c o l).length=c.length:=by
 simp[Ab.over];omega
theorem mT {c:List PV} {o:Nat} {l:List PV} (h:o+l.length≤c.length) (i:Nat):(Ab.over c o l)[i]?=if o≤i∧i<o+l.length then l[i-o]? else c[i]?:=by
 unfold Ab.over
 rw[List.append_assoc]
 have h0:(c.take o).length=o:=by simp;omega
 by_cases h1:i<o
 ·rw[if_neg (by omega),List.getElem?_append_left (by omega),List.getElem?_take,if_pos h1]
 ·rw[List.getElem?_append_right (by omega),h0]
  by_cases h2:i<o+l.length
  ·rw[if_pos ⟨by omega,h2⟩,List.getElem?_append_left (by omega)]
  ·rw[if_neg (by omega),List.getElem?_append_right (by omega),List.getElem?_drop]
   congr 1;omega
theorem BR.over {Z:ZM} {p:Ren} {c:List PV} {d:Tr SV} {o:Nat} {l:List PV} {l':List SV} (h:o+l.length≤c.length)
  (hd:∀i x,c[i]?=some x→∃s,d.get (kn i)=some s∧B4 Z p x s) (hl:Aa (B4 Z p) l l'):BR Z p (.cells (Ab.over c o l)) (.cells (d.Co o l') c.length):=by
 have hlen:=Ah hl
 refine⟨(Xm h).symm,fun i x hx=>?_⟩
 rw[mT h] at hx
 rw[Tr.B0,←hlen]
 split
 ·next hi=>
  rw[if_pos hi] at hx
  obtain⟨v,h1,h2⟩:=Ax hl _ hx
  exact⟨v,h1,h2⟩
 ·next hi=>rw[if_neg hi] at hx;exact hd i x hx
theorem V6 (hs:Good s) {lo lov:Nat} {b b':Key} (hp:s.p b=some b') {o:Nat} {l:List PV} {l':List SV} (hl:Aa (B4 s.Z s.p) l l') {g':Ab} (e:s.g.write b o l=some g') :
  ∃h',s.h.write b' o l'=some h'∧Good ⟨s.Z,s.p,g',h'⟩∧Ba lo lov s ⟨s.Z,s.p,g',h'⟩:=by
 unfold Ab.write at e
 split at e
 ·next c anc log hx=>
  split at e
  ·next hc=>
   cases e
   obtain⟨hc,hn⟩:=hc
   obtain⟨⟨body,own,anc'⟩,d,h1,h2,h3,h4⟩:=hs.cells hp hx rfl
   simp only at h3
   obtain⟨ho,ha⟩:=h2.own rfl
   simp only at ho ha
   replace ha:=ha.all hs.toCg hn
   subst h3;subst ho
   have hlen:=Ah hl
   refine⟨_,by simp only[Ac.write,h1];rw[if_pos (by omega)],?_,?_⟩
   ·exact⟨aU hs.toCg ha hn hp (h2.N1 rfl) ⟨_,rfl,BR.over hc h4 hl,rfl,rfl,rfl,rfl⟩,V5 hs.toRoom hp⟩
   ·refine aW hs.toCg ha hp ⟨_,hx⟩ fun x x1 hx0 hx1=>?_
    rw[hx] at hx0;cases hx0;cases hx1
    refine⟨[(o,l.length)],rfl,fun y hy=>?_⟩
    rw[h1] at hy;cases hy
    refine⟨_,rfl,fun h=>(by cases h),fun _ _=>⟨c,rfl⟩,fun l0 c0 m e1 e2=>?_⟩
    cases e1;cases e2
    refine⟨_,_,rfl,rfl,Xm hc,fun i hi=>?_⟩
    have:=hi (o,l.length) (by simp)
    simp only at this
    rw[mT hc,if_neg (by omega),Tr.B0,if_neg (by omega)]
    exact⟨rfl,rfl⟩
  ·cases e
 ·cases e
theorem aX {Z:ZM} {p:Ren} {c:List PV} {d:Tr SV} (hd:∀i x,c[i]?=some x→∃s,d.get (kn i)=some s∧B4 Z p x s) {o k:Nat} {new:List PV} {new':List SV} (hl:Aa (B4 Z p) new new')
  {body:C5} (e:Ab.copied c o k new=some body):o+k≤c.length∧∃body',Ac.copied d c.length o k new'=some body'∧BR Z p body body':=by
 unfold Ab.copied at e
 split at e
 ·next hle=>
  cases e
  refine⟨hle,?_⟩
  have hlen:=Ah hl
  have htl:((c.drop o).take k).length=k:=by simp;omega
  have hex:∃body',Ac.copied d c.length o k new'=some body':=by
   unfold Ac.copied
   rw[if_pos hle]
   split
   ·exact⟨_,rfl⟩
   ·obtain⟨l',h1,_⟩:=Qy (c:=d) (R:=B4 Z p) ((c.drop o).take k) o fun i x hi=>by
     obtain⟨h,_⟩:=Ic c o k i x hi
     exact hd _ _ h
    rw[htl] at h1
    rw[h1];exact⟨_,rfl⟩
  obtain⟨body',hb⟩:=hex
  refine⟨body',hb,?_⟩
  obtain⟨_,c',rfl,h2,h3⟩:=Ik hb
  refine⟨by simp only[La,htl,hlen],fun i x hx=>?_⟩
  by_cases hi:i<k
  ·rw[List.getElem?_append_left (by omega)] at hx
   rw[h2 i hi]
   exact hd _ _ (Ic c o k i x hx).1
  ·rw[List.getElem?_append_right (by omega),htl] at hx
   obtain⟨v,h4,h5⟩:=Ax hl _ hx
   have:i-k<new'.length:=(Gi.1 h4).1
   refine⟨v,?_,h5⟩
   rw[←h4,←h3 (i-k) this];congr 2;omega
 ·cases e
theorem xX (hs:Good s) {b b':Key} (hp:s.p b=some b') {o k:Nat} {new:List PV} {new':List SV} (hl:Aa (B4 s.Z s.p) new new') {c:Key} {g':Ab} (e:s.g.renew b o k new=some (c,g')) :
  ∃h' p',s.h.renew b' o k new'=some (s.h.next,h')∧c=s.g.next∧Good ⟨s.Z,p',g',h'⟩∧Ba s.g.next.toNat s.h.next.toNat s ⟨s.Z,p',g',h'⟩∧p' c=some s.h.next:=by
 unfold Ab.renew at e
 split at e
 ·next h0=>
  cases e
  obtain⟨h1,h2⟩:=Io hs (body:=.cells new) (own:=true) (anc:=[]) (y:=⟨Body.ofList new',true,[]⟩) (BR.list (Ak hl fun _ _ h=>h.mono (fun _ _ h=>h) hs.free.le)) fun _=>⟨rfl,.nil⟩
  exact⟨_,_,by simp[Ac.renew,h0,Ac.new],rfl,h1,h2,Ren.A3 _ _ _⟩
 ·next h0=>
  split at e
  ·next c0 hc=>
   split at e
   ·next body hb=>
    cases e
    obtain⟨own,frz,anc,log,hx⟩:=Ps hc
    obtain⟨⟨body0,own',anc'⟩,d,h1,h2,h3,h4⟩:=hs.cells hp hx rfl
    simp only at h3;subst h3
    obtain⟨_,body',h5,h6⟩:=aX h4 hl hb
    obtain⟨h7,h8⟩:=Io hs (body:=body) (own:=true) (anc:=[]) (y:=⟨body',true,[]⟩) (h6.mono (fun _ _ h=>h) hs.free.le) fun _=>⟨rfl,.nil⟩
    exact⟨_,_,by simp[Ac.renew,h0,Ac.cells,h1,h5,Ac.new],rfl,h7,h8,Ren.A3 _ _ _⟩
   ·cases e
  ·cases e
theorem xY (hs:Cg s) {b b':Key} (hp:s.p b=some b') {x:Ap} {y:Blk} (hx:s.g.get b=some x) (hy:s.h.get b'=some y) :
  Cg ⟨s.Z,s.p,s.g.upd b (some { x with own:=false }),s.h.upd b' (some { y with own:=false })⟩ where
 inj:=hs.inj
 blk k x1 h1:=by
  simp only at h1 ⊢
  rw[Cr] at h1
  by_cases e:b=k
  ·subst e
   simp only[if_true,Sj] at h1
   subst h1
   obtain⟨c,y1,h2,h3,h4⟩:=hs.blk b x hx
   rw[hp] at h2;cases h2
   rw[hy] at h3;cases h3
   exact⟨b',{ y with own:=false },hp,by rw[Av];simp,h4.body,fun h=>(by cases h),h4.N1,h4.frz⟩
  ·simp only[e,if_false] at h1
   obtain⟨c,y1,h2,h3,h4⟩:=hs.blk k x1 h1
   have hne:b'≠c:=fun e'=>e (hs.inj b k c (e'▸hp) h2)
   exact⟨c,y1,h2,by rw[Av];simp[hne,h3],h4⟩
 z c body hc:=by
  simp only at hc ⊢
  obtain⟨y1,h1,h2⟩:=hs.z c body hc
  rw[Av]
  by_cases e:b'=c
  ·subst e;rw[hy] at h1;cases h1;exact⟨{ y with own:=false },by simp,h2⟩
  ·simp only[e,if_false];exact⟨y1,h1,h2⟩
 dead k c h1 h2:=by
  simp only at h1 h2 ⊢
  rw[Cr] at h2
  by_cases e:b=k
  ·simp[e] at h2
  ·simp only[e,if_false] at h2
   have hne:b'≠c:=fun e'=>e (hs.inj b k c (e'▸hp) h1)
   rw[Av];simp only[hne,if_false]
   exact hs.dead k c h1 h2
theorem xZ (hs:Cg s) {lo lov:Nat} {b b':Key} (hp:s.p b=some b') {x:Ap} {y:Blk} (hx:s.g.get b=some x) (hy:s.h.get b'=some y) :
  Ba lo lov s ⟨s.Z,s.p,s.g.upd b (some { x with own:=false }),s.h.upd b' (some { y with own:=false })⟩ where
 nx:=by simp[Ab.upd,Ac.upd]
 zle _ _ h:=h
 ple _ _ h:=h
 I7 _ _ h:=.inl h
 Fg b c h:=.inl (by simp only at h;rw[h];simp)
 frame c hc hn:=by
  simp only
  have hne:b'≠c:=fun e=>hn b (e▸hp)
  rw[Av];simp[hne]
 gone k c h1 h2:=by
  simp only
  rw[Cr]
  by_cases e:b=k
  ·subst e;rw[hx] at h2;cases h2
  ·simp[e,h2]
 log k x0 x1 h1 h2:=by
  simp only at h2 ⊢
  rw[Cr] at h2
  by_cases e:b=k
  ·subst e
   rw[hx] at h1;cases h1
   simp only[if_true,Sj] at h2
   subst h2
   refine⟨[],rfl,fun c y1 hc hy1=>?_⟩
   rw[hp] at hc;cases hc
   rw[hy] at hy1;cases hy1
   exact⟨{ y with own:=false },by rw[Av];simp,Iu.refl _ _⟩
  ·simp only[e,if_false] at h2
   rw[h1] at h2;cases h2
   refine⟨[],rfl,fun c y1 hc hy1=>⟨y1,?_,Iu.refl _ _⟩⟩
   have hne:b'≠c:=fun e'=>e (hs.inj b k c (e'▸hp) hc)
   rw[Av];simp[hne,hy1]
theorem BF (hs:Good s) {b b':Key} (hp:s.p b=some b') {o k:Nat} {new:List PV} {new':List SV} (hl:Aa (B4 s.Z s.p) new new') {c:Key} {g':Ab} (e:s.g.grow b o k new=some (c,g')) :
  ∃h' p',s.h.grow b' o k new'=some (s.h.next,h')∧c=s.g.next∧Good ⟨s.Z,p',g',h'⟩∧Ba s.g.next.toNat s.h.next.toNat s ⟨s.Z,p',g',h'⟩∧p' c=some s.h.next:=by
 unfold Ab.grow at e
 split at e
 ·next c0 frz anc log hx=>
  split at e
  ·next body hb=>
   obtain⟨⟨body0,own',anc'⟩,d,h1,h2,h3,h4⟩:=hs.cells hp hx rfl
   simp only at h3;subst h3
   obtain⟨ho,ha⟩:=h2.own rfl
   simp only at ho ha
   subst ho
   obtain⟨_,body',h5,h6⟩:=aX h4 hl hb
   split at e
   ·next ht=>
    cases e
    have g1:Good ⟨s.Z,s.p,s.g.upd b (some ⟨.cells c0,false,frz,anc,log⟩),s.h.upd b' (some ⟨.cells d c0.length,false,anc'⟩)⟩:=
     ⟨xY hs.toCg hp hx h1,⟨hs.pk,hs.zr,fun c hc=>by
      have hlt:=(hs.pk b b' hp).2
      have hc:s.h.next.toNat≤c.toNat:=hc
      have hne:b'≠c:=by rintro rfl;omega
      simp only
      rw[Av];simp only[hne,if_false]
      exact hs.top c hc⟩⟩
    have g2:=xZ hs.toCg (lo:=s.g.next.toNat) (lov:=s.h.next.toNat) hp hx h1
    obtain⟨h7,h8⟩:=Io g1 (body:=body) (own:=true) (anc:=b::anc) (y:=⟨body',true,b'::anc'⟩) (h6.mono (fun _ _ h=>h) g1.free.le) fun _=>⟨rfl,.cons hp ha⟩
    exact⟨_,_,by simp only[Ac.grow,h1,h5];rw[if_pos ht],rfl,h7,g2.trans hs.toCg h8 (Rl) (Rl),Ren.A3 _ _ _⟩
   ·next ht=>
    split at e
    ·next hf=>
     cases e
     obtain⟨hf,hn⟩:=hf
     replace ha:=ha.all hs.toCg hn
     have g1:Good ⟨s.Z,s.p,(s.g.Bb anc).upd b none,(s.h.Bb anc').upd b' none⟩:=⟨aU hs.toCg ha hn hp (h2.N1 hf) rfl,V5 hs.toRoom hp⟩
     have g2:=aW hs.toCg (lo:=s.g.next.toNat) (lov:=s.h.next.toNat) ha hp (x':=none) (y':=none) ⟨_,hx⟩ fun x x1 _ h=>by cases h
     obtain⟨h7,h8⟩:=Io g1 (body:=body) (own:=true) (anc:=[]) (y:=⟨body',true,[]⟩) (h6.mono (fun _ _ h=>h) g1.free.le) fun _=>⟨rfl,.nil⟩
     have n1:((s.g.Bb anc).upd b none).next=s.g.next:=by simp[Ab.upd,H9]
     have n2:((s.h.Bb anc').upd b' none).next=s.h.next:=by simp[Ac.upd,Bv]
     refine⟨_,_,by simp only[Ac.grow,h1,h5];rw[if_neg ht],rfl,h7,g2.trans hs.toCg h8 ?_ ?_,?_⟩
     ·rw[n1];exact Rl
     ·rw[n2];exact Rl
     ·have:=Ren.A3 s.p ((s.g.Bb anc).upd b none).next ((s.h.Bb anc').upd b' none).next
      rw[n2] at this
      rw[n1] at this ⊢
      rw[n2]
      exact this
    ·cases e
  ·cases e
 ·cases e
end Go.Pv
end
section
noncomputable section
namespace Go.Pv
open Go.Vm
open Go.Vm.Key (kn)
variable {Z:ZM} {p:Ren}
theorem AR.s {x:PV} {y:AV} (h:AR Z p (.v (.s x)) y):∃z,y=.v (.s z)∧B4 Z p x z:=by
 cases y with
 |v y=>cases y with
  |s z=>exact⟨z,rfl,h⟩
  |agg l=>exact absurd h id
 |tup l=>exact absurd h id
theorem AR.agg {x:List PV} {y:AV} (h:AR Z p (.v (.agg x)) y):∃z,y=.v (.agg z)∧Aa (B4 Z p) x z:=by
 cases y with
 |v y=>cases y with
  |s z=>exact absurd h id
  |agg l=>exact⟨l,rfl,h⟩
 |tup l=>exact absurd h id
theorem AR.cv {x:PC} {y:AV} (h:AR Z p (.v x) y):∃z,y=.v z∧CR Z p x z:=by
 cases y with
 |v y=>exact⟨y,rfl,h⟩
 |tup l=>exact absurd h id
theorem AR.SA {x:List PC} {y:AV} (h:AR Z p (.tup x) y):∃z,y=.tup z∧Aa (CR Z p) x z:=by
 cases y with
 |v y=>exact absurd h id
 |tup l=>exact⟨l,rfl,h⟩
theorem CR.cells {x:PC} {y:CV} (h:CR Z p x y):Aa (B4 Z p) x.cells y.cells:=by
 cases x<;>cases y<;>simp only[CR] at h
 ·exact .cons h .nil
 ·exact h
theorem Aa.one {α β:Type} {R:α→β→Prop} {a:α} {m:List β} (h:Aa R [a] m):∃b,m=[b]∧R a b:=by
 cases h with|cons h t=>cases t;exact⟨_,rfl,h⟩
theorem Aa.two {α β:Type} {R:α→β→Prop} {a a':α} {m:List β} (h:Aa R [a,a'] m):∃b b',m=[b,b']∧R a b∧R a' b':=by
 cases h with|cons h t=>obtain⟨_,rfl,h'⟩:=Aa.one t;exact⟨_,_,rfl,h,h'⟩
theorem Aa.three {α β:Type} {R:α→β→Prop} {a a' a'':α} {m:List β} (h:Aa R [a,a',a''] m):∃b b' b'',m=[b,b',b'']∧R a b∧R a' b'∧R a'' b'':=by
 cases h with|cons h t=>obtain⟨_,_,rfl,h',h''⟩:=Aa.two t;exact⟨_,_,_,rfl,h,h',h''⟩
theorem Aj.Pw {k:IntKind} {n:Int} {y:SV} (h:Aj Z (.int k n) y):y=.int k n:=by cases h;rfl
theorem Aj.Ub {b:Bool} {y:SV} (h:Aj Z (.bool b) y):y=.bool b:=by cases h;rfl
theorem Aj.qX {l:List Nat} {y:SV} (h:Aj Z (.str l) y):y=.str l:=by cases h;rfl
theorem Aj.fA {y:SV} (h:Aj Z .Eb y):y=.Eb:=by cases h;rfl
theorem Aj.Oo {y:SV} (h:Aj Z .Af y):y=.Af:=by cases h;rfl
theorem Aj.R0 {y:SV} (h:Aj Z .Dv y):y=.Dv:=by cases h;rfl
theorem Aj.uQ {y:SV} (h:Aj Z .Fe y):y=.Fe:=by cases h;rfl
theorem AR.mkS {x:PV} {z:SV} (h:B4 Z p x z):AR Z p (.v (.s x)) (.v (.s z)):=h
theorem AR.mkG {x:List PV} {z:List SV} (h:Aa (B4 Z p) x z):AR Z p (.v (.agg x)) (.v (.agg z)):=h
theorem AR.mkV {x:PC} {z:CV} (h:CR Z p x z):AR Z p (.v x) (.v z):=h
theorem AR.mkT {x:List PC} {z:List CV} (h:Aa (CR Z p) x z):AR Z p (.tup x) (.tup z):=h
theorem Py {x:SV} {v:PV} (h:Ow x=some v):Aj Z v x:=by
 unfold Ow at h
 split at h<;>cases h<;>constructor
theorem Jd:∀{x:List SV} {v:List PV},Jo x=some v→Aa (B4 Z p) v x
 |[],v,h=>by cases h;exact .nil
 |a::l,v,h=>by
  unfold Jo at h
  split at h
  ·next y hy=>
   split at h
   ·next ys hys=>cases h;exact .cons (Py hy).v (Jd hys)
   ·cases h
  ·cases h
theorem Uc {x:CV} {v:PC} (h:gU x=some v):CR Z p v x:=by
 unfold gU at h
 split at h
 ·split at h
  ·next hy=>cases h;exact(Py hy).v
  ·cases h
 ·split at h
  ·next hy=>cases h;exact Jd hy
  ·cases h
theorem mU {x:AV} {v:PA} (h:wZ x=some v):AR Z p v x:=by
 unfold wZ at h
 split at h
 ·split at h
  ·next hy=>cases h;exact Uc hy
  ·cases h
 ·cases h
theorem toSV_rel {v:PV} {x u:SV} (h:toSV v=some x) (hv:B4 Z p v u):u=x:=by
 unfold toSV at h
 split at h<;>cases h
 ·exact(Aj.Ub hv)
 ·exact(Aj.Pw hv)
 ·exact(Aj.qX hv)
theorem toSVs_rel:∀{v:List PV} {x u:List SV},toSVs v=some x→Aa (B4 Z p) v u→u=x
 |[],x,u,h,hv=>by cases h;cases hv;rfl
 |a::l,x,u,h,hv=>by
  unfold toSVs at h
  cases hv with
  |cons h1 h2=>
  split at h
  ·next y hy=>
   split at h
   ·next ys hys=>cases h;rw[toSV_rel hy h1,toSVs_rel hys h2]
   ·cases h
  ·cases h
theorem toCV_rel {v:PC} {x u:CV} (h:toCV v=some x) (hv:CR Z p v u):u=x:=by
 unfold toCV at h
 split at h
 ·split at h
  ·next hy=>
   cases h
   cases u with
   |s u=>rw[toSV_rel hy hv]
   |agg l=>exact absurd hv id
  ·cases h
 ·split at h
  ·next hy=>
   cases h
   cases u with
   |s u=>exact absurd hv id
   |agg l=>rw[toSVs_rel hy hv]
  ·cases h
def Ga (f:List PA→Ab→PR) (r:List AV→Ac→R):Prop:=∀s:Sta,Cg s→∀(args:List PA) (vs:List AV) (v:PA) (g':Ab),Aa (AR s.Z s.p) args vs→f args s.g=some (v,g') →
 g'=s.g∧∃u,r vs s.h=some (u,s.h)∧AR s.Z s.p v u
theorem SB:Ga HN zW:=by
 intro s hs args vs v g' ha e
 unfold HN at e
 split at e
 ·obtain⟨y,rfl,h⟩:=Aa.one ha
  cases e;exact⟨rfl,_,rfl,h⟩
 ·cases e
theorem OH:Ga tW tS:=by
 intro s hs args vs v g' ha e
 unfold tW at e
 split at e
 ·obtain⟨c,a,b,rfl,h1,h2,h3⟩:=Aa.three ha
  obtain⟨z,rfl,hz⟩:=h1.s
  cases(Aj.Ub hz)
  cases e
  refine⟨rfl,_,rfl,?_⟩
  split<;>assumption
 ·cases e
theorem iI:∀{ps:List (Nat×Nat)} {cs:List PV} {cs':List SV} {xs:List PA} {ys:List AV} {r:List PV},Aa (B4 Z p) cs cs'→Aa (AR Z p) xs ys→Ym cs ps xs=some r →
  ∃r',Ii cs' ps ys=some r'∧Aa (B4 Z p) r r'
 |[],cs,cs',xs,ys,r,hc,hx,e=>by
  cases xs with
  |nil=>cases hx;simp only[Ym,Sj] at e;subst e;exact⟨_,rfl,hc⟩
  |cons x l=>simp[Ym] at e
 |(o,n)::ps,cs,cs',xs,ys,r,hc,hx,e=>by
  cases xs with
  |nil=>simp[Ym] at e
  |cons x l=>
   cases hx with
   |cons h1 h2=>
   cases x with
   |tup _=>simp[Ym] at e
   |v x=>
    obtain⟨y,rfl,hy⟩:=h1.cv
    simp only[Ym] at e
    split at e
    ·next hle=>
     have hl:=Ah hy.cells
     have hl':=Ah hc
     obtain⟨r',h3,h4⟩:=iI (cs':=cs'.take o++y.cells++cs'.drop (o+n)) (by
      unfold Ab.over
      rw[hle.1]
      exact A0 (A0 (Ce _ hc) hy.cells) (B3 _ hc)) h2 e
     refine⟨r',?_,h4⟩
     simp only[Ii]
     rw[if_pos ⟨by omega,by omega⟩]
     exact h3
    ·cases e
theorem IB (zero:List SV) (places:List (Nat×Nat)):Ga (Zp zero places) (Zk zero places):=by
 intro s hs args vs v g' ha e
 unfold Zp at e
 split at e
 ·next z hz=>
  split at e
  ·next cs hcs=>
   cases e
   obtain⟨r',h1,h2⟩:=iI (Jd hz) ha hcs
   exact⟨rfl,_,by simp only[Zk,h1],.mkG h2⟩
  ·cases e
 ·cases e
theorem IC:Ga Lk Fx:=by
 intro s hs args vs v g' ha e
 unfold Lk at e
 split at e
 ·obtain⟨y,rfl,h⟩:=Aa.one ha
  obtain⟨z,rfl,b',hp,rfl⟩:=h.s
  split at e
  ·next x hr=>
   cases e
   obtain⟨l',h1,h2⟩:=Pt hs hp hr
   obtain⟨w,rfl,h3⟩:=Aa.one h2
   exact⟨rfl,_,by simp only[Fx,h1],.mkS h3⟩
  ·cases e
 ·next x l=>
  obtain⟨y,rfl,h⟩:=Aa.one ha
  obtain⟨z,rfl,hz⟩:=h.s
  obtain⟨b,o,f,rfl,h1,h2⟩:=Aj.rp' hz
  cases e
  have:=qW hs h1 0 1 (by simp)
  simp only[Nat.add_zero,tab] at this
  exact⟨rfl,_,by simp only[Fx,this],.mkS (h2 0 _ rfl).v⟩
 ·cases e
theorem BG {l:List PV} {n:Nat} {f:Nat→SV} (hn:n≤l.length) (h:∀(j:Nat) (x:PV),l[j]?=some x→Aj Z x (f j)):Aa (B4 Z p) (l.take n) (tab f n):=by
 have:=iH (R:=B4 Z p) (l.take n) f fun j x hx=>by
  rw[List.getElem?_take] at hx
  split at hx
  ·exact(h j x hx).v
  ·cases hx
 rw[show(l.take n).length=n by simp;omega] at this
 exact this
theorem ID (n:Nat):Ga (Fz n) (Fy n):=by
 intro s hs args vs v g' ha e
 unfold Fz at e
 split at e
 ·obtain⟨y,rfl,h⟩:=Aa.one ha
  obtain⟨z,rfl,b',hp,rfl⟩:=h.s
  split at e
  ·next x hr=>
   cases e
   obtain⟨l',h1,h2⟩:=Pt hs hp hr
   exact⟨rfl,_,by simp only[Fy,h1],.mkG h2⟩
  ·cases e
 ·next l=>
  obtain⟨y,rfl,h⟩:=Aa.one ha
  obtain⟨z,rfl,hz⟩:=h.s
  obtain⟨b,o,f,rfl,h1,h2⟩:=Aj.rp' hz
  split at e
  ·next hn=>
   cases e
   have:=qW hs h1 0 n (by omega)
   simp only[Nat.add_zero,Nat.zero_add] at this
   exact⟨rfl,_,by simp only[Fy,this],.mkG (BG hn h2)⟩
  ·cases e
 ·cases e
theorem BH:Ga Ks Yv:=by
 intro s hs args vs v g' ha e
 unfold Ks at e
 split at e
 ·obtain⟨y,rfl,h⟩:=Aa.one ha
  obtain⟨z,rfl,b',hp,rfl⟩:=h.s
  cases e
  exact⟨rfl,_,rfl,h⟩
 ·obtain⟨y,rfl,h⟩:=Aa.one ha
  obtain⟨z,rfl,hz⟩:=h.s
  obtain⟨b,o,f,rfl,h1,h2⟩:=Aj.rp' hz
  cases e
  exact⟨rfl,_,rfl,h⟩
 ·obtain⟨y,rfl,h⟩:=Aa.one ha
  obtain⟨z,rfl,fs',cs',rfl,h1,h2⟩:=h.s
  cases e
  exact⟨rfl,_,rfl,h⟩
 ·cases e
theorem IE {b:BinOp} {x y v:PV} {x' y':SV} (hx:B4 Z p x x') (hy:B4 Z p y y') (e:Yj b x y=some v):∃r,Ti b x' y'=some r∧B4 Z p v r:=by
 unfold Yj at e
 split at e
 ·cases(Aj.Pw hx);cases(Aj.Pw hy)
  split at e
  ·next r hr=>exact⟨r,by simp only[Ti];exact hr,(Py e).v⟩
  ·cases e
 ·cases(Aj.qX hx);cases(Aj.qX hy)
  split at e
  ·next r hr=>exact⟨r,by simp only[Ti];exact hr,(Py e).v⟩
  ·cases e
 ·cases e
theorem SC (b:BinOp):Ga (Ox b) (zX b):=by
 intro s hs args vs v g' ha e
 unfold Ox at e
 split at e
 ·next x y=>
  obtain⟨x',y',rfl,h1,h2⟩:=Aa.two ha
  obtain⟨x',rfl,h1⟩:=h1.s
  obtain⟨y',rfl,h2⟩:=h2.s
  cases hb:Yj b x y with
  |none=>simp[hb,Dr] at e
  |some w=>
   simp only[hb,Dr,Sj,Pj] at e
   obtain⟨rfl,rfl⟩:=e
   obtain⟨r,h3,h4⟩:=IE h1 h2 hb
   exact⟨rfl,_,by simp only[zX,h3,Dh],.mkS h4⟩
 ·cases e
theorem OI {k:EqK} {x y:PC} {r:Bool} {x' y':CV} (hx:CR Z p x x') (hy:CR Z p y y') (e:eqP k x y=some r):HK k x' y'=some r:=by
 have key:∀{a:PV} {c:CV},CR Z p (.s a) c→∃z,c=.s z∧B4 Z p a z:=by
  intro a c h
  cases c with
  |s z=>exact⟨z,rfl,h⟩
  |agg l=>exact absurd h id
 unfold eqP at e
 split at e
 case h_18 ks a b=>
  cases x' with
  |s _=>exact absurd hx id
  |agg a'=>
   cases y' with
   |s _=>exact absurd hy id
   |agg b'=>
    split at e
    ·next a2 b2 h1 h2=>rw[toSVs_rel h1 hx,toSVs_rel h2 hy];exact e
    ·cases e
 case h_19=>cases e
 all_goals
  obtain⟨x',rfl,hx⟩:=key hx
  obtain⟨y',rfl,hy⟩:=key hy
 case h_1=>cases(Aj.Ub hx);cases(Aj.Ub hy);exact e
 case h_2=>cases(Aj.fA hx);cases(Aj.fA hy);exact e
 case h_3=>cases(Aj.fA hx);obtain⟨_,_,rfl⟩:=hy;exact e
 case h_4=>cases(Aj.fA hy);obtain⟨_,_,rfl⟩:=hx;exact e
 case h_5=>cases(Aj.fA hx);obtain⟨_,_,_,rfl,_⟩:=Aj.rp' hy;exact e
 case h_6=>cases(Aj.fA hy);obtain⟨_,_,_,rfl,_⟩:=Aj.rp' hx;exact e
 case h_7=>cases(Aj.Oo hx);cases(Aj.Oo hy);exact e
 case h_8=>cases(Aj.Oo hx);obtain⟨_,_,rfl⟩:=hy;exact e
 case h_9=>cases(Aj.Oo hy);obtain⟨_,_,rfl⟩:=hx;exact e
 case h_10=>cases(Aj.Oo hx);obtain⟨_,_,_,_,rfl,_⟩:=Aj.eA hy;exact e
 case h_11=>cases(Aj.Oo hy);obtain⟨_,_,_,_,rfl,_⟩:=Aj.eA hx;exact e
 case h_12=>cases(Aj.R0 hx);cases(Aj.R0 hy);exact e
 case h_13=>cases(Aj.R0 hx);obtain⟨_,_,rfl⟩:=hy;exact e
 case h_14=>cases(Aj.R0 hy);obtain⟨_,_,rfl⟩:=hx;exact e
 case h_15=>cases(Aj.uQ hx);cases(Aj.uQ hy);exact e
 case h_16=>cases(Aj.uQ hx);obtain⟨_,_,rfl,_⟩:=hy;exact e
 case h_17=>cases(Aj.uQ hy);obtain⟨_,_,rfl,_⟩:=hx;exact e
theorem VM (neg:Bool) (k:EqK):Ga (pEq neg k) (rEq neg k):=by
 intro s hs args vs v g' ha e
 unfold pEq at e
 split at e
 ·obtain⟨x',y',rfl,h1,h2⟩:=Aa.two ha
  obtain⟨x',rfl,h1⟩:=h1.cv
  obtain⟨y',rfl,h2⟩:=h2.cv
  split at e
  ·next r hr=>
   cases e
   exact⟨rfl,_,by simp only[rEq,OI h1 h2 hr],.mkS (Aj.bool _)⟩
  ·cases e
 ·cases e
theorem VN (u:UnOp):Ga (pUn u) (rUn u):=by
 intro s hs args vs v g' ha e
 unfold pUn at e
 split at e
 ·next x=>
  obtain⟨x',rfl,h1⟩:=Aa.one ha
  obtain⟨x',rfl,h1⟩:=h1.s
  cases hb:unP u x with
  |none=>simp[hb,Dr] at e
  |some w=>
   simp only[hb,Dr,Sj,Pj] at e
   obtain⟨rfl,rfl⟩:=e
   unfold unP at hb
   split at hb
   ·next y hy=>
    split at hb
    ·next r hr=>
     cases toSV_rel hy h1
     exact⟨rfl,_,by simp only[rUn,hr,Dh],.mkS (Py hb).v⟩
    ·cases hb
   ·cases hb
 ·cases e
theorem OJ (k:IntKind):Ga (tX k) (tT k):=by
 intro s hs args vs v g' ha e
 unfold tX at e
 split at e
 ·obtain⟨x',rfl,h1⟩:=Aa.one ha
  obtain⟨x',rfl,h1⟩:=h1.s
  cases(Aj.Pw h1)
  cases e
  exact⟨rfl,_,rfl,.mkS (Aj.int _ _)⟩
 ·cases e
theorem mV:∀{xs:List PA} {ys:List AV} {l:List (Key×Nat)},Aa (AR Z p) xs ys→lG xs=some l→∃l',pX ys=some l'∧Aa (aR p) l l'
 |[],ys,l,h,e=>by cases h;cases e;exact⟨[],rfl,.nil⟩
 |x::xs,ys,l,h,e=>by
  unfold lG at e
  split at e
  ·next h0=>cases h0
  ·next h0=>
   cases h0
   cases h with
   |cons h1 h2=>
   split at e
   ·next r hr=>
    cases e
    obtain⟨z,rfl,b',hp,rfl⟩:=h1.s
    obtain⟨l',h3,h4⟩:=mV h2 hr
    exact⟨(b',_)::l',by simp only[pX,h3],.cons ⟨hp,rfl⟩ h4⟩
   ·cases e
  ·cases e
theorem BI (f n:Nat):Ga (Tm f n) (Tk f n):=by
 intro s hs args vs v g' ha e
 unfold Tm at e
 split at e
 ·next l hl=>
  cases e
  obtain⟨l',h1,h2⟩:=mV ha hl
  exact⟨rfl,_,by simp only[Tk,h1],.mkS ⟨_,_,rfl,Ce _ h2,B3 _ h2⟩⟩
 ·cases e
theorem iJ {b:Bool} {xs:List PA} {ys:List AV} (h:Aa (AR Z p) xs ys) {a:Option Int} {xs':List PA} (e:qB b xs=some (a,xs')):∃ys',Sl b ys=some (a,ys')∧Aa (AR Z p) xs' ys':=by
 unfold qB at e
 split at e
 ·cases e;exact⟨ys,rfl,h⟩
 ·cases e
  cases h with
  |cons h1 h2=>
  obtain⟨z,rfl,hz⟩:=h1.s
  cases(Aj.Pw hz)
  exact⟨_,rfl,h2⟩
 ·cases e
theorem IF {lo hi mx:Bool} {xs:List PA} {ys:List AV} (h:Aa (AR Z p) xs ys) {bs:Option Int×Option Int×Option Int} (e:zY lo hi mx xs=some bs):Tj lo hi mx ys=some bs:=by
 unfold zY at e
 split at e
 ·next a xs1 h1=>
  obtain⟨ys1,h2,h3⟩:=iJ h h1
  split at e
  ·next b xs2 h4=>
   obtain⟨ys2,h5,h6⟩:=iJ h3 h4
   split at e
   ·next c h7=>
    cases e
    obtain⟨ys3,h8,h9⟩:=iJ h6 h7
    cases h9
    simp only[Tj,h2,h5,h8]
   ·cases e
  ·cases e
 ·cases e
theorem qY {x:Option Int} {top d m:Nat} (h:bnd x top d=some m):(x=none∧m=d)∨(∃v,x=some v∧0≤v∧v≤(top:Int)∧m=v.toNat):=by
 unfold bnd at h
 split at h
 ·cases h;exact .inl ⟨rfl,rfl⟩
 ·next v=>
  split at h
  ·next hv=>cases h;exact .inr ⟨v,rfl,hv.1,hv.2,rfl⟩
  ·cases h
theorem BJ (top d:Nat):bnd none top d=some d:=rfl
theorem mW {v:Int} {top:Nat} (d:Nat) (h:0≤v) (h':v≤(top:Int)):bnd (some v) top d=some v.toNat:=by simp[bnd,h,h']
theorem mX {len:Nat} {bs:Option Int×Option Int×Option Int} {i n:Nat} {c0:Option Nat} (e:bounds len none bs=some (i,n,c0)) {vcap:Option Nat} (hv:∀c,vcap=some c→len≤c) :
  i+n≤len∧∃vc,bounds len vcap bs=some (i,n,vc)∧(∀m,bs.2.2=some m→vc=some (m.toNat-i))∧(bs.2.2=none→vc=vcap.map (·-i)):=by
 obtain⟨lo,hi,mx⟩:=bs
 have hge:len≤vcap.getD len:=by
  cases vcap with
  |none=>simp
  |some c=>simpa using hv c rfl
 unfold bounds at e ⊢
 simp only[Option.getD_none,Option.isSome_none,Bool.or_false] at e ⊢
 cases h1:bnd mx len len with
 |none=>simp[h1] at e
 |some m=>
  simp only[h1] at e
  cases h2:bnd hi m len with
  |none=>simp[h2] at e
  |some h=>
   simp only[h2] at e
   cases h3:bnd lo h 0 with
   |none=>simp[h3] at e
   |some l=>
    simp only[h3,Sj,Pj] at e
    obtain⟨rfl,rfl,_⟩:=e
    have hm:=qY h1
    have hh:=qY h2
    have hl:=qY h3
    have hmlen:m≤len:=by
     rcases hm with⟨_,rfl⟩|⟨v,_,h4,h5,rfl⟩
     ·omega
     ·omega
    have hhlen:h≤len:=by
     rcases hh with⟨_,rfl⟩|⟨v,_,h4,h5,rfl⟩
     ·omega
     ·omega
    have hlh:l≤h:=by
     rcases hl with⟨_,rfl⟩|⟨v,_,h4,h5,rfl⟩
     ·omega
     ·omega
    refine⟨by omega,?_⟩
    rcases hm with⟨rfl,rfl⟩|⟨v,rfl,h4,h5,rfl⟩
    ·rw[BJ]
     have:bnd hi (vcap.getD m) m=some h:=by
      rcases hh with⟨rfl,rfl⟩|⟨v,rfl,h4,h5,rfl⟩
      ·rfl
      ·exact mW _ h4 (by omega)
     simp only[this,h3]
     refine⟨_,rfl,fun m hm=>(by cases hm),fun _=>?_⟩
     cases vcap with
     |none=>rfl
     |some c=>simp
    ·rw[mW _ h4 (by omega)]
     simp only[h2,h3]
     refine⟨_,rfl,fun m hm=>?_,fun h=>by cases h⟩
     cases hm
     simp
theorem BK {es:Nat} {l:List (List PV)} {b:Key} {o:Nat} {f:Nat→SV} (he:∀e∈l,e.length=es) (hz:InZ Z b o (l.length*es) f)
  (h:∀(i:Nat) (e:List PV) (j:Nat) (x:PV),l[i]?=some e→e[j]?=some x→Aj Z x (f (i*es+j))) {i n:Nat} (hin:i+n≤l.length) {cap vcap:Option Nat} (hc:cap=none∨cap=vcap) (hl:∀c,vcap=some c→n≤c) :
  Aj Z (.lst es ((l.drop i).take n) cap) (.slice b (o+i*es) n es vcap):=by
 have hlen:((l.drop i).take n).length=n:=by simp;omega
 have:=Aj.lst (Z:=Z) (es:=es) (l:=(l.drop i).take n) (cap:=cap) (b:=b) (o:=o+i*es) (vcap:=vcap) (fun t=>f (i*es+t)) hc (by rw[hlen];exact hl)
  (fun e he'=>he e (List.mem_of_mem_drop (List.mem_of_mem_take he'))) (by
   rw[hlen]
   intro hn
   have hle:(i+n)*es≤l.length*es:=Nat.mul_le_mul_right _ hin
   rw[Nat.add_mul] at hle
   obtain⟨c,m,h1,h2,h3⟩:=hz (by omega)
   refine⟨c,m,h1,by omega,fun t ht=>?_⟩
   rw[←h3 (i*es+t) (by omega)];congr 2;omega) (fun i' e j x hi hj=>by
   rw[List.getElem?_take] at hi
   split at hi
   ·rw[List.getElem?_drop] at hi
    have:=h (i+i') e j x hi hj
    rw[Nat.add_mul,Nat.add_assoc] at this
    exact this
   ·cases hi)
 rw[hlen] at this
 exact this
theorem fB {es:Nat} {x v:PV} {x':SV} {bs:Option Int×Option Int×Option Int} (hx:B4 Z p x x') (e:Jp es x bs=some v):∃r,I3 es x' bs=some r∧B4 Z p v r:=by
 unfold Jp at e
 split at e
 ·cases(Aj.Oo hx)
  split at e
  ·next hb=>cases e;exact⟨.Af,by simp only[I3,hb],Aj.Af⟩
  ·cases e
 ·obtain⟨b',hp,rfl⟩:=hx
  split at e
  ·next he=>
   split at e
   ·next hb=>cases e;exact⟨_,by simp only[I3,if_pos he,hb],b',hp,rfl⟩
   ·cases e
  ·cases e
 ·next l cap=>
  obtain⟨b,o,vcap,f,rfl,hc,hl,he,hz,h⟩:=Aj.eA hx
  split at e
  ·next hes=>
   subst hes
   split at e
   ·next i n c0 hb=>
    split at e
    ·next hcap=>
     cases e
     obtain⟨hin,vc,h1,h2,h3⟩:=mX hb hl
     refine⟨.slice b (o+i*es) n es vc,by simp only[I3,if_true,h1],?_⟩
     apply Aj.v (p:=p)
     have hcc:Nk i cap bs.2.2=none∨Nk i cap bs.2.2=vc:=by
      cases hm:bs.2.2 with
      |some m=>exact .inr (by simp only[Nk];rw[h2 m hm])
      |none=>
       simp only[Nk]
       cases cap with
       |none=>exact .inl rfl
       |some c=>
        refine .inr ?_
        rw[h3 hm]
        rcases hc with hc|hc
        ·cases hc
        ·rw[←hc];rfl
     refine BK he hz h hin hcc fun c hvc=>?_
     rcases hcc with hcc|hcc
     ·cases hm:bs.2.2 with
      |some m=>rw[hm] at hcc;simp[Nk] at hcc
      |none=>
       rw[h3 hm] at hvc
       cases vcap with
       |none=>cases hvc
       |some c'=>simp at hvc;have:=hl c' rfl;omega
     ·rw[hcc,hvc] at hcap
      simpa[Kr] using hcap
    ·cases e
   ·cases e
  ·cases e
 ·cases e
theorem IG (k:SlK) (lo hi mx:Bool):Ga (Vl k lo hi mx) (Li k lo hi mx):=by
 intro s hs args vs v g' ha e
 unfold Vl at e
 split at e
 ·next x xs=>
  cases ha with
  |cons h1 h2=>
  split at e
  ·next bs hbs=>
   have hb:=IF h2 hbs
   split at e
   ·obtain⟨z,rfl,hz⟩:=h1.s
    cases(Aj.qX hz)
    split at e
    ·cases e
    ·next hmx=>
     split at e
     ·next hbo=>cases e;exact⟨rfl,_,by simp only[Li,hb];rw[if_neg hmx];simp only[hbo],.mkS (Aj.str _)⟩
     ·cases e
   ·next es y=>
    obtain⟨z,rfl,hz⟩:=h1.s
    cases hsl:Jp es y bs with
    |none=>simp[hsl,Dr] at e
    |some w=>
     simp only[hsl,Dr,Sj,Pj] at e
     obtain⟨rfl,rfl⟩:=e
     obtain⟨r,h3,h4⟩:=fB hz hsl
     exact⟨rfl,_,by simp only[Li,hb,h3,Dh],.mkS h4⟩
   ·next n es b o=>
    obtain⟨z,rfl,b',hp,rfl⟩:=h1.s
    cases hsl:Jp es (.slice b o n es (some n)) bs with
    |none=>simp[hsl,Dr] at e
    |some w=>
     simp only[hsl,Dr,Sj,Pj] at e
     obtain⟨rfl,rfl⟩:=e
     obtain⟨r,h3,h4⟩:=fB (Z:=s.Z) (p:=s.p) (x':=.slice b' o n es (some n)) (show B4 s.Z s.p (.slice b o n es (some n)) _ from⟨b',hp,rfl⟩) hsl
     exact⟨rfl,_,by simp only[Li,hb,h3,Dh],.mkS h4⟩
   ·cases e
  ·cases e
 ·cases e
theorem uR {l:List PV} {b:Key} {o:Nat} {f:Nat→SV} (hz:InZ Z b o l.length f) (h:∀(j:Nat) (x:PV),l[j]?=some x→Aj Z x (f j)) (n:Nat) (hn:n≤l.length):Aj Z (.rp (l.drop n)) (.ptr b (o+n)):=by
 refine Aj.rp (fun t=>f (n+t)) (fun h0=>?_) fun j x hj=>?_
 ·simp only[List.length_drop] at h0 ⊢
  obtain⟨c,m,h1,h2,h3⟩:=hz (by omega)
  exact⟨c,m,h1,by omega,fun t ht=>by rw[←h3 (n+t) (by omega)];congr 2;omega⟩
 ·rw[List.getElem?_drop] at hj;exact h _ x hj
theorem II (off:Nat):Ga (Sp off) (gT off):=by
 intro s hs args vs v g' ha e
 unfold Sp at e
 split at e
 ·obtain⟨y,rfl,h⟩:=Aa.one ha
  obtain⟨z,rfl,b',hp,rfl⟩:=h.s
  cases e
  exact⟨rfl,_,rfl,.mkS ⟨b',hp,rfl⟩⟩
 ·obtain⟨y,rfl,h⟩:=Aa.one ha
  obtain⟨z,rfl,hz⟩:=h.s
  obtain⟨b,o,f,rfl,h1,h2⟩:=Aj.rp' hz
  split at e
  ·next hn=>cases e;exact⟨rfl,_,rfl,.mkS (uR h1 h2 off hn).v⟩
  ·cases e
 ·cases e
theorem mY {cs:List PV} {cs':List SV} (h:Aa (B4 Z p) cs cs') {o:Nat} {m:Option Nat} {r:PC} (e:W0 cs o m=some r):∃r',Sk cs' o m=some r'∧CR Z p r r':=by
 unfold W0 at e
 split at e
 ·split at e
  ·next x hx=>
   cases e
   obtain⟨y,h1,h2⟩:=Ax h _ hx
   exact⟨.s y,by simp only[Sk,h1],h2⟩
  ·cases e
 ·next n=>
  split at e
  ·next hn=>
   cases e
   have:=Ah h
   exact⟨.agg ((cs'.drop o).take n),by simp only[Sk];rw[if_pos (by omega)],Ce _ (B3 _ h)⟩
  ·cases e
theorem IJ (off:Nat) (n:Option Nat):Ga (Vn off n) (Zn off n):=by
 intro s hs args vs v g' ha e
 unfold Vn at e
 split at e
 ·next cs=>
  obtain⟨y,rfl,h⟩:=Aa.one ha
  obtain⟨z,rfl,hz⟩:=h.agg
  cases hp:W0 cs off n with
  |none=>simp[hp,noP] at e
  |some w=>
   simp only[hp,noP,Sj,Pj] at e
   obtain⟨rfl,rfl⟩:=e
   obtain⟨r,h3,h4⟩:=mY hz hp
   exact⟨rfl,_,by simp only[Zn,h3,Ir],.mkV h4⟩
 ·cases e
theorem OK (n es:Nat):Ga (tY n es) (Zo n es):=by
 intro s hs args vs v g' ha e
 unfold tY at e
 split at e
 ·obtain⟨y,i',rfl,h,hi⟩:=Aa.two ha
  obtain⟨z,rfl,b',hp,rfl⟩:=h.s
  obtain⟨i',rfl,hi⟩:=hi.s
  cases(Aj.Pw hi)
  split at e
  ·next hc=>cases e;exact⟨rfl,_,by simp only[Zo];rw[if_pos hc],.mkS ⟨b',hp,rfl⟩⟩
  ·cases e
 ·obtain⟨y,i',rfl,h,hi⟩:=Aa.two ha
  obtain⟨z,rfl,hz⟩:=h.s
  obtain⟨i',rfl,hi⟩:=hi.s
  cases(Aj.Pw hi)
  obtain⟨b,o,f,rfl,h1,h2⟩:=Aj.rp' hz
  split at e
  ·next hc=>cases e;exact⟨rfl,_,by simp only[Zo];rw[if_pos ⟨hc.1,hc.2.1⟩],.mkS (uR h1 h2 _ hc.2.2).v⟩
  ·cases e
 ·cases e
theorem SD (es:Nat):Ga (gV es) (qA es):=by
 intro s hs args vs v g' ha e
 unfold gV at e
 split at e
 ·obtain⟨y,i',rfl,h,hi⟩:=Aa.two ha
  obtain⟨z,rfl,b',hp,rfl⟩:=h.s
  obtain⟨i',rfl,hi⟩:=hi.s
  cases(Aj.Pw hi)
  split at e
  ·next hc=>cases e;exact⟨rfl,_,by simp only[qA];rw[if_pos hc],.mkS ⟨b',hp,rfl⟩⟩
  ·cases e
 ·next es' l _ k i=>
  obtain⟨y,i',rfl,h,hi⟩:=Aa.two ha
  obtain⟨z,rfl,hz⟩:=h.s
  obtain⟨i',rfl,hi⟩:=hi.s
  cases(Aj.Pw hi)
  obtain⟨b,o,vcap,f,rfl,_,_,he,hz,h⟩:=Aj.eA hz
  split at e
  ·next hc=>
   split at e
   ·next el hel=>
    cases e
    obtain⟨hlt,_⟩:=Gi.1 hel
    obtain⟨hes,h0⟩:=hc
    subst hes
    have hlen:el.length=es:=he el (List.mem_of_getElem? hel)
    refine⟨rfl,_,by simp only[qA,true_and];rw[if_pos ⟨h0,by omega⟩],.mkS (Aj.v ?_)⟩
    refine Aj.rp (fun t=>f (i.toNat*es+t)) (fun hn=>?_) fun j x hj=>h _ _ _ _ hel hj
    rw[hlen] at hn ⊢
    have hle:(i.toNat+1)*es≤l.length*es:=Nat.mul_le_mul_right _ hlt
    rw[Nat.add_mul,Nat.one_mul] at hle
    obtain⟨c,m,h1,h2,h3⟩:=hz (by omega)
    exact⟨c,m,h1,by omega,fun t ht=>by rw[←h3 (i.toNat*es+t) (by omega)];congr 2;omega⟩
   ·cases e
  ·cases e
 ·cases e
theorem SE (n es:Nat) (m:Option Nat):Ga (HO n es m) (wY n es m):=by
 intro s hs args vs v g' ha e
 unfold HO at e
 split at e
 ·next cs _ i=>
  obtain⟨y,i',rfl,h,hi⟩:=Aa.two ha
  obtain⟨z,rfl,hz⟩:=h.agg
  obtain⟨i',rfl,hi⟩:=hi.s
  cases(Aj.Pw hi)
  split at e
  ·next hc=>
   cases hp:W0 cs (i.toNat*es) m with
   |none=>simp[hp,noP] at e
   |some w=>
    simp only[hp,noP,Sj,Pj] at e
    obtain⟨rfl,rfl⟩:=e
    obtain⟨r,h3,h4⟩:=mY hz hp
    exact⟨rfl,_,by simp only[wY];rw[if_pos hc];simp only[h3,Ir],.mkV h4⟩
  ·cases e
 ·cases e
theorem OL:Ga tZ eJ:=by
 intro s hs args vs v g' ha e
 unfold tZ at e
 split at e
 ·obtain⟨y,i',rfl,h,hi⟩:=Aa.two ha
  obtain⟨z,rfl,hz⟩:=h.s
  obtain⟨i',rfl,hi⟩:=hi.s
  cases(Aj.Pw hi);cases(Aj.qX hz)
  split at e
  ·next hc=>
   split at e
   ·next n hn=>cases e;exact⟨rfl,_,by simp only[eJ];rw[if_pos hc];simp only[hn],.mkS (Aj.int _ _)⟩
   ·cases e
  ·cases e
 ·cases e
theorem CR.s' {x:PV} {y:CV} (h:CR Z p (.s x) y):∃z,y=.s z∧B4 Z p x z:=by
 cases y with
 |s z=>exact⟨z,rfl,h⟩
 |agg l=>exact absurd h id
theorem Ud {ks:G7} {k:PC} {k':CV} (h:CR Z p k k'):Em ks k=Fp ks k':=by
 cases k<;>cases k'<;>simp only[CR] at h
 ·cases ks<;>rfl
 ·cases ks
  ·rfl
  ·simp[Em,Fp,Ah h]
theorem Qz {ks:G7} {x y:PC} {x' y':CV} (hx:CR Z p x x') (hy:CR Z p y y') {r:Bool} (e:Ol ks x y=some r):lE ks x' y'=some r:=by
 unfold Ol at e
 split at e
 ·next h1 h2=>rw[toCV_rel h1 hx,toCV_rel h2 hy];exact e
 ·cases e
def Gm (Z:ZM) (p:Ren) (x:PC×PC) (y:CV×CV):Prop:=CR Z p x.1 y.1∧CR Z p x.2 y.2
theorem aY {ks:G7} {k:PC} {k':CV} (hk:CR Z p k k'):∀{l:List (PC×PC)} {m:List (CV×CV)} {r:Option PC},Aa (Gm Z p) l m→O8 ks k l=some r →
  ∃r',O2 ks k' m=some r'∧(match r,r' with|some a,some b=>CR Z p a b|none,none=>True|_,_=>False)
 |[],m,r,h,e=>by cases h;cases e;exact⟨none,rfl,trivial⟩
 |(x,v)::l,m,r,h,e=>by
  cases h with
  |cons h1 h2=>
  rename_i y m
  obtain⟨y,w⟩:=y
  unfold O8 at e
  split at e
  ·next h0=>
   cases e
   exact⟨some w,by simp only[O2,Qz hk h1.1 h0],h1.2⟩
  ·next h0=>
   obtain⟨r',h3,h4⟩:=aY hk h2 e
   exact⟨r',by simp only[O2,Qz hk h1.1 h0,h3],h4⟩
  ·cases e
theorem uS {Z:ZM} {p:Ren}:∀{ks vs:List PV} {f1 f2:Nat→SV},vs.length=ks.length→(∀(i:Nat) (x:PV),ks[i]?=some x→Aj Z x (f1 i))→(∀(i:Nat) (x:PV),vs[i]?=some x→Aj Z x (f2 i)) →
  Aa (Gm Z p) (mpE ks vs) ((List.range ks.length).map fun i=>(.s (f1 i),.s (f2 i)))
 |[],[],_,_,_,_,_=>.nil
 |k::ks,v::vs,f1,f2,hn,h1,h2=>by
  rw[List.length_cons,List.range_succ_eq_map,List.map_cons,List.map_map]
  exact .cons ⟨(h1 0 k rfl).v,(h2 0 v rfl).v⟩ (uS (f1:=fun i=>f1 (i+1)) (f2:=fun i=>f2 (i+1)) (by simpa using hn) (fun i x hx=>h1 (i+1) x (by simpa using hx)) fun i x hx=>h2 (i+1) x (by simpa using hx))
 |[],_::_,_,_,hn,_,_=>by simp at hn
 |_::_,[],_,_,hn,_,_=>by simp at hn
theorem Aj.mp' {Z:ZM} {ks vs:List PV} {v:SV} (h:Aj Z (.mp ks vs) v):∃b lv,v=.map b∧Z b=some (.map lv)∧∀p,Aa (Go.Pv.Gm Z p) (mpE ks vs) lv:=by
 cases h with
 |mp f1 f2 hn hz h1 h2=>exact⟨_,_,rfl,hz,fun p=>uS hn h1 h2⟩
theorem BL (ks:G7) (zero:CV) (ok:Bool):Ga (Es ks zero ok) (Dq ks zero ok):=by
 intro s hs args vs v g' ha e
 unfold Es at e
 split at e
 ·obtain⟨y,k',rfl,h,hk⟩:=Aa.two ha
  obtain⟨z,rfl,hz⟩:=h.s
  cases(Aj.R0 hz)
  obtain⟨k',rfl,hk⟩:=hk.cv
  split at e
  ·next z hz=>
   split at e
   ·next hf=>
    cases e
    have hf':Fp ks k'=true:=by rw[←Ud hk];exact hf
    refine⟨rfl,_,by simp only[Dq];rw[if_pos hf'],?_⟩
    have hz':CR s.Z s.p z zero:=Uc hz
    cases ok
    ·exact hz'
    ·exact .cons hz' (.cons (Aj.bool _) .nil)
   ·cases e
  ·cases e
 ·next b k=>
  obtain⟨y,k',rfl,h,hk⟩:=Aa.two ha
  obtain⟨z,rfl,b',hp,rfl⟩:=h.s
  obtain⟨k',rfl,hk⟩:=hk.cv
  split at e
  ·next z hz=>
   split at e
   ·next hf=>
    split at e
    ·next l own frz anc log hx=>
     split at e
     ·next r hr=>
      cases e
      have hf':Fp ks k'=true:=by rw[←Ud hk];exact hf
      obtain⟨b2,⟨body,own',anc'⟩,h1,h2,h3⟩:=hs.blk _ _ hx
      rw[hp] at h1;cases h1
      have hb:=h3.body
      cases body<;>simp only[BR] at hb
      rename_i m
      obtain⟨r',h4,h5⟩:=aY hk (m:=m) hb hr
      refine⟨rfl,if ok then .tup [r'.getD zero,.s (.bool r'.isSome)] else .v (r'.getD zero),by simp only[Dq];rw[if_pos hf'];simp only[h2,h4],?_⟩
      have hz':CR s.Z s.p z zero:=Uc hz
      have hg:CR s.Z s.p (r.getD z) (r'.getD zero):=by
       cases r<;>cases r'<;>first|exact hz'|exact h5|exact absurd h5 id
      have hsome:r.isSome=r'.isSome:=by
       cases r<;>cases r'<;>first|rfl|exact absurd h5 id
      cases ok
      ·exact hg
      ·exact .cons hg (.cons (by rw[hsome];exact Aj.bool _) .nil)
     ·cases e
    ·cases e
   ·cases e
  ·cases e
 ·next a b k=>
  obtain⟨y,k',rfl,h,hk⟩:=Aa.two ha
  obtain⟨z,rfl,hz⟩:=h.s
  obtain⟨b',lv,rfl,hzb,hall⟩:=Aj.mp' hz
  obtain⟨k',rfl,hk⟩:=hk.cv
  obtain⟨⟨body,own',anc'⟩,h2,h3⟩:=hs.z _ _ hzb
  simp only at h3
  subst h3
  split at e
  ·next z hz=>
   split at e
   ·next hf=>
    split at e
    ·next r hr=>
     cases e
     have hf':Fp ks k'=true:=by rw[←Ud hk];exact hf
     obtain⟨r',h4,h5⟩:=aY hk (m:=lv) (hall s.p) hr
     refine⟨rfl,if ok then .tup [r'.getD zero,.s (.bool r'.isSome)] else .v (r'.getD zero),by simp only[Dq];rw[if_pos hf'];simp only[h2,h4],?_⟩
     have hz':CR s.Z s.p z zero:=Uc hz
     have hg:CR s.Z s.p (r.getD z) (r'.getD zero):=by
      cases r<;>cases r'<;>first|exact hz'|exact h5|exact absurd h5 id
     have hsome:r.isSome=r'.isSome:=by
      cases r<;>cases r'<;>first|rfl|exact absurd h5 id
     cases ok
     ·exact hg
     ·exact .cons hg (.cons (by rw[hsome];exact Aj.bool _) .nil)
    ·cases e
   ·cases e
  ·cases e
 ·cases e
theorem yA (i:Nat):Ga (Jq i) (O4 i):=by
 intro s hs args vs v g' ha e
 unfold Jq at e
 split at e
 ·next xs=>
  obtain⟨y,rfl,h⟩:=Aa.one ha
  obtain⟨z,rfl,hz⟩:=h.SA
  cases hx:xs[i]? with
  |none=>simp[hx,noP] at e
  |some w=>
   simp only[hx,noP,Sj,Pj] at e
   obtain⟨rfl,rfl⟩:=e
   obtain⟨u,h1,h2⟩:=Ax hz i hx
   exact⟨rfl,_,by simp only[O4,h1,Ir],.mkV h2⟩
 ·cases e
theorem OM:Ga lH tU:=by
 intro s hs args vs v g' ha e
 unfold lH at e
 split at e
 ·obtain⟨y,rfl,h⟩:=Aa.one ha
  obtain⟨z,rfl,b',hp,rfl⟩:=h.s
  cases e;exact⟨rfl,_,rfl,.mkS (Aj.int _ _)⟩
 ·obtain⟨y,rfl,h⟩:=Aa.one ha
  obtain⟨z,rfl,hz⟩:=h.s
  obtain⟨_,_,_,_,rfl,_⟩:=Aj.eA hz
  cases e;exact⟨rfl,_,rfl,.mkS (Aj.int _ _)⟩
 ·obtain⟨y,rfl,h⟩:=Aa.one ha
  obtain⟨z,rfl,hz⟩:=h.s
  cases(Aj.Oo hz)
  cases e;exact⟨rfl,_,rfl,.mkS (Aj.int _ _)⟩
 ·cases e
theorem BM:Ga Yy Yw:=by
 intro s hs args vs v g' ha e
 unfold Yy at e
 split at e
 ·obtain⟨y,rfl,h⟩:=Aa.one ha
  obtain⟨z,rfl,hz⟩:=h.s
  cases(Aj.qX hz)
  cases e;exact⟨rfl,_,rfl,.mkS (Aj.int _ _)⟩
 ·cases e
theorem BN (n:Nat):Ga (Yz n) (Yx n):=by
 intro s hs args vs v g' ha e
 unfold Yz at e
 split at e
 ·obtain⟨y,rfl,h⟩:=Aa.one ha
  cases e;exact⟨rfl,_,rfl,.mkS (Aj.int _ _)⟩
 ·cases e
theorem ON:Ga eO O5:=by
 intro s hs args vs v g' ha e
 unfold eO at e
 split at e
 ·obtain⟨y,rfl,h⟩:=Aa.one ha
  obtain⟨z,rfl,hz⟩:=h.s
  cases(Aj.R0 hz)
  cases e;exact⟨rfl,_,rfl,.mkS (Aj.int _ _)⟩
 ·obtain⟨y,rfl,h⟩:=Aa.one ha
  obtain⟨z,rfl,b',hp,rfl⟩:=h.s
  split at e
  ·next l own frz anc log hx=>
   cases e
   obtain⟨b2,⟨body,own',anc'⟩,h1,h2,h3⟩:=hs.blk _ _ hx
   rw[hp] at h1;cases h1
   have hb:=h3.body
   cases body<;>simp only[BR] at hb
   rename_i m
   exact⟨rfl,.v (.s (.int .i64 (m.length:Nat))),by simp only[O5,h2],.mkS (by rw[Ah hb];exact Aj.int _ _)⟩
  ·cases e
 ·cases e
theorem SF:Ga HP HM:=by
 intro s hs args vs v g' ha e
 unfold HP at e
 split at e
 ·obtain⟨y,rfl,h⟩:=Aa.one ha
  obtain⟨z,rfl,b',hp,rfl⟩:=h.s
  cases e;exact⟨rfl,_,rfl,.mkS (Aj.int _ _)⟩
 ·obtain⟨y,rfl,h⟩:=Aa.one ha
  obtain⟨z,rfl,hz⟩:=h.s
  obtain⟨_,_,vcap,_,rfl,hc,_⟩:=Aj.eA hz
  rcases hc with hc|hc
  ·cases hc
  ·subst hc
   cases e;exact⟨rfl,_,rfl,.mkS (Aj.int _ _)⟩
 ·obtain⟨y,rfl,h⟩:=Aa.one ha
  obtain⟨z,rfl,hz⟩:=h.s
  cases(Aj.Oo hz)
  cases e;exact⟨rfl,_,rfl,.mkS (Aj.int _ _)⟩
 ·cases e
theorem aZ {m:Bool} {k:IntKind}:∀{xs:List PA} {ys:List AV} {x:Int} {r:PV},Aa (AR Z p) xs ys→Qq m k x xs=some r→∃r',Jm m k x ys=some r'∧B4 Z p r r'
 |[],ys,x,r,h,e=>by cases h;cases e;exact⟨_,rfl,Aj.int _ _⟩
 |a::xs,ys,x,r,h,e=>by
  unfold Qq at e
  split at e
  ·next h0=>cases h0
  ·next h0=>
   cases h0
   cases h with
   |cons h1 h2=>
   obtain⟨z,rfl,hz⟩:=h1.s
   cases(Aj.Pw hz)
   obtain⟨r',h3,h4⟩:=aZ h2 e
   exact⟨r',by simp only[Jm];exact h3,h4⟩
  ·cases e
theorem BO (m:Bool):Ga (Tn m) (Tl m):=by
 intro s hs args vs v g' ha e
 unfold Tn at e
 split at e
 ·next k x xs=>
  cases ha with
  |cons h1 h2=>
  obtain⟨z,rfl,hz⟩:=h1.s
  cases(Aj.Pw hz)
  cases hm:Qq m k x xs with
  |none=>simp[hm,Dr] at e
  |some w=>
   simp only[hm,Dr,Sj,Pj] at e
   obtain⟨rfl,rfl⟩:=e
   obtain⟨r,h3,h4⟩:=aZ h2 hm
   exact⟨rfl,_,by simp only[Tl,h3,Dh],.mkS h4⟩
 ·cases e
theorem Q0 {o:VOp} (hk:o.kind=.quiet):Ga (opP o) o.run:=by
 cases o<;>(first
  |(simp[VOp.kind] at hk;done)
  |exact SB|exact OH|exact IB _ _|exact IC|exact ID _|exact BH|exact SC _|exact VM _ _|exact VN _|exact OJ _
  |exact BI _ _|exact IG _ _ _ _|exact II _|exact IJ _ _|exact OK _ _|exact SD _|exact SE _ _ _|exact OL|exact BL _ _ _
  |exact yA _|exact OM|exact BM|exact BN _|exact ON|exact SF|exact BO _
  |(intro s hs args vs v g' ha e;cases e))
end Go.Pv
end
section
noncomputable section
namespace Go.Pv
open Go.Vm
open Go.Vm.Key (kn)
variable {Z:ZM} {p:Ren}
theorem CR.mkS {x:PV} {z:SV} (h:B4 Z p x z):CR Z p (.s x) (.s z):=h
def iK (f:List PA→Ab→PR) (r:List AV→Ac→R):Prop:=∀s:Sta,Cg s→Su s s.g.next s.h.next→∀(args:List PA) (vs:List AV) (v:PA) (g':Ab),Aa (AR s.Z s.p) args vs→f args s.g=some (v,g') →
 ∃u body own y,g'=s.g.Bs body own []∧r vs s.h=some (u,s.h.Bs y)∧BR s.Z (s.p.set s.g.next s.h.next) body y.body∧(own=true→y.own=true∧y.anc=[])∧AR s.Z (s.p.set s.g.next s.h.next) v u
def iM (f:List PA→Ab→PR) (r:List AV→Ac→R):Prop:=∀s:Sta,Good s→∀(args:List PA) (vs:List AV) (v:PA) (g':Ab),Aa (AR s.Z s.p) args vs→f args s.g=some (v,g') →
 ∃u h' p',r vs s.h=some (u,h')∧Good ⟨s.Z,p',g',h'⟩∧Ba s.g.next.toNat s.h.next.toNat s ⟨s.Z,p',g',h'⟩∧AR s.Z p' v u
theorem Ga.e {f:List PA→Ab→PR} {r:List AV→Ac→R} (h:Ga f r):iM f r:=by
 intro s hs args vs v g' ha e
 obtain⟨rfl,u,h1,h2⟩:=h s hs.toCg args vs v g' ha e
 exact⟨u,s.h,s.p,h1,hs,Ba.refl _ _ _,h2⟩
theorem iK.e {f:List PA→Ab→PR} {r:List AV→Ac→R} (h:iK f r):iM f r:=by
 intro s hs args vs v g' ha e
 obtain⟨u,body,own,y,rfl,h1,h2,h3,h4⟩:=h s hs.toCg hs.free args vs v g' ha e
 obtain⟨h5,h6⟩:=Io hs (anc:=[]) h2 fun ho=>⟨(h3 ho).1,by rw[(h3 ho).2];exact Eg.nil⟩
 exact⟨u,_,_,h1,h5,h6,h4⟩
theorem V7 {p':Ren} (hp:PLe p p') {l:List PV} {m:List SV} (h:Aa (B4 Z p) l m):Aa (B4 Z p') l m:=Ak h fun _ _=>B4.mono (fun _ _ h=>h) hp
theorem iN (s:Sta) (o:Nat):AR s.Z (s.p.set s.g.next s.h.next) (.v (.s (.ptr s.g.next o))) (.v (.s (.ptr s.h.next o))):=⟨_,Ren.A3 _ _ _,rfl⟩
theorem V8 (s:Sta) (o len es:Nat) (cap:Option Nat):AR s.Z (s.p.set s.g.next s.h.next) (.v (.s (.slice s.g.next o len es cap))) (.v (.s (.slice s.h.next o len es cap))):=⟨_,Ren.A3 _ _ _,rfl⟩
theorem OO (zs:List SV):iK (eM zs) (eI zs):=by
 intro s hs hf args vs v g' ha e
 unfold eM at e
 split at e
 ·cases ha
  split at e
  ·next l hl=>
   cases e
   exact⟨_,_,true,⟨Body.ofList zs,true,[]⟩,rfl,rfl,BR.list (Jd hl),fun _=>⟨rfl,rfl⟩,iN s 0⟩
  ·cases e
 ·cases e
theorem SG (n:Nat):iK (xA n) (lF n):=by
 intro s hs hf args vs v g' ha e
 unfold xA at e
 split at e
 ·next x=>
  obtain⟨y,rfl,h⟩:=Aa.one ha
  obtain⟨z,rfl,hz⟩:=h.cv
  split at e
  ·next hn=>
   cases e
   have hl:=Ah hz.cells
   exact⟨_,_,true,⟨Body.ofList z.cells,true,[]⟩,rfl,by simp only[lF];rw[if_pos (by omega)];rfl,BR.list (V7 hf.le hz.cells),fun _=>⟨rfl,rfl⟩,iN s 0⟩
  ·cases e
 ·cases e
theorem bB {l:List PV} {m:List SV} (h:Aa (B4 Z p) l m):∀n,Aa (B4 Z p) (Oj l n) (Ey m n)
 |0=>.nil
 |n+1=>A0 h (bB h n)
theorem BP (es len:Nat) (zero:List SV) (places:List (Nat×Nat)):iK (Qr es len zero places) (Qo es len zero places):=by
 intro s hs hf args vs v g' ha e
 unfold Qr at e
 split at e
 ·next z hz=>
  split at e
  ·next cs hcs=>
   cases e
   obtain⟨r',h1,h2⟩:=iI (bB (Jd hz) len) ha hcs
   exact⟨_,_,true,⟨Body.ofList r',true,[]⟩,rfl,by simp only[Qo,h1];rfl,BR.list (V7 hf.le h2),fun _=>⟨rfl,rfl⟩,V8 s 0 len es _⟩
  ·cases e
 ·cases e
theorem SH:iK NX pY:=by
 intro s hs hf args vs v g' ha e
 unfold NX at e
 split at e
 ·next l=>
  obtain⟨y,rfl,h⟩:=Aa.one ha
  obtain⟨z,rfl,hz⟩:=h.s
  cases Aj.qX hz
  split at e
  ·next hr=>
   cases e
   exact⟨_,_,false,⟨Body.ofList (l.map fun n=>SV.int .u8 (n:Nat)),false,[]⟩,rfl,by simp only[pY];rw[if_pos hr],BR.list (Lo _ _ _ fun n _=>Aj.int .u8 n),fun h=>(by cases h),V8 s 0 _ 1 none⟩
  ·cases e
 ·cases e
theorem uT (s:Sta):AR s.Z (s.p.set s.g.next s.h.next) (.v (.s (.map s.g.next))) (.v (.s (.map s.h.next))):=⟨_,Ren.A3 _ _ _,rfl⟩
theorem IK:iK qC O3:=by
 intro s hs hf args vs v g' ha e
 unfold qC at e
 split at e
 ·cases ha;cases e
  exact⟨_,_,true,⟨.map [],true,[]⟩,rfl,rfl,Aa.nil,fun _=>⟨rfl,rfl⟩,uT s⟩
 ·obtain⟨y,rfl,h⟩:=Aa.one ha
  obtain⟨z,rfl,hz⟩:=h.s
  cases Aj.Pw hz
  cases e
  exact⟨_,_,true,⟨.map [],true,[]⟩,rfl,rfl,Aa.nil,fun _=>⟨rfl,rfl⟩,uT s⟩
 ·cases e
theorem yB (es bytes:Nat) (zero:List SV):iK (O9 es bytes zero) (Ij es bytes zero):=by
 intro s hs hf args vs v g' ha e
 unfold O9 at e
 split at e
 ·next _ l _ c=>
  obtain⟨y,y',rfl,h,h'⟩:=Aa.two ha
  obtain⟨z,rfl,hz⟩:=h.s
  obtain⟨z',rfl,hz'⟩:=h'.s
  cases Aj.Pw hz;cases Aj.Pw hz'
  split at e
  ·next zs hzs=>
   split at e
   ·next hc=>
    cases e
    exact⟨_,_,true,⟨Body.ofList (Ey zero c.toNat),true,[]⟩,rfl,by simp only[Ij];rw[if_pos hc];rfl,BR.list (bB (Jd hzs) _),fun _=>⟨rfl,rfl⟩,V8 s 0 _ es _⟩
   ·cases e
  ·cases e
 ·cases e
theorem fC {o:VOp} (hk:o.kind=.alloc):iK (opP o) o.run:=by
 cases o<;>(first
  |(simp[VOp.kind] at hk;done)
  |exact OO _|exact SG _|exact BP _ _ _ _|exact IK|exact yB _ _ _|exact SH)
theorem IL (n:Nat):iM (Ll n) (Sm n):=by
 intro s hs args vs v g' ha e
 unfold Ll at e
 split at e
 ·next b o x=>
  obtain⟨y,y',rfl,h,h'⟩:=Aa.two ha
  obtain⟨z,rfl,b',hp,rfl⟩:=h.s
  obtain⟨z',rfl,hz'⟩:=h'.cv
  split at e
  ·next hn=>
   split at e
   ·next g1 hw=>
    cases e
    obtain⟨h',h1,h2,h3⟩:=V6 hs (lo:=s.g.next.toNat) (lov:=s.h.next.toNat) hp hz'.cells hw
    have hl:=Ah hz'.cells
    exact⟨_,h',s.p,by simp only[Sm];rw[if_pos (by omega)];simp only[h1],h2,h3,AR.mkT .nil⟩
   ·cases e
  ·cases e
 ·cases e
theorem uU {ks:G7} {k v:PC} {k' v':CV} (hk:CR Z p k k') (hv:CR Z p v v'):∀{l:List (PC×PC)} {m:List (CV×CV)} {r:List (PC×PC)},Aa (Gm Z p) l m→Vj ks k v l=some r →
  ∃r',Wz ks k' v' m=some r'∧Aa (Gm Z p) r r'
 |[],m,r,h,e=>by cases h;cases e;exact⟨_,rfl,.cons ⟨hk,hv⟩ .nil⟩
 |(x,u)::l,m,r,h,e=>by
  cases h with
  |cons h1 h2=>
  rename_i y m
  obtain⟨y,w⟩:=y
  unfold Vj at e
  split at e
  ·next h0=>
   cases e
   exact⟨(y,v')::m,by simp only[Wz,Qz hk h1.1 h0],.cons ⟨h1.1,hv⟩ h2⟩
  ·next h0=>
   split at e
   ·next r1 hr=>
    cases e
    obtain⟨r',h3,h4⟩:=uU hk hv h2 hr
    exact⟨(y,w)::r',by simp only[Wz,Qz hk h1.1 h0,h3],.cons h1 h4⟩
   ·cases e
  ·cases e
theorem bC {s:Sta} (hs:Good s) {b b':Key} (hp:s.p b=some b') {body body':C5} {log:List (Nat×Nat)} (hx:s.g.get b=some ⟨body,true,false,[],log⟩) (hnc:∀l,body≠.cells l) (hnc':∀l,body'≠.cells l) {y':Body} (hb:BR s.Z s.p body' y') :
  ∃y,s.h.get b'=some ⟨y,true,[]⟩∧BR s.Z s.p body y∧Good ⟨s.Z,s.p,s.g.upd b (some ⟨body',true,false,[],(0,0)::log⟩),s.h.upd b' (some ⟨y',true,[]⟩)⟩ ∧
   Ba s.g.next.toNat s.h.next.toNat s ⟨s.Z,s.p,s.g.upd b (some ⟨body',true,false,[],(0,0)::log⟩),s.h.upd b' (some ⟨y',true,[]⟩)⟩:=by
 obtain⟨b2,⟨y,own,anc⟩,h1,h2,h3⟩:=hs.blk _ _ hx
 rw[hp] at h1;cases h1
 obtain⟨ho,ha⟩:=h3.own rfl
 simp only at ho ha
 subst ho
 replace ha:=ha.all hs.toCg rfl
 cases ha
 have hz:=h3.N1 rfl
 have t1:=aU hs.toCg (anc:=[]) (anc':=[]) .nil rfl hp hz (x':=some ⟨body',true,false,[],(0,0)::log⟩) (y':=some ⟨y',true,[]⟩) ⟨_,rfl,hb,rfl,rfl,rfl,rfl⟩
 have t2:=aW hs.toCg (lo:=s.g.next.toNat) (lov:=s.h.next.toNat) (anc:=[]) (anc':=[]) .nil hp (x':=some ⟨body',true,false,[],(0,0)::log⟩) (y':=some ⟨y',true,[]⟩) ⟨_,hx⟩ fun x x1 e1 e2=>by
  rw[hx] at e1;cases e1;cases e2
  refine⟨[(0,0)],rfl,fun y0 hy0=>⟨_,rfl,fun h=>(by cases h),fun l e=>absurd e (hnc' l),fun l c m e1 _=>absurd e1 (hnc l)⟩⟩
 exact⟨y,h2,h3.body,⟨t1,V5 (anc:=[]) (anc':=[]) hs.toRoom hp⟩,t2⟩
theorem BQ (ks:G7):iM (I4 ks) (Ng ks):=by
 intro s hs args vs v g' ha e
 unfold I4 at e
 split at e
 ·next b k v0=>
  obtain⟨y,y',y'',rfl,h,h',h''⟩:=Aa.three ha
  obtain⟨z,rfl,b',hp,rfl⟩:=h.s
  obtain⟨k',rfl,hk⟩:=h'.cv
  obtain⟨v',rfl,hv⟩:=h''.cv
  split at e
  ·next hf=>
   split at e
   ·next l log hx=>
    split at e
    ·next l' hl=>
     cases e
     obtain⟨b2,⟨y,own,anc⟩,h1,h2,h3⟩:=hs.blk _ _ hx
     rw[hp] at h1;cases h1
     have hb:=h3.body
     cases y<;>simp only[BR] at hb
     rename_i m
     obtain⟨m',h4,h5⟩:=uU hk hv (m:=m) hb hl
     obtain⟨y,h6,h7,h8,h9⟩:=bC hs hp hx (fun _ h=>by cases h) (fun _ h=>by cases h) (body':=.map l') (y':=.map m') h5
     rw[h2] at h6;cases h6
     have hf':Fp ks k'=true:=by rw[←Ud hk];exact hf
     exact⟨.unit,_,s.p,by simp only[Ng];rw[if_pos hf'];simp only[h2,h4],h8,h9,AR.mkT .nil⟩
    ·cases e
   ·cases e
  ·cases e
 ·cases e
theorem qZ {s:Sta} (hs:Good s) {es bytes:Nat} {x v:PV} {x':SV} (hx:B4 s.Z s.p x x') {new:List PV} {new':List SV} {n:Nat} (hn:Aa (B4 s.Z s.p) new new') {g':Ab} (e:Kq s.g es bytes x new n=some (v,g')) :
  ∃u h' p',Cj s.h es bytes x' new' n=some (u,h')∧Good ⟨s.Z,p',g',h'⟩∧Ba s.g.next.toNat s.h.next.toNat s ⟨s.Z,p',g',h'⟩∧B4 s.Z p' v u:=by
 unfold Kq at e
 split at e
 ·cases Aj.Oo hx
  split at e
  ·next h0=>cases e;exact⟨.Af,s.h,s.p,by simp only[Cj];rw[if_pos h0],hs,Ba.refl _ _ _,Aj.Af⟩
  ·next h0=>
   split at e
   ·next hr=>
    cases e
    obtain⟨h1,h2⟩:=Io hs (body:=.cells new) (own:=true) (anc:=[]) (y:=⟨Body.ofList new',true,[]⟩) (BR.list (V7 hs.free.le hn)) fun _=>⟨rfl,.nil⟩
    exact⟨_,_,_,by simp only[Cj];rw[if_neg h0,if_pos hr];rfl,h1,h2,_,Ren.A3 _ _ _,rfl⟩
   ·cases e
 ·next b o len es' cap=>
  obtain⟨b',hp,rfl⟩:=hx
  split at e
  ·next hes=>
   subst hes
   split at e
   ·next h0=>cases e;exact⟨_,s.h,s.p,by simp only[Cj,if_true];rw[if_pos h0],hs,Ba.refl _ _ _,b',hp,rfl⟩
   ·next h0=>
    split at e
    ·next c=>
     split at e
     ·next hle=>
      split at e
      ·next g1 hw=>
       cases e
       obtain⟨h',h1,h2,h3⟩:=V6 hs (lo:=s.g.next.toNat) (lov:=s.h.next.toNat) hp hn hw
       exact⟨.slice b' o (len+n) es (some c),h',s.p,by simp only[Cj,if_true];rw[if_neg h0,if_pos hle];simp only[h1],h2,h3,b',hp,rfl⟩
      ·cases e
     ·next hle=>
      split at e
      ·next hr=>
       split at e
       ·next c1 g1 hw=>
        cases e
        obtain⟨h',p',h1,rfl,h2,h3,h4⟩:=xX hs hp hn hw
        exact⟨.slice s.h.next 0 (len+n) es none,h',p',by simp only[Cj,if_true];rw[if_neg h0,if_neg hle,if_pos hr];simp only[h1],h2,h3,_,h4,rfl⟩
       ·cases e
      ·cases e
    ·split at e
     ·next hr=>
      split at e
      ·next c1 g1 hw=>
       cases e
       obtain⟨h',p',h1,rfl,h2,h3,h4⟩:=BF hs hp hn hw
       exact⟨.slice s.h.next 0 (len+n) es none,h',p',by simp only[Cj,if_true];rw[if_neg h0,if_pos hr];simp only[h1],h2,h3,_,h4,rfl⟩
      ·cases e
     ·cases e
  ·cases e
 ·next es' l cap=>
  obtain⟨b,o,vcap,f,rfl,hc,hl,he,hz,h⟩:=Aj.eA hx
  split at e
  ·next hes=>
   subst hes
   split at e
   ·next h0=>cases e;exact⟨_,s.h,s.p,by simp only[Cj,if_true];rw[if_pos h0],hs,Ba.refl _ _ _,hx⟩
   ·next h0=>
    split at e
    ·next c=>
     split at e
     ·cases e
     ·next hle=>
      split at e
      ·next hr=>
       cases e
       rcases hc with hc|hc
       ·cases hc
       subst hc
       have hflat:Aa (B4 s.Z s.p) l.flatten (tab f (l.length*es)):=Pu l f he fun i e j x hi hj=>(h i e j x hi hj).v
       have hfl:=Ah hflat
       rw[aS] at hfl
       have hrenew:∃y,s.h.renew b o (l.length*es) new'=some (s.h.next,s.h.Bs ⟨y,true,[]⟩)∧BR s.Z s.p (.cells (l.flatten++new)) y:=by
        unfold Ac.renew
        by_cases hk:l.length*es=0
        ·rw[if_pos hk]
         have:l.flatten=[]:=List.length_eq_zero_iff.1 (by omega)
         rw[this]
         exact⟨_,rfl,BR.list hn⟩
        ·rw[if_neg hk]
         obtain⟨c',m,h1,h2,h3⟩:=hz hk
         rw[uN hs.toCg h1]
         have hread:Jl c' o (l.length*es)=some (tab f (l.length*es)):=Vz _ _ _ h3
         have hcop:∃y,Ac.copied c' m o (l.length*es) new'=some y:=by
          unfold Ac.copied
          rw[if_pos h2,hread]
          split
          ·exact⟨_,rfl⟩
          ·exact⟨_,rfl⟩
         obtain⟨y,hy⟩:=hcop
         obtain⟨_,d,rfl,h4,h5⟩:=Ik hy
         simp only[hy]
         refine⟨_,rfl,by simp[hfl,Ah hn],fun i x hi=>?_⟩
         by_cases hi':i<l.length*es
         ·rw[List.getElem?_append_left (by omega)] at hi
          obtain⟨u,h6,h7⟩:=Ax hflat i hi
          refine⟨u,?_,h7⟩
          rw[h4 i hi',h3 i hi']
          have hg:(tab f (l.length*es))[i]?=some (f i):=by
           have:∀(n:Nat) (f:Nat→SV) (i:Nat),i<n→(tab f n)[i]?=some (f i):=by
            intro n
            induction n with
            |zero=>intro f i h;omega
            |succ n ih=>
             intro f i h
             cases i with
             |zero=>rfl
             |succ i=>simp only[tab,List.getElem?_cons_succ];exact ih _ i (by omega)
           exact this _ _ _ hi'
          rw[hg] at h6
          exact h6
         ·rw[List.getElem?_append_right (by omega),hfl] at hi
          obtain⟨u,h6,h7⟩:=Ax hn _ hi
          have hlt:=(Gi.1 h6).1
          refine⟨u,?_,h7⟩
          rw[←h6,←h5 _ hlt];congr 2;omega
       obtain⟨y,h1,h2⟩:=hrenew
       obtain⟨h3,h4⟩:=Io hs (body:=.cells (l.flatten++new)) (own:=true) (anc:=[]) (y:=⟨y,true,[]⟩) (h2.mono (fun _ _ h=>h) hs.free.le) fun _=>⟨rfl,.nil⟩
       exact⟨.slice s.h.next 0 (l.length+n) es none,_,_,by simp only[Cj,if_true];rw[if_neg h0,if_neg hle,if_pos hr];simp only[h1],h3,h4,_,Ren.A3 _ _ _,rfl⟩
      ·cases e
    ·cases e
  ·cases e
 ·cases e
theorem BS (es bytes:Nat):iM (D1 es bytes) (Nh es bytes):=by
 intro s hs args vs v g' ha e
 unfold D1 at e
 split at e
 ·obtain⟨y,y',rfl,h,h'⟩:=Aa.two ha
  obtain⟨z,rfl,hz⟩:=h.s
  obtain⟨z',rfl,hz'⟩:=h'.s
  split at e
  ·next new n hn=>
   obtain⟨new',h1,h2⟩:=Y2 hs.toCg hz' hn
   split at e
   ·next w g1 hw=>
    cases e
    obtain⟨u,h',p',h3,h4,h5,h6⟩:=qZ hs hz h2 hw
    exact⟨.v (.s u),h',p',by simp only[Nh,h1,h3],h4,h5,AR.mkS h6⟩
   ·cases e
  ·cases e
 ·cases e
theorem OP (es:Nat):iM (zZ es) (O6 es):=by
 intro s hs args vs v g' ha e
 unfold zZ at e
 split at e
 ·obtain⟨y,y',rfl,h,h'⟩:=Aa.two ha
  obtain⟨z,rfl,hz⟩:=h.s
  obtain⟨z',rfl,hz'⟩:=h'.s
  split at e
  ·next src n hn=>
   obtain⟨src',h1,h2⟩:=Y2 hs.toCg hz' hn
   split at e
   ·cases Aj.Oo hz
    cases e
    exact⟨_,s.h,s.p,by simp only[O6,h1],hs,Ba.refl _ _ _,AR.mkS (Aj.int _ _)⟩
   ·next b o len es' _=>
    obtain⟨b',hp,rfl⟩:=hz
    split at e
    ·next hes=>
     subst hes
     split at e
     ·next h0=>
      cases e
      exact⟨_,s.h,s.p,by simp only[O6,h1,if_true];rw[if_pos h0],hs,Ba.refl _ _ _,AR.mkS (Aj.int _ _)⟩
     ·next h0=>
      split at e
      ·next g1 hw=>
       cases e
       obtain⟨h',h3,h4,h5⟩:=V6 hs (lo:=s.g.next.toNat) (lov:=s.h.next.toNat) hp (Ce _ h2) hw
       exact⟨.int .i64 (min n len:Nat),h',s.p,by simp only[O6,h1,if_true];rw[if_neg h0];simp only[h3],h4,h5,AR.mkS (Aj.int _ _)⟩
      ·cases e
    ·cases e
   ·cases e
  ·cases e
 ·cases e
theorem SI:Ga NY pZ:=by
 have hby:∀{Z:ZM} {p:Ren} {l:List PV} {m:List SV} {r:List Nat},Aa (B4 Z p) l m→Zq l=some r→Qp m=some r:=by
  intro Z p l
  induction l with
  |nil=>intro m r h e;cases h;exact e
  |cons x l ih=>
   intro m r h e
   cases h with
   |cons h1 h2=>
   unfold Zq at e
   split at e
   ·next n r1 hx hr=>
    cases e
    unfold MM at hx
    split at hx
    ·split at hx
     ·next hc=>cases hx;cases Aj.Pw h1;simp only[Qp,Go.Vm.byteOf];rw[if_pos hc,ih h2 hr]
     ·cases hx
    ·cases hx
   ·cases e
 intro s hs args vs v g' ha e
 unfold NY at e
 split at e
 ·obtain⟨y,rfl,h⟩:=Aa.one ha
  obtain⟨z,rfl,hz⟩:=h.s
  split at e
  ·next l n hl=>
   split at e
   ·next r hr=>
    cases e
    obtain⟨l',h1,h2⟩:=Y2 hs hz hl
    obtain⟨b',hp,rfl⟩:=hz
    exact⟨rfl,_,by simp only[pZ,h1,hby h2 hr],AR.mkS (Aj.str _)⟩
   ·cases e
  ·cases e
 ·obtain⟨y,rfl,h⟩:=Aa.one ha
  obtain⟨z,rfl,hz⟩:=h.s
  split at e
  ·next l n hl=>
   split at e
   ·next r hr=>
    cases e
    obtain⟨l',h1,h2⟩:=Y2 hs hz hl
    obtain⟨b,o,vcap,f,rfl,_⟩:=Aj.eA hz
    exact⟨rfl,_,by simp only[pZ,h1,hby h2 hr],AR.mkS (Aj.str _)⟩
   ·cases e
  ·cases e
 ·obtain⟨y,rfl,h⟩:=Aa.one ha
  obtain⟨z,rfl,hz⟩:=h.s
  cases Aj.Oo hz
  cases e
  exact⟨rfl,_,rfl,AR.mkS (Aj.str _)⟩
 ·cases e
theorem V9 {s:Sta} (hs:Cg s) {b b':Key} (hp:s.p b=some b') {l:List (PC×PC)} {own frz:Bool} {anc:List Key} {log:List (Nat×Nat)} (hx:s.g.get b=some ⟨.map l,own,frz,anc,log⟩) :
  ∃m own' anc',s.h.get b'=some ⟨.map m,own',anc'⟩∧Aa (Gm s.Z s.p) l m:=by
 obtain⟨b2,⟨y,own',anc'⟩,h1,h2,h3⟩:=hs.blk _ _ hx
 rw[hp] at h1;cases h1
 have hb:=h3.body
 cases y<;>simp only[BR] at hb
 exact⟨_,_,_,h2,hb⟩
theorem BT:iM gW Ni:=by
 intro s hs args vs v g' ha e
 unfold gW at e
 split at e
 ·obtain⟨y,rfl,h⟩:=Aa.one ha
  obtain⟨z,rfl,b',hp,rfl⟩:=h.s
  split at e
  ·next l own frz anc log hx=>
   split at e
   ·next hl=>
    cases e
    obtain⟨m,own',anc',h1,h2⟩:=V9 hs.toCg hp hx
    have hlen:=Ah h2
    obtain⟨h3,h4⟩:=Io hs (body:=.iter _ l.length 0) (own:=true) (anc:=[]) (y:=⟨.iter b' m.length 0,true,[]⟩) ⟨hs.free.le _ _ hp,hlen,rfl⟩ fun _=>⟨rfl,.nil⟩
    exact⟨_,_,_,by simp only[Ni,h1];rw[if_pos (by omega)];rfl,h3,h4,iN s 0⟩
   ·cases e
  ·cases e
 ·cases e
theorem bD {s:Sta} (hs:Cg s) {b b':Key} (hp:s.p b=some b') {m:Key} {n st:Nat} {own frz:Bool} {anc:List Key} {log:List (Nat×Nat)} (hx:s.g.get b=some ⟨.iter m n st,own,frz,anc,log⟩) :
  ∃m' own' anc',s.h.get b'=some ⟨.iter m' n st,own',anc'⟩∧s.p m=some m':=by
 obtain⟨b2,⟨y,own',anc'⟩,h1,h2,h3⟩:=hs.blk _ _ hx
 rw[hp] at h1;cases h1
 have hb:=h3.body
 cases y<;>simp only[BR] at hb
 obtain⟨h4,rfl,rfl⟩:=hb
 exact⟨_,_,_,h2,h4⟩
theorem IM:iM qD Jn:=by
 intro s hs args vs v g' ha e
 unfold qD at e
 split at e
 ·next i=>
  obtain⟨y,rfl,h⟩:=Aa.one ha
  obtain⟨z,rfl,i',hp,rfl⟩:=h.s
  split at e
  ·next b n st log hx=>
   split at e
   ·next l own frz anc log' hx'=>
    split at e
    ·next hn=>
     obtain⟨b',_,_,h1,h2⟩:=bD hs.toCg hp hx
     obtain⟨m,_,_,h3,h4⟩:=V9 hs.toCg h2 hx'
     have hlen:=Ah h4
     obtain⟨y,h5,h6,h7,h8⟩:=bC hs hp hx (fun _ h=>by cases h) (fun _ h=>by cases h) (body':=.iter b n 1) (y':=.iter b' n 1) ⟨h2,rfl,rfl⟩
     rw[h1] at h5;cases h5
     split at e
     ·next k v=>
      cases e
      obtain⟨⟨k',v'⟩,rfl,hkv⟩:=Aa.one h4
      exact⟨_,_,s.p,by simp only[Jn,h1,h3];rw[if_pos (by omega)],h7,h8,AR.mkT (.cons (CR.mkS (Aj.bool _)) (.cons hkv.1 (.cons hkv.2 .nil)))⟩
     ·cases e
      cases h4
      exact⟨_,s.h,s.p,by simp only[Jn,h1,h3];rw[if_pos (by omega)],hs,Ba.refl _ _ _,AR.mkT (.cons (CR.mkS (Aj.bool _)) .nil)⟩
     ·cases e
      obtain⟨⟨k',v'⟩,rfl,hkv⟩:=Aa.one h4
      exact⟨_,s.h,s.p,by simp only[Jn,h1,h3];rw[if_pos (by omega)],hs,Ba.refl _ _ _,AR.mkT (.cons (CR.mkS (Aj.bool _)) .nil)⟩
     ·cases e
    ·cases e
   ·cases e
  ·cases e
 ·cases e
theorem BU:Ga gX Nj:=by
 intro s hs args vs v g' ha e
 unfold gX at e
 split at e
 ·obtain⟨y,rfl,h⟩:=Aa.one ha
  obtain⟨z,rfl,i',hp,rfl⟩:=h.s
  split at e
  ·next b n _ _ _ _ hx=>
   split at e
   ·next k v _ _ _ _ hx'=>
    split at e
    ·next hn=>
     cases e
     obtain⟨b',_,_,h1,h2⟩:=bD hs hp hx
     obtain⟨m,_,_,h3,h4⟩:=V9 hs h2 hx'
     obtain⟨⟨k',v'⟩,rfl,hkv⟩:=Aa.one h4
     exact⟨rfl,_,by simp only[Nj,h1,h3];rw[if_pos hn],AR.mkT (.cons hkv.1 (.cons hkv.2 .nil))⟩
    ·cases e
   ·cases e
  ·cases e
 ·cases e
theorem BV (o:VOp):iM (opP o) o.run:=by
 cases hk:o.kind with
 |quiet=>exact(Q0 hk).e
 |alloc=>exact(fC hk).e
 |effect=>
  cases o<;>(first
   |(simp[VOp.kind] at hk;done)
   |exact IL _|exact BQ _|exact BS _ _|exact OP _|exact SI.e|exact BT|exact IM|exact BU.e)
end Go.Pv
end
section
noncomputable section
namespace Go.Pv
open Go.Vm
open Go.Vm.Key (kn)
def QC (Z:ZM):PC→CV→Prop
 |.s x,.s y=>Aj Z x y
 |.agg l,.agg m=>Aa (Aj Z) l m
 |_,_=>False
def QA (Z:ZM):PA→AV→Prop
 |.v x,.v y=>QC Z x y
 |.tup l,.tup m=>Aa (QC Z) l m
 |_,_=>False
theorem QC.c {Z:ZM} {p:Ren} {x:PC} {y:CV} (h:QC Z x y):CR Z p x y:=by
 cases x<;>cases y<;>simp only[QC,CR] at h ⊢
 ·exact h.v
 ·exact Ak h fun _ _ h=>h.v
theorem QA.a {Z:ZM} {p:Ren} {x:PA} {y:AV} (h:QA Z x y):AR Z p x y:=by
 cases x<;>cases y<;>simp only[QA,AR] at h ⊢
 ·exact h.c
 ·exact Ak h fun _ _ h=>h.c
theorem QC.mono {Z Z':ZM} (hz:ZLe Z Z') {x:PC} {y:CV} (h:QC Z x y):QC Z' x y:=by
 cases x<;>cases y<;>simp only[QC] at h ⊢
 ·exact h.mono hz
 ·exact Ak h fun _ _ h=>h.mono hz
theorem QA.mono {Z Z':ZM} (hz:ZLe Z Z') {x:PA} {y:AV} (h:QA Z x y):QA Z' x y:=by
 cases x<;>cases y<;>simp only[QA] at h ⊢
 ·exact h.mono hz
 ·exact Ak h fun _ _ h=>h.mono hz
theorem Eh (es:Nat):∀(n:Nat) (l:List PV),(chunk es n l).length=n
 |0,_=>rfl
 |n+1,l=>by simp[chunk,Eh es n]
theorem Mu (es:Nat):∀(n:Nat) (l:List PV) (i:Nat) (e:List PV),l.length=n*es→(chunk es n l)[i]?=some e→e.length=es∧∀(j:Nat) (x:PV),e[j]?=some x→l[i*es+j]?=some x
 |0,l,i,e,_,h=>by simp[chunk] at h
 |n+1,l,i,e,hl,h=>by
  rw[Nat.add_mul,Nat.one_mul] at hl
  cases i with
  |zero=>
   simp[chunk] at h
   subst h
   refine⟨by simp;omega,fun j x hx=>?_⟩
   rw[List.getElem?_take] at hx
   split at hx
   ·simpa using hx
   ·cases hx
  |succ i=>
   simp only[chunk,List.getElem?_cons_succ] at h
   obtain⟨h1,h2⟩:=Mu es n (l.drop es) i e (by simp;omega) h
   refine⟨h1,fun j x hx=>?_⟩
   have:=h2 j x hx
   rw[List.getElem?_drop] at this
   rw[←this];congr 1;rw[Nat.add_mul];omega
structure Frz (s:Sta) (Z':ZM) (g':Ab):Prop where
 sim:Cg ⟨Z',s.p,g',s.h⟩
 room:Room s→Room ⟨Z',s.p,g',s.h⟩
 ext:∀lo lov,Ba lo lov s ⟨Z',s.p,g',s.h⟩
theorem Frz.refl {s:Sta} (hs:Cg s):Frz s s.Z s.g:=⟨hs,fun h=>h,fun _ _=>Ba.refl _ _ _⟩
theorem Frz.trans {s:Sta} {Z' Z'':ZM} {g' g'':Ab} (hs:Cg s) (h:Frz s Z' g') (h':Frz ⟨Z',s.p,g',s.h⟩ Z'' g''):Frz s Z'' g'':=
 ⟨h'.sim,fun hr=>h'.room (h.room hr),fun lo lov=>(h.ext lo lov).trans hs (h'.ext lo lov) (Rl) (Rl)⟩
theorem Wa {s:Sta} (hs:Cg s) {b b':Key} (hp:s.p b=some b') {x:Ap} {y:Blk} (hx:s.g.get b=some x) (hy:s.h.get b'=some y) (hf:x.frz=false) :
  Frz s (fun k=>if b'=k then some y.body else s.Z k) (s.g.upd b (some { x with frz:=true })):=by
 have hz0:s.Z b'=none:=by
  obtain⟨b2,y2,h1,h2,h3⟩:=hs.blk b x hx
  rw[hp] at h1;cases h1
  exact h3.N1 hf
 have hzle:ZLe s.Z (fun k=>if b'=k then some y.body else s.Z k):=by
  intro k c h
  have hne:b'≠k:=fun e=>by rw[←e,hz0] at h;cases h
  simp only[hne,if_false];exact h
 refine⟨⟨hs.inj,fun k x1 h1=>?_,fun k c h=>?_,fun k c h1 h2=>?_⟩,fun hr=>⟨hr.pk,fun k c h=>?_,hr.top⟩,fun lo lov=>⟨⟨Rl,Rl⟩,hzle,fun _ _ h=>h,fun _ _ h=>.inl h,fun k c h=>?_,fun _ _ _=>rfl,fun k c h1 h2=>?_,fun k x1 x2 h1 h2=>?_⟩⟩
 ·simp only at h1 ⊢
  rw[Cr] at h1
  by_cases e:b=k
  ·subst e
   simp only[if_true,Sj] at h1
   subst h1
   obtain⟨b2,y2,h1,h2,h3⟩:=hs.blk b x hx
   rw[hp] at h1;cases h1
   rw[hy] at h2;cases h2
   exact⟨b',y,hp,hy,h3.body.mono hzle (fun _ _ h=>h),fun ho=>⟨(h3.own ho).1,(h3.own ho).2.mono hzle fun _ _ h=>h⟩,fun h=>(by cases h),fun _=>by simp⟩
  ·simp only[e,if_false] at h1
   obtain⟨b2,y2,h2,h3,h4⟩:=hs.blk k x1 h1
   have hne:b'≠b2:=fun e'=>e (hs.inj b k b2 (e'▸hp) h2)
   exact⟨b2,y2,h2,h3,h4.body.mono hzle (fun _ _ h=>h),fun ho=>⟨(h4.own ho).1,(h4.own ho).2.mono hzle fun _ _ h=>h⟩,fun h=>by simp only[hne,if_false];exact h4.N1 h,fun h=>hzle _ _ (h4.frz h)⟩
 ·simp only at h ⊢
  by_cases e:b'=k
  ·subst e;simp only[if_true,Sj] at h;exact⟨y,hy,h⟩
  ·simp only[e,if_false] at h;exact hs.z k c h
 ·simp only at h1 h2 ⊢
  rw[Cr] at h2
  by_cases e:b=k
  ·simp[e] at h2
  ·simp only[e,if_false] at h2;exact hs.dead k c h1 h2
 ·simp only at h ⊢
  by_cases e:b'=k
  ·subst e;exact(hr.pk b b' hp).2
  ·simp only[e,if_false] at h;exact hr.zr k c h
 ·simp only at h
  by_cases e:b'=k
  ·subst e;exact .inr (.inl ⟨b,hp⟩)
  ·simp only[e,if_false] at h;exact .inl (by rw[h];simp)
 ·simp only
  rw[Cr]
  by_cases e:b=k
  ·subst e;rw[hx] at h2;cases h2
  ·simp[e,h2]
 ·simp only at h2 ⊢
  rw[Cr] at h2
  by_cases e:b=k
  ·subst e
   rw[hx] at h1;cases h1
   simp only[if_true,Sj] at h2
   subst h2
   exact⟨[],rfl,fun c y1 _ hy1=>⟨y1,hy1,Iu.refl _ _⟩⟩
  ·simp only[e,if_false] at h2
   rw[h1] at h2;cases h2
   exact⟨[],rfl,fun c y1 _ hy1=>⟨y1,hy1,Iu.refl _ _⟩⟩
def MN (f:PV→Ab→Option (PV×Ab)):Prop:=∀s:Sta,Cg s→∀v u v' g',B4 s.Z s.p v u→f v s.g=some (v',g')→∃Z',Frz s Z' g'∧Aj Z' v' u
theorem bE {f:PV→Ab→Option (PV×Ab)} (hf:MN f):∀(l:List PV) {s:Sta},Cg s→∀{us:List SV} {l':List PV} {g':Ab},Aa (B4 s.Z s.p) l us→Jt.Xa f l s.g=some (l',g') →
  ∃Z',Frz s Z' g'∧Aa (Aj Z') l' us
 |[],s,hs,us,l',g',h,e=>by
  cases h
  simp only[Jt.Xa,Sj,Pj] at e
  obtain⟨rfl,rfl⟩:=e
  exact⟨s.Z,Frz.refl hs,.nil⟩
 |x::l,s,hs,us,l',g',h,e=>by
  cases h with
  |cons h1 h2=>
  simp only[Jt.Xa] at e
  split at e
  ·next y g1 hy=>
   split at e
   ·next ys g2 hys=>
    cases e
    obtain⟨Z1,f1,q1⟩:=hf s hs _ _ _ _ h1 hy
    obtain⟨Z2,f2,q2⟩:=bE hf l (s:=⟨Z1,s.p,g1,s.h⟩) f1.sim (Ak h2 fun _ _ h=>h.mono (f1.ext 0 0).zle (fun _ _ h=>h)) hys
    exact⟨Z2,f1.trans hs f2,.cons (q1.mono (f2.ext 0 0).zle) q2⟩
   ·cases e
  ·cases e
theorem Y3:∀n,MN (Jt n)
 |0=>by intro s hs v u v' g' h e;cases e
 |n+1=>by
  intro s hs v u v' g' h e
  unfold Jt at e
  split at e
  case h_1=>cases e;exact⟨s.Z,Frz.refl hs,h⟩
  case h_2=>cases e;exact⟨s.Z,Frz.refl hs,h⟩
  case h_3=>cases e;exact⟨s.Z,Frz.refl hs,h⟩
  case h_4=>cases e;exact⟨s.Z,Frz.refl hs,h⟩
  case h_5=>cases e;exact⟨s.Z,Frz.refl hs,h⟩
  case h_6=>cases e;exact⟨s.Z,Frz.refl hs,h⟩
  case h_7=>cases e;exact⟨s.Z,Frz.refl hs,h⟩
  case h_8=>
   cases e
   obtain⟨fs',cs',rfl,h1,h2⟩:=h
   cases h1;cases h2
   exact⟨s.Z,Frz.refl hs,.func _⟩
  case h_9=>
   cases e
   obtain⟨b,o,vcap,f,rfl,_,hl,he,hz,h⟩:=Aj.eA h
   exact⟨s.Z,Frz.refl hs,.lst f (.inl rfl) hl he hz h⟩
  case h_10=>cases e;exact⟨s.Z,Frz.refl hs,h⟩
  case h_11=>cases e;exact⟨s.Z,Frz.refl hs,h⟩
  case h_12 b o len es cap=>
   obtain⟨b',hp,rfl⟩:=h
   split at e
   ·cases e
   ·next hcap=>
    have hcap':∀c,cap=some c→len≤c:=by
     intro c hc;subst hc
     simpa[Kr] using hcap
    split at e
    ·next h0=>
     cases e
     refine⟨s.Z,Frz.refl hs,?_⟩
     have:=Aj.lst (Z:=s.Z) (es:=es) (l:=chunk es len []) (cap:=none) (b:=b') (o:=o) (vcap:=cap) (fun _=>.Eb) (.inl rfl) (by rw[Eh];exact hcap')
      (fun e he=>by
       obtain⟨i,hi⟩:=List.getElem?_of_mem he
       exact(Mu es len [] i e (by simp[h0]) hi).1)
      (by rw[Eh];exact fun h=>absurd h0 h)
      (fun i e j x hi hj=>by
       have:=(Mu es len [] i e (by simp[h0]) hi).2 j x hj
       simp at this)
     rw[Eh] at this
     exact this
    ·next h0=>
     split at e
     ·next c own frz anc log hx=>
      split at e
      ·next hle=>
       split at e
       ·next l g1 hl=>
        cases e
        obtain⟨y,d,h1,h2,h3,h4⟩:=hs.cells hp hx rfl
        have hblk:∃Z1,Frz s Z1 (if frz then s.g else s.g.upd b (some ⟨.cells c,own,true,anc,log⟩))∧Z1 b'=some (.cells d c.length):=by
         cases frz with
         |true=>
          have:=h2.frz rfl
          rw[h3] at this
          exact⟨s.Z,Frz.refl hs,this⟩
         |false=>
          refine⟨_,Wa hs hp hx h1 rfl,?_⟩
          simp[h3]
        obtain⟨Z1,f1,hz1⟩:=hblk
        have htl:((c.drop o).take (len*es)).length=len*es:=by simp;omega
        obtain⟨us,hr,hrel⟩:=Qy (c:=d) (R:=B4 s.Z s.p) ((c.drop o).take (len*es)) o fun i x hi=>by
         obtain⟨h,_⟩:=Ic c o (len*es) i x hi
         exact h4 _ _ h
        rw[htl] at hr
        obtain⟨hul,hug⟩:=Nn d (len*es) o us hr
        obtain⟨Z2,f2,q2⟩:=bE (Y3 n) _ f1.sim (Ak hrel fun _ _ h=>h.mono (f1.ext 0 0).zle (fun _ _ h=>h)) hl
        refine⟨Z2,f1.trans hs f2,?_⟩
        have hll:=Ah q2
        have hz2:Z2 b'=some (.cells d c.length):=(f2.ext 0 0).zle _ _ hz1
        have:=Aj.lst (Z:=Z2) (es:=es) (l:=chunk es len l) (cap:=none) (b:=b') (o:=o) (vcap:=cap) (fun t=>us.getD t .Eb) (.inl rfl) (by rw[Eh];exact hcap')
         (fun e he=>by
          obtain⟨i,hi⟩:=List.getElem?_of_mem he
          exact(Mu es len l i e (by omega) hi).1)
         (by
          rw[Eh]
          exact fun _=>⟨d,c.length,hz2,hle,fun t ht=>by rw[hug t ht];simp only[List.getD_eq_getElem?_getD];rw[Gg (by omega)];simp⟩)
         (fun i e j x hi hj=>by
          have:=(Mu es len l i e (by omega) hi).2 j x hj
          obtain⟨w,h5,h6⟩:=Ax q2 _ this
          simp only[List.getD_eq_getElem?_getD,h5];exact h6)
        rw[Eh] at this
        exact this
       ·cases e
      ·cases e
     ·cases e
  case h_13=>cases e
theorem uV {n:Nat} {s:Sta} (hs:Cg s) {v:PC} {u:CV} {v':PC} {g':Ab} (h:CR s.Z s.p v u) (e:Yn n v s.g=some (v',g')):∃Z',Frz s Z' g'∧QC Z' v' u:=by
 cases v with
 |s x=>
  obtain⟨y,rfl,hy⟩:=CR.s' h
  simp only[Yn] at e
  split at e
  ·next hx=>
   cases e
   obtain⟨Z',f,q⟩:=Y3 n s hs _ _ _ _ hy hx
   exact⟨Z',f,q⟩
  ·cases e
 |agg cs=>
  cases u with
  |s _=>exact absurd h id
  |agg ds=>
   simp only[Yn] at e
   split at e
   ·next hx=>
    cases e
    obtain⟨Z',f,q⟩:=bE (Y3 n) cs hs h hx
    exact⟨Z',f,q⟩
   ·cases e
theorem mZ {n:Nat}:∀(l:List PC) {s:Sta},Cg s→∀{us:List CV} {l':List PC} {g':Ab},Aa (CR s.Z s.p) l us→Rt n l s.g=some (l',g')→∃Z',Frz s Z' g'∧Aa (QC Z') l' us
 |[],s,hs,us,l',g',h,e=>by
  cases h
  simp only[Rt,Sj,Pj] at e
  obtain⟨rfl,rfl⟩:=e
  exact⟨s.Z,Frz.refl hs,.nil⟩
 |x::l,s,hs,us,l',g',h,e=>by
  cases h with
  |cons h1 h2=>
  simp only[Rt] at e
  split at e
  ·next y g1 hy=>
   split at e
   ·next ys g2 hys=>
    cases e
    obtain⟨Z1,f1,q1⟩:=uV hs h1 hy
    obtain⟨Z2,f2,q2⟩:=mZ l (s:=⟨Z1,s.p,g1,s.h⟩) f1.sim (Ak h2 fun _ _ h=>h.mono (f1.ext 0 0).zle (fun _ _ h=>h)) hys
    exact⟨Z2,f1.trans hs f2,.cons (q1.mono (f2.ext 0 0).zle) q2⟩
   ·cases e
  ·cases e
theorem Ue {n:Nat} {s:Sta} (hs:Cg s) {v:PA} {u:AV} {v':PA} {g':Ab} (h:AR s.Z s.p v u) (e:E8 n v s.g=some (v',g')):∃Z',Frz s Z' g'∧QA Z' v' u:=by
 cases v with
 |v x=>
  obtain⟨y,rfl,hy⟩:=h.cv
  simp only[E8] at e
  split at e
  ·next hx=>
   cases e
   obtain⟨Z',f,q⟩:=uV hs hy hx
   exact⟨Z',f,q⟩
  ·cases e
 |tup xs=>
  obtain⟨ys,rfl,hy⟩:=h.SA
  simp only[E8] at e
  split at e
  ·next hx=>
   cases e
   obtain⟨Z',f,q⟩:=mZ xs hs hy hx
   exact⟨Z',f,q⟩
  ·cases e
theorem bF {n:Nat}:∀(l:List PA) {s:Sta},Cg s→∀{us:List AV} {l':List PA} {g':Ab},Aa (AR s.Z s.p) l us→Dk n l s.g=some (l',g')→∃Z',Frz s Z' g'∧Aa (QA Z') l' us
 |[],s,hs,us,l',g',h,e=>by
  cases h
  simp only[Dk,Sj,Pj] at e
  obtain⟨rfl,rfl⟩:=e
  exact⟨s.Z,Frz.refl hs,.nil⟩
 |x::l,s,hs,us,l',g',h,e=>by
  cases h with
  |cons h1 h2=>
  simp only[Dk] at e
  split at e
  ·next y g1 hy=>
   split at e
   ·next ys g2 hys=>
    cases e
    obtain⟨Z1,f1,q1⟩:=Ue hs h1 hy
    obtain⟨Z2,f2,q2⟩:=bF l (s:=⟨Z1,s.p,g1,s.h⟩) f1.sim (Ak h2 fun _ _ h=>h.mono (f1.ext 0 0).zle (fun _ _ h=>h)) hys
    exact⟨Z2,f1.trans hs f2,.cons (q1.mono (f2.ext 0 0).zle) q2⟩
   ·cases e
  ·cases e
end Go.Pv
end
section
noncomputable section
namespace Go.Pv
open Go.Vm
open Go.Vm.Key (kn)
def CLe (c c':Bn):Prop:=∀f a h r,c f a h=some r→c' f a h=some r
variable {c c':Bn}
theorem BW (hc:CLe c c') {a:Bl} {args:List AV} {h:Ac} {r:AV×Ac} (e:a.run c args h=some r):a.run c' args h=some r:=by
 cases a with
 |op o=>exact e
 |call f=>exact hc _ _ _ _ e
 |Ge=>
  simp only[Bl.run] at e ⊢
  split at e
  ·exact hc _ _ _ _ e
  ·cases e
theorem Hj (hc:CLe c c') {o:An} {fr:Fr} {h:Ac} {r:Fr×Ac} (e:o.run c fr h=some r):o.run c' fr h=some r:=by
 unfold An.run at e ⊢
 split at e
 ·next hw=>
  split at e
  ·next args ha=>
   split at e
   ·next v h' hr=>rw[BW hc hr];exact e
   ·cases e
  ·cases e
 ·next hw=>exact e
 ·cases e
theorem Uf (hc:CLe c c'):∀(l:List An) {fr:Fr} {h:Ac} {r:Fr×Ac},Cl c l fr h=some r→Cl c' l fr h=some r
 |[],_,_,_,e=>e
 |o::l,fr,h,r,e=>by
  simp only[Cl] at e ⊢
  split at e
  ·next fr1 h1 h2=>rw[Hj hc h2];exact Uf hc l e
  ·cases e
theorem Gb (hc:CLe c c') (lo hi:Key):∀(l:List DOp) {k:Key} {Ai:List Ac} {fr:Fr} {h:Ac} {r:Fr×Ac},Bf c lo hi l k Ai fr h=some r→Bf c' lo hi l k Ai fr h=some r
 |[],_,_,_,_,_,e=>e
 |d::l,k,Ai,fr,h,r,e=>by
  simp only[Bf] at e ⊢
  split at e
  ·next hk=>
   split at e
   ·next fr1 h1 h2=>rw[Hj hc h2];exact Gb hc lo hi l e
   ·cases e
  ·next hk=>
   split at e
   ·next fr1 h1 h2=>rw[Hj hc h2];exact Gb hc lo hi l e
   ·cases e
  ·next hk=>
   split at e
   ·next o hw ha=>
    split at e
    ·next args hf=>
     split at e
     ·next v h1 hr=>
      split at e
      ·next hcond=>
       simp only[hcond,if_true]
       exact Gb hc lo hi l e
      ·cases e
     ·cases e
    ·cases e
   ·next hw=>
    exact Gb hc lo hi l e
   ·cases e
abbrev noO:Ez:=fun _=>none
abbrev Ex:=Ay→Fr→Ac→Option (B2×Fr×Ac)
def XLe (x x':Ex):Prop:=∀cd fr h r,x cd fr h=some r→x' cd fr h=some r
theorem bG {F:A4} {x x':Ex} (hx:XLe x x'):CLe (Bo F noO x) (Bo F noO x'):=by
 intro f a h r e
 simp only[Bo] at e ⊢
 split at e
 ·next vf hf=>
  split at e
  ·cases e
  ·next x1 fr1 h1 hne hr=>
   rw[hx _ _ _ _ hr]
   cases x1 with
   |exit id=>exact absurd rfl (hne id)
   |normal=>exact e
   |ret=>exact e
  ·cases e
 ·cases e
section
variable {F:A4} {O:Ez} {n:Nat} {fr:Fr} {h:Ac}
theorem Wb (ops:List An):exec F O (n+1) (.region ops) fr h=match Cl (Bo F O (exec F O n)) ops fr h with
   |some (fr,h)=>some (.normal,fr,h)
   |none=>none:=rfl
theorem bH (ops:List DOp):exec F O (n+1) (.drawn ops) fr h=match Bf (Bo F O (exec F O n)) h.next (Bt h.next (Az ops)) ops h.next [] fr { h with next:=Bt h.next (Az ops) } with
   |some (fr,h)=>some (.normal,fr,h)
   |none=>none:=rfl
theorem Sw (a b:Ay):exec F O (n+1) (.seq a b) fr h=match exec F O n a fr h with
   |some (.normal,fr,h)=>exec F O n b fr h
   |r=>r:=rfl
theorem Ug (x:VX) (a b:Ay):exec F O (n+1) (.cond x a b) fr h=match x.eval fr with
   |some (.v (.s (.bool true)))=>exec F O n a fr h
   |some (.v (.s (.bool false)))=>exec F O n b fr h
   |_=>none:=rfl
theorem Gv (id:Nat) (a:Ay):exec F O (n+1) (.block id a) fr h=match exec F O n a fr h with
   |some (.exit j,fr,h)=>if j=id then some (.normal,fr,h) else some (.exit j,fr,h)
   |r=>r:=rfl
theorem Ie (a:Ay):exec F O (n+1) (.loop a) fr h=match exec F O n a fr h with
   |some (.normal,fr,h)=>exec F O n (.loop a) fr h
   |r=>r:=rfl
end
theorem fD {F:A4}:∀n,XLe (exec F noO n) (exec F noO (n+1))
 |0=>by intro cd fr h r e;cases e
 |n+1=>by
  have ih:=fD (F:=F) n
  have hc:=bG (F:=F) ih
  intro cd fr h r e
  cases cd with
  |skip=>exact e
  |region ops=>
   rw[Wb] at e ⊢
   split at e
   ·next fr1 h1 h2=>rw[Uf hc ops h2];exact e
   ·cases e
  |drawn ops=>
   rw[bH] at e ⊢
   split at e
   ·next fr1 h1 h2=>rw[Gb hc _ _ ops h2];exact e
   ·cases e
  |seq a b=>
   rw[Sw] at e ⊢
   cases hr:exec F noO n a fr h with
   |none=>rw[hr] at e;cases e
   |some q=>
    rw[hr] at e;rw[ih _ _ _ _ hr]
    obtain⟨x,fr1,h1⟩:=q
    cases x with
    |normal=>exact ih _ _ _ _ e
    |exit id=>exact e
    |ret=>exact e
  |cond x a b=>
   rw[Ug] at e ⊢
   split at e
   ·next h1=>exact ih _ _ _ _ e
   ·next h1=>exact ih _ _ _ _ e
   ·cases e
  |block id a=>
   rw[Gv] at e ⊢
   cases hr:exec F noO n a fr h with
   |none=>rw[hr] at e;cases e
   |some q=>
    rw[hr] at e;rw[ih _ _ _ _ hr]
    obtain⟨x,fr1,h1⟩:=q
    cases x with
    |normal=>exact e
    |exit id=>exact e
    |ret=>exact e
  |loop a=>
   rw[Ie] at e ⊢
   cases hr:exec F noO n a fr h with
   |none=>rw[hr] at e;cases e
   |some q=>
    rw[hr] at e;rw[ih _ _ _ _ hr]
    obtain⟨x,fr1,h1⟩:=q
    cases x with
    |normal=>exact ih _ _ _ _ e
    |exit id=>exact e
    |ret=>exact e
  |exit id=>exact e
  |ret=>exact e
theorem Gw {F:A4} {n m:Nat} (h:n≤m):XLe (exec F noO n) (exec F noO m):=by
 induction h with
 |refl=>exact fun _ _ _ _ e=>e
 |step _ ih=>exact fun cd fr h r e=>fD _ _ _ _ _ (ih cd fr h r e)
theorem Kx {F:A4} {n m:Nat} (h:n≤m):CLe (Bo F noO (exec F noO n)) (Bo F noO (exec F noO m)):=bG (Gw h)
end Go.Pv
end
section
noncomputable section
namespace Go.Pv
open Go.Vm
open Go.Vm.Key (kn)
def rB (F:A4) (pc:E7):Prop:=∀(f:Nat) (s:Sta),Good s→∀(args:List PA) (vs:List AV) (v:PA) (g':Ab),Aa (AR s.Z s.p) args vs→pc f args s.g=some (v,g') →
 ∃N u h' Z' p',Bo F noO (exec F noO N) f vs s.h=some (u,h')∧Good ⟨Z',p',g',h'⟩∧Ba s.g.next.toNat s.h.next.toNat s ⟨Z',p',g',h'⟩∧AR Z' p' v u
def FR (Z:ZM) (p:Ren) (fr:PFr) (fr1:Fr):Prop:=∀k v,fr.get k=some v→∃u,fr1.get k=some u∧AR Z p v u
variable {Z:ZM} {p:Ren} {fr:PFr} {fr1:Fr} {F:A4} {pc:E7}
theorem FR.mono {Z':ZM} {p':Ren} (hz:ZLe Z Z') (hp:PLe p p') (h:FR Z p fr fr1):FR Z' p' fr fr1:=by
 intro k v e
 obtain⟨u,h1,h2⟩:=h k v e
 exact⟨u,h1,h2.mono hz hp⟩
theorem J7 (d:Option Key) (v:PA) (k:Key):(Kl fr d v).get k=if d=some k then some v else fr.get k:=by
 cases d with
 |none=>simp[Kl]
 |some d=>
  simp only[Kl,Tr.Av,Sj]
theorem Hk (d:Option Key) (v:AV) (k:Key):(Bp fr1 d v).get k=if d=some k then some v else fr1.get k:=by
 cases d with
 |none=>simp[Bp]
 |some d=>
  simp only[Bp,Tr.Av,Sj]
theorem FR.put (h:FR Z p fr fr1) {v:PA} {u:AV} (hv:AR Z p v u) (d:Option Key):FR Z p (Kl fr d v) (Bp fr1 d u):=by
 intro k w e
 rw[J7] at e
 rw[Hk]
 split at e
 ·next hd=>cases e;rw[if_pos hd];exact⟨u,rfl,hv⟩
 ·next hd=>rw[if_neg hd];exact h k w e
theorem Pz (h:FR Z p fr fr1) {x:VX} {v:PA} (e:Pa fr x=some v):∃u,x.eval fr1=some u∧AR Z p v u:=by
 cases x with
 |t k=>exact h k v e
 |c a=>exact⟨a,rfl,mU e⟩
theorem Hl (h:FR Z p fr fr1):∀{xs:List VX} {vs:List PA},D6 fr xs=some vs→∃us,Cn fr1 xs=some us∧Aa (AR Z p) vs us
 |[],vs,e=>by cases e;exact⟨[],rfl,.nil⟩
 |x::xs,vs,e=>by
  simp only[D6] at e
  split at e
  ·next v hv=>
   split at e
   ·next vs' hvs=>
    cases e
    obtain⟨u,h1,h2⟩:=Pz h hv
    obtain⟨us,h3,h4⟩:=Hl h hvs
    exact⟨u::us,by simp only[Cn,h1,h3],.cons h2 h4⟩
   ·cases e
  ·cases e
theorem yC {v:PA} {c:Bool} (h:AR Z p v (.v (.s (.bool c)))):v=.v (.s (.bool c)):=by
 cases v with
 |tup _=>exact absurd h id
 |v x=>cases x with
  |agg _=>exact absurd h id
  |s x=>
   have h:B4 Z p x (.bool c):=h
   cases x with
   |ptr b o=>obtain⟨_,_,e⟩:=h;cases e
   |slice b o len es cap=>obtain⟨_,_,e⟩:=h;cases e
   |map b=>obtain⟨_,_,e⟩:=h;cases e
   |func f fs cs=>obtain⟨_,_,e,_⟩:=h;cases e
   |bool b=>have h:Aj Z (.bool b) (.bool c):=h;cases h;rfl
   |int k n=>have h:Aj Z (.int k n) (.bool c):=h;cases h
   |str l=>have h:Aj Z (.str l) (.bool c):=h;cases h
   |Eb=>have h:Aj Z .Eb (.bool c):=h;cases h
   |Af=>have h:Aj Z .Af (.bool c):=h;cases h
   |Dv=>have h:Aj Z .Dv (.bool c):=h;cases h
   |Fe=>have h:Aj Z .Fe (.bool c):=h;cases h
   |lst es l cap=>have h:Aj Z (.lst es l cap) (.bool c):=h;cases h
   |rp l=>have h:Aj Z (.rp l) (.bool c):=h;cases h
   |mp ks vs=>have h:Aj Z (.mp ks vs) (.bool c):=h;cases h
theorem Df (h:FR Z p fr fr1) {g:Option (Key×Bool)} {c:Bool} (e:Cu fr g=some c):Di fr1 g=some c:=by
 unfold Cu at e
 split at e
 ·exact e
 ·next k b=>
  split at e
  ·next b' hb=>
   obtain⟨u,h1,h2⟩:=h _ _ hb
   obtain⟨z,rfl,hz⟩:=h2.s
   cases Aj.Ub hz
   simp only[Di,h1];exact e
  ·next v hnb hb=>
   obtain⟨u,h1,h2⟩:=h _ _ hb
   simp only[Di,h1]
   split
   ·next c' hc'=>cases hc';exact absurd (yC h2) (hnb c')
   ·exact e
   ·next h0=>cases h0
  ·cases e
theorem Je {l:List (Key×Nat)} {m:List (Key×Nat)} (h:Aa (aR p) l m):Aa (AR Z p) (Rs l) (m.map fun q=>AV.v (.s (.ptr q.1 q.2))):=by
 induction h with
 |nil=>exact .nil
 |cons h _ ih=>
  refine .cons ?_ ih
  obtain⟨h1,h2⟩:=h
  exact⟨_,h1,by rw[h2]⟩
variable {s:Sta}
theorem IN (hc:rB F pc) (hs:Good s) {a:Bl} {args:List PA} {vs:List AV} {v:PA} {g':Ab} (ha:Aa (AR s.Z s.p) args vs) (e:lI pc a args s.g=some (v,g')) :
  ∃N u h' Z' p',a.run (Bo F noO (exec F noO N)) vs s.h=some (u,h')∧Good ⟨Z',p',g',h'⟩∧Ba s.g.next.toNat s.h.next.toNat s ⟨Z',p',g',h'⟩∧AR Z' p' v u:=by
 unfold lI at e
 split at e
 ·obtain⟨u,h',p',h1,h2,h3,h4⟩:=BV _ s hs args vs v g' ha e
  exact⟨0,u,h',s.Z,p',h1,h2,h3,h4⟩
 ·exact hc _ s hs args vs v g' ha e
 ·split at e
  ·next f fs cs xs=>
   cases ha with
   |cons h1 h2=>
   obtain⟨z,rfl,fs',cs',rfl,h3,h4⟩:=h1.s
   obtain⟨N,u,h',Z',p',h5,h6⟩:=hc f s hs _ _ v g' (A0 (A0 (Je h3) h2) (Je h4)) e
   exact⟨N,u,h',Z',p',h5,h6⟩
  ·cases e
theorem Gx:AR Z p .unit .unit:=AR.mkT .nil
theorem nA (hc:rB F pc) (hs:Good s) {o:An} (hf:FR s.Z s.p fr fr1) {fr':PFr} {g':Ab} (e:Kt pc o fr s.g=some (fr',g')) :
  ∃N v u h' Z' p',o.run (Bo F noO (exec F noO N)) fr1 s.h=some (Bp fr1 o.dst u,h')∧fr'=Kl fr o.dst v∧Good ⟨Z',p',g',h'⟩∧Ba s.g.next.toNat s.h.next.toNat s ⟨Z',p',g',h'⟩∧AR Z' p' v u:=by
 unfold Kt at e
 split at e
 ·next hw=>
  split at e
  ·next args ha=>
   split at e
   ·next v g1 hr=>
    cases e
    obtain⟨us,h1,h2⟩:=Hl hf ha
    obtain⟨N,u,h',Z',p',h3,h4,h5,h6⟩:=IN hc hs h2 hr
    exact⟨N,v,u,h',Z',p',by simp only[An.run,Df hf hw,h1,h3],rfl,h4,h5,h6⟩
   ·cases e
  ·cases e
 ·next hw=>
  cases e
  exact⟨0,.unit,.unit,s.h,s.Z,s.p,by simp only[An.run,Df hf hw],rfl,hs,Ba.refl _ _ _,Gx⟩
 ·cases e
theorem uW (hc:rB F pc):∀(l:List An) {s:Sta} {fr:PFr} {fr1:Fr},Good s→FR s.Z s.p fr fr1→∀{fr':PFr} {g':Ab},qE pc l fr s.g=some (fr',g') →
  ∃N fr1' h' Z' p',Cl (Bo F noO (exec F noO N)) l fr1 s.h=some (fr1',h')∧Good ⟨Z',p',g',h'⟩∧Ba s.g.next.toNat s.h.next.toNat s ⟨Z',p',g',h'⟩∧FR Z' p' fr' fr1'
 |[],s,fr,fr1,hs,hf,fr',g',e=>by cases e;exact⟨0,fr1,s.h,s.Z,s.p,rfl,hs,Ba.refl _ _ _,hf⟩
 |o::l,s,fr,fr1,hs,hf,fr',g',e=>by
  simp only[qE] at e
  split at e
  ·next fr2 g2 ho=>
   obtain⟨N,v,u,h2,Z2,p2,h3,rfl,h4,h5,h6⟩:=nA hc hs hf ho
   obtain⟨N',fr3,h7,Z3,p3,h8,h9,h10,h11⟩:=uW hc l h4 ((hf.mono h5.zle h5.ple).put h6 o.dst) e
   refine⟨max N N',fr3,h7,Z3,p3,?_,h9,h5.trans hs.toCg h10 h5.nx.1 h5.nx.2,h11⟩
   simp only[Cl,Hj (Kx (Nat.le_max_left N N')) h3]
   exact Uf (Kx (Nat.le_max_right N N')) l h8
  ·cases e
theorem P0 {o n:Nat}:∀{l:List (Nat×Nat)},Pb o n l=true→∀i,o≤i→i<o+n→Still l i
 |[],_,i,_,_=>by intro q hq;cases hq
 |(a,m)::l,h,i,h1,h2=>by
  intro q hq
  simp only[Pb,Bool.and_eq_true,Bool.or_eq_true,Nat.ble_eq] at h
  rcases List.mem_cons.1 hq with rfl|hq
  ·simp only;omega
  ·exact P0 h.2 i h1 h2 q hq
theorem iO {lo lov:Nat} {s s':Sta} (hs:Cg s) (he:Ba lo lov s s') {k:Key} {o n:Nat} (h:Nl (some (k,some (o,n))) s.g s'.g=true) :
  ∃x x' b,s.g.get k=some x∧s'.g.get k=some x'∧s.p k=some b∧∃y y',s.h.get b=some y∧s'.h.get b=some y'∧∃new,Iu new x.body x'.body y.body y'.body∧∀i,o≤i→i<o+n→Still new i:=by
 simp only[Nl] at h
 split at h
 ·next x x' h1 h2=>
  obtain⟨b,y,h3,h4,_⟩:=hs.blk k x h1
  obtain⟨new,h5,h6⟩:=he.log k x x' h1 h2
  obtain⟨y',h7,h8⟩:=h6 b y h3 h4
  rw[h5] at h
  have:(new++x.log).take ((new++x.log).length-x.log.length)=new:=by simp
  rw[this] at h
  exact⟨x,x',b,h1,h2,h3,y,y',h4,h7,new,h8,P0 h⟩
 ·cases h
theorem bI {lo lov:Nat} {s s':Sta} (hs:Cg s) (he:Ba lo lov s s') {k:Key} (h:Nl (some (k,none)) s.g s'.g=true) :
  ∃x x' b,s.g.get k=some x∧s'.g.get k=some x'∧s.p k=some b∧∃y y',s.h.get b=some y∧s'.h.get b=some y'∧x'.body=x.body∧y'.body=y.body:=by
 simp only[Nl] at h
 split at h
 ·next x x' h1 h2=>
  obtain⟨b,y,h3,h4,_⟩:=hs.blk k x h1
  obtain⟨new,h5,h6⟩:=he.log k x x' h1 h2
  obtain⟨y',h7,h8⟩:=h6 b y h3 h4
  rw[h5] at h
  have:new=[]:=by
   simp only[La,Nat.beq_eq] at h
   exact List.length_eq_zero_iff.1 (by omega)
  exact⟨x,x',b,h1,h2,h3,y,y',h4,h7,(h8.same this).1,(h8.same this).2⟩
 ·cases h
theorem rC {g g':Ab} {k:Key} {o n:Nat} {l:List PV} (h:g'.read k o n=some l) (hn:n≠0) {x x':Ap} (h1:g.get k=some x) (h2:g'.get k=some x')
  (hk:∀c',x'.body=.cells c'→∃c,x.body=.cells c∧c.length=c'.length∧∀i,o≤i→i<o+n→c[i]?=c'[i]?):g.read k o n=some l:=by
 unfold Ab.read at h ⊢
 rw[if_neg hn] at h ⊢
 split at h
 ·next c' hc'=>
  split at h
  ·next hle=>
   cases h
   obtain⟨own,frz,anc,log,hx⟩:=Ps (s:=⟨fun _=>none,fun _=>none,g',default⟩) hc'
   simp only at hx
   rw[h2] at hx;cases hx
   obtain⟨c,h3,h4,h5⟩:=hk c' rfl
   obtain⟨body,own',frz',anc',log'⟩:=x
   simp only at h3;subst h3
   have:g.cells k=some c:=by simp[Ab.cells,h1]
   simp only[this,h4,hle,if_true,Sj]
   apply List.ext_getElem?
   intro i
   rw[List.getElem?_take,List.getElem?_take]
   split
   ·next hi=>rw[List.getElem?_drop,List.getElem?_drop];exact h5 _ (by omega) (by omega)
   ·rfl
  ·cases h
 ·cases h
theorem rD {g g':Ac} {k:Key} {o n:Nat} {l:List SV} (h:g'.read k o n=some l) (hn:n≠0) {x x':Blk} (h1:g.get k=some x) (h2:g'.get k=some x')
  (hk:∀c' m,x'.body=.cells c' m→∃c,x.body=.cells c m∧∀i,o≤i→i<o+n→c.get (kn i)=c'.get (kn i)):g.read k o n=some l:=by
 unfold Ac.read at h ⊢
 rw[if_neg hn] at h ⊢
 split at h
 ·next c' m hc'=>
  split at h
  ·next hle=>
   unfold Ac.cells at hc'
   split at hc'
   ·next c0 n0 own anc hx=>
    cases hc'
    rw[h2] at hx;cases hx
    obtain⟨c,h3,h4⟩:=hk _ _ rfl
    obtain⟨body,own',anc'⟩:=x
    simp only at h3;subst h3
    have:g.cells k=some (c,m):=by simp[Ac.cells,h1]
    simp only[this,hle,if_true]
    have key:∀(n o:Nat) (l:List SV),(∀i,o≤i→i<o+n→c.get (kn i)=c'.get (kn i))→Jl c' o n=some l→Jl c o n=some l:=by
     intro n
     induction n with
     |zero=>intro o l _ e;exact e
     |succ n ih=>
      intro o l hh e
      simp only[Jl] at e ⊢
      rw[hh o (by omega) (by omega)]
      split at e
      ·next v hv=>
       split at e
       ·next l' hl=>
        simp only[ih (o+1) l' (fun i h1 h2=>hh i (by omega) (by omega)) hl]
        exact e
       ·cases e
      ·cases e
    exact key n o l h4 h
   ·cases hc'
  ·cases h
 ·cases h
theorem Iu.OQ {new:List (Nat×Nat)} {B B':C5} {C C':Body} (h:Iu new B B' C C') {Z Z':ZM} {p p':Ren} (hb:BR Z p B C) (hb':BR Z' p' B' C') {o n:Nat} (hst:∀i,o≤i→i<o+n→Still new i) :
  (∀c',B'=.cells c'→∃c,B=.cells c∧c.length=c'.length∧∀i,o≤i→i<o+n→c[i]?=c'[i]?) ∧
  (∀c' m,C'=.cells c' m→∃c,C=.cells c m∧∀i,o≤i→i<o+n→c.get (kn i)=c'.get (kn i)):=by
 have main:∀l,B=.cells l→(∀c',B'=.cells c'→∃c,B=.cells c∧c.length=c'.length∧∀i,o≤i→i<o+n→c[i]?=c'[i]?) ∧
  (∀c' m,C'=.cells c' m→∃c,C=.cells c m∧∀i,o≤i→i<o+n→c.get (kn i)=c'.get (kn i)):=by
  intro l hl
  subst hl
  obtain⟨c,rfl,_⟩:=hb.cells
  obtain⟨l',c',rfl,rfl,h3,h4⟩:=h.cells l c _ rfl rfl
  exact⟨fun c1 e=>by cases e;exact⟨l,rfl,h3.symm,fun i h1 h2=>(h4 i (hst i h1 h2)).1.symm⟩,fun c1 m e=>by cases e;exact⟨c,rfl,fun i h1 h2=>(h4 i (hst i h1 h2)).2.symm⟩⟩
 refine⟨fun c' e=>?_,fun c' m e=>?_⟩
 ·obtain⟨l,hl⟩:=h.kind c' e
  exact(main l hl).1 c' e
 ·subst e
  cases B' with
  |cells l'=>
   obtain⟨l,hl⟩:=h.kind l' rfl
   exact(main l hl).2 c' m rfl
  |map _=>exact absurd hb' id
  |iter _ _ _=>exact absurd hb' id
theorem Xn {lo lov:Nat} {s s':Sta} (hs:Cg s) (hs':Cg s') (he:Ba lo lov s s') {k:Key} {o n:Nat} (h:Nl (some (k,some (o,n))) s.g s'.g=true) (hn:n≠0) {b:Key} (hb:s'.p k=some b) :
  (∀l,s'.g.read k o n=some l→s.g.read k o n=some l)∧(∀l,s'.h.read b o n=some l→s.h.read b o n=some l):=by
 obtain⟨x,x',b1,h1,h2,h3,y,y',h4,h5,new,h6,h7⟩:=iO hs he h
 have h8:=he.ple _ _ h3
 rw[hb] at h8;cases h8
 obtain⟨b2,y2,e1,e2,e3⟩:=hs.blk k x h1
 rw[h3] at e1;cases e1
 rw[h4] at e2;cases e2
 obtain⟨b3,y3,f1,f2,f3⟩:=hs'.blk k x' h2
 rw[hb] at f1;cases f1
 rw[h5] at f2;cases f2
 obtain⟨m1,m2⟩:=h6.OQ e3.body f3.body h7
 exact⟨fun l e=>rC e hn h1 h2 m1,fun l e=>rD e hn h4 h5 m2⟩
end Go.Pv
end
section
noncomputable section
namespace Go.Pv
open Go.Vm
open Go.Vm.Key (kn)
theorem yD {o:VOp} (hb:Ln o=true) (args:List PA):∃r:Option PA,∀h:Ab,opP o args h=r.map fun v=>(v,h):=by
 refine⟨(opP o args default).map (·.1),fun h=>?_⟩
 cases o<;>first|(simp[Ln] at hb;done)|skip
 case mov=>simp only[opP,HN];split<;>rfl
 case pick=>simp only[opP,tW];split<;>rfl
 case build=>simp only[opP,Zp];split<;>(try split)<;>rfl
 case Gp=>simp only[opP,Ks];split<;>rfl
 case bin=>simp only[opP,Ox,Dr];split<;>(try split)<;>rfl
 case eq=>simp only[opP,pEq];split<;>(try split)<;>rfl
 case un=>simp only[opP,pUn,Dr];split<;>(try split)<;>rfl
 case conv=>simp only[opP,tX];split<;>rfl
 case Nc=>simp only[opP,Tm];split<;>rfl
 case slice k lo hi mx=>
  simp only[opP,Vl]
  split
  ·split
   ·split
    ·split
     ·rfl
     ·split<;>rfl
    ·unfold Dr;split<;>rfl
    ·unfold Dr;split<;>rfl
    ·rfl
   ·rfl
  ·rfl
 case B8=>simp only[opP,Sp];split<;>(try split)<;>rfl
 case field=>simp only[opP,Vn,noP];split<;>(try split)<;>rfl
 case pV=>simp only[opP,tY];split<;>(try split)<;>rfl
 case isl=>simp only[opP,gV];split<;>(try split)<;>(try split)<;>rfl
 case idx=>simp only[opP,HO,noP];split<;>(try split)<;>(try split)<;>rfl
 case pW=>simp only[opP,tZ];split<;>(try split)<;>(try split)<;>rfl
 case extract=>simp only[opP,Jq,noP];split<;>(try split)<;>rfl
 case lens=>simp only[opP,lH];split<;>rfl
 case Ld=>simp only[opP,Yy];split<;>rfl
 case Lh=>simp only[opP,Yz];split<;>rfl
 case cap=>simp only[opP,HP];split<;>rfl
 case Jk=>simp only[opP,Tn,Dr];split<;>(try split)<;>rfl
 all_goals rfl
theorem nB {o:VOp} (hb:Ln o=true) (vs:List AV):O7 o vs=none:=by
 cases o<;>first|(simp[Ln] at hb;done)|rfl
variable {lo lov:Nat} {s s':Sta}
theorem IP (hs:Cg s) (hs':Cg s') (he:Ba lo lov s s') {b:Key} (hz:s.Z b≠none) {c:Tr SV} {m:Nat} (h:s'.h.cells b=some (c,m)):s.h.cells b=some (c,m):=by
 cases h1:s.Z b with
 |none=>exact absurd h1 hz
 |some body=>
  obtain⟨⟨b1,o1,a1⟩,e1,e2⟩:=hs.z b body h1
  obtain⟨⟨b2,o2,a2⟩,f1,f2⟩:=hs'.z b body (he.zle _ _ h1)
  simp only at e2 f2
  subst e2;subst f2
  simp only[Ac.cells,f1] at h
  simp only[Ac.cells,e1]
  cases b2<;>first|exact h|cases h
theorem BX (hs:Cg s) (hs':Cg s') (he:Ba lo lov s s') {b:Key} {o n:Nat} (hz:n≠0→s.Z b≠none) {l:List SV} (h:s'.h.read b o n=some l):s.h.read b o n=some l:=by
 unfold Ac.read at h ⊢
 split at h
 ·next h0=>rw[if_pos h0];exact h
 ·next h0=>
  rw[if_neg h0]
  split at h
  ·next c m hc=>rw[IP hs hs' he (hz h0) hc];exact h
  ·cases h
theorem Sx (hs:Cg s) (hs':Cg s') (he:Ba lo lov s s') {o:VOp} (hk:o.kind=.quiet) {args:List PA} {vs:List AV} {v:PA} (ha:Aa (AR s'.Z s'.p) args vs) (e:opP o args s'.g=some (v,s'.g)) {u:AV}
  (hu:o.run vs s'.h=some (u,s'.h)) (hrd:Nl (rdP o args) s.g s'.g=true) (hrf:rdF o args=true→Aa (AR s.Z s.p) args vs):opP o args s.g=some (v,s.g)∧o.run vs s.h=some (u,s.h):=by
 by_cases hb:Ln o=true
 ·obtain⟨r,hr⟩:=yD hb args
  rw[hr] at e ⊢
  cases r with
  |none=>cases e
  |some w=>
   simp only[Option.map_some,Sj,Pj] at e ⊢
   refine⟨⟨e.1,trivial⟩,(En hk hu).2 s.h fun b h=>?_⟩
   rw[nB hb] at h;cases h
 ·cases o<;>first|exact absurd rfl hb|(simp[VOp.kind] at hk;done)|skip
  case Bm=>
   simp only[opP,Lk] at e
   split at e
   ·next b o=>
    obtain⟨y,rfl,h⟩:=Aa.one ha
    obtain⟨z,rfl,b',hp,rfl⟩:=h.s
    obtain⟨m1,m2⟩:=Xn hs hs' he hrd (by omega) hp
    split at e
    ·next x hx=>
     cases e
     simp only[VOp.run,Fx] at hu
     split at hu
     ·next w hw=>
      cases hu
      exact⟨by simp only[opP,Lk,m1 _ hx],by simp only[VOp.run,Fx,m2 _ hw]⟩
     ·cases hu
    ·cases e
   ·next x l=>
    obtain⟨y,rfl,h⟩:=Aa.one (hrf rfl)
    obtain⟨z,rfl,hz⟩:=h.s
    obtain⟨b,o,f,rfl,h1,h2⟩:=Aj.rp' hz
    cases e
    simp only[VOp.run,Fx] at hu
    split at hu
    ·next w hw=>
     cases hu
     obtain⟨c,m,h3,_⟩:=h1 (by simp)
     have:=BX hs hs' he (fun _=>by rw[h3];simp) hw
     exact⟨rfl,by simp only[VOp.run,Fx,this]⟩
    ·cases hu
   ·cases e
  case B5 n=>
   simp only[opP,Fz] at e
   split at e
   ·next b o=>
    obtain⟨y,rfl,h⟩:=Aa.one ha
    obtain⟨z,rfl,b',hp,rfl⟩:=h.s
    split at e
    ·next x hx=>
     cases e
     simp only[VOp.run,Fy] at hu
     split at hu
     ·next w hw=>
      cases hu
      by_cases h0:n=0
      ·subst h0
       simp only[Ab.read,Ac.read,if_true,Sj] at hx hw
       subst hx;subst hw
       exact⟨by simp[opP,Fz,Ab.read],by simp[VOp.run,Fy,Ac.read]⟩
      ·simp only[rdP,h0,if_false] at hrd
       obtain⟨m1,m2⟩:=Xn hs hs' he hrd h0 hp
       exact⟨by simp only[opP,Fz,m1 _ hx],by simp only[VOp.run,Fy,m2 _ hw]⟩
     ·cases hu
    ·cases e
   ·next l=>
    obtain⟨y,rfl,h⟩:=Aa.one (hrf rfl)
    obtain⟨z,rfl,hz⟩:=h.s
    obtain⟨b,o,f,rfl,h1,h2⟩:=Aj.rp' hz
    split at e
    ·next hn=>
     cases e
     simp only[VOp.run,Fy] at hu
     split at hu
     ·next w hw=>
      cases hu
      have:=BX hs hs' he (fun h0=>by obtain⟨c,m,h3,_⟩:=h1 (by omega);rw[h3];simp) hw
      exact⟨by simp only[opP,Fz];rw[if_pos hn],by simp only[VOp.run,Fy,this]⟩
     ·cases hu
    ·cases e
   ·cases e
  case lookup ks zero ok=>
   simp only[opP,Es] at e
   split at e
   ·next k=>
    obtain⟨y,k',rfl,h,hk'⟩:=Aa.two ha
    obtain⟨z,rfl,hz⟩:=h.s
    cases Aj.R0 hz
    obtain⟨k',rfl,hk'⟩:=hk'.cv
    refine⟨?_,(En hk hu).2 s.h fun b h=>by cases h⟩
    split at e
    ·next z hz=>
     split at e
     ·next hf=>cases e;simp only[opP,Es,hz];rw[if_pos hf]
     ·cases e
    ·cases e
   ·next b k=>
    obtain⟨y,k',rfl,h,hk'⟩:=Aa.two ha
    obtain⟨z,rfl,b',hp,rfl⟩:=h.s
    obtain⟨k',rfl,hk'⟩:=hk'.cv
    obtain⟨x,x',b1,h1,h2,h3,y,y',h4,h5,h6,h7⟩:=bI hs he hrd
    have h8:=he.ple _ _ h3
    rw[hp] at h8;cases h8
    obtain⟨body,own,frz,anc,log⟩:=x
    obtain⟨body',own',frz',anc',log'⟩:=x'
    obtain⟨yb,yo,ya⟩:=y
    obtain⟨yb',yo',ya'⟩:=y'
    simp only at h6 h7
    subst h6;subst h7
    rw[h2] at e
    constructor
    ·simp only[opP,Es,h1]
     split at e
     ·next z hz=>
      split at e
      ·next hf=>
       rw[if_pos hf]
       cases body' with
       |map l=>
        simp only at e ⊢
        split at e
        ·cases e;rfl
        ·cases e
       |cells _=>cases e
       |iter _ _ _=>cases e
      ·cases e
     ·cases e
    ·simp only[VOp.run,Dq,h5] at hu
     simp only[VOp.run,Dq,h4]
     split at hu
     ·next hf=>
      rw[if_pos hf]
      cases yb' with
      |map l=>
       simp only at hu ⊢
       split at hu
       ·cases hu;rfl
       ·cases hu
      |cells _ _=>cases hu
      |iter _ _ _=>cases hu
      |eH _ _=>cases hu
     ·cases hu
   ·next a b k=>
    obtain⟨y,k',rfl,h,hk'⟩:=Aa.two (hrf rfl)
    obtain⟨z,rfl,hz⟩:=h.s
    obtain⟨b',lv,rfl,hzb,_⟩:=Aj.mp' hz
    obtain⟨k',rfl,hk'⟩:=hk'.cv
    obtain⟨⟨yb,yo,ya⟩,h2,h3⟩:=hs.z _ _ hzb
    obtain⟨⟨zb,zo,za⟩,h4,h5⟩:=hs'.z _ _ (he.zle _ _ hzb)
    simp only at h3 h5
    subst h3;subst h5
    constructor
    ·simp only[opP,Es]
     split at e
     ·next z hz=>
      split at e
      ·next hf=>
       rw[if_pos hf]
       split at e
       ·next r hr=>cases e;rfl
       ·cases e
      ·cases e
     ·cases e
    ·simp only[VOp.run,Dq,h4] at hu
     simp only[VOp.run,Dq,h2]
     split at hu
     ·next hf=>
      rw[if_pos hf]
      split at hu
      ·cases hu;rfl
      ·cases hu
     ·cases hu
   ·cases e
  case dV=>
   simp only[opP,eO] at e
   split at e
   ·obtain⟨y,rfl,h⟩:=Aa.one ha
    obtain⟨z,rfl,hz⟩:=h.s
    cases Aj.R0 hz
    cases e
    exact⟨rfl,(En hk hu).2 s.h fun b h=>by cases h⟩
   ·next b=>
    obtain⟨y,rfl,h⟩:=Aa.one ha
    obtain⟨z,rfl,b',hp,rfl⟩:=h.s
    obtain⟨x,x',b1,h1,h2,h3,y,y',h4,h5,h6,h7⟩:=bI hs he hrd
    have h8:=he.ple _ _ h3
    rw[hp] at h8;cases h8
    obtain⟨body,own,frz,anc,log⟩:=x
    obtain⟨body',own',frz',anc',log'⟩:=x'
    obtain⟨yb,yo,ya⟩:=y
    obtain⟨yb',yo',ya'⟩:=y'
    simp only at h6 h7
    subst h6;subst h7
    rw[h2] at e
    constructor
    ·simp only[opP,eO,h1]
     cases body' with
     |map l=>cases e;rfl
     |cells _=>cases e
     |iter _ _ _=>cases e
    ·simp only[VOp.run,O5,h5] at hu
     simp only[VOp.run,O5,h4]
     cases yb' with
     |map l=>cases hu;rfl
     |cells _ _=>cases hu
     |iter _ _ _=>cases hu
     |eH _ _=>cases hu
   ·cases e
theorem rE (hs:Cg s) {o:VOp} (hk:o.kind=.quiet) {args:List PA} {vs:List AV} {v:PA} {g':Ab} (ha:Aa (AR s.Z s.p) args vs) (e:opP o args s.g=some (v,g')) {b:Key} (hb:O7 o vs=some b) :
  (∃k r,rdP o args=some (k,r)∧s.p k=some b)∨(rdF o args=true∧s.Z b≠none):=by
 by_cases hbl:Ln o=true
 ·rw[nB hbl] at hb;cases hb
 ·cases o<;>first|exact absurd rfl hbl|(simp[VOp.kind] at hk;done)|skip
  case Bm=>
   simp only[opP,Lk] at e
   split at e
   ·next b o=>
    obtain⟨y,rfl,h⟩:=Aa.one ha
    obtain⟨z,rfl,b',hp,rfl⟩:=h.s
    cases hb
    exact .inl ⟨_,_,rfl,hp⟩
   ·next x l=>
    obtain⟨y,rfl,h⟩:=Aa.one ha
    obtain⟨z,rfl,hz⟩:=h.s
    obtain⟨b,o,f,rfl,h1,h2⟩:=Aj.rp' hz
    cases hb
    obtain⟨c,m,h3,_⟩:=h1 (by simp)
    exact .inr ⟨rfl,by rw[h3];simp⟩
   ·cases e
  case B5 n=>
   simp only[opP,Fz] at e
   split at e
   ·next b o=>
    obtain⟨y,rfl,h⟩:=Aa.one ha
    obtain⟨z,rfl,b',hp,rfl⟩:=h.s
    simp only[O7] at hb
    split at hb
    ·cases hb
    ·next h0=>cases hb;exact .inl ⟨_,_,by simp only[rdP,h0,if_false];rfl,hp⟩
   ·next l=>
    obtain⟨y,rfl,h⟩:=Aa.one ha
    obtain⟨z,rfl,hz⟩:=h.s
    obtain⟨b,o,f,rfl,h1,h2⟩:=Aj.rp' hz
    simp only[O7] at hb
    split at hb
    ·cases hb
    ·next h0=>
     cases hb
     split at e
     ·next hn=>
      obtain⟨c,m,h3,_⟩:=h1 (by omega)
      exact .inr ⟨rfl,by rw[h3];simp⟩
     ·cases e
   ·cases e
  case lookup ks zero ok=>
   simp only[opP,Es] at e
   split at e
   ·obtain⟨y,k',rfl,h,hk'⟩:=Aa.two ha
    obtain⟨z,rfl,hz⟩:=h.s
    cases Aj.R0 hz
    cases hb
   ·obtain⟨y,k',rfl,h,hk'⟩:=Aa.two ha
    obtain⟨z,rfl,b',hp,rfl⟩:=h.s
    cases hb
    exact .inl ⟨_,_,rfl,hp⟩
   ·obtain⟨y,k',rfl,h,hk'⟩:=Aa.two ha
    obtain⟨z,rfl,hz⟩:=h.s
    obtain⟨b',lv,rfl,hzb,_⟩:=Aj.mp' hz
    cases hb
    exact .inr ⟨rfl,by rw[hzb];simp⟩
   ·cases e
  case dV=>
   simp only[opP,eO] at e
   split at e
   ·obtain⟨y,rfl,h⟩:=Aa.one ha
    obtain⟨z,rfl,hz⟩:=h.s
    cases Aj.R0 hz
    cases hb
   ·obtain⟨y,rfl,h⟩:=Aa.one ha
    obtain⟨z,rfl,b',hp,rfl⟩:=h.s
    cases hb
    exact .inl ⟨_,_,rfl,hp⟩
   ·cases e
end Go.Pv
end
section
noncomputable section
namespace Go.Pv
open Go.Vm
open Go.Vm.Key (kn)
variable {F:A4} {pc:E7} {Z:ZM} {p:Ren}
def Cx (lo lov:Nat) (s:Sta) (fr:PFr) (fr1:Fr) (a:Ab×List Key) (b:Ac):Prop:=
 ∃Z p,Cg ⟨Z,p,a.1,b⟩∧Ba lo lov ⟨Z,p,a.1,b⟩ s∧∀k v,k∉a.2→fr.get k=some v→∃u,fr1.get k=some u∧AR Z p v u
structure eB (lo hi:Key) (lov hiv:Key) (r rv:Key) (s:Sta):Prop where
 D0:Good s
 nx:s.g.next=hi∨hi.toNat≤s.g.next.toNat
 nxv:hiv.toNat≤s.h.next.toNat
 same:∀k b,s.p k=some b→((lo.toNat≤k.toNat∧k.toNat<hi.toNat)↔(lov.toNat≤b.toNat∧b.toNat<hiv.toNat))
 made:∀b:Key,lov.toNat≤b.toNat→b.toNat<hiv.toNat→s.h.get b≠none→∃k,s.p k=some b
 nD:∀k:Key,r.toNat≤k.toNat→k.toNat<hi.toNat→s.p k=none
 fE:∀b:Key,rv.toNat≤b.toNat→b.toNat<hiv.toNat→(∀k,s.p k≠some b)∧s.Z b=none
 step:r.toNat+lov.toNat=rv.toNat+lo.toNat
 len:hi.toNat+lov.toNat=hiv.toNat+lo.toNat
 ge:lo.toNat≤r.toNat
theorem N2 {lo lov:Nat} {s s':Sta} {fr fr':PFr} {fr1 fr1':Fr} (he:∀Z p g h,Cg ⟨Z,p,g,h⟩→Ba lo lov ⟨Z,p,g,h⟩ s→Ba lo lov ⟨Z,p,g,h⟩ s') {d:Option Key}
  (hfr:∀k,d≠some k→fr'.get k=fr.get k) (hfr1:∀k,d≠some k→fr1'.get k=fr1.get k) {a:Dd} {b:List Ac} (h:Aa (Cx lo lov s fr fr1) a b):Aa (Cx lo lov s' fr' fr1') (wrote d a) b:=by
 have one:∀x y,Cx lo lov s fr fr1 x y→Cx lo lov s' fr' fr1' (match d with|some k=>(x.1,k::x.2)|none=>x) y:=by
  rintro x y ⟨Z,p,h1,h2,h3⟩
  cases d with
  |none=>exact⟨Z,p,h1,he _ _ _ _ h1 h2,fun k v hk e=>by rw[hfr k (by simp)] at e;rw[hfr1 k (by simp)];exact h3 k v hk e⟩
  |some d=>
   refine⟨Z,p,h1,he _ _ _ _ h1 h2,fun k v hk e=>?_⟩
   simp only[List.mem_cons,not_or] at hk
   rw[hfr k (by simp[Ne.symm hk.1])] at e
   rw[hfr1 k (by simp[Ne.symm hk.1])]
   exact h3 k v hk.2 e
 induction h with
 |nil=>cases d<;>exact .nil
 |cons h _ ih=>
  cases d with
  |none=>exact .cons (one _ _ h) ih
  |some d=>exact .cons (one _ _ h) ih
theorem Sy {g:Ab}:∀{n:Nat} {k:Key},Om g k n=true→∀j:Key,k.toNat≤j.toNat→j.toNat<k.toNat+n→∀x,g.get j=some x→x.frz=false
 |0,k,_,j,h1,h2=>by omega
 |n+1,k,h,j,h1,h2=>by
  intro x hx
  simp only[Om,Bool.and_eq_true] at h
  by_cases e:k.toNat=j.toNat
  ·have:=Key.toNat_inj e
   subst this
   rw[hx] at h
   simpa using h.1
  ·exact Sy h.2 j (by rw[Key.toNat_succ];omega) (by rw[Key.toNat_succ];omega) x hx
theorem P1 {ws:List Key} {fr:PFr} {fr1:Fr} (h:∀k v,k∉ws→fr.get k=some v→∃u,fr1.get k=some u∧AR Z p v u):∀{xs:List VX} {args:List PA} {vs:List AV},Jr ws xs=true→D6 fr xs=some args→Cn fr1 xs=some vs→Aa (AR Z p) args vs
 |[],args,vs,_,e,e'=>by cases e;cases e';exact .nil
 |x::xs,args,vs,hk,e,e'=>by
  simp only[D6] at e
  simp only[Cn] at e'
  split at e
  ·next v hv=>
   split at e
   ·next ws' hws=>
    cases e
    split at e'
    ·next u hu=>
     split at e'
     ·next us hus=>
      cases e'
      cases x with
      |t k=>
       simp only[Jr,Bool.and_eq_true,Bool.not_eq_true',List.contains_eq_mem,decide_eq_false_iff_not] at hk
       obtain⟨u',h1,h2⟩:=h k v hk.1 hv
       simp only[VX.eval] at hu
       rw[h1] at hu;cases hu
       exact .cons h2 (P1 h hk.2 hws hus)
      |c a=>
       simp only[Jr] at hk
       simp only[VX.eval,Sj] at hu
       subst hu
       exact .cons (mU hv) (P1 h hk hws hus)
     ·cases e'
    ·cases e'
   ·cases e
  ·cases e
theorem nE (v:AV):AV.beq v v=true:=by simp[AV.beq]
theorem bJ {lo lov:Nat} {s:Sta} (hs:Cg s) {fr:PFr} {fr1:Fr} {o:VOp} (hk:o.kind=.quiet) {xs:List VX} {args:List PA} {vs:List AV} (hfe:D6 fr xs=some args) (hfe1:Cn fr1 xs=some vs) (ha:Aa (AR s.Z s.p) args vs)
  {v:PA} {u:AV} (e:opP o args s.g=some (v,s.g)) (hu:o.run vs s.h=some (u,s.h)):∀{a:Dd} {b:List Ac},Aa (Cx lo lov s fr fr1) a b→Ku xs (rdP o args) (rdF o args) s.g a=true→Hf o vs u b=true
 |[],[],_,_=>rfl
 |(g,ws)::a,h::b,hab,hsame=>by
  cases hab with
  |cons h1 h2=>
  obtain⟨Z,p,h3,h4,h5⟩:=h1
  simp only[Ku,Bool.and_eq_true,Bool.or_eq_true,Bool.not_eq_true'] at hsame
  obtain⟨⟨hk1,hk2⟩,hk3⟩:=hsame
  have:=(Sx h3 hs h4 hk ha e hu hk2 fun hf=>by
   rcases hk1 with hk1|hk1
   ·rw[hf] at hk1;cases hk1
   ·exact P1 h5 hk1 hfe hfe1).2
  simp only[Hf,this,nE,Bool.true_and]
  exact bJ hs hk hfe hfe1 ha e hu h2 hk3
 |[],_::_,hab,_=>by cases hab
 |_::_,[],hab,_=>by cases hab
theorem Sz {lo lov:Nat} {s:Sta} (hs:Cg s) {fr:PFr} {fr1:Fr} {o:VOp} (hk:o.kind=.quiet) {xs:List VX} {args:List PA} {vs:List AV} (hfe:D6 fr xs=some args) (hfe1:Cn fr1 xs=some vs) (ha:Aa (AR s.Z s.p) args vs)
  {v:PA} {u:AV} (e:opP o args s.g=some (v,s.g)) (hu:o.run vs s.h=some (u,s.h)) (d:Option Key):∀{a:Dd} {b:List Ac},Aa (Cx lo lov s fr fr1) a b→Aa (Cx lo lov s (Kl fr d v) (Bp fr1 d u)) (Js d xs (rdP o args) s.g a) b
 |[],[],_=>.nil
 |(g,ws)::a,h::b,hab=>by
  cases hab with
  |cons h1 h2=>
  refine .cons ?_ (Sz hs hk hfe hfe1 ha e hu d h2)
  obtain⟨Z,p,h3,h4,h5⟩:=h1
  refine⟨Z,p,h3,h4,?_⟩
  cases d with
  |none=>exact fun k w hk e=>h5 k w hk e
  |some d=>
   intro k w hkw ew
   simp only[Kl,Tr.Av] at ew
   simp only[Bp,Tr.Av]
   simp only at hkw
   by_cases hd:d=k
   ·subst hd
    simp only[if_true,Sj] at ew ⊢
    subst ew
    split at hkw
    ·next hc=>
     simp only[Bool.and_eq_true] at hc
     have hargs:=P1 h5 hc.1 hfe hfe1
     obtain⟨q1,q2⟩:=Sx h3 hs h4 hk ha e hu hc.2 fun _=>hargs
     obtain⟨_,u',q3,q4⟩:=Q0 hk ⟨Z,p,g,h⟩ h3 args vs _ _ hargs q1
     simp only at q2 q3
     rw[q2] at q3;cases q3
     exact⟨u,rfl,q4⟩
    ·simp at hkw
   ·simp only[hd,if_false] at ew ⊢
    refine h5 k w (fun hm=>hkw ?_) ew
    split
    ·exact hm
    ·exact List.mem_cons_of_mem _ hm
 |[],_::_,hab=>by cases hab
 |_::_,[],hab=>by cases hab
theorem Cg.S0 {Z:ZM} {p:Ren} {g g':Ab} {h h':Ac} (e:g'.mem=g.mem) (e':h'.mem=h.mem) (hs:Cg ⟨Z,p,g,h⟩):Cg ⟨Z,p,g',h'⟩:=by
 have h1:g'.get=g.get:=by funext k;simp[Ab.get,e]
 have h2:h'.get=h.get:=by funext k;simp[Ac.get,e']
 exact⟨hs.inj,fun k x hx=>by simp only[h1,h2] at hx ⊢;exact hs.blk k x hx,fun b c hc=>by simp only[h2];exact hs.z b c hc,fun k b hp hg=>by simp only[h1,h2] at hg ⊢;exact hs.dead k b hp hg⟩
theorem Ba.S0 {lo lov:Nat} {s:Sta} {Z:ZM} {p:Ren} {g g':Ab} {h h':Ac} (e:g'.mem=g.mem) (e':h'.mem=h.mem) (hn:s.g.next.toNat≤g'.next.toNat∧s.h.next.toNat≤h'.next.toNat) (hx:Ba lo lov s ⟨Z,p,g,h⟩):Ba lo lov s ⟨Z,p,g',h'⟩:=by
 have h1:g'.get=g.get:=by funext k;simp[Ab.get,e]
 have h2:h'.get=h.get:=by funext k;simp[Ac.get,e']
 exact⟨hn,hx.zle,hx.ple,hx.I7,hx.Fg,fun b hb hn=>by simp only[h2];exact hx.frame b hb hn,fun k b hp hg=>by simp only[h1];exact hx.gone k b hp hg,
  fun k x x' a b=>by simp only[h1,h2] at b ⊢;exact hx.log k x x' a b⟩
theorem Ba.iP {lo lov:Nat} {s':Sta} {Z:ZM} {p:Ren} {g g':Ab} {h h':Ac} (e:g'.mem=g.mem) (e':h'.mem=h.mem) (hn:g'.next.toNat≤s'.g.next.toNat∧h'.next.toNat≤s'.h.next.toNat) (hx:Ba lo lov ⟨Z,p,g,h⟩ s'):Ba lo lov ⟨Z,p,g',h'⟩ s':=by
 have h1:g'.get=g.get:=by funext k;simp[Ab.get,e]
 have h2:h'.get=h.get:=by funext k;simp[Ac.get,e']
 exact⟨hn,hx.zle,hx.ple,hx.I7,hx.Fg,fun b hb hn=>by simp only[h2];exact hx.frame b hb hn,fun k b hp hg=>hx.gone k b hp (by simp only[h1] at hg;exact hg),
  fun k x x' a b=>by simp only[h1,h2] at a ⊢;exact hx.log k x x' a b⟩
theorem bK {lo hi lov hiv r rv:Key} {s:Sta} (hd:eB lo hi lov hiv r rv s) (hlt:r.toNat<hi.toNat) {o:An} (hk:o.act.kind=.alloc) {fr:PFr} {fr1:Fr} (hf:FR s.Z s.p fr fr1) {fr':PFr} {g':Ab} (e:Kt pc o fr { s.g with next:=r }=some (fr',g')) :
  ∃v u h' p',(∀N,o.run (Bo F noO (exec F noO N)) fr1 { s.h with next:=rv }=some (Bp fr1 o.dst u,h'))∧fr'=Kl fr o.dst v∧eB lo hi lov hiv r.succ rv.succ ⟨s.Z,p',{ g' with next:=s.g.next },{ h' with next:=s.h.next }⟩ ∧
   Ba lo.toNat lov.toNat s ⟨s.Z,p',{ g' with next:=s.g.next },{ h' with next:=s.h.next }⟩∧AR s.Z p' v u:=by
 have hlv:rv.toNat<hiv.toNat:=by have:=hd.step;have:=hd.len;omega
 have hgv:lov.toNat≤rv.toNat:=by have:=hd.step;have:=hd.ge;omega
 unfold Kt at e
 split at e
 ·next hw=>
  split at e
  ·next args ha=>
   split at e
   ·next v g1 hr=>
    cases e
    obtain⟨us,h1,h2⟩:=Hl hf ha
    obtain⟨dst,act,xs,gd⟩:=o
    simp only at hk hw ha hr
    cases act with
    |call f=>simp[Bl.kind] at hk
    |Ge=>simp[Bl.kind] at hk
    |op a=>
     have hsr:Cg ⟨s.Z,s.p,{ s.g with next:=r },{ s.h with next:=rv }⟩:=Cg.S0 (g:=s.g) (h:=s.h) rfl rfl hd.D0.toCg
     have hfa:Su ⟨s.Z,s.p,{ s.g with next:=r },{ s.h with next:=rv }⟩ r rv:=⟨hd.nD r (Rl) hlt,(hd.fE rv (Rl) hlv).2,(hd.fE rv (Rl) hlv).1⟩
     simp only[lI] at hr
     obtain⟨u,body,own,y,rfl,h3,h4,h5,h6⟩:=fC hk _ hsr hfa args us v _ h2 hr
     simp only at h3 h4 h6
     have hns:=uO hsr hfa (anc:=[]) h4 fun ho=>⟨(h5 ho).1,by rw[(h5 ho).2];exact .nil⟩
     have hne:=uP hsr hfa (body:=body) (own:=own) (anc:=[]) (y:=y)
     refine⟨v,u,_,s.p.set r rv,fun N=>by simp only[An.run,Df hf hw,h1,Bl.run,h3];rfl,rfl,?_,?_,h6⟩
     ·refine⟨⟨Cg.S0 (g:=({ s.g with next:=r }:Ab).Bs body own []) (h:=({ s.h with next:=rv }:Ac).Bs y) rfl rfl hns,⟨fun k b hkb=>?_,fun b c hc=>?_,fun b hb=>?_⟩⟩,hd.nx,hd.nxv,fun k b hkb=>?_,fun b hb1 hb2 hb3=>?_,fun k hk1 hk2=>?_,fun b hb1 hb2=>?_,?_,hd.len,?_⟩
      ·simp only at hkb ⊢
       by_cases e:r=k
       ·subst e;rw[Ren.A3] at hkb;cases hkb
        have:=hd.nxv
        rcases hd.nx with h|h
        ·rw[h];omega
        ·omega
       ·rw[Ren.Ca _ _ e] at hkb;exact hd.D0.pk k b hkb
      ·exact hd.D0.zr b c hc
      ·have hb:s.h.next.toNat≤b.toNat:=hb
       have:=hd.nxv
       have hne':rv≠b:=by rintro rfl;omega
       have h9:(({ s.h with next:=rv }:Ac).Bs y).get b=s.h.get b:=by rw[Cf];simp only[hne',if_false];rfl
       exact h9.trans (hd.D0.top b hb)
      ·simp only at hkb
       by_cases e:r=k
       ·subst e;rw[Ren.A3] at hkb;cases hkb
        have:=hd.ge
        exact⟨fun _=>⟨hgv,hlv⟩,fun _=>⟨this,hlt⟩⟩
       ·rw[Ren.Ca _ _ e] at hkb;exact hd.same k b hkb
      ·simp only at hb3 ⊢
       by_cases e:rv=b
       ·subst e;exact⟨r,Ren.A3 _ _ _⟩
       ·have:s.h.get b≠none:=by
         intro h0
         apply hb3
         have:(({ s.h with next:=rv }:Ac).Bs y).get b=none:=by rw[Cf];simp only[e,if_false];exact h0
         exact this
        obtain⟨k,hkb⟩:=hd.made b hb1 hb2 this
        exact⟨k,hfa.le k b hkb⟩
      ·simp only
       rw[Key.toNat_succ] at hk1
       have hne':r≠k:=by rintro rfl;omega
       rw[Ren.Ca _ _ hne']
       exact hd.nD k (by omega) hk2
      ·rw[Key.toNat_succ] at hb1
       obtain⟨h7,h8⟩:=hd.fE b (by omega) hb2
       refine⟨fun k hkb=>?_,h8⟩
       simp only at hkb
       by_cases e:r=k
       ·subst e;rw[Ren.A3] at hkb;cases hkb;omega
       ·rw[Ren.Ca _ _ e] at hkb;exact h7 k hkb
      ·rw[Key.toNat_succ,Key.toNat_succ];have:=hd.step;omega
      ·rw[Key.toNat_succ];have:=hd.ge;omega
     ·have h7:Ba lo.toNat lov.toNat ⟨s.Z,s.p,{ s.g with next:=r },{ s.h with next:=rv }⟩ (Sta.new ⟨s.Z,s.p,{ s.g with next:=r },{ s.h with next:=rv }⟩ body own [] y):=
       (Ba.refl lo.toNat lov.toNat _).trans hsr hne (by simpa using hd.ge) (by simpa using hgv)
      have h8:=Ba.S0 (s:=⟨s.Z,s.p,{ s.g with next:=r },{ s.h with next:=rv }⟩) (Z:=s.Z) (p:=s.p.set r rv) (g:=({ s.g with next:=r }:Ab).Bs body own []) (h:=({ s.h with next:=rv }:Ac).Bs y) (g':={ ({ s.g with next:=r }:Ab).Bs body own [] with next:=s.g.next }) (h':={ ({ s.h with next:=rv }:Ac).Bs y with next:=s.h.next }) rfl rfl
       (by
        have h1:=hd.nxv
        have h2:hi.toNat≤s.g.next.toNat:=by
         rcases hd.nx with h|h
         ·rw[h];exact Rl
         ·exact h
        refine⟨?_,?_⟩
        ·show r.toNat≤s.g.next.toNat
         omega
        ·show rv.toNat≤s.h.next.toNat
         omega) h7
      exact Ba.iP (g:={ s.g with next:=r }) (h:={ s.h with next:=rv }) rfl rfl ⟨Rl,Rl⟩ h8
   ·cases e
  ·cases e
 ·next hw=>
  cases e
  refine⟨.unit,.unit,{ s.h with next:=rv },s.p,fun N=>by simp only[An.run,Df hf hw],rfl,?_,?_,Gx⟩
  ·refine⟨⟨Cg.S0 (g:=s.g) (h:=s.h) rfl rfl hd.D0.toCg,⟨hd.D0.pk,hd.D0.zr,hd.D0.top⟩⟩,hd.nx,hd.nxv,hd.same,hd.made,fun k h1 h2=>hd.nD k (by rw[Key.toNat_succ] at h1;omega) h2,fun b h1 h2=>hd.fE b (by rw[Key.toNat_succ] at h1;omega) h2,?_,hd.len,?_⟩
   ·rw[Key.toNat_succ,Key.toNat_succ];have:=hd.step;omega
   ·rw[Key.toNat_succ];have:=hd.ge;omega
  ·exact Ba.refl _ _ _
 ·cases e
theorem D9 (d:DOp) (l:List DOp):Az (d::l)=(if d.o.act.kind=.alloc then 1 else 0)+Az l:=rfl
theorem Mv (hc:rB F pc) (lo hi lov hiv:Key) (n:Nat) (hn:lo.toNat+n=hi.toNat):∀(l:List DOp) {r rv:Key} {s:Sta} {a:Dd} {b:List Ac} {fr:PFr} {fr1:Fr},eB lo hi lov hiv r rv s→r.toNat+Az l≤hi.toNat→FR s.Z s.p fr fr1→Aa (Cx lo.toNat lov.toNat s fr fr1) a b →
  ∀{fr':PFr} {g':Ab},C7 pc lo hi n l r a fr s.g=some (fr',g') →
  ∃N fr1' h' Z' p',Bf (Bo F noO (exec F noO N)) lov hiv l rv b fr1 s.h=some (fr1',h')∧Good ⟨Z',p',g',h'⟩∧Ba lo.toNat lov.toNat s ⟨Z',p',g',h'⟩∧FR Z' p' fr' fr1'
 |[],r,rv,s,a,b,fr,fr1,hd,_,hf,_,fr',g',e=>by cases e;exact⟨0,fr1,s.h,s.Z,s.p,rfl,hd.D0,Ba.refl _ _ _,hf⟩
 |d::l,r,rv,s,a,b,fr,fr1,hd,hr,hf,hab,fr',g',e=>by
  have hlh:lo.toNat≤hi.toNat:=by omega
  simp only[C7] at e
  split at e
  ·next hk=>
   split at e
   ·next fr2 g2 ho=>
    obtain⟨N,v,u,h2,Z2,p2,h3,rfl,h4,h5,h6⟩:=nA hc hd.D0 hf ho
    have hnx:=hd.nxv
    have hnx0:hi.toNat≤s.g.next.toNat:=by
     rcases hd.nx with h|h
     ·rw[h];exact Rl
     ·exact h
    have hlv:lov.toNat≤hiv.toNat:=by have:=hd.len;omega
    have hd2:eB lo hi lov hiv r rv ⟨Z2,p2,g2,h2⟩:=by
     refine⟨h4,.inr (Nat.le_trans hnx0 h5.nx.1),Nat.le_trans hnx h5.nx.2,fun k b hkb=>?_,fun b hb1 hb2 hb3=>?_,fun k hk1 hk2=>?_,fun b hb1 hb2=>?_,hd.step,hd.len,hd.ge⟩
     ·rcases h5.I7 k b hkb with h|h
      ·exact hd.same k b h
      ·constructor
       ·intro h';omega
       ·intro h';omega
     ·have:=h5.frame b (by omega)
      by_cases hex:∃k,s.p k=some b
      ·obtain⟨k,hkb⟩:=hex;exact⟨k,h5.ple k b hkb⟩
      ·exfalso
       have hfr:=this fun k hkb=>hex ⟨k,hkb⟩
       simp only at hb3 hfr
       rw[hfr] at hb3
       exact hex (hd.made b hb1 hb2 hb3)
     ·cases hkb:p2 k with
      |none=>exact hkb
      |some b=>
       rcases h5.I7 k b hkb with h|h
       ·rw[hd.nD k hk1 hk2] at h;cases h
       ·omega
     ·obtain⟨h7,h8⟩:=hd.fE b hb1 hb2
      refine⟨fun k hkb=>?_,?_⟩
      ·rcases h5.I7 k b hkb with h|h
       ·exact h7 k h
       ·omega
      ·cases hz:Z2 b with
       |none=>exact hz
       |some c=>
        rcases h5.Fg b c hz with h|⟨k,h⟩|h
        ·exact absurd h8 h
        ·exact absurd h (h7 k)
        ·omega
    have hext:Ba lo.toNat lov.toNat s ⟨Z2,p2,g2,h2⟩:=(Ba.refl lo.toNat lov.toNat s).trans hd.D0.toCg h5 (by omega) (by omega)
    have hsn:Aa (Cx lo.toNat lov.toNat s fr fr1) (a++[(s.g,[])]) (b++[s.h]):=A0 hab (.cons ⟨s.Z,s.p,hd.D0.toCg,Ba.refl _ _ _,fun k v _ e=>hf k v e⟩ .nil)
    have hsn2:Aa (Cx lo.toNat lov.toNat ⟨Z2,p2,g2,h2⟩ (Kl fr d.o.dst v) (Bp fr1 d.o.dst u)) (wrote d.o.dst (a++[(s.g,[])])) (b++[s.h]):=
     N2 (fun Z p g h hp he=>he.trans hp hext (Rl) (Rl)) (fun k hk=>by rw[J7,if_neg hk]) (fun k hk=>by rw[Hk,if_neg hk]) hsn
    rw[D9] at hr
    obtain⟨N',fr3,h7,Z3,p3,h8,h9,h10,h11⟩:=Mv hc lo hi lov hiv n hn l hd2 (by omega) ((hf.mono h5.zle h5.ple).put h6 d.o.dst) hsn2 e
    refine⟨max N N',fr3,h7,Z3,p3,?_,h9,hext.trans hd.D0.toCg h10 (Rl) (Rl),h11⟩
    simp only[Bf,hk,Hj (Kx (Nat.le_max_left N N')) h3]
    exact Gb (Kx (Nat.le_max_right N N')) lov hiv l h8
   ·cases e
  ·next hk=>
   split at e
   ·next fr2 g2 ho=>
    rw[D9,hk] at hr
    simp only[if_true] at hr
    obtain⟨v,u,h2,p2,h3,rfl,h4,h5,h6⟩:=bK (F:=F) hd (by omega) hk hf ho
    have hsn2:Aa (Cx lo.toNat lov.toNat ⟨s.Z,p2,{ g2 with next:=s.g.next },{ h2 with next:=s.h.next }⟩ (Kl fr d.o.dst v) (Bp fr1 d.o.dst u)) (wrote d.o.dst a) b:=
     N2 (fun Z p g h hp he=>he.trans hp h5 (Rl) (Rl)) (fun k hk=>by rw[J7,if_neg hk]) (fun k hk=>by rw[Hk,if_neg hk]) hab
    obtain⟨N',fr3,h7,Z3,p3,h8,h9,h10,h11⟩:=Mv hc lo hi lov hiv n hn l (s:=⟨s.Z,p2,{ g2 with next:=s.g.next },{ h2 with next:=s.h.next }⟩) h4 (by rw[Key.toNat_succ];omega) ((hf.mono h5.zle h5.ple).put h6 d.o.dst) hsn2 e
    refine⟨N',fr3,h7,Z3,p3,?_,h9,h5.trans hd.D0.toCg h10 (Rl) (Rl),h11⟩
    simp only[Bf,hk,h3]
    exact h8
   ·cases e
  ·next hk=>
   rw[D9,hk] at hr
   simp only[reduceCtorEq,if_false,Nat.zero_add] at hr
   split at e
   ·next o hw hact=>
    split at e
    ·next args hfe=>
     split at e
     ·next v g2 hop=>
      split at e
      ·next hcond=>
       obtain⟨us,h1,h2⟩:=Hl hf hfe
       have hko:o.kind=.quiet:=by rw[hact] at hk;exact hk
       obtain⟨rfl,u,h3,h4⟩:=Q0 hko s hd.D0.toCg args us v g2 h2 hop
       simp only[Bool.and_eq_true,Bool.or_eq_true,Bool.not_eq_true'] at hcond
       obtain⟨⟨hc1,hc2⟩,hc3⟩:=hcond
       have hsame:=bJ hd.D0.toCg hko hfe h1 h2 hop h3 (B3 d.chk hab) hc3
       have hout:outside lov hiv o us=true:=by
        unfold outside
        split
        ·next bk hbk=>
         simp only[Bool.or_eq_true,Nat.blt_eq,Nat.ble_eq]
         rcases rE hd.D0.toCg hko h2 hop hbk with⟨k,rr,h5,h6⟩|⟨h5,h6⟩
         ·rw[h5] at hc1
          simp only[Ds,Bool.or_eq_true,Nat.blt_eq,Nat.ble_eq] at hc1
          have:=hd.same k bk h6
          have hx:¬(lo.toNat≤k.toNat∧k.toNat<hi.toNat):=by omega
          have hy:¬(lov.toNat≤bk.toNat∧bk.toNat<hiv.toNat):=fun h=>hx (this.2 h)
          omega
         ·rw[h5] at hc2
          simp only[Bool.true_eq_false,false_or] at hc2
          by_cases hin:lov.toNat≤bk.toNat∧bk.toNat<hiv.toNat
          ·exfalso
           cases hz:s.Z bk with
           |none=>exact h6 hz
           |some c=>
            obtain⟨y,hy,_⟩:=hd.D0.z bk c hz
            obtain⟨k,hkb⟩:=hd.made bk hin.1 hin.2 (by rw[hy];simp)
            have hkr:=(hd.same k bk hkb).2 hin
            cases hg:s.g.get k with
            |none=>rw[hd.D0.dead k bk hkb hg] at hy;cases hy
            |some x=>
             have hfz:=Sy hc2 k hkr.1 (by omega) x hg
             obtain⟨b2,y2,e1,_,e3⟩:=hd.D0.blk k x hg
             rw[hkb] at e1;cases e1
             rw[e3.N1 hfz] at hz;cases hz
          ·omega
        ·rfl
       obtain⟨N',fr3,h7,Z3,p3,h8,h9,h10,h11⟩:=Mv hc lo hi lov hiv n hn l hd hr (hf.put h4 d.o.dst) (Sz hd.D0.toCg hko hfe h1 h2 hop h3 d.o.dst hab) e
       refine⟨N',fr3,h7,Z3,p3,?_,h9,h10,h11⟩
       have hk2:(Bl.op o).kind=Kind.quiet:=hko
       simp only[Bf,Df hf hw,hact,hk2,h1,h3,hout,hsame,Bool.and_true,if_true]
       exact h8
      ·cases e
     ·cases e
    ·cases e
   ·next hw=>
    have hsn2:Aa (Cx lo.toNat lov.toNat s (Kl fr d.o.dst .unit) (Bp fr1 d.o.dst .unit)) a b:=by
     refine Ak hab fun x y=>?_
     rintro⟨Z,p,h3,h4,h5⟩
     refine⟨Z,p,h3,h4,fun k w hkw ew=>?_⟩
     rw[J7] at ew
     rw[Hk]
     split at ew
     ·next hd=>cases ew;rw[if_pos hd];exact⟨_,rfl,Gx⟩
     ·next hd=>rw[if_neg hd];exact h5 k w hkw ew
    obtain⟨N',fr3,h7,Z3,p3,h8,h9,h10,h11⟩:=Mv hc lo hi lov hiv n hn l hd hr (hf.put Gx d.o.dst) hsn2 e
    refine⟨N',fr3,h7,Z3,p3,?_,h9,h10,h11⟩
    simp only[Bf,hk,Df hf hw]
    exact h8
   ·cases e
end Go.Pv
end
section
noncomputable section
namespace Go.Pv
open Go.Vm
open Go.Vm.Key (kn)
variable {F:A4} {K:Tp}
def Ag (F:A4) (f:Nat) (xs:List PA) (r:PA):Prop:=∀s:Sta,Good s→∀vs:List AV,Aa (QA s.Z) xs vs →
 ∃N u h' Z',Bo F noO (exec F noO N) f vs s.h=some (u,h')∧Good ⟨Z',s.p,s.g,h'⟩∧Ba s.g.next.toNat s.h.next.toNat s ⟨Z',s.p,s.g,h'⟩∧QA Z' r u
def Y4 (F:A4) (K:Tp):Prop:=∀f xs r,K.pure f=true→K.ans f xs=some r→Ag F f xs r
abbrev PEx:=Ay→PFr→Ab→Option (B2×PFr×Ab)
def IQ (F:A4) (px:PEx):Prop:=∀(c:Ay) (s:Sta) (fr:PFr) (fr1:Fr),Good s→FR s.Z s.p fr fr1→∀(x:B2) (fr':PFr) (g':Ab),px c fr s.g=some (x,fr',g') →
 ∃N fr1' h' Z' p',exec F noO N c fr1 s.h=some (x,fr1',h')∧Good ⟨Z',p',g',h'⟩∧Ba s.g.next.toNat s.h.next.toNat s ⟨Z',p',g',h'⟩∧FR Z' p' fr' fr1'
theorem nF {Z:ZM} {p:Ren} {xs:List PA} {vs:List AV} (h:Aa (AR Z p) xs vs):FR Z p (Tr.z.Co 0 xs) (Tr.z.Co 0 vs):=by
 intro k v e
 rw[←Key.Ff k,Tr.B0] at e
 rw[←Key.Ff k,Tr.B0,←Ah h]
 split at e
 ·next hk=>
  rw[if_pos hk]
  obtain⟨u,h1,h2⟩:=Ax h _ e
  exact⟨u,h1,h2⟩
 ·simp at e
theorem rF {s:Sta} (hs:Cg s) {fr:PFr} {fr1:Fr} (hf:FR s.Z s.p fr fr1) {r:Lj} {x:PC} (e:Gs fr s.g r=some x):∃u,Gr fr1 s.h r=some u∧CR s.Z s.p x u:=by
 unfold Gs at e
 split at e
 ·split at e
  ·next k y hy=>
   cases e
   obtain⟨u,h1,h2⟩:=hf _ _ hy
   obtain⟨z,rfl,hz⟩:=h2.cv
   exact⟨z,by simp only[Gr,h1],hz⟩
  ·cases e
 ·split at e
  ·next k b o hb=>
   obtain⟨u,h1,h2⟩:=hf _ _ hb
   obtain⟨z,rfl,b',hp,rfl⟩:=h2.s
   split at e
   ·next y hy=>
    cases e
    obtain⟨l',h3,h4⟩:=Pt hs hp hy
    obtain⟨w,rfl,h5⟩:=Aa.one h4
    exact⟨.s w,by simp only[Gr,h1,h3],h5⟩
   ·cases e
  ·cases e
 ·split at e
  ·next k b o hb=>
   obtain⟨u,h1,h2⟩:=hf _ _ hb
   obtain⟨z,rfl,b',hp,rfl⟩:=h2.s
   split at e
   ·next y hy=>
    cases e
    obtain⟨l',h3,h4⟩:=Pt hs hp hy
    exact⟨.agg l',by simp only[Gr,h1,h3],h4⟩
   ·cases e
  ·cases e
theorem Ky {s:Sta} (hs:Cg s) {fr:PFr} {fr1:Fr} (hf:FR s.Z s.p fr fr1):∀{l:List Lj} {xs:List PC},E0 fr s.g l=some xs→∃us,D5 fr1 s.h l=some us∧Aa (CR s.Z s.p) xs us
 |[],xs,e=>by cases e;exact⟨[],rfl,.nil⟩
 |r::l,xs,e=>by
  simp only[E0] at e
  split at e
  ·next x hx=>
   split at e
   ·next ys hys=>
    cases e
    obtain⟨u,h1,h2⟩:=rF hs hf hx
    obtain⟨us,h3,h4⟩:=Ky hs hf hys
    exact⟨u::us,by simp only[D5,h1,h3],.cons h2 h4⟩
   ·cases e
  ·cases e
theorem N3 {Z:ZM} {p:Ren} {xs:List PC} {us:List CV} (h:Aa (CR Z p) xs us):AR Z p (Cv xs) (Fh us):=by
 cases h with
 |nil=>exact Aa.nil
 |cons h1 h2=>cases h2 with
  |nil=>exact h1
  |cons h3 h4=>exact .cons h1 (.cons h3 h4)
theorem nG {px:PEx} (hx:IQ F px):rB F (Zr F px):=by
 intro f s hs args vs v g' ha e
 unfold Zr at e
 split at e
 ·next vf hvf=>
  have main:∀x fr g1,px vf.body (Tr.z.Co 0 args) s.g=some (x,fr,g1)→(∀i,x≠.exit i)→(match E0 fr g1 vf.results with|some l=>some (Cv l,g1)|none=>none)=some (v,g') →
    ∃N u h' Z' p',Bo F noO (exec F noO N) f vs s.h=some (u,h')∧Good ⟨Z',p',g',h'⟩∧Ba s.g.next.toNat s.h.next.toNat s ⟨Z',p',g',h'⟩∧AR Z' p' v u:=by
   intro x fr g1 h1 h2 h3
   obtain⟨N,fr1',h',Z',p',h4,h5,h6,h7⟩:=hx vf.body s _ _ hs (nF ha) x fr g1 h1
   split at h3
   ·next l hl=>
    cases h3
    obtain⟨us,h8,h9⟩:=Ky h5.toCg h7 hl
    refine⟨N,Fh us,h',Z',p',?_,h5,h6,N3 h9⟩
    simp only[Bo,hvf,h4]
    cases x with
    |exit i=>exact absurd rfl (h2 i)
    |normal=>simp only[h8]
    |ret=>simp only[h8]
   ·cases h3
  split at e
  ·cases e
  ·next x fr g1 hne hr=>exact main x fr g1 hr (fun i hi=>hne i hi) e
  ·cases e
 ·cases e
theorem N4 {s:Sta} (hs:Good s):Good ⟨s.Z,fun _=>none,.empty,s.h⟩ where
 inj _ _ _ h:=by cases h
 blk k x h:=by simp[Ab.get,Ab.empty] at h
 z:=hs.z
 dead _ _ h:=by cases h
 pk _ _ h:=by cases h
 zr:=hs.zr
 top:=hs.top
theorem bM {s:Sta} (hs:Good s) {Z':ZM} {p':Ren} {g':Ab} {h':Ac} (hg:Good ⟨Z',p',g',h'⟩) (he:Ba 0 s.h.next.toNat ⟨s.Z,fun _=>none,.empty,s.h⟩ ⟨Z',p',g',h'⟩):Good ⟨Z',s.p,s.g,h'⟩∧Ba s.g.next.toNat s.h.next.toNat s ⟨Z',s.p,s.g,h'⟩:=by
 have hsame:∀b:Key,b.toNat<s.h.next.toNat→h'.get b=s.h.get b:=fun b hb=>he.frame b hb fun k h=>by cases h
 have hzn:∀b:Key,b.toNat<s.h.next.toNat→s.Z b=none→Z' b=none:=by
  intro b hb hz
  cases h:Z' b with
  |none=>rfl
  |some c=>
   rcases he.Fg b c h with h1|⟨k,h1⟩|h1
   ·exact absurd hz h1
   ·cases h1
   ·omega
 have hzle:ZLe s.Z Z':=he.zle
 have hnx:=he.nx.2
 simp only at hnx
 refine⟨⟨⟨hs.inj,fun k x hx=>?_,hg.z,fun k b hp hk=>?_⟩,⟨fun k b hp=>?_,hg.zr,hg.top⟩⟩,⟨⟨Rl,hnx⟩,hzle,fun _ _ h=>h,fun _ _ h=>.inl h,fun b c h=>?_,fun b hb _=>hsame b hb,fun _ _ _ h=>h,fun k x x' h1 h2=>?_⟩⟩
 ·obtain⟨b,y,h1,h2,h3⟩:=hs.blk k x hx
  have hlt:=(hs.pk k b h1).2
  refine⟨b,y,h1,by rw[←h2];exact hsame b hlt,h3.body.mono hzle (fun _ _ h=>h),fun ho=>⟨(h3.own ho).1,(h3.own ho).2.mono hzle fun _ _ h=>h⟩,fun h=>hzn b hlt (h3.N1 h),fun h=>hzle _ _ (h3.frz h)⟩
 ·have hlt:=(hs.pk k b hp).2
  show h'.get b=none
  rw[hsame b hlt];exact hs.dead k b hp hk
 ·have:=hs.pk k b hp
  exact⟨this.1,Nat.lt_of_lt_of_le this.2 hnx⟩
 ·rcases he.Fg b c h with h1|⟨k,h1⟩|h1
  ·exact .inl h1
  ·cases h1
  ·exact .inr (.inr h1)
 ·simp only at h2
  rw[h1] at h2;cases h2
  refine⟨[],rfl,fun b y hp hy=>⟨y,?_,Iu.refl _ _⟩⟩
  have hlt:=(hs.pk k b hp).2
  show h'.get b=some y
  rw[hsame b hlt];exact hy
theorem nH {px:PEx} (hx:IQ F px) {f:Nat} {xs:List PA} {r:PA} (e:Vo F px f xs=some r):Ag F f xs r:=by
 intro s hs vs hv
 unfold Vo at e
 split at e
 ·next r0 g0 hb=>
  split at e
  ·next r1 g1 hfz=>
   cases e
   obtain⟨N,u,h',Z',p',h1,h2,h3,h4⟩:=nG hx f ⟨s.Z,fun _=>none,.empty,s.h⟩ (N4 hs) xs vs r0 g0 (Ak hv fun _ _ h=>h.a) hb
   obtain⟨Z2,h5,h6⟩:=Ue h2.toCg h4 hfz
   have hg:Good ⟨Z2,p',g1,h'⟩:=⟨h5.sim,h5.room h2.toRoom⟩
   have he:=Ba.trans (lo:=0) (lov:=s.h.next.toNat) (N4 hs).toCg h3 (h5.ext 0 h'.next.toNat) (Rl) h3.nx.2
   obtain⟨h7,h8⟩:=bM hs hg he
   exact⟨N,u,h',Z2,h1,h7,h8,h6⟩
  ·cases e
 ·cases e
theorem BY {px:PEx} (hx:IQ F px) (hK:Y4 F K):rB F (Ru F K px):=by
 intro f s hs args vs v g' ha e
 unfold Ru at e
 split at e
 ·next hpf=>
  split at e
  ·next xs g1 hfz=>
   obtain⟨Z1,h1,h2⟩:=bF args hs.toCg ha hfz
   have hg:Good ⟨Z1,s.p,g1,s.h⟩:=⟨h1.sim,h1.room hs.toRoom⟩
   have main:∀r,Ag F f xs r→v=r→g'=g1→∃N u h' Z' p',Bo F noO (exec F noO N) f vs s.h=some (u,h')∧Good ⟨Z',p',g',h'⟩∧Ba s.g.next.toNat s.h.next.toNat s ⟨Z',p',g',h'⟩∧AR Z' p' v u:=by
    rintro r hr rfl rfl
    obtain⟨N,u,h',Z',h3,h4,h5,h6⟩:=hr _ hg vs h2
    have hext:=h1.ext s.g.next.toNat s.h.next.toNat
    exact⟨N,u,h',Z',s.p,h3,h4,hext.trans hs.toCg h5 hext.nx.1 (Rl),h6.a⟩
   split at e
   ·next r hr=>cases e;exact main _ (hK f xs _ hpf hr) rfl rfl
   ·split at e
    ·next r hr=>cases e;exact main _ (nH hx hr) rfl rfl
    ·cases e
  ·cases e
 ·exact nG hx f s hs args vs v g' ha e
section
variable {n:Nat} {fr:PFr} {h:Ab}
theorem bN (ops:List An):Dl F K (n+1) (.region ops) fr h=match qE (Ru F K (Dl F K n)) ops fr h with
   |some (fr,h)=>some (.normal,fr,h)
   |none=>none:=rfl
theorem fF (ops:List DOp):Dl F K (n+1) (.drawn ops) fr h=match C7 (Ru F K (Dl F K n)) h.next (Bt h.next (Az ops)) (Az ops) ops h.next [] fr { h with next:=Bt h.next (Az ops) } with
   |some (fr,h)=>some (.normal,fr,h)
   |none=>none:=rfl
theorem Y5 (a b:Ay):Dl F K (n+1) (.seq a b) fr h=match Dl F K n a fr h with
   |some (.normal,fr,h)=>Dl F K n b fr h
   |r=>r:=rfl
theorem bO (x:VX) (a b:Ay):Dl F K (n+1) (.cond x a b) fr h=match Pa fr x with
   |some (.v (.s (.bool true)))=>Dl F K n a fr h
   |some (.v (.s (.bool false)))=>Dl F K n b fr h
   |_=>none:=rfl
theorem Mw (id:Nat) (a:Ay):Dl F K (n+1) (.block id a) fr h=match Dl F K n a fr h with
   |some (.exit j,fr,h)=>if j=id then some (.normal,fr,h) else some (.exit j,fr,h)
   |r=>r:=rfl
theorem Uh (a:Ay):Dl F K (n+1) (.loop a) fr h=match Dl F K n a fr h with
   |some (.normal,fr,h)=>Dl F K n (.loop a) fr h
   |r=>r:=rfl
end
theorem rG {pc:E7} (hc:rB F pc) (ops:List DOp) {s:Sta} (hs:Good s) {fr:PFr} {fr1:Fr} (hf:FR s.Z s.p fr fr1) {fr':PFr} {g':Ab}
  (e:C7 pc s.g.next (Bt s.g.next (Az ops)) (Az ops) ops s.g.next [] fr { s.g with next:=Bt s.g.next (Az ops) }=some (fr',g')) :
  ∃N fr1' h' Z' p',Bf (Bo F noO (exec F noO N)) s.h.next (Bt s.h.next (Az ops)) ops s.h.next [] fr1 { s.h with next:=Bt s.h.next (Az ops) }=some (fr1',h')∧Good ⟨Z',p',g',h'⟩ ∧
   Ba s.g.next.toNat s.h.next.toNat s ⟨Z',p',g',h'⟩∧FR Z' p' fr' fr1':=by
 have e1:=Db (Az ops) s.g.next
 have e2:=Db (Az ops) s.h.next
 have hd:eB s.g.next (Bt s.g.next (Az ops)) s.h.next (Bt s.h.next (Az ops)) s.g.next s.h.next ⟨s.Z,s.p,{ s.g with next:=Bt s.g.next (Az ops) },{ s.h with next:=Bt s.h.next (Az ops) }⟩:=by
  refine⟨⟨Cg.S0 (g:=s.g) (h:=s.h) rfl rfl hs.toCg,⟨fun k b h=>?_,fun b c h=>?_,fun b h=>?_⟩⟩,.inl rfl,Rl,fun k b h=>?_,fun b h1 _ h3=>?_,fun k h1 _=>?_,fun b h1 _=>⟨fun k h=>?_,?_⟩,by omega,by omega,Rl⟩
  ·have:=hs.pk k b h
   simp only;omega
  ·have:=hs.zr b c h
   simp only;omega
  ·simp only at h
   exact hs.top b (by omega)
  ·have:=hs.pk k b h
   omega
  ·exact absurd (hs.top b h1) h3
  ·cases h:s.p k with
   |none=>rfl
   |some b=>have:=hs.pk k b h;omega
  ·have:=hs.pk k b h;omega
  ·cases h:s.Z b with
   |none=>rfl
   |some c=>have:=hs.zr b c h;omega
 obtain⟨N,fr1',h',Z',p',h1,h2,h3,h4⟩:=Mv hc s.g.next (Bt s.g.next (Az ops)) s.h.next (Bt s.h.next (Az ops)) (Az ops) e1.symm ops (r:=s.g.next) (rv:=s.h.next) hd (by omega) hf .nil e
 refine⟨N,fr1',h',Z',p',h1,h2,?_,h4⟩
 refine Ba.iP (g:={ s.g with next:=Bt s.g.next (Az ops) }) (h:={ s.h with next:=Bt s.h.next (Az ops) }) (g':=s.g) (h':=s.h) rfl rfl ⟨?_,?_⟩ h3
 ·have:=h3.nx.1;simp only at this ⊢;omega
 ·have:=h3.nx.2;simp only at this ⊢;omega
theorem nI (hK:Y4 F K):∀n,IQ F (Dl F K n)
 |0=>by intro c s fr fr1 _ _ x fr' g' e;cases e
 |n+1=>by
  have ih:=nI hK n
  have hc:=BY ih hK
  intro c s fr fr1 hs hf x fr' g' e
  cases c with
  |skip=>cases e;exact⟨1,fr1,s.h,s.Z,s.p,rfl,hs,Ba.refl _ _ _,hf⟩
  |region ops=>
   rw[bN] at e
   split at e
   ·next fr2 g2 ho=>
    cases e
    obtain⟨N,fr1',h',Z',p',h1,h2⟩:=uW hc ops hs hf ho
    exact⟨N+1,fr1',h',Z',p',by rw[Wb,h1],h2⟩
   ·cases e
  |drawn ops=>
   rw[fF] at e
   split at e
   ·next fr2 g2 ho=>
    cases e
    obtain⟨N,fr1',h',Z',p',h1,h2⟩:=rG hc ops hs hf ho
    exact⟨N+1,fr1',h',Z',p',by rw[bH,h1],h2⟩
   ·cases e
  |seq a b=>
   rw[Y5] at e
   cases hr:Dl F K n a fr s.g with
   |none=>rw[hr] at e;cases e
   |some q=>
    obtain⟨x1,fr2,g2⟩:=q
    rw[hr] at e
    obtain⟨N,fr1',h',Z',p',h1,h2,h3,h4⟩:=ih a s fr fr1 hs hf x1 fr2 g2 hr
    cases x1 with
    |normal=>
     obtain⟨N',fr2',h'',Z'',p'',h5,h6,h7,h8⟩:=ih b ⟨Z',p',g2,h'⟩ fr2 fr1' h2 h4 x fr' g' e
     refine⟨max N N'+1,fr2',h'',Z'',p'',?_,h6,h3.trans hs.toCg h7 h3.nx.1 h3.nx.2,h8⟩
     rw[Sw,Gw (Nat.le_max_left N N') _ _ _ _ h1]
     exact Gw (Nat.le_max_right N N') _ _ _ _ h5
    |exit id=>cases e;exact⟨N+1,fr1',h',Z',p',by rw[Sw,h1],h2,h3,h4⟩
    |ret=>cases e;exact⟨N+1,fr1',h',Z',p',by rw[Sw,h1],h2,h3,h4⟩
  |cond y a b=>
   rw[bO] at e
   split at e
   ·next hy=>
    obtain⟨u,h0,hu⟩:=Pz hf hy
    obtain⟨z,rfl,hz⟩:=hu.s
    cases Aj.Ub hz
    obtain⟨N,fr1',h',Z',p',h1,h2⟩:=ih a s fr fr1 hs hf x fr' g' e
    exact⟨N+1,fr1',h',Z',p',by rw[Ug,h0];exact h1,h2⟩
   ·next hy=>
    obtain⟨u,h0,hu⟩:=Pz hf hy
    obtain⟨z,rfl,hz⟩:=hu.s
    cases Aj.Ub hz
    obtain⟨N,fr1',h',Z',p',h1,h2⟩:=ih b s fr fr1 hs hf x fr' g' e
    exact⟨N+1,fr1',h',Z',p',by rw[Ug,h0];exact h1,h2⟩
   ·cases e
  |block id a=>
   rw[Mw] at e
   cases hr:Dl F K n a fr s.g with
   |none=>rw[hr] at e;cases e
   |some q=>
    obtain⟨x1,fr2,g2⟩:=q
    rw[hr] at e
    obtain⟨N,fr1',h',Z',p',h1,h2,h3,h4⟩:=ih a s fr fr1 hs hf x1 fr2 g2 hr
    cases x1 with
    |normal=>cases e;exact⟨N+1,fr1',h',Z',p',by rw[Gv,h1],h2,h3,h4⟩
    |exit j=>
     simp only at e
     split at e
     ·next hj=>cases e;exact⟨N+1,fr1',h',Z',p',by rw[Gv,h1];simp only[hj,if_true],h2,h3,h4⟩
     ·next hj=>cases e;exact⟨N+1,fr1',h',Z',p',by rw[Gv,h1];simp only[hj,if_false],h2,h3,h4⟩
    |ret=>cases e;exact⟨N+1,fr1',h',Z',p',by rw[Gv,h1],h2,h3,h4⟩
  |loop a=>
   rw[Uh] at e
   cases hr:Dl F K n a fr s.g with
   |none=>rw[hr] at e;cases e
   |some q=>
    obtain⟨x1,fr2,g2⟩:=q
    rw[hr] at e
    obtain⟨N,fr1',h',Z',p',h1,h2,h3,h4⟩:=ih a s fr fr1 hs hf x1 fr2 g2 hr
    cases x1 with
    |normal=>
     obtain⟨N',fr2',h'',Z'',p'',h5,h6,h7,h8⟩:=ih (.loop a) ⟨Z',p',g2,h'⟩ fr2 fr1' h2 h4 x fr' g' e
     refine⟨max N N'+1,fr2',h'',Z'',p'',?_,h6,h3.trans hs.toCg h7 h3.nx.1 h3.nx.2,h8⟩
     rw[Ie,Gw (Nat.le_max_left N N') _ _ _ _ h1]
     exact Gw (Nat.le_max_right N N') _ _ _ _ h5
    |exit id=>cases e;exact⟨N+1,fr1',h',Z',p',by rw[Ie,h1],h2,h3,h4⟩
    |ret=>cases e;exact⟨N+1,fr1',h',Z',p',by rw[Ie,h1],h2,h3,h4⟩
  |exit id=>cases e;exact⟨1,fr1,s.h,s.Z,s.p,rfl,hs,Ba.refl _ _ _,hf⟩
  |ret=>cases e;exact⟨1,fr1,s.h,s.Z,s.p,rfl,hs,Ba.refl _ _ _,hf⟩
theorem OR (hK:Y4 F K) {n f:Nat} {xs:List PA} {r:PA} (e:RV F K n f xs=some r):Ag F f xs r:=nH (nI hK n) e
end Go.Pv
end
section
noncomputable section
namespace Go.Pv
open Go.Vm
structure Bx (p:Prop):Prop where
 o:p
theorem Yc {P:Prop} (h:P:=by repeat' first|exact Aa.nil|exact Ae.cells (by assumption)|refine Aa.cons rfl ?_|refine Aa.cons (Ar _ _).rn ?_|refine Aa.cons (Ae.rn (by assumption)) ?_|fail):P:=h
theorem Yb {P:Prop} (h:P:=by repeat' first|refine⟨⟨_,_,rfl,rfl,G8.same (by repeat' first|exact Aa.nil|exact Ae.cells (by assumption)|refine Aa.cons rfl ?_|refine Aa.cons (Ar _ _).rn ?_|refine Aa.cons (Ae.rn (by assumption)) ?_|fail)⟩,?_⟩|refine⟨⟨_,_,rfl,rfl,⟨(show Aa _ _ _ by repeat' first|exact Aa.nil|exact Ae.cells (by assumption)|refine Aa.cons rfl ?_|refine Aa.cons (Ar _ _).rn ?_|refine Aa.cons (Ae.rn (by assumption)) ?_|fail),fun h=>(by first|cases h;done|exact⟨rfl,.inl .nil⟩|exact⟨rfl,.inl (.cons rfl .nil)⟩|exact⟨rfl,.inl (.cons rfl (.cons rfl .nil))⟩|exact⟨rfl,.inl (.cons rfl (.cons rfl (.cons rfl .nil)))⟩|exact⟨rfl,.inr ⟨_,_,_,.head _,rfl,rfl,rfl⟩⟩),rfl⟩⟩,?_⟩|exact trivial|fail):P:=h
theorem Ya {P:Prop} (h:P:=by repeat' first|exact Aa.nil|refine Aa.cons rfl ?_|refine Aa.cons (Ar _ _).rn ?_|refine Aa.cons (Ae.rn (by assumption)) ?_|refine Aa.cons (show Aa _ _ _ by repeat' first|exact Aa.nil|exact Ae.cells (by assumption)|refine Aa.cons rfl ?_|refine Aa.cons (Ar _ _).rn ?_|refine Aa.cons (Ae.rn (by assumption)) ?_|fail) ?_|fail):P:=h
theorem Yo {P:Prop} (h:P:=by repeat' first|refine⟨⟨_,_,_,rfl,G8.same (by repeat' first|exact Aa.nil|exact Ae.cells (by assumption)|refine Aa.cons rfl ?_|refine Aa.cons (Ar _ _).rn ?_|refine Aa.cons (Ae.rn (by assumption)) ?_|fail),rfl,rfl,rfl,rfl⟩,?_⟩|refine⟨⟨_,_,_,rfl,⟨(show Aa _ _ _ by repeat' first|exact Aa.nil|exact Ae.cells (by assumption)|refine Aa.cons rfl ?_|refine Aa.cons (Ar _ _).rn ?_|refine Aa.cons (Ae.rn (by assumption)) ?_|fail),fun h=>(by first|cases h;done|exact⟨rfl,.inl .nil⟩|exact⟨rfl,.inl (.cons rfl .nil)⟩|exact⟨rfl,.inl (.cons rfl (.cons rfl .nil))⟩|exact⟨rfl,.inl (.cons rfl (.cons rfl (.cons rfl .nil)))⟩|exact⟨rfl,.inr ⟨_,_,_,.head _,rfl,rfl,rfl⟩⟩),rfl⟩,rfl,rfl,rfl,rfl⟩,?_⟩|exact trivial|fail):P:=h
theorem Yg {P:Prop} (h:P:=by repeat' first|exact Lg.nil|assumption|refine Lg.app ?_ ?_|exact Lg.one|fail):P:=h
theorem Yl {P:Prop} (h:P:=by repeat' first|refine⟨rfl,?_⟩|exact trivial|fail):P:=h
theorem Yk {P:Prop} (h:P:=by intro k b h;repeat' first|(cases h;done)|(rcases List.mem_cons.1 h with h|h;· cases h;rfl)|fail):P:=h
theorem Yt {P:Prop} (h:P:=by repeat' first|refine⟨⟨_,_,_,hp.el _ _ (by first|exact List.Mem.head _|exact List.Mem.tail _ (List.Mem.head _)|exact List.Mem.tail _ (List.Mem.tail _ (List.Mem.head _))|exact List.Mem.tail _ (List.Mem.tail _ (List.Mem.tail _ (List.Mem.head _)))|exact List.Mem.tail _ (List.Mem.tail _ (List.Mem.tail _ (List.Mem.tail _ (List.Mem.head _))))|exact List.Mem.tail _ (List.Mem.tail _ (List.Mem.tail _ (List.Mem.tail _ (List.Mem.tail _ (List.Mem.head _)))))),.same (by repeat' first|exact Aa.nil|exact Ae.cells (by assumption)|refine Aa.cons rfl ?_|refine Aa.cons (Ar _ _).rn ?_|refine Aa.cons (Ae.rn (by assumption)) ?_|fail),rfl,rfl,rfl,rfl⟩,?_⟩|exact trivial|fail):P:=h
theorem Yf {P:Prop} (h:P:=by repeat' first|refine⟨⟨_,rfl,rfl⟩,?_⟩|refine⟨⟨_,rfl,Ae.rn (by assumption)⟩,?_⟩|exact trivial|fail):P:=h
theorem Ys {α β:Type} {R:α→β→Prop} {l:List α} {m:List β} (h:Aa R l m:=by repeat' first|exact Aa.nil|exact Ae.cells (by assumption)|refine Aa.cons rfl ?_|refine Aa.cons (Ar _ _).rn ?_|refine Aa.cons (Ae.rn (by assumption)) ?_|fail):Aa R l m:=h
theorem Yw0 {G:Prop} (h:G:=by repeat'(try conv=>whnf)<;>first|(refine⟨fun h=>?_,fun h=>?_⟩<;>first|exact J8 h|exact Mx h|exact absurd (Ao h) (by omega)|exact absurd (A1 h) (by omega)|replace h:=Ao h|replace h:=A1 h|skip)|refine⟨_,⟨by omega,by assumption⟩,?_⟩|refine⟨_,⟨by omega,rfl⟩,?_⟩|refine⟨_,_,_,(rfl:Dk _ _ _=_),by assumption,?_⟩|refine⟨_,_,_,Dg (by repeat' first|exact trivial|refine⟨?_,?_⟩|exact Dj _ _|(show Et _;assumption)|fail),by assumption,?_⟩|refine⟨(by omega:_∧_),?_⟩|refine⟨(by omega:_≠_),?_⟩|refine⟨_,_,(rfl:opP _ _ _=_),?_⟩|exact⟨_,(rfl:E8 _ _ _=_)⟩|fail):G:=h
theorem Yw1 {G A:Prop} (c:A) (h:Bx A→G:=by(intro c;(repeat'(try conv=>whnf)<;>first|(refine⟨fun h=>?_,fun h=>?_⟩<;>first|exact J8 h|exact Mx h|exact absurd (Ao h) (by omega)|exact absurd (A1 h) (by omega)|replace h:=Ao h|replace h:=A1 h|skip)|refine⟨_,⟨by omega,by assumption⟩,?_⟩|refine⟨_,⟨by omega,rfl⟩,?_⟩|refine⟨_,_,_,(rfl:Dk _ _ _=_),by assumption,?_⟩|refine⟨_,_,_,Dg (by repeat' first|exact trivial|refine⟨?_,?_⟩|exact Dj _ _|(show Et _;assumption)|fail),by assumption,?_⟩|refine⟨(by omega:_∧_),?_⟩|refine⟨(by omega:_≠_),?_⟩|refine⟨_,_,(rfl:opP _ _ _=_),?_⟩|exact⟨_,(rfl:E8 _ _ _=_)⟩|fail);exact c.o)):G:=h ⟨c⟩
theorem Yv0 {G:Prop} (h:G:=by repeat'(try conv=>whnf)<;>first|(refine⟨fun h=>?_,fun h=>?_⟩<;>first|exact J8 h|exact Mx h|exact absurd (Ao h) (by omega)|exact absurd (A1 h) (by omega)|replace h:=Ao h|replace h:=A1 h|skip)|refine⟨(by omega:_∧_),?_⟩|refine⟨_,⟨by omega,by assumption⟩,?_⟩|refine⟨_,⟨by omega,rfl⟩,?_⟩|refine⟨_,_,_,(rfl:Dk _ _ _=_),by assumption,?_⟩|refine⟨_,_,_,Dg (by repeat' first|exact trivial|refine⟨?_,?_⟩|exact Dj _ _|(show Et _;assumption)|fail),by assumption,?_⟩|refine⟨(by omega:_≠_),?_⟩|refine⟨_,_,(rfl:opP _ _ _=_),?_⟩|exact⟨_,(rfl:E8 _ _ _=_)⟩|fail):G:=h
theorem Yv1 {G A:Prop} (c:A) (h:Bx A→G:=by(intro c;(repeat'(try conv=>whnf)<;>first|(refine⟨fun h=>?_,fun h=>?_⟩<;>first|exact J8 h|exact Mx h|exact absurd (Ao h) (by omega)|exact absurd (A1 h) (by omega)|replace h:=Ao h|replace h:=A1 h|skip)|refine⟨(by omega:_∧_),?_⟩|refine⟨_,⟨by omega,by assumption⟩,?_⟩|refine⟨_,⟨by omega,rfl⟩,?_⟩|refine⟨_,_,_,(rfl:Dk _ _ _=_),by assumption,?_⟩|refine⟨_,_,_,Dg (by repeat' first|exact trivial|refine⟨?_,?_⟩|exact Dj _ _|(show Et _;assumption)|fail),by assumption,?_⟩|refine⟨(by omega:_≠_),?_⟩|refine⟨_,_,(rfl:opP _ _ _=_),?_⟩|exact⟨_,(rfl:E8 _ _ _=_)⟩|fail);exact c.o)):G:=h ⟨c⟩
theorem Yj0 {P:Prop} (h:P:=by(refine⟨⟨_,_,_,hp.e0,⟨(show Aa _ _ _ by repeat' first|exact Aa.nil|exact Ae.cells (by assumption)|refine Aa.cons rfl ?_|refine Aa.cons (Ar _ _).rn ?_|refine Aa.cons (Ae.rn (by assumption)) ?_|fail),fun _=>⟨rfl,.inl .nil⟩,rfl⟩,rfl,rfl,rfl,rfl⟩,⟨_,_,_,hp.e1,.same (by repeat' first|exact Aa.nil|exact Ae.cells (by assumption)|refine Aa.cons rfl ?_|refine Aa.cons (Ar _ _).rn ?_|refine Aa.cons (Ae.rn (by assumption)) ?_|fail),rfl,rfl,rfl,rfl⟩,⟨_,_,_,hp.e2,.same (by repeat' first|exact Aa.nil|exact Ae.cells (by assumption)|refine Aa.cons rfl ?_|refine Aa.cons (Ar _ _).rn ?_|refine Aa.cons (Ae.rn (by assumption)) ?_|fail),rfl,rfl,rfl,rfl⟩,⟨_,_,_,hp.e3,.same (by repeat' first|exact Aa.nil|exact Ae.cells (by assumption)|refine Aa.cons rfl ?_|refine Aa.cons (Ar _ _).rn ?_|refine Aa.cons (Ae.rn (by assumption)) ?_|fail),rfl,rfl,rfl,rfl⟩,⟨_,_,_,hp.e4,.same (by repeat' first|exact Aa.nil|exact Ae.cells (by assumption)|refine Aa.cons rfl ?_|refine Aa.cons (Ar _ _).rn ?_|refine Aa.cons (Ae.rn (by assumption)) ?_|fail),rfl,rfl,rfl,rfl⟩,⟨_,_,_,hp.e5,.same (by repeat' first|exact Aa.nil|exact Ae.cells (by assumption)|refine Aa.cons rfl ?_|refine Aa.cons (Ar _ _).rn ?_|refine Aa.cons (Ae.rn (by assumption)) ?_|fail),rfl,rfl,rfl,rfl⟩,?_⟩;refine⟨⟨_,_,_,e6,.same (by repeat' first|exact Aa.nil|exact Ae.cells (by assumption)|refine Aa.cons rfl ?_|refine Aa.cons (Ar _ _).rn ?_|refine Aa.cons (Ae.rn (by assumption)) ?_|fail),rfl,rfl,rfl,rfl⟩,⟨_,_,_,e7,(by first|exact⟨Ae.cells (by assumption),fun _=>⟨rfl,.inr ⟨_,_,_,.head _,rfl,hp.e0,rfl⟩⟩,rfl⟩|exact⟨Ae.cells (by assumption),(fun h=>(by cases h)),rfl⟩),rfl,rfl,rfl,rfl⟩,?_⟩;repeat' first|refine⟨⟨_,_,_,hp.el _ _ (by first|exact List.Mem.head _|exact List.Mem.tail _ (List.Mem.head _)|exact List.Mem.tail _ (List.Mem.tail _ (List.Mem.head _))|exact List.Mem.tail _ (List.Mem.tail _ (List.Mem.tail _ (List.Mem.head _)))|exact List.Mem.tail _ (List.Mem.tail _ (List.Mem.tail _ (List.Mem.tail _ (List.Mem.head _))))|exact List.Mem.tail _ (List.Mem.tail _ (List.Mem.tail _ (List.Mem.tail _ (List.Mem.tail _ (List.Mem.head _)))))),.same (by repeat' first|exact Aa.nil|exact Ae.cells (by assumption)|refine Aa.cons rfl ?_|refine Aa.cons (Ar _ _).rn ?_|refine Aa.cons (Ae.rn (by assumption)) ?_|fail),rfl,rfl,rfl,rfl⟩,?_⟩|exact trivial|fail)):P:=h
theorem Yj1 {P:Prop} (h:P:=by(refine⟨⟨_,_,_,hp.e0,⟨(show Aa _ _ _ by repeat' first|exact Aa.nil|exact Ae.cells (by assumption)|refine Aa.cons rfl ?_|refine Aa.cons (Ar _ _).rn ?_|refine Aa.cons (Ae.rn (by assumption)) ?_|fail),fun _=>⟨rfl,.inl .nil⟩,rfl⟩,rfl,rfl,rfl,rfl⟩,⟨_,_,_,hp.e1,.same (by repeat' first|exact Aa.nil|exact Ae.cells (by assumption)|refine Aa.cons rfl ?_|refine Aa.cons (Ar _ _).rn ?_|refine Aa.cons (Ae.rn (by assumption)) ?_|fail),rfl,rfl,rfl,rfl⟩,⟨_,_,_,hp.e2,.same (by repeat' first|exact Aa.nil|exact Ae.cells (by assumption)|refine Aa.cons rfl ?_|refine Aa.cons (Ar _ _).rn ?_|refine Aa.cons (Ae.rn (by assumption)) ?_|fail),rfl,rfl,rfl,rfl⟩,⟨_,_,_,hp.e3,.same (by repeat' first|exact Aa.nil|exact Ae.cells (by assumption)|refine Aa.cons rfl ?_|refine Aa.cons (Ar _ _).rn ?_|refine Aa.cons (Ae.rn (by assumption)) ?_|fail),rfl,rfl,rfl,rfl⟩,⟨_,_,_,hp.e4,.same (by repeat' first|exact Aa.nil|exact Ae.cells (by assumption)|refine Aa.cons rfl ?_|refine Aa.cons (Ar _ _).rn ?_|refine Aa.cons (Ae.rn (by assumption)) ?_|fail),rfl,rfl,rfl,rfl⟩,⟨_,_,_,hp.e5,.same (by repeat' first|exact Aa.nil|exact Ae.cells (by assumption)|refine Aa.cons rfl ?_|refine Aa.cons (Ar _ _).rn ?_|refine Aa.cons (Ae.rn (by assumption)) ?_|fail),rfl,rfl,rfl,rfl⟩,?_⟩;refine⟨⟨_,_,_,e6,⟨(show Aa _ _ _ by repeat' first|exact Aa.nil|exact Ae.cells (by assumption)|refine Aa.cons rfl ?_|refine Aa.cons (Ar _ _).rn ?_|refine Aa.cons (Ae.rn (by assumption)) ?_|fail),fun _=>⟨rfl,.inl .nil⟩,rfl⟩,rfl,rfl,rfl,rfl⟩,⟨_,_,_,e7,⟨Ae.cells (by assumption),(fun h=>(by cases h)),rfl⟩,rfl,rfl,rfl,rfl⟩,?_⟩;repeat' first|refine⟨⟨_,_,_,hp.el _ _ (by first|exact List.Mem.head _|exact List.Mem.tail _ (List.Mem.head _)|exact List.Mem.tail _ (List.Mem.tail _ (List.Mem.head _))|exact List.Mem.tail _ (List.Mem.tail _ (List.Mem.tail _ (List.Mem.head _)))|exact List.Mem.tail _ (List.Mem.tail _ (List.Mem.tail _ (List.Mem.tail _ (List.Mem.head _))))|exact List.Mem.tail _ (List.Mem.tail _ (List.Mem.tail _ (List.Mem.tail _ (List.Mem.tail _ (List.Mem.head _)))))),.same (by repeat' first|exact Aa.nil|exact Ae.cells (by assumption)|refine Aa.cons rfl ?_|refine Aa.cons (Ar _ _).rn ?_|refine Aa.cons (Ae.rn (by assumption)) ?_|fail),rfl,rfl,rfl,rfl⟩,?_⟩|exact trivial|fail)):P:=h
theorem Yj2 {P:Prop} (h:P:=by(refine⟨⟨_,_,_,hp.e0,⟨(show Aa _ _ _ by repeat' first|exact Aa.nil|exact Ae.cells (by assumption)|refine Aa.cons rfl ?_|refine Aa.cons (Ar _ _).rn ?_|refine Aa.cons (Ae.rn (by assumption)) ?_|fail),fun _=>⟨rfl,.inl .nil⟩,rfl⟩,rfl,rfl,rfl,rfl⟩,⟨_,_,_,hp.e1,.same (by repeat' first|exact Aa.nil|exact Ae.cells (by assumption)|refine Aa.cons rfl ?_|refine Aa.cons (Ar _ _).rn ?_|refine Aa.cons (Ae.rn (by assumption)) ?_|fail),rfl,rfl,rfl,rfl⟩,⟨_,_,_,hp.e2,.same (by repeat' first|exact Aa.nil|exact Ae.cells (by assumption)|refine Aa.cons rfl ?_|refine Aa.cons (Ar _ _).rn ?_|refine Aa.cons (Ae.rn (by assumption)) ?_|fail),rfl,rfl,rfl,rfl⟩,⟨_,_,_,hp.e3,.same (by repeat' first|exact Aa.nil|exact Ae.cells (by assumption)|refine Aa.cons rfl ?_|refine Aa.cons (Ar _ _).rn ?_|refine Aa.cons (Ae.rn (by assumption)) ?_|fail),rfl,rfl,rfl,rfl⟩,⟨_,_,_,hp.e4,.same (by repeat' first|exact Aa.nil|exact Ae.cells (by assumption)|refine Aa.cons rfl ?_|refine Aa.cons (Ar _ _).rn ?_|refine Aa.cons (Ae.rn (by assumption)) ?_|fail),rfl,rfl,rfl,rfl⟩,⟨_,_,_,hp.e5,.same (by repeat' first|exact Aa.nil|exact Ae.cells (by assumption)|refine Aa.cons rfl ?_|refine Aa.cons (Ar _ _).rn ?_|refine Aa.cons (Ae.rn (by assumption)) ?_|fail),rfl,rfl,rfl,rfl⟩,?_⟩;refine⟨⟨_,_,_,e6,⟨(show Aa _ _ _ by repeat' first|exact Aa.nil|exact Ae.cells (by assumption)|refine Aa.cons rfl ?_|refine Aa.cons (Ar _ _).rn ?_|refine Aa.cons (Ae.rn (by assumption)) ?_|fail),fun _=>⟨rfl,.inl .nil⟩,rfl⟩,rfl,rfl,rfl,rfl⟩,⟨_,_,_,e7,(by first|exact⟨Ae.cells (by assumption),fun _=>⟨rfl,.inr ⟨_,_,_,.head _,rfl,hp.e0,rfl⟩⟩,rfl⟩|exact⟨Ae.cells (by assumption),(fun h=>(by cases h)),rfl⟩),rfl,rfl,rfl,rfl⟩,?_⟩;repeat' first|refine⟨⟨_,_,_,hp.el _ _ (by first|exact List.Mem.head _|exact List.Mem.tail _ (List.Mem.head _)|exact List.Mem.tail _ (List.Mem.tail _ (List.Mem.head _))|exact List.Mem.tail _ (List.Mem.tail _ (List.Mem.tail _ (List.Mem.head _)))|exact List.Mem.tail _ (List.Mem.tail _ (List.Mem.tail _ (List.Mem.tail _ (List.Mem.head _))))|exact List.Mem.tail _ (List.Mem.tail _ (List.Mem.tail _ (List.Mem.tail _ (List.Mem.tail _ (List.Mem.head _)))))),.same (by repeat' first|exact Aa.nil|exact Ae.cells (by assumption)|refine Aa.cons rfl ?_|refine Aa.cons (Ar _ _).rn ?_|refine Aa.cons (Ae.rn (by assumption)) ?_|fail),rfl,rfl,rfl,rfl⟩,?_⟩|exact trivial|fail)):P:=h
end Go.Pv
end
section
noncomputable section
namespace Go.Pv.K
open Go.Vm
open Go.Vm.Key (kn)
theorem Fb (n:Nat) (k:Nat→Bool):J9 n k=k n:=by cases n<;>rfl
theorem yK (n:Int) (k:Int→Bool):CB n k=k n:=by
 cases n with
 |ofNat n=>exact Fb n (fun n=>k (.ofNat n))
 |negSucc n=>exact Fb n (fun n=>k (.negSucc n))
theorem fH (b:Bool) (k:Bool→Bool):iQ b k=k b:=by cases b<;>rfl
theorem yL (x:PV) (k:PV→Bool):CC x k=k x:=by
 cases x with
 |bool b=>exact fH b (fun b=>k (.bool b))
 |int kd n=>exact yK n (fun n=>k (.int kd n))
 |_=>rfl
theorem fI (a:PA) (k:PA→Bool):bR a k=k a:=by
 cases a with
 |tup l=>rfl
 |v c=>cases c with
  |s x=>exact yL x (fun x=>k (.v (.s x)))
  |agg l=>rfl
theorem Xq {c a b:Bool} (h:Er c a b=true):(c=true∧a=true)∨(c=false∧b=true):=by
 cases c
 ·exact .inr ⟨rfl,h⟩
 ·exact .inl ⟨rfl,h⟩
theorem Fl {c a:Bool} (h:Er c a false=true):c=true∧a=true:=by
 rcases Xq h with h|h
 ·exact h
 ·exact ff h.2
theorem Ha {r:Option (PA×Ab)} {k:KK} (h:dfl r k=true):∃v h',r=some (v,h')∧k v h'=true:=by
 cases r with
 |none=>exact ff h
 |some p=>
  obtain⟨v,m,n⟩:=p
  have h:bR v (fun v=>k v ⟨m,n⟩)=true:=h
  rw[fI] at h
  exact⟨v,_,rfl,h⟩
section
variable {α:Type}
theorem bW {k:α→Bool}:∀{o:Nat} {l:List α},yH k o l=true→∃x,l[o]?=some x∧k x=true
 |0,[],h=>ff h
 |0,x::l,h=>⟨x,rfl,h⟩
 |o+1,[],h=>ff h
 |o+1,x::l,h=>bW (o:=o) (l:=l) h
theorem Q1 {k:List α→Bool}:∀{o:Nat} {l:List α},Xo k o l=true→o≤l.length∧k (l.drop o)=true
 |0,l,h=>⟨Zl,h⟩
 |o+1,[],h=>ff h
 |o+1,x::l,h=>by
  obtain⟨h1,h2⟩:=Q1 (o:=o) (l:=l) h
  exact⟨by simp;omega,h2⟩
theorem Q2:∀{n:Nat} {l:List α} {k:List α→Bool},Xp n l k=true→n≤l.length∧k (l.take n)=true
 |0,l,k,h=>⟨Zl,h⟩
 |n+1,[],k,h=>ff h
 |n+1,x::l,k,h=>by
  obtain⟨h1,h2⟩:=Q2 (n:=n) (l:=l) (k:=fun r=>k (x::r)) h
  exact⟨by simp;omega,h2⟩
theorem Q3:∀l:List α,iR l=l.length
 |[]=>rfl
 |x::l=>congrArg (·+1) (Q3 l)
end
theorem CM:∀{new l:List PV} {k:List PV→Bool},SO new l k=true→new.length≤l.length∧k (new++l.drop new.length)=true
 |[],l,k,h=>⟨Zl,h⟩
 |y::new,[],k,h=>ff h
 |y::new,x::l,k,h=>by
  obtain⟨h1,h2⟩:=CM (new:=new) (l:=l) (k:=fun r=>k (y::r)) h
  exact⟨by simp;omega,h2⟩
theorem vE {new:List PV}:∀{o:Nat} {l:List PV} {k:List PV→Bool},CD new o l k=true→o+new.length≤l.length∧k (Ab.over l o new)=true
 |0,l,k,h=>by
  obtain⟨h1,h2⟩:=CM (new:=new) (l:=l) (k:=k) h
  exact⟨by omega,by simpa[Ab.over] using h2⟩
 |o+1,[],k,h=>ff h
 |o+1,x::l,k,h=>by
  obtain⟨h1,h2⟩:=vE (o:=o) (l:=l) (k:=fun r=>k (x::r)) h
  refine⟨by simp;omega,?_⟩
  have:Ab.over (x::l) (o+1) new=x::Ab.over l o new:=by
   simp only[Ab.over,List.take_succ_cons,List.cons_append]
   rw[show o+1+new.length=(o+new.length)+1 from by omega,List.drop_succ_cons]
  rw[this];exact h2
theorem Ui:∀(k:Key) (t:Tr Ap),rI k t=t.get k
 |.h,.z=>rfl
 |.h,.n _ _ _=>rfl
 |.o k,.z=>rfl
 |.o k,.n l _ _=>Ui k l
 |.i k,.z=>rfl
 |.i k,.n _ _ r=>Ui k r
theorem tP (k:Key) (v:Ap):(Tr.z:Tr Ap).upd k (some v)=Tr.Zi (some v) k:=by cases k<;>rfl
theorem K3:∀(k:Key) (v:Ap) (t:Tr Ap) (c:Tr Ap→Bool),bS k v t c=c (t.upd k (some v))
 |.h,v,.z,c=>rfl
 |.h,v,.n _ _ _,c=>rfl
 |.o k,v,.z,c=>by
  show bS k v .z (fun l=>c (.n l none .z))=_
  rw[K3 k v .z,tP];rfl
 |.o k,v,.n l x r,c=>K3 k v l _
 |.i k,v,.z,c=>by
  show bS k v .z (fun r=>c (.n .z none r))=_
  rw[K3 k v .z,tP];rfl
 |.i k,v,.n l x r,c=>K3 k v r _
theorem Ka:∀(k:Key) (c:Key→Bool),My k c=c k.succ
 |.h,_=>rfl
 |.o _,_=>rfl
 |.i k,c=>Ka k _
theorem IU {h:Ab} {b:Key} {f:C5→Bool→Bool→List Key→List (Nat×Nat)→Bool} (e:MO h b f=true):∃x,h.get b=some x∧f x.body x.own x.frz x.anc x.log=true:=by
 obtain⟨mem,next⟩:=h
 have e:@Option.rec Ap (fun _=>Bool) false (fun x=>@Ap.rec (fun _=>Bool) f x) (rI b mem)=true:=e
 rw[Ui] at e
 cases hx:mem.get b with
 |none=>rw[hx] at e;exact ff e
 |some x=>rw[hx] at e;exact⟨x,hx,e⟩
theorem Mz {h:Ab} {b:Key} {f:List PV→Bool} (e:Kz h b f=true):∃c,h.cells b=some c∧f c=true:=by
 obtain⟨⟨body,own,frz,anc,log⟩,h1,h2⟩:=IU e
 cases body with
 |cells c=>exact⟨c,by simp[Ab.cells,h1],h2⟩
 |map _=>exact ff h2
 |iter _ _ _=>exact ff h2
theorem Y7 (h:Ab) (body:C5) (k:Key→Ab→Bool):yI h body k=k h.next (h.new body):=by
 obtain⟨mem,next⟩:=h
 show bS next ⟨body,true,false,[],[]⟩ mem (fun mem=>My next (fun n=>k next ⟨mem,n⟩))=_
 rw[K3,Ka];rfl
theorem Kb {h:Ab} {b:Key} {c:List PV} (hc:h.cells b=some c) {o n:Nat} (hle:o+n≤c.length):h.read b o n=some ((c.drop o).take n):=by
 unfold Ab.read
 split
 ·next h0=>subst h0;simp
 ·simp[hc,hle]
def eC (f:Yr) (p:List PA→Ab→PR):Prop:=∀a h k,f a h k=true→∃v h',p [a] h=some (v,h')∧k v h'=true
def eD (f:bQ) (p:List PA→Ab→PR):Prop:=∀a b h k,f a b h k=true→∃v h',p [a,b] h=some (v,h')∧k v h'=true
theorem Gj {a:PA} {f:PV→Bool} (e:onV a f=true):∃x,a=.v (.s x)∧f x=true:=by
 cases a with
 |tup l=>exact ff e
 |v c=>cases c with
  |s x=>exact⟨x,rfl,e⟩
  |agg l=>exact ff e
theorem vF {x:PV} {f:Key→Nat→Bool} {r:List PV→Bool} {e:Bool} (h:P2 x f r e=true):(∃b o,x=.ptr b o∧f b o=true)∨(∃l,x=.rp l∧r l=true)∨e=true:=by
 cases x<;>first|exact .inl ⟨_,_,rfl,h⟩|exact .inr (.inl ⟨_,rfl,h⟩)|exact .inr (.inr h)
theorem Q4 {x:PV} {f:Key→Nat→Bool} {r:List PV→Bool} (h:P2 x f r false=true):(∃b o,x=.ptr b o∧f b o=true)∨(∃l,x=.rp l∧r l=true):=by
 rcases vF h with h|h|h
 ·exact .inl h
 ·exact .inr h
 ·exact ff h
theorem iV {x:PV} {f:IntKind→Int→Bool} {e:Bool} (h:uX x f e=true):(∃k n,x=.int k n∧f k n=true)∨e=true:=by
 cases x<;>first|exact .inl ⟨_,_,rfl,h⟩|exact .inr h
theorem nO {x:PV} {f:Bool→Bool} (h:iS x f=true):∃b,x=.bool b∧f b=true:=by
 cases x<;>first|exact⟨_,rfl,h⟩|exact ff h
theorem CN {x:PV} {f:Key→Nat→Nat→Nat→Bool} {g:Nat→List (List PV)→Bool} {n:Bool} (h:OS x f g n=true) :
  (∃b o len es cap,x=.slice b o len es cap∧f b o len es=true)∨(∃es l cap,x=.lst es l cap∧g es l=true)∨(x=.Af∧n=true):=by
 cases x<;>first|exact .inl ⟨_,_,_,_,_,rfl,h⟩|exact .inr (.inl ⟨_,_,_,rfl,h⟩)|exact .inr (.inr ⟨rfl,h⟩)|exact ff h
theorem IW:eC CE Lk:=by
 intro a h k e0
 obtain⟨x,rfl,e1⟩:=Gj e0
 rcases Q4 e1 with⟨b,o,rfl,e2⟩|⟨l,rfl,e2⟩
 ·obtain⟨c,h1,e3⟩:=Mz e2
  obtain⟨x,h2,e4⟩:=bW e3
  have hlt:=(Gi.1 h2).1
  have hr:=Kb h1 (o:=o) (n:=1) (by omega)
  have:(c.drop o).take 1=[x]:=by
   rw[List.drop_eq_getElem_cons hlt]
   simp[(Gi.1 h2).2]
  rw[this] at hr
  exact⟨_,_,by simp only[Lk,hr],e4⟩
 ·cases l with
  |nil=>exact ff e2
  |cons v l=>exact⟨_,_,rfl,e2⟩
theorem IX (n:Nat):eC (CF n) (Fz n):=by
 intro a h k e0
 obtain⟨x,rfl,e1⟩:=Gj e0
 rcases Q4 e1 with⟨b,o,rfl,e2⟩|⟨l,rfl,e2⟩
 ·obtain⟨c,h1,e3⟩:=Mz e2
  obtain⟨h2,e4⟩:=Q1 e3
  obtain⟨h3,e5⟩:=Q2 e4
  have hr:=Kb h1 (o:=o) (n:=n) (by simp at h3;omega)
  exact⟨_,_,by simp only[Fz,hr],e5⟩
 ·obtain⟨h3,e3⟩:=Q2 e2
  exact⟨_,_,by simp only[Fz];rw[if_pos h3],e3⟩
theorem CP:eC uY Ks:=by
 intro a h k e0
 obtain⟨x,rfl,e1⟩:=Gj e0
 rcases vF e1 with⟨b,o,rfl,e2⟩|⟨l,rfl,e2⟩|e2
 ·exact⟨_,_,rfl,e2⟩
 ·exact⟨_,_,rfl,e2⟩
 ·exact Ha e2
theorem IY (off:Nat):eC (CG off) (Sp off):=by
 intro a h k e0
 obtain⟨x,rfl,e1⟩:=Gj e0
 rcases Q4 e1 with⟨b,o,rfl,e2⟩|⟨l,rfl,e2⟩
 ·rw[Fb] at e2
  exact⟨_,_,rfl,e2⟩
 ·obtain⟨h1,e3⟩:=Q1 e2
  exact⟨_,_,by simp only[Sp];rw[if_pos h1],e3⟩
theorem OX:eC MP lH:=by
 intro a h k e0
 obtain⟨x,rfl,e1⟩:=Gj e0
 rcases CN e1 with⟨b,o,len,es,cap,rfl,e2⟩|⟨es,l,cap,rfl,e2⟩|⟨rfl,e2⟩
 ·exact⟨_,_,rfl,e2⟩
 ·rw[Fb,Q3] at e2
  exact⟨_,_,rfl,e2⟩
 ·exact⟨_,_,rfl,e2⟩
theorem yM (i:Nat):eC (nK i) (Jq i):=by
 intro a h k e0
 cases a with
 |v c=>exact ff e0
 |tup l=>
  obtain⟨x,h1,e1⟩:=bW (l:=l) e0
  exact⟨_,_,by simp only[Jq,h1,noP],e1⟩
theorem TI:eC SP (pUn .not):=by
 intro a h k e0
 obtain⟨x,rfl,e1⟩:=Gj e0
 obtain⟨b,rfl,e2⟩:=nO e1
 cases b<;>exact⟨_,_,rfl,e2⟩
theorem nP {c:PC} {f:List PV→Bool} (e:rJ c f=true):f c.cells=true:=by cases c<;>exact e
theorem TJ (n:Nat):eC (SQ n) (xA n):=by
 intro a h k e0
 cases a with
 |tup l=>exact ff e0
 |v c=>
  have e1:=nP (c:=c) (f:=fun l=>Er (Nat.beq (iR l) n) (yI h (.cells l) (fun b h=>k (.v (.s (.ptr b 0))) h)) false) e0
  obtain⟨h1,e2⟩:=Fl e1
  rw[Q3,Nat.beq_eq] at h1
  rw[Y7] at e2
  exact⟨_,_,by simp only[xA];rw[if_pos h1],e2⟩
theorem TK (es:Nat):eD (SR es) (gV es):=by
 intro a i h k e0
 obtain⟨x,rfl,e1⟩:=Gj e0
 obtain⟨i,rfl,e2⟩:=Gj e1
 rcases iV e2 with⟨kd,n,rfl,e3⟩|e3
 ·cases n with
  |negSucc n=>exact ff e3
  |ofNat n=>
   rcases CN e3 with⟨b,o,len,es',cap,rfl,e4⟩|⟨es',l,cap,rfl,e4⟩|⟨rfl,e4⟩
   ·obtain⟨h1,e5⟩:=Fl e4
    obtain⟨h2,e6⟩:=Fl e5
    rw[Nat.ble_eq] at h1
    rw[Nat.beq_eq] at h2
    rw[Fb] at e6
    refine⟨_,_,?_,e6⟩
    simp only[gV]
    rw[if_pos ⟨h2,Int.natCast_nonneg n,by simp only[Int.ofNat_eq_natCast];omega⟩]
    rfl
   ·obtain⟨h2,e5⟩:=Fl e4
    rw[Nat.beq_eq] at h2
    obtain⟨x,h1,e6⟩:=bW e5
    refine⟨_,_,?_,e6⟩
    simp only[gV]
    rw[if_pos ⟨h2,Int.natCast_nonneg n⟩]
    simp only[Int.ofNat_eq_natCast,Int.toNat_natCast,h1]
   ·exact ff e4
 ·exact ff e3
theorem IZ (n:Nat):eD (CH n) (Ll n):=by
 intro a v h k e0
 obtain⟨x,rfl,e1⟩:=Gj e0
 rcases Q4 e1 with⟨b,o,rfl,e2⟩|⟨l,rfl,e2⟩
 ·cases v with
  |tup l=>exact ff e2
  |v c=>
   have e3:=nP (c:=c) e2
   obtain⟨h1,e4⟩:=Fl e3
   rw[Q3,Nat.beq_eq] at h1
   obtain⟨mem,next⟩:=h
   have e5:@Option.rec Ap (fun _=>Bool) false (fun x=>@Ap.rec (fun _=>Bool) (fun body own frz anc log=>
    @C5.rec (fun _=>Bool) (fun d=>@List.rec Key (fun _=>Bool)
     (Er own (Er frz false (CD c.cells o d (fun c=>bS b ⟨.cells c,true,false,[],(o,n)::log⟩ mem (fun mem=>k .unit ⟨mem,next⟩)))) false)
     (fun _ _ _=>dfl (Ll n [.v (.s (.ptr b o)),.v c] ⟨mem,next⟩) k) anc) (fun _=>false) (fun _ _ _=>false) body) x) (rI b mem)=true:=e4
   rw[Ui] at e5
   cases hx:mem.get b with
   |none=>rw[hx] at e5;exact ff e5
   |some x=>
    rw[hx] at e5
    obtain⟨body,own,frz,anc,log⟩:=x
    cases body with
    |map _=>exact ff e5
    |iter _ _ _=>exact ff e5
    |cells d=>
     cases anc with
     |cons _ _=>exact Ha e5
     |nil=>
      obtain⟨h2,e6⟩:=Fl e5
      subst h2
      rcases Xq e6 with⟨h3,e7⟩|⟨h3,e7⟩
      ·exact ff e7
      ·subst h3
       obtain⟨h4,e8⟩:=vE e7
       rw[K3] at e8
       refine⟨_,_,?_,e8⟩
       have hg:(⟨mem,next⟩:Ab).get b=some ⟨.cells d,true,false,[],log⟩:=hx
       have hw:(⟨mem,next⟩:Ab).write b o c.cells=some ⟨mem.upd b (some ⟨.cells (Ab.over d o c.cells),true,false,[],(o,n)::log⟩),next⟩:=by
        simp only[Ab.write,hg]
        rw[if_pos ⟨h4,rfl⟩,h1]
        rfl
       simp only[Ll]
       rw[if_pos h1]
       simp only[hw]
 ·exact ff e2
theorem rQ {x y:PV} {f:Nat→Nat→Bool} {e:Bool} (h:IS x y f e=true):(∃m n:Nat,x=.int .i64 (.ofNat m)∧y=.int .i64 (.ofNat n)∧f m n=true)∨e=true:=by
 rcases iV h with⟨kd,a,rfl,h1⟩|h1
 ·rcases iV h1 with⟨kd',b,rfl,h2⟩|h2
  ·have k1:∀k:IntKind,CI k=true→k=.i64:=fun k e=>by cases k<;>first|rfl|exact ff e
   cases hk:CI kd with
   |false=>rw[hk] at h2;exact .inr h2
   |true=>
   cases hk':CI kd' with
   |false=>rw[hk,hk'] at h2;exact .inr h2
   |true=>
   rw[hk,hk'] at h2
   cases k1 _ hk;cases k1 _ hk'
   cases a with
   |negSucc a=>exact .inr h2
   |ofNat a=>
    cases b with
    |negSucc b=>exact .inr h2
    |ofNat b=>exact .inl ⟨a,b,rfl,rfl,h2⟩
  ·exact .inr h2
 ·exact .inr h1
theorem wrap64 {n:Nat} (h:n≤9223372036854775807):IntKind.i64.wrap (.ofNat n)=.ofNat n:=by
 unfold IntKind.wrap
 have h1:(Int.ofNat n) % (2 ^ IntKind.i64.bits:Int)=Int.ofNat n:=by
  show(Int.ofNat n) % (18446744073709551616:Int)=_
  simp only[Int.ofNat_eq_natCast];omega
 simp only[h1]
 rw[if_neg]
 simp only[Bool.and_eq_true,not_and,decide_eq_true_eq]
 intro _
 show ¬(Int.ofNat n≥(9223372036854775808:Int))
 simp only[Int.ofNat_eq_natCast];omega
theorem TL:eD SS (Ox .add):=by
 intro a c h k e0
 obtain⟨x,rfl,e1⟩:=Gj e0
 obtain⟨y,rfl,e2⟩:=Gj e1
 rcases rQ e2 with⟨m,n,rfl,rfl,e3⟩|e3
 ·rcases Xq e3 with⟨h1,e4⟩|⟨_,e4⟩
  ·rw[Nat.ble_eq] at h1
   rw[Fb] at e4
   refine⟨_,_,?_,e4⟩
   show Dr h (Ow (.int .i64 (IntKind.i64.wrap (Int.ofNat m+Int.ofNat n))))=_
   have:Int.ofNat m+Int.ofNat n=Int.ofNat (Nat.add m n):=rfl
   rw[this,wrap64 h1];rfl
  ·exact Ha e4
 ·exact Ha e3
theorem TM:eD SU (Ox .sub):=by
 intro a c h k e0
 obtain⟨x,rfl,e1⟩:=Gj e0
 obtain⟨y,rfl,e2⟩:=Gj e1
 rcases rQ e2 with⟨m,n,rfl,rfl,e3⟩|e3
 ·rcases Xq e3 with⟨h1,e4⟩|⟨_,e4⟩
  ·rcases Xq e4 with⟨h2,e5⟩|⟨_,e5⟩
   ·rw[Nat.ble_eq] at h1 h2
    rw[Fb] at e5
    refine⟨_,_,?_,e5⟩
    show Dr h (Ow (.int .i64 (IntKind.i64.wrap (Int.ofNat m-Int.ofNat n))))=_
    have:Int.ofNat m-Int.ofNat n=Int.ofNat (Nat.sub m n):=by
     simp only[Int.ofNat_eq_natCast,Nat.sub_eq];omega
    rw[this,wrap64 (by simp only[Nat.sub_eq];omega)];rfl
   ·exact Ha e5
  ·exact Ha e4
 ·exact Ha e3
theorem fJ {b:BinOp} {f:Nat→Nat→Bool} (hb:∀m n:Nat,Yj b (.int .i64 (.ofNat m)) (.int .i64 (.ofNat n))=some (.bool (f m n))):eD (rK b f) (Ox b):=by
 intro a c h k e0
 obtain⟨x,rfl,e1⟩:=Gj e0
 obtain⟨y,rfl,e2⟩:=Gj e1
 rcases rQ e2 with⟨m,n,rfl,rfl,e3⟩|e3
 ·refine⟨.v (.s (.bool (f m n))),h,by simp only[Ox,hb,Dr],?_⟩
  cases hf:f m n with
  |false=>rw[hf] at e3;exact e3
  |true=>rw[hf] at e3;exact e3
 ·exact Ha e3
theorem M0 {a b:Bool} (h:a=true↔b=true):a=b:=by cases a<;>cases b<;>simp_all
theorem TN (b:BinOp):∃f,MT b=.mk f∧eD f (Ox b):=by
 have any:eD (P3 b) (Ox b):=fun a c h k e=>Ha e
 cases b<;>first|exact⟨_,rfl,any⟩|skip
 ·exact⟨_,rfl,TL⟩
 ·exact⟨_,rfl,TM⟩
 ·refine⟨_,rfl,fJ fun m n=>?_⟩
  show some (PV.bool ((Int.ofNat m)==(Int.ofNat n)))=_
  congr 2
  exact M0 (by simp only[beq_iff_eq,Nat.beq_eq,Int.ofNat_eq_natCast];omega)
 ·refine⟨_,rfl,fJ fun m n=>?_⟩
  show some (PV.bool ((Int.ofNat m) !=(Int.ofNat n)))=_
  have:OT (Nat.beq m n)=!(Nat.beq m n):=by cases Nat.beq m n<;>rfl
  rw[this]
  congr 2
  exact M0 (by simp only[bne_iff_ne,Bool.not_eq_true',ne_eq,Int.ofNat_eq_natCast];rw[←Bool.not_eq_true,Nat.beq_eq];omega)
 ·refine⟨_,rfl,fJ fun m n=>?_⟩
  show some (PV.bool (decide ((Int.ofNat m)<(Int.ofNat n))))=_
  congr 2
  exact M0 (by simp only[decide_eq_true_eq,Nat.ble_eq,Int.ofNat_eq_natCast];omega)
 ·refine⟨_,rfl,fJ fun m n=>?_⟩
  show some (PV.bool (decide ((Int.ofNat m)≤(Int.ofNat n))))=_
  congr 2
  exact M0 (by simp only[decide_eq_true_eq,Nat.ble_eq,Int.ofNat_eq_natCast];omega)
 ·refine⟨_,rfl,fJ fun m n=>?_⟩
  show some (PV.bool (decide ((Int.ofNat m)>(Int.ofNat n))))=_
  congr 2
  exact M0 (by simp only[decide_eq_true_eq,Nat.ble_eq,Int.ofNat_eq_natCast];omega)
 ·refine⟨_,rfl,fJ fun m n=>?_⟩
  show some (PV.bool (decide ((Int.ofNat m)≥(Int.ofNat n))))=_
  congr 2
  exact M0 (by simp only[decide_eq_true_eq,Nat.ble_eq,Int.ofNat_eq_natCast];omega)
theorem iW (m:List PV):∀(l:List PV) (k:List PV→Bool),CJ l m k=k (l++m)
 |[],_=>rfl
 |x::l,k=>iW m l _
theorem nQ:∀(l:List (List PV)) (k:List PV→Bool),uZ l k=k l.flatten
 |[],_=>rfl
 |x::l,k=>by
  show uZ l (fun r=>CJ x r k)=_
  rw[nQ l,iW];rfl
theorem OY {es:Nat} {x:PV} {h:Ab} {k:List PV→Nat→Bool} {e:Bool} (t:SX es x h k e=true):(∃l n,Vk h es x=some (l,n)∧k l n=true)∨e=true:=by
 cases x<;>first|exact .inr t|skip
 ·next b o len es' cap=>
  obtain⟨h1,t⟩:=Fl (c:=Nat.beq es es') t
  rw[Nat.beq_eq] at h1
  refine .inl ?_
  cases hm:Nat.mul len es with
  |zero=>
   rw[hm] at t
   have hm:len*es=0:=hm
   exact⟨[],len,by simp only[Vk,if_pos h1,Ab.read,hm,if_true],t⟩
  |succ m=>
   rw[hm] at t
   have hm:len*es=m+1:=hm
   obtain⟨c,h2,t⟩:=Mz t
   obtain⟨h3,t⟩:=Q1 t
   obtain⟨h4,t⟩:=Q2 t
   have hr:=Kb h2 (o:=o) (n:=m+1) (by simp at h4;omega)
   exact⟨_,_,by simp only[Vk,if_pos h1,hm,hr],t⟩
 ·exact .inl ⟨[],0,rfl,t⟩
 ·next es' l cap=>
  obtain⟨h1,t⟩:=Fl (c:=Nat.beq es es') t
  rw[Nat.beq_eq] at h1
  have t:uZ l (fun c=>J9 (iR l) (fun n=>k c n))=true:=t
  rw[nQ,Fb,Q3] at t
  exact .inl ⟨_,_,by simp only[Vk,if_pos h1],t⟩
theorem JA {h:Ab} {b:Key} {o n:Nat} {new:List PV} {k:Key→Ab→Bool} {e:Bool} (t:MR h b o n new k e=true):(∃g,h.grow b o n new=some (h.next,g)∧k h.next g=true)∨e=true:=by
 obtain⟨mem,next⟩:=h
 have t:@Option.rec Ap (fun _=>Bool) false (fun x=>@Ap.rec (fun _=>Bool) (fun body own frz anc log=>
  @C5.rec (fun _=>Bool) (fun c=>Er own (Er (Nat.beq (Nat.add o n) (iR c))
   (Xo (fun d=>Xp n d (fun d=>CJ d new (fun d=>bS b ⟨.cells c,false,frz,anc,log⟩ mem (fun mem=>bS next ⟨.cells d,true,false,b::anc,[]⟩ mem (fun mem=>My next (fun n=>k next ⟨mem,n⟩)))))) o c) e) false)
   (fun _=>false) (fun _ _ _=>false) body) x) (rI b mem)=true:=t
 rw[Ui] at t
 cases hx:mem.get b with
 |none=>rw[hx] at t;exact ff t
 |some x=>
  rw[hx] at t
  obtain⟨body,own,frz,anc,log⟩:=x
  cases body with
  |map _=>exact ff t
  |iter _ _ _=>exact ff t
  |cells c=>
   obtain⟨h1,t0⟩:=Fl t
   subst h1
   rcases Xq t0 with⟨h2,t1⟩|⟨_,t1⟩
   ·rw[Nat.beq_eq,Q3] at h2
    have h2:o+n=c.length:=h2
    obtain⟨h3,t2⟩:=Q1 t1
    obtain⟨h4,t3⟩:=Q2 t2
    rw[iW,K3,K3,Ka] at t3
    refine .inl ⟨_,?_,t3⟩
    have hg:(⟨mem,next⟩:Ab).get b=some ⟨.cells c,true,frz,anc,log⟩:=hx
    simp only[Ab.grow,hg,Ab.copied]
    rw[if_pos (show o+n≤c.length by omega)]
    simp only
    rw[if_pos h2]
    rfl
   ·exact .inr t1
theorem CQ (es bytes:Nat):eD (vA es bytes) (D1 es bytes):=by
 intro a c h k e0
 obtain⟨s,rfl,e1⟩:=Gj e0
 obtain⟨x,rfl,e2⟩:=Gj e1
 rcases OY e2 with⟨l,n,h1,e3⟩|e3
 ·rcases Xq e3 with⟨_,e4⟩|⟨hn,e4⟩
  ·exact Ha e4
  ·have hn0:n≠0:=by rintro rfl;simp at hn
   cases s<;>first|exact Ha e4|skip
   ·next b o len es' cap=>
    cases cap with
    |some _=>exact Ha e4
    |none=>
     obtain⟨h2,e5⟩:=Fl (c:=Nat.beq es es') e4
     rw[Nat.beq_eq] at h2
     obtain⟨h3,e6⟩:=Fl e5
     rcases JA e6 with⟨g,h4,e7⟩|e7
     ·rw[Fb] at e7
      refine⟨_,_,?_,e7⟩
      have h3:room (len+n) bytes=true:=h3
      have h4:h.grow b o (len*es) l=some (h.next,g):=h4
      simp only[D1,h1,Kq]
      rw[if_pos h2,if_neg hn0,if_pos h3]
      simp only[h4];rfl
     ·exact Ha e7
   ·obtain⟨h3,e5⟩:=Fl e4
    rw[Y7] at e5
    refine⟨_,_,?_,e5⟩
    simp only[D1,h1,Kq]
    rw[if_neg hn0,if_pos h3]
 ·exact Ha e3
def CS (f:yJ) (p:List PA→Ab→PR):Prop:=∀xs h k,f xs h k=true→∃v h',p xs h=some (v,h')∧k v h'=true
theorem CT {l:Option (List PV)} {f:List PV→Bool} (e:onL l f=true):∃x,l=some x∧f x=true:=by
 cases l with
 |none=>exact ff e
 |some x=>exact⟨x,rfl,e⟩
theorem OZ (zs:List SV):CS (MS zs) (eM zs):=by
 intro xs h k e
 cases xs with
 |cons _ _=>exact ff e
 |nil=>
  obtain⟨l,h1,e1⟩:=CT e
  rw[Y7] at e1
  exact⟨_,_,by simp only[eM,h1],e1⟩
theorem bX (es len:Nat) (zero:List SV) (places:List (Nat×Nat)):CS (Y6 es len zero places) (Qr es len zero places):=by
 intro xs h k e
 obtain⟨z,h1,e1⟩:=CT e
 obtain⟨cs,h2,e2⟩:=CT e1
 rw[Y7] at e2
 exact⟨_,_,by simp only[Qr,h1,h2],e2⟩
theorem PB (o:VOp):∃f,TA o=.mk f∧CS f (opP o):=by
 have any:CS (fun xs h k=>dfl (opP o xs h) k) (opP o):=fun xs h k e=>Ha e
 cases o<;>first|exact⟨_,rfl,any⟩|skip
 case Fg zs=>exact⟨_,rfl,OZ zs⟩
 case Gn es len z p=>exact⟨_,rfl,bX es len z p⟩
theorem PD (o:VOp):∃f,TB o=.mk f∧eC f (opP o):=by
 have any:eC (fun a h k=>dfl (opP o [a] h) k) (opP o):=fun a h k e=>Ha e
 cases o<;>first|exact⟨_,rfl,any⟩|skip
 case Bm=>exact⟨_,rfl,IW⟩
 case B5 n=>exact⟨_,rfl,IX n⟩
 case Gp=>exact⟨_,rfl,CP⟩
 case B8 n=>exact⟨_,rfl,IY n⟩
 case lens=>exact⟨_,rfl,OX⟩
 case extract n=>exact⟨_,rfl,yM n⟩
 case box n=>exact⟨_,rfl,TJ n⟩
 case Gn es len z p=>exact⟨_,rfl,fun a h k e=>bX es len z p [a] h k e⟩
 case un u=>cases u<;>first|exact⟨_,rfl,TI⟩|exact⟨_,rfl,any⟩
theorem PE (o:VOp):∃f,TD o=.mk f∧eD f (opP o):=by
 have any:eD (fun a b h k=>dfl (opP o [a,b] h) k) (opP o):=fun a b h k e=>Ha e
 cases o<;>first|exact⟨_,rfl,any⟩|skip
 case isl n=>exact⟨_,rfl,TK n⟩
 case store n=>exact⟨_,rfl,IZ n⟩
 case bin b=>exact TN b
 case append es by'=>exact⟨_,rfl,CQ es by'⟩
 case Gn es len z p=>exact⟨_,rfl,fun a b h k e=>bX es len z p [a,b] h k e⟩
end Go.Pv.K
end
section
noncomputable section
namespace Go.Pv.K
open Go.Vm
open Go.Vm.Key (kn)
def FRK (fr:Fr) (pf:PFr):Prop:=∀k v,fr.at k=some v→pf.get k=some v
variable {fr:Fr} {pf:PFr} {h:Ab}
theorem Lq (hf:FRK fr pf) {x:VX} {c:PA→Bool} (e:Sa (Ip x) fr c=true):∃v,Pa pf x=some v∧c v=true:=by
 cases x with
 |t key=>
  obtain⟨g,p,h1,h2,_⟩:=bP key
  have:Ip (.t key)=.s g:=by simp only[Ip,h1]
  rw[this] at e
  have e:@Option.rec PA (fun _=>Bool) false c (g fr)=true:=e
  rw[h2] at e
  cases hv:fr.at key with
  |none=>rw[hv] at e;exact ff e
  |some v=>rw[hv] at e;exact⟨v,hf _ _ hv,e⟩
 |c a=>
  cases ha:wZ a with
  |none=>
   have:Ip (.c a)=.bad:=by simp only[Ip,ha]
   rw[this] at e;exact ff e
  |some v=>
   have:Ip (.c a)=.c v:=by simp only[Ip,ha]
   rw[this] at e;exact⟨v,ha,e⟩
theorem CU {key:Key} {v:PA} {fr':Fr} (hf:FRK fr pf) (h:∀j,fr'.at j=if key=j then some v else fr.at j):FRK fr' (pf.upd key (some v)):=by
 intro j w e
 rw[h] at e
 rw[Tr.Av]
 split at e
 ·next hk=>rw[if_pos hk];exact e
 ·next hk=>rw[if_neg hk];exact hf j w e
def vG (p:N5) (d:Option Key):Prop:=∀{fr:Fr} {pf:PFr},FRK fr pf→∀{v:PA} {c:Fr→Bool},p v fr c=true→∃fr',c fr'=true∧FRK fr' (Kl pf d v)
theorem iX (d:Option Key):∃p,nM d=.mk p∧vG p d:=by
 cases d with
 |none=>exact⟨_,rfl,fun hf=>fun{v c} e=>⟨_,e,hf⟩⟩
 |some key=>
  obtain⟨g,p,h1,_,h3⟩:=bP key
  refine⟨p,by simp only[nM,h1],fun{fr pf} hf {v c} e=>?_⟩
  obtain⟨fr',h4,h5⟩:=h3 v fr c e
  exact⟨fr',h4,CU hf h5⟩
theorem Uj (hf:FRK fr pf):∀{xs:List VX} {c:List PA→Bool},Wc xs fr c=true→∃vs,D6 pf xs=some vs∧c vs=true
 |[],c,e=>⟨[],rfl,e⟩
 |x::xs,c,e=>by
  obtain⟨v,h1,e1⟩:=Lq hf (x:=x) (c:=fun v=>Wc xs fr (fun vs=>c (v::vs))) e
  obtain⟨vs,h2,e2⟩:=Uj hf e1
  exact⟨v::vs,by simp only[D6,h1,h2],e2⟩
def iY (call:Ei) (pc:E7):Prop:=∀f args h k,call f args h k=true→∃v h',pc f args h=some (v,h')∧k v h'=true
variable {call:Ei} {pc:E7}
theorem PG (hc:iY call pc) {a:Bl} {args:List PA} {k:KK} (e:OU call a args h k=true):∃v h',lI pc a args h=some (v,h')∧k v h'=true:=by
 cases a with
 |op o=>exact Ha e
 |call f=>exact hc _ _ _ _ e
 |Ge=>
  have e:rM call args h k=true:=e
  unfold rM at e
  split at e
  ·exact hc _ _ _ _ e
  ·cases e
def fK (pc:E7) (act:Bl) (xs:List VX) (dst:Option Key) (pf:PFr) (h:Ab) (k:Fr→Ab→Bool):Prop:=
 ∃args v h' fr',D6 pf xs=some args∧lI pc act args h=some (v,h')∧FRK fr' (Kl pf dst v)∧k fr' h'=true
theorem JB (hc:iY call pc) (hf:FRK fr pf) {act:Bl} {xs:List VX} {dst:Option Key} {p:N5} (hp:vG p dst) {k:Fr→Ab→Bool} (e:G9 (.oN act xs p) call fr h k=true):fK pc act xs dst pf h k:=by
 obtain⟨args,h3,e1⟩:=Uj hf (xs:=xs) (c:=fun args=>OU call act args h (fun v h=>p v fr (fun fr=>k fr h))) e
 obtain⟨v,h',h4,e2⟩:=PG hc e1
 obtain⟨fr',e3,h5⟩:=hp hf e2
 exact⟨args,v,h',fr',h3,h4,h5,e3⟩
theorem WT (hf:FRK fr pf) {o:VOp} {f:yJ} (hs:CS f (opP o)) {xs:List VX} {dst:Option Key} {p:N5} (hp:vG p dst) {k:Fr→Ab→Bool} (e:G9 (.oF f xs p) call fr h k=true):fK pc (.op o) xs dst pf h k:=by
 obtain⟨args,h3,e1⟩:=Uj hf (xs:=xs) (c:=fun args=>f args h (fun v h=>p v fr (fun fr=>k fr h))) e
 obtain⟨v,h',h4,e2⟩:=hs _ _ _ e1
 obtain⟨fr',e3,h5⟩:=hp hf e2
 exact⟨args,v,h',fr',h3,h4,h5,e3⟩
theorem iZ (hf:FRK fr pf) {x:VX} {c:PA→Bool} {g:Fr→Option PA} (hx:Ip x=.s g) (e:@Option.rec PA (fun _=>Bool) false c (g fr)=true):∃v,Pa pf x=some v∧c v=true:=
 Lq hf (by rw[hx];exact e)
theorem PH (hf:FRK fr pf) {x:VX} {c:PA→Bool} {v:PA} (hx:Ip x=.c v) (e:c v=true):∃v,Pa pf x=some v∧c v=true:=
 Lq hf (by rw[hx];exact e)
theorem PI (hc:iY call pc) (hf:FRK fr pf) {act:Bl} {xs:List VX} {dst:Option Key} {p:N5} (hp:vG p dst) {k:Fr→Ab→Bool} (e:G9 (IT act xs p) call fr h k=true):fK pc act xs dst pf h k:=by
 unfold IT at e
 split at e
 ·next a=>
  cases hx:Ip a with
  |s g=>
   rw[hx] at e
   obtain⟨v,h3,e1⟩:=iZ hf (c:=fun v=>p v fr (fun fr=>k fr h)) hx e
   obtain⟨fr',e2,h4⟩:=hp hf e1
   exact⟨[v],v,h,fr',by simp only[D6,h3],rfl,h4,e2⟩
  |c v=>
   rw[hx] at e
   obtain⟨v,h3,e1⟩:=PH hf (c:=fun v=>p v fr (fun fr=>k fr h)) hx e
   obtain⟨fr',e2,h4⟩:=hp hf e1
   exact⟨[v],v,h,fr',by simp only[D6,h3],rfl,h4,e2⟩
  |bad=>rw[hx] at e;exact JB hc hf hp e
 ·next o a _=>
  obtain⟨f,h3,hs⟩:=PD o
  rw[h3] at e
  cases hx:Ip a with
  |s g=>
   rw[hx] at e
   obtain⟨v,h4,e1⟩:=iZ hf (c:=fun a=>f a h (fun v h=>p v fr (fun fr=>k fr h))) hx e
   obtain⟨w,h',h5,e2⟩:=hs _ _ _ e1
   obtain⟨fr',e3,h6⟩:=hp hf e2
   exact⟨[v],w,h',fr',by simp only[D6,h4],h5,h6,e3⟩
  |c v=>rw[hx] at e;exact JB hc hf hp e
  |bad=>rw[hx] at e;exact JB hc hf hp e
 ·next o a b=>
  obtain⟨f,h3,hs⟩:=PE o
  rw[h3] at e
  have fin:∀{v u:PA},Pa pf a=some v→Pa pf b=some u→f v u h (fun v h=>p v fr (fun fr=>k fr h))=true→fK pc (.op o) [a,b] dst pf h k:=by
   intro v u h4 h5 e2
   obtain⟨w,h',h6,e3⟩:=hs _ _ _ _ e2
   obtain⟨fr',e4,h7⟩:=hp hf e3
   exact⟨[v,u],w,h',fr',by simp only[D6,h4,h5],h6,h7,e4⟩
  have gen:∀{x y:S1},Ip a=x→Ip b=y→G9 (.o2 f x y p) call fr h k=true→fK pc (.op o) [a,b] dst pf h k:=by
   intro x y hx hy e
   subst hx;subst hy
   obtain⟨v,h4,e1⟩:=Lq hf (x:=a) (c:=fun a=>Sa (Ip b) fr (fun b=>f a b h (fun v h=>p v fr (fun fr=>k fr h)))) e
   obtain⟨u,h5,e2⟩:=Lq hf e1
   exact fin h4 h5 e2
  cases hx:Ip a with
  |s g=>
   cases hy:Ip b with
   |s g'=>
    rw[hx,hy] at e
    obtain⟨v,h4,e1⟩:=iZ hf (c:=fun a=>@Option.rec PA (fun _=>Bool) false (fun b=>f a b h (fun v h=>p v fr (fun fr=>k fr h))) (g' fr)) hx e
    obtain⟨u,h5,e2⟩:=iZ hf hy e1
    exact fin h4 h5 e2
   |c v=>rw[hx,hy] at e;exact gen hx hy e
   |bad=>rw[hx,hy] at e;exact gen hx hy e
  |c v=>rw[hx] at e;exact gen hx rfl e
  |bad=>rw[hx] at e;exact gen hx rfl e
 ·next o _ _ _=>
  obtain⟨f,h3,hs⟩:=PB o
  rw[h3] at e
  exact WT hf hs hp e
 ·exact JB hc hf hp e
theorem jB (hc:iY call pc) (hf:FRK fr pf) {o:An} {k:Fr→Ab→Bool} (e:G9 (K0 o) call fr h k=true):fK pc o.act o.args o.dst pf h k:=by
 obtain⟨dst,act,xs,g⟩:=o
 obtain⟨p,h1,hp⟩:=iX dst
 have h2:K0 ⟨dst,act,xs,g⟩=IT act xs p:=by simp only[K0,h1]
 rw[h2] at e
 exact PI hc hf hp e
theorem jC (hf:FRK fr pf) {g:Option (Key×Bool)} {k:Bool→Bool} (e:vB g fr k=true):∃b,Cu pf g=some b∧k b=true:=by
 cases g with
 |none=>exact⟨true,rfl,e⟩
 |some q=>
  obtain⟨key,b⟩:=q
  obtain⟨v,h1,e1⟩:=Lq hf (x:=.t key) (c:=fun v=>MU v b k) e
  have h1:pf.get key=some v:=h1
  have other:(∀c,v≠.v (.s (.bool c)))→k false=true→∃b',Cu pf (some (key,b))=some b'∧k b'=true:=by
   intro hv hk
   refine⟨false,?_,hk⟩
   simp only[Cu,h1]
  cases v with
  |tup l=>exact other (fun c h=>by cases h) e1
  |v c=>cases c with
   |agg l=>exact other (fun c h=>by cases h) e1
   |s x=>
    cases x with
    |bool c=>
     have e3:iQ (c==b) k=true:=e1
     rw[fH] at e3
     exact⟨c==b,by simp only[Cu,h1],e3⟩
    |_=>exact other (fun c h=>by cases h) e1
theorem Q5 (hc:iY call pc) (hf:FRK fr pf) {o:An} {k:Fr→Ab→Bool} (e:G9 (K1 o) call fr h k=true):∃pf' h' fr',Kt pc o pf h=some (pf',h')∧FRK fr' pf'∧k fr' h'=true:=by
 obtain⟨dst,act,xs,g⟩:=o
 have yes:Cu pf g=some true→G9 (K0 ⟨dst,act,xs,g⟩) call fr h k=true→∃pf' h' fr',Kt pc ⟨dst,act,xs,g⟩ pf h=some (pf',h')∧FRK fr' pf'∧k fr' h'=true:=by
  intro hw e
  obtain⟨args,v,h',fr',h1,h2,h3,e1⟩:=jB hc hf e
  exact⟨_,h',fr',by simp only[Kt,hw,h1,h2],h3,e1⟩
 cases g with
 |none=>exact yes rfl e
 |some q=>
  obtain⟨key,b⟩:=q
  obtain⟨p,h1,hp⟩:=iX dst
  have h2:K1 ⟨dst,act,xs,some (key,b)⟩=.gd key b p (K0 ⟨dst,act,xs,some (key,b)⟩):=by simp only[K1,h1]
  rw[h2] at e
  obtain⟨w,hw,e1⟩:=jC hf (g:=some (key,b)) (k:=fun w=>@Bool.rec (fun _=>Bool) (p .unit fr (fun fr=>k fr h)) (G9 (K0 ⟨dst,act,xs,some (key,b)⟩) call fr h k) w) e
  cases w with
  |true=>exact yes hw e1
  |false=>
   obtain⟨fr',e2,h3⟩:=hp hf (v:=.unit) (c:=fun fr=>k fr h) e1
   exact⟨_,h,fr',by simp only[Kt,hw],h3,e2⟩
theorem CX (hc:iY call pc):∀(l:List An) {fr:Fr} {pf:PFr} {h:Ab} {k:Fr→Ab→Bool},FRK fr pf→OW call l fr h k=true→∃pf' h' fr',qE pc l pf h=some (pf',h')∧FRK fr' pf'∧k fr' h'=true
 |[],fr,pf,h,k,hf,e=>⟨pf,h,fr,rfl,hf,e⟩
 |o::l,fr,pf,h,k,hf,e=>by
  obtain⟨pf1,h1,fr1,h2,h3,e1⟩:=Q5 hc hf (o:=o) (k:=fun fr h=>go (OW call l fr h k)) e
  obtain⟨pf2,h4,fr2,h5,h6,e2⟩:=CX hc l h3 e1
  exact⟨pf2,h4,fr2,by simp only[qE,h2,h5],h6,e2⟩
theorem Wd {o:VOp} (hb:Ln o=true) (args:List PA):rdP o args=none∧rdF o args=false:=by
 cases o<;>first|(simp[Ln] at hb;done)|exact⟨rfl,rfl⟩
theorem K4 (xs:List VX) (h:Ab):∀s:Dd,Ku xs none false h s=true
 |[]=>rfl
 |_::l=>by simp[Ku,Nl,K4 xs h l]
theorem CY {d:Option Key} {xs:List VX} {rd:Option (Key×Option (Nat×Nat))} {s:Dd} {k:Dd→Bool} (e:CK s (Js d xs rd h s) k=true):k (Js d xs rd h s)=true:=by
 cases s<;>exact e
theorem Q6 {a:Bl} (h:Oq a=.eff):a.kind=.effect:=by
 cases a with
 |call f=>rfl
 |Ge=>rfl
 |op o=>
  show o.kind=.effect
  have h:iT o=.eff:=h
  unfold iT at h
  split at h
  ·next h1=>exact h1
  ·cases h
  ·split at h<;>cases h
theorem Q7 {a:Bl} (h:Oq a=.alc):a.kind=.alloc:=by
 cases a with
 |call f=>cases h
 |Ge=>cases h
 |op o=>
  show o.kind=.alloc
  have h:iT o=.alc:=h
  unfold iT at h
  split at h
  ·cases h
  ·next h1=>exact h1
  ·split at h<;>cases h
theorem nR {a:Bl} (h:Oq a=.rd):∃o,a=.op o∧o.kind=.quiet:=by
 cases a with
 |call f=>cases h
 |Ge=>cases h
 |op o=>
  refine⟨o,rfl,?_⟩
  have h:iT o=.rd:=h
  unfold iT at h
  split at h
  ·cases h
  ·cases h
  ·next h1=>exact h1
theorem bY {a:Bl} (h:Oq a=.bl):∃o,a=.op o∧o.kind=.quiet∧Ln o=true:=by
 cases a with
 |call f=>cases h
 |Ge=>cases h
 |op o=>
  have h:iT o=.bl:=h
  unfold iT at h
  split at h
  ·cases h
  ·cases h
  ·next h1=>
   split at h
   ·next h2=>exact⟨o,rfl,h1,h2⟩
   ·cases h
theorem jD {lo hi:Key} (h:lo.toNat=hi.toNat) (rd:Option (Key×Option (Nat×Nat))):Ds lo hi rd=true:=by
 cases rd with
 |none=>rfl
 |some q=>
  simp only[Ds,Bool.or_eq_true,Nat.blt_eq,Nat.ble_eq]
  omega
theorem Ea (lo hi:Key) (n:Nat):∀(l:List DOp),Iq l=false→∀(r:Key) (s s':Dd) (pf:PFr) (h:Ab),C7 pc lo hi n l r s pf h=C7 pc lo hi n l r s' pf h
 |[],_,_,_,_,_,_=>rfl
 |⟨⟨dst,act,xs,g⟩,chk⟩::l,hr,r,s,s',pf,h=>by
  have hr:@KD.rec (fun _=>Bool) (Iq l) (Iq l) true (Iq l) (Oq act)=false:=hr
  cases hk:Oq act with
  |rd=>rw[hk] at hr;cases hr
  |eff=>
   rw[hk] at hr
   simp only[C7,Q6 hk]
   split
   ·exact Ea lo hi n l hr _ _ _ _ _
   ·rfl
  |alc=>
   rw[hk] at hr
   simp only[C7,Q7 hk]
   split
   ·exact Ea lo hi n l hr _ _ _ _ _
   ·rfl
  |bl=>
   rw[hk] at hr
   have hr1:Iq l=false:=hr
   obtain⟨o,rfl,ho,hb⟩:=bY hk
   have hko:(Bl.op o).kind=.quiet:=ho
   simp only[C7,hko]
   cases hw:Cu pf g with
   |none=>rfl
   |some w=>
    cases w with
    |false=>exact Ea lo hi n l hr1 _ _ _ _ _
    |true=>
     simp only
     cases hf:D6 pf xs with
     |none=>rfl
     |some az=>
      simp only
      cases ho:opP o az h with
      |none=>rfl
      |some q=>
       obtain⟨v,h'⟩:=q
       obtain⟨b1,b2⟩:=Wd hb az
       simp only[b1,b2,K4]
       split
       ·exact Ea lo hi n l hr1 _ _ _ _ _
       ·rfl
theorem nS (hc:iY call pc) {lo hi:Key} {n:Nat} (hn:lo.toNat+n=hi.toNat):∀(l:List DOp) {r:Key} {Ai:Dd} {fr:Fr} {pf:PFr} {h:Ab} {k:Fr→Ab→Bool},FRK fr pf→Gc call lo hi n l r Ai fr h k=true →
  ∃pf' h' fr',C7 pc lo hi n l r Ai pf h=some (pf',h')∧FRK fr' pf'∧k fr' h'=true
 |[],r,Ai,fr,pf,h,k,hf,e=>⟨pf,h,fr,rfl,hf,e⟩
 |⟨⟨dst,act,xs,g⟩,chk⟩::l,r,Ai,fr,pf,h,k,hf,e=>by
  have ih:=fun{r Ai fr pf h k}=>nS hc hn l (r:=r) (Ai:=Ai) (fr:=fr) (pf:=pf) (h:=h) (k:=k)
  have e:MV (kD ⟨⟨dst,act,xs,g⟩,chk⟩ (Iq l)) call lo hi n (Gc call lo hi n l) r Ai fr h k=true:=e
  obtain⟨p,hpb,hp⟩:=iX dst
  cases hk:Oq act with
  |eff=>
   cases hneed:Iq l with
   |false=>
    have hd:kD ⟨⟨dst,act,xs,g⟩,chk⟩ (Iq l)=.TG (K1 ⟨dst,act,xs,g⟩):=by simp only[kD,hpb,hk,hneed]
    rw[hd] at e
    obtain⟨pf1,h1,fr1,h2,h3,e1⟩:=Q5 hc hf (k:=fun fr h'=>go (Gc call lo hi n l r [] fr h' k)) e
    obtain⟨pf2,h4,fr2,h5,h6,e2⟩:=ih h3 e1
    exact⟨pf2,h4,fr2,by simp only[C7,Q6 hk,h2];rw[Ea lo hi n l hneed _ _ []];exact h5,h6,e2⟩
   |true=>
    have hd:kD ⟨⟨dst,act,xs,g⟩,chk⟩ (Iq l)=.eff (K1 ⟨dst,act,xs,g⟩) dst:=by simp only[kD,hpb,hk,hneed]
    rw[hd] at e
    obtain⟨pf1,h1,fr1,h2,h3,e1⟩:=Q5 hc hf (k:=fun fr h'=>go (Gc call lo hi n l r (wrote dst (Ai++[(h,[])])) fr h' k)) e
    obtain⟨pf2,h4,fr2,h5,h6,e2⟩:=ih h3 e1
    exact⟨pf2,h4,fr2,by simp only[C7,Q6 hk,h2,h5],h6,e2⟩
  |alc=>
   obtain⟨mem,next⟩:=h
   cases hneed:Iq l with
   |false=>
    have hd:kD ⟨⟨dst,act,xs,g⟩,chk⟩ (Iq l)=.TH (K1 ⟨dst,act,xs,g⟩):=by simp only[kD,hpb,hk,hneed]
    rw[hd] at e
    obtain⟨pf1,⟨mem1,next1⟩,fr1,h2,h3,e1⟩:=Q5 hc hf (h:=⟨mem,r⟩) (k:=fun fr h'=>@Ab.rec (fun _=>Bool) (fun mem _=>My r (fun r=>go (Gc call lo hi n l r [] fr ⟨mem,next⟩ k))) h') e
    simp only[Ka] at e1
    obtain⟨pf2,h4,fr2,h5,h6,e2⟩:=ih h3 e1
    exact⟨pf2,h4,fr2,by simp only[C7,Q7 hk,h2];rw[Ea lo hi n l hneed _ _ []];exact h5,h6,e2⟩
   |true=>
    have hd:kD ⟨⟨dst,act,xs,g⟩,chk⟩ (Iq l)=.alc (K1 ⟨dst,act,xs,g⟩) dst:=by simp only[kD,hpb,hk,hneed]
    rw[hd] at e
    obtain⟨pf1,⟨mem1,next1⟩,fr1,h2,h3,e1⟩:=Q5 hc hf (h:=⟨mem,r⟩) (k:=fun fr h'=>@Ab.rec (fun _=>Bool) (fun mem _=>My r (fun r=>go (Gc call lo hi n l r (wrote dst Ai) fr ⟨mem,next⟩ k))) h') e
    simp only[Ka] at e1
    obtain⟨pf2,h4,fr2,h5,h6,e2⟩:=ih h3 e1
    exact⟨pf2,h4,fr2,by simp only[C7,Q7 hk,h2,h5],h6,e2⟩
  |rd=>
   obtain⟨o,rfl,ho⟩:=nR hk
   have hko:(Bl.op o).kind=.quiet:=ho
   have hd:kD ⟨⟨dst,.op o,xs,g⟩,chk⟩ (Iq l)=.rd (K0 ⟨dst,.op o,xs,g⟩) p dst g o xs chk:=by simp only[kD,hpb,hk]
   rw[hd] at e
   obtain⟨w,hw,e1⟩:=jC hf (k:=fun w=>@Bool.rec (fun _=>Bool)
    (p .unit fr (fun fr=>go (Gc call lo hi n l r Ai fr h k)))
    (Wc xs fr (fun az=>Er (CL lo hi n o az xs h (Ai.drop chk))
     (G9 (K0 ⟨dst,.op o,xs,g⟩) call fr h (fun fr _=>CK Ai (Js dst xs (rdP o az) h Ai) (fun s=>go (Gc call lo hi n l r s fr h k)))) false)) w) e
   cases w with
   |false=>
    obtain⟨fr1,e2,h1⟩:=hp hf (v:=.unit) (c:=fun fr=>go (Gc call lo hi n l r Ai fr h k)) e1
    obtain⟨pf2,h4,fr2,h5,h6,e3⟩:=ih h1 e2
    exact⟨pf2,h4,fr2,by simp only[C7,hko,hw,h5],h6,e3⟩
   |true=>
    obtain⟨az,h1,e2⟩:=Uj hf (xs:=xs) e1
    obtain⟨hcond,e3⟩:=Fl e2
    obtain⟨az',v,h',fr1,h2,h3,h4,e4⟩:=jB hc hf e3
    simp only at h2 h3 h4
    rw[h1] at h2;cases h2
    have e5:=CY e4
    have h3:opP o az h=some (v,h'):=h3
    have hcheck:(Ds lo hi (rdP o az)&&(!rdF o az||Om h lo n)&&Ku xs (rdP o az) (rdF o az) h (Ai.drop chk))=true:=by
     cases hs:Ai.drop chk with
     |cons a b=>rw[hs] at hcond;exact hcond
     |nil=>
      rw[hs] at hcond
      have hcond:Er (Nat.beq n 0) true (Ds lo hi (rdP o az)&&(!rdF o az||Om h lo n))=true:=hcond
      simp only[Ku,Bool.and_true]
      rcases Xq hcond with⟨h0,_⟩|⟨_,h0⟩
      ·rw[Nat.beq_eq] at h0
       subst h0
       rw[jD (by omega)]
       simp[Om]
      ·exact h0
    obtain⟨pf2,h5,fr2,h6,h7,e6⟩:=ih h4 e5
    exact⟨pf2,h5,fr2,by simp only[C7,hko,hw,h1,h3,hcheck,if_true,h6],h7,e6⟩
  |bl=>
   obtain⟨o,rfl,ho,hb⟩:=bY hk
   have hko:(Bl.op o).kind=.quiet:=ho
   cases hneed:Iq l with
   |false=>
    have hd:kD ⟨⟨dst,.op o,xs,g⟩,chk⟩ (Iq l)=.blN (K1 ⟨dst,.op o,xs,g⟩):=by simp only[kD,hpb,hk,hneed]
    rw[hd] at e
    obtain⟨pf1,h1,fr1,h2,h3,e1⟩:=Q5 hc hf (k:=fun fr _=>go (Gc call lo hi n l r [] fr h k)) e
    obtain⟨pf2,h4,fr2,h5,h6,e2⟩:=ih h3 e1
    refine⟨pf2,h4,fr2,?_,h6,e2⟩
    simp only[Kt] at h2
    simp only[C7,hko]
    cases hw:Cu pf g with
    |none=>rw[hw] at h2;cases h2
    |some w=>
     rw[hw] at h2
     cases w with
     |false=>
      simp only[Sj,Pj] at h2 ⊢
      obtain⟨rfl,rfl⟩:=h2
      rw[Ea lo hi n l hneed _ _ []];exact h5
     |true=>
      simp only at h2 ⊢
      cases hfe:D6 pf xs with
      |none=>rw[hfe] at h2;cases h2
      |some az=>
       rw[hfe] at h2
       simp only at h2 ⊢
       cases hop:lI pc (.op o) az h with
       |none=>rw[hop] at h2;cases h2
       |some q=>
        obtain⟨v,h'⟩:=q
        rw[hop] at h2
        simp only[Sj,Pj] at h2
        obtain⟨rfl,rfl⟩:=h2
        have hop:opP o az h=some (v,h'):=hop
        obtain⟨b1,b2⟩:=Wd hb az
        simp only[hop,b1,b2,K4,Ds,Bool.not_false,Bool.true_or,Bool.and_self,if_true]
        rw[Ea lo hi n l hneed _ _ []];exact h5
   |true=>
   have hd:kD ⟨⟨dst,.op o,xs,g⟩,chk⟩ (Iq l)=.bl (K0 ⟨dst,.op o,xs,g⟩) p dst g xs:=by simp only[kD,hpb,hk,hneed]
   rw[hd] at e
   obtain⟨w,hw,e1⟩:=jC hf (k:=fun w=>@Bool.rec (fun _=>Bool)
    (p .unit fr (fun fr=>go (Gc call lo hi n l r Ai fr h k)))
    (G9 (K0 ⟨dst,.op o,xs,g⟩) call fr h (fun fr _=>CK Ai (Js dst xs none h Ai) (fun s=>go (Gc call lo hi n l r s fr h k)))) w) e
   cases w with
   |false=>
    obtain⟨fr1,e2,h1⟩:=hp hf (v:=.unit) (c:=fun fr=>go (Gc call lo hi n l r Ai fr h k)) e1
    obtain⟨pf2,h4,fr2,h5,h6,e3⟩:=ih h1 e2
    exact⟨pf2,h4,fr2,by simp only[C7,hko,hw,h5],h6,e3⟩
   |true=>
    obtain⟨az,v,h',fr1,h2,h3,h4,e4⟩:=jB hc hf e1
    simp only at h2 h3 h4
    have e5:=CY e4
    have h3:opP o az h=some (v,h'):=h3
    obtain⟨pf2,h5,fr2,h6,h7,e6⟩:=ih h4 e5
    obtain⟨b1,b2⟩:=Wd hb az
    have hcheck:(Ds lo hi (rdP o az)&&(!rdF o az||Om h lo n)&&Ku xs (rdP o az) (rdF o az) h (Ai.drop chk))=true:=by
     rw[b1,b2,K4];rfl
    exact⟨pf2,h5,fr2,by simp only[C7,hko,hw,h2,h3,hcheck,if_true];rw[b1,h6],h7,e6⟩
end Go.Pv.K
end
section
noncomputable section
namespace Go.Pv.K
open Go.Vm
open Go.Vm.Key (kn)
variable {F:A4} {K:Tp} {fr:Fr} {pf:PFr} {h:Ab}
def JC (ex:KEx) (px:PEx):Prop:=∀(c:Ay) {fr:Fr} {pf:PFr} {h:Ab} {k:KX},FRK fr pf→ex c fr h k=true→∃x pf' h' fr',px c pf h=some (x,pf',h')∧FRK fr' pf'∧k x fr' h'=true
theorem bZ (hf:FRK fr pf):∀{l:List Lj} {k:List PC→Bool},nN fr h l k=true→∃xs,E0 pf h l=some xs∧k xs=true
 |[],k,e=>⟨[],rfl,e⟩
 |r::l,k,e=>by
  cases r with
  |tmp key=>
   obtain⟨v,h1,e1⟩:=Lq hf (x:=.t key) (c:=fun v=>@PA.rec (fun _=>Bool) (fun x=>nN fr h l (fun l=>k (x::l))) (fun _=>false) v) e
   cases v with
   |tup _=>exact ff e1
   |v x=>
    obtain⟨xs,h2,e2⟩:=bZ hf (l:=l) (k:=fun l=>k (x::l)) e1
    have h1:pf.get key=some (.v x):=h1
    exact⟨x::xs,by simp only[E0,Gs,h1,h2],e2⟩
  |eK key=>
   obtain⟨v,h1,e1⟩:=Lq hf (x:=.t key) (c:=fun v=>onV v fun x=>P2 x (fun b o=>Kz h b (yH (fun y=>nN fr h l (fun l=>k (.s y::l))) o)) (fun _=>false) false) e
   obtain⟨x,rfl,e2⟩:=Gj e1
   rcases Q4 e2 with⟨b,o,rfl,e3⟩|⟨_,rfl,e3⟩
   ·obtain⟨c,h2,e4⟩:=Mz e3
    obtain⟨y,h3,e5⟩:=bW e4
    obtain⟨xs,h4,e6⟩:=bZ hf (l:=l) (k:=fun l=>k (.s y::l)) e5
    have hlt:=(Gi.1 h3).1
    have hr:=Kb h2 (o:=o) (n:=1) (by omega)
    have:(c.drop o).take 1=[y]:=by
     rw[List.drop_eq_getElem_cons hlt]
     simp[(Gi.1 h3).2]
    rw[this] at hr
    have h1:pf.get key=some (.v (.s (.ptr b o))):=h1
    exact⟨.s y::xs,by simp only[E0,Gs,h1,hr,h4],e6⟩
   ·exact ff e3
  |eL key n=>
   obtain⟨v,h1,e1⟩:=Lq hf (x:=.t key) (c:=fun v=>onV v fun x=>P2 x (fun b o=>Kz h b (Xo (fun c=>Xp n c (fun r=>nN fr h l (fun l=>k (.agg r::l)))) o)) (fun _=>false) false) e
   obtain⟨x,rfl,e2⟩:=Gj e1
   rcases Q4 e2 with⟨b,o,rfl,e3⟩|⟨_,rfl,e3⟩
   ·obtain⟨c,h2,e4⟩:=Mz e3
    obtain⟨h3,e5⟩:=Q1 e4
    obtain⟨h4,e6⟩:=Q2 e5
    obtain⟨xs,h5,e7⟩:=bZ hf (l:=l) (k:=fun l=>k (.agg ((c.drop o).take n)::l)) e6
    have hr:=Kb h2 (o:=o) (n:=n) (by simp at h4;omega)
    have h1:pf.get key=some (.v (.s (.ptr b o))):=h1
    exact⟨.agg ((c.drop o).take n)::xs,by simp only[E0,Gs,h1,hr,h5],e7⟩
   ·exact ff e3
theorem nT:∀{args:List PA} {i:Nat} {fr:Fr} {pf:PFr} {k:Fr→Bool},FRK fr pf→rP args (kn i) fr k=true→∃fr',FRK fr' (pf.Co i args)∧k fr'=true
 |[],i,fr,pf,k,hf,e=>⟨fr,hf,e⟩
 |v::args,i,fr,pf,k,hf,e=>by
  obtain⟨g,p,h1,_,h3⟩:=bP (kn i)
  have e:@Acc.rec (fun _=>Bool) (fun _ p=>p v fr (fun fr=>My (kn i) (fun n=>rP args n fr k))) (acc (kn i))=true:=e
  rw[h1] at e
  obtain⟨fr1,e1,h4⟩:=h3 v fr _ e
  rw[Ka] at e1
  exact nT (i:=i+1) (CU hf h4) e1
theorem vH {ex:KEx} {px:PEx} (hx:JC ex px):iY (vD F ex) (Zr F px):=by
 intro f args h k e
 unfold vD at e
 cases hF:F f with
 |none=>rw[hF] at e;exact ff e
 |some vf=>
  rw[hF] at e
  obtain⟨results,body⟩:=vf
  obtain⟨fr1,h1,e1⟩:=nT (i:=0) (pf:=Tr.z) (fr:=Fr.empty) (k:=fun fr=>go (ex body fr h (fun x fr h=>
   @B2.rec (fun _=>Bool) (nN fr h results (fun l=>k (Cv l) h)) (fun _=>false) (nN fr h results (fun l=>k (Cv l) h)) x))) (fun j w hw=>by rw[CA] at hw;cases hw) e
  obtain⟨x,pf2,h2,fr2,h3,h4,e2⟩:=hx body h1 e1
  cases x with
  |normal=>
   obtain⟨xs,h5,e3⟩:=bZ h4 e2
   exact⟨_,h2,by simp only[Zr,hF,h3,h5],e3⟩
  |exit i=>exact ff e2
  |ret=>
   obtain⟨xs,h5,e3⟩:=bZ h4 e2
   exact⟨_,h2,by simp only[Zr,hF,h3,h5],e3⟩
theorem JD {a:PA} {k:PA→Bool} (e:vC a h k=true):∃r g,E8 deep a h=some (r,g)∧k r=true:=by
 unfold vC at e
 cases hf:E8 deep a h with
 |none=>rw[hf] at e;exact ff e
 |some p=>
  obtain⟨r,g⟩:=p
  rw[hf] at e
  have e:bR r k=true:=e
  rw[fI] at e
  exact⟨r,g,rfl,e⟩
theorem nU {ex:KEx} {px:PEx} (hx:JC ex px) {f:Nat} {xs:List PA} {k:PA→Bool} (e:bT F ex f xs k=true):∃r,Vo F px f xs=some r∧k r=true:=by
 obtain⟨v,g,h1,e1⟩:=vH (F:=F) hx f xs .empty (fun r g=>vC r g (fun r=>k r)) e
 obtain⟨r,g',h2,e2⟩:=JD e1
 exact⟨r,by simp only[Vo,h1,h2],e2⟩
theorem JE {ex:KEx} {px:PEx} (hx:JC ex px):iY (Sb F K ex) (Ru F K px):=by
 intro f args h k e
 unfold Sb at e
 cases hp:K.pure f with
 |false=>
  rw[hp] at e
  obtain⟨v,h',h1,e1⟩:=vH (F:=F) hx f args h k e
  exact⟨v,h',by simp only[Ru,hp];exact h1,e1⟩
 |true=>
  rw[hp] at e
  have e:rN args h (fun xs h=>@Option.rec PA (fun _=>Bool) (bT F ex f xs (fun r=>go (k r h))) (fun r=>k r h) (K.ans f xs))=true:=e
  unfold rN at e
  cases hz:Dk deep args h with
  |none=>rw[hz] at e;exact ff e
  |some q=>
   obtain⟨xs,⟨m,n⟩⟩:=q
   rw[hz] at e
   have e:@Option.rec PA (fun _=>Bool) (bT F ex f xs (fun r=>go (k r ⟨m,n⟩))) (fun r=>k r ⟨m,n⟩) (K.ans f xs)=true:=e
   cases ha:K.ans f xs with
   |some r=>rw[ha] at e;exact⟨r,⟨m,n⟩,by simp only[Ru,hp,if_true,hz,ha],e⟩
   |none=>
    rw[ha] at e
    obtain⟨r,h1,e1⟩:=nU (F:=F) hx (k:=fun r=>go (k r ⟨m,n⟩)) e
    exact⟨r,⟨m,n⟩,by simp only[Ru,hp,if_true,hz,ha,h1],e1⟩
theorem cB:∀l:List DOp,Ig l=Az l
 |[]=>rfl
 |⟨⟨dst,act,xs,g⟩,chk⟩::l=>by
  have ih:=cB l
  have e:Ig (⟨⟨dst,act,xs,g⟩,chk⟩::l)=@KD.rec (fun _=>Nat) (Ig l) (Nat.add (Ig l) 1) (Ig l) (Ig l) (Oq act):=rfl
  rw[e,D9]
  cases hk:Oq act with
  |eff=>simp[Q6 hk,ih]
  |alc=>
   simp only[Q7 hk,if_true]
   show Nat.add (Ig l) 1=_
   rw[ih,Nat.add_comm]
  |rd=>obtain⟨o,rfl,ho⟩:=nR hk;simp[Bl.kind,ho,ih]
  |bl=>obtain⟨o,rfl,ho,_⟩:=bY hk;simp[Bl.kind,ho,ih]
theorem fL:∀(n:Nat) (x:Key) (k:Key→Bool),iU n x k=k (Bt x n)
 |0,_,_=>rfl
 |n+1,x,k=>by
  show My x (fun x=>iU n x k)=_
  rw[Ka,fL n];rfl
theorem vI:∀n,JC (bU (Sb F K) n) (Dl F K n)
 |0=>by intro c fr pf h k hf e;exact ff e
 |n+1=>by
  have ih:=vI n
  have hc:=JE (F:=F) (K:=K) ih
  intro c fr pf h k hf e
  cases c with
  |skip=>exact⟨_,pf,h,fr,rfl,hf,e⟩
  |region ops=>
   obtain⟨pf1,h1,fr1,h2,h3,e1⟩:=CX hc ops (k:=fun fr h=>go (k .normal fr h)) hf e
   exact⟨_,pf1,h1,fr1,by rw[bN,h2],h3,e1⟩
  |drawn ds=>
   obtain⟨mem,next⟩:=h
   have e:iU (Ig ds) next (fun hi=>Gc (Sb F K (bU (Sb F K) n)) next hi (Ig ds) ds next [] fr ⟨mem,hi⟩ (fun fr h=>go (k .normal fr h)))=true:=e
   rw[fL,cB] at e
   obtain⟨pf1,h1,fr1,h2,h3,e1⟩:=nS hc (Db _ _).symm ds hf e
   exact⟨_,pf1,h1,fr1,by rw[fF];simp only[h2],h3,e1⟩
  |seq a b=>
   obtain⟨x,pf1,h1,fr1,h2,h3,e1⟩:=ih a (k:=fun x fr h=>@B2.rec (fun _=>Bool) (go (bU (Sb F K) n b fr h k)) (fun i=>k (.exit i) fr h) (k .ret fr h) x) hf e
   cases x with
   |normal=>
    obtain⟨x,pf2,h4,fr2,h5,h6,e2⟩:=ih b (k:=k) h3 e1
    exact⟨x,pf2,h4,fr2,by rw[Y5,h2];exact h5,h6,e2⟩
   |exit i=>exact⟨_,pf1,h1,fr1,by rw[Y5,h2],h3,e1⟩
   |ret=>exact⟨_,pf1,h1,fr1,by rw[Y5,h2],h3,e1⟩
  |cond x a b=>
   obtain⟨v,h1,e1⟩:=Lq hf (x:=x) (c:=fun v=>onV v fun x=>iS x fun t=>@Bool.rec (fun _=>Bool) (go (bU (Sb F K) n b fr h k)) (go (bU (Sb F K) n a fr h k)) t) e
   obtain⟨y,rfl,e2⟩:=Gj e1
   obtain⟨t,rfl,e3⟩:=nO e2
   cases t with
   |true=>
    obtain⟨x,pf2,h4,fr2,h5,h6,e4⟩:=ih a (k:=k) hf e3
    exact⟨x,pf2,h4,fr2,by rw[bO,h1];exact h5,h6,e4⟩
   |false=>
    obtain⟨x,pf2,h4,fr2,h5,h6,e4⟩:=ih b (k:=k) hf e3
    exact⟨x,pf2,h4,fr2,by rw[bO,h1];exact h5,h6,e4⟩
  |block id a=>
   obtain⟨x,pf1,h1,fr1,h2,h3,e1⟩:=ih a (k:=fun x fr h=>@B2.rec (fun _=>Bool) (k .normal fr h) (fun j=>@Bool.rec (fun _=>Bool) (k (.exit j) fr h) (k .normal fr h) (Nat.beq j id)) (k .ret fr h) x) hf e
   cases x with
   |normal=>exact⟨_,pf1,h1,fr1,by rw[Mw,h2],h3,e1⟩
   |exit j=>
    have e1:@Bool.rec (fun _=>Bool) (k (.exit j) fr1 h1) (k .normal fr1 h1) (Nat.beq j id)=true:=e1
    cases hj:Nat.beq j id with
    |true=>rw[hj] at e1;rw[Nat.beq_eq] at hj;exact⟨_,pf1,h1,fr1,by rw[Mw,h2];simp only[hj,if_true],h3,e1⟩
    |false=>
     rw[hj] at e1
     have hne:j≠id:=by rintro rfl;simp at hj
     exact⟨_,pf1,h1,fr1,by rw[Mw,h2];simp only[hne,if_false],h3,e1⟩
   |ret=>exact⟨_,pf1,h1,fr1,by rw[Mw,h2],h3,e1⟩
  |loop a=>
   obtain⟨x,pf1,h1,fr1,h2,h3,e1⟩:=ih a (k:=fun x fr h=>@B2.rec (fun _=>Bool) (go (bU (Sb F K) n (.loop a) fr h k)) (fun i=>k (.exit i) fr h) (k .ret fr h) x) hf e
   cases x with
   |normal=>
    obtain⟨x,pf2,h4,fr2,h5,h6,e2⟩:=ih (.loop a) (k:=k) h3 e1
    exact⟨x,pf2,h4,fr2,by rw[Uh,h2];exact h5,h6,e2⟩
   |exit i=>exact⟨_,pf1,h1,fr1,by rw[Uh,h2],h3,e1⟩
   |ret=>exact⟨_,pf1,h1,fr1,by rw[Uh,h2],h3,e1⟩
  |exit id=>exact⟨_,pf,h,fr,rfl,hf,e⟩
  |ret=>exact⟨_,pf,h,fr,rfl,hf,e⟩
theorem PJ {n f:Nat} {xs:List PA} {k:PA→Bool} (e:runK F K n f xs k=true):∃r,RV F K n f xs=some r∧k r=true:=nU (vI n) e
end Go.Pv.K
end
section
noncomputable section
namespace Go.Pv.K
open Go.Vm
open Go.Vm.Key (kn)
theorem DG:∀{l m:List Nat},PK l m=true→l=m
 |[],[],_=>rfl
 |[],_::_,e=>ff e
 |_::_,[],e=>ff e
 |a::l,b::m,e=>by
  obtain⟨h1,h2⟩:=Fl (c:=Nat.beq a b) (a:=PK l m) e
  rw[Nat.beq_eq] at h1
  rw[h1,DG h2]
theorem TP {a b:Int} (e:eqI a b=true):a=b:=by
 cases a with
 |ofNat m=>cases b with
  |ofNat n=>have e:Nat.beq m n=true:=e;rw[Nat.beq_eq] at e;rw[e]
  |negSucc n=>exact ff e
 |negSucc m=>cases b with
  |ofNat n=>exact ff e
  |negSucc n=>have e:Nat.beq m n=true:=e;rw[Nat.beq_eq] at e;rw[e]
theorem TQ {a b:IntKind} (e:eqK a b=true):a=b:=by
 cases a<;>cases b<;>first|rfl|exact ff e
theorem TR {a b:Bool} (e:eqB a b=true):a=b:=by
 cases a<;>cases b<;>first|rfl|exact ff e
mutual
theorem MW:∀(x:PV) {y:PV},eqV x y=true→x=y
 |.bool b,y,e=>by cases y with
  |bool c=>rw[TR (a:=b) (b:=c) e]
  |_=>exact ff e
 |.int k n,y,e=>by cases y with
  |int k' m=>
   obtain⟨h1,h2⟩:=Fl (c:=eqK k k') (a:=eqI n m) e
   rw[TQ h1,TP h2]
  |_=>exact ff e
 |.str l,y,e=>by cases y with
  |str m=>rw[DG (l:=l) (m:=m) e]
  |_=>exact ff e
 |.ptr _ _,y,e=>ff e
 |.Eb,y,e=>by cases y with
  |Eb=>rfl
  |_=>exact ff e
 |.slice _ _ _ _ _,y,e=>ff e
 |.Af,y,e=>by cases y with
  |Af=>rfl
  |_=>exact ff e
 |.map _,y,e=>ff e
 |.Dv,y,e=>by cases y with
  |Dv=>rfl
  |_=>exact ff e
 |.func _ _ _,y,e=>ff e
 |.Fe,y,e=>by cases y with
  |Fe=>rfl
  |_=>exact ff e
 |.lst es l cap,y,e=>by cases y with
  |lst es' l' cap'=>
   obtain⟨h1,h2⟩:=Fl (c:=Nat.beq es es') e
   rw[Nat.beq_eq] at h1
   cases cap with
   |some _=>exact ff h2
   |none=>cases cap' with
    |some _=>exact ff h2
    |none=>rw[h1,DH l h2]
  |_=>exact ff e
 |.rp l,y,e=>by cases y with
  |rp l'=>rw[jF l (m:=l') e]
  |_=>exact ff e
theorem DH:∀(l:List (List PV)) {m:List (List PV)},TO l m=true→l=m
 |[],m,e=>by cases m with
  |nil=>rfl
  |cons _ _=>exact ff e
 |a::l,m,e=>by cases m with
  |nil=>exact ff e
  |cons b m=>
   obtain⟨h1,h2⟩:=Fl (c:=JF a b) (a:=TO l m) e
   rw[jF a h1,DH l h2]
theorem jF:∀(l:List PV) {m:List PV},JF l m=true→l=m
 |[],m,e=>by cases m with
  |nil=>rfl
  |cons _ _=>exact ff e
 |a::l,m,e=>by cases m with
  |nil=>exact ff e
  |cons b m=>
   obtain⟨h1,h2⟩:=Fl (c:=eqV a b) (a:=JF l m) e
   rw[MW a h1,jF l h2]
end
theorem MY {x y:PC} (e:eqC x y=true):x=y:=by
 cases x with
 |s a=>cases y with
  |s b=>rw[MW a (y:=b) e]
  |agg _=>exact ff e
 |agg l=>cases y with
  |s _=>exact ff e
  |agg m=>rw[jF l (m:=m) e]
theorem DI:∀{l m:List PC},PS l m=true→l=m
 |[],[],_=>rfl
 |[],_::_,e=>ff e
 |_::_,[],e=>ff e
 |a::l,b::m,e=>by
  obtain⟨h1,h2⟩:=Fl (c:=eqC a b) (a:=PS l m) e
  rw[MY h1,DI h2]
theorem MZ {x y:PA} (e:eqA x y=true):x=y:=by
 cases x with
 |v a=>cases y with
  |v b=>rw[MY (x:=a) (y:=b) e]
  |tup _=>exact ff e
 |tup l=>cases y with
  |v _=>exact ff e
  |tup m=>rw[DI (l:=l) (m:=m) e]
theorem DJ:∀{l m:List PA},DE l m=true→l=m
 |[],[],_=>rfl
 |[],_::_,e=>ff e
 |_::_,[],e=>ff e
 |a::l,b::m,e=>by
  obtain⟨h1,h2⟩:=Fl (c:=eqA a b) (a:=DE l m) e
  rw[MZ h1,DJ h2]
theorem jG {α:Type}:∀(k:Key) (t:Tr α),PT k t=t.get k
 |.h,.z=>rfl
 |.h,.n _ _ _=>rfl
 |.o k,.z=>rfl
 |.o k,.n l _ _=>jG k l
 |.i k,.z=>rfl
 |.i k,.n _ _ r=>jG k r
theorem vJ {xs:List PA} {r:PA}:∀{l:Ent},DF xs l=some r→(xs,r)∈l
 |[],e=>by cases e
 |(ys,r')::l,e=>by
  have e:@Bool.rec (fun _=>Option PA) (DF xs l) (some r') (DE xs ys)=some r:=e
  cases h:DE xs ys with
  |true=>rw[h] at e;cases e;rw[DJ h];exact List.mem_cons_self
  |false=>rw[h] at e;exact List.mem_cons_of_mem _ (vJ e)
def jH {α:Type} (P:Key→α→Prop):Tr α→Prop
 |.z=>True
 |.n l v r=>jH (fun k=>P (.o k)) l∧(∀x,v=some x→P .h x)∧jH (fun k=>P (.i k)) r
theorem jH.get {α:Type}:∀{P:Key→α→Prop} {t:Tr α},jH P t→∀(k:Key) (x:α),t.get k=some x→P k x
 |P,.z,_,k,x,e=>by simp at e
 |P,.n l v r,h,.h,x,e=>h.2.1 x e
 |P,.n l v r,h,.o k,x,e=>h.1.get k x e
 |P,.n l v r,h,.i k,x,e=>h.2.2.get k x e
theorem jH.mono {α:Type}:∀{P Q:Key→α→Prop} {t:Tr α},jH P t→(∀k x,P k x→Q k x)→jH Q t
 |P,Q,.z,_,_=>trivial
 |P,Q,.n l v r,h,hq=>⟨h.1.mono fun k x=>hq _ x,fun x e=>hq _ x (h.2.1 x e),h.2.2.mono fun k x=>hq _ x⟩
def Bj (F:A4) (f:Nat) (l:Ent):Prop:=∀e∈l,Ag F f e.1 e.2
theorem Bj.nil (F:A4) (f:Nat):Bj F f []:=fun _ h=>by cases h
theorem Bj.cons {F:A4} {f:Nat} {xs:List PA} {r:PA} {l:Ent} (h:Ag F f xs r) (h':Bj F f l):Bj F f ((xs,r)::l):=by
 intro e he
 rcases List.mem_cons.1 he with rfl|he
 ·exact h
 ·exact h' e he
theorem Bj.append {F:A4} {f:Nat} {l l':Ent} (h:Bj F f l) (h':Bj F f l'):Bj F f (l++l'):=by
 intro e he
 rcases List.mem_append.1 he with he|he
 ·exact h e he
 ·exact h' e he
def Ot (F:A4) (tab:Tr Ent):Prop:=jH (fun k l=>Bj F k.toNat l) tab
theorem DK {F:A4} {pure:Tr Bool} {tab:Tr Ent} (h:Ot F tab):Y4 F (known pure tab):=by
 intro f xs r _ ha
 simp only[known,jG] at ha
 cases hl:tab.get (kn f) with
 |none=>rw[hl] at ha;cases ha
 |some l=>
  rw[hl] at ha
  have:=h.get (kn f) l hl (xs,r) (vJ ha)
  rwa [Key.toNat_kn] at this
theorem entry {F:A4} {pure:Tr Bool} {tab:Tr Ent} (h:Ot F tab) {n f:Nat} {xs:List PA} {r:PA} (e:runK F (known pure tab) n f xs (fun v=>eqA v r)=true):Ag F f xs r:=by
 obtain⟨v,h1,h2⟩:=PJ e
 rw[←MZ h2]
 exact OR (DK h) h1
end Go.Pv.K
end
section
noncomputable section
namespace Go.Pv
open Go.Vm
open Go.Vm.Key (kn)
def keq:Key→Key→Bool
 |.h,.h=>true
 |.o a,.o b=>keq a b
 |.i a,.i b=>keq a b
 |_,_=>false
theorem Cz:∀{a b:Key},keq a b=true→a=b
 |.h,.h,_=>rfl
 |.o a,.o b,h=>by rw[Cz (a:=a) (b:=b) h]
 |.i a,.i b,h=>by rw[Cz (a:=a) (b:=b) h]
 |.h,.o _,h=>by cases h
 |.h,.i _,h=>by cases h
 |.o _,.h,h=>by cases h
 |.o _,.i _,h=>by cases h
 |.i _,.h,h=>by cases h
 |.i _,.o _,h=>by cases h
theorem Cs:∀a:Key,keq a a=true
 |.h=>rfl
 |.o a=>Cs a
 |.i a=>Cs a
inductive FE where
 |v (x:PA)
 |b (c:Bool)
 |q (x:PA)
def FE.pa:FE→PA
 |.v x=>x
 |.b c=>.v (.s (.bool c))
 |.q x=>x
abbrev Fm:=List (Key×FE)
def look:Fm→Key→Option FE
 |[],_=>none
 |(j,x)::l,k=>match keq j k with
  |true=>some x
  |false=>look l k
def Fit (L:Fm) (fr:PFr):Prop:=∀k x,look L k=some x→fr.get k=some x.pa
def Gd (L:Fm):Option Key→FE→Fm
 |some k,x=>(k,x)::L
 |none,_=>L
theorem Fit.put {L:Fm} {fr:PFr} (h:Fit L fr) (d:Option Key) (x:FE):Fit (Gd L d x) (Kl fr d x.pa):=by
 cases d with
 |none=>exact h
 |some j=>
  intro k y e
  simp only[Gd,look] at e
  simp only[Kl,Tr.Av]
  split at e
  ·next hk=>cases e;rw[if_pos (Cz hk)]
  ·next hk=>
   rw[if_neg (fun he=>by subst he;rw[Cs] at hk;cases hk)]
   exact h k y e
def Sub (L L':Fm):Prop:=∀k x,look L k=some x→∃y,look L' k=some y∧y.pa=x.pa
theorem Fit.sub {L L':Fm} {fr:PFr} (h:Fit L' fr) (s:Sub L L'):Fit L fr:=by
 intro k x e
 obtain⟨y,h1,h2⟩:=s k x e
 rw[h k y h1,h2]
theorem Sub.nil (L:Fm):Sub [] L:=fun _ _ h=>by cases h
theorem Sub.cons {L L':Fm} {k:Key} {x y:FE} (h:look L' k=some y) (e:y.pa=x.pa) (s:Sub L L'):Sub ((k,x)::L) L':=by
 intro j z hz
 simp only[look] at hz
 split at hz
 ·next hk=>cases hz;rw[←Cz hk];exact⟨y,h,e⟩
 ·exact s j z hz
theorem Sub.refl (L:Fm):Sub L L:=fun _ x h=>⟨x,h,rfl⟩
theorem Fit.known {L:Fm} {fr:PFr} (h:Fit L fr) {k:Key} {x y:FE} (e:look L k=some x) (hy:y.pa=x.pa):Fit ((k,y)::L) fr:=by
 intro j z hz
 simp only[look] at hz
 split at hz
 ·next hk=>cases hz;rw[←Cz hk,hy];exact h k x e
 ·exact h j z hz
def DL:AV→Option FE
 |.v (.s (.bool c))=>some (.b c)
 |.v (.s (.int k (.ofNat n)))=>some (.v (.v (.s (.int k (n:Int)))))
 |.v (.s (.int k (.negSucc n)))=>some (.v (.v (.s (.int k (-((n+1:Nat):Int))))))
 |v=>match wZ v with
  |some x=>some (.v x)
  |none=>none
def Xr (L:Fm):VX→Option FE
 |.t k=>look L k
 |.c v=>DL v
def Lr (L:Fm):List VX→Option (List FE)
 |[]=>some []
 |x::l=>match Xr L x with
  |some v=>match Lr L l with
   |some vs=>some (v::vs)
   |none=>none
  |none=>none
theorem cC {L:Fm} {fr:PFr} (h:Fit L fr) {x:VX} {y:FE} (e:Xr L x=some y):Pa fr x=some y.pa:=by
 cases x with
 |t k=>exact h k y e
 |c v=>
  simp only[Xr,DL] at e
  simp only[Pa]
  split at e
  ·cases e;rfl
  ·cases e;rfl
  ·cases e;rfl
  ·split at e
   ·next hx=>cases e;exact hx
   ·cases e
theorem Q8 {L:Fm} {fr:PFr} (h:Fit L fr):∀{l:List VX} {ys:List FE},Lr L l=some ys→D6 fr l=some (ys.map FE.pa)
 |[],ys,e=>by cases e;rfl
 |x::l,ys,e=>by
  simp only[Lr] at e
  split at e
  ·next v hv=>
   split at e
   ·next vs hvs=>cases e;simp only[D6,cC h hv,Q8 h hvs,List.map_cons]
   ·cases e
  ·cases e
def nW {α:Type}:Nat→List α→Option (List α)
 |0,l=>some l
 |n+1,_::l=>nW n l
 |_+1,[]=>none
def Xs {α:Type}:Nat→List α→Option (List α)
 |0,_=>some []
 |n+1,x::l=>match Xs n l with
  |some r=>some (x::r)
  |none=>none
 |_+1,[]=>none
def JQ {α:Type}:Nat→List α→Option α
 |0,x::_=>some x
 |n+1,_::l=>JQ n l
 |_,[]=>none
theorem Uk {α:Type}:∀{n:Nat} {l r:List α},nW n l=some r→n≤l.length∧l.drop n=r
 |0,l,r,e=>by cases e;exact⟨Zl,rfl⟩
 |n+1,x::l,r,e=>by
  obtain⟨h1,h2⟩:=Uk (n:=n) (l:=l) e
  exact⟨Nat.succ_le_succ h1,h2⟩
theorem P4 {α:Type}:∀{n:Nat} {l r:List α},Xs n l=some r→n≤l.length∧l.take n=r
 |0,l,r,e=>by simp only[Xs] at e;cases e;exact⟨Zl,rfl⟩
 |n+1,x::l,r,e=>by
  simp only[Xs] at e
  split at e
  ·next q hq=>
   cases e
   obtain⟨h1,h2⟩:=P4 hq
   exact⟨Nat.succ_le_succ h1,by rw[List.take_succ_cons,h2]⟩
  ·cases e
theorem jM {α:Type}:∀{n:Nat} {l:List α} {x:α},JQ n l=some x→l[n]?=some x
 |0,x::l,y,e=>e
 |n+1,_::l,y,e=>jM (n:=n) (l:=l) e
def DM {α:Type}:Nat→List α→Bool
 |0,[]=>true
 |n+1,_::l=>DM n l
 |_,_=>false
theorem Y8 {α:Type}:∀{n:Nat} {l:List α},DM n l=true→l.length=n
 |0,[],_=>rfl
 |n+1,_::l,e=>by rw[List.length_cons,Y8 (n:=n) (l:=l) e]
def Sc:List PV→Nat→List PV→Option (List PV)
 |cs,0,[]=>some cs
 |_::cs,0,x::l=>match Sc cs 0 l with
  |some r=>some (x::r)
  |none=>none
 |c::cs,n+1,l=>match Sc cs n l with
  |some r=>some (c::r)
  |none=>none
 |[],_,_=>none
theorem Ul:∀{cs:List PV} {o:Nat} {l r:List PV},Sc cs o l=some r→o+l.length≤cs.length∧Ab.over cs o l=r
 |cs,0,[],r,e=>by simp only[Sc] at e;cases e;simp[Ab.over]
 |c::cs,0,x::l,r,e=>by
  simp only[Sc] at e
  split at e
  ·next q hq=>
   cases e
   obtain⟨h1,h2⟩:=Ul hq
   simp only[Ab.over,List.take_zero,List.nil_append,Nat.zero_add,List.length_cons,List.cons_append,List.drop_succ_cons] at h1 h2 ⊢
   exact⟨by omega,by rw[h2]⟩
  ·cases e
 |c::cs,n+1,l,r,e=>by
  simp only[Sc] at e
  split at e
  ·next q hq=>
   cases e
   obtain⟨h1,h2⟩:=Ul hq
   simp only[Ab.over,List.length_cons,List.take_succ_cons,List.cons_append,Nat.succ_add,List.drop_succ_cons] at h1 h2 ⊢
   exact⟨by omega,by rw[h2]⟩
  ·cases e
 |[],n+1,l,r,e=>by simp[Sc] at e
 |[],0,_::_,r,e=>by simp[Sc] at e
def DN:List PV→List (Nat×Nat)→List PA→Option (List PV)
 |cs,[],[]=>some cs
 |cs,(o,n)::ps,.v x::xs=>match DM n x.cells with
  |true=>match Sc cs o x.cells with
   |some r=>DN r ps xs
   |none=>none
  |false=>none
 |_,_,_=>none
theorem jO:∀{ps:List (Nat×Nat)} {cs:List PV} {xs:List PA} {r:List PV},DN cs ps xs=some r→Ym cs ps xs=some r
 |[],cs,[],r,e=>e
 |(o,n)::ps,cs,.v x::xs,r,e=>by
  simp only[DN] at e
  split at e
  ·next hn=>
   split at e
   ·next q hq=>
    obtain⟨h1,h2⟩:=Ul hq
    have h3:=Y8 hn
    simp only[Ym]
    rw[if_pos ⟨h3,by omega⟩,h2]
    exact jO e
   ·cases e
  ·cases e
 |[],_,_::_,_,e=>by cases e
 |_::_,_,[],_,e=>by cases e
 |(_,_)::_,_,.tup _::_,_,e=>by cases e
def opE (op:VOp) (args:List PA):Option PA:=
 match op,args with
 |.build z p,xs=>match Jo z with
  |some z=>match DN z p xs with
   |some cs=>some (.v (.agg cs))
   |none=>none
  |none=>none
 |.Bm,[.v (.s (.rp (x::_)))]=>some (.v (.s x))
 |.B5 n,[.v (.s (.rp l))]=>match Xs n l with
  |some r=>some (.v (.agg r))
  |none=>none
 |.B8 off,[.v (.s (.ptr b o))]=>some (.v (.s (.ptr b (o+off))))
 |.B8 off,[.v (.s (.rp l))]=>match nW off l with
  |some r=>some (.v (.s (.rp r)))
  |none=>none
 |.field off none,[.v (.agg cs)]=>match JQ off cs with
  |some x=>some (.v (.s x))
  |none=>none
 |.field off (some n),[.v (.agg cs)]=>match nW off cs with
  |some r=>match Xs n r with
   |some q=>some (.v (.agg q))
   |none=>none
  |none=>none
 |.extract i,[.tup xs]=>match JQ i xs with
  |some x=>some (.v x)
  |none=>none
 |.Gp,xs=>match Ks xs .empty with
  |some (v,_)=>some v
  |none=>none
 |.bin b,[.v (.s x),.v (.s y)]=>match Yj b x y with
  |some v=>some (.v (.s v))
  |none=>none
 |.eq neg k,[.v x,.v y]=>match eqP k x y with
  |some r=>some (.v (.s (.bool (r !=neg))))
  |none=>none
 |.un u,[.v (.s x)]=>match unP u x with
  |some v=>some (.v (.s v))
  |none=>none
 |.conv k,[.v (.s (.int _ n))]=>some (.v (.s (.int k (k.wrap n))))
 |.Nc f n,xs=>match lG xs with
  |some l=>some (.v (.s (.func f (l.take n) (l.drop n))))
  |none=>none
 |.lens,[.v (.s (.slice _ _ len _ _))]=>some (.int .i64 (len:Nat))
 |.lens,[.v (.s (.lst _ l _))]=>some (.int .i64 (l.length:Nat))
 |.lens,[.v (.s .Af)]=>some (.int .i64 (0:Nat))
 |.Ld,[.v (.s (.str l))]=>some (.int .i64 (l.length:Nat))
 |.Lh n,[_]=>some (.int .i64 (n:Nat))
 |.Jk m,.v (.s (.int k x))::xs=>match Qq m k x xs with
  |some v=>some (.v (.s v))
  |none=>none
 |_,_=>none
def isE:VOp→Bool
 |.build ..|.B8 _|.field ..|.extract _|.Gp|.bin _|.eq ..|.un _|.conv _|.Nc ..|.lens|.Ld|.Lh _|.Jk _=>true
 |_=>false
theorem PU {op:VOp} {args:List PA} {v:PA} (e:opE op args=some v) (g:Ab):opP op args g=some (v,g):=by
 unfold opE at e
 split at e
 ·split at e
  ·next z hz=>
   split at e
   ·next cs hcs=>cases e;simp only[opP,Zp,hz,jO hcs]
   ·cases e
  ·cases e
 ·cases e;rfl
 ·split at e
  ·next r hr=>
   cases e
   obtain⟨h1,h2⟩:=P4 hr
   simp only[opP,Fz,if_pos h1,h2]
  ·cases e
 ·cases e;rfl
 ·split at e
  ·next r hr=>
   cases e
   obtain⟨h1,h2⟩:=Uk hr
   simp only[opP,Sp,if_pos h1,h2]
  ·cases e
 ·split at e
  ·next x hx=>cases e;simp only[opP,Vn,W0,jM hx,noP]
  ·cases e
 ·split at e
  ·next r hr=>
   split at e
   ·next q hq=>
    cases e
    obtain⟨h1,h2⟩:=Uk hr
    obtain⟨h3,h4⟩:=P4 hq
    subst h2
    rw[List.length_drop] at h3
    simp only[opP,Vn,W0]
    rw[if_pos (by omega),h4];rfl
   ·cases e
  ·cases e
 ·split at e
  ·next x hx=>cases e;simp only[opP,Jq,jM hx,noP]
  ·cases e
 ·split at e
  ·next v' h' hv=>
   cases e
   simp only[opP]
   unfold Ks at hv ⊢
   split at hv<;>first|(cases hv;rfl)|cases hv
  ·cases e
 ·split at e
  ·next x hx=>cases e;simp only[opP,Ox,hx,Dr]
  ·cases e
 ·split at e
  ·next x hx=>cases e;simp only[opP,pEq,hx]
  ·cases e
 ·split at e
  ·next x hx=>cases e;simp only[opP,pUn,hx,Dr]
  ·cases e
 ·cases e;rfl
 ·split at e
  ·next x hx=>cases e;simp only[opP,Tm,hx]
  ·cases e
 ·cases e;rfl
 ·cases e;rfl
 ·cases e;rfl
 ·cases e;rfl
 ·cases e;rfl
 ·split at e
  ·next x hx=>cases e;simp only[opP,Tn,hx,Dr]
  ·cases e
 ·cases e
def fM (g:Ab) (b:Key) (o n:Nat):Option (List PV):=
 match g.get b with
 |some ⟨.cells c,_,_,_,_⟩=>match nW o c with
  |some r=>Xs n r
  |none=>none
 |_=>none
theorem Um {g:Ab} {b:Key} {o n:Nat} {l:List PV} (e:fM g b o n=some l):g.read b o n=some l:=by
 unfold fM at e
 split at e
 ·next c _ _ _ _ hg=>
  split at e
  ·next r hr=>
   obtain⟨h1,h2⟩:=Uk hr
   obtain⟨h3,h4⟩:=P4 e
   subst h2
   rw[List.length_drop] at h3
   unfold Ab.read
   split
   ·next h0=>subst h0;simp only[List.take_zero] at h4;rw[h4]
   ·have hc:g.cells b=some c:=by simp only[Ab.cells,hg]
    rw[hc];simp only;rw[if_pos (by omega),h4]
  ·cases e
 ·cases e
def sD (g:Ab) (b:Key) (o:Nat) (l:List PV):Option Ab:=
 match g.get b with
 |some ⟨.cells c,true,false,[],log⟩=>match Sc c o l with
  |some r=>some (g.upd b (some ⟨.cells r,true,false,[],(o,l.length)::log⟩))
  |none=>none
 |_=>none
theorem yN {g g':Ab} {b:Key} {o:Nat} {l:List PV} (e:sD g b o l=some g'):g.write b o l=some g':=by
 unfold sD at e
 split at e
 ·next c log hg=>
  split at e
  ·next r hr=>
   cases e
   obtain⟨h1,h2⟩:=Ul hr
   unfold Ab.write
   rw[hg];simp only
   rw[if_pos ⟨h1,rfl⟩,h2];rfl
  ·cases e
 ·cases e
def frL:Fm→PFr
 |[]=>.z
 |(k,x)::L=>(frL L).upd k (some x.pa)
theorem C9:∀L:Fm,Fit L (frL L)
 |[],k,x,h=>by cases h
 |(j,y)::L,k,x,h=>by
  simp only[look] at h
  simp only[frL,Tr.Av]
  split at h
  ·next hk=>cases h;rw[if_pos (Cz hk)]
  ·next hk=>
   rw[if_neg (fun he=>by subst he;rw[Cs] at hk;cases hk)]
   exact C9 L k x h
theorem Kc:∀(L:Fm) (k:Key) (v:PA),(frL L).get k=some v→∃x,look L k=some x∧x.pa=v
 |[],k,v,h=>by simp[frL] at h
 |(j,y)::L,k,v,h=>by
  simp only[frL,Tr.Av] at h
  simp only[look]
  split at h
  ·next hk=>cases h;subst hk;rw[Cs];exact⟨y,rfl,rfl⟩
  ·next hk=>
   split
   ·next he=>exact absurd (Cz he) hk
   ·exact Kc L k v h
theorem Un (L:Fm) (d:Option Key) (x:FE):frL (Gd L d x)=Kl (frL L) d x.pa:=by cases d<;>rfl
theorem JR {L L':Fm} (s:Sub L L') (k:Key) (v:PA) (h:(frL L).get k=some v):(frL L').get k=some v:=by
 obtain⟨x,h1,h2⟩:=Kc L k v h
 obtain⟨y,h3,h4⟩:=s k x h1
 rw[C9 L' k y h3,h4,h2]
def Q9 (L:Fm) (gd:Option (Key×Bool)) (T U:Fm→Prop):Prop:=
 match gd with
 |none=>T L
 |some (k,b)=>match look L k with
  |some (.b c)=>match Bool.xor c b with
   |false=>T L
   |true=>U L
  |some (.v (.v (.s (.bool c))))=>(c=b→T ((k,.b b)::L))∧(c=!b→U ((k,.b !b)::L))
  |some (.v (.tup _))=>U L
  |_=>False
theorem sE {L:Fm} {gd:Option (Key×Bool)} {T U:Fm→Prop} (h:Q9 L gd T U) {fr:PFr} (hf:Fit L fr) :
  ∃L1,Fit L1 fr∧(((∀fr,Fit L1 fr→Cu fr gd=some true)∧T L1)∨((∀fr,Fit L1 fr→Cu fr gd=some false)∧U L1)):=by
 unfold Q9 at h
 split at h
 ·exact⟨L,hf,.inl ⟨fun _ _=>rfl,h⟩⟩
 ·next k b=>
  split at h
  ·next c hc=>
   split at h
   ·next hx=>
    refine⟨L,hf,.inl ⟨fun fr hf=>?_,h⟩⟩
    simp only[Cu,hf k _ hc,FE.pa]
    cases c<;>cases b<;>first|rfl|cases hx
   ·next hx=>
    refine⟨L,hf,.inr ⟨fun fr hf=>?_,h⟩⟩
    simp only[Cu,hf k _ hc,FE.pa]
    cases c<;>cases b<;>first|rfl|cases hx
  ·next c hc=>
   have mark:∀x:FE,look ((k,x)::L) k=some x:=fun x=>by simp only[look,Cs]
   by_cases hcb:c=b
   ·subst hcb
    refine⟨_,hf.known (y:=.b c) hc rfl,.inl ⟨fun fr hf=>?_,h.1 rfl⟩⟩
    simp only[Cu,hf k _ (mark _),FE.pa,beq_self_eq_true]
   ·have hn:c=!b:=by cases c<;>cases b<;>first|rfl|exact absurd rfl hcb
    refine⟨_,hf.known (y:=.b !b) hc (by rw[←hn];rfl),.inr ⟨fun fr hf=>?_,h.2 hn⟩⟩
    simp only[Cu,hf k _ (mark _),FE.pa]
    cases b<;>rfl
  ·next x hc=>
   exact⟨L,hf,.inr ⟨fun fr hf=>by simp only[Cu,hf k _ hc,FE.pa],h⟩⟩
  ·exact h.elim
end Go.Pv
end
