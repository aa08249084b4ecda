/- A part of the proof. No condition. -/
import Derived.Test.YthnfbamnfihcaaaGreatPart2
import Derived.Test.YthnfbamnfihcaaaGreatPart1
import Derived.Test.YthnfbamnfihcaaaGreatBase
import Derived.Test.YthnfbamnfihcaaaGreatMade
import Derived.Test.YthnfbamnfihcaaaGreatSets
set_option linter.unusedVariables false
set_option linter.unusedSimpArgs false
set_option linter.unusedSectionVars false
section
noncomputable section
namespace Go.Pv
open Go.Vm
open Go.Vm.Key (kn)
set_option maxRecDepth 40000
set_option maxHeartbeats 0
section
variable {P:Program} {F:D5} {pu:EH} {lo:Nat} {L:Fm} {g:A0} {I:List PIt}
theorem vZ {Z:ZM} {p:Ren} {fr1:Fr} (hf:FRL Z p L fr1) {xs:List VX} {ys:List FE} (h:Qj L xs=some ys):∃us,G7 fr1 xs=some us/\A1 (AR Z p) (ys.map FE.pa) us:=L9 hf (V5 (Ha L) h)
theorem PXL.call {d:EE} {f:Nat} {xs:List VX} {l:List B3} {K:Fm->A0->List PIt->Prop} {ys:List FE} (hy:Qj L xs=some ys) {R:PA->A0->Prop} (m:PXC P f (ys.map FE.pa) g R)
  (hk:∀r g',R r g'->Uw g' λg'=>PXL P lo l (Jj L d (.v r)) g' I K):PXL P lo (⟨d,.call f,xs,none⟩::l) L g I K:=by intro N ops l' hl s0 s h0 hlo hs he hg fr1 hf IV hI;obtain⟨a,b,rfl,e1,e2⟩:=Pn hl;obtain⟨us,h1,h2⟩:=vZ hf hy;refine MXL.call e1 rfl (λp h=>Ad) h1 (f:=f) (vs:=us) (Xz f us s.h) (m s hs hg us h2) ?_;rintro v h' ⟨Z',p',r,g',k1,k2,k3,k4⟩;subst hg;exact V8 (hk r g' k4) N ops b e2 s0 ⟨Z',p',g',h'⟩ h0 hlo k1 (he.trans h0.toGu k2 he.nx.1 he.nx.2) rfl _ (FRL.put (x:=.v r) (hf.mono k2.zle k2.ple) k3 d) IV (A9 hI λ_ _ hi=>hi.mono k2.zle k2.ple)
theorem LV {s:Sta} (hs:Good s):Good ⟨s.Z,λk=>if k=s.g.next then some s.h.next else s.p k,{ s.g with next:=s.g.next.succ },{ s.h with next:=s.h.next.succ }⟩ /\
  E1 s.g.next.toNat s.h.next.toNat s ⟨s.Z,λk=>if k=s.g.next then some s.h.next else s.p k,{ s.g with next:=s.g.next.succ },{ s.h with next:=s.h.next.succ }⟩:=by
 have hn:s.g.next.succ.toNat=s.g.next.toNat+1:=Key.toNat_succ _;have hm:s.h.next.succ.toNat=s.h.next.toNat+1:=Key.toNat_succ _;have hp:∀k b,s.p k=some b->(if k=s.g.next then some s.h.next else s.p k)=some b:=λk b e=>by rw[Ao λh=>by have:=(hs.pk k b e).1;rw[h] at this;omega];exact e
 have hc:∀k b,(if k=s.g.next then some s.h.next else s.p k)=some b->(k=s.g.next/\b=s.h.next)∨s.p k=some b:=λk b e=>by
  split at e;·next h=>cases e;exact .inl ⟨h,rfl⟩
  ·exact .inr e
 refine⟨⟨⟨λk k' b e e'=>?_,λk x hx=>?_,hs.z,λk b e hx=>?_⟩,⟨λk b e=>?_,λb c e=>?_,λb hb=>hs.top b (by simp only at hb;omega)⟩⟩,⟨⟨by simp only;omega,by simp only;omega⟩,λ_ _ h=>h,hp,λk b e=>?_,λb c h=>.inl (by rw[show s.Z b=some c from h];simp),λ_ _ _=>rfl,λ_ _ _ h=>h,λk x x' h h'=>?_⟩⟩
 ·rcases hc k b e with⟨h1,h2⟩|h1<;>rcases hc k' b e' with⟨h3,h4⟩|h3;·rw[h1,h3]
  ·have:=(hs.pk k' b h3).2;rw[h2] at this;omega
  ·have:=(hs.pk k b h1).2;rw[h4] at this;omega
  ·exact hs.inj k k' b h1 h3
 ·obtain⟨b,y,h1,h2,h3⟩:=hs.blk k x hx;exact⟨b,y,hp k b h1,h2,⟨h3.body.mono (λ_ _ h=>h) hp,λho=>⟨(h3.own ho).1,(h3.own ho).2.mono (λ_ _ h=>h) hp⟩,h3.Si,h3.frz⟩⟩
 ·rcases hc k b e with⟨h1,h2⟩|h1;·rw[h2];exact hs.top _ Rl
  ·exact hs.dead k b h1 hx
 ·rcases hc k b e with⟨h1,h2⟩|h1;·rw[h1,h2];simp only;omega
  ·have:=hs.pk k b h1;simp only;omega
 ·have:=hs.zr b c e;simp only;omega
 ·rcases hc k b e with⟨h1,h2⟩|h1;·rw[h1,h2];exact .inr ⟨Rl,Rl⟩
  ·exact .inl h1
 ·have h:s.g.get k=some x:=h;have h':s.g.get k=some x':=h';rw[h] at h';cases h';exact⟨[],rfl,λb y _ hy=>⟨y,hy,M6.refl _ _⟩⟩
theorem zR {s:Sta} (hs:Good s) {ks vs:Ey} {b:Key} (h:A8 s.Z (.mp ks vs) (.map b)):∃(lv:List (CV×CV)) (own:Bool) (anc:ED),s.h.get b=some ⟨.map lv,own,anc⟩/\lv.length=ks.length/\vs.length=ks.length /\
  ∀(j:Nat) (key val:PV),ks[j]?=some key->vs[j]?=some val->∃(y z:SV),lv[j]?=some (CV.s y,CV.s z)/\A8 s.Z key y/\A8 s.Z val z:=by
 cases h with
 |mp f1 f2 hn hz h1 h2=>obtain⟨⟨body,own,anc⟩,e1,e2⟩:=hs.z b _ hz;simp only at e2;subst e2;refine⟨_,own,anc,e1,Ac,hn,λj key val e3 e4=>⟨f1 j,f2 j,?_,h1 j _ e3,h2 j _ e4⟩⟩;have:=(Gi.1 e3).1;simp[AD,Dk this]
theorem Abf {Z:ZM} {p:Ren} {ks vs:Ey} {u:AV} (h:AR Z p (.v (.s (.mp ks vs))) u):∃b,u=.v (.s (.map b))/\A8 Z (.mp ks vs) (.map b):=by
 obtain⟨z,rfl,hz⟩:=h.s;have hz:A8 Z (.mp ks vs) z:=hz;cases hz with
 |mp f1 f2 hn hz' h1 h2=>exact⟨_,rfl,.mp f1 f2 hn hz' h1 h2⟩
theorem HO {Z:ZM} {p:Ren} {k:Key} {u:AV} (h:AR Z p (.v (.s (.ptr k 0))) u):∃b,p k=some b/\u=.v (.s (.ptr b 0)):=by obtain⟨z,rfl,b,h1,rfl⟩:=h.s;exact⟨b,h1,rfl⟩
theorem PXL.range {d:EE} {kx:Key} {l:List B3} {K:Fm->A0->List PIt->Prop} {e:FE} {ks vs:Ey} (hx:look L kx=some e) (he:e.pa=.v (.s (.mp ks vs)))
  (m:PXL P lo l (Jj L d (.v (.v (.s (.ptr g.next 0))))) { g with next:=g.next.succ } (I++[⟨g.next,ks,vs,[]⟩]) K):PXL P lo (⟨d,.op .Lu,[.t kx],none⟩::l) L g I K:=by intro N ops l' hl s0 s h0 hlo hs hex hg fr1 hf IV hI;subst hg;obtain⟨a,b,rfl,e1,e2⟩:=Pn hl;obtain⟨u,h1,h2⟩:=hf kx _ (by rw[Ha L kx e hx,he]);obtain⟨mb,rfl,hq⟩:=Abf h2;obtain⟨lv,own,anc,h3,h4,_⟩:=zR hs hq;obtain⟨g1,g2⟩:=LV hs;refine MXL.range e1 rfl h1 h3 ?_;have hI2:A1 (ItR s.Z λk=>if k=s.g.next then some s.h.next else s.p k) (I++[⟨s.g.next,ks,vs,[]⟩]) (IV++[⟨s.h.next,mb,lv.length,[]⟩]):=D0 (A9 hI λ_ _ hi=>hi.mono g2.zle g2.ple) (.cons ⟨Ac,hq,h4,rfl⟩ .nil);exact m N ops b e2 s0 _ h0 hlo g1 (hex.trans h0.toGu g2 hex.nx.1 hex.nx.2) rfl _ (FRL.put (x:=.v (.v (.s (.ptr s.g.next 0)))) (hf.mono g2.zle g2.ple) (AR.mkS (x:=.ptr s.g.next 0) (z:=.ptr s.h.next 0) ⟨s.h.next,Aj rfl,rfl⟩) d) _ hI2
theorem nB {Z:ZM} {p:Ren}:∀{I1 I2:List PIt} {i:PIt} {IV:List It},A1 (ItR Z p) (I1++i::I2) IV->∃V1 v V2,IV=V1++v::V2/\A1 (ItR Z p) I1 V1/\ItR Z p i v/\A1 (ItR Z p) I2 V2:=λh=>Ss h
theorem PXL.next {d:EE} {kx:Key} {l:List B3} {K:Fm->A0->List PIt->Prop} {I1 I2:List PIt} {i:PIt} {e:FE} (hx:look L kx=some e) (he:e.pa=.v (.s (.ptr i.k 0)))
  (hno:(∀j,j<i.ks.length->j∈i.seen)->PXL P lo l (Jj L d (.v (.tup [.s (.bool false)]))) g (I1++i::I2) K)
  (hyes:∀(j:Nat) (key val:PV),j∉i.seen->i.ks[j]?=some key->i.vs[j]?=some val->PXL P lo l (Jj L d (.v (.tup [.s (.bool true),.s key,.s val]))) g (I1++{ i with seen:=i.seen++[j] }::I2) K):PXL P lo (⟨d,.op .Qr,[.t kx],none⟩::l) L g (I1++i::I2) K:=by
 intro N ops l' hl s0 s h0 hlo hs hex hg fr1 hf IV hI;subst hg;obtain⟨a,b,rfl,e1,e2⟩:=Pn hl;obtain⟨u,h1,h2⟩:=hf kx _ (by rw[Ha L kx e hx,he]);obtain⟨ib,hp,rfl⟩:=HO h2;obtain⟨V1,v,V2,rfl,a1,a2,a3⟩:=nB hI;obtain⟨lv,own,anc,h3,h4,h5,h6⟩:=zR hs a2.m;have hb:ib=v.b:=by have:=a2.k;rw[hp] at this;exact Cw this
 subst hb;refine MXL.next e1 rfl h1 h3 (by rw[h4,a2.n]) (λhall=>?_) λk key val hk hns hlk=>?_;·exact hno (λj hj=>by rw[<-a2.s];exact hall j (by rw[a2.n];exact hj)) N ops b e2 s0 s h0 hlo hs hex rfl _ (FRL.put (x:=.v (.tup [.s (.bool false)])) hf (AR.mkT (.cons (CR.mkS (A8.bool _)) .nil)) d) _ (Pl a1 a2 a3)
 ·have hkl:k<i.ks.length:=by rw[<-a2.n];exact hk
  have hkv:k<i.vs.length:=by rw[h5];exact hkl
  obtain⟨y,z,c1,c2,c3⟩:=h6 k i.ks[k] i.vs[k] (by simp[hkl]) (by simp[hkv]);rw[hlk] at c1;cases c1;exact hyes k _ _ (by rw[<-a2.s];exact hns) (by simp[hkl]) (by simp[hkv]) N ops b e2 s0 s h0 hlo hs hex rfl _
   (FRL.put (x:=.v (.tup [.s (.bool true),.s i.ks[k],.s i.vs[k]])) hf (AR.mkT (.cons (CR.mkS (A8.bool _)) (.cons (CR.mkS c2.v) (.cons (CR.mkS c3.v) .nil)))) d) _ (Pl a1 ⟨a2.k,a2.m,a2.n,by rw[a2.s]⟩ a3)
theorem PXL.entry {d:EE} {kx:Key} {l:List B3} {K:Fm->A0->List PIt->Prop} {I1 I2:List PIt} {i:PIt} {e:FE} (hx:look L kx=some e) (he:e.pa=.v (.s (.ptr i.k 0))) {s1:EF} {j:Nat} (hs1:i.seen=s1++[j]) {key val:PV} (hk:i.ks[j]?=some key) (hv:i.vs[j]?=some val)
  (m:PXL P lo l (Jj L d (.v (.tup [.s key,.s val]))) g (I1++i::I2) K):PXL P lo (⟨d,.op .Lv,[.t kx],none⟩::l) L g (I1++i::I2) K:=by
 intro N ops l' hl s0 s h0 hlo hs hex hg fr1 hf IV hI;subst hg;obtain⟨a,b,rfl,e1,e2⟩:=Pn hl;obtain⟨u,h1,h2⟩:=hf kx _ (by rw[Ha L kx e hx,he]);obtain⟨ib,hp,rfl⟩:=HO h2;obtain⟨V1,v,V2,rfl,a1,a2,a3⟩:=nB hI;obtain⟨lv,own,anc,h3,h4,h5,h6⟩:=zR hs a2.m;have hb:ib=v.b:=by have:=a2.k;rw[hp] at this;exact Cw this
 subst hb;obtain⟨y,z,c1,c2,c3⟩:=h6 j key val hk hv;exact MXL.entry e1 rfl (i:=v) Ac h1 h3 (by rw[h4,a2.n]) (by rw[a2.s,hs1]) c1
  (m N ops b e2 s0 s h0 hlo hs hex rfl _ (FRL.put (x:=.v (.tup [.s key,.s val])) hf (AR.mkT (.cons (CR.mkS c2.v) (.cons (CR.mkS c3.v) .nil))) d) _ (Pl a1 a2 a3))
end
section
variable {P:Program} {F:D5} {pu:EH} {lo:Nat} {L:Fm} {g:A0} {I:List PIt}
theorem PXC.of (pf:PF P F) {f:Nat} {vf:Gq} (hF:F f=some vf) {args:Ez} {R:PA->A0->Prop} (h:PX P g.next.toNat vf.body (iQ 0 args) g [] λx L g' _=>match x with
  |.exit _=>False
  |_=>match Uu L g' vf.results with
   |some l=>R (G3 l) g'
   |none=>False):PXC P f args g R:=by
 intro s hs hg vs hv
 subst hg
 refine MC.of pf.fs hF λN c hc=>(h N c hc s s hs Rl hs (E1.refl _ _ _) rfl _ (vF hv) [] .nil).mono ?_
 rintro x fr h' IV ⟨Z',p',g',L',I',h1,h2,h3,h4,h5⟩
 have fin:(match Uu L' g' vf.results with
   |some l=>R (G3 l) g'
   |none=>False)->∃l,Im fr h' vf.results=some l/\∃Z' p' r g',Good ⟨Z',p',g',h'⟩/\E1 s.g.next.toNat s.h.next.toNat s ⟨Z',p',g',h'⟩/\AR Z' p' r (J9 l)/\R r g':=by
  intro hr
  split at hr
  ·next l hl=>
   obtain⟨us,h6,h7⟩:=Pk h1.toGu h3 (iR hl)
   exact⟨us,h6,Z',p',_,g',h1,h2,Sl h7,hr⟩
  ·exact hr.elim
 cases x with
 |exit i=>exact h5.elim
 |normal=>exact⟨λ_ e=>(by cases e),fin h5⟩
 |ret=>exact⟨λ_ e=>(by cases e),fin h5⟩
theorem PXC.run (pf:PF P F) {f:Nat} {args:Ez} {R:PA->A0->Prop} (h:XC F f args g R):PXC P f args g R:=by intro s hs hg vs hv;subst hg;obtain⟨n,u,h',Z',p',r,g',e,h2,h3,h4,h5⟩:=h s hs rfl vs hv;have hE:=Q4 (F:=F) pf.ora.nice pf.ora.Zf;have hc:=gS pf.mix pf.fs pf.ora n;refine⟨hc.dom _ _ _ _ e,λhcl φ w us sm ha=>Calls.mono (hc.run _ _ _ _ _ hcl e φ w us sm ha) ?_⟩;rintro ex w' ⟨v',rfl,φ',g1,g2,g3⟩;exact⟨v',u,h',φ',rfl,g1,g2,Oo pf.ora.Zf (hE n) _ _ _ _ _ e hcl,qQ hs h2 h3,g3,Z',p',r,g',h2,h3,h4,h5⟩
theorem PXC.alone (pf:PF P F) {f:Nat} {args:Ez} {r:PA} (h:XC F f args g λr' g'=>r'=r/\g'=g):PXC P f args g λr' g'=>r'=r/\g'=g:=PXC.run pf h
theorem PXC.sub {f:Nat} {args argc:Ez} {gc:A0} {ρ:EC} {R Rc:PA->A0->Prop} (t:Trim 0 ρ [] g [] gc) (ha:A1 (RnA ρ) argc args) (h:PXC P f argc gc Rc)
  (hR:∀rc gc',Rc rc gc'->∃μ r g2,PU ρ μ g gc g2 gc'/\RnA μ r rc/\R r g2):PXC P f args g R:=by intro s hs hg vs hv;refine(h _ (vL t hs hg) rfl vs (iY ha hv)).mono ?_;rintro u h' ⟨Z',pc,rc,gc',h2,h3,h4,h5⟩;obtain⟨μ,r,g2,B,hr,hRr⟩:=hR rc gc' h5;obtain⟨p2,k1,k2,k3⟩:=vN t hs hg h2 h3 h4 B hr;exact⟨Z',p2,r,g2,k1,k2,k3,hRr⟩
theorem PXC.QB {f:Nat} {args argc:Ez} {R Rc:PA->A0->Prop} {l:List (Key×B4)} {nx:Key} (r:Ew) (h:PXC P f argc (mkH l nx) Rc) (hn:Gk 0 nx.toNat l r [] []=true) (hlow:vO g.next.toNat r=true)
  (hb:Na (rho 0 r) g l) (ha:A1 (RnA (rho 0 r)) argc args)
  (hR:∀rc gc',Rc rc gc'->∃nw nx2 xs ys r2,Mp g.next.toNat nx.toNat nx2.toNat nw [] []=true/\g.next.toNat<=nx2.toNat/\Nb (muR r nw) g gc' l r xs/\iZ (muR r nw) gc' nw ys/\RnA (muR r nw) r2 rc/\Uw ⟨Uv (Xu g.mem nw ys) r xs,nx2⟩ (R r2)):PXC P f args g R:=
 PXC.sub (PY hn hb) ha h λrc gc' hrc=>by obtain⟨nw,nx2,xs,ys,r2,h1,h2,h3,h4,h5,h6⟩:=hR rc gc' hrc;exact⟨muR r nw,r2,_,PZ hn hlow h1 h2 h3 h4,h5,V8 h6⟩
theorem HP {Z:ZM} {p:Ren}:∀{ks vs:Ey} {lv:List (CV×CV)},vs.length=ks.length->(∀x∈ks,A2 x)->(∀x∈vs,A2 x)->A1 (λx y=>CR Z p x.1 y.1/\CR Z p x.2 y.2) (mpE ks vs) lv ->
  ∃f1 f2:Nat->SV,lv=(List.range ks.length).map (λi=>(CV.s (f1 i),CV.s (f2 i)))/\(∀(i:Nat) (x:PV),ks[i]?=some x->A8 Z x (f1 i))/\∀(i:Nat) (x:PV),vs[i]?=some x->A8 Z x (f2 i)
 |[],[],lv,_,_,_,h=>by cases h;exact⟨λ_=>.Iv,λ_=>.Iv,rfl,Ac,Ac⟩
 |k::ks,v::vs,lv,hn,h1,h2,h=>by
  cases h with
  |cons a b=>
   rename_i y m
   obtain⟨y1,y2⟩:=y;obtain⟨f1,f2,e1,e2,e3⟩:=HP (by simpa using hn) (λx hx=>h1 x (by simp[hx])) (λx hx=>h2 x (by simp[hx])) b;have nk:∀{x:PV},A2 x->∀{c:CV},CR Z p (.s x) c->∃s,c=.s s/\A8 Z x s:=λ{x} hx {c} hc=>by
    cases c with
    |agg _=>exact hc.elim
    |s z=>refine⟨z,rfl,?_⟩;cases x<;>first|exact hc|exact hx.elim
   obtain⟨s1,rfl,q1⟩:=nk (h1 k Ac) a.1;obtain⟨s2,rfl,q2⟩:=nk (h2 v Ac) a.2;refine⟨λi=>match i with|0=>s1|i+1=>f1 i,λi=>match i with|0=>s2|i+1=>f2 i,?_,λi x hx=>?_,λi x hx=>?_⟩;·rw[e1,Ap,List.range_succ_eq_map];simp
   ·cases i with
    |zero=>simp at hx;subst hx;exact q1
    |succ i=>exact e2 i x (by simpa using hx)
   ·cases i with
    |zero=>simp at hx;subst hx;exact q2
    |succ i=>exact e3 i x (by simpa using hx)
 |[],_::_,_,hn,_,_,_=>by simp at hn
 |_::_,[],_,hn,_,_,_=>by simp at hn
theorem HQ {s:Sta} (hs:Good s) {k:Key} {ks vs:Ey} {own:Bool} {anc:ED} {log:Es} (hg:s.g.get k=some ⟨.map (mpE ks vs),own,false,anc,log⟩) (hn:vs.length=ks.length) (h1:∀x∈ks,A2 x) (h2:∀x∈vs,A2 x) :
  ∃Z',Frz s Z' (s.g.upd k (some ⟨.map (mpE ks vs),own,true,anc,log⟩))/\∀u,AR s.Z s.p (.v (.s (.map k))) u->AR Z' s.p (.v (.s (.mp ks vs))) u:=by
 obtain⟨b,y,hp,hy,hbr⟩:=hs.blk k _ hg;have fz:=bK hs.toGu hp hg hy rfl;refine⟨_,fz,λu hu=>?_⟩;obtain⟨z,rfl,b',hb,rfl⟩:=hu.s;rw[hp] at hb;cases hb;have hbody:=hbr.body;obtain⟨yb,yo,ya⟩:=y;cases yb with
 |map lv=>obtain⟨f1,f2,e1,e2,e3⟩:=HP hn h1 h2 hbody;have hz:=(fz.ext 0 0).zle;exact AR.mkS (A8.v (.mp f1 f2 hn (by simp only[Ak];rw[e1]) (λi x hx=>(e2 i x hx).mono hz) λi x hx=>(e3 i x hx).mono hz))
 |_=>exact hbody.elim
theorem PX.QY {cd:B7} {Q:PQT} {kx k:Key} {e:FE} {ks vs:Ey} {own:Bool} {anc:ED} {log:Es} (hx:look L kx=some e) (he:e.pa=.v (.s (.map k))) (hg:g.get k=some ⟨.map (mpE ks vs),own,false,anc,log⟩) (hn:vs.length=ks.length) (h1:∀x∈ks,A2 x) (h2:∀x∈vs,A2 x)
  (m:PX P lo cd (Jj L (some kx) (.v (.v (.s (.mp ks vs))))) (g.upd k (some ⟨.map (mpE ks vs),own,true,anc,log⟩)) I Q):PX P lo cd L g I Q:=by
 intro N c hc s0 s h0 hlo hs hex hgs fr1 hf IV hI;subst hgs;obtain⟨Z',fz,hu⟩:=HQ hs hg hn h1 h2;have x1:=fz.ext s0.g.next.toNat s0.h.next.toNat;refine m N c hc s0 ⟨Z',s.p,_,s.h⟩ h0 hlo ⟨fz.sim,fz.room hs.toRoom⟩ (hex.trans h0.toGu x1 Rl Rl) rfl fr1 ?_ IV (A9 hI λ_ _ hi=>hi.mono x1.zle λ_ _ h=>h);obtain⟨u,e1,e2⟩:=hf kx _ (by rw[Ha L kx e hx,he]);intro j v hj;obtain⟨x,a1,a2⟩:=M0 _ j v hj;simp only[Jj,look] at a1;split at a1;·next hk=>cases a1;rw[<-He hk];subst a2;exact⟨u,e1,hu u e2⟩
 ·obtain⟨u2,b1,b2⟩:=hf j v (by rw[Ha L j x a1,a2]);exact⟨u2,b1,b2.mono x1.zle λ_ _ h=>h⟩
theorem PXC.QY {f:Nat} {args:Ez} {R:PA->A0->Prop} (h:PXC P f args g λr g'=>∃k ks vs own anc log,r=.v (.s (.map k))/\g'.get k=some ⟨.map (mpE ks vs),own,false,anc,log⟩/\vs.length=ks.length/\(∀x∈ks,A2 x)/\(∀x∈vs,A2 x) /\
  R (.v (.s (.mp ks vs))) (g'.upd k (some ⟨.map (mpE ks vs),own,true,anc,log⟩))):PXC P f args g R:=by intro s hs hg vs hv;refine(h s hs hg vs hv).mono ?_;rintro u h' ⟨Z',p',r,g',k1,k2,k3,k,ks,ws,own,anc,log,rfl,e1,e2,e3,e4,e5⟩;obtain⟨Z2,fz,hu⟩:=HQ k1 e1 e2 e3 e4;exact⟨Z2,p',_,_,⟨fz.sim,fz.room k1.toRoom⟩,k2.trans hs.toGu (fz.ext _ _) Rl Rl,hu u k3,e5⟩
end
def Vc (d:DOp):Bool:=(match d.o.act with
 |.op o=>decide (o.kind=.quiet)
 |_=>false)&&d.o.guard.isNone
theorem nD {d:DOp} (h:Vc d=true):∃o,d.o.act=.op o/\o.kind=.quiet/\d.o.guard=none:=by
 unfold Vc at h;simp only[Au,Option.isNone_iff_eq_none] at h;obtain⟨h1,h2⟩:=h;split at h1;·next o ho=>exact⟨o,ho,by simpa using h1,h2⟩
 ·cases h1
theorem aA {call:Fg}:∀{l:List DOp} {fr fr':Fr} {h h':Heap},l.all Vc=true->G0 call (l.map (·.o)) fr h=some (fr',h')->h'=h/\∃vs,Wn h l fr vs fr'
 |[],fr,fr',h,h',_,e=>by simp only[BH,G0,Sj,Pj] at e;exact⟨e.2.symm,[],e.1⟩
 |d::l,fr,fr',h,h',hq,e=>by
  simp only[List.all_cons,Au] at hq;obtain⟨o,ho,hk,hg⟩:=nD hq.1;simp only[AG,G0] at e;split at e
  ·next fr1 h1 h1e=>
   unfold B3.run at h1e;rw[hg] at h1e;simp only[Ht] at h1e;split at h1e
   ·next args hf=>
    split at h1e
    ·next v h2 ha=>
     cases h1e;rw[ho] at ha;obtain⟨rfl,_⟩:=Jb hk ha;obtain⟨e1,vs,e2⟩:=aA hq.2 e;exact⟨e1,v::vs,⟨o,args,ho,hk,hg,hf,ha⟩,e2⟩
    ·cases h1e
   ·cases h1e
  ·cases e
def eS (post:List DOp) (d:EE) (L1:Fm) (g:A0) (R:PA->A0->Prop):Prop:=∀s1:Sta,Good s1->s1.g=g->∀fr1:Fr,FRL s1.Z s1.p L1 fr1->∃v0,QE s1.h post (Fp fr1 d .unit) v0 /\
 ∀(s2:Sta) v r ws fr',Good s2->E1 s1.g.next.toNat s1.h.next.toNat s1 s2->R r s2.g->Wn s2.h post (Fp fr1 d v) ws fr'->Re s1.h s2.h post v0 (Fp fr1 d v) ws fr'
theorem Wn.cons {h:Heap} {d:DOp} {l:List DOp} {fr:Fr} {vs:EA} {fr':Fr} (q:Wn h (d::l) fr vs fr'):∃v ws,vs=v::ws/\Z7 h d fr v/\Wn h l (Fp fr d.o.dst v) ws fr':=by
 cases vs with
 |nil=>exact q.elim
 |cons v ws=>exact⟨v,ws,rfl,q⟩
theorem aB {h:Heap} {d:DOp} {fr:Fr} {v:AV} (q:Z7 h d fr v) {o:VOp} (ho:d.o.act=.op o) {az:EA} (ha:G7 fr d.o.args=some az):o.run az h=some (v,h):=by obtain⟨o',az',a1,_,_,a4,a5⟩:=q;rw[ho] at a1;cases a1;rw[ha] at a4;cases a4;exact a5
def nE (d:DOp):Bool:=Vc d&&!(Nat.beq d.chk 0)
theorem zS {h:Heap}:∀{l:List DOp} (fr:Fr),l.all nE=true->QE h l fr (List.replicate l.length .unit)
 |[],_,_=>trivial
 |d::l,fr,hq=>by simp only[List.all_cons,Au,nE,AX] at hq;obtain⟨o,ho,hk,_⟩:=nD hq.1.1;exact⟨λhc=>(by rw[hc] at hq;exact absurd hq.1.2 Ab),⟨o,ho,hk⟩,zS _ hq.2⟩
theorem zT {h h1:Heap}:∀{l:List DOp} {fr:Fr} {ws:EA} {fr':Fr},l.all nE=true->Wn h1 l fr ws fr'->Re h h1 l (List.replicate l.length .unit) fr ws fr'
 |[],_,[],_,_,e=>e
 |d::l,fr,v::vs,fr',hq,e=>by simp only[List.all_cons,Au,nE,AX] at hq;exact⟨e.1,λhc=>(by rw[hc] at hq;exact absurd hq.1.2 Ab),zT hq.2 e.2⟩
 |[],_,_::_,_,_,e=>e.elim
 |_::_,_,[],_,_,e=>e.elim
theorem zU {post:List DOp} {d:EE} {L1:Fm} {g:A0} {R:PA->A0->Prop} (h:post.all nE=true):eS post d L1 g R:=λ_ _ _ _ _=>
 ⟨_,zS _ h,λ_ _ _ _ _ _ _ _ e=>zT h e⟩
theorem LW {F:D5} {pu:EH} {a d1 d2:Key} {D:List DOp} {d:Key} {L1:Fm} {g:A0} {R:PA->A0->Prop} {e:FE} {kb:Key} {o:Nat} {x:B4} (hD:D.all nE=true) (hda:d≠a) (hL:look L1 a=some e) (he:e.pa=.v (.s (.ptr kb o))) (hg:g.get kb=some x)
  (hw:wpOps F pu [⟨some d1,.op .Fb,[.t a],none⟩,⟨some d2,.op .lens,[.t d1],none⟩] (Jj L1 (some d) (.v .unit)) g λ_ _=>True) (hR:∀r g',R r g'->∃x',g'.get kb=some x'/\x'.log=x.log) :
  eS (⟨⟨some d1,.op .Fb,[.t a],none⟩,0⟩::⟨⟨some d2,.op .lens,[.t d1],none⟩,0⟩::D) (some d) L1 g R:=by
 intro s1 hs hsg fr1 hf;subst hsg;obtain⟨n,fr',h',Z',p',g',L',e1,_⟩:=Ox _ hw hs rfl (FRL.put (x:=.v .unit) hf Lc (some d));obtain⟨rfl,vs,q⟩:=aA (l:=[⟨⟨some d1,.op .Fb,[.t a],none⟩,0⟩,⟨⟨some d2,.op .lens,[.t d1],none⟩,0⟩]) rfl e1;obtain⟨v1,vs1,rfl,q1,q⟩:=Wn.cons q;obtain⟨v2,vs2,rfl,q2,_⟩:=Wn.cons q;obtain⟨u,hu1,hu2⟩:=hf a _ (by rw[Ha L1 a e hL,he]);obtain⟨z,rfl,b,hb,rfl⟩:=hu2.s;obtain⟨b',y,hy1,hy2,_⟩:=hs.blk kb x hg;rw[hb] at hy1;cases hy1;have ga:∀v,G7 (Fp fr1 (some d) v) [.t a]=some [.v (.s (.ptr b o))]:=λv=>by simp only[G7,VX.eval,Fp,Tr.D1];rw[Ao hda,hu1]
 have gl:∀(fr:Fr) v,G7 (Fp fr (some d1) v) [.t d1]=some [v]:=λfr v=>by simp only[G7,VX.eval,Fp,Tr.D1,Ak]
 have b5:=aB q1 rfl (ga .unit);have d5:=aB q2 rfl (gl _ _);refine⟨v1::v2::List.replicate D.length .unit,⟨λ_=>q1,⟨_,rfl,rfl⟩,λ_=>q2,⟨_,rfl,rfl⟩,zS _ hD⟩,?_⟩;rintro s2 v r ws frw hs2 hx hr hq;obtain⟨w1,ws1,rfl,p1,hq⟩:=Wn.cons hq;obtain⟨w2,ws2,rfl,p2,p3⟩:=Wn.cons hq;obtain⟨x',hx',hlog⟩:=hR r s2.g hr;obtain⟨new,l1,l2⟩:=hx.log kb x x' hg hx';have hnew:new=[]:=by rw[hlog] at l1;have:=Bh List.length l1;simp only[La] at this;exact Bm.1 Aa
 obtain⟨y',hy',hkeep⟩:=l2 b y hb hy2;have hbody:=(hkeep.same hnew).2;have hread:∀i m,s2.h.read b i m=s1.h.read b i m:=λi m=>by unfold Heap.read Heap.cells;rw[hy',hy2];obtain⟨b1,b2,b3⟩:=y;obtain⟨c1,c2,c3⟩:=y';simp only at hbody;subst hbody;cases c1<;>rfl
 have a5:=aB p1 rfl (ga v);have hv:w1=v1:=by
  simp only[VOp.run,Kk,hread] at a5 b5;split at a5;·next z hz=>rw[hz] at b5;cases a5;cases b5;rfl
  ·cases a5
 subst hv;have c5:=aB p2 rfl (gl _ _);have hv2:w2=v2:=by
  obtain⟨_,k2⟩:=Jb (o:=.lens) rfl c5;have:=k2 s1.h λb hb=>by cases hb
  rw[d5] at this;cases this;rfl
 subst hv2;have b6:VOp.Fb.run [.v (.s (.ptr b o))] s1.h=some (w1,s1.h):=b5;exact⟨p1,λ_=>⟨rfl,⟨_,_,rfl,rfl,rfl,ga v,b6⟩⟩,p2,λ_=>⟨rfl,⟨_,_,rfl,rfl,rfl,gl _ _,d5⟩⟩,zT hD p3⟩
def qS:Ff->Ez->Option (Nat×Ez)
 |.call f,az=>some (f,az)
 |.Kr,.v (.s (.func f fs cs))::az=>some (f,Y1 fs++az++Y1 cs)
 |_,_=>none
theorem zV {Z:ZM} {p:Ren} {a:Ff} {xs az:Ez} {f:Nat} (h:qS a xs=some (f,az)) {us:EA} (hu:A1 (AR Z p) xs us) (hp:Heap):(∀o,a≠.op o)/\a.kind=.effect/\∃vs,A1 (AR Z p) az vs/\a.run (Z6 f vs) us hp=some (.unit,hp):=by
 cases a with
 |op o=>cases h
 |call f'=>cases h;exact⟨λ_ h=>(by cases h),rfl,us,hu,Xz _ _ _⟩
 |Kr=>
  unfold qS at h;split at h;·next e=>cases e
  ·next f' fs cs az' e=>
   cases h;cases hu with
   |cons h1 h2=>obtain⟨z,rfl,fs',cs',rfl,h3,h4⟩:=h1.s;exact⟨λ_ h=>(by cases h),rfl,_,D0 (D0 (Ns h3) h2) (Ns h4),Xz _ _ _⟩
  ·cases h
theorem PX.open {P:Program} {F:D5} {pu:EH} {lo:Nat} {L:Fm} {g:A0} {I:List PIt} (pf:PF P F) {pre post:List DOp} {X:DOp} {Q:PQT} (hpre:pre.all Vc=true) (hpost:post.all Vc=true) (hgd:X.o.guard=none)
  (h:wpOps F pu (pre.map (·.o)) L g λL1 g1=>g1=g/\∃ys f az R,Qj L1 X.o.args=some ys/\qS X.o.act (ys.map FE.pa)=some (f,az)/\PXC P f az g R/\eS post X.o.dst L1 g R /\
   ∀r g',R r g'->Uw g' λg'=>wpOps F pu (post.map (·.o)) (Jj L1 X.o.dst (.v r)) g' λL2 g2=>g2=g'/\Q .normal L2 g2 I):PX P lo (.drawn (pre++X::post)) L g I Q:=by intro N c hc s0 s h0 hlo hs hex hg fr1 hf IV hI;subst hg;obtain⟨id,ops,rfl,hds⟩:=zP hc;obtain⟨n,fr2,h',Z1,p1,g1,L1,e1,k1,k2,k3,rfl,ys,f,az,R,k4,k5,k6,k7,k8⟩:=Ox _ h hs rfl hf;obtain⟨rfl,vp,q⟩:=aA hpre e1;obtain⟨us,f1,f2⟩:=vZ k3 k4;obtain⟨o1,o2,vs,o3,o4⟩:=zV k5 f2 s.h;obtain⟨v0,v1,v2⟩:=k7 ⟨Z1,p1,s.g,s.h⟩ k1 rfl fr2 k3;have x1:=hex.trans h0.toGu k2 hex.nx.1 hex.nx.2;refine MX.open pf.mix hds o2 o1 hgd q f1 o4 (k6 ⟨Z1,p1,s.g,s.h⟩ k1 rfl vs o3) v1 (K:=λfr' h'=>PQ s0 Q .normal fr' h' IV) ?_ λ_ _ k=>k;rintro v h1 ⟨Z2,p2,r,g2,m1,m2,m3,m4⟩;obtain⟨n2,fr3,h3,Z3,p3,g3,L3,e3,w1,w2,w3,rfl,w4⟩:=Ox _ (V8 (k8 r g2 m4)) m1 rfl (FRL.put (x:=.v r) (k3.mono m2.zle m2.ple) m3 X.o.dst);obtain⟨rfl,ws,q2⟩:=aA hpost e3;have x2:=x1.trans h0.toGu m2 x1.nx.1 x1.nx.2;exact⟨ws,fr3,v2 ⟨Z2,p2,_,_⟩ v r ws fr3 m1 m2 m4 q2,Z3,p3,_,L3,I,w1,x2.trans h0.toGu w2 x2.nx.1 x2.nx.2,w3,A9 hI λ_ _ hi=>((hi.mono k2.zle k2.ple).mono m2.zle m2.ple).mono w2.zle w2.ple,w4⟩
theorem PX.ZT (n:Nat) {P:Program} {F:D5} {pu:EH} {lo:Nat} {L:Fm} {g:A0} {I:List PIt} (pf:PF P F) {ds post:List DOp} {X:DOp} {Q:PQT} (hs:ds.drop n=X::post) (hpre:(ds.take n).all Vc=true) (hpost:post.all Vc=true) (hgd:X.o.guard=none)
  (h:wpOps F pu ((ds.take n).map (·.o)) L g λL1 g1=>g1=g/\∃ys f az R,Qj L1 X.o.args=some ys/\qS X.o.act (ys.map FE.pa)=some (f,az)/\PXC P f az g R/\eS post X.o.dst L1 g R /\
   ∀r g',R r g'->Uw g' λg'=>wpOps F pu (post.map (·.o)) (Jj L1 X.o.dst (.v r)) g' λL2 g2=>g2=g'/\Q .normal L2 g2 I):PX P lo (.drawn ds) L g I Q:=by
 have:=PX.open pf hpre hpost hgd h (lo:=lo)
 rwa [<-hs,Be] at this
end Go.Pv
end
section
noncomputable section
namespace Go.Pv
open Go.Vm Go.Vm.C
open Go.Vm.Key (kn)
set_option maxRecDepth 40000
set_option maxHeartbeats 0
def rpl (e:Nat) (v:PV):Et->Et
 |[]=>[(e,v)]
 |p::m=>if p.1=e then(e,v)::m else p::rpl e v m
theorem ZU (k:Nat) (v:PV):∀m:Et,aN (.one .int) (.s (.int .i64 (k:Nat))) (.s v) (mm m)=some (mm (rpl k v m))
 |[]=>rfl
 |p::m=>by
  show aN (.one .int) (.s (.int .i64 (k:Nat))) (.s v) ((.s (.int .i64 (p.1:Nat)),.s p.2)::mm m)=_;have he:S8 (.one .int) (.s (.int .i64 (k:Nat))) (.s (.int .i64 (p.1:Nat)))=some (decide (p.1=k)):=by have:S8 (.one .int) (.s (.int .i64 (k:Nat))) (.s (.int .i64 (p.1:Nat)))=some ((k:Int)==(p.1:Int)):=rfl;rw[this];congr 1;by_cases h:p.1=k<;>simp[h];omega
  rw[rpl,aN,he];by_cases hk:p.1=k;·simp[hk,mm]
  ·simp only[hk,decide_false,Ag];rw[ZU k v m];rfl
theorem ms_r {b:Key} {g:A0} {m:Et} {log:Es} {k:Nat} {v:PV} (hg:g.get b=some ⟨.map (mm m),true,false,[],log⟩) :
  opP (.K1 (.one .int)) [.v (.s (.map b)),.v (.s (.int .i64 (k:Nat))),.v (.s v)] g=some (.unit,g.upd b (some ⟨.map (mm (rpl k v m)),true,false,[],(0,0)::log⟩)):=by show Nh (.one .int) [.v (.s (.map b)),.v (.s (.int .i64 (k:Nat))),.v (.s v)] g=_;unfold Nh;simp only[hg,Io,ZU k v m];rfl
theorem qT {e j:Nat} {v:PV}:∀m:Et,fnd (rpl e v m) j=if j=e then some v else fnd m j
 |[]=>by simp only[rpl,fnd,eq_comm]
 |p::m=>by
  rw[rpl];by_cases h:p.1=e
  ·rw[Aj h];simp only[fnd,h];by_cases hj:j=e;·simp[hj]
   ·simp[hj,BL hj]
  ·rw[Ao h];simp only[fnd,qT m];by_cases hj:j=e;·simp[hj,h]
   ·simp[hj]
theorem wA {e:Nat} {v:PV}:∀{m:Et},(m.map (·.1)).Nodup->((rpl e v m).map (·.1)).Nodup/\∀k,k∈(rpl e v m).map (·.1)->k=e∨k∈m.map (·.1)
 |[],_=>by simp[rpl]
 |p::m,h=>by
  simp only[AG,CM] at h;obtain⟨h1,h2⟩:=wA (e:=e) (v:=v) h.2;rw[rpl];by_cases he:p.1=e;·rw[Aj he];simp only[AG,CM,<-he];exact⟨h,λk hk=>.inr hk⟩
  ·rw[Ao he];simp only[AG,CM,Af];refine⟨⟨λhm=>?_,h1⟩,λk hk=>?_⟩
   ·rcases h2 _ hm with h3|h3;·exact he h3
    ·exact h.1 h3
   ·rcases hk with hk|hk;·exact .inr (.inl hk)
    ·rcases h2 k hk with h3|h3;·exact .inl h3
     ·exact .inr (.inr h3)
structure B8 (m:Et) (C:Nat->Nat->Prop):Prop where
 keys:(m.map (·.1)).Nodup
 no:∀e,fnd m e=none->∀n,¬C e n
 so:∀e v,fnd m e=some v->∃n,A6 n v/\C e n/\∀n',C e n'->n<=n'
theorem B8.nil:B8 [] λ_ _=>False:=⟨.nil,λ_ _ _ h=>h,λ_ _ h=>Ad⟩
theorem B8.sub {m:Et} {C D:Nat->Nat->Prop} (h:B8 m D) (h1:∀e n,D e n->C e n) (h2:∀e n,C e n->∃n',D e n'/\n'<=n):B8 m C where
 keys:=h.keys
 no e he n hn:=by obtain⟨n',h3,_⟩:=h2 e n hn;exact h.no e he n' h3
 so e v he:=by obtain⟨n,a1,a2,a3⟩:=h.so e v he;refine⟨n,a1,h1 e n a2,λn' hn=>?_⟩;obtain⟨n2,b1,b2⟩:=h2 e n' hn;exact AQ (a3 n2 b1) b2
theorem B8.eq {m:Et} {C D:Nat->Nat->Prop} (h:B8 m D) (h1:∀e n,D e n↔C e n):B8 m C:=h.sub (λe n=>(h1 e n).1) λe n hn=>⟨n,(h1 e n).2 hn,Rl⟩
theorem B8.put {m:Et} {C:Nat->Nat->Prop} (h:B8 m C) {e n:Nat} {v:PV} (hv:A6 n v) (hn:∀w n',fnd m e=some w->A6 n' w->n<n'):B8 (rpl e v m) λj k=>C j k∨(j=e/\k=n) where
 keys:=(wA h.keys).1
 no j hj k hk:=by
  rw[qT] at hj;split at hj;·cases hj
  ·next hje=>rcases hk with hk|hk
             ·exact h.no j hj k hk
             ·exact hje hk.1
 so j w hj:=by
  rw[qT] at hj;split at hj
  ·next hje=>
   cases hj;subst hje;refine⟨n,hv,.inr ⟨rfl,rfl⟩,λn' hn'=>?_⟩;rcases hn' with hn'|hn'
   ·cases hf:fnd m j with
    |none=>exact absurd hn' (h.no j hf n')
    |some w=>obtain⟨n2,a1,a2,a3⟩:=h.so j w hf;have:=hn w n2 hf a1;have:=a3 n' hn';omega
   ·omega
  ·next hje=>
   obtain⟨n2,a1,a2,a3⟩:=h.so j w hj;refine⟨n2,a1,.inl a2,λn' hn'=>?_⟩;rcases hn' with hn'|hn';·exact a3 n' hn'
   ·exact absurd hn'.1 hje
theorem B8.Zf {m:Et} {C:Nat->Nat->Prop} (h:B8 m C) {e n n1:Nat} {w:PV} (hw:fnd m e=some w) (hw1:A6 n1 w) (hn:n1<=n) (hu:∀{a b:Nat} {x:PV},A6 a x->A6 b x->a=b):B8 m λj k=>C j k∨(j=e/\k=n) where
 keys:=h.keys
 no j hj k hk:=by
  rcases hk with hk|hk;·exact h.no j hj k hk
  ·rw[hk.1,hw] at hj;cases hj
 so j x hj:=by
  obtain⟨n2,a1,a2,a3⟩:=h.so j x hj;refine⟨n2,a1,.inl a2,λn' hn'=>?_⟩;rcases hn' with hn'|hn';·exact a3 n' hn'
  ·rw[hn'.1,hw] at hj;cases hj;have:=hu hw1 a1;omega
theorem A6.uniq {a b:Nat} {x:PV} (h:A6 a x) (h2:A6 b x):a=b:=by cases h<;>cases h2<;>first|rfl|omega
theorem B8.val {m:Et} {C:Nat->Nat->Prop} (h:B8 m C):∀p∈m,∃n,A6 n p.2:=λp hp=>by
 have:∀{m:Et},(m.map (·.1)).Nodup->∀p∈m,fnd m p.1=some p.2:=by
  intro m;induction m with
  |nil=>intro _ p hp;cases hp
  |cons q m ih=>
   intro hn p hp;simp only[AG,CM] at hn;rcases Af.1 hp with rfl|hp
   ·simp[fnd]
   ·rw[fnd,Ao λe=>hn.1 (by rw[e];exact Aw.2 ⟨p,hp,rfl⟩)];exact ih hn.2 p hp
 obtain⟨n,h1,_⟩:=h.so _ _ (this h.keys p hp);exact⟨n,h1⟩
theorem QZ {m:Et} (h:∀p∈m,A2 p.2) (ρ:EC):RnB ρ (.map (mm m)) (.map (mm m)):=by
 show A1 _ (mm m) (mm m);induction m with
 |nil=>exact .nil
 |cons p m ih=>exact .cons ⟨rfl,(h p (.head _)).rn⟩ (ih λq hq=>h q (.tail _ hq))
theorem B8.blk {m:Et} {C:Nat->Nat->Prop} (h:B8 m C) {ρ:EC} {K:A0} {log log':Es}:Ku ρ K ⟨.map (mm m),true,false,[],log⟩ ⟨.map (mm m),true,false,[],log'⟩:=
 ⟨QZ (λp hp=>by obtain⟨n,hn⟩:=h.val p hp;exact hn.nk) ρ,λ_=>⟨rfl,.inl .nil⟩,rfl⟩
theorem RA {m:Et} {D:Nat->Nat->Prop} (hm:B8 m D) {e n:Nat} {v:PV} (hv:A6 n v):XC Fn 61 [.v (.s (.map k0)),iA e,.v (.s v)] (mkH [(k0,mpB m [])] k1) λr g=>r=.unit/\∃m' l,g.get k0=some (mpB m' l)/\B8 m' λj k=>D j k∨(j=e/\k=n):=by
 have hl:=λ(g:A0) (l:Es) (hg:g.get k0=some (mpB m l))=>lk_m (k:=e) hg;have vnk:=hv.nk;have fv:=hv.flat;refine Ek pt C.f61 rfl ?_;refine Yw1 ?_;refine⟨_,_,hl _ _ rfl,?_⟩;cases hf:fnd m e with
 |none=>refine Yw1 ?_;refine⟨_,_,ms_r rfl,?_⟩;refine Yw1 ?_;exact⟨rfl,_,_,rfl,hm.put hv λw n' h=>by rw[hf] at h;cases h⟩
 |some w=>
  obtain⟨n1,hw,_,_⟩:=hm.so e w hf;have fw:=hw.flat;have hc:=Xr hv hw;refine Yw2 (λh=>?_) (λh=>?_);·have hlt:n<n1:=Mr h;refine⟨_,_,ms_r rfl,?_⟩;refine Yw1 ?_;exact⟨rfl,_,_,rfl,hm.put hv λx n' hx hn'=>by rw[hf] at hx;cases hx;rw[<-hw.uniq hn'];exact hlt⟩
  ·have hle:n1<=n:=Ln h;exact⟨rfl,_,_,rfl,hm.Zf hf hw hle A6.uniq⟩
end Go.Pv
end
section
noncomputable section
namespace Go.Pv
open Go.Vm
open Go.Vm.Key (kn)
set_option maxRecDepth 40000
set_option maxHeartbeats 0
theorem HR {args:EA} {h:Heap}:Fh Fn noO (exec Fn noO 0) 40 args h=Un args h:=rfl
theorem wB {s:SV} {i:Int} {b2:Key} {c2:Option Nat} {h:Heap}:Un [.v (.s s),.v (.s (.int .i64 i)),.v (.s (.slice b2 0 1 3 c2))] h=if 0<=i then yM s i (.v (.s (.slice b2 0 1 3 c2))) b2 h else none:=by simp only[Un]
theorem HS {b:Key} {n:Nat} {i:Int} {x:AV} {b2:Key} {h:Heap}:yM (.slice b 0 n 3 none) i x b2 h=if i=n then(VOp.append 3 56).run [.v (.s (.slice b 0 n 3 none)),x] h else oY b n i.toNat b2 h:=by simp only[yM]
theorem eT {x v:PA} {i:Nat} {kv:Key} {c2:Option Nat} {g g':A0} (hx:(x=.v (.s .A4)/\i=0)∨∃kb,x=.v (.s (.slice kb 0 i 3 none))) (e:opP (.append 3 56) [x,.v (.s (.slice kv 0 1 3 c2))] g=some (v,g')) :
  XC Fn 40 [x,iA i,.v (.s (.slice kv 0 1 3 c2))] g λr g1=>r=v/\g1=g':=by
 intro s hs hsg vs ha;subst hsg;obtain _|⟨h0,ha⟩:=ha
 obtain _|⟨h1,ha⟩:=ha;obtain _|⟨h2,ha⟩:=ha;cases ha;obtain⟨u,h',p',k1,k2,k3,k4⟩:=yL (.append 3 56) s hs _ _ _ _ (.cons h0 (.cons h2 .nil)) e;obtain⟨_,rfl,h1⟩:=h1.s;obtain⟨_,rfl,b2,hp2,rfl⟩:=h2.s;have h1:A8 s.Z (.int .i64 (i:Nat)) _:=h1;cases h1;refine⟨0,u,h',s.Z,p',v,g',?_,k2,k3,k4,rfl,rfl⟩;rw[HR];rcases hx with⟨rfl,rfl⟩|⟨kb,rfl⟩;·obtain⟨_,rfl,h0⟩:=h0.s;have h0:A8 s.Z .A4 _:=h0;cases h0;exact k1
 ·obtain⟨_,rfl,b,hp,rfl⟩:=h0.s;rw[wB,Aj Aa,HS,Aj rfl];exact k1
theorem nF {g:A0} {k:Key} {c:Ey} {own frz:Bool} {anc:ED} {log:Es} (hg:g.get k=some ⟨.cells c,own,frz,anc,log⟩) {o n:Nat} (h:o+n=c.length) (hn:n≠0):g.read k o n=some (c.drop o):=by unfold A0.read A0.cells;rw[Ao hn,hg];simp only;rw[Aj Aa,Cb (by rw[Cr];omega)]
theorem aD {g g':A0} {kb kv:Key} {n i:Nat} {cc vv:Ey} {frz frz2:Bool} {anc anc2:ED} {log log2:Es} {c2:Option Nat} (hg:g.get kb=some ⟨.cells cc,true,frz,anc,log⟩) (hl:cc.length=n*3) (hg2:g.get kv=some ⟨.cells vv,true,frz2,anc2,log2⟩) (hv:vv.length=3) (hne:kb≠kv)
  (hgr:g.grow kb 0 (i*3) (vv++cc.drop (i*3))=some (g.next,g')) (hi:i<n) (hn:n<=1000) :
  XC Fn 40 [.v (.s (.slice kb 0 n 3 none)),iA i,.v (.s (.slice kv 0 1 3 c2))] g λr g1=>r=.v (.s (.slice g.next 0 (n+1) 3 none))/\g1=g':=by
 intro s hs hsg vs ha;subst hsg;obtain _|⟨h0,ha⟩:=ha
 obtain _|⟨h1,ha⟩:=ha;obtain _|⟨h2,ha⟩:=ha;cases ha;obtain⟨_,rfl,b,hp,rfl⟩:=h0.s;obtain⟨_,rfl,h1⟩:=h1.s;obtain⟨_,rfl,b2,hp2,rfl⟩:=h2.s;have h1:A8 s.Z (.int .i64 (i:Nat)) _:=h1;cases h1;obtain⟨vls,hr2,hvr⟩:=Ov hs.toGu hp2 (nF hg2 (o:=0) (n:=3) Aa Ab);obtain⟨tl,hrt,htr⟩:=Ov hs.toGu hp (nF hg (o:=i*3) (n:=(n-i)*3) Aa Aa);obtain⟨h',p',hgr',e1,k1,k2,k3⟩:=uM hs hp (D0 hvr htr) hgr;obtain⟨⟨body2,own2,anc2'⟩,c2',z1,z2,z3,_⟩:=hs.cells hp2 hg2 rfl;have ho2:=(z2.own rfl).1;simp only at z3 ho2;subst z3 ho2;refine⟨0,_,h',s.Z,p',.v (.s (.slice s.g.next 0 (n+1) 3 none)),g',?_,k1,k2,AR.mkS (x:=.slice s.g.next 0 (n+1) 3 none) (z:=.slice s.h.next 0 (n+1) 3 none) ⟨s.h.next,k3,rfl⟩,rfl,rfl⟩;rw[HR];rw[wB,Aj Aa,HS,Ao Aa];unfold oY;rw[Aj ⟨Aa,hn,λe=>hne (hs.inj _ _ b hp (e▸hp2))⟩];simp only[z1,hr2,Bj,hrt,hgr']
end Go.Pv
end
section
noncomputable section
namespace Go.Pv
open Go.Vm Go.Vm.C
open Go.Vm.Key (kn)
set_option maxRecDepth 40000
set_option maxHeartbeats 0
def px (n:Nat):Bool:=pu n||Sp [34,33,97,98,36,41,44,46] n
def nrw (c d s:Nat):Nat:=if d.testBit c then s &&& d else s &&& (15-d)
def dAT (d:Nat):PA:=.tup [.agg (dC d),.s (.int .i64 (0:Nat))]
structure lL (c d s:Nat):Prop where
 lt:d<16
 h:A3 Fn 59 [dA d,cA c] (bA (d.testBit c))
 n:A3 Fn 97 [dA d] (dAT (15-d))
 i:A3 Fn 54 [dA d,cA c] (bA (d.testBit c))
 p:A3 Fn 98 [dA s,dA (if d.testBit c then d else 15-d)] (dAT (nrw c d s))
 r:d.testBit c=true->A3 Fn 106 [dA s,dA d] (dA (nrw c d s))
 m:d.testBit c=false->A3 Fn 46 [dA s,dA d] (dA (nrw c d s))
theorem nG {c d s:Nat} (h:lL c d s):XC Fn 96 [dA d,.v (.s (.ptr k0 0)),.v (.s (.ptr k1 0)),.v (.s (.ptr k2 0))] (mkH [(k0,ob [.int .u64 (c:Nat)]),(k1,ob (dC s)),(k2,ob [.int .i64 (0:Nat)])] k3) λr g=>
  r=bA (d.testBit c)/\g.get k0=some (ob [.int .u64 (c:Nat)])/\g.get k1=some (obl (dC (nrw c d s)) [(0,2)])/\g.get k2=some (ob [.int .i64 (0:Nat)]):=by
 have hd:=h.h;have hn:=h.n;have hp:=h.p;generalize nrw c d s=q at hp ⊢;refine Ek px C.f96 rfl ?_;cases hb:d.testBit c;·rw[hb] at hd hp;simp only[Fj,Ag] at hp;refine Yw1 ?_;exact⟨rfl,rfl,rfl,rfl⟩
 ·rw[hb] at hd hp;simp only[Ak] at hp;refine Yw1 ?_;exact⟨rfl,rfl,rfl,rfl⟩
def sF (c:Nat) (l:Es) (s:Nat):Nat:=l.foldl (λs r=>nrw c r.2 s) s
def qF (c:Nat) (l:Es):EF:=(l.filter λr=>r.2.testBit c).map (·.1)
def kC (l:EF):Ey:=l.map λk=>.int .i64 (k:Nat)
theorem HT (c:Nat) (l:Es) (r:Nat×Nat) (s:Nat):sF c (l++[r]) s=nrw c r.2 (sF c l s):=by simp[sF]
theorem HU (c:Nat) (l:Es) (r:Nat×Nat):qF c (l++[r])=qF c l++if r.2.testBit c then[r.1] else[]:=by simp only[qF,List.filter_append,Cm];cases h:r.2.testBit c<;>simp[h]
theorem zW (c:Nat) (l:Es):(qF c l).length<=l.length:=by rw[qF,Lm];exact DD _ _
theorem jO (l:EF):(kC l).length=l.length:=Lm ..
theorem Rf {l:EF}:∀v∈kC l,A2 v:=λv h=>by obtain⟨k,_,rfl⟩:=Aw.1 h;exact Ae
theorem jP (l m:EF):kC (l++m)=kC l++kC m:=Cm ..
theorem AcD {g:A0} {b:Key} {c:Ey} {frz:Bool} {anc:ED} {log:Es} {o n es by' k:Nat} {x:PV} {new:Ey} (hg:g.get b=some ⟨.cells c,true,frz,anc,log⟩) (hc:c.length=o+n*es) (hx:Yv g es x=some (new,k)) (hk:k≠0) (hr:2*(n+k)*by'<=281474976710656) :
  opP (.append es by') [.v (.s (.slice b o n es none)),.v (.s x)] g=some (.v (.s (.slice g.next 0 (n+k) es none)),(g.upd b (some ⟨.cells c,false,frz,anc,log⟩)).Fu (.cells (c.drop o++new)) true (b::anc)):=by
 have h1:room (n+k) by'=true:=BT hr;have h2:g.grow b o (n*es) new=some (g.next,(g.upd b (some ⟨.cells c,false,frz,anc,log⟩)).Fu (.cells (c.drop o++new)) true (b::anc)):=by unfold A0.grow;rw[hg];simp only[A0.copied,hc,Rm,Ak];rw[Cb (by rw[Cr];omega)]
 show Hu es by' [.v (.s (.slice b o n es none)),.v (.s x)] g=_;simp only[Hu,hx,Ng,Ak,hk,Ag,h1,h2]
abbrev vM (vis:EF):Et:=vis.map λk=>(k,.bool true)
theorem Abg {g:A0} {b:Key} {o n:Nat}:opP (.slice (.slice 1) true false false) [.v (.s (.slice b o (n+1) 1 none)),.v (.s (.int .i64 ((1:Nat):Int)))] g=some (.v (.s (.slice b (o+1) n 1 none)),g):=by have h1:(1:Int)<=(n:Int)+1:=Aa;simp[opP,aO,NA,xO,Hv,Lx,bounds,Rs,bnd,K4,h1]
theorem lk_v {g:A0} {b:Key} {m:Et} {own frz:Bool} {anc:ED} {log:Es} {k:Nat} (hg:g.get b=some ⟨.map (mm m),own,frz,anc,log⟩) :
  opP (.lookup (.one .int) (.s (.bool false)) false) [.v (.s (.map b)),.v (.s (.int .i64 (k:Nat)))] g=some (.v (.s ((fnd m k).getD (.bool false))),g):=by show Ik (.one .int) (.s (.bool false)) false [.v (.s (.map b)),.v (.s (.int .i64 (k:Nat)))] g=_;unfold Ik;simp only[lF,Rr,hg,Io,qL];cases fnd m k<;>rfl
theorem Abh (vis:EF) (x:Nat):fnd (vM vis) x=if x∈vis then some (.bool true) else none:=by
 induction vis with
 |nil=>rfl
 |cons y l ih=>
  show(if y=x then some (.bool true) else fnd (vM l) x)=_;rw[ih];by_cases h:y=x;·simp[h]
  ·simp[h,BL h]
theorem dJ (vis:EF):∀p∈vM vis,A2 p.2:=λp h=>by obtain⟨k,_,rfl⟩:=Aw.1 h;exact Ae
abbrev alL (f:Fo) (c s:Nat) (vis:Et) (l2 l4 l5:Es):List (Key×B4):=[(k0,fzb [.lst 5 (f.ns.map nV) none,.lst 3 (f.rs.map rV) none]),(k1,ob [.int .u64 (c:Nat)]),(k2,obl (dC s) l2),(k3,ob [.A4,.int .i64 (0:Nat)]),(k4,obl [.int .i64 (0:Nat)] l4),(k5,mpB vis l5)]
def qX:EF->PV
 |[]=>.A4
 |k::l=>.slice k6 0 (l.length+1) 1 none
def qB:EF->List (Key×B4)
 |[]=>[]
 |k::l=>[(k6,wld (kC (k::l)) k0)]
def qN:EF->Key
 |[]=>k6
 |_::_=>k7
abbrev alQ:Ew:=[(k0,k0),(k1,k1),(k2,k2),(k3,k3),(k4,k4),(k5,k5)]
abbrev alI (f:Fo) (x:PV) (i:Nat):Fm:=[pE k3 k0,pE k5 k2,pE k6 k3,pE k8 k4,sE k9 (.func 96 [] [(k1,0),(k2,0),(k4,0)]),sE k10 (.map k5),sE k11 x,(k22,.v (PA.lst 3 (f.rs.map rV))),(k23,.v (iA (f.rs.map rV).length)),(k24,.v (iA i))]
theorem HV {lo:Nat} {L1 L2:Fm} {f:Fo} {c s:Nat} {vis:Et} {lb l1 l2 l3 l4 l5:Es} {g:A0} (hlo:lo=0) (hv:∀p∈vis,A2 p.2) (e0:g.get k0=some ⟨.cells [.lst 5 (f.ns.map nV) none,.lst 3 (f.rs.map rV) none],true,true,[],lb⟩) (e1:g.get k1=some (obl [.int .u64 (c:Nat)] l1)) (e2:g.get k2=some (obl (dC s) l2)) (e3:g.get k3=some (obl [.A4,.int .i64 (0:Nat)] l3)) (e4:g.get k4=some (obl [.int .i64 (0:Nat)] l4)) (e5:g.get k5=some (mpB vis l5)) (hf:Jz (rho lo alQ) L1 L2) :
  Trim lo (rho lo alQ) L1 g L2 (mkH (alL f c s vis [] [] []) k6):=by subst hlo;exact Em (alL f c s vis [] [] []) k6 alQ ⟨⟨_,_,rfl,e0,(Er Ys)⟩,⟨_,_,rfl,e1,.same Yc⟩,⟨_,_,rfl,e2,.same Yc⟩,⟨_,_,rfl,e3,.same Yc⟩,⟨_,_,rfl,e4,.same Yc⟩,⟨_,_,rfl,e5,⟨QZ hv _,λ_=>⟨rfl,.inl .nil⟩,rfl⟩⟩,Ae⟩ hf
theorem Kj {lo:Nat} {L1 L2:Fm} {f:Fo} {c s:Nat} {vis:Et} {lb l1 l2 l3 l4 l5 lx:Es} {ax:ED} {cs:Ey} {g:A0} (kx:Key) (hlo:lo=0) (hv:∀p∈vis,A2 p.2) (hcs:∀v∈cs,A2 v) (e0:g.get k0=some ⟨.cells [.lst 5 (f.ns.map nV) none,.lst 3 (f.rs.map rV) none],true,true,[],lb⟩) (e1:g.get k1=some (obl [.int .u64 (c:Nat)] l1)) (e2:g.get k2=some (obl (dC s) l2)) (e3:g.get k3=some (obl [.A4,.int .i64 (0:Nat)] l3)) (e4:g.get k4=some (obl [.int .i64 (0:Nat)] l4)) (e5:g.get k5=some (mpB vis l5)) (ex:g.get kx=some ⟨.cells cs,true,false,ax,lx⟩) (hn:Gk lo k7.toNat (alL f c s vis [] [] []++[(k6,wld cs k0)]) (alQ++[(k6,kx)]) [] []=true) (hf:Jz (rho lo (alQ++[(k6,kx)])) L1 L2) :
  Trim lo (rho lo (alQ++[(k6,kx)])) L1 g L2 (mkH (alL f c s vis [] [] []++[(k6,wld cs k0)]) k7):=by
 subst hlo;exact Trim.of (l:=alL f c s vis [] [] []++[(k6,wld cs k0)]) (nx:=k7) (alQ++[(k6,kx)]) hn Zl Ae ⟨⟨_,_,rfl,e0,(Er Ys)⟩,⟨_,_,rfl,e1,.same Yc⟩,⟨_,_,rfl,e2,.same Yc⟩,⟨_,_,rfl,e3,.same Yc⟩,⟨_,_,rfl,e4,.same Yc⟩,⟨_,_,rfl,e5,⟨QZ hv _,λ_=>⟨rfl,.inl .nil⟩,rfl⟩⟩,
  ⟨_,_,rfl,ex,⟨A2.cells hcs,λ_=>⟨rfl,.inr ⟨_,_,_,.head _,rfl,e0,rfl⟩⟩,rfl⟩⟩,Ae⟩ hf
abbrev nwL (c s:Nat):List (Key×B4):=[(k0,ob [.int .u64 (c:Nat)]),(k1,ob (dC s)),(k2,ob [.int .i64 (0:Nat)])]
abbrev nwR:Ew:=[(k0,k1),(k1,k2),(k2,k4)]
abbrev nwX (c s:Nat) (l1 l2 l4:Es):List (Option B4):=[some (obl [.int .u64 (c:Nat)] l1),some (obl (dC s) l2),some (obl [.int .i64 (0:Nat)] l4)]
abbrev bfH (f:Fo) (c s:Nat) (pre q vis:EF):A0:=mkH (alL f c s (vM vis) [] [] []++[(k6,wld (kC (pre++q)) k0)]) k7
abbrev bfI (o n:Nat):Fm:=[pE k3 k0,pE k5 k2,pE k6 k3,pE k8 k4,sE k9 (.func 96 [] [(k1,0),(k2,0),(k4,0)]),sE k10 (.map k5),sE k11 (.slice k6 o n 1 none)]
abbrev bfJ (n:Nd) (o l j:Nat):Fm:=(k60,.v (PA.lst 4 (n.az.map aV)))::(k61,.v (iA (n.az.map aV).length))::(k62,.v (iA j))::bfI o l
abbrev bqK (n:Nd) (ks:EF) (o l j t:Nat):Fm:=(k72,.v (PA.lst 4 (ks.map kV)))::(k73,.v (iA (ks.map kV).length))::(k74,.v (iA t))::bfJ n o l j
theorem RB {f:Fo} {c s:Nat} (w:WF0 f) (v:WF f) (hA:qF c f.rs≠[]->∀(i:Nat) (n:Nd),f.ns[i]?=some n->∀a∈n.az,lL c a.d (sF c f.rs s)/\nrw c a.d (sF c f.rs s)=sF c f.rs s) (hN:∀i r,f.rs[i]?=some r->lL c r.2 (sF c (f.rs.take i) s)):XC Fn 35 [foA f,cA c,dA s] (mkH [] k0) λr _=>r=dAT (sF c f.rs s):=by
 have hrlen:(f.rs.map rV).length=f.rs.length:=Lm ..;have hlen:(f.ns.map nV).length=f.ns.length:=Lm ..;have hL:=w.len;have rL:=w.Nl;rw[E4 w.n0 w.r0];refine Ek px C.f35 rfl ?_;refine Yw1 ?_;refine XW.Mq k0 Zl rfl rfl ?_;refine XW.B6 (pu:=px) (σ:=Nat) (λi=>f.rs.length-i) (λi=>alI f (qX (qF c (f.rs.take i))) i)
  (λi g=>i<=f.rs.length/\g=mkH (alL f c (sF c (f.rs.take i) s) [] [] [] []++qB (qF c (f.rs.take i))) (qN (qF c (f.rs.take i)))) 0
  (HV rfl Ac rfl rfl rfl rfl rfl rfl Yf) ⟨Zl,rfl⟩ ?_
 rintro i g ⟨hi,rfl⟩;replace hi:i<=f.rs.length:=hi;refine⟨λh=>?_,λh=>?_⟩
 ·have hi:i<f.rs.length:=by have:=B0 h;omega
  have hr:f.rs[i]?=some f.rs[i]:=Gg hi;have htk:f.rs.take (i+1)=f.rs.take i++[f.rs[i]]:=An hi;generalize f.rs[i]=r at hr htk;have hgr:=Je hr;obtain⟨r1,r2,r3⟩:=w.rt i r hr;have hq:=HU c (f.rs.take i) r;have hql:=zW c (f.rs.take i);rw[Ba] at hql;have hs:=HT c (f.rs.take i) r s;have hw:=nG (hN i r hr);rw[<-htk] at hq hs;rw[<-hs] at hw;rw[r1] at hgr hq;generalize qF c (f.rs.take i)=q at *;generalize sF c (f.rs.take i) s=s1 at *;rcases q with _|⟨q0,q⟩
  ·refine Yw1 ?_;refine En (nwL c s1) k3 nwR hw Yb Ya ?_;rintro rc gc' ⟨rfl,e0,e1,e2⟩;refine⟨[],k7,nwX c (sF c (f.rs.take (i+1)) s) [] [(0,2)] [],[],bA (r.2.testBit c),rfl,Rl,⟨⟨_,_,_,e0,.same Yc,rfl,rfl,rfl,rfl⟩,⟨_,_,_,e1,.same Yc,rfl,rfl,rfl,rfl⟩,⟨_,_,_,e2,.same Yc,rfl,rfl,rfl,rfl⟩,Ae⟩,Ae,rfl,?_⟩;clear e0 e1 e2;cases hb:r.2.testBit c;·rw[hb] at hq;simp only[Fj,Ag,Ay] at hq;refine Yw1 ?_;refine⟨i+1,rho 0 alQ,mkH (alL f c (sF c (f.rs.take (i+1)) s) [] [] [] []) k6,Lq,?_,hi,by rw[hq];rfl⟩;show Trim _ _ _ _ (alI f (qX (qF c (f.rs.take (i+1)))) (i+1)) _;rw[hq];exact HV rfl Ac rfl rfl rfl rfl rfl rfl Yf
   ·rw[hb] at hq;simp only[Ak,Bw] at hq;refine Yw1 ?_;refine⟨i+1,rho 0 (alQ++[(k6,k8)]),mkH (alL f c (sF c (f.rs.take (i+1)) s) [] [] [] []++[(k6,wld (kC [i]) k0)]) k7,Lq,?_,hi,by rw[hq];rfl⟩;show Trim _ _ _ _ (alI f (qX (qF c (f.rs.take (i+1)))) (i+1)) _;rw[hq];exact Kj k8 rfl Ac Rf rfl rfl rfl rfl rfl rfl rfl rfl Yf
  ·refine Yw1 ?_;refine En (nwL c s1) k3 nwR hw Yb Ya ?_;rintro rc gc' ⟨rfl,e0,e1,e2⟩;refine⟨[],k8,nwX c (sF c (f.rs.take (i+1)) s) [] [(0,2)] [],[],bA (r.2.testBit c),rfl,Rl,⟨⟨_,_,_,e0,.same Yc,rfl,rfl,rfl,rfl⟩,⟨_,_,_,e1,.same Yc,rfl,rfl,rfl,rfl⟩,⟨_,_,_,e2,.same Yc,rfl,rfl,rfl,rfl⟩,Ae⟩,Ae,rfl,?_⟩;clear e0 e1 e2;cases hb:r.2.testBit c;·rw[hb] at hq;simp only[Fj,Ag,Ay] at hq;refine Yw1 ?_;refine⟨i+1,rho 0 (alQ++[(k6,k6)]),mkH (alL f c (sF c (f.rs.take (i+1)) s) [] [] [] []++[(k6,wld (kC (q0::q)) k0)]) k7,Lq,?_,hi,by rw[hq];rfl⟩;show Trim _ _ _ _ (alI f (qX (qF c (f.rs.take (i+1)))) (i+1)) _;rw[hq];exact Kj k6 rfl Ac Rf rfl rfl rfl rfl rfl rfl rfl rfl Yf
   ·rw[hb] at hq;simp only[Ak,AH] at hq;refine Yw1 ?_;refine⟨_,_,jB (c:=kC (q0::q)) (n:=q.length+1) rfl (by rw[jO,CS];rfl) rfl Ab (by simp only[Ap] at hql;omega),?_⟩;refine Yw1 ?_;refine⟨i+1,rho 0 (alQ++[(k6,k9)]),mkH (alL f c (sF c (f.rs.take (i+1)) s) [] [] [] []++[(k6,wld (kC (q0::(q++[i]))) k0)]) k7,Lq,?_,hi,by rw[hq];rfl⟩;show Trim _ _ _ _ (alI f (qX (qF c (f.rs.take (i+1)))) (i+1)) _;rw[hq];have hcc:kC (q0::(q++[i]))=kC (q0::q)++[.int .i64 (i:Nat)]:=by rw[<-AH,jP];rfl
    rw[hcc];rw[show qX (q0::(q++[i]))=.slice k6 0 (q.length+1+1) 1 none from by simp[qX]];exact Kj k9 rfl Ac (by rw[<-hcc];exact Rf) rfl rfl rfl rfl rfl rfl rfl rfl Yf
 ·have hfull:f.rs.take i=f.rs:=by rw[show i=f.rs.length from by have:=B5 h;omega];exact AB
  rw[hfull];clear hN hfull;have hqb:∀x∈qF c f.rs,x<f.ns.length:=λx hx=>by obtain⟨r,hr,rfl⟩:=Aw.1 hx;obtain⟨j,hj⟩:=BP.1 ((Co.1 hr).1);obtain⟨r1,_⟩:=w.rt j r hj;have:=(Gi.1 hj).1;omega
  have hql:=zW c f.rs;generalize hs1:sF c f.rs s=s1 at *;rcases hq0:qF c f.rs with _|⟨q0,q⟩
  ·refine Yz px ?_;rfl
  ·have hA:=hA (by rw[hq0];simp);rw[hq0] at hqb hql;clear hq0;refine Yw1 ?_;refine XW.B6 (pu:=px) (σ:=EF×EF×EF) (λp=>p.2.1.length+7*(f.ns.length-p.2.2.length)) (λp=>bfI p.1.length p.2.1.length)
    (λp g=>(∀x∈p.2.1,x<f.ns.length)/\p.2.2.Nodup/\(∀x∈p.2.2,x<f.ns.length)/\p.2.1.length<=4+6*p.2.2.length/\g=bfH f c s1 p.1 p.2.1 p.2.2) ([],q0::q,[])
    (Kj k6 rfl Ac Rf rfl rfl rfl rfl rfl rfl rfl rfl Yf) ⟨hqb,Ac,Ac,(by show(q0::q).length<=4+6*0;omega),rfl⟩ ?_
   clear hqb hql;rintro⟨pre,q,vis⟩ g ⟨hqb,hnd,hvb,hql,rfl⟩;replace hqb:∀x∈q,x<f.ns.length:=hqb;replace hql:q.length<=4+6*vis.length:=hql;rcases q with _|⟨x,q⟩
   ·dsimp only;refine Ywa ?_;rfl
   ·have hx:=hqb x (.head _);dsimp only;refine Yw2 (λh=>?_) (λh=>?_);case refine_2=>exact absurd h Ac
    refine Yw1 ?_;refine⟨_,_,ld1 (c:=kC (pre++x::q)) (x:=.int .i64 (x:Nat)) rfl (by simp[kC]),?_⟩;refine Yw1 ?_;refine⟨_,_,Abg,?_⟩;refine Yw1 ?_;have hf:=Abh vis x;by_cases hxv:x∈vis;·rw[Aj hxv] at hf;refine⟨_,_,(lk_v rfl).trans (by rw[hf]),?_⟩;refine Ywa ?_;refine⟨(pre++[x],q,vis),rho 0 (alQ++[(k6,k6)]),bfH f c s1 (pre++[x]) q vis,(by show q.length+_<(x::q).length+_;simp only[Ap];omega),?_,λy hy=>hqb y (.tail _ hy),hnd,hvb,(by show q.length<=4+6*vis.length;simp only[Ap] at hql;omega),rfl⟩;show Trim _ _ _ _ (bfI (pre++[x]).length q.length) _;rw[show(pre++[x]).length=pre.length+1 from Ac];unfold bfH;rw[show pre++[x]++q=pre++x::q from Ac];exact Kj k6 rfl (dJ _) Rf rfl rfl rfl rfl rfl rfl rfl rfl Yf
    ·rw[Ao hxv] at hf;refine⟨_,_,(lk_v rfl).trans (by rw[hf]),?_⟩;have hn:f.ns[x]?=some f.ns[x]:=Gg hx;generalize f.ns[x]=n at hn;have hg:=I6 hn;rw[J2 (v.as0 x n hn)] at hg;have haz:=w.Kw x n hn;have hal:=w.al x n hn;have hA:=hA x n hn;have hvn:vis.length+1<=f.ns.length:=by
      have:=Hc f.ns.length (x::vis) (CM.2 ⟨hxv,hnd⟩) λy hy=>by
       rcases Af.1 hy with rfl|hy;·exact hx
       ·exact hvb y hy
      simpa using this
     have nlen:(n.az.map aV).length=n.az.length:=Lm ..;refine Ywa ?_;refine⟨_,_,ms_m rfl hf,?_⟩;refine Ywa ?_;have hq0:q.length<=3+6*vis.length:=by simp only[Ap] at hql;omega
     have hqb0:∀y∈q,y<f.ns.length:=λy hy=>hqb y (.tail _ hy);clear hqb hql hf;refine XW.B6 (pu:=px) (σ:=Nat×EF×EF) (λp=>n.az.length-p.1) (λp=>bfJ n p.2.1.length p.2.2.length p.1)
      (λp g=>p.1<=n.az.length/\(∀y∈p.2.2,y<f.ns.length)/\p.2.2.length<=q.length+2*p.1/\g=bfH f c s1 p.2.1 p.2.2 (vis++[x])) (0,pre++[x],q)
      (ρ:=rho 0 (alQ++[(k6,k6)])) (g0:=bfH f c s1 (pre++[x]) q (vis++[x])) ?_ ⟨Zl,hqb0,Rl,rfl⟩ ?_
     ·show Trim _ _ _ _ (bfJ n (pre++[x]).length q.length 0) _;rw[show(pre++[x]).length=pre.length+1 from Ac];unfold bfH;rw[show pre++[x]++q=pre++x::q from Ac,show vM (vis++[x])=vM vis++[(x,.bool true)] from by simp[vM]];exact Kj k6 rfl (λp hp=>by rcases Av.1 hp with hp|hp;exact dJ _ p hp;rw[Ar] at hp;subst hp;trivial) Rf rfl rfl rfl rfl rfl rfl rfl rfl Yf
     rintro⟨j,pre2,q2⟩ g ⟨hj,hqb2,hql2,rfl⟩;replace hj:j<=n.az.length:=hj;replace hqb2:∀y∈q2,y<f.ns.length:=hqb2;replace hql2:q2.length<=q.length+2*j:=hql2;refine⟨λh=>?_,λh=>?_⟩
     ·have hj:j<n.az.length:=by have:=B0 h;omega
      have ha:n.az[j]?=some n.az[j]:=Gg hj;have hin:=AU hj;generalize n.az[j]=a at ha hin;have hga:(n.az.map aV)[(j:Int).toNat]?=some [.int .i64 a.p,ksV a.ks,dN a.d,.int .i64 (dR a.d)]:=Ii ha;generalize hkv:ksV a.ks=kv at hga;obtain⟨a1,a2,a3,_,_⟩:=hal a hin;obtain⟨hw,hw2⟩:=hA a hin;replace hw:=nG hw;rw[hw2] at hw;dsimp only;refine Yw1 ?_;refine En (nwL c s1) k3 nwR hw Yb Ya ?_;rintro rc gc' ⟨rfl,e0,e1,e2⟩;refine⟨[],k8,nwX c s1 [] [(0,2)] [],[],bA (a.d.testBit c),rfl,Rl,⟨⟨_,_,_,e0,.same Yc,rfl,rfl,rfl,rfl⟩,⟨_,_,_,e1,.same Yc,rfl,rfl,rfl,rfl⟩,⟨_,_,_,e2,.same Yc,rfl,rfl,rfl,rfl⟩,Ae⟩,Ae,rfl,?_⟩;clear e0 e1 e2;cases hb:a.d.testBit c;·refine Ywa ?_;exact⟨(j+1,pre2,q2),rho 0 (alQ++[(k6,k6)]),bfH f c s1 pre2 q2 (vis++[x]),Lq,Kj k6 rfl (dJ _) Rf rfl rfl rfl rfl rfl rfl rfl rfl Yf,hj,hqb2,(by show q2.length<=q.length+2*(j+1);omega),rfl⟩
      ·refine Yw1 ?_;rcases hks:a.ks with _|⟨y0,ys⟩
       ·obtain rfl:kv=.A4:=by rw[<-hkv,hks];rfl
        refine Yx px ?_;refine Ywa ?_;exact⟨(j+1,pre2,q2),rho 0 (alQ++[(k6,k6)]),bfH f c s1 pre2 q2 (vis++[x]),Lq,Kj k6 rfl (dJ _) Rf rfl rfl rfl rfl rfl rfl rfl rfl Yf,hj,hqb2,(by show(q2:EF).length<=q.length+2*(j+1);omega),rfl⟩
       ·obtain rfl:kv=.lst 4 (a.ks.map kV) none:=by rw[<-hkv,hks];rfl
        have klen:(a.ks.map kV).length=a.ks.length:=Lm ..;clear hks;refine Yw1 ?_;refine XW.B6 (pu:=px) (σ:=Nat×EF×EF) (λp=>a.ks.length-p.1) (λp=>bqK n a.ks p.2.1.length p.2.2.length j p.1)
         (λp g=>p.1<=a.ks.length/\(∀y∈p.2.2,y<f.ns.length)/\p.2.2.length<=q.length+2*j+p.1/\g=bfH f c s1 p.2.1 p.2.2 (vis++[x])) (0,pre2,q2)
         (ρ:=rho 0 (alQ++[(k6,k6)])) (g0:=bfH f c s1 pre2 q2 (vis++[x])) (Kj k6 rfl (dJ _) Rf rfl rfl rfl rfl rfl rfl rfl rfl Yf) ⟨Zl,hqb2,hql2,rfl⟩ ?_
        clear hqb2 hql2;rintro⟨t,pre3,q3⟩ g ⟨ht,hqb3,hql3,rfl⟩;replace ht:t<=a.ks.length:=ht;replace hqb3:∀y∈q3,y<f.ns.length:=hqb3;replace hql3:q3.length<=q.length+2*j+t:=hql3;refine⟨λh=>?_,λh=>?_⟩
        ·have ht:t<a.ks.length:=by have:=B0 h;omega
         have hk:a.ks[t]?=some a.ks[t]:=Gg ht;have hkin:=a2 _ (AU ht);generalize a.ks[t]=k at hk hkin;have hgk:(a.ks.map kV)[(t:Int).toNat]?=some [.int .i64 (k:Nat),.int .i64 (-1),.int .i64 0,.int .i64 0]:=by simp[hk,kV]
         dsimp only;refine Ywa ?_;refine⟨_,_,AcD (c:=kC (pre3++q3)) (o:=pre3.length) (n:=q3.length) rfl (by rw[jO,La,CS]) rfl Ab Aa,?_⟩;refine Ywa ?_;refine⟨(t+1,[],q3++[k]),rho 0 (alQ++[(k6,k9)]),bfH f c s1 [] (q3++[k]) (vis++[x]),Lq,?_,ht,?_,(by show(q3++[k]).length<=q.length+2*j+(t+1);simp only[La,Ap,BO];omega),rfl⟩
         ·show Trim _ _ _ _ (bqK n a.ks 0 (q3++[k]).length j (t+1)) _;rw[show(q3++[k]).length=q3.length+1 from Ac];unfold bfH;rw[show kC ([]++(q3++[k]))=(kC (pre3++q3)).drop pre3.length++[.int .i64 (k:Nat)] from by rw[jP pre3,<-jO pre3,List.drop_left,Bw,jP];rfl];refine Kj k9 rfl (dJ _) (λv hv=>?_) rfl rfl rfl rfl rfl rfl rfl rfl Yf;rcases Av.1 hv with hv|hv
          ·exact Rf v (DM hv)
          ·rw[Ar] at hv;subst hv;trivial
         ·intro y hy;rcases Av.1 hy with hy|hy
          ·exact hqb3 y hy
          ·rw[Ar] at hy;subst hy;omega
        ·dsimp only;refine Ywa ?_;exact⟨(j+1,pre3,q3),rho 0 (alQ++[(k6,k6)]),bfH f c s1 pre3 q3 (vis++[x]),Lq,Kj k6 rfl (dJ _) Rf rfl rfl rfl rfl rfl rfl rfl rfl Yf,hj,hqb3,(by show(q3:EF).length<=q.length+2*(j+1);omega),rfl⟩
     ·dsimp only;refine Yw1 ?_;refine⟨(pre2,q2,vis++[x]),rho 0 (alQ++[(k6,k6)]),bfH f c s1 pre2 q2 (vis++[x]),(by show q2.length+7*(f.ns.length-(vis++[x]).length)<(x::q).length+7*(f.ns.length-vis.length);simp only[Ap,La,BO];omega),Kj k6 rfl (dJ _) Rf rfl rfl rfl rfl rfl rfl rfl rfl Yf,hqb2,?_,?_,(by show q2.length<=4+6*(vis++[x]).length;simp only[La,Ap,BO];omega),rfl⟩;·exact Da.2 ⟨hnd,Ac,λa ha b hb e=>by rw[Ar] at hb;subst hb;subst e;exact hxv ha⟩
      ·intro y hy;rcases Av.1 hy with hy|hy
       ·exact hvb y hy
       ·rw[Ar] at hy;subst hy;exact hx
end Go.Pv
end
section
noncomputable section
namespace Go.Pv.K
open Go.Vm
open Go.Vm.Key (kn)
theorem J1 (n:Nat) (k:EH):Oz n k=k n:=by cases n<;>rfl
theorem ME (n:Int) (k:Int->Bool):RE n k=k n:=by
 cases n with
 |ofNat n=>exact J1 n (λn=>k (.ofNat n))
 |negSucc n=>exact J1 n (λn=>k (.negSucc n))
theorem nI (b:Bool) (k:Bool->Bool):qU b k=k b:=by cases b<;>rfl
theorem MF (x:PV) (k:PV->Bool):RF x k=k x:=by
 cases x with
 |bool b=>exact nI b (λb=>k (.bool b))
 |int kd n=>exact ME n (λn=>k (.int kd n))
 |_=>rfl
theorem nJ (a:PA) (k:PA->Bool):jT a k=k a:=by
 cases a with
 |tup l=>rfl
 |v c=>cases c with
  |s x=>exact MF x (λx=>k (.v (.s x)))
  |agg l=>rfl
theorem dM {c a b:Bool} (h:Ja c a b=true):(c=true/\a=true)∨(c=false/\b=true):=by
 cases c;·exact .inr ⟨rfl,h⟩
 ·exact .inl ⟨rfl,h⟩
theorem J3 {c a:Bool} (h:Ja c a false=true):c=true/\a=true:=by
 rcases dM h with h|h;·exact h
 ·exact ff h.2
theorem Lt {r:Option (PA×A0)} {k:KK} (h:dfl r k=true):∃v h',r=some (v,h')/\k v h'=true:=by
 cases r with
 |none=>exact ff h
 |some p=>obtain⟨v,m,n⟩:=p;have h:jT v (λv=>k v ⟨m,n⟩)=true:=h;rw[nJ] at h;exact⟨v,_,rfl,h⟩
section
variable {α:Type}
theorem kE {k:α->Bool}:∀{o:Nat} {l:List α},MA k o l=true->∃x,l[o]?=some x/\k x=true
 |0,[],h=>ff h
 |0,x::l,h=>⟨x,rfl,h⟩
 |o+1,[],h=>ff h
 |o+1,x::l,h=>kE (o:=o) (l:=l) h
theorem Wa {k:List α->Bool}:∀{o:Nat} {l:List α},dK k o l=true->o<=l.length/\k (l.drop o)=true
 |0,l,h=>⟨Zl,h⟩
 |o+1,[],h=>ff h
 |o+1,x::l,h=>by obtain⟨h1,h2⟩:=Wa (o:=o) (l:=l) h;exact⟨by simp;omega,h2⟩
theorem Wb:∀{n:Nat} {l:List α} {k:List α->Bool},dL n l k=true->n<=l.length/\k (l.take n)=true
 |0,l,k,h=>⟨Zl,h⟩
 |n+1,[],k,h=>ff h
 |n+1,x::l,k,h=>by obtain⟨h1,h2⟩:=Wb (n:=n) (l:=l) (k:=λr=>k (x::r)) h;exact⟨by simp;omega,h2⟩
theorem Wc:∀l:List α,qV l=l.length
 |[]=>rfl
 |x::l=>Bh (·+1) (Wc l)
end
theorem RP:∀{new l:Ey} {k:Ey->Bool},putK new l k=true->new.length<=l.length/\k (new++l.drop new.length)=true
 |[],l,k,h=>⟨Zl,h⟩
 |y::new,[],k,h=>ff h
 |y::new,x::l,k,h=>by obtain⟨h1,h2⟩:=RP (new:=new) (l:=l) (k:=λr=>k (y::r)) h;exact⟨by simp;omega,h2⟩
theorem ID {new:Ey}:∀{o:Nat} {l:Ey} {k:Ey->Bool},RG new o l k=true->o+new.length<=l.length/\k (A0.over l o new)=true
 |0,l,k,h=>by obtain⟨h1,h2⟩:=RP (new:=new) (l:=l) (k:=k) h;exact⟨Aa,by simpa[A0.over] using h2⟩
 |o+1,[],k,h=>ff h
 |o+1,x::l,k,h=>by
  obtain⟨h1,h2⟩:=ID (o:=o) (l:=l) (k:=λr=>k (x::r)) h;refine⟨by simp;omega,?_⟩;have:A0.over (x::l) (o+1) new=x::A0.over l o new:=by simp only[A0.over,Dj,AH];rw[show o+1+new.length=(o+new.length)+1 from Aa,DP]
  rw[this];exact h2
theorem aE:∀(k:Key) (t:Tr B4),zY k t=t.get k
 |.h,.z=>rfl
 |.h,.n _ _ _=>rfl
 |.o k,.z=>rfl
 |.o k,.n l _ _=>aE k l
 |.i k,.z=>rfl
 |.i k,.n _ _ r=>aE k r
theorem FN (k:Key) (v:B4):(Tr.z:Tr B4).upd k (some v)=Tr.fE (some v) k:=by cases k<;>rfl
theorem Pr:∀(k:Key) (v:B4) (t:Tr B4) (c:Tr B4->Bool),jU k v t c=c (t.upd k (some v))
 |.h,v,.z,c=>rfl
 |.h,v,.n _ _ _,c=>rfl
 |.o k,v,.z,c=>by show jU k v .z (λl=>c (.n l none .z))=_;rw[Pr k v .z,FN];rfl
 |.o k,v,.n l x r,c=>Pr k v l _
 |.i k,v,.z,c=>by show jU k v .z (λr=>c (.n .z none r))=_;rw[Pr k v .z,FN];rfl
 |.i k,v,.n l x r,c=>Pr k v r _
theorem O0:∀(k:Key) (c:Key->Bool),Rg k c=c k.succ
 |.h,_=>rfl
 |.o _,_=>rfl
 |.i k,c=>O0 k _
theorem WJ {h:A0} {b:Key} {f:Hj->Bool->Bool->ED->Es->Bool} (e:ZV h b f=true):∃x,h.get b=some x/\f x.body x.own x.frz x.anc x.log=true:=by
 obtain⟨mem,next⟩:=h;have e:@Option.rec B4 (λ_=>Bool) false (λx=>@B4.rec (λ_=>Bool) f x) (zY b mem)=true:=e;rw[aE] at e;cases hx:mem.get b with
 |none=>rw[hx] at e;exact ff e
 |some x=>rw[hx] at e;exact⟨x,hx,e⟩
theorem Rh {h:A0} {b:Key} {f:Ey->Bool} (e:Po h b f=true):∃c,h.cells b=some c/\f c=true:=by
 obtain⟨⟨body,own,frz,anc,log⟩,h1,h2⟩:=WJ e;cases body with
 |cells c=>exact⟨c,by simp[A0.cells,h1],h2⟩
 |map _=>exact ff h2
 |iter _ _ _=>exact ff h2
theorem eV (h:A0) (body:Hj) (k:Key->A0->Bool):MB h body k=k h.next (h.new body):=by
 obtain⟨mem,next⟩:=h;show jU next ⟨body,true,false,[],[]⟩ mem (λmem=>Rg next (λn=>k next ⟨mem,n⟩))=_
 rw[Pr,O0];rfl
theorem O1 {h:A0} {b:Key} {c:Ey} (hc:h.cells b=some c) {o n:Nat} (hle:o+n<=c.length):h.read b o n=some ((c.drop o).take n):=by
 unfold A0.read;split;·next h0=>subst h0;simp
 ·simp[hc,hle]
def lM (f:dY) (p:Ez->A0->PR):Prop:=∀a h k,f a h k=true->∃v h',p [a] h=some (v,h')/\k v h'=true
def lN (f:jS) (p:Ez->A0->PR):Prop:=∀a b h k,f a b h k=true->∃v h',p [a,b] h=some (v,h')/\k v h'=true
theorem Ky {a:PA} {f:PV->Bool} (e:onV a f=true):∃x,a=.v (.s x)/\f x=true:=by
 cases a with
 |tup l=>exact ff e
 |v c=>cases c with
  |s x=>exact⟨x,rfl,e⟩
  |agg l=>exact ff e
theorem IE {x:PV} {f:Key->Nat->Bool} {r:Ey->Bool} {e:Bool} (h:Vd x f r e=true):(∃b o,x=.ptr b o/\f b o=true)∨(∃l,x=.rp l/\r l=true)∨e=true:=by cases x<;>first|exact .inl ⟨_,_,rfl,h⟩|exact .inr (.inl ⟨_,rfl,h⟩)|exact .inr (.inr h)
theorem Wd {x:PV} {f:Key->Nat->Bool} {r:Ey->Bool} (h:Vd x f r false=true):(∃b o,x=.ptr b o/\f b o=true)∨(∃l,x=.rp l/\r l=true):=by
 rcases IE h with h|h|h;·exact .inl h
 ·exact .inr h
 ·exact ff h
theorem rC {x:PV} {f:IntKind->Int->Bool} {e:Bool} (h:HW x f e=true):(∃k n,x=.int k n/\f k n=true)∨e=true:=by cases x<;>first|exact .inl ⟨_,_,rfl,h⟩|exact .inr h
theorem wG {x:PV} {f:Bool->Bool} (h:qW x f=true):∃b,x=.bool b/\f b=true:=by cases x<;>first|exact⟨_,rfl,h⟩|exact ff h
theorem RQ {x:PV} {f:Key->Nat->Nat->Nat->Bool} {g:Nat->Eu->Bool} {n:Bool} (h:Abi x f g n=true) :
  (∃b o len es cap,x=.slice b o len es cap/\f b o len es=true)∨(∃es l cap,x=.lst es l cap/\g es l=true)∨(x=.A4/\n=true):=by cases x<;>first|exact .inl ⟨_,_,_,_,_,rfl,h⟩|exact .inr (.inl ⟨_,_,_,rfl,h⟩)|exact .inr (.inr ⟨rfl,h⟩)|exact ff h
theorem WK:lM RH Qc:=by
 intro a h k e0;obtain⟨x,rfl,e1⟩:=Ky e0;rcases Wd e1 with⟨b,o,rfl,e2⟩|⟨l,rfl,e2⟩
 ·obtain⟨c,h1,e3⟩:=Rh e2;obtain⟨x,h2,e4⟩:=kE e3;have hlt:=(Gi.1 h2).1;have hr:=O1 h1 (o:=o) (n:=1) Aa;have:(c.drop o).take 1=[x]:=by rw[Ax hlt];simp[(Gi.1 h2).2]
  rw[this] at hr;exact⟨_,_,by simp only[Qc,hr],e4⟩
 ·cases l with
  |nil=>exact ff e2
  |cons v l=>exact⟨_,_,rfl,e2⟩
theorem WL (n:Nat):lM (RI n) (Km n):=by
 intro a h k e0;obtain⟨x,rfl,e1⟩:=Ky e0;rcases Wd e1 with⟨b,o,rfl,e2⟩|⟨l,rfl,e2⟩
 ·obtain⟨c,h1,e3⟩:=Rh e2;obtain⟨h2,e4⟩:=Wa e3;obtain⟨h3,e5⟩:=Wb e4;have hr:=O1 h1 (o:=o) (n:=n) (by simp at h3;omega);exact⟨_,_,by simp only[Km,hr],e5⟩
 ·obtain⟨h3,e3⟩:=Wb e2;exact⟨_,_,by simp only[Km];rw[Aj h3],e3⟩
theorem RS:lM HX Pb:=by
 intro a h k e0;obtain⟨x,rfl,e1⟩:=Ky e0;rcases IE e1 with⟨b,o,rfl,e2⟩|⟨l,rfl,e2⟩|e2
 ·exact⟨_,_,rfl,e2⟩
 ·exact⟨_,_,rfl,e2⟩
 ·exact Lt e2
theorem WM (off:Nat):lM (RJ off) (Xf off):=by
 intro a h k e0;obtain⟨x,rfl,e1⟩:=Ky e0;rcases Wd e1 with⟨b,o,rfl,e2⟩|⟨l,rfl,e2⟩
 ·rw[J1] at e2;exact⟨_,_,rfl,e2⟩
 ·obtain⟨h1,e3⟩:=Wa e2;exact⟨_,_,by simp only[Xf];rw[Aj h1],e3⟩
theorem Abn:lM ZW sO:=by
 intro a h k e0;obtain⟨x,rfl,e1⟩:=Ky e0;rcases RQ e1 with⟨b,o,len,es,cap,rfl,e2⟩|⟨es,l,cap,rfl,e2⟩|⟨rfl,e2⟩
 ·exact⟨_,_,rfl,e2⟩
 ·rw[J1,Wc] at e2;exact⟨_,_,rfl,e2⟩
 ·exact⟨_,_,rfl,e2⟩
theorem MG (i:Nat):lM (wD i) (Nz i):=by
 intro a h k e0;cases a with
 |v c=>exact ff e0
 |tup l=>obtain⟨x,h1,e1⟩:=kE (l:=l) e0;exact⟨_,_,by simp only[Nz,h1,noP],e1⟩
theorem AcZ:lM kNot (pUn .not):=by intro a h k e0;obtain⟨x,rfl,e1⟩:=Ky e0;obtain⟨b,rfl,e2⟩:=wG e1;cases b<;>exact⟨_,_,rfl,e2⟩
theorem wH {c:PC} {f:Ey->Bool} (e:zZ c f=true):f c.cells=true:=by cases c<;>exact e
theorem Ada (n:Nat):lM (kBox n) (JM n):=by
 intro a h k e0;cases a with
 |tup l=>exact ff e0
 |v c=>have e1:=wH (c:=c) (f:=λl=>Ja (Nat.beq (qV l) n) (MB h (.cells l) (λb h=>k (.v (.s (.ptr b 0))) h)) false) e0;obtain⟨h1,e2⟩:=J3 e1;rw[Wc,BQ] at h1;rw[eV] at e2;exact⟨_,_,by simp only[JM];rw[Aj h1],e2⟩
theorem Adb (es:Nat):lN (kIsl es) (nZ es):=by
 intro a i h k e0;obtain⟨x,rfl,e1⟩:=Ky e0;obtain⟨i,rfl,e2⟩:=Ky e1;rcases rC e2 with⟨kd,n,rfl,e3⟩|e3
 ·cases n with
  |negSucc n=>exact ff e3
  |ofNat n=>
   rcases RQ e3 with⟨b,o,len,es',cap,rfl,e4⟩|⟨es',l,cap,rfl,e4⟩|⟨rfl,e4⟩;·obtain⟨h1,e5⟩:=J3 e4;obtain⟨h2,e6⟩:=J3 e5;rw[BC] at h1;rw[BQ] at h2;rw[J1] at e6;refine⟨_,_,?_,e6⟩;simp only[nZ];rw[Aj ⟨h2,BE n,by simp only[Bi];omega⟩];rfl
   ·obtain⟨h2,e5⟩:=J3 e4;rw[BQ] at h2;obtain⟨x,h1,e6⟩:=kE e5;refine⟨_,_,?_,e6⟩;simp only[nZ];rw[Aj ⟨h2,BE n⟩];simp only[Bi,Bj,h1]
   ·exact ff e4
 ·exact ff e3
theorem WN (n:Nat):lN (RK n) (Qd n):=by
 intro a v h k e0;obtain⟨x,rfl,e1⟩:=Ky e0;rcases Wd e1 with⟨b,o,rfl,e2⟩|⟨l,rfl,e2⟩
 ·cases v with
  |tup l=>exact ff e2
  |v c=>
   have e3:=wH (c:=c) e2;obtain⟨h1,e4⟩:=J3 e3;rw[Wc,BQ] at h1;obtain⟨mem,next⟩:=h;have e5:@Option.rec B4 (λ_=>Bool) false (λx=>@B4.rec (λ_=>Bool) (λbody own frz anc log=>
    @Hj.rec (λ_=>Bool) (λd=>@List.rec Key (λ_=>Bool)
     (Ja own (Ja frz false (RG c.cells o d (λc=>jU b ⟨.cells c,true,false,[],(o,n)::log⟩ mem (λmem=>k .unit ⟨mem,next⟩)))) false)
     (λ_ _ _=>dfl (Qd n [.v (.s (.ptr b o)),.v c] ⟨mem,next⟩) k) anc) (λ_=>false) (λ_ _ _=>false) body) x) (zY b mem)=true:=e4
   rw[aE] at e5;cases hx:mem.get b with
   |none=>rw[hx] at e5;exact ff e5
   |some x=>
    rw[hx] at e5;obtain⟨body,own,frz,anc,log⟩:=x;cases body with
    |map _=>exact ff e5
    |iter _ _ _=>exact ff e5
    |cells d=>
     cases anc with
     |cons _ _=>exact Lt e5
     |nil=>
      obtain⟨h2,e6⟩:=J3 e5;subst h2;rcases dM e6 with⟨h3,e7⟩|⟨h3,e7⟩;·exact ff e7
      ·subst h3;obtain⟨h4,e8⟩:=ID e7;rw[Pr] at e8;refine⟨_,_,?_,e8⟩;have hg:(⟨mem,next⟩:A0).get b=some ⟨.cells d,true,false,[],log⟩:=hx;have hw:(⟨mem,next⟩:A0).write b o c.cells=some ⟨mem.upd b (some ⟨.cells (A0.over d o c.cells),true,false,[],(o,n)::log⟩),next⟩:=by simp only[A0.write,hg];rw[Aj ⟨h4,rfl⟩,h1];rfl
       simp only[Qd];rw[Aj h1];simp only[hw]
 ·exact ff e2
theorem EM {x y:PV} {f:Nat->Nat->Bool} {e:Bool} (h:WH x y f e=true):(∃m n:Nat,x=.int .i64 (.ofNat m)/\y=.int .i64 (.ofNat n)/\f m n=true)∨e=true:=by
 rcases rC h with⟨kd,a,rfl,h1⟩|h1
 ·rcases rC h1 with⟨kd',b,rfl,h2⟩|h2
  ·have k1:∀k:IntKind,RL k=true->k=.i64:=λk e=>by cases k<;>first|rfl|exact ff e
   cases hk:RL kd with
   |false=>rw[hk] at h2;exact .inr h2
   |true=>
   cases hk':RL kd' with
   |false=>rw[hk,hk'] at h2;exact .inr h2
   |true=>
   rw[hk,hk'] at h2;cases k1 _ hk;cases k1 _ hk';cases a with
   |negSucc a=>exact .inr h2
   |ofNat a=>
    cases b with
    |negSucc b=>exact .inr h2
    |ofNat b=>exact .inl ⟨a,b,rfl,rfl,h2⟩
  ·exact .inr h2
 ·exact .inr h1
theorem wrap64 {n:Nat} (h:n<=9223372036854775807):IntKind.i64.wrap (.ofNat n)=.ofNat n:=by
 unfold IntKind.wrap;have h1:(Int.ofNat n) % (2 ^ IntKind.i64.bits:Int)=Int.ofNat n:=by show(Int.ofNat n) % (18446744073709551616:Int)=_;simp only[Bi];omega
 simp only[h1];rw[Ao];simp only[Au,not_and,Bk];intro _;show ¬(Int.ofNat n>=(9223372036854775808:Int));simp only[Bi];omega
theorem Adc:lN kAdd (Td .add):=by
 intro a c h k e0;obtain⟨x,rfl,e1⟩:=Ky e0;obtain⟨y,rfl,e2⟩:=Ky e1;rcases EM e2 with⟨m,n,rfl,rfl,e3⟩|e3
 ·rcases dM e3 with⟨h1,e4⟩|⟨_,e4⟩;·rw[BC] at h1;rw[J1] at e4;refine⟨_,_,?_,e4⟩;show Hv h (Rr (.int .i64 (IntKind.i64.wrap (Int.ofNat m+Int.ofNat n))))=_;have:Int.ofNat m+Int.ofNat n=Int.ofNat (Nat.add m n):=rfl;rw[this,wrap64 h1];rfl
  ·exact Lt e4
 ·exact Lt e3
theorem Ade:lN kSub (Td .sub):=by
 intro a c h k e0;obtain⟨x,rfl,e1⟩:=Ky e0;obtain⟨y,rfl,e2⟩:=Ky e1;rcases EM e2 with⟨m,n,rfl,rfl,e3⟩|e3
 ·rcases dM e3 with⟨h1,e4⟩|⟨_,e4⟩
  ·rcases dM e4 with⟨h2,e5⟩|⟨_,e5⟩
   ·rw[BC] at h1 h2;rw[J1] at e5;refine⟨_,_,?_,e5⟩;show Hv h (Rr (.int .i64 (IntKind.i64.wrap (Int.ofNat m-Int.ofNat n))))=_;have:Int.ofNat m-Int.ofNat n=Int.ofNat (Nat.sub m n):=by simp only[Bi,Nat.sub_eq];omega
    rw[this,wrap64 (by simp only[Nat.sub_eq];omega)];rfl
   ·exact Lt e5
  ·exact Lt e4
 ·exact Lt e3
theorem nK {b:BinOp} {f:Nat->Nat->Bool} (hb:∀m n:Nat,dS b (.int .i64 (.ofNat m)) (.int .i64 (.ofNat n))=some (.bool (f m n))):lN (EI b f) (Td b):=by
 intro a c h k e0;obtain⟨x,rfl,e1⟩:=Ky e0;obtain⟨y,rfl,e2⟩:=Ky e1;rcases EM e2 with⟨m,n,rfl,rfl,e3⟩|e3
 ·refine⟨.v (.s (.bool (f m n))),h,by simp only[Td,hb,Hv],?_⟩;cases hf:f m n with
  |false=>rw[hf] at e3;exact e3
  |true=>rw[hf] at e3;exact e3
 ·exact Lt e3
theorem Ri {a b:Bool} (h:a=true↔b=true):a=b:=by cases a<;>cases b<;>simp_all
theorem Adf (b:BinOp):∃f,ZZ b=.mk f/\lN f (Td b):=by
 have any:lN (Ve b) (Td b):=λa c h k e=>Lt e;cases b<;>first|exact⟨_,rfl,any⟩|skip
 ·exact⟨_,rfl,Adc⟩
 ·exact⟨_,rfl,Ade⟩
 ·refine⟨_,rfl,nK λm n=>?_⟩;show some (PV.bool ((Int.ofNat m)==(Int.ofNat n)))=_;congr 2;exact Ri (by simp only[beq_iff_eq,BQ,Bi];omega)
 ·refine⟨_,rfl,nK λm n=>?_⟩;show some (PV.bool ((Int.ofNat m) !=(Int.ofNat n)))=_;have:Abj (Nat.beq m n)=!(Nat.beq m n):=by cases Nat.beq m n<;>rfl
  rw[this];congr 2;exact Ri (by simp only[bne_iff_ne,AX,ne_eq,Bi];rw[<-Bool.not_eq_true,BQ];omega)
 ·refine⟨_,rfl,nK λm n=>?_⟩;show some (PV.bool (decide ((Int.ofNat m)<(Int.ofNat n))))=_;congr 2;exact Ri (by simp only[Bk,BC,Bi];omega)
 ·refine⟨_,rfl,nK λm n=>?_⟩;show some (PV.bool (decide ((Int.ofNat m)<=(Int.ofNat n))))=_;congr 2;exact Ri (by simp only[Bk,BC,Bi];omega)
 ·refine⟨_,rfl,nK λm n=>?_⟩;show some (PV.bool (decide ((Int.ofNat m)>(Int.ofNat n))))=_;congr 2;exact Ri (by simp only[Bk,BC,Bi];omega)
 ·refine⟨_,rfl,nK λm n=>?_⟩;show some (PV.bool (decide ((Int.ofNat m)>=(Int.ofNat n))))=_;congr 2;exact Ri (by simp only[Bk,BC,Bi];omega)
theorem rD (m:Ey):∀(l:Ey) (k:Ey->Bool),RM l m k=k (l++m)
 |[],_=>rfl
 |x::l,k=>rD m l _
theorem wI:∀(l:Eu) (k:Ey->Bool),HY l k=k l.flatten
 |[],_=>rfl
 |x::l,k=>by show HY l (λr=>RM x r k)=_;rw[wI l,rD];rfl
theorem Abo {es:Nat} {x:PV} {h:A0} {k:Ey->Nat->Bool} {e:Bool} (t:srcK es x h k e=true):(∃l n,Yv h es x=some (l,n)/\k l n=true)∨e=true:=by
 cases x<;>first|exact .inr t|skip
 ·next b o len es' cap=>
  obtain⟨h1,t⟩:=J3 (c:=Nat.beq es es') t;rw[BQ] at h1;refine .inl ?_;cases hm:Nat.mul len es with
  |zero=>rw[hm] at t;have hm:len*es=0:=hm;exact⟨[],len,by simp only[Yv,Aj h1,A0.read,hm,Ak],t⟩
  |succ m=>rw[hm] at t;have hm:len*es=m+1:=hm;obtain⟨c,h2,t⟩:=Rh t;obtain⟨h3,t⟩:=Wa t;obtain⟨h4,t⟩:=Wb t;have hr:=O1 h2 (o:=o) (n:=m+1) (by simp at h4;omega);exact⟨_,_,by simp only[Yv,Aj h1,hm,hr],t⟩
 ·exact .inl ⟨[],0,rfl,t⟩
 ·next es' l cap=>
  obtain⟨h1,t⟩:=J3 (c:=Nat.beq es es') t;rw[BQ] at h1;have t:HY l (λc=>Oz (qV l) (λn=>k c n))=true:=t;rw[wI,J1,Wc] at t;exact .inl ⟨_,_,by simp only[Yv,Aj h1],t⟩
theorem WO {h:A0} {b:Key} {o n:Nat} {new:Ey} {k:Key->A0->Bool} {e:Bool} (t:ZX h b o n new k e=true):(∃g,h.grow b o n new=some (h.next,g)/\k h.next g=true)∨e=true:=by
 obtain⟨mem,next⟩:=h;have t:@Option.rec B4 (λ_=>Bool) false (λx=>@B4.rec (λ_=>Bool) (λbody own frz anc log=>
  @Hj.rec (λ_=>Bool) (λc=>Ja own (Ja (Nat.beq (Nat.add o n) (qV c))
   (dK (λd=>dL n d (λd=>RM d new (λd=>jU b ⟨.cells c,false,frz,anc,log⟩ mem (λmem=>jU next ⟨.cells d,true,false,b::anc,[]⟩ mem (λmem=>Rg next (λn=>k next ⟨mem,n⟩)))))) o c) e) false)
   (λ_=>false) (λ_ _ _=>false) body) x) (zY b mem)=true:=t
 rw[aE] at t;cases hx:mem.get b with
 |none=>rw[hx] at t;exact ff t
 |some x=>
  rw[hx] at t;obtain⟨body,own,frz,anc,log⟩:=x;cases body with
  |map _=>exact ff t
  |iter _ _ _=>exact ff t
  |cells c=>
   obtain⟨h1,t0⟩:=J3 t;subst h1;rcases dM t0 with⟨h2,t1⟩|⟨_,t1⟩;·rw[BQ,Wc] at h2;have h2:o+n=c.length:=h2;obtain⟨h3,t2⟩:=Wa t1;obtain⟨h4,t3⟩:=Wb t2;rw[rD,Pr,Pr,O0] at t3;refine .inl ⟨_,?_,t3⟩;have hg:(⟨mem,next⟩:A0).get b=some ⟨.cells c,true,frz,anc,log⟩:=hx;simp only[A0.grow,hg,A0.copied];rw[Aj (show o+n<=c.length by omega)];simp only;rw[Aj h2];rfl
   ·exact .inr t1
theorem RT (es bytes:Nat):lN (HZ es bytes) (Hu es bytes):=by
 intro a c h k e0;obtain⟨s,rfl,e1⟩:=Ky e0;obtain⟨x,rfl,e2⟩:=Ky e1;rcases Abo e2 with⟨l,n,h1,e3⟩|e3
 ·rcases dM e3 with⟨_,e4⟩|⟨hn,e4⟩;·exact Lt e4
  ·have hn0:n≠0:=by rintro rfl;simp at hn
   cases s<;>first|exact Lt e4|skip
   ·next b o len es' cap=>
    cases cap with
    |some _=>exact Lt e4
    |none=>
     obtain⟨h2,e5⟩:=J3 (c:=Nat.beq es es') e4;rw[BQ] at h2;obtain⟨h3,e6⟩:=J3 e5;rcases WO e6 with⟨g,h4,e7⟩|e7;·rw[J1] at e7;refine⟨_,_,?_,e7⟩;have h3:room (len+n) bytes=true:=h3;have h4:h.grow b o (len*es) l=some (h.next,g):=h4;simp only[Hu,h1,Ng];rw[Aj h2,Ao hn0,Aj h3];simp only[h4];rfl
     ·exact Lt e7
   ·obtain⟨h3,e5⟩:=J3 e4;rw[eV] at e5;refine⟨_,_,?_,e5⟩;simp only[Hu,h1,Ng];rw[Ao hn0,Aj h3]
 ·exact Lt e3
def RU (f:MD) (p:Ez->A0->PR):Prop:=∀xs h k,f xs h k=true->∃v h',p xs h=some (v,h')/\k v h'=true
theorem RV {l:Option (Ey)} {f:Ey->Bool} (e:onL l f=true):∃x,l=some x/\f x=true:=by
 cases l with
 |none=>exact ff e
 |some x=>exact⟨x,rfl,e⟩
theorem Abp (zs:EB):RU (ZY zs) (lU zs):=by
 intro xs h k e;cases xs with
 |cons _ _=>exact ff e
 |nil=>obtain⟨l,h1,e1⟩:=RV e;rw[eV] at e1;exact⟨_,_,by simp only[lU,h1],e1⟩
theorem kF (es len:Nat) (zero:EB) (places:Es):RU (eU es len zero places) (Vp es len zero places):=by intro xs h k e;obtain⟨z,h1,e1⟩:=RV e;obtain⟨cs,h2,e2⟩:=RV e1;rw[eV] at e2;exact⟨_,_,by simp only[Vp,h1,h2],e2⟩
theorem Abq (o:VOp):∃f,kopN o=.mk f/\RU f (opP o):=by
 have any:RU (λxs h k=>dfl (opP o xs h) k) (opP o):=λxs h k e=>Lt e;cases o<;>first|exact⟨_,rfl,any⟩|skip
 case Jv zs=>exact⟨_,rfl,Abp zs⟩
 case J6 es len z p=>exact⟨_,rfl,kF es len z p⟩
theorem Abr (o:VOp):∃f,kop1 o=.mk f/\lM f (opP o):=by
 have any:lM (λa h k=>dfl (opP o [a] h) k) (opP o):=λa h k e=>Lt e;cases o<;>first|exact⟨_,rfl,any⟩|skip
 case Fb=>exact⟨_,rfl,WK⟩
 case Fl n=>exact⟨_,rfl,WL n⟩
 case J7=>exact⟨_,rfl,RS⟩
 case Ft n=>exact⟨_,rfl,WM n⟩
 case lens=>exact⟨_,rfl,Abn⟩
 case extract n=>exact⟨_,rfl,MG n⟩
 case box n=>exact⟨_,rfl,Ada n⟩
 case J6 es len z p=>exact⟨_,rfl,λa h k e=>kF es len z p [a] h k e⟩
 case un u=>cases u<;>first|exact⟨_,rfl,AcZ⟩|exact⟨_,rfl,any⟩
theorem Abs (o:VOp):∃f,kop2 o=.mk f/\lN f (opP o):=by
 have any:lN (λa b h k=>dfl (opP o [a,b] h) k) (opP o):=λa b h k e=>Lt e;cases o<;>first|exact⟨_,rfl,any⟩|skip
 case isl n=>exact⟨_,rfl,Adb n⟩
 case store n=>exact⟨_,rfl,WN n⟩
 case bin b=>exact Adf b
 case append es by'=>exact⟨_,rfl,RT es by'⟩
 case J6 es len z p=>exact⟨_,rfl,λa b h k e=>kF es len z p [a,b] h k e⟩
section
def FRK (fr:Fr) (pf:PFr):Prop:=∀k v,fr.at k=some v->pf.get k=some v
variable {fr:Fr} {pf:PFr} {h:A0}
theorem Qo (hf:FRK fr pf) {x:VX} {c:PA->Bool} (e:W0 (M3 x) fr c=true):∃v,Tv pf x=some v/\c v=true:=by
 cases x with
 |t key=>
  obtain⟨g,p,h1,h2,_⟩:=jQ key;have:M3 (.t key)=.s g:=by simp only[M3,h1]
  rw[this] at e;have e:@Option.rec PA (λ_=>Bool) false c (g fr)=true:=e;rw[h2] at e;cases hv:fr.at key with
  |none=>rw[hv] at e;exact ff e
  |some v=>rw[hv] at e;exact⟨v,hf _ _ hv,e⟩
 |c a=>
  cases ha:JL a with
  |none=>
   have:M3 (.c a)=.bad:=by simp only[M3,ha]
   rw[this] at e;exact ff e
  |some v=>
   have:M3 (.c a)=.c v:=by simp only[M3,ha]
   rw[this] at e;exact⟨v,ha,e⟩
theorem RW {key:Key} {v:PA} {fr':Fr} (hf:FRK fr pf) (h:∀j,fr'.at j=if key=j then some v else fr.at j):FRK fr' (pf.upd key (some v)):=by
 intro j w e;rw[h] at e;rw[Tr.D1];split at e;·next hk=>rw[Aj hk];exact e
 ·next hk=>rw[Ao hk];exact hf j w e
def IF (p:Sz) (d:EE):Prop:=∀{fr:Fr} {pf:PFr},FRK fr pf->∀{v:PA} {c:Fr->Bool},p v fr c=true->∃fr',c fr'=true/\FRK fr' (O4 pf d v)
theorem rE (d:EE):∃p,wE d=.mk p/\IF p d:=by
 cases d with
 |none=>exact⟨_,rfl,λhf=>λ{v c} e=>⟨_,e,hf⟩⟩
 |some key=>obtain⟨g,p,h1,_,h3⟩:=jQ key;refine⟨p,by simp only[wE,h1],λ{fr pf} hf {v c} e=>?_⟩;obtain⟨fr',h4,h5⟩:=h3 v fr c e;exact⟨fr',h4,RW hf h5⟩
theorem aF (hf:FRK fr pf):∀{xs:List VX} {c:Ez->Bool},bU xs fr c=true->∃vs,Ip pf xs=some vs/\c vs=true
 |[],c,e=>⟨[],rfl,e⟩
 |x::xs,c,e=>by obtain⟨v,h1,e1⟩:=Qo hf (x:=x) (c:=λv=>bU xs fr (λvs=>c (v::vs))) e;obtain⟨vs,h2,e2⟩:=aF hf e1;exact⟨v::vs,by simp only[Ip,h1,h2],e2⟩
def rF (call:I7) (pc:Jw):Prop:=∀f args h k,call f args h k=true->∃v h',pc f args h=some (v,h')/\k v h'=true
variable {call:I7} {pc:Jw}
theorem Abt (hc:rF call pc) {a:Ff} {args:Ez} {k:KK} (e:Abk call a args h k=true):∃v h',sP pc a args h=some (v,h')/\k v h'=true:=by
 cases a with
 |op o=>exact Lt e
 |call f=>exact hc _ _ _ _ e
 |Kr=>
  have e:EJ call args h k=true:=e;unfold EJ at e;split at e;·exact hc _ _ _ _ e
  ·cases e
def nM (pc:Jw) (act:Ff) (xs:List VX) (dst:EE) (pf:PFr) (h:A0) (k:Fr->A0->Bool):Prop:=
 ∃args v h' fr',Ip pf xs=some args/\sP pc act args h=some (v,h')/\FRK fr' (O4 pf dst v)/\k fr' h'=true
theorem WQ (hc:rF call pc) (hf:FRK fr pf) {act:Ff} {xs:List VX} {dst:EE} {p:Sz} (hp:IF p dst) {k:Fr->A0->Bool} (e:Ls (.oN act xs p) call fr h k=true):nM pc act xs dst pf h k:=by obtain⟨args,h3,e1⟩:=aF hf (xs:=xs) (c:=λargs=>Abk call act args h (λv h=>p v fr (λfr=>k fr h))) e;obtain⟨v,h',h4,e2⟩:=Abt hc e1;obtain⟨fr',e3,h5⟩:=hp hf e2;exact⟨args,v,h',fr',h3,h4,h5,e3⟩
theorem oF_t (hf:FRK fr pf) {o:VOp} {f:MD} (hs:RU f (opP o)) {xs:List VX} {dst:EE} {p:Sz} (hp:IF p dst) {k:Fr->A0->Bool} (e:Ls (.oF f xs p) call fr h k=true):nM pc (.op o) xs dst pf h k:=by obtain⟨args,h3,e1⟩:=aF hf (xs:=xs) (c:=λargs=>f args h (λv h=>p v fr (λfr=>k fr h))) e;obtain⟨v,h',h4,e2⟩:=hs _ _ _ e1;obtain⟨fr',e3,h5⟩:=hp hf e2;exact⟨args,v,h',fr',h3,h4,h5,e3⟩
theorem rG (hf:FRK fr pf) {x:VX} {c:PA->Bool} {g:Fr->Option PA} (hx:M3 x=.s g) (e:@Option.rec PA (λ_=>Bool) false c (g fr)=true):∃v,Tv pf x=some v/\c v=true:=
 Qo hf (by rw[hx];exact e)
theorem Abu (hf:FRK fr pf) {x:VX} {c:PA->Bool} {v:PA} (hx:M3 x=.c v) (e:c v=true):∃v,Tv pf x=some v/\c v=true:=
 Qo hf (by rw[hx];exact e)
theorem Abv (hc:rF call pc) (hf:FRK fr pf) {act:Ff} {xs:List VX} {dst:EE} {p:Sz} (hp:IF p dst) {k:Fr->A0->Bool} (e:Ls (WI act xs p) call fr h k=true):nM pc act xs dst pf h k:=by
 unfold WI at e;split at e
 ·next a=>
  cases hx:M3 a with
  |s g=>rw[hx] at e;obtain⟨v,h3,e1⟩:=rG hf (c:=λv=>p v fr (λfr=>k fr h)) hx e;obtain⟨fr',e2,h4⟩:=hp hf e1;exact⟨[v],v,h,fr',by simp only[Ip,h3],rfl,h4,e2⟩
  |c v=>rw[hx] at e;obtain⟨v,h3,e1⟩:=Abu hf (c:=λv=>p v fr (λfr=>k fr h)) hx e;obtain⟨fr',e2,h4⟩:=hp hf e1;exact⟨[v],v,h,fr',by simp only[Ip,h3],rfl,h4,e2⟩
  |bad=>rw[hx] at e;exact WQ hc hf hp e
 ·next o a _=>
  obtain⟨f,h3,hs⟩:=Abr o;rw[h3] at e;cases hx:M3 a with
  |s g=>rw[hx] at e;obtain⟨v,h4,e1⟩:=rG hf (c:=λa=>f a h (λv h=>p v fr (λfr=>k fr h))) hx e;obtain⟨w,h',h5,e2⟩:=hs _ _ _ e1;obtain⟨fr',e3,h6⟩:=hp hf e2;exact⟨[v],w,h',fr',by simp only[Ip,h4],h5,h6,e3⟩
  |c v=>rw[hx] at e;exact WQ hc hf hp e
  |bad=>rw[hx] at e;exact WQ hc hf hp e
 ·next o a b=>
  obtain⟨f,h3,hs⟩:=Abs o;rw[h3] at e;have fin:∀{v u:PA},Tv pf a=some v->Tv pf b=some u->f v u h (λv h=>p v fr (λfr=>k fr h))=true->nM pc (.op o) [a,b] dst pf h k:=by intro v u h4 h5 e2;obtain⟨w,h',h6,e3⟩:=hs _ _ _ _ e2;obtain⟨fr',e4,h7⟩:=hp hf e3;exact⟨[v,u],w,h',fr',by simp only[Ip,h4,h5],h6,h7,e4⟩
  have gen:∀{x y:Yd},M3 a=x->M3 b=y->Ls (.o2 f x y p) call fr h k=true->nM pc (.op o) [a,b] dst pf h k:=by intro x y hx hy e;subst hx;subst hy;obtain⟨v,h4,e1⟩:=Qo hf (x:=a) (c:=λa=>W0 (M3 b) fr (λb=>f a b h (λv h=>p v fr (λfr=>k fr h)))) e;obtain⟨u,h5,e2⟩:=Qo hf e1;exact fin h4 h5 e2
  cases hx:M3 a with
  |s g=>
   cases hy:M3 b with
   |s g'=>rw[hx,hy] at e;obtain⟨v,h4,e1⟩:=rG hf (c:=λa=>@Option.rec PA (λ_=>Bool) false (λb=>f a b h (λv h=>p v fr (λfr=>k fr h))) (g' fr)) hx e;obtain⟨u,h5,e2⟩:=rG hf hy e1;exact fin h4 h5 e2
   |c v=>rw[hx,hy] at e;exact gen hx hy e
   |bad=>rw[hx,hy] at e;exact gen hx hy e
  |c v=>rw[hx] at e;exact gen hx rfl e
  |bad=>rw[hx] at e;exact gen hx rfl e
 ·next o _ _ _=>
  obtain⟨f,h3,hs⟩:=Abq o;rw[h3] at e;exact oF_t hf hs hp e
 ·exact WQ hc hf hp e
theorem rH (hc:rF call pc) (hf:FRK fr pf) {o:B3} {k:Fr->A0->Bool} (e:Ls (Pp o) call fr h k=true):nM pc o.act o.args o.dst pf h k:=by
 obtain⟨dst,act,xs,g⟩:=o;obtain⟨p,h1,hp⟩:=rE dst;have h2:Pp ⟨dst,act,xs,g⟩=WI act xs p:=by simp only[Pp,h1]
 rw[h2] at e;exact Abv hc hf hp e
theorem rI (hf:FRK fr pf) {g:Option (Key×Bool)} {k:Bool->Bool} (e:IA g fr k=true):∃b,Hf pf g=some b/\k b=true:=by
 cases g with
 |none=>exact⟨true,rfl,e⟩
 |some q=>
  obtain⟨key,b⟩:=q;obtain⟨v,h1,e1⟩:=Qo hf (x:=.t key) (c:=λv=>Aaa v b k) e;have h1:pf.get key=some v:=h1;have other:(∀c,v≠.v (.s (.bool c)))->k false=true->∃b',Hf pf (some (key,b))=some b'/\k b'=true:=by intro hv hk;refine⟨false,?_,hk⟩;simp only[Hf,h1]
  cases v with
  |tup l=>exact other (λc h=>Ad) e1
  |v c=>cases c with
   |agg l=>exact other (λc h=>Ad) e1
   |s x=>
    cases x with
    |bool c=>
     have e3:qU (c==b) k=true:=e1
     rw[nI] at e3
     exact⟨c==b,by simp only[Hf,h1],e3⟩
    |_=>exact other (λc h=>Ad) e1
theorem We (hc:rF call pc) (hf:FRK fr pf) {o:B3} {k:Fr->A0->Bool} (e:Ls (Pq o) call fr h k=true):∃pf' h' fr',Pc pc o pf h=some (pf',h')/\FRK fr' pf'/\k fr' h'=true:=by
 obtain⟨dst,act,xs,g⟩:=o;have yes:Hf pf g=some true->Ls (Pp ⟨dst,act,xs,g⟩) call fr h k=true->∃pf' h' fr',Pc pc ⟨dst,act,xs,g⟩ pf h=some (pf',h')/\FRK fr' pf'/\k fr' h'=true:=by intro hw e;obtain⟨args,v,h',fr',h1,h2,h3,e1⟩:=rH hc hf e;exact⟨_,h',fr',by simp only[Pc,hw,h1,h2],h3,e1⟩
 cases g with
 |none=>exact yes rfl e
 |some q=>
  obtain⟨key,b⟩:=q;obtain⟨p,h1,hp⟩:=rE dst;have h2:Pq ⟨dst,act,xs,some (key,b)⟩=.gd key b p (Pp ⟨dst,act,xs,some (key,b)⟩):=by simp only[Pq,h1]
  rw[h2] at e;obtain⟨w,hw,e1⟩:=rI hf (g:=some (key,b)) (k:=λw=>@Bool.rec (λ_=>Bool) (p .unit fr (λfr=>k fr h)) (Ls (Pp ⟨dst,act,xs,some (key,b)⟩) call fr h k) w) e;cases w with
  |true=>exact yes hw e1
  |false=>obtain⟨fr',e2,h3⟩:=hp hf (v:=.unit) (c:=λfr=>k fr h) e1;exact⟨_,h,fr',by simp only[Pc,hw],h3,e2⟩
theorem RX (hc:rF call pc):∀(l:List B3) {fr:Fr} {pf:PFr} {h:A0} {k:Fr->A0->Bool},FRK fr pf->Abm call l fr h k=true->∃pf' h' fr',xR pc l pf h=some (pf',h')/\FRK fr' pf'/\k fr' h'=true
 |[],fr,pf,h,k,hf,e=>⟨pf,h,fr,rfl,hf,e⟩
 |o::l,fr,pf,h,k,hf,e=>by obtain⟨pf1,h1,fr1,h2,h3,e1⟩:=We hc hf (o:=o) (k:=λfr h=>go (Abm call l fr h k)) e;obtain⟨pf2,h4,fr2,h5,h6,e2⟩:=RX hc l h3 e1;exact⟨pf2,h4,fr2,by simp only[xR,h2,h5],h6,e2⟩
theorem bW {o:VOp} (hb:Qg o=true) (args:Ez):rdP o args=none/\rdF o args=false:=by cases o<;>first|(simp[Qg] at hb;done)|exact⟨rfl,rfl⟩
theorem Ps (xs:List VX) (h:A0):∀s:Hp,Pd xs none false h s=true
 |[]=>rfl
 |_::l=>by simp[Pd,Rt,Ps xs h l]
theorem RY {d:EE} {xs:List VX} {rd:Option (Key×Option (Nat×Nat))} {s:Hp} {k:Hp->Bool} (e:RN s (Ob d xs rd h s) k=true):k (Ob d xs rd h s)=true:=by cases s<;>exact e
theorem Wf {a:Ff} (h:Tb a=.eff):a.kind=.effect:=by
 cases a with
 |call f=>rfl
 |Kr=>rfl
 |op o=>
  show o.kind=.effect;have h:qZ o=.eff:=h;unfold qZ at h;split at h;·next h1=>exact h1
  ·cases h
  ·split at h<;>cases h
theorem Wg {a:Ff} (h:Tb a=.alc):a.kind=.alloc:=by
 cases a with
 |call f=>cases h
 |Kr=>cases h
 |op o=>
  show o.kind=.alloc;have h:qZ o=.alc:=h;unfold qZ at h;split at h;·cases h
  ·next h1=>exact h1
  ·split at h<;>cases h
theorem wJ {a:Ff} (h:Tb a=.rd):∃o,a=.op o/\o.kind=.quiet:=by
 cases a with
 |call f=>cases h
 |Kr=>cases h
 |op o=>
  refine⟨o,rfl,?_⟩;have h:qZ o=.rd:=h;unfold qZ at h;split at h;·cases h
  ·cases h
  ·next h1=>exact h1
theorem kG {a:Ff} (h:Tb a=.bl):∃o,a=.op o/\o.kind=.quiet/\Qg o=true:=by
 cases a with
 |call f=>cases h
 |Kr=>cases h
 |op o=>
  have h:qZ o=.bl:=h;unfold qZ at h;split at h;·cases h
  ·cases h
  ·next h1=>
   split at h;·next h2=>exact⟨o,rfl,h1,h2⟩
   ·cases h
theorem rJ {lo hi:Key} (h:lo.toNat=hi.toNat) (rd:Option (Key×Option (Nat×Nat))):H6 lo hi rd=true:=by
 cases rd with
 |none=>rfl
 |some q=>simp only[H6,AW,Bs,BC];omega
theorem Iu (lo hi:Key) (n:Nat):∀(l:List DOp),M4 l=false->∀(r:Key) (s s':Hp) (pf:PFr) (h:A0),Hm pc lo hi n l r s pf h=Hm pc lo hi n l r s' pf h
 |[],_,_,_,_,_,_=>rfl
 |⟨⟨dst,act,xs,g⟩,chk⟩::l,hr,r,s,s',pf,h=>by
  have hr:@KD.rec (λ_=>Bool) (M4 l) (M4 l) true (M4 l) (Tb act)=false:=hr;cases hk:Tb act with
  |rd=>rw[hk] at hr;cases hr
  |eff=>
   rw[hk] at hr;simp only[Hm,Wf hk];split;·exact Iu lo hi n l hr _ _ _ _ _
   ·rfl
  |alc=>
   rw[hk] at hr;simp only[Hm,Wg hk];split;·exact Iu lo hi n l hr _ _ _ _ _
   ·rfl
  |bl=>
   rw[hk] at hr;have hr1:M4 l=false:=hr;obtain⟨o,rfl,ho,hb⟩:=kG hk;have hko:(Ff.op o).kind=.quiet:=ho;simp only[Hm,hko];cases hw:Hf pf g with
   |none=>rfl
   |some w=>
    cases w with
    |false=>exact Iu lo hi n l hr1 _ _ _ _ _
    |true=>
     simp only;cases hf:Ip pf xs with
     |none=>rfl
     |some az=>
      simp only;cases ho:opP o az h with
      |none=>rfl
      |some q=>
       obtain⟨v,h'⟩:=q;obtain⟨b1,b2⟩:=bW hb az;simp only[b1,b2,Ps];split;·exact Iu lo hi n l hr1 _ _ _ _ _
       ·rfl
theorem wK (hc:rF call pc) {lo hi:Key} {n:Nat} (hn:lo.toNat+n=hi.toNat):∀(l:List DOp) {r:Key} {A7:Hp} {fr:Fr} {pf:PFr} {h:A0} {k:Fr->A0->Bool},FRK fr pf->Kq call lo hi n l r A7 fr h k=true ->
  ∃pf' h' fr',Hm pc lo hi n l r A7 pf h=some (pf',h')/\FRK fr' pf'/\k fr' h'=true
 |[],r,A7,fr,pf,h,k,hf,e=>⟨pf,h,fr,rfl,hf,e⟩
 |⟨⟨dst,act,xs,g⟩,chk⟩::l,r,A7,fr,pf,h,k,hf,e=>by
  have ih:=λ{r A7 fr pf h k}=>wK hc hn l (r:=r) (A7:=A7) (fr:=fr) (pf:=pf) (h:=h) (k:=k);have e:Aab (kD ⟨⟨dst,act,xs,g⟩,chk⟩ (M4 l)) call lo hi n (Kq call lo hi n l) r A7 fr h k=true:=e;obtain⟨p,hpb,hp⟩:=rE dst;cases hk:Tb act with
  |eff=>
   cases hneed:M4 l with
   |false=>
    have hd:kD ⟨⟨dst,act,xs,g⟩,chk⟩ (M4 l)=.effN (Pq ⟨dst,act,xs,g⟩):=by simp only[kD,hpb,hk,hneed]
    rw[hd] at e;obtain⟨pf1,h1,fr1,h2,h3,e1⟩:=We hc hf (k:=λfr h'=>go (Kq call lo hi n l r [] fr h' k)) e;obtain⟨pf2,h4,fr2,h5,h6,e2⟩:=ih h3 e1;exact⟨pf2,h4,fr2,by simp only[Hm,Wf hk,h2];rw[Iu lo hi n l hneed _ _ []];exact h5,h6,e2⟩
   |true=>
    have hd:kD ⟨⟨dst,act,xs,g⟩,chk⟩ (M4 l)=.eff (Pq ⟨dst,act,xs,g⟩) dst:=by simp only[kD,hpb,hk,hneed]
    rw[hd] at e;obtain⟨pf1,h1,fr1,h2,h3,e1⟩:=We hc hf (k:=λfr h'=>go (Kq call lo hi n l r (wrote dst (A7++[(h,[])])) fr h' k)) e;obtain⟨pf2,h4,fr2,h5,h6,e2⟩:=ih h3 e1;exact⟨pf2,h4,fr2,by simp only[Hm,Wf hk,h2,h5],h6,e2⟩
  |alc=>
   obtain⟨mem,next⟩:=h;cases hneed:M4 l with
   |false=>
    have hd:kD ⟨⟨dst,act,xs,g⟩,chk⟩ (M4 l)=.alcN (Pq ⟨dst,act,xs,g⟩):=by simp only[kD,hpb,hk,hneed]
    rw[hd] at e;obtain⟨pf1,⟨mem1,next1⟩,fr1,h2,h3,e1⟩:=We hc hf (h:=⟨mem,r⟩) (k:=λfr h'=>@A0.rec (λ_=>Bool) (λmem _=>Rg r (λr=>go (Kq call lo hi n l r [] fr ⟨mem,next⟩ k))) h') e;simp only[O0] at e1;obtain⟨pf2,h4,fr2,h5,h6,e2⟩:=ih h3 e1;exact⟨pf2,h4,fr2,by simp only[Hm,Wg hk,h2];rw[Iu lo hi n l hneed _ _ []];exact h5,h6,e2⟩
   |true=>
    have hd:kD ⟨⟨dst,act,xs,g⟩,chk⟩ (M4 l)=.alc (Pq ⟨dst,act,xs,g⟩) dst:=by simp only[kD,hpb,hk,hneed]
    rw[hd] at e;obtain⟨pf1,⟨mem1,next1⟩,fr1,h2,h3,e1⟩:=We hc hf (h:=⟨mem,r⟩) (k:=λfr h'=>@A0.rec (λ_=>Bool) (λmem _=>Rg r (λr=>go (Kq call lo hi n l r (wrote dst A7) fr ⟨mem,next⟩ k))) h') e;simp only[O0] at e1;obtain⟨pf2,h4,fr2,h5,h6,e2⟩:=ih h3 e1;exact⟨pf2,h4,fr2,by simp only[Hm,Wg hk,h2,h5],h6,e2⟩
  |rd=>
   obtain⟨o,rfl,ho⟩:=wJ hk;have hko:(Ff.op o).kind=.quiet:=ho;have hd:kD ⟨⟨dst,.op o,xs,g⟩,chk⟩ (M4 l)=.rd (Pp ⟨dst,.op o,xs,g⟩) p dst g o xs chk:=by simp only[kD,hpb,hk]
   rw[hd] at e;obtain⟨w,hw,e1⟩:=rI hf (k:=λw=>@Bool.rec (λ_=>Bool)
    (p .unit fr (λfr=>go (Kq call lo hi n l r A7 fr h k)))
    (bU xs fr (λaz=>Ja (RO lo hi n o az xs h (A7.drop chk))
     (Ls (Pp ⟨dst,.op o,xs,g⟩) call fr h (λfr _=>RN A7 (Ob dst xs (rdP o az) h A7) (λs=>go (Kq call lo hi n l r s fr h k)))) false)) w) e
   cases w with
   |false=>obtain⟨fr1,e2,h1⟩:=hp hf (v:=.unit) (c:=λfr=>go (Kq call lo hi n l r A7 fr h k)) e1;obtain⟨pf2,h4,fr2,h5,h6,e3⟩:=ih h1 e2;exact⟨pf2,h4,fr2,by simp only[Hm,hko,hw,h5],h6,e3⟩
   |true=>
    obtain⟨az,h1,e2⟩:=aF hf (xs:=xs) e1;obtain⟨hcond,e3⟩:=J3 e2;obtain⟨az',v,h',fr1,h2,h3,h4,e4⟩:=rH hc hf e3;simp only at h2 h3 h4;rw[h1] at h2;cases h2;have e5:=RY e4;have h3:opP o az h=some (v,h'):=h3;have hcheck:(H6 lo hi (rdP o az)&&(!rdF o az||S9 h lo n)&&Pd xs (rdP o az) (rdF o az) h (A7.drop chk))=true:=by
     cases hs:A7.drop chk with
     |cons a b=>rw[hs] at hcond;exact hcond
     |nil=>
      rw[hs] at hcond;have hcond:Ja (Nat.beq n 0) true (H6 lo hi (rdP o az)&&(!rdF o az||S9 h lo n))=true:=hcond;simp only[Pd,CY];rcases dM hcond with⟨h0,_⟩|⟨_,h0⟩
      ·rw[BQ] at h0;subst h0;rw[rJ Aa];simp[S9]
      ·exact h0
    obtain⟨pf2,h5,fr2,h6,h7,e6⟩:=ih h4 e5;exact⟨pf2,h5,fr2,by simp only[Hm,hko,hw,h1,h3,hcheck,Ak,h6],h7,e6⟩
  |bl=>
   obtain⟨o,rfl,ho,hb⟩:=kG hk;have hko:(Ff.op o).kind=.quiet:=ho;cases hneed:M4 l with
   |false=>
    have hd:kD ⟨⟨dst,.op o,xs,g⟩,chk⟩ (M4 l)=.blN (Pq ⟨dst,.op o,xs,g⟩):=by simp only[kD,hpb,hk,hneed]
    rw[hd] at e;obtain⟨pf1,h1,fr1,h2,h3,e1⟩:=We hc hf (k:=λfr _=>go (Kq call lo hi n l r [] fr h k)) e;obtain⟨pf2,h4,fr2,h5,h6,e2⟩:=ih h3 e1;refine⟨pf2,h4,fr2,?_,h6,e2⟩;simp only[Pc] at h2;simp only[Hm,hko];cases hw:Hf pf g with
    |none=>rw[hw] at h2;cases h2
    |some w=>
     rw[hw] at h2;cases w with
     |false=>simp only[Sj,Pj] at h2 ⊢;obtain⟨rfl,rfl⟩:=h2;rw[Iu lo hi n l hneed _ _ []];exact h5
     |true=>
      simp only at h2 ⊢;cases hfe:Ip pf xs with
      |none=>rw[hfe] at h2;cases h2
      |some az=>
       rw[hfe] at h2;simp only at h2 ⊢;cases hop:sP pc (.op o) az h with
       |none=>rw[hop] at h2;cases h2
       |some q=>obtain⟨v,h'⟩:=q;rw[hop] at h2;simp only[Sj,Pj] at h2;obtain⟨rfl,rfl⟩:=h2;have hop:opP o az h=some (v,h'):=hop;obtain⟨b1,b2⟩:=bW hb az;simp only[hop,b1,b2,Ps,H6,CH,Bool.true_or,Bool.and_self,Ak];rw[Iu lo hi n l hneed _ _ []];exact h5
   |true=>
   have hd:kD ⟨⟨dst,.op o,xs,g⟩,chk⟩ (M4 l)=.bl (Pp ⟨dst,.op o,xs,g⟩) p dst g xs:=by simp only[kD,hpb,hk,hneed]
   rw[hd] at e;obtain⟨w,hw,e1⟩:=rI hf (k:=λw=>@Bool.rec (λ_=>Bool)
    (p .unit fr (λfr=>go (Kq call lo hi n l r A7 fr h k)))
    (Ls (Pp ⟨dst,.op o,xs,g⟩) call fr h (λfr _=>RN A7 (Ob dst xs none h A7) (λs=>go (Kq call lo hi n l r s fr h k)))) w) e
   cases w with
   |false=>obtain⟨fr1,e2,h1⟩:=hp hf (v:=.unit) (c:=λfr=>go (Kq call lo hi n l r A7 fr h k)) e1;obtain⟨pf2,h4,fr2,h5,h6,e3⟩:=ih h1 e2;exact⟨pf2,h4,fr2,by simp only[Hm,hko,hw,h5],h6,e3⟩
   |true=>
    obtain⟨az,v,h',fr1,h2,h3,h4,e4⟩:=rH hc hf e1;simp only at h2 h3 h4;have e5:=RY e4;have h3:opP o az h=some (v,h'):=h3;obtain⟨pf2,h5,fr2,h6,h7,e6⟩:=ih h4 e5;obtain⟨b1,b2⟩:=bW hb az;have hcheck:(H6 lo hi (rdP o az)&&(!rdF o az||S9 h lo n)&&Pd xs (rdP o az) (rdF o az) h (A7.drop chk))=true:=by rw[b1,b2,Ps];rfl
    exact⟨pf2,h5,fr2,by simp only[Hm,hko,hw,h2,h3,hcheck,Ak];rw[b1,h6],h7,e6⟩
end
section
variable {F:D5} {K:Y2} {fr:Fr} {pf:PFr} {h:A0}
def WR (ex:KEx) (px:PEx):Prop:=∀(c:B7) {fr:Fr} {pf:PFr} {h:A0} {k:KX},FRK fr pf->ex c fr h k=true->∃x pf' h' fr',px c pf h=some (x,pf',h')/\FRK fr' pf'/\k x fr' h'=true
theorem kH (hf:FRK fr pf):∀{l:List Qb} {k:List PC->Bool},wF fr h l k=true->∃xs,Jm pf h l=some xs/\k xs=true
 |[],k,e=>⟨[],rfl,e⟩
 |r::l,k,e=>by
  cases r with
  |tmp key=>
   obtain⟨v,h1,e1⟩:=Qo hf (x:=.t key) (c:=λv=>@PA.rec (λ_=>Bool) (λx=>wF fr h l (λl=>k (x::l))) (λ_=>false) v) e;cases v with
   |tup _=>exact ff e1
   |v x=>obtain⟨xs,h2,e2⟩:=kH hf (l:=l) (k:=λl=>k (x::l)) e1;have h1:pf.get key=some (.v x):=h1;exact⟨x::xs,by simp only[Jm,K5,h1,h2],e2⟩
  |lS key=>
   obtain⟨v,h1,e1⟩:=Qo hf (x:=.t key) (c:=λv=>onV v λx=>Vd x (λb o=>Po h b (MA (λy=>wF fr h l (λl=>k (.s y::l))) o)) (λ_=>false) false) e;obtain⟨x,rfl,e2⟩:=Ky e1;rcases Wd e2 with⟨b,o,rfl,e3⟩|⟨_,rfl,e3⟩
   ·obtain⟨c,h2,e4⟩:=Rh e3;obtain⟨y,h3,e5⟩:=kE e4;obtain⟨xs,h4,e6⟩:=kH hf (l:=l) (k:=λl=>k (.s y::l)) e5;have hlt:=(Gi.1 h3).1;have hr:=O1 h2 (o:=o) (n:=1) Aa;have:(c.drop o).take 1=[y]:=by rw[Ax hlt];simp[(Gi.1 h3).2]
    rw[this] at hr;have h1:pf.get key=some (.v (.s (.ptr b o))):=h1;exact⟨.s y::xs,by simp only[Jm,K5,h1,hr,h4],e6⟩
   ·exact ff e3
  |lT key n=>
   obtain⟨v,h1,e1⟩:=Qo hf (x:=.t key) (c:=λv=>onV v λx=>Vd x (λb o=>Po h b (dK (λc=>dL n c (λr=>wF fr h l (λl=>k (.agg r::l)))) o)) (λ_=>false) false) e;obtain⟨x,rfl,e2⟩:=Ky e1;rcases Wd e2 with⟨b,o,rfl,e3⟩|⟨_,rfl,e3⟩;·obtain⟨c,h2,e4⟩:=Rh e3;obtain⟨h3,e5⟩:=Wa e4;obtain⟨h4,e6⟩:=Wb e5;obtain⟨xs,h5,e7⟩:=kH hf (l:=l) (k:=λl=>k (.agg ((c.drop o).take n)::l)) e6;have hr:=O1 h2 (o:=o) (n:=n) (by simp at h4;omega);have h1:pf.get key=some (.v (.s (.ptr b o))):=h1;exact⟨.agg ((c.drop o).take n)::xs,by simp only[Jm,K5,h1,hr,h5],e7⟩
   ·exact ff e3
theorem wL:∀{args:Ez} {i:Nat} {fr:Fr} {pf:PFr} {k:Fr->Bool},FRK fr pf->EL args (kn i) fr k=true->∃fr',FRK fr' (pf.G8 i args)/\k fr'=true
 |[],i,fr,pf,k,hf,e=>⟨fr,hf,e⟩
 |v::args,i,fr,pf,k,hf,e=>by obtain⟨g,p,h1,_,h3⟩:=jQ (kn i);have e:@Acc.rec (λ_=>Bool) (λ_ p=>p v fr (λfr=>Rg (kn i) (λn=>EL args n fr k))) (acc (kn i))=true:=e;rw[h1] at e;obtain⟨fr1,e1,h4⟩:=h3 v fr _ e;rw[O0] at e1;exact wL (i:=i+1) (RW hf h4) e1
theorem IG {ex:KEx} {px:PEx} (hx:WR ex px):rF (IC F ex) (fL F px):=by
 intro f args h k e;unfold IC at e;cases hF:F f with
 |none=>rw[hF] at e;exact ff e
 |some vf=>
  rw[hF] at e;obtain⟨results,body⟩:=vf;obtain⟨fr1,h1,e1⟩:=wL (i:=0) (pf:=Tr.z) (fr:=Fr.empty) (k:=λfr=>go (ex body fr h (λx fr h=>
   @Fk.rec (λ_=>Bool) (wF fr h results (λl=>k (G3 l) h)) (λ_=>false) (wF fr h results (λl=>k (G3 l) h)) x))) (λj w hw=>by rw[RD] at hw;cases hw) e
  obtain⟨x,pf2,h2,fr2,h3,h4,e2⟩:=hx body h1 e1;cases x with
  |normal=>obtain⟨xs,h5,e3⟩:=kH h4 e2;exact⟨_,h2,by simp only[fL,hF,h3,h5],e3⟩
  |exit i=>exact ff e2
  |ret=>obtain⟨xs,h5,e3⟩:=kH h4 e2;exact⟨_,h2,by simp only[fL,hF,h3,h5],e3⟩
theorem WS {a:PA} {k:PA->Bool} (e:IB a h k=true):∃r g,G4 deep a h=some (r,g)/\k r=true:=by
 unfold IB at e;cases hf:G4 deep a h with
 |none=>rw[hf] at e;exact ff e
 |some p=>obtain⟨r,g⟩:=p;rw[hf] at e;have e:jT r k=true:=e;rw[nJ] at e;exact⟨r,g,rfl,e⟩
theorem wM {ex:KEx} {px:PEx} (hx:WR ex px) {f:Nat} {xs:Ez} {k:PA->Bool} (e:jV F ex f xs k=true):∃r,aR F px f xs=some r/\k r=true:=by obtain⟨v,g,h1,e1⟩:=IG (F:=F) hx f xs .empty (λr g=>IB r g (λr=>k r)) e;obtain⟨r,g',h2,e2⟩:=WS e1;exact⟨r,by simp only[aR,h1,h2],e2⟩
theorem WT {ex:KEx} {px:PEx} (hx:WR ex px):rF (Xa F K ex) (Wp F K px):=by
 intro f args h k e;unfold Xa at e;cases hp:K.pure f with
 |false=>rw[hp] at e;obtain⟨v,h',h1,e1⟩:=IG (F:=F) hx f args h k e;exact⟨v,h',by simp only[Wp,hp];exact h1,e1⟩
 |true=>
  rw[hp] at e;have e:EK args h (λxs h=>@Option.rec PA (λ_=>Bool) (jV F ex f xs (λr=>go (k r h))) (λr=>k r h) (K.ans f xs))=true:=e;unfold EK at e;cases hz:Fw deep args h with
  |none=>rw[hz] at e;exact ff e
  |some q=>
   obtain⟨xs,⟨m,n⟩⟩:=q;rw[hz] at e;have e:@Option.rec PA (λ_=>Bool) (jV F ex f xs (λr=>go (k r ⟨m,n⟩))) (λr=>k r ⟨m,n⟩) (K.ans f xs)=true:=e;cases ha:K.ans f xs with
   |some r=>rw[ha] at e;exact⟨r,⟨m,n⟩,by simp only[Wp,hp,Ak,hz,ha],e⟩
   |none=>rw[ha] at e;obtain⟨r,h1,e1⟩:=wM (F:=F) hx (k:=λr=>go (k r ⟨m,n⟩)) e;exact⟨r,⟨m,n⟩,by simp only[Wp,hp,Ak,hz,ha,h1],e1⟩
theorem kI:∀l:List DOp,Ms l=D4 l
 |[]=>rfl
 |⟨⟨dst,act,xs,g⟩,chk⟩::l=>by
  have ih:=kI l;have e:Ms (⟨⟨dst,act,xs,g⟩,chk⟩::l)=@KD.rec (λ_=>Nat) (Ms l) (Nat.add (Ms l) 1) (Ms l) (Ms l) (Tb act):=rfl;rw[e,Ir];cases hk:Tb act with
  |eff=>simp[Wf hk,ih]
  |alc=>simp only[Wg hk,Ak];show Nat.add (Ms l) 1=_;rw[ih,DW]
  |rd=>obtain⟨o,rfl,ho⟩:=wJ hk;simp[Ff.kind,ho,ih]
  |bl=>obtain⟨o,rfl,ho,_⟩:=kG hk;simp[Ff.kind,ho,ih]
theorem nN:∀(n:Nat) (x:Key) (k:Key->Bool),rB n x k=k (Fz x n)
 |0,_,_=>rfl
 |n+1,x,k=>by show Rg x (λx=>rB n x k)=_;rw[O0,nN n];rfl
theorem II:∀n,WR (jZ (Xa F K) n) (Hy F K n)
 |0=>by intro c fr pf h k hf e;exact ff e
 |n+1=>by
  have ih:=II n;have hc:=WT (F:=F) (K:=K) ih;intro c fr pf h k hf e;cases c with
  |skip=>exact⟨_,pf,h,fr,rfl,hf,e⟩
  |region ops=>obtain⟨pf1,h1,fr1,h2,h3,e1⟩:=RX hc ops (k:=λfr h=>go (k .normal fr h)) hf e;exact⟨_,pf1,h1,fr1,by rw[iM,h2],h3,e1⟩
  |drawn ds=>
   obtain⟨mem,next⟩:=h;have e:rB (Ms ds) next (λhi=>Kq (Xa F K (jZ (Xa F K) n)) next hi (Ms ds) ds next [] fr ⟨mem,hi⟩ (λfr h=>go (k .normal fr h)))=true:=e
   rw[nN,kI] at e;obtain⟨pf1,h1,fr1,h2,h3,e1⟩:=wK hc (Ho _ _).symm ds hf e;exact⟨_,pf1,h1,fr1,by rw[mN];simp only[h2],h3,e1⟩
  |seq a b=>
   obtain⟨x,pf1,h1,fr1,h2,h3,e1⟩:=ih a (k:=λx fr h=>@Fk.rec (λ_=>Bool) (go (jZ (Xa F K) n b fr h k)) (λi=>k (.exit i) fr h) (k .ret fr h) x) hf e;cases x with
   |normal=>obtain⟨x,pf2,h4,fr2,h5,h6,e2⟩:=ih b (k:=k) h3 e1;exact⟨x,pf2,h4,fr2,by rw[eL,h2];exact h5,h6,e2⟩
   |exit i=>exact⟨_,pf1,h1,fr1,by rw[eL,h2],h3,e1⟩
   |ret=>exact⟨_,pf1,h1,fr1,by rw[eL,h2],h3,e1⟩
  |cond x a b=>
   obtain⟨v,h1,e1⟩:=Qo hf (x:=x) (c:=λv=>onV v λx=>qW x λt=>@Bool.rec (λ_=>Bool) (go (jZ (Xa F K) n b fr h k)) (go (jZ (Xa F K) n a fr h k)) t) e;obtain⟨y,rfl,e2⟩:=Ky e1;obtain⟨t,rfl,e3⟩:=wG e2;cases t with
   |true=>obtain⟨x,pf2,h4,fr2,h5,h6,e4⟩:=ih a (k:=k) hf e3;exact⟨x,pf2,h4,fr2,by rw[iN,h1];exact h5,h6,e4⟩
   |false=>obtain⟨x,pf2,h4,fr2,h5,h6,e4⟩:=ih b (k:=k) hf e3;exact⟨x,pf2,h4,fr2,by rw[iN,h1];exact h5,h6,e4⟩
  |block id a=>
   obtain⟨x,pf1,h1,fr1,h2,h3,e1⟩:=ih a (k:=λx fr h=>@Fk.rec (λ_=>Bool) (k .normal fr h) (λj=>@Bool.rec (λ_=>Bool) (k (.exit j) fr h) (k .normal fr h) (Nat.beq j id)) (k .ret fr h) x) hf e;cases x with
   |normal=>exact⟨_,pf1,h1,fr1,by rw[Q8,h2],h3,e1⟩
   |exit j=>
    have e1:@Bool.rec (λ_=>Bool) (k (.exit j) fr1 h1) (k .normal fr1 h1) (Nat.beq j id)=true:=e1;cases hj:Nat.beq j id with
    |true=>rw[hj] at e1;rw[BQ] at hj;exact⟨_,pf1,h1,fr1,by rw[Q8,h2];simp only[hj,Ak],h3,e1⟩
    |false=>
     rw[hj] at e1;have hne:j≠id:=by rintro rfl;simp at hj
     exact⟨_,pf1,h1,fr1,by rw[Q8,h2];simp only[hne,Ag],h3,e1⟩
   |ret=>exact⟨_,pf1,h1,fr1,by rw[Q8,h2],h3,e1⟩
  |loop a=>
   obtain⟨x,pf1,h1,fr1,h2,h3,e1⟩:=ih a (k:=λx fr h=>@Fk.rec (λ_=>Bool) (go (jZ (Xa F K) n (.loop a) fr h k)) (λi=>k (.exit i) fr h) (k .ret fr h) x) hf e;cases x with
   |normal=>obtain⟨x,pf2,h4,fr2,h5,h6,e2⟩:=ih (.loop a) (k:=k) h3 e1;exact⟨x,pf2,h4,fr2,by rw[Zn,h2];exact h5,h6,e2⟩
   |exit i=>exact⟨_,pf1,h1,fr1,by rw[Zn,h2],h3,e1⟩
   |ret=>exact⟨_,pf1,h1,fr1,by rw[Zn,h2],h3,e1⟩
  |exit id=>exact⟨_,pf,h,fr,rfl,hf,e⟩
  |ret=>exact⟨_,pf,h,fr,rfl,hf,e⟩
theorem Abw {n f:Nat} {xs:Ez} {k:PA->Bool} (e:runK F K n f xs k=true):∃r,runP F K n f xs=some r/\k r=true:=wM (II n) e
end
theorem SG:∀{l m:EF},Abx l m=true->l=m
 |[],[],_=>rfl
 |[],_::_,e=>ff e
 |_::_,[],e=>ff e
 |a::l,b::m,e=>by obtain⟨h1,h2⟩:=J3 (c:=Nat.beq a b) (a:=Abx l m) e;rw[BQ] at h1;rw[h1,SG h2]
theorem Adh {a b:Int} (e:eqI a b=true):a=b:=by
 cases a with
 |ofNat m=>cases b with
  |ofNat n=>have e:Nat.beq m n=true:=e;rw[BQ] at e;rw[e]
  |negSucc n=>exact ff e
 |negSucc m=>cases b with
  |ofNat n=>exact ff e
  |negSucc n=>have e:Nat.beq m n=true:=e;rw[BQ] at e;rw[e]
theorem Adi {a b:IntKind} (e:eqK a b=true):a=b:=by cases a<;>cases b<;>first|rfl|exact ff e
theorem Adj {a b:Bool} (e:eqB a b=true):a=b:=by cases a<;>cases b<;>first|rfl|exact ff e
mutual
theorem Aac:∀(x:PV) {y:PV},eqV x y=true->x=y
 |.bool b,y,e=>by cases y with
  |bool c=>rw[Adj (a:=b) (b:=c) e]
  |_=>exact ff e
 |.int k n,y,e=>by cases y with
  |int k' m=>
   obtain⟨h1,h2⟩:=J3 (c:=eqK k k') (a:=eqI n m) e
   rw[Adi h1,Adh h2]
  |_=>exact ff e
 |.str l,y,e=>by cases y with
  |str m=>rw[SG (l:=l) (m:=m) e]
  |_=>exact ff e
 |.ptr _ _,y,e=>ff e
 |.Iv,y,e=>by cases y with
  |Iv=>rfl
  |_=>exact ff e
 |.slice _ _ _ _ _,y,e=>ff e
 |.A4,y,e=>by cases y with
  |A4=>rfl
  |_=>exact ff e
 |.map _,y,e=>ff e
 |.Ic,y,e=>by cases y with
  |Ic=>rfl
  |_=>exact ff e
 |.func _ _ _,y,e=>ff e
 |.J5,y,e=>by cases y with
  |J5=>rfl
  |_=>exact ff e
 |.lst es l cap,y,e=>by cases y with
  |lst es' l' cap'=>
   obtain⟨h1,h2⟩:=J3 (c:=Nat.beq es es') e
   rw[BQ] at h1
   cases cap with
   |some _=>exact ff h2
   |none=>cases cap' with
    |some _=>exact ff h2
    |none=>rw[h1,SH l h2]
  |_=>exact ff e
 |.rp l,y,e=>by cases y with
  |rp l'=>rw[rM l (m:=l') e]
  |_=>exact ff e
theorem SH:∀(l:Eu) {m:Eu},eqLL l m=true->l=m
 |[],m,e=>by cases m with
  |nil=>rfl
  |cons _ _=>exact ff e
 |a::l,m,e=>by cases m with
  |nil=>exact ff e
  |cons b m=>
   obtain⟨h1,h2⟩:=J3 (c:=WU a b) (a:=eqLL l m) e
   rw[rM a h1,SH l h2]
theorem rM:∀(l:Ey) {m:Ey},WU l m=true->l=m
 |[],m,e=>by cases m with
  |nil=>rfl
  |cons _ _=>exact ff e
 |a::l,m,e=>by cases m with
  |nil=>exact ff e
  |cons b m=>
   obtain⟨h1,h2⟩:=J3 (c:=eqV a b) (a:=WU l m) e
   rw[Aac a h1,rM l h2]
end
theorem Aad {x y:PC} (e:eqC x y=true):x=y:=by
 cases x with
 |s a=>cases y with
  |s b=>rw[Aac a (y:=b) e]
  |agg _=>exact ff e
 |agg l=>cases y with
  |s _=>exact ff e
  |agg m=>rw[rM l (m:=m) e]
theorem SI:∀{l m:List PC},Ab2 l m=true->l=m
 |[],[],_=>rfl
 |[],_::_,e=>ff e
 |_::_,[],e=>ff e
 |a::l,b::m,e=>by obtain⟨h1,h2⟩:=J3 (c:=eqC a b) (a:=Ab2 l m) e;rw[Aad h1,SI h2]
theorem Aae {x y:PA} (e:eqA x y=true):x=y:=by
 cases x with
 |v a=>cases y with
  |v b=>rw[Aad (x:=a) (y:=b) e]
  |tup _=>exact ff e
 |tup l=>cases y with
  |v _=>exact ff e
  |tup m=>rw[SI (l:=l) (m:=m) e]
theorem SJ:∀{l m:Ez},SE l m=true->l=m
 |[],[],_=>rfl
 |[],_::_,e=>ff e
 |_::_,[],e=>ff e
 |a::l,b::m,e=>by obtain⟨h1,h2⟩:=J3 (c:=eqA a b) (a:=SE l m) e;rw[Aae h1,SJ h2]
theorem rN {α:Type}:∀(k:Key) (t:Tr α),Ab3 k t=t.get k
 |.h,.z=>rfl
 |.h,.n _ _ _=>rfl
 |.o k,.z=>rfl
 |.o k,.n l _ _=>rN k l
 |.i k,.z=>rfl
 |.i k,.n _ _ r=>rN k r
theorem IJ {xs:Ez} {r:PA}:∀{l:Ent},SF xs l=some r->(xs,r)∈l
 |[],e=>by cases e
 |(ys,r')::l,e=>by
  have e:@Bool.rec (λ_=>Option PA) (SF xs l) (some r') (SE xs ys)=some r:=e;cases h:SE xs ys with
  |true=>rw[h] at e;cases e;rw[SJ h];exact BV
  |false=>rw[h] at e;exact BX _ (IJ e)
def O6 {α:Type} (P:Key->α->Prop):Tr α->Prop
 |.z=>True
 |.n l v r=>O6 (λk=>P (.o k)) l/\(∀x,v=some x->P .h x)/\O6 (λk=>P (.i k)) r
theorem O6.get {α:Type}:∀{P:Key->α->Prop} {t:Tr α},O6 P t->∀(k:Key) (x:α),t.get k=some x->P k x
 |P,.z,_,k,x,e=>by simp at e
 |P,.n l v r,h,.h,x,e=>h.2.1 x e
 |P,.n l v r,h,.o k,x,e=>h.1.get k x e
 |P,.n l v r,h,.i k,x,e=>h.2.2.get k x e
theorem O6.mono {α:Type}:∀{P Q:Key->α->Prop} {t:Tr α},O6 P t->(∀k x,P k x->Q k x)->O6 Q t
 |P,Q,.z,_,_=>trivial
 |P,Q,.n l v r,h,hq=>⟨h.1.mono λk x=>hq _ x,λx e=>hq _ x (h.2.1 x e),h.2.2.mono λk x=>hq _ x⟩
def Tc (F:D5) (f:Nat) (l:Ent):Prop:=∀e∈l,A3 F f e.1 e.2
theorem Tc.nil (F:D5) (f:Nat):Tc F f []:=λ_ h=>Ad
theorem Tc.cons {F:D5} {f:Nat} {xs:Ez} {r:PA} {l:Ent} (h:A3 F f xs r) (h':Tc F f l):Tc F f ((xs,r)::l):=by
 intro e he;rcases Af.1 he with rfl|he
 ·exact h
 ·exact h' e he
theorem Tc.append {F:D5} {f:Nat} {l l':Ent} (h:Tc F f l) (h':Tc F f l'):Tc F f (l++l'):=by
 intro e he;rcases Av.1 he with he|he
 ·exact h e he
 ·exact h' e he
def O2 (F:D5) (tab:Tr Ent):Prop:=O6 (λk l=>Tc F k.toNat l) tab
theorem SK {F:D5} {pure:Tr Bool} {tab:Tr Ent} (h:O2 F tab):eK F (known pure tab):=by
 intro f xs r _ ha;simp only[known,rN] at ha;cases hl:tab.get (kn f) with
 |none=>rw[hl] at ha;cases ha
 |some l=>
  rw[hl] at ha
  have:=h.get (kn f) l hl (xs,r) (IJ ha)
  rwa [Key.toNat_kn] at this
theorem entry {F:D5} {pure:Tr Bool} {tab:Tr Ent} (h:O2 F tab) {n f:Nat} {xs:Ez} {r:PA} (e:runK F (known pure tab) n f xs (λv=>eqA v r)=true):A3 F f xs r:=by obtain⟨v,h1,h2⟩:=Abw e;rw[<-Aae h2];exact AaE (SK h) h1
end Go.Pv.K
end
section
noncomputable section
namespace Go.Pv
open Go.Vm Go.Vm.C
open Go.Vm.Key (kn)
set_option maxRecDepth 40000
set_option maxHeartbeats 0
section
variable {T:EG} {f:Fo} {c N:Nat}
structure wN:Prop where
 inn:∀d,d<16->∀c,c<4->A3 Fn 54 [dA d,cA c] (bA (d.testBit c))
abbrev cnC (f:Fo) (c N:Nat):Ey:=[.lst 5 (f.ns.map nV) none,.lst 3 (f.rs.map rV) none,.int .u64 (c:Nat),.slice k1 0 N 1 (some N),.slice k2 0 N 1 (some N),.bool false]
abbrev cnL (f:Fo) (c N:Nat) (ks ds:Ey) (l0 l1 l2:Es):List (Key×B4):=[(k0,obl (cnC f c N) l0),(k1,obl ks l1),(k2,obl ds l2)]
abbrev cnX (f:Fo) (c N:Nat) (ks ds:Ey) (l0 l1 l2:Es):List (Option B4):=[some (obl (cnC f c N) l0),some (obl ks l1),some (obl ds l2)]
abbrev cnR:Ew:=[(k0,k0),(k1,k1),(k2,k2)]
structure Hw (T:EG) (N:Nat) (ks ds:Ey):Prop where
 kl:ks.length=N
 dl:ds.length=N
 knk:∀v∈ks,A2 v
 dnk:∀v∈ds,A2 v
 kf:∀i,i<N->∃v,ks[i]?=some v
 df:∀i,i<N->∃b,ds[i]?=some (.bool b)/\(b=true->∃v,ks[i]?=some v/\A6 (T i).length v)
structure wO (T:EG) (f:Fo) (c N:Nat) (n:Nat) (r:PA) (g:A0):Prop where
 num:∃v,r=.v (.s v)/\A6 n v
 blk:∃ks ds l0 l1 l2,Hw T N ks ds/\g.get k0=some (obl (cnC f c N) l0)/\g.get k1=some (obl ks l1)/\g.get k2=some (obl ds l2)
theorem E7 {ks ds:Ey} {l0 l1 l2:Es} (hm:Hw T N ks ds) {g:A0} (e0:g.get k0=some (obl (cnC f c N) l0)) (e1:g.get k1=some (obl ks l1)) (e2:g.get k2=some (obl ds l2)):Na (rho 0 cnR) g (cnL f c N ks ds [] [] []):=
 ⟨⟨_,_,rfl,e0,.same Yc⟩,⟨_,_,rfl,e1,.same (A2.cells hm.knk)⟩,⟨_,_,rfl,e2,.same (A2.cells hm.dnk)⟩,Ae⟩
theorem E5 {ks ds ks' ds':Ey} {a0 a1 a2 l0 l1 l2:Es} {gc' g:A0} {q0 q1 q2:B4} (hm:Hw T N ks' ds') (e0:gc'.get k0=some (obl (cnC f c N) a0)) (e1:gc'.get k1=some (obl ks' a1)) (e2:gc'.get k2=some (obl ds' a2))
  (h0:g.get k0=some q0) (h1:g.get k1=some q1) (h2:g.get k2=some q2) (hq0:q0.log=l0) (hq1:q1.log=l1) (hq2:q2.log=l2):Nb (muR cnR []) g gc' (cnL f c N ks ds [] [] []) cnR (cnX f c N ks' ds' (a0++l0) (a1++l1) (a2++l2)):=
 ⟨⟨_,_,_,e0,.same Yc,h0,rfl,rfl,by rw[hq0]⟩,⟨_,_,_,e1,.same (A2.cells hm.knk),h1,rfl,rfl,by rw[hq1]⟩,⟨_,_,_,e2,.same (A2.cells hm.dnk),h2,rfl,rfl,by rw[hq2]⟩,Ae⟩
theorem Gf {ks ds:Ey} (hm:Hw T N ks ds) {a b:Nat} {v w:PV} (ha:A6 a v) (hb:A6 b w) (hs:a+b<4294967296) :
  XC Fn 68 [.v (.s (.ptr k0 0)),.v (.s v),.v (.s w)] (mkH (cnL f c N ks ds [] [] []) k3) (wO T f c N (a+b)):=by obtain⟨r,h1,h2⟩:=VP ha hb hs;have fv:=ha.flat;have fw:=hb.flat;refine Ek pt C.f68 rfl ?_;refine Yw1 ?_;exact⟨⟨_,rfl,h2⟩,_,_,_,_,_,hm,rfl,rfl,rfl⟩
def Ab4 (T:EG) (f:Fo) (c N i:Nat):Prop:=∀ks ds,Hw T N ks ds->XC Fn 55 [.v (.s (.ptr k0 0)),iA i] (mkH (cnL f c N ks ds [] [] []) k3) (wO T f c N (T i).length)
def MH (T:EG) (f:Fo) (c N k:Nat):Prop:=∀ks ds,Hw T N ks ds->XC Fn 114 [.v (.s (.ptr k0 0)),.v (.agg (kV k))] (mkH (cnL f c N ks ds [] [] []) k3) (wO T f c N (T k).length)
theorem rP {i:Nat} (hG:Ab4 T f c N i):MH T f c N i:=by intro ks ds hm;refine Ek pt C.f114 rfl ?_;refine Yw1 ?_;refine En (cnL f c N ks ds [] [] []) k3 cnR (hG ks ds hm) (E7 hm rfl rfl rfl) Ya ?_;rintro rc gc' ⟨⟨v,rfl,hv⟩,ks',ds',l0,l1,l2,hm',e0,e1,e2⟩;refine⟨[],k4,cnX f c N ks' ds' (l0++[]) (l1++[]) (l2++[]),[],.v (.s v),rfl,Rl,E5 hm' e0 e1 e2 rfl rfl rfl rfl rfl rfl,Ae,hv.nk.rn,?_⟩;refine Yw1 ?_;exact⟨⟨v,rfl,hv⟩,_,_,_,_,_,hm',rfl,rfl,rfl⟩
theorem eW {a:Al} (h2:a.ks.length<=2) (hk:∀k∈a.ks,MH T f c N k) (hs:(B9 T a.ks).length<4294967296) {ks ds:Ey} (hm:Hw T N ks ds) :
  XC Fn 112 [.v (.s (.ptr k0 0)),.v (.agg (aC a))] (mkH (cnL f c N ks ds [] [] []) k3) (wO T f c N (B9 T a.ks).length):=by
 obtain⟨p,l,d⟩:=a;obtain⟨r1,o1,o2⟩:=zB (n:=1) Ab;have fr1:=o2.flat;refine Ek pt C.f112 rfl ?_;rcases l with _|⟨x,_|⟨y,_|⟨z,l⟩⟩⟩;·refine Yz pt ?_;refine Ek pt C.f180 rfl ?_;refine Yz pt ?_;refine Yy pt ?_;exact⟨⟨_,rfl,o2⟩,_,_,_,_,_,hm,rfl,rfl,rfl⟩
 ·have kx:=hk x Ac;clear hk h2;rw[Sw] at hs ⊢;refine Yz pt ?_;refine En (cnL f c N ks ds [] [] []) k3 cnR (kx ks ds hm) (E7 hm rfl rfl rfl) Ya ?_;rintro rc gc' ⟨⟨v,rfl,hv⟩,ks1,ds1,p0,p1,p2,hm1,e0,e1,e2⟩;refine⟨[],k4,cnX f c N ks1 ds1 (p0++[]) (p1++[]) (p2++[]),[],.v (.s v),rfl,Rl,E5 hm1 e0 e1 e2 rfl rfl rfl rfl rfl rfl,Ae,hv.nk.rn,?_⟩;clear e0 e1 e2;obtain⟨r2,p1,p2⟩:=Zt o2 hv (by rw[Ce];exact hs);rw[Ce] at p2;have fv:=hv.flat;have fr2:=p2.flat;clear hs;generalize hn:(T x).length=n at *;refine Yz pt ?_;refine Ek pt C.f180 rfl ?_;refine Yx pt ?_;cases hv;·refine Yw1 ?_;exact⟨⟨_,rfl,by first|(rw[Bo];exact A6.nil)|(rw[BN];exact A6.nil)|exact A6.nil⟩,_,_,_,_,_,hm1,rfl,rfl,rfl⟩
  ·refine Yw1 ?_;exact⟨⟨_,rfl,by first|(rw[Bo];exact A6.nil)|(rw[BN];exact A6.nil)|exact A6.nil⟩,_,_,_,_,_,hm1,rfl,rfl,rfl⟩
  ·refine Yz pt ?_;refine Yy pt ?_;refine Yy pt ?_;exact⟨⟨_,rfl,p2⟩,_,_,_,_,_,hm1,rfl,rfl,rfl⟩
 ·have kx:=hk x Ac;have ky:=hk y Ac;clear hk h2;rw[Md] at hs ⊢;have hs':True->(T x).length*(T y).length<4294967296:=λ_=>hs;clear hs;refine Yz pt ?_;refine En (cnL f c N ks ds [] [] []) k3 cnR (kx ks ds hm) (E7 hm rfl rfl rfl) Ya ?_;rintro rc gc' ⟨⟨v,rfl,hv⟩,ks1,ds1,p0,p1,p2,hm1,e0,e1,e2⟩;refine⟨[],k4,cnX f c N ks1 ds1 (p0++[]) (p1++[]) (p2++[]),[],.v (.s v),rfl,Rl,E5 hm1 e0 e1 e2 rfl rfl rfl rfl rfl rfl,Ae,hv.nk.rn,?_⟩;clear e0 e1 e2;refine Yz pt ?_;refine En (cnL f c N ks1 ds1 [] [] []) k3 cnR (ky ks1 ds1 hm1) (E7 hm1 rfl rfl rfl) Ya ?_;rintro rc gc' ⟨⟨w,rfl,hw⟩,ks2,ds2,q0,q1,q2,hm2,e0,e1,e2⟩;refine⟨[],k6,cnX f c N ks2 ds2 (q0++_) (q1++_) (q2++_),[],.v (.s w),rfl,Rl,E5 hm2 e0 e1 e2 rfl rfl rfl rfl rfl rfl,Ae,hw.nk.rn,?_⟩;clear e0 e1 e2;obtain⟨r2,p1,p2⟩:=Zt o2 hv (by rw[Ce];exact hv.lt);rw[Ce] at p2;obtain⟨r3,q1,q2⟩:=Zt p2 hw (hs' Ae);have fv:=hv.flat;have fw:=hw.flat;have fr2:=p2.flat;have fr3:=q2.flat;clear hs';generalize hn:(T x).length=n at *;generalize hj:(T y).length=q at *;refine Yz pt ?_;refine Ek pt C.f180 rfl ?_;refine Yx pt ?_;cases hv;·refine Yw1 ?_;exact⟨⟨_,rfl,by first|(rw[Bo];exact A6.nil)|(rw[BN];exact A6.nil)|exact A6.nil⟩,_,_,_,_,_,hm2,rfl,rfl,rfl⟩
  ·refine Yw1 ?_;exact⟨⟨_,rfl,by first|(rw[Bo];exact A6.nil)|(rw[BN];exact A6.nil)|exact A6.nil⟩,_,_,_,_,_,hm2,rfl,rfl,rfl⟩
  ·refine Yx pt ?_;cases hw;·refine Yw1 ?_;exact⟨⟨_,rfl,by first|(rw[Bo];exact A6.nil)|(rw[BN];exact A6.nil)|exact A6.nil⟩,_,_,_,_,_,hm2,rfl,rfl,rfl⟩
   ·refine Yw1 ?_;exact⟨⟨_,rfl,by first|(rw[Bo];exact A6.nil)|(rw[BN];exact A6.nil)|exact A6.nil⟩,_,_,_,_,_,hm2,rfl,rfl,rfl⟩
   ·refine Yz pt ?_;refine Yy pt ?_;refine Yy pt ?_;refine Yy pt ?_;exact⟨⟨_,rfl,q2⟩,_,_,_,_,_,hm2,rfl,rfl,rfl⟩
 ·simp at h2
end
section
variable {T:EG} {f:Fo} {c N:Nat}
theorem Hw.set {ks ds:Ey} (h:Hw T N ks ds) {i:Nat} {v:PV} (hv:A6 (T i).length v):Hw T N (ks.set i v) (ds.set i (.bool true)) where
 kl:=by rw[Cz];exact h.kl
 dl:=by rw[Cz];exact h.dl
 knk u hu:=by
  rcases Ci hu with hu|rfl;·exact h.knk u hu
  ·exact hv.nk
 dnk u hu:=by
  rcases Ci hu with hu|rfl;·exact h.dnk u hu
  ·exact Ae
 kf j hj:=by
  by_cases e:i=j;·subst e;exact⟨v,CB (by rw[h.kl];exact hj)⟩
  ·rw[BW e];exact h.kf j hj
 df j hj:=by
  by_cases e:i=j;·subst e;exact⟨true,CB (by rw[h.dl];exact hj),λ_=>⟨v,CB (by rw[h.kl];exact hj),hv⟩⟩
  ·rw[BW e,BW e];exact h.df j hj
theorem bX {lo:Nat} {L1 L2:Fm} {ks ds:Ey} {l0 l1 l2:Es} {g:A0} (hlo:lo=3) (hm:Hw T N ks ds) (e0:g.get k0=some (obl (cnC f c N) l0)) (e1:g.get k1=some (obl ks l1)) (e2:g.get k2=some (obl ds l2)) (hf:Jz (rho lo []) L1 L2):Trim lo (rho lo []) L1 g L2 (mkH (cnL f c N ks ds l0 l1 l2) k3):=by subst hlo;exact Trim.of (lo:=3) (l:=cnL f c N ks ds l0 l1 l2) (nx:=k3) [] rfl Rl ⟨e2.symm,e1.symm,e0.symm,Ae⟩ ⟨⟨_,_,rfl,e0,.same Yc⟩,⟨_,_,rfl,e1,.same (A2.cells hm.knk)⟩,⟨_,_,rfl,e2,.same (A2.cells hm.dnk)⟩,Ae⟩ hf
theorem XG (D:wN) (hc:c<4) (hN:f.ns.length=N) {i:Nat} {n:Nd} (hi:i<N) (hL:N<=4) (hn:(f.ns.map nV)[(i:Int).toNat]?=some (nC n)) (nL:n.az.length<=3) (hal:∀a∈n.az,a.ks.length<=2/\a.d<16/\∀k∈a.ks,MH T f c N k)
  (hT:T i=C7 T c n.az) (hB:(C7 T c n.az).length<4294967296):Ab4 T f c N i:=by
 intro ks ds hm;have nlen:(n.az.map aV).length=n.az.length:=Lm ..;have hlen:(f.ns.map nV).length=f.ns.length:=Lm ..;obtain⟨b,hd,hdb⟩:=hm.df i hi;refine Ek pt C.f55 rfl ?_;refine Yw1 ?_;refine⟨_,_,Te rfl hd,?_⟩;cases b
 ·refine Yw1 ?_;refine XW.B6 (pu:=pt) (σ:=Nat×PV) (λq=>n.az.length-q.1) (λq=>[pE k0 k0,(k1,.v (iA i)),sE k5 q.2,(k6,.v (PA.lst 4 (n.az.map aV))),(k7,.v (iA q.1))])
   (λq g=>q.1<=n.az.length/\A6 (C7 T c (n.az.take q.1)).length q.2/\∃ks ds l0 l1 l2,Hw T N ks ds/\g=mkH (cnL f c N ks ds l0 l1 l2) k3) (0,.A4)
   (bX rfl hm rfl rfl rfl Yf) ⟨Zl,A6.nil,ks,ds,[],[],[],hm,rfl⟩ ?_
  clear hm hd hdb;rintro⟨j,v⟩ g ⟨hj,hv,ks,ds,l0,l1,l2,hm,rfl⟩;replace hj:j<=n.az.length:=hj;replace hv:A6 (C7 T c (n.az.take j)).length v:=hv;have vnk:=hv.nk;refine⟨λh=>?_,λh=>?_⟩
  ·have hj:j<n.az.length:=by have:=B0 h;omega
   have ha:n.az[j]?=some n.az[j]:=Gg hj;have htk:n.az.take (j+1)=n.az.take j++[n.az[j]]:=An hj;have hin:n.az[j]∈n.az:=AU hj;generalize n.az[j]=a at ha htk hin;have hga:=Ii ha;obtain⟨a1,a2,a3⟩:=hal a hin;have dh:=D.inn a.d a2 c hc;have hs:=Hi T c (n.az.take j) a;rw[<-htk] at hs;have hle:=M1 T c n.az (j+1);generalize (C7 T c n.az).length=full at hB hle;have hl:=Bh List.length hs;cases hb:a.d.testBit c;·rw[hb] at dh hs hl;simp only[Fj,Ag,Ay] at hs hl;refine Yw1 ?_;exact⟨(j+1,v),_,_,Lq,bX rfl hm rfl rfl rfl Yf,hj,(by rw[hs];exact hv),ks,ds,_,_,_,hm,rfl⟩
   ·rw[hb] at dh hs hl;simp only[Ak,La,Lm] at hl;have alt:=eW (T:=T) (f:=f) (c:=c) (N:=N) (a:=a) a1 a3 Aa hm;generalize (B9 T a.ks).length=q at alt hl;refine Yw1 ?_;refine En (cnL f c N ks ds [] [] []) k3 cnR alt (E7 hm rfl rfl rfl) Ya ?_;rintro rc gc' ⟨⟨u,rfl,hu⟩,ks2,ds2,a0,b0,c0,hm2,e0,e1,e2⟩;refine⟨[],k3,cnX f c N ks2 ds2 (a0++l0) (b0++l1) (c0++l2),[],.v (.s u),rfl,Rl,E5 hm2 e0 e1 e2 rfl rfl rfl rfl rfl rfl,Ae,hu.nk.rn,?_⟩;have unk:=hu.nk;have hadd:=Gf (f:=f) (c:=c) hm2 hv hu Aa;rw[<-hl] at hadd;refine Yw1 ?_;clear e0 e1 e2;refine En (cnL f c N ks2 ds2 [] [] []) k3 cnR hadd (E7 hm2 rfl rfl rfl) Ya ?_;rintro rc gc' ⟨⟨w,rfl,hw⟩,ks3,ds3,a1,b1,c1,hm3,e0,e1,e2⟩;refine⟨[],k3,cnX f c N ks3 ds3 (a1++_) (b1++_) (c1++_),[],.v (.s w),rfl,Rl,E5 hm3 e0 e1 e2 rfl rfl rfl rfl rfl rfl,Ae,hw.nk.rn,?_⟩;have wnk:=hw.nk;refine Yw1 ?_;exact⟨(j+1,w),_,_,Lq,bX rfl hm3 rfl rfl rfl Yf,hj,hw,ks3,ds3,_,_,_,hm3,rfl⟩
  ·have hfull:n.az.take j=n.az:=by rw[show j=n.az.length from by have:=B5 h;omega];exact AB
   rw[hfull,<-hT] at hv;have hm2:=hm.set (i:=i) hv;refine Yw1 ?_;refine⟨_,_,Tf rfl (by rw[hm.kl];exact hi) rfl,?_⟩;refine Yw1 ?_;refine⟨_,_,Tf rfl (by rw[hm.dl];exact hi) rfl,?_⟩;refine Yw1 ?_;exact⟨⟨_,rfl,hv⟩,_,_,_,_,_,hm2,rfl,rfl,rfl⟩
 ·obtain⟨v,hk,hv⟩:=hdb rfl;refine Yw1 ?_;refine⟨_,_,Te rfl hk,?_⟩;refine Yw1 ?_;exact⟨⟨_,rfl,hv⟩,_,_,_,_,_,hm,rfl,rfl,rfl⟩
theorem Vf {f:Fo} {c:Nat} (D:wN) (hc:c<4) (w:WF0 f) (v:WF f):∀i,i<f.ns.length->Ab4 (Tr2 f c) f c f.ns.length i:=by
 intro i;induction i using Nat.strongRecOn with
 |ind i ih=>intro hi;have hn:f.ns[i]?=some f.ns[i]:=Gg hi;generalize f.ns[i]=n at hn;have hL:=w.len;have hg:=I6 hn;rw[J2 (v.as0 i n hn)] at hg;have hU:=qK (c:=c) (Sv w) i n hn;have hlen:=Ll (c:=c) w i hi;have hpx:=Xx i Aa;have hB:(Tr2 f c i).length<4294967296:=Aa;refine XG D hc rfl hi hL hg (w.Kw i n hn) (λa ha=>⟨(w.al i n hn a ha).1,(w.al i n hn a ha).2.2.1,λk hk=>?_⟩) hU (by rw[<-hU];exact hB);have hki:=(w.al i n hn a ha).2.1 k hk;exact rP (ih k hki Aa)
end
theorem total_ok {f:Fo} {c:Nat} (D:wN) (hc:c<4) (w:WF0 f) (w1:WF f) {ks ds:Ey} (hm:Hw (Tr2 f c) f.ns.length ks ds) :
  XC Fn 32 [.v (.s (.ptr k0 0))] (mkH (cnL f c f.ns.length ks ds [] [] []) k3) λr g=>(∃v,r=.tup [.s v,.s (.int .i64 ((0:Nat):Int))]/\A6 (B1 (Tr2 f c) c f.rs).length v) /\
   ∃ks ds l0 l1 l2,Hw (Tr2 f c) f.ns.length ks ds/\g.get k0=some (obl (cnC f c f.ns.length) l0)/\g.get k1=some (obl ks l1)/\g.get k2=some (obl ds l2):=by
 have hrlen:(f.rs.map rV).length=f.rs.length:=Lm ..;have hL:=w.len;have rL:=w.Nl;refine Ek pt C.f32 rfl ?_;refine Yw1 ?_;refine XW.B6 (pu:=pt) (σ:=Nat×PV) (λq=>f.rs.length-q.1) (λq=>[pE k0 k0,sE k4 q.2,(k5,.v (iA q.1))])
  (λq g=>q.1<=f.rs.length/\A6 (B1 (Tr2 f c) c (f.rs.take q.1)).length q.2/\∃ks ds l0 l1 l2,Hw (Tr2 f c) f.ns.length ks ds/\g=mkH (cnL f c f.ns.length ks ds l0 l1 l2) k3) (0,.A4)
  (bX rfl hm rfl rfl rfl Yf) ⟨Zl,A6.nil,ks,ds,[],[],[],hm,rfl⟩ ?_
 clear hm;rintro⟨i,v⟩ g ⟨hi,hv,ks,ds,l0,l1,l2,hm,rfl⟩;replace hi:i<=f.rs.length:=hi;replace hv:A6 (B1 (Tr2 f c) c (f.rs.take i)).length v:=hv;have vnk:=hv.nk;have hmax:(B1 (Tr2 f c) c f.rs).length<4294967296:=Z5 w;refine⟨λh=>?_,λh=>?_⟩
 ·have hi:i<f.rs.length:=by have:=B0 h;omega
  have hr:f.rs[i]?=some f.rs[i]:=Gg hi;have htk:f.rs.take (i+1)=f.rs.take i++[f.rs[i]]:=An hi;generalize f.rs[i]=r at hr htk;have hgr:=Je hr;obtain⟨r1,r2,r3⟩:=w.rt i r hr;rw[r1] at hgr;have dh:=D.inn r.2 r2 c hc;have hs:=Me (Tr2 f c) c (f.rs.take i) r;rw[<-htk,r1] at hs;have hle:=Sy (Tr2 f c) c f.rs (i+1);have hG:=Vf D hc w w1 i Aa ks ds hm;generalize (B1 (Tr2 f c) c f.rs).length=full at hmax hle;have hl:=Bh List.length hs;cases hb:r.2.testBit c;·rw[hb] at dh hs hl;simp only[Fj,Ag,Ay] at hs hl;refine Yw1 ?_;exact⟨(i+1,v),_,_,Lq,bX rfl hm rfl rfl rfl Yf,hi,(by rw[hs];exact hv),ks,ds,_,_,_,hm,rfl⟩
  ·rw[hb] at dh hs hl;simp only[Ak,La] at hl;refine Yw1 ?_;refine En (cnL f c f.ns.length ks ds [] [] []) k3 cnR hG (E7 hm rfl rfl rfl) Ya ?_;rintro rc gc' ⟨⟨u,rfl,hu⟩,ks2,ds2,a0,b0,c0,hm2,e0,e1,e2⟩;refine⟨[],k3,cnX f c f.ns.length ks2 ds2 (a0++l0) (b0++l1) (c0++l2),[],.v (.s u),rfl,Rl,E5 hm2 e0 e1 e2 rfl rfl rfl rfl rfl rfl,Ae,hu.nk.rn,?_⟩;have unk:=hu.nk;have hadd:=Gf (f:=f) (c:=c) hm2 hv hu Aa;rw[<-hl] at hadd;refine Yw1 ?_;clear e0 e1 e2;refine En (cnL f c f.ns.length ks2 ds2 [] [] []) k3 cnR hadd (E7 hm2 rfl rfl rfl) Ya ?_;rintro rc gc' ⟨⟨z,rfl,hz⟩,ks3,ds3,a1,b1,c1,hm3,e0,e1,e2⟩;refine⟨[],k3,cnX f c f.ns.length ks3 ds3 (a1++_) (b1++_) (c1++_),[],.v (.s z),rfl,Rl,E5 hm3 e0 e1 e2 rfl rfl rfl rfl rfl rfl,Ae,hz.nk.rn,?_⟩;have znk:=hz.nk;refine Yw1 ?_;exact⟨(i+1,z),_,_,Lq,bX rfl hm3 rfl rfl rfl Yf,hi,hz,ks3,ds3,_,_,_,hm3,rfl⟩
 ·have hfull:f.rs.take i=f.rs:=by rw[show i=f.rs.length from by have:=B5 h;omega];exact AB
  rw[hfull] at hv;refine Yw1 ?_;exact⟨⟨v,rfl,hv⟩,ks,ds,_,_,_,hm,rfl,rfl,rfl⟩
theorem eX {f:Fo} {c:Nat} (w:WF0 f):XC Fn 31 [foA f,cA c] (mkH [] k0) λr g=>r=.v (.s (.ptr k3 0))/\g.get k1=some (ob (List.replicate f.ns.length .A4))/\g.get k2=some (ob (List.replicate f.ns.length (.bool false))) /\
  g.get k3=some (ob [.lst 5 (f.ns.map nV) none,.lst 3 (f.rs.map rV) none,.int .u64 (c:Nat),.slice k1 0 f.ns.length 1 (some f.ns.length),.slice k2 0 f.ns.length 1 (some f.ns.length),.bool false]):=by
 have hL:=w.len;have hlen:(f.ns.map nV).length=f.ns.length:=Lm ..;rw[E4 w.n0 w.r0];refine Ek pt C.f31 rfl ?_;refine Yw1 ?_;conv=>whnf
 split;case h_2 he=>exact absurd ((Gz (n:=f.ns.length) rfl (by rw[hlen]) Aa Aa).symm.trans he) Ac
 next v g' he=>
 cases he.symm.trans (Gz (n:=f.ns.length) rfl (by rw[hlen]) Aa Aa);conv=>whnf
 split;case h_2 he=>exact absurd ((Gz (n:=f.ns.length) rfl (by rw[hlen]) Aa Aa).symm.trans he) Ac
 next v g' he=>
 cases he.symm.trans (Gz (n:=f.ns.length) rfl (by rw[hlen]) Aa Aa);rw[dH,dH];refine Yw1 ?_;exact⟨rfl,rfl,rfl,rfl⟩
theorem eY (T:EG) (N:Nat):Hw T N (List.replicate N .A4) (List.replicate N (.bool false)) where
 kl:=Ck
 dl:=Ck
 knk v h:=by rw[Br h];exact Ae
 dnk v h:=by rw[Br h];exact Ae
 kf i hi:=⟨.A4,by simp[hi]⟩
 df i hi:=⟨false,by simp[hi],Ep⟩
end Go.Pv
end
section
noncomputable section
namespace Go.Pv
open Go.Vm
open Go.Vm.Key (kn)
set_option maxRecDepth 40000
set_option maxHeartbeats 0
section
set_option maxRecDepth 100000
open Go.Vm Go.Pv.K
theorem D8:∀d,E.dA d=dA d
 |0=>rfl
 |1=>rfl
 |2=>rfl
 |3=>rfl
 |4=>rfl
 |5=>rfl
 |6=>rfl
 |7=>rfl
 |8=>rfl
 |9=>rfl
 |10=>rfl
 |11=>rfl
 |12=>rfl
 |13=>rfl
 |14=>rfl
 |_+15=>rfl
theorem ent {f:Nat} {xs:List PA} {r:PA} (h:E.R f xs r):A3 Fn f xs r:=entry (F:=E.F0) (pure:=.z) (tab:=.z) Ae h
theorem kJ:Tg:=⟨λd hd c hc=>by rw[<-D8];exact ent (E.WV d hd c hc)⟩
theorem dZ:wN:=⟨λd hd c hc=>by rw[<-D8];exact ent (E.in_c d hd c hc)⟩
theorem Ye:Xt where
 ne d hd:=by rw[<-D8];exact ent (E.ne_c d hd)
 neR d hd:=by rw[<-D8];exact ent (E.Adk d hd)
 ZK d hd:=by rw[<-D8,<-D8];exact ent (E.WW d hd)
 uni d hd:=by rw[<-D8,<-D8];exact ent (E.Adm d hd)
 int:=by rw[<-D8];exact ent E.Adn
 ZL:=by rw[<-D8,<-D8];exact ent E.WX
 ZN:=by rw[<-D8];exact ent E.WY
 con:=by rw[<-D8];exact ent E.Adl
theorem XH {n:Nat} (h:n<86):A3 Fn 10 [PA.lst 1 [[.int .u8 (n:Nat)]],iA 2] (dA (n % 16)):=by
 rw[<-D8];rcases DT n 43 with h1|h1
 ·exact ent (E.WZ n h1)
 ·obtain⟨k,rfl⟩:∃k,n=k+43:=⟨n-43,Aa⟩;exact ent (E.XA k Aa)
theorem XI:∀i,i<4->A3 Fn 10 [PA.lst 1 [[.int .u8 ((170+40*i) % 256:Nat)]],iA 2] (dA ((170+40*i) % 256 % 16))
 |0,_=>by rw[<-D8];exact ent E.XB
 |1,_=>by rw[<-D8];exact ent E.XD
 |2,_=>by rw[<-D8];exact ent E.XE
 |3,_=>by rw[<-D8];exact ent E.XF
 |_+4,h=>absurd h Aa
end
end Go.Pv
end
section
noncomputable section
namespace Go.Pv
open Go.Vm Go.Vm.C
open Go.Vm.Key (kn)
set_option maxRecDepth 40000
set_option maxHeartbeats 0
def ph (n:Nat):Bool:=pt n||Sp [27,28,30] n
theorem Jd {n:Nat} {v:PV} (h:A6 n v):∃u,A3 Fn 30 [.v (.s v)] (.v (.s u))/\A6 n u:=by
 cases h with
 |nil=>refine⟨.A4,?_,.nil⟩;refine Ej pv C.f30 rfl ?_;exact Yw0
 |emp=>refine⟨.lst 1 [] none,?_,.emp⟩;refine Ej pv C.f30 rfl ?_;exact Yw0
 |one n h0 h=>refine⟨_,?_,.one n h0 h⟩;refine Ej pv C.f30 rfl ?_;exact Yw0
def py (n:Nat):Bool:=px n||Sp [38,28] n
structure Cl where
 n:Nat
 v:PV
 d:Nat
abbrev cC (a:Cl):Ey:=[a.v,dN a.d,.int .i64 (dR a.d)]
def COk (a:Cl):Prop:=A6 a.n a.v/\a.d<16
abbrev clW (c:Ey) (k:Key):B4:=⟨.cells c,true,false,[k],[]⟩
abbrev rdb (c:Ey):B4:=⟨.cells c,false,false,[],[]⟩
theorem aG {a:Cl} {n:Nat} {v:PV} (ha:COk a) (hv:A6 n v):A3 Fn 38 [.v (.agg [a.v,dN a.d,.int .i64 (dR a.d)]),.v (.s v)] (iA (Iq a.n n)):=by have h:=Xr ha.1 hv;have h1:=ha.1.nk;have h2:=hv.nk;have h3:=ha.1.flat;have h4:=hv.flat;generalize a.v=u at *;refine Ej py C.f38 rfl ?_;exact Yw0
theorem Vg (a b:Nat):(Iq (a:Int) (b:Int)==((0:Nat):Int))=decide (a=b):=by
 have e:Iq (a:Int) b=if(a:Int)<b then -1 else if(b:Int)<a then 1 else 0:=rfl
 rw[e];by_cases h1:a<b;·rw[Aj Aa,Az Aa];rfl
 ·rw[Ao Aa];by_cases h2:b<a;·rw[Aj Aa,Az Aa];rfl
  ·rw[Ao Aa,Ch Aa];rfl
theorem Ab5 {n:Nat} {v:PV} (hv:A6 n v):XC Fn 37 [.v (.s .A4),.v (.s v),.v (.s (.func 38 [] []))] (mkH [] k0) λr _=>r=.tup [.s (.int .i64 ((0:Nat):Int)),.s (.bool false)]:=by have h2:=hv.nk;have h4:=hv.flat;refine Ek py C.f37 rfl ?_;refine Yx py ?_;refine Ywa ?_;rfl
theorem Ab6 {a:Cl} {n:Nat} {v:PV} (ha:COk a) (hv:A6 n v):XC Fn 37 [.v (.s (.slice k0 0 1 3 none)),.v (.s v),.v (.s (.func 38 [] []))] (mkH [(k0,ob (cC a))] k1) λr g=>r=.tup [.s (.int .i64 ((if a.n<n then 1 else 0:Nat):Int)),.s (.bool (decide (a.n=n)))]/\g.get k0=some (ob (cC a)):=by
 have h2:=hv.nk;have h4:=hv.flat;have hc:=aG ha hv;have a2:=ha.1.nk;have a4:=ha.1.flat;unfold cC;generalize a.v=u at *;refine Ek py C.f37 rfl ?_;refine Yz py ?_;conv=>whnf
 rw[show IntKind.i64.wrap ((IntKind.u64.wrap (((0:Nat):Int)+((1:Nat):Int))).fdiv (2 ^ min ((1:Nat):Int).toNat IntKind.u64.bits))=((0:Nat):Int) from Ab];refine Yw2 (λh=>?_) (λh=>?_);·have hlt:=Mr h;refine Yx py ?_;refine Ywa ?_;rw[Aj hlt,Az Aa];exact⟨rfl,rfl⟩
 ·have hge:=Ln h;refine Yx py ?_;refine Ywa ?_;conv=>whnf
  rw[Ao Aa,Vg];exact⟨rfl,rfl⟩
theorem Ab7 {a b:Cl} {n:Nat} {v:PV} (ha:COk a) (hb:COk b) (hab:a.n<b.n) (hv:A6 n v):XC Fn 37 [.v (.s (.slice k0 0 2 3 none)),.v (.s v),.v (.s (.func 38 [] []))] (mkH [(k0,ob (cC a++cC b))] k1) λr g=>r=.tup [.s (.int .i64 ((if b.n<n then 2 else if a.n<n then 1 else 0:Nat):Int)),.s (.bool (decide (a.n=n)||decide (b.n=n)))]/\g.get k0=some (ob (cC a++cC b)):=by
 have h2:=hv.nk;have h4:=hv.flat;have hc:=aG ha hv;have hd:=aG hb hv;have a2:=ha.1.nk;have a4:=ha.1.flat;have b2:=hb.1.nk;have b4:=hb.1.flat;unfold cC;generalize a.v=u at *;generalize b.v=u2 at *;refine Ek py C.f37 rfl ?_;refine Yz py ?_;conv=>whnf
 rw[show IntKind.i64.wrap ((IntKind.u64.wrap (((0:Nat):Int)+((2:Nat):Int))).fdiv (2 ^ min ((1:Nat):Int).toNat IntKind.u64.bits))=((1:Nat):Int) from Ab];refine Yw2 (λh=>?_) (λh=>?_);refine Yw1 ?_
 ·have hlt:=Mr h;refine Yz py ?_;conv=>whnf
  rw[Aj hlt,Az Aa,Az Aa];exact⟨rfl,rfl⟩
 ·have hge:=Ln h;refine Yz py ?_;conv=>whnf
  rw[show IntKind.i64.wrap ((IntKind.u64.wrap (((0:Nat):Int)+((1:Nat):Int))).fdiv (2 ^ min ((1:Nat):Int).toNat IntKind.u64.bits))=((0:Nat):Int) from Ab];refine Yw2 (λh=>?_) (λh=>?_);refine Yw1 ?_
  ·have hlt:=Mr h;refine Yx py ?_;refine Ywa ?_;conv=>whnf
   rw[Ao Aa,Aj hlt,Vg,Az (p:=a.n=n) Aa,Ed];exact⟨rfl,rfl⟩
  ·have hge2:=Ln h;refine Yx py ?_;refine Ywa ?_;conv=>whnf
   rw[Ao Aa,Ao Aa,Vg,Az (p:=b.n=n) Aa,Dp];exact⟨rfl,rfl⟩
theorem XJ {a b:Cl} {x:Ey} {n:Nat} {v:PV} (ha:COk a) (hb:COk b) (hab:a.n<b.n) (hv:A6 n v):XC Fn 37 [.v (.s (.slice k1 0 2 3 none)),.v (.s v),.v (.s (.func 38 [] []))] (mkH [(k0,rdb x),(k1,clW (cC a++cC b) k0)] k2) λr g=>r=.tup [.s (.int .i64 ((if b.n<n then 2 else if a.n<n then 1 else 0:Nat):Int)),.s (.bool (decide (a.n=n)||decide (b.n=n)))]/\g.get k0=some (rdb x)/\g.get k1=some (clW (cC a++cC b) k0):=by
 have h2:=hv.nk;have h4:=hv.flat;have hc:=aG ha hv;have hd:=aG hb hv;have a2:=ha.1.nk;have a4:=ha.1.flat;have b2:=hb.1.nk;have b4:=hb.1.flat;unfold cC;generalize a.v=u at *;generalize b.v=u2 at *;refine Ek py C.f37 rfl ?_;refine Yz py ?_;conv=>whnf
 rw[show IntKind.i64.wrap ((IntKind.u64.wrap (((0:Nat):Int)+((2:Nat):Int))).fdiv (2 ^ min ((1:Nat):Int).toNat IntKind.u64.bits))=((1:Nat):Int) from Ab];refine Yw2 (λh=>?_) (λh=>?_);refine Yw1 ?_
 ·have hlt:=Mr h;refine Yz py ?_;conv=>whnf
  rw[Aj hlt,Az Aa,Az Aa];exact⟨rfl,rfl,rfl⟩
 ·have hge:=Ln h;refine Yz py ?_;conv=>whnf
  rw[show IntKind.i64.wrap ((IntKind.u64.wrap (((0:Nat):Int)+((1:Nat):Int))).fdiv (2 ^ min ((1:Nat):Int).toNat IntKind.u64.bits))=((0:Nat):Int) from Ab];refine Yw2 (λh=>?_) (λh=>?_);refine Yw1 ?_
  ·have hlt:=Mr h;refine Yx py ?_;refine Ywa ?_;conv=>whnf
   rw[Ao Aa,Aj hlt,Vg,Az (p:=a.n=n) Aa,Ed];exact⟨rfl,rfl,rfl⟩
  ·have hge2:=Ln h;refine Yx py ?_;refine Ywa ?_;conv=>whnf
   rw[Ao Aa,Ao Aa,Vg,Az (p:=b.n=n) Aa,Dp];exact⟨rfl,rfl,rfl⟩
def lsq (d:Nat):Nat:=if d.testBit 0 then 0 else if d.testBit 1 then 1 else if d.testBit 2 then 2 else if d.testBit 3 then 3 else 0
def ptq (d:Nat):Nat:=if lsq d=1 then 2 else if lsq d=3 then 8 else d &&& 5
def rdq (d:Nat):Nat:=(if d &&& 5=0 then 0 else 1)+(if d &&& 2=0 then 0 else 1)+if d &&& 8=0 then 0 else 1
def rtL:Es:=[(2,1),(4,2),(2,5),(8,1),(8,2),(10,1),(8,4),(8,5),(12,2),(10,5),(8,3),(8,6),(8,7)]
def rtq (r d:Nat):Bool:=r==0||rtL.contains (r,d)
def orL:Es:=[(1,2),(5,2),(1,8),(5,8),(2,8),(3,8),(7,8),(2,4),(4,8),(6,8)]
def nmq (f:Fo) (c:Nat):Nat:=(B1 (Tr2 f c) c f.rs).length
theorem rQ (d:Nat):lsq d<4:=by unfold lsq;split<;>(try split)<;>(try split)<;>(try split)<;>decide
theorem SL:∀r,r<16->r≠0->ptq r<16/\ptq r<=r/\r-ptq r<16/\rdq (r-ptq r)+1=rdq r/\rtq (r-ptq r) (ptq r)=true:=Ab
theorem Ab8:((List.range 16).all λr=>(List.range 16).all λd=>r==0||!(rtq r d)||(orL.contains (d,ptq r)&&Nat.blt (d+ptq r) 16&&rtq (r-ptq r) d&&rtq (r-ptq r) (d+ptq r)))=true:=Ab
theorem IK {r d:Nat} (hr:r<16) (hd:d<16) (h0:r≠0) (h:rtq r d=true):(d,ptq r)∈orL/\d+ptq r<16/\rtq (r-ptq r) d=true/\rtq (r-ptq r) (d+ptq r)=true:=by have:=AF.1 (AF.1 Ab8 r (BU.2 hr)) d (BU.2 hd);simp only[h,Dv,Dp,AW,beq_iff_eq,h0,false_or,Au,List.contains_iff_mem] at this;exact⟨this.1.1.1,(by rw[<-Bs];exact this.1.1.2),this.1.2,this.2⟩
def I8 (n d:Nat):Es->Es
 |[]=>[(n,d)]
 |(m,e)::l=>if m<n then(m,e)::I8 n d l else if m=n then(m,e+d)::l else(n,d)::(m,e)::l
def wP (f:Fo):Nat->Nat->Es->Es
 |0,_,S=>S
 |k+1,r,S=>wP f k (r-ptq r) (I8 (nmq f (lsq r)) (ptq r) S)
def kyC (a:Cl):Nat×Nat:=(a.n,a.d)
structure FcOk (f:Fo):Prop where
 least:∀d,d<16->A3 Fn 34 [dA d] (.tup [.s (.int .u64 (lsq d:Nat)),.s (.bool (d !=0))])
 check:∀d,d<16->A3 Fn 33 [dA d] (iA 0)
 sub:∀d,d<16->d≠0->A3 Fn 36 [dA d,dA (ptq d)] (dAT (d-ptq d))
 or:∀p∈orL,A3 Fn 41 [dA p.1,dA p.2] (dAT (p.1+p.2))
 alike:∀d,d<16->d≠0->XC Fn 35 [foA f,cA (lsq d),dA d] (mkH [] k0) λr _=>r=dAT (ptq d)
inductive Sh where
 |nil
 |one (a:Cl)
 |two (a b:Cl)
 |old (a b:Cl)
 |fin (L:List Cl)
def Sh.L:Sh->List Cl
 |.nil=>[]
 |.one a=>[a]
 |.two a b=>[a,b]
 |.old a b=>[a,b]
 |.fin L=>L
abbrev cCs (L:List Cl):Ey:=C9 cC L
def Sh.x:Sh->PV
 |.nil=>.A4
 |.one _=>.slice k2 0 1 3 none
 |.two _ _=>.slice k2 0 2 3 none
 |.old _ _=>.slice k3 0 2 3 none
 |.fin L=>.slice k2 0 L.length 3 none
def Sh.B:Sh->List (Key×B4)
 |.nil=>[]
 |.one a=>[(k2,ob (cC a))]
 |.two a b=>[(k2,ob (cC a++cC b))]
 |.old a b=>[(k2,rdb (cC a)),(k3,clW (cC a++cC b) k2)]
 |.fin L=>[(k2,rdb (cCs L))]
def Sh.N:Sh->Key
 |.nil=>k2
 |.old _ _=>k4
 |_=>k3
abbrev clI (x:PV):Fm:=[pE k2 k0,sE k7 x,pE k8 k1]
abbrev clB (f:Fo) (r:Nat):List (Key×B4):=[(k0,ob [.lst 5 (f.ns.map nV) none,.lst 3 (f.rs.map rV) none]),(k1,ob (dC r))]
structure EU (f:Fo) (r0 r:Nat) (s:Sh):Prop where
 lt:r<16
 ok:∀a∈s.L,COk a/\rtq r a.d=true
 asc:s.L.Pairwise λa b=>a.n<b.n
 run:wP f (rdq r) r (s.L.map kyC)=wP f (rdq r0) r0 []
 len:s.L.length+rdq r<=3
 fin:∀L,s=.fin L->r=0/\L≠[]
theorem kK {n d:Nat}:∀{S:Es} {x:Nat×Nat},x∈I8 n d S->x∈S∨x=(n,d)∨∃e,(x.1,e)∈S/\x.2=e+d
 |[],x,h=>by rw[I8,Ar] at h;exact .inr (.inl h)
 |(m,e)::l,x,h=>by
  rw[I8] at h;split at h
  ·rcases Af.1 h with rfl|h;·exact .inl (.head _)
   ·rcases kK h with h|h|⟨e',h1,h2⟩;·exact .inl (.tail _ h)
    ·exact .inr (.inl h)
    ·exact .inr (.inr ⟨e',.tail _ h1,h2⟩)
  ·split at h
   ·rcases Af.1 h with rfl|h;·exact .inr (.inr ⟨e,.head _,rfl⟩)
    ·exact .inl (.tail _ h)
   ·rcases Af.1 h with rfl|h;·exact .inr (.inl rfl)
    ·exact .inl h
theorem wQ {n d:Nat}:∀{S:Es},S.Pairwise (λa b=>a.1<b.1)->(I8 n d S).Pairwise λa b=>a.1<b.1
 |[],_=>CT _ _
 |(m,e)::l,h=>by
  obtain⟨h1,h2⟩:=AA.1 h;rw[I8];split
  ·next hlt=>
   refine AA.2 ⟨λx hx=>?_,wQ h2⟩;rcases kK hx with hx|rfl|⟨e',h3,_⟩
   ·exact h1 x hx
   ·exact hlt
   ·exact h1 (x.1,e') h3
  ·split;·exact AA.2 ⟨h1,h2⟩
   ·refine AA.2 ⟨λx hx=>?_,h⟩;rcases Af.1 hx with rfl|hx
    ·show n<m;omega
    ·have:=h1 x hx;show n<x.1;simp only at this;omega
theorem kO {n d:Nat}:∀{S:Es},(I8 n d S).length<=S.length+1
 |[]=>Rl
 |(m,e)::l=>by
  rw[I8];split;·simp only[Ap];have:=kO (n:=n) (d:=d) (S:=l);omega
  ·split<;>simp
theorem EU.step {f:Fo} {r0 r:Nat} {s s':Sh} (hs:EU f r0 r s) (hz:r≠0) (hk:s'.L.map kyC=I8 (nmq f (lsq r)) (ptq r) (s.L.map kyC)) (hv:∀a∈s'.L,A6 a.n a.v) (hf:∀L,s'=.fin L->r-ptq r=0/\L≠[]):EU f r0 (r-ptq r) s':=by
 obtain⟨p1,p2,p3,p4,p5⟩:=SL r hs.lt hz;have hm:∀a∈s'.L,a.d<16/\rtq (r-ptq r) a.d=true:=λa ha=>by
  have:kyC a∈I8 (nmq f (lsq r)) (ptq r) (s.L.map kyC):=by rw[<-hk];exact Aw.2 ⟨a,ha,rfl⟩
  rcases kK this with h|h|⟨e,h1,h2⟩;·obtain⟨b,hb,e⟩:=Aw.1 h;injection e with e1 e2;obtain⟨b1,b2⟩:=hs.ok b hb;rw[<-e2];exact⟨b1.2,(IK hs.lt b1.2 hz b2).2.2.1⟩
  ·injection h with e1 e2
   rw[show a.d=ptq r from e2];exact⟨p1,p5⟩
  ·obtain⟨b,hb,e'⟩:=Aw.1 h1;injection e' with e1 e2;obtain⟨b1,b2⟩:=hs.ok b hb;rw[show a.d=e+ptq r from h2,<-e2];have:=IK hs.lt b1.2 hz b2;exact⟨this.2.1,this.2.2.2⟩
 have hasc:(s.L.map kyC).Pairwise λa b=>a.1<b.1:=(CZ (f:=kyC)).2 hs.asc;have hasc2:=wQ (n:=nmq f (lsq r)) (d:=ptq r) hasc;rw[<-hk] at hasc2;have hl:=kO (n:=nmq f (lsq r)) (d:=ptq r) (S:=s.L.map kyC);rw[<-hk,Lm,Lm] at hl;have:=hs.len;refine⟨p3,λa ha=>⟨⟨hv a ha,(hm a ha).1⟩,(hm a ha).2⟩,(CZ (f:=kyC)).1 hasc2,?_,Aa,hf⟩;have hr:=hs.run;rw[<-p4] at hr;rw[hk];exact hr
theorem EV:∀r,r<16->rdq r<=3:=Ab
theorem Aaf:∀r,r<16->rdq r=0->r=0:=Ab
theorem Vh {g:A0} {k:Key} {own frz:Bool} {anc:ED} {log:Es} {L:List Cl} (hg:g.get k=some ⟨.cells (cCs L),own,frz,anc,log⟩) (hv:∀a∈L,COk a) (h0:L≠[]) :
  Kz 40 (.slice k 0 L.length 3 none) g=some (slV 3 (L.map cC),if frz then g else g.upd k (some ⟨.cells (cCs L),own,true,anc,log⟩)):=by
 have hpos:=AS.2 h0;have hll:(L.map cC).length=L.length:=Lm ..;have hcl:(cCs L).length=L.length*3:=Kc (f:=cC) (es:=3) (λ_=>rfl) L;have h:=J0 (n:=38) (es:=3) (len:=L.length) (cap:=none) hg hcl.symm Aa rfl (H4 λv hv'=>by
  obtain⟨a,ha,hv'⟩:=AY.1 hv'
  simp only[Af,Ah,AP] at hv'
  rcases hv' with rfl|rfl|rfl
  ·exact(hv a ha).1.flat
  ·exact Fv _ _
  ·exact Ae)
 have e:chunk 3 L.length (cCs L)=L.map cC:=by
  have:=Mc (es:=3) (l:=L.map cC) λx hx=>by obtain⟨a,_,rfl⟩:=Aw.1 hx;rfl
  rw[hll] at this;exact this
 rw[e] at h;rw[h];cases L with
 |nil=>exact absurd rfl h0
 |cons=>rfl
theorem EW {f:Fo} {r0:Nat} (hF:FcOk f) (w:WF0 f) (v:WF f) (h0:∀r∈f.rs,r.2.testBit 0=false) (hr:r0<16) :
  XC Fn 9 [foA f,dA r0] (mkH [] k0) λr _=>∃L:List Cl,r=.tup [.s (slV 3 (L.map cC)),.s (.int .i64 ((0:Nat):Int))]/\(∀a∈L,COk a)/\L.map kyC=wP f (rdq r0) r0 []:=by
 have cs:=Rb Ye kJ w v h0;have hck:=hF.check r0 hr;have hal:=hF.alike;have htl:=λc hc=>Oy (c:=c) kJ hc w v;rw[E4 w.n0 w.r0] at cs hal htl ⊢;refine XC.LG ?_;refine Ek py C.f9 rfl ?_;refine Yw1 ?_;refine XW.B6 (pu:=py) (σ:=Nat×Sh) (λp=>rdq p.1) (λp=>clI p.2.x) (λp g=>EU f r0 p.1 p.2/\g=mkH (clB f p.1++p.2.B) p.2.N) (r0,.nil)
  (El (clB f r0) k2 [(k0,k0),(k1,k2)]) ⟨⟨hr,by simp[Sh.L],by simp[Sh.L],rfl,(by have:=EV r0 hr;simpa[Sh.L] using this),Ac⟩,rfl⟩ ?_
 clear hck;rintro⟨r,s⟩ g ⟨hs,rfl⟩;replace hs:EU f r0 r s:=hs;by_cases hz:r=0
 ·subst hz;have hle:A3 Fn 34 [dA 0] (.tup [.s (.int .u64 ((0:Nat):Int)),.s (.bool false)]):=hF.least 0 Ab;have hok:=λa ha=>(hs.ok a ha).1;have hrun:=hs.run;cases s with
  |nil=>
   dsimp only[Sh.x,Sh.B,Sh.N];refine Ywb ?_;conv=>whnf
   exact⟨_,_,rfl,[],rfl,Ac,hrun⟩
  |one a=>
   dsimp only[Sh.x,Sh.B,Sh.N];refine Ywb ?_;conv=>whnf
   exact⟨_,_,St (Vh (L:=[a]) (k:=k2) rfl hok Ac),_,rfl,hok,hrun⟩
  |two a b=>
   dsimp only[Sh.x,Sh.B,Sh.N];refine Ywb ?_;conv=>whnf
   exact⟨_,_,St (Vh (L:=[a,b]) (k:=k2) rfl hok Ac),_,rfl,hok,hrun⟩
  |old a b=>
   dsimp only[Sh.x,Sh.B,Sh.N];refine Ywb ?_;conv=>whnf
   exact⟨_,_,St (Vh (L:=[a,b]) (k:=k3) rfl hok Ac),_,rfl,hok,hrun⟩
  |fin L=>
   dsimp only[Sh.x,Sh.B,Sh.N];refine Ywb ?_;conv=>whnf
   exact⟨_,_,St (Vh (L:=L) (k:=k2) rfl hok (hs.fin L rfl).2),_,rfl,hok,hrun⟩
 ·have hle:=hF.least r hs.lt;rw[show(r !=0)=true from by simp[hz]] at hle;obtain⟨p1,p2,p3,p4,p5⟩:=SL r hs.lt hz;have hsub:=hF.sub r hs.lt hz;have hor:=λd hd hd'=>hF.or _ (IK (d:=d) hs.lt hd hz hd').1;replace hal:=hal r hs.lt hz;replace htl:=htl (lsq r) (rQ r);have hst:=λs'=>hs.step (s':=s') hz;have hlen:=hs.len;have hr0:=Aaf (r-ptq r) p3;generalize lsq r=c at *;generalize ptq r=p at *;cases s with
  |nil=>
   dsimp only[Sh.x,Sh.B,Sh.N];refine Ywb ?_;refine Eo htl Ya ?_;rintro rc gc' ⟨rfl,m,l0,l1,tot,hm,ht,e1,e2⟩;have htk:=ht.nk;have htf:=ht.flat;refine⟨[(k2,k1),(k3,k2)],k4,[],[obl (tbK k2 k3 f c tot) [],mpB m []],.tup [.s (.ptr k2 0),.s (.int .i64 ((0:Nat):Int))],rfl,(show 2<=4 by decide),Ae,⟨⟨_,e1,(Er Ys)⟩,⟨_,e2,.map hm⟩,Ae⟩,.cons rfl (.cons rfl .nil),?_⟩;clear e1 e2;refine Ywb ?_;refine Eo hal Ya ?_;rintro rc gc' rfl;refine⟨[],k4,[],[],dAT p,rfl,Rl,Ae,Ae,.cons Ys (.cons rfl .nil),?_⟩;refine Ywb ?_;refine En [] k0 [] (Ab5 ht) Yb Ya ?_;rintro rc gc' rfl;refine⟨[],k5,[],[],.tup [.s (.int .i64 ((0:Nat):Int)),.s (.bool false)],rfl,Rl,Ae,Ae,.cons rfl (.cons rfl .nil),?_⟩;obtain⟨u,hcl,hu⟩:=Jd ht;have unk:=hu.nk;have uf:=hu.flat;refine Ywb ?_;refine XC.mono (eT (.inl ⟨rfl,rfl⟩) rfl) ?_;rintro r' g' ⟨rfl,rfl⟩;refine Ywb ?_;conv=>whnf
   exact⟨(r-p,.one ⟨(B1 (Tr2 f c) c f.rs).length,u,p⟩),rho 0 [(k0,k0),(k1,k7),(k2,k6)],_,(by show rdq (r-p)<rdq r;omega),El (clB f (r-p)++[(k2,ob (cC ⟨(B1 (Tr2 f c) c f.rs).length,u,p⟩))]) k3 [(k0,k0),(k1,k7),(k2,k6)],hst _ rfl (by simpa[Sh.L] using hu) Ac,rfl⟩
  |one a=>
   dsimp only[Sh.x,Sh.B,Sh.N];refine Ywb ?_;refine Eo htl Ya ?_;rintro rc gc' ⟨rfl,m,l0,l1,tot,hm,ht,e1,e2⟩;have htk:=ht.nk;have htf:=ht.flat;refine⟨[(k3,k1),(k4,k2)],k5,[],[obl (tbK k3 k4 f c tot) [],mpB m []],.tup [.s (.ptr k3 0),.s (.int .i64 ((0:Nat):Int))],rfl,(show 3<=5 by decide),Ae,⟨⟨_,e1,(Er Ys)⟩,⟨_,e2,.map hm⟩,Ae⟩,.cons rfl (.cons rfl .nil),?_⟩;clear e1 e2;refine Ywb ?_;refine Eo hal Ya ?_;rintro rc gc' rfl;refine⟨[],k5,[],[],dAT p,rfl,Rl,Ae,Ae,.cons Ys (.cons rfl .nil),?_⟩;refine Ywb ?_;have ha:COk a:=(hs.ok a (.head _)).1;have hra:=(hs.ok a (.head _)).2;have ank:=ha.1.nk;have anf:=ha.1.flat;have bs:=Ab6 ha ht;rcases BJ a.n (B1 (Tr2 f c) c f.rs).length with hlt|heq|hgt
   ·rw[Aj hlt,Az Aa] at bs;refine En [(k0,ob (cC a))] k1 [(k0,k2)] bs Yb Ya ?_;rintro rc gc' ⟨rfl,e0⟩;refine⟨[],k6,[some (ob (cC a))],[],.tup [.s (.int .i64 ((1:Nat):Int)),.s (.bool false)],rfl,Rl,⟨⟨_,_,_,e0,.same Yc,rfl,rfl,rfl,rfl⟩,Ae⟩,Ae,.cons rfl (.cons rfl .nil),?_⟩;clear e0;obtain⟨u,hcl,hu⟩:=Jd ht;have unk:=hu.nk;have uf:=hu.flat;refine Ywb ?_;refine XC.mono (eT (.inr ⟨_,rfl⟩) rfl) ?_;rintro r' g' ⟨rfl,rfl⟩;refine Ywb ?_;conv=>whnf
    exact⟨(r-p,.old a ⟨(B1 (Tr2 f c) c f.rs).length,u,p⟩),rho 0 [(k0,k0),(k1,k8),(k2,k2),(k3,k7)],_,(by show rdq (r-p)<rdq r;omega),El (clB f (r-p)++[(k2,rdb (cC a)),(k3,clW (cC a++cC ⟨(B1 (Tr2 f c) c f.rs).length,u,p⟩) k2)]) k4 [(k0,k0),(k1,k8),(k2,k2),(k3,k7)],hst _ (by simp[Sh.L,I8,kyC,nmq,hlt]) (λy hy=>by simp only[Sh.L,Af,Ah,AP] at hy;rcases hy with rfl|rfl<;>first|exact hu|exact ha.1|exact hb.1|fail) Ac,rfl⟩
   ·rw[Ao Aa,Ch heq] at bs;have hor:=hor a.d ha.2 hra;refine En [(k0,ob (cC a))] k1 [(k0,k2)] bs Yb Ya ?_;rintro rc gc' ⟨rfl,e0⟩;refine⟨[],k6,[some (ob (cC a))],[],.tup [.s (.int .i64 ((0:Nat):Int)),.s (.bool true)],rfl,Rl,⟨⟨_,_,_,e0,.same Yc,rfl,rfl,rfl,rfl⟩,Ae⟩,Ae,.cons rfl (.cons rfl .nil),?_⟩;clear e0;refine Ywe ?_;conv=>whnf
    exact⟨(r-p,.one ⟨a.n,a.v,a.d+p⟩),rho 0 [(k0,k0),(k1,k6),(k2,k2)],_,(by show rdq (r-p)<rdq r;omega),El (clB f (r-p)++[(k2,ob (cC ⟨a.n,a.v,a.d+p⟩))]) k3 [(k0,k0),(k1,k6),(k2,k2)],hst _ (by simp[Sh.L,I8,kyC,nmq,heq]) (by simpa[Sh.L] using ha.1) Ac,rfl⟩
   ·rw[Ao Aa,Az Aa] at bs;refine En [(k0,ob (cC a))] k1 [(k0,k2)] bs Yb Ya ?_;rintro rc gc' ⟨rfl,e0⟩;refine⟨[],k6,[some (ob (cC a))],[],.tup [.s (.int .i64 ((0:Nat):Int)),.s (.bool false)],rfl,Rl,⟨⟨_,_,_,e0,.same Yc,rfl,rfl,rfl,rfl⟩,Ae⟩,Ae,.cons rfl (.cons rfl .nil),?_⟩;clear e0;obtain⟨u,hcl,hu⟩:=Jd ht;have unk:=hu.nk;have uf:=hu.flat;refine Ywb ?_;refine XC.mono (aD (n:=1) (i:=0) (cc:=cC a) (vv:=cC ⟨(B1 (Tr2 f c) c f.rs).length,u,p⟩) rfl rfl rfl rfl (λh=>Ad) rfl Ab Ab) ?_;rintro r' g' ⟨rfl,rfl⟩;have q1:¬a.n<(B1 (Tr2 f c) c f.rs).length:=Aa;have q2:¬a.n=(B1 (Tr2 f c) c f.rs).length:=Aa;refine Ywb ?_;conv=>whnf
    exact⟨(r-p,.two ⟨(B1 (Tr2 f c) c f.rs).length,u,p⟩ a),rho 0 [(k0,k0),(k1,k8),(k2,k7)],_,(by show rdq (r-p)<rdq r;omega),El (clB f (r-p)++[(k2,ob (cC ⟨(B1 (Tr2 f c) c f.rs).length,u,p⟩++cC a))]) k3 [(k0,k0),(k1,k8),(k2,k7)],hst _ (by simp[Sh.L,I8,kyC,nmq,q1,q2]) (λy hy=>by simp only[Sh.L,Af,Ah,AP] at hy;rcases hy with rfl|rfl<;>first|exact hu|exact ha.1|exact hb.1|fail) Ac,rfl⟩
  |two a b=>
   dsimp only[Sh.x,Sh.B,Sh.N];refine Ywb ?_;refine Eo htl Ya ?_;rintro rc gc' ⟨rfl,m,l0,l1,tot,hm,ht,e1,e2⟩;have htk:=ht.nk;have htf:=ht.flat;refine⟨[(k3,k1),(k4,k2)],k5,[],[obl (tbK k3 k4 f c tot) [],mpB m []],.tup [.s (.ptr k3 0),.s (.int .i64 ((0:Nat):Int))],rfl,(show 3<=5 by decide),Ae,⟨⟨_,e1,(Er Ys)⟩,⟨_,e2,.map hm⟩,Ae⟩,.cons rfl (.cons rfl .nil),?_⟩;clear e1 e2;refine Ywb ?_;refine Eo hal Ya ?_;rintro rc gc' rfl;refine⟨[],k5,[],[],dAT p,rfl,Rl,Ae,Ae,.cons Ys (.cons rfl .nil),?_⟩;refine Ywb ?_;have ha:COk a:=(hs.ok a (.head _)).1;have hra:=(hs.ok a (.head _)).2;have hb:COk b:=(hs.ok b (.tail _ (.head _))).1;have hrb:=(hs.ok b (.tail _ (.head _))).2;have hab:a.n<b.n:=(AA.1 hs.asc).1 b (.head _);have ank:=ha.1.nk;have anf:=ha.1.flat;have bnk:=hb.1.nk;have bnf:=hb.1.flat;have hlen:2+rdq r<=3:=hlen;replace hr0:r-p=0:=hr0 Aa;have bs:=Ab7 ha hb hab ht;rcases BJ b.n (B1 (Tr2 f c) c f.rs).length with hlt|heq|hgt
   ·rw[Aj hlt,Az Aa,Az Aa] at bs;refine En [(k0,ob (cC a++cC b))] k1 [(k0,k2)] bs Yb Ya ?_;rintro rc gc' ⟨rfl,e0⟩;refine⟨[],k6,[some (ob (cC a++cC b))],[],.tup [.s (.int .i64 ((2:Nat):Int)),.s (.bool false)],rfl,Rl,⟨⟨_,_,_,e0,.same Yc,rfl,rfl,rfl,rfl⟩,Ae⟩,Ae,.cons rfl (.cons rfl .nil),?_⟩;clear e0;obtain⟨u,hcl,hu⟩:=Jd ht;have unk:=hu.nk;have uf:=hu.flat;refine Ywb ?_;refine XC.mono (eT (.inr ⟨_,rfl⟩) rfl) ?_;rintro r' g' ⟨rfl,rfl⟩;have q1:a.n<(B1 (Tr2 f c) c f.rs).length:=Aa;refine Ywb ?_;conv=>whnf
    exact⟨(r-p,.fin [a,b,⟨(B1 (Tr2 f c) c f.rs).length,u,p⟩]),rho 0 [(k0,k0),(k1,k8),(k2,k7)],_,(by show rdq (r-p)<rdq r;omega),El (clB f (r-p)++[(k2,rdb (cCs [a,b,⟨(B1 (Tr2 f c) c f.rs).length,u,p⟩]))]) k3 [(k0,k0),(k1,k8),(k2,k7)],hst _ (by simp[Sh.L,I8,kyC,nmq,hlt,q1]) (λy hy=>by simp only[Sh.L,Af,Ah,AP] at hy;rcases hy with rfl|rfl|rfl<;>first|exact hu|exact ha.1|exact hb.1|fail) (λL h=>by cases h;exact⟨hr0,Ac⟩),rfl⟩
   ·have q1:a.n<(B1 (Tr2 f c) c f.rs).length:=Aa;rw[Ao Aa,Aj q1,Az Aa,Ch heq] at bs;have hor:=hor b.d hb.2 hrb;refine En [(k0,ob (cC a++cC b))] k1 [(k0,k2)] bs Yb Ya ?_;rintro rc gc' ⟨rfl,e0⟩;refine⟨[],k6,[some (ob (cC a++cC b))],[],.tup [.s (.int .i64 ((1:Nat):Int)),.s (.bool true)],rfl,Rl,⟨⟨_,_,_,e0,.same Yc,rfl,rfl,rfl,rfl⟩,Ae⟩,Ae,.cons rfl (.cons rfl .nil),?_⟩;clear e0;refine Ywe ?_;conv=>whnf
    exact⟨(r-p,.fin [a,⟨b.n,b.v,b.d+p⟩]),rho 0 [(k0,k0),(k1,k6),(k2,k2)],_,(by show rdq (r-p)<rdq r;omega),El (clB f (r-p)++[(k2,rdb (cCs [a,⟨b.n,b.v,b.d+p⟩]))]) k3 [(k0,k0),(k1,k6),(k2,k2)],hst _ (by simp[Sh.L,I8,kyC,nmq,heq,q1]) (λy hy=>by simp only[Sh.L,Af,Ah,AP] at hy;rcases hy with rfl|rfl<;>first|exact hu|exact ha.1|exact hb.1|fail) (λL h=>by cases h;exact⟨hr0,Ac⟩),rfl⟩
   ·rcases BJ a.n (B1 (Tr2 f c) c f.rs).length with hlt2|heq2|hgt2
    ·have q1:¬b.n<(B1 (Tr2 f c) c f.rs).length:=Aa;have q2:¬b.n=(B1 (Tr2 f c) c f.rs).length:=Aa;rw[Ao q1,Aj hlt2,Az Aa,Az Aa] at bs;refine En [(k0,ob (cC a++cC b))] k1 [(k0,k2)] bs Yb Ya ?_;rintro rc gc' ⟨rfl,e0⟩;refine⟨[],k6,[some (ob (cC a++cC b))],[],.tup [.s (.int .i64 ((1:Nat):Int)),.s (.bool false)],rfl,Rl,⟨⟨_,_,_,e0,.same Yc,rfl,rfl,rfl,rfl⟩,Ae⟩,Ae,.cons rfl (.cons rfl .nil),?_⟩;clear e0;obtain⟨u,hcl,hu⟩:=Jd ht;have unk:=hu.nk;have uf:=hu.flat;refine Ywb ?_;refine XC.mono (aD (n:=2) (i:=1) (cc:=cC a++cC b) (vv:=cC ⟨(B1 (Tr2 f c) c f.rs).length,u,p⟩) rfl rfl rfl rfl (λh=>Ad) rfl Ab Ab) ?_;rintro r' g' ⟨rfl,rfl⟩;refine Ywb ?_;conv=>whnf
     exact⟨(r-p,.fin [a,⟨(B1 (Tr2 f c) c f.rs).length,u,p⟩,b]),rho 0 [(k0,k0),(k1,k8),(k2,k7)],_,(by show rdq (r-p)<rdq r;omega),El (clB f (r-p)++[(k2,rdb (cCs [a,⟨(B1 (Tr2 f c) c f.rs).length,u,p⟩,b]))]) k3 [(k0,k0),(k1,k8),(k2,k7)],hst _ (by simp[Sh.L,I8,kyC,nmq,hlt2,q1,q2]) (λy hy=>by simp only[Sh.L,Af,Ah,AP] at hy;rcases hy with rfl|rfl|rfl<;>first|exact hu|exact ha.1|exact hb.1|fail) (λL h=>by cases h;exact⟨hr0,Ac⟩),rfl⟩
    ·have q1:¬b.n<(B1 (Tr2 f c) c f.rs).length:=Aa;have q2:¬b.n=(B1 (Tr2 f c) c f.rs).length:=Aa;rw[Ao q1,Ao Aa,Ch heq2,Az Aa] at bs;have hor:=hor a.d ha.2 hra;refine En [(k0,ob (cC a++cC b))] k1 [(k0,k2)] bs Yb Ya ?_;rintro rc gc' ⟨rfl,e0⟩;refine⟨[],k6,[some (ob (cC a++cC b))],[],.tup [.s (.int .i64 ((0:Nat):Int)),.s (.bool true)],rfl,Rl,⟨⟨_,_,_,e0,.same Yc,rfl,rfl,rfl,rfl⟩,Ae⟩,Ae,.cons rfl (.cons rfl .nil),?_⟩;clear e0;refine Ywe ?_;conv=>whnf
     exact⟨(r-p,.fin [⟨a.n,a.v,a.d+p⟩,b]),rho 0 [(k0,k0),(k1,k6),(k2,k2)],_,(by show rdq (r-p)<rdq r;omega),El (clB f (r-p)++[(k2,rdb (cCs [⟨a.n,a.v,a.d+p⟩,b]))]) k3 [(k0,k0),(k1,k6),(k2,k2)],hst _ (by simp[Sh.L,I8,kyC,nmq,heq2]) (λy hy=>by simp only[Sh.L,Af,Ah,AP] at hy;rcases hy with rfl|rfl<;>first|exact hu|exact ha.1|exact hb.1|fail) (λL h=>by cases h;exact⟨hr0,Ac⟩),rfl⟩
    ·have q1:¬b.n<(B1 (Tr2 f c) c f.rs).length:=Aa;have q2:¬b.n=(B1 (Tr2 f c) c f.rs).length:=Aa;have q3:¬a.n<(B1 (Tr2 f c) c f.rs).length:=Aa;have q4:¬a.n=(B1 (Tr2 f c) c f.rs).length:=Aa;rw[Ao q1,Ao q3,Az Aa,Az Aa] at bs;refine En [(k0,ob (cC a++cC b))] k1 [(k0,k2)] bs Yb Ya ?_;rintro rc gc' ⟨rfl,e0⟩;refine⟨[],k6,[some (ob (cC a++cC b))],[],.tup [.s (.int .i64 ((0:Nat):Int)),.s (.bool false)],rfl,Rl,⟨⟨_,_,_,e0,.same Yc,rfl,rfl,rfl,rfl⟩,Ae⟩,Ae,.cons rfl (.cons rfl .nil),?_⟩;clear e0;obtain⟨u,hcl,hu⟩:=Jd ht;have unk:=hu.nk;have uf:=hu.flat;refine Ywb ?_;refine XC.mono (aD (n:=2) (i:=0) (cc:=cC a++cC b) (vv:=cC ⟨(B1 (Tr2 f c) c f.rs).length,u,p⟩) rfl rfl rfl rfl (λh=>Ad) rfl Ab Ab) ?_;rintro r' g' ⟨rfl,rfl⟩;refine Ywb ?_;conv=>whnf
     exact⟨(r-p,.fin [⟨(B1 (Tr2 f c) c f.rs).length,u,p⟩,a,b]),rho 0 [(k0,k0),(k1,k8),(k2,k7)],_,(by show rdq (r-p)<rdq r;omega),El (clB f (r-p)++[(k2,rdb (cCs [⟨(B1 (Tr2 f c) c f.rs).length,u,p⟩,a,b]))]) k3 [(k0,k0),(k1,k8),(k2,k7)],hst _ (by simp[Sh.L,I8,kyC,nmq,q3,q4]) (λy hy=>by simp only[Sh.L,Af,Ah,AP] at hy;rcases hy with rfl|rfl|rfl<;>first|exact hu|exact ha.1|exact hb.1|fail) (λL h=>by cases h;exact⟨hr0,Ac⟩),rfl⟩
  |old a b=>
   dsimp only[Sh.x,Sh.B,Sh.N];refine Ywb ?_;refine Eo htl Ya ?_;rintro rc gc' ⟨rfl,m,l0,l1,tot,hm,ht,e1,e2⟩;have htk:=ht.nk;have htf:=ht.flat;refine⟨[(k4,k1),(k5,k2)],k6,[],[obl (tbK k4 k5 f c tot) [],mpB m []],.tup [.s (.ptr k4 0),.s (.int .i64 ((0:Nat):Int))],rfl,(show 4<=6 by decide),Ae,⟨⟨_,e1,(Er Ys)⟩,⟨_,e2,.map hm⟩,Ae⟩,.cons rfl (.cons rfl .nil),?_⟩;clear e1 e2;refine Ywb ?_;refine Eo hal Ya ?_;rintro rc gc' rfl;refine⟨[],k6,[],[],dAT p,rfl,Rl,Ae,Ae,.cons Ys (.cons rfl .nil),?_⟩;refine Ywb ?_;have ha:COk a:=(hs.ok a (.head _)).1;have hra:=(hs.ok a (.head _)).2;have hb:COk b:=(hs.ok b (.tail _ (.head _))).1;have hrb:=(hs.ok b (.tail _ (.head _))).2;have hab:a.n<b.n:=(AA.1 hs.asc).1 b (.head _);have ank:=ha.1.nk;have anf:=ha.1.flat;have bnk:=hb.1.nk;have bnf:=hb.1.flat;have hlen:2+rdq r<=3:=hlen;replace hr0:r-p=0:=hr0 Aa;have bs:=XJ (x:=cC a) ha hb hab ht;rcases BJ b.n (B1 (Tr2 f c) c f.rs).length with hlt|heq|hgt
   ·rw[Aj hlt,Az Aa,Az Aa] at bs;refine En [(k0,rdb (cC a)),(k1,clW (cC a++cC b) k0)] k2 [(k0,k2),(k1,k3)] bs Yb Ya ?_;rintro rc gc' ⟨rfl,e0,e1⟩;refine⟨[],k7,[some (rdb (cC a)),some (clW (cC a++cC b) k2)],[],.tup [.s (.int .i64 ((2:Nat):Int)),.s (.bool false)],rfl,Rl,⟨⟨_,_,_,e0,⟨Ys,λh=>Ad,rfl⟩,rfl,rfl,rfl,rfl⟩,⟨_,_,_,e1,⟨Ys,λ_=>⟨rfl,.inl (.cons rfl .nil)⟩,rfl⟩,rfl,rfl,rfl,rfl⟩,Ae⟩,Ae,.cons rfl (.cons rfl .nil),?_⟩;clear e0  e1;obtain⟨u,hcl,hu⟩:=Jd ht;have unk:=hu.nk;have uf:=hu.flat;refine Ywb ?_;refine XC.mono (eT (.inr ⟨_,rfl⟩) rfl) ?_;rintro r' g' ⟨rfl,rfl⟩;have q1:a.n<(B1 (Tr2 f c) c f.rs).length:=Aa;refine Ywb ?_;conv=>whnf
    exact⟨(r-p,.fin [a,b,⟨(B1 (Tr2 f c) c f.rs).length,u,p⟩]),rho 0 [(k0,k0),(k1,k9),(k2,k8)],_,(by show rdq (r-p)<rdq r;omega),El (clB f (r-p)++[(k2,rdb (cCs [a,b,⟨(B1 (Tr2 f c) c f.rs).length,u,p⟩]))]) k3 [(k0,k0),(k1,k9),(k2,k8)],hst _ (by simp[Sh.L,I8,kyC,nmq,hlt,q1]) (λy hy=>by simp only[Sh.L,Af,Ah,AP] at hy;rcases hy with rfl|rfl|rfl<;>first|exact hu|exact ha.1|exact hb.1|fail) (λL h=>by cases h;exact⟨hr0,Ac⟩),rfl⟩
   ·have q1:a.n<(B1 (Tr2 f c) c f.rs).length:=Aa;rw[Ao Aa,Aj q1,Az Aa,Ch heq] at bs;have hor:=hor b.d hb.2 hrb;refine En [(k0,rdb (cC a)),(k1,clW (cC a++cC b) k0)] k2 [(k0,k2),(k1,k3)] bs Yb Ya ?_;rintro rc gc' ⟨rfl,e0,e1⟩;refine⟨[],k7,[some (rdb (cC a)),some (clW (cC a++cC b) k2)],[],.tup [.s (.int .i64 ((1:Nat):Int)),.s (.bool true)],rfl,Rl,⟨⟨_,_,_,e0,⟨Ys,λh=>Ad,rfl⟩,rfl,rfl,rfl,rfl⟩,⟨_,_,_,e1,⟨Ys,λ_=>⟨rfl,.inl (.cons rfl .nil)⟩,rfl⟩,rfl,rfl,rfl,rfl⟩,Ae⟩,Ae,.cons rfl (.cons rfl .nil),?_⟩;clear e0  e1;refine Ywe ?_;conv=>whnf
    exact⟨(r-p,.fin [a,⟨b.n,b.v,b.d+p⟩]),rho 0 [(k0,k0),(k1,k7),(k2,k3)],_,(by show rdq (r-p)<rdq r;omega),El (clB f (r-p)++[(k2,rdb (cCs [a,⟨b.n,b.v,b.d+p⟩]))]) k3 [(k0,k0),(k1,k7),(k2,k3)],hst _ (by simp[Sh.L,I8,kyC,nmq,heq,q1]) (λy hy=>by simp only[Sh.L,Af,Ah,AP] at hy;rcases hy with rfl|rfl<;>first|exact hu|exact ha.1|exact hb.1|fail) (λL h=>by cases h;exact⟨hr0,Ac⟩),rfl⟩
   ·rcases BJ a.n (B1 (Tr2 f c) c f.rs).length with hlt2|heq2|hgt2
    ·have q1:¬b.n<(B1 (Tr2 f c) c f.rs).length:=Aa;have q2:¬b.n=(B1 (Tr2 f c) c f.rs).length:=Aa;rw[Ao q1,Aj hlt2,Az Aa,Az Aa] at bs;refine En [(k0,rdb (cC a)),(k1,clW (cC a++cC b) k0)] k2 [(k0,k2),(k1,k3)] bs Yb Ya ?_;rintro rc gc' ⟨rfl,e0,e1⟩;refine⟨[],k7,[some (rdb (cC a)),some (clW (cC a++cC b) k2)],[],.tup [.s (.int .i64 ((1:Nat):Int)),.s (.bool false)],rfl,Rl,⟨⟨_,_,_,e0,⟨Ys,λh=>Ad,rfl⟩,rfl,rfl,rfl,rfl⟩,⟨_,_,_,e1,⟨Ys,λ_=>⟨rfl,.inl (.cons rfl .nil)⟩,rfl⟩,rfl,rfl,rfl,rfl⟩,Ae⟩,Ae,.cons rfl (.cons rfl .nil),?_⟩;clear e0  e1;obtain⟨u,hcl,hu⟩:=Jd ht;have unk:=hu.nk;have uf:=hu.flat;refine Ywb ?_;refine XC.mono (aD (n:=2) (i:=1) (cc:=cC a++cC b) (vv:=cC ⟨(B1 (Tr2 f c) c f.rs).length,u,p⟩) rfl rfl rfl rfl (λh=>Ad) rfl Ab Ab) ?_;rintro r' g' ⟨rfl,rfl⟩;refine Ywb ?_;conv=>whnf
     exact⟨(r-p,.fin [a,⟨(B1 (Tr2 f c) c f.rs).length,u,p⟩,b]),rho 0 [(k0,k0),(k1,k9),(k2,k8)],_,(by show rdq (r-p)<rdq r;omega),El (clB f (r-p)++[(k2,rdb (cCs [a,⟨(B1 (Tr2 f c) c f.rs).length,u,p⟩,b]))]) k3 [(k0,k0),(k1,k9),(k2,k8)],hst _ (by simp[Sh.L,I8,kyC,nmq,hlt2,q1,q2]) (λy hy=>by simp only[Sh.L,Af,Ah,AP] at hy;rcases hy with rfl|rfl|rfl<;>first|exact hu|exact ha.1|exact hb.1|fail) (λL h=>by cases h;exact⟨hr0,Ac⟩),rfl⟩
    ·have q1:¬b.n<(B1 (Tr2 f c) c f.rs).length:=Aa;have q2:¬b.n=(B1 (Tr2 f c) c f.rs).length:=Aa;rw[Ao q1,Ao Aa,Ch heq2,Az Aa] at bs;have hor:=hor a.d ha.2 hra;refine En [(k0,rdb (cC a)),(k1,clW (cC a++cC b) k0)] k2 [(k0,k2),(k1,k3)] bs Yb Ya ?_;rintro rc gc' ⟨rfl,e0,e1⟩;refine⟨[],k7,[some (rdb (cC a)),some (clW (cC a++cC b) k2)],[],.tup [.s (.int .i64 ((0:Nat):Int)),.s (.bool true)],rfl,Rl,⟨⟨_,_,_,e0,⟨Ys,λh=>Ad,rfl⟩,rfl,rfl,rfl,rfl⟩,⟨_,_,_,e1,⟨Ys,λ_=>⟨rfl,.inl (.cons rfl .nil)⟩,rfl⟩,rfl,rfl,rfl,rfl⟩,Ae⟩,Ae,.cons rfl (.cons rfl .nil),?_⟩;clear e0  e1;refine Ywe ?_;conv=>whnf
     exact⟨(r-p,.fin [⟨a.n,a.v,a.d+p⟩,b]),rho 0 [(k0,k0),(k1,k7),(k2,k3)],_,(by show rdq (r-p)<rdq r;omega),El (clB f (r-p)++[(k2,rdb (cCs [⟨a.n,a.v,a.d+p⟩,b]))]) k3 [(k0,k0),(k1,k7),(k2,k3)],hst _ (by simp[Sh.L,I8,kyC,nmq,heq2]) (λy hy=>by simp only[Sh.L,Af,Ah,AP] at hy;rcases hy with rfl|rfl<;>first|exact hu|exact ha.1|exact hb.1|fail) (λL h=>by cases h;exact⟨hr0,Ac⟩),rfl⟩
    ·have q1:¬b.n<(B1 (Tr2 f c) c f.rs).length:=Aa;have q2:¬b.n=(B1 (Tr2 f c) c f.rs).length:=Aa;have q3:¬a.n<(B1 (Tr2 f c) c f.rs).length:=Aa;have q4:¬a.n=(B1 (Tr2 f c) c f.rs).length:=Aa;rw[Ao q1,Ao q3,Az Aa,Az Aa] at bs;refine En [(k0,rdb (cC a)),(k1,clW (cC a++cC b) k0)] k2 [(k0,k2),(k1,k3)] bs Yb Ya ?_;rintro rc gc' ⟨rfl,e0,e1⟩;refine⟨[],k7,[some (rdb (cC a)),some (clW (cC a++cC b) k2)],[],.tup [.s (.int .i64 ((0:Nat):Int)),.s (.bool false)],rfl,Rl,⟨⟨_,_,_,e0,⟨Ys,λh=>Ad,rfl⟩,rfl,rfl,rfl,rfl⟩,⟨_,_,_,e1,⟨Ys,λ_=>⟨rfl,.inl (.cons rfl .nil)⟩,rfl⟩,rfl,rfl,rfl,rfl⟩,Ae⟩,Ae,.cons rfl (.cons rfl .nil),?_⟩;clear e0  e1;obtain⟨u,hcl,hu⟩:=Jd ht;have unk:=hu.nk;have uf:=hu.flat;refine Ywb ?_;refine XC.mono (aD (n:=2) (i:=0) (cc:=cC a++cC b) (vv:=cC ⟨(B1 (Tr2 f c) c f.rs).length,u,p⟩) rfl rfl rfl rfl (λh=>Ad) rfl Ab Ab) ?_;rintro r' g' ⟨rfl,rfl⟩;refine Ywb ?_;conv=>whnf
     exact⟨(r-p,.fin [⟨(B1 (Tr2 f c) c f.rs).length,u,p⟩,a,b]),rho 0 [(k0,k0),(k1,k9),(k2,k8)],_,(by show rdq (r-p)<rdq r;omega),El (clB f (r-p)++[(k2,rdb (cCs [⟨(B1 (Tr2 f c) c f.rs).length,u,p⟩,a,b]))]) k3 [(k0,k0),(k1,k9),(k2,k8)],hst _ (by simp[Sh.L,I8,kyC,nmq,q3,q4]) (λy hy=>by simp only[Sh.L,Af,Ah,AP] at hy;rcases hy with rfl|rfl|rfl<;>first|exact hu|exact ha.1|exact hb.1|fail) (λL h=>by cases h;exact⟨hr0,Ac⟩),rfl⟩
  |fin L=>exact absurd (hs.fin L rfl).1 hz
def pwq (n:Nat):Bool:=py n||Sp [108] n
theorem rR (q:Nat) (g:A0):G4 deep (.v (.agg [dN q,.int .i64 (dR q)])) g=some (dA q,g):=by show G4 deep (.v (.agg [slV 3 (dT q).1,.int .i64 (dR q)])) g=some (.v (.agg [slV 3 (dT q).1,.int .i64 (dR q)]),g);cases(dT q).1<;>rfl
theorem IL {c d s:Nat} (h:lL c d s):A3 Fn 108 [dA s,dA d,bA (d.testBit c)] (dA (nrw c d s)):=by
 have hr:=h.r;have hm:=h.m;generalize nrw c d s=q at *;refine Ej pwq C.f108 rfl ?_;cases hb:d.testBit c;·have hm:=hm hb;refine Yw1 ?_;exact⟨_,rR _ _⟩
 ·have hr:=hr hb;refine Yw1 ?_;exact⟨_,rR _ _⟩
def sB (N:Nat) (q:EF):Ey:=(List.range N).map λi=>.bool (decide (i∈q))
theorem Yh (N:Nat) (q:EF):(sB N q).length=N:=by simp[sB]
theorem Aag {N:Nat} {q:EF}:∀v∈sB N q,A2 v:=λv h=>by obtain⟨k,_,rfl⟩:=Aw.1 h;exact Ae
theorem kP {N i:Nat} {q:EF} (h:i<N):(sB N q)[i]?=some (.bool (decide (i∈q))):=by simp[sB,h]
theorem EX {N i:Nat} {q:EF}:(sB N q).set i (.bool true)=sB N (q++[i]):=by
 apply Cv;intro j;rw[List.getElem?_set];by_cases h:i=j
 ·subst h;simp only[Yh,Ak];by_cases hi:i<N;·rw[Aj hi,kP hi];simp
  ·rw[Ao hi,AJ (by rw[Yh];omega)]
 ·rw[Ao h];by_cases hj:j<N;·rw[kP hj,kP hj];simp[BL h]
  ·rw[AJ (by rw[Yh];omega),AJ (by rw[Yh];omega)]
theorem Ab9:∀N,M8 [PV.bool false] N=sB N []:=λN=>by
 have:∀N,M8 [PV.bool false] N=List.replicate N (.bool false):=λN=>by
  induction N with
  |zero=>rfl
  |succ n ih=>rw[M8,ih];rfl
 rw[this,sB];apply Cv;intro j;simp[CQ,AD,Dk];split<;>simp_all
def qY:EF->PV
 |[]=>.A4
 |k::l=>.slice k4 0 (l.length+1) 1 none
def qD:EF->List (Key×B4)
 |[]=>[]
 |k::l=>[(k4,wld (kC (k::l)) k0)]
def qM:EF->Key
 |[]=>k4
 |_::_=>k5
abbrev rgL (f:Fo) (s:Nat) (q:EF):List (Key×B4):=[(k0,fzb [.lst 5 (f.ns.map nV) none,.lst 3 (f.rs.map rV) none]),(k1,ob (dC s)),(k2,ob [.A4,.int .i64 (0:Nat)]),(k3,ob (sB f.ns.length q))]
abbrev rgR:Ew:=[(k0,k0),(k1,k1),(k2,k2),(k3,k3)]
abbrev rgI (c N:Nat) (x:PV) (i:Nat):Fm:=[(k1,.v (cA c)),pE k3 k0,pE k5 k1,pE k6 k2,sE k7 (.slice k3 0 N 1 (some N)),sE k8 x,(k9,.v (iA i))]
theorem IM {lo:Nat} {L1 L2:Fm} {f:Fo} {s:Nat} {q:EF} {lb l1 l2 l3:Es} {g:A0} (hlo:lo=0) (e0:g.get k0=some ⟨.cells [.lst 5 (f.ns.map nV) none,.lst 3 (f.rs.map rV) none],true,true,[],lb⟩) (e1:g.get k1=some (obl (dC s) l1)) (e2:g.get k2=some (obl [.A4,.int .i64 (0:Nat)] l2)) (e3:g.get k3=some (obl (sB f.ns.length q) l3)) (hf:Jz (rho lo rgR) L1 L2) :
  Trim lo (rho lo rgR) L1 g L2 (mkH (rgL f s q) k4):=by subst hlo;exact Em (rgL f s q) k4 rgR ⟨⟨_,_,rfl,e0,(Er Ys)⟩,⟨_,_,rfl,e1,.same Yc⟩,⟨_,_,rfl,e2,.same Yc⟩,⟨_,_,rfl,e3,.same (A2.cells Aag)⟩,Ae⟩ hf
theorem Jh {lo:Nat} {L1 L2:Fm} {f:Fo} {s:Nat} {q qs:EF} {lb l1 l2 l3 lx:Es} {ax:ED} {g:A0} (kx:Key) (hlo:lo=0) (e0:g.get k0=some ⟨.cells [.lst 5 (f.ns.map nV) none,.lst 3 (f.rs.map rV) none],true,true,[],lb⟩) (e1:g.get k1=some (obl (dC s) l1)) (e2:g.get k2=some (obl [.A4,.int .i64 (0:Nat)] l2)) (e3:g.get k3=some (obl (sB f.ns.length q) l3)) (ex:g.get kx=some ⟨.cells (kC qs),true,false,ax,lx⟩) (hn:Gk lo k5.toNat (rgL f s q++[(k4,wld (kC qs) k0)]) (rgR++[(k4,kx)]) [] []=true) (hf:Jz (rho lo (rgR++[(k4,kx)])) L1 L2) :
  Trim lo (rho lo (rgR++[(k4,kx)])) L1 g L2 (mkH (rgL f s q++[(k4,wld (kC qs) k0)]) k5):=by subst hlo;exact Trim.of (l:=rgL f s q++[(k4,wld (kC qs) k0)]) (nx:=k5) (rgR++[(k4,kx)]) hn Zl Ae ⟨⟨_,_,rfl,e0,(Er Ys)⟩,⟨_,_,rfl,e1,.same Yc⟩,⟨_,_,rfl,e2,.same Yc⟩,⟨_,_,rfl,e3,.same (A2.cells Aag)⟩,⟨_,_,rfl,ex,⟨A2.cells Rf,λ_=>⟨rfl,.inr ⟨_,_,_,.head _,rfl,e0,rfl⟩⟩,rfl⟩⟩,Ae⟩ hf
theorem Adp {f:Fo} (w:WF0 f) (c:Nat):(qF c f.rs).Nodup/\∀x∈qF c f.rs,x<f.ns.length:=by
 have e:f.rs.map (·.1)=List.range f.rs.length:=by
  apply Cv;intro j;rw[AD];cases h:f.rs[j]? with
  |none=>rw[CJ] at h;rw[AJ (by simpa using h)];rfl
  |some r=>have:=(Gi.1 h).1;rw[Dk this,AK,(w.rt j r h).1]
 have hs:(qF c f.rs).Sublist (List.range f.rs.length):=by rw[<-e];exact List.filter_sublist.map _
 exact⟨hs.nodup List.nodup_range,λx hx=>by have:=BU.1 (hs.subset hx);have:=w.Nl;omega⟩
abbrev rgH (f:Fo) (s:Nat) (q:EF):A0:=mkH (rgL f s q++[(k4,wld (kC q) k0)]) k5
abbrev rgJ (c N l h:Nat):Fm:=[(k1,.v (cA c)),pE k3 k0,pE k5 k1,pE k6 k2,sE k7 (.slice k3 0 N 1 (some N)),sE k8 (.slice k4 0 l 1 none),(k11,.v (iA h))]
abbrev rgK (c N:Nat) (n:Nd) (l h j:Nat):Fm:=(k12,.v (PA.lst 4 (n.az.map aV)))::(k13,.v (iA j))::rgJ c N l h
abbrev rgM (c N:Nat) (n:Nd) (l h j t:Nat):Fm:=(k14,.b true)::(k15,.v (iA t))::rgK c N n l h j
theorem MI {f:Fo} {c s:Nat} (w:WF0 f) (v:WF f) (hA:qF c f.rs≠[]->∀(i:Nat) (n:Nd),f.ns[i]?=some n->∀a∈n.az,lL c a.d (sF c f.rs s)/\nrw c a.d (sF c f.rs s)=sF c f.rs s) (hN:∀i r,f.rs[i]?=some r->lL c r.2 (sF c (f.rs.take i) s)):XC Fn 45 [foA f,cA c,dA s] (mkH [] k0) λr _=>r=dA (sF c f.rs s):=by
 have hrlen:(f.rs.map rV).length=f.rs.length:=Lm ..;have hlen:(f.ns.map nV).length=f.ns.length:=Lm ..;have hL:=w.len;have rL:=w.Nl;rw[E4 w.n0 w.r0];refine Ek pwq C.f45 rfl ?_;refine Yw1 ?_;refine⟨_,_,Gz (n:=f.ns.length) rfl (by rw[hlen]) Aa Ab,?_⟩;rw[Ab9];refine Yw1 ?_;refine XW.Mq k0 Zl rfl rfl ?_;refine XW.B6 (pu:=pwq) (σ:=Nat) (λi=>f.rs.length-i) (λi=>rgI c f.ns.length (qY (qF c (f.rs.take i))) i)
  (λi g=>i<=f.rs.length/\g=mkH (rgL f (sF c (f.rs.take i) s) (qF c (f.rs.take i))++qD (qF c (f.rs.take i))) (qM (qF c (f.rs.take i)))) 0
  (IM rfl rfl rfl rfl rfl Yf) ⟨Zl,rfl⟩ ?_
 rintro i g ⟨hi,rfl⟩;replace hi:i<=f.rs.length:=hi;have hq0:qF c (f.rs.take i)=qF c (f.rs.take i):=rfl;have step:i<f.rs.length->∃r:Nat×Nat,(f.rs.map rV)[(i:Int).toNat]?=some [.int .i64 (i:Nat),dN r.2,.int .i64 (dR r.2)]/\A3 Fn 54 [dA r.2,cA c] (bA (r.2.testBit c))/\A3 Fn 108 [dA (sF c (f.rs.take i) s),dA r.2,bA (r.2.testBit c)] (dA (sF c (f.rs.take (i+1)) s)) /\
   qF c (f.rs.take (i+1))=qF c (f.rs.take i)++(if r.2.testBit c then[i] else[])/\(sB f.ns.length (qF c (f.rs.take i)))[i]?=some (.bool false)/\(qF c (f.rs.take i)).length<=i:=λhi=>by
  have hr:f.rs[i]?=some f.rs[i]:=Gg hi
  have htk:f.rs.take (i+1)=f.rs.take i++[f.rs[i]]:=An hi
  generalize f.rs[i]=r at hr htk
  have hgr:=Je hr
  obtain⟨r1,r2,r3⟩:=w.rt i r hr
  have hq:=HU c (f.rs.take i) r
  have hql:=zW c (f.rs.take i)
  rw[Ba] at hql
  have hs:=HT c (f.rs.take i) r s
  have hw:=IL (hN i r hr)
  have hin:=(hN i r hr).i
  rw[<-htk] at hq hs
  rw[<-hs] at hw
  rw[r1] at hgr hq
  have hni:i∉qF c (f.rs.take i):=λhm=>by
   obtain⟨x,hx,e⟩:=Aw.1 hm
   obtain⟨j,hj⟩:=BP.1 (Co.1 hx).1
   rw[AT] at hj
   split at hj
   ·have:=(w.rt j x hj).1;omega
   ·cases hj
  have hsb:=kP (N:=f.ns.length) (q:=qF c (f.rs.take i)) (i:=i) Aa
  rw[Az hni] at hsb
  exact⟨r,hgr,hin,hw,hq,hsb,Aa⟩
 have full:¬i<f.rs.length->f.rs.take i=f.rs:=λh=>by rw[show i=f.rs.length from Aa];exact AB
 generalize hqq:qF c (f.rs.take i)=q at *;generalize hss:sF c (f.rs.take i) s=s1 at *;clear hq0;rcases q with _|⟨q0,q⟩
 ·refine⟨λh=>?_,λh=>?_⟩
  ·have hi:i<f.rs.length:=by have:=B0 h;omega
   obtain⟨r,hgr,hin,hw,hq,hsb,hql⟩:=step hi;clear step full;cases hb:r.2.testBit c;·rw[hb] at hq hw hin;simp only[Fj,Ag,Ay] at hq;refine Ywb ?_;refine⟨i+1,rho 0 rgR,mkH (rgL f (sF c (f.rs.take (i+1)) s) []) k4,Lq,?_,hi,by rw[hq];rfl⟩;show Trim _ _ _ _ (rgI c f.ns.length (qY (qF c (f.rs.take (i+1)))) (i+1)) _;rw[hq];exact IM rfl rfl rfl rfl rfl Yf
   ·rw[hb] at hq hw hin;simp only[Ak,Bw,AH] at hq;refine Ywb ?_;refine⟨_,_,Te rfl hsb,?_⟩;refine Ywb ?_;refine⟨_,_,Tf rfl (by rw[Yh];omega) EX,?_⟩;refine Ywb ?_;refine⟨i+1,rho 0 (rgR++[(k4,k5)]),mkH (rgL f (sF c (f.rs.take (i+1)) s) ([i])++[(k4,wld (kC ([i])) k0)]) k5,Lq,?_,hi,by rw[hq];rfl⟩;show Trim _ _ _ _ (rgI c f.ns.length (qY (qF c (f.rs.take (i+1)))) (i+1)) _;rw[hq];exact Jh k5 rfl rfl rfl rfl rfl rfl rfl Yf
  ·have hf:=full (by have:=B5 h;omega);rw[hf] at hqq hss;clear step full;refine Ywb ?_;refine Eg pwq ?_;refine Ywb ?_;conv=>whnf
   rw[<-hss];rfl
 ·refine⟨λh=>?_,λh=>?_⟩
  ·have hi:i<f.rs.length:=by have:=B0 h;omega
   obtain⟨r,hgr,hin,hw,hq,hsb,hql⟩:=step hi;clear step full;cases hb:r.2.testBit c;·rw[hb] at hq hw hin;simp only[Fj,Ag,Ay] at hq;refine Ywb ?_;refine⟨i+1,rho 0 (rgR++[(k4,k4)]),mkH (rgL f (sF c (f.rs.take (i+1)) s) (q0::q)++[(k4,wld (kC (q0::q)) k0)]) k5,Lq,?_,hi,by rw[hq];rfl⟩;show Trim _ _ _ _ (rgI c f.ns.length (qY (qF c (f.rs.take (i+1)))) (i+1)) _;rw[hq];exact Jh k4 rfl rfl rfl rfl rfl rfl rfl Yf
   ·rw[hb] at hq hw hin;simp only[Ak,Bw,AH] at hq;refine Ywb ?_;refine⟨_,_,Te rfl hsb,?_⟩;refine Ywb ?_;refine⟨_,_,Tf rfl (by rw[Yh];omega) EX,?_⟩;refine Ywb ?_;refine⟨_,_,jB (c:=kC (q0::q)) (n:=q.length+1) rfl (by rw[jO,CS];rfl) rfl Ab (by simp only[Ap] at hql;omega),?_⟩;refine Ywb ?_;refine⟨i+1,rho 0 (rgR++[(k4,k6)]),mkH (rgL f (sF c (f.rs.take (i+1)) s) (q0::(q++[i]))++[(k4,wld (kC (q0::(q++[i]))) k0)]) k5,Lq,?_,hi,by rw[hq];rfl⟩;show Trim _ _ _ _ (rgI c f.ns.length (qY (qF c (f.rs.take (i+1)))) (i+1)) _;rw[hq];have hcc:kC (q0::(q++[i]))=kC (q0::q)++[.int .i64 (i:Nat)]:=by rw[<-AH,jP];rfl
    rw[show qY (q0::(q++[i]))=.slice k4 0 (q.length+1+1) 1 none from by simp[qY]];exact Jh k6 rfl rfl rfl rfl rfl (by rw[hcc];rfl) rfl Yf
  ·have hf:=full (by have:=B5 h;omega);rw[hf] at hqq hss;clear step full;refine Ywb ?_;obtain⟨hnd,hqb⟩:=Adp w c;rw[hqq] at hnd hqb;have hA:=hA (by rw[hqq];simp);subst hss;clear hqq hN;generalize sF c f.rs s=s1 at *;refine XW.B6 (pu:=pwq) (σ:=Nat×EF) (λp=>f.ns.length-p.1) (λp=>rgJ c f.ns.length p.2.length p.1) (λp g=>p.1<=p.2.length/\p.2.Nodup/\(∀x∈p.2,x<f.ns.length)/\g=rgH f s1 p.2) (0,q0::q)
    (Jh k4 rfl rfl rfl rfl rfl rfl rfl Yf) ⟨Zl,hnd,hqb,rfl⟩ ?_
   clear hnd hqb;rintro⟨h1,q1⟩ g ⟨hh,hnd,hqb,rfl⟩;replace hh:h1<=q1.length:=hh;replace hnd:q1.Nodup:=hnd;replace hqb:∀x∈q1,x<f.ns.length:=hqb;have hqn:=Hc f.ns.length q1 hnd hqb;refine⟨λh=>?_,λh=>?_⟩
   ·have hh:h1<q1.length:=by have:(h1:Int)<(q1.length:Int):=B0 h;omega
    have hx:q1[h1]?=some q1[h1]:=Gg hh;have hxn:=hqb _ (AU hh);generalize q1[h1]=x at hx hxn;have hcx:(kC q1)[h1]?=some (.int .i64 (x:Nat)):=by simp[kC,hx]
    have hn:f.ns[x]?=some f.ns[x]:=Gg hxn;generalize f.ns[x]=n at hn;have hg:=I6 hn;rw[J2 (v.as0 x n hn)] at hg;have haz:=w.Kw x n hn;have hal:=w.al x n hn;have hA:=hA x n hn;have nlen:(n.az.map aV).length=n.az.length:=Lm ..;dsimp only;refine Ywb ?_;refine⟨_,_,Te rfl hcx,?_⟩;refine Ywe ?_;refine XW.B6 (pu:=pwq) (σ:=Nat×EF) (λp=>n.az.length-p.1) (λp=>rgK c f.ns.length n p.2.length h1 p.1) (λp g=>p.1<=n.az.length/\h1<p.2.length/\p.2.Nodup/\(∀x∈p.2,x<f.ns.length)/\g=rgH f s1 p.2) (0,q1)
     (Jh k4 rfl rfl rfl rfl rfl rfl rfl Yf) ⟨Zl,hh,hnd,hqb,rfl⟩ ?_
    clear hnd hqb hh hx hcx hqn h;rintro⟨j,q2⟩ g ⟨hj,hh,hnd,hqb,rfl⟩;replace hj:j<=n.az.length:=hj;replace hh:h1<q2.length:=hh;replace hnd:q2.Nodup:=hnd;replace hqb:∀x∈q2,x<f.ns.length:=hqb;have hqn:=Hc f.ns.length q2 hnd hqb;refine⟨λh=>?_,λh=>?_⟩
    ·have hj:j<n.az.length:=by have:(j:Int)<((n.az.map aV).length:Int):=B0 h;omega
     have ha:n.az[j]?=some n.az[j]:=Gg hj;have hin:=AU hj;generalize n.az[j]=a at ha hin;have hga:(n.az.map aV)[(j:Int).toNat]?=some [.int .i64 a.p,ksV a.ks,dN a.d,.int .i64 (dR a.d)]:=Ii ha;obtain⟨a1,a2,a3,_,_⟩:=hal a hin;obtain⟨hw,hw2⟩:=hA a hin;have hi54:=hw.i;replace hw:=IL hw;rw[hw2] at hw;generalize hkv:ksV a.ks=kv at hga;dsimp only;cases hb:a.d.testBit c
     ·rw[hb] at hw hi54;rcases hks:a.ks with _|⟨y0,ys⟩
      ·obtain rfl:kv=.A4:=by rw[<-hkv,hks];rfl
       refine Ywe ?_;refine Eg pwq ?_;refine Ywe ?_;exact⟨(j+1,q2),rho 0 (rgR++[(k4,k4)]),rgH f s1 q2,Lq,Jh k4 rfl rfl rfl rfl rfl rfl rfl Yf,hj,hh,hnd,hqb,rfl⟩
      ·obtain rfl:kv=.lst 4 (a.ks.map kV) none:=by rw[<-hkv,hks];rfl
       refine Ywe ?_;refine Eg pwq ?_;refine Yw2 (λh=>?_) (λh=>?_);·skip;refine Ywb ?_;exact⟨(j+1,q2),rho 0 (rgR++[(k4,k4)]),rgH f s1 q2,Lq,Jh k4 rfl rfl rfl rfl rfl rfl rfl Yf,hj,hh,hnd,hqb,rfl⟩
       ·skip;refine Ywb ?_;exact⟨(j+1,q2),rho 0 (rgR++[(k4,k4)]),rgH f s1 q2,Lq,Jh k4 rfl rfl rfl rfl rfl rfl rfl Yf,hj,hh,hnd,hqb,rfl⟩
     ·rw[hb] at hw hi54;rcases hks:a.ks with _|⟨y0,ys⟩
      ·obtain rfl:kv=.A4:=by rw[<-hkv,hks];rfl
       refine Ywe ?_;refine Eg pwq ?_;refine Ywe ?_;exact⟨(j+1,q2),rho 0 (rgR++[(k4,k4)]),rgH f s1 q2,Lq,Jh k4 rfl rfl rfl rfl rfl rfl rfl Yf,hj,hh,hnd,hqb,rfl⟩
      ·obtain rfl:kv=.lst 4 (a.ks.map kV) none:=by rw[<-hkv,hks];rfl
       have klen:(a.ks.map kV).length=a.ks.length:=Lm ..;clear hks;refine Ywe ?_;refine XW.B6 (pu:=pwq) (σ:=Nat×EF) (λp=>a.ks.length-p.1) (λp=>rgM c f.ns.length n p.2.length h1 j p.1) (λp g=>p.1<=a.ks.length/\h1<p.2.length/\p.2.Nodup/\(∀x∈p.2,x<f.ns.length)/\g=rgH f s1 p.2) (0,q2)
        (Jh k4 rfl rfl rfl rfl rfl rfl rfl Yf) ⟨Zl,hh,hnd,hqb,rfl⟩ ?_
       clear hnd hqb hh hqn h;rintro⟨t,q3⟩ g ⟨ht,hh3,hnd3,hqb3,rfl⟩;replace ht:t<=a.ks.length:=ht;replace hh3:h1<q3.length:=hh3;replace hnd3:q3.Nodup:=hnd3;replace hqb3:∀x∈q3,x<f.ns.length:=hqb3;have hqn3:=Hc f.ns.length q3 hnd3 hqb3;dsimp only;by_cases ht1:t<a.ks.length
       ·have hk:a.ks[t]?=some a.ks[t]:=Gg ht1;have hkin:=a2 _ (AU ht1);generalize a.ks[t]=k at hk hkin;have hgk:(a.ks.map kV)[(t:Int).toNat]?=some [.int .i64 (k:Nat),.int .i64 (-1),.int .i64 0,.int .i64 0]:=by simp[hk,kV]
        have hsb:=kP (N:=f.ns.length) (q:=q3) (i:=k) Aa;refine Ywb ?_;by_cases hkq:k∈q3;·rw[Ch hkq] at hsb;refine⟨_,_,Te rfl hsb,?_⟩;refine Ywb ?_;exact⟨(t+1,q3),rho 0 (rgR++[(k4,k4)]),rgH f s1 q3,Lq,Jh k4 rfl rfl rfl rfl rfl rfl rfl Yf,ht1,hh3,hnd3,hqb3,rfl⟩
        ·rw[Az hkq] at hsb;refine⟨_,_,Te rfl hsb,?_⟩;refine Ywb ?_;refine⟨_,_,Tf rfl (by rw[Yh];omega) EX,?_⟩;refine Ywb ?_;refine⟨_,_,jB (c:=kC q3) (n:=q3.length) rfl (by rw[jO,CS]) rfl Ab Aa,?_⟩;refine Ywb ?_;refine⟨(t+1,q3++[k]),rho 0 (rgR++[(k4,k6)]),rgH f s1 (q3++[k]),Lq,?_,ht1,(by show h1<(q3++[k]).length;rw[La];omega),?_,?_,rfl⟩;·show Trim _ _ _ _ (rgM c f.ns.length n (q3++[k]).length h1 j (t+1)) _;rw[show(q3++[k]).length=q3.length+1 from Ac];exact Jh k6 rfl rfl rfl rfl rfl (by rw[jP];rfl) rfl Yf
         ·exact Da.2 ⟨hnd3,Ac,λa ha b hb e=>by rw[Ar] at hb;subst hb;subst e;exact hkq ha⟩
         ·intro y hy;rcases Av.1 hy with hy|hy
          ·exact hqb3 y hy
          ·rw[Ar] at hy;subst hy;omega
       ·skip;refine Ywb ?_;exact⟨(j+1,q3),rho 0 (rgR++[(k4,k4)]),rgH f s1 q3,Lq,Jh k4 rfl rfl rfl rfl rfl rfl rfl Yf,hj,hh3,hnd3,hqb3,rfl⟩
    ·dsimp only;refine Ywb ?_;exact⟨(h1+1,q2),rho 0 (rgR++[(k4,k4)]),rgH f s1 q2,Lq,Jh k4 rfl rfl rfl rfl rfl rfl rfl Yf,hh,hnd,hqb,rfl⟩
   ·dsimp only;refine Ywb ?_;conv=>whnf
    rfl
def pr (n:Nat):Bool:=pwq n||Sp [53] n
structure FdOk (f:Fo):Prop where
 least:∀d,d<16->A3 Fn 44 [dA d] (.tup [.s (.int .u64 (lsq d:Nat)),.s (.bool (d !=0))])
 check:∀d,d<16->A3 Fn 43 [dA d] (iA 0)
 sub:∀d,d<16->d≠0->A3 Fn 46 [dA d,dA (ptq d)] (dA (d-ptq d))
 or:∀p∈orL,A3 Fn 105 [dA p.1,dA p.2] (dA (p.1+p.2))
 alike:∀d,d<16->d≠0->XC Fn 45 [foA f,cA (lsq d),dA d] (mkH [] k0) λr _=>r=dA (ptq d)
theorem S0 {a b:Nat} (h:a<b):Iq (a:Int) (b:Int)=-1:=by show(if(a:Int)<b then -1 else if(b:Int)<a then 1 else 0)=(-1:Int);rw[Aj Aa]
theorem kQ {a b:Nat} (h:a=b):Iq (a:Int) (b:Int)=((0:Nat):Int):=by show(if(a:Int)<b then -1 else if(b:Int)<a then 1 else 0)=((0:Nat):Int);rw[Ao Aa,Ao Aa];rfl
theorem S1 {a b:Nat} (h:b<a):Iq (a:Int) (b:Int)=((1:Nat):Int):=by show(if(a:Int)<b then -1 else if(b:Int)<a then 1 else 0)=((1:Nat):Int);rw[Ao Aa,Aj Aa];rfl
theorem dR_0:∀d,d<16->d≠0->dR d≠0:=Ab
abbrev cnK (ka kb:Key) (f:Fo) (c N:Nat):Ey:=[.lst 5 (f.ns.map nV) none,.lst 3 (f.rs.map rV) none,.int .u64 (c:Nat),.slice ka 0 N 1 (some N),.slice kb 0 N 1 (some N),.bool false]
theorem wR {f:Fo} {r0:Nat} (hF:FdOk f) (w:WF0 f) (hs:f.ns.all fmB=true) (hr:r0<16) :
  XC Fn 11 [foA f,dA r0] (mkH [] k0) λr _=>∃L:List Cl,r=.tup [.s (slV 3 (L.map cC)),.s (.int .i64 ((0:Nat):Int))]/\(∀a∈L,COk a)/\L.map kyC=wP f (rdq r0) r0 []:=by
 have w1:=w.wf (AF.1 hs);have snd:=Jc Ye w;rw[hs] at snd;have hck:=hF.check r0 hr;have hal:=hF.alike;have hnew:=λc=>eX (c:=c) w;have hm:=λc=>eY (Tr2 f c) f.ns.length;have htot:=λc hc=>total_ok (c:=c) dZ hc w w1 (hm c);have hL:=w.len;rw[E4 w.n0 w.r0] at snd hal hnew ⊢;refine XC.LG ?_;refine Ek pr C.f11 rfl ?_;refine Ywa ?_;refine XW.B6 (pu:=pr) (σ:=Nat×Sh) (λp=>rdq p.1) (λp=>clI p.2.x) (λp g=>EU f r0 p.1 p.2/\g=mkH (clB f p.1++p.2.B) p.2.N) (r0,.nil)
  (El (clB f r0) k2 [(k0,k0),(k1,k2)]) ⟨⟨hr,by simp[Sh.L],by simp[Sh.L],rfl,(by have:=EV r0 hr;simpa[Sh.L] using this),Ac⟩,rfl⟩ ?_
 clear hck;rintro⟨r,s⟩ g ⟨hs,rfl⟩;replace hs:EU f r0 r s:=hs;by_cases hz:r=0
 ·subst hz;have hok:=λa ha=>(hs.ok a ha).1;have hrun:=hs.run;cases s with
  |nil=>
   dsimp only[Sh.x,Sh.B,Sh.N];refine Yw1 ?_;conv=>whnf
   exact⟨_,_,rfl,[],rfl,Ac,hrun⟩
  |one a=>
   dsimp only[Sh.x,Sh.B,Sh.N];refine Yw1 ?_;conv=>whnf
   exact⟨_,_,St (Vh (L:=[a]) (k:=k2) rfl hok Ac),_,rfl,hok,hrun⟩
  |two a b=>
   dsimp only[Sh.x,Sh.B,Sh.N];refine Yw1 ?_;conv=>whnf
   exact⟨_,_,St (Vh (L:=[a,b]) (k:=k2) rfl hok Ac),_,rfl,hok,hrun⟩
  |old a b=>
   dsimp only[Sh.x,Sh.B,Sh.N];refine Yw1 ?_;conv=>whnf
   exact⟨_,_,St (Vh (L:=[a,b]) (k:=k3) rfl hok Ac),_,rfl,hok,hrun⟩
  |fin L=>
   dsimp only[Sh.x,Sh.B,Sh.N];refine Yw1 ?_;conv=>whnf
   exact⟨_,_,St (Vh (L:=L) (k:=k2) rfl hok (hs.fin L rfl).2),_,rfl,hok,hrun⟩
 ·have hle:=hF.least r hs.lt;rw[show(r !=0)=true from by simp[hz]] at hle;have hdr:=dR_0 r hs.lt hz;obtain⟨p1,p2,p3,p4,p5⟩:=SL r hs.lt hz;have hsub:=hF.sub r hs.lt hz;have hor:=λd hd hd'=>hF.or _ (IK (d:=d) hs.lt hd hz hd').1;replace hal:=hal r hs.lt hz;replace htot:=htot (lsq r) (rQ r);have hst:=λs'=>hs.step (s':=s') hz;have hlen:=hs.len;have hr0:=Aaf (r-ptq r) p3;replace hnew:=hnew (lsq r);replace hm:=hm (lsq r);generalize lsq r=c at *;generalize ptq r=p at *;cases s with
  |nil=>
   dsimp only[Sh.x,Sh.B,Sh.N];refine Yw2 (λh=>?_) (λh=>?_);case refine_2=>exact absurd h (by simp[hdr])
   refine Ywb ?_;refine Eo hnew Ya ?_;rintro rc gc' ⟨rfl,e1,e2,e3⟩;refine⟨[(k2,k1),(k3,k2),(k4,k3)],k5,[],[ob (List.replicate f.ns.length .A4),ob (List.replicate f.ns.length (.bool false)),ob (cnK k2 k3 f c f.ns.length)],.v (.s (.ptr k4 0)),rfl,(show 2<=5 by decide),Ae,⟨⟨_,e1,.same (A2.cells hm.knk)⟩,⟨_,e2,.same (A2.cells hm.dnk)⟩,⟨_,e3,(Er Ys)⟩,Ae⟩,rfl,?_⟩;clear e1 e2 e3;refine Ywb ?_;refine En (cnL f c f.ns.length (List.replicate f.ns.length .A4) (List.replicate f.ns.length (.bool false)) [] [] []) k3 [(k0,k4),(k1,k2),(k2,k3)] htot ⟨⟨_,_,rfl,rfl,(Er Ys)⟩,⟨_,_,rfl,rfl,.same (A2.cells hm.knk)⟩,⟨_,_,rfl,rfl,.same (A2.cells hm.dnk)⟩,Ae⟩ Ya ?_;rintro rc gc' ⟨⟨tot,rfl,ht⟩,ks,ds,l0,l1,l2,hm2,e0,e1,e2⟩;have htk:=ht.nk;have htf:=ht.flat;refine⟨[],k5,[some (obl (cnK k2 k3 f c f.ns.length) (l0++[])),some (obl ks (l1++[])),some (obl ds (l2++[]))],[],.tup [.s tot,.s (.int .i64 ((0:Nat):Int))],rfl,Rl,⟨⟨_,_,_,e0,(Er Ys),rfl,rfl,rfl,rfl⟩,⟨_,_,_,e1,.same (A2.cells hm2.knk),rfl,rfl,rfl,rfl⟩,⟨_,_,_,e2,.same (A2.cells hm2.dnk),rfl,rfl,rfl,rfl⟩,Ae⟩,Ae,.cons htk.rn (.cons rfl .nil),?_⟩;clear e0 e1 e2;refine Ywb ?_;refine Eo hal Ya ?_;rintro rc gc' rfl;refine⟨[],k5,[],[],dA p,rfl,Rl,Ae,Ae,Ys,?_⟩;refine Ywb ?_;refine Ek pr C.f47 rfl ?_;refine Ywb ?_;refine Eg pr ?_;refine Ywb ?_;refine Eg pr ?_;refine Ywb ?_;conv=>whnf
   exact⟨(r-p,.one ⟨(B1 (Tr2 f c) c f.rs).length,tot,p⟩),rho 0 [(k0,k0),(k1,k1),(k2,k8)],_,(by show rdq (r-p)<rdq r;omega),El (clB f (r-p)++[(k2,ob (cC ⟨(B1 (Tr2 f c) c f.rs).length,tot,p⟩))]) k3 [(k0,k0),(k1,k1),(k2,k8)],hst _ rfl (by simpa[Sh.L] using ht) Ac,rfl⟩
  |one a=>
   dsimp only[Sh.x,Sh.B,Sh.N];refine Yw2 (λh=>?_) (λh=>?_);case refine_2=>exact absurd h (by simp[hdr])
   refine Ywb ?_;refine Eo hnew Ya ?_;rintro rc gc' ⟨rfl,e1,e2,e3⟩;refine⟨[(k3,k1),(k4,k2),(k5,k3)],k6,[],[ob (List.replicate f.ns.length .A4),ob (List.replicate f.ns.length (.bool false)),ob (cnK k3 k4 f c f.ns.length)],.v (.s (.ptr k5 0)),rfl,(show 3<=6 by decide),Ae,⟨⟨_,e1,.same (A2.cells hm.knk)⟩,⟨_,e2,.same (A2.cells hm.dnk)⟩,⟨_,e3,(Er Ys)⟩,Ae⟩,rfl,?_⟩;clear e1 e2 e3;refine Ywb ?_;refine En (cnL f c f.ns.length (List.replicate f.ns.length .A4) (List.replicate f.ns.length (.bool false)) [] [] []) k3 [(k0,k5),(k1,k3),(k2,k4)] htot ⟨⟨_,_,rfl,rfl,(Er Ys)⟩,⟨_,_,rfl,rfl,.same (A2.cells hm.knk)⟩,⟨_,_,rfl,rfl,.same (A2.cells hm.dnk)⟩,Ae⟩ Ya ?_;rintro rc gc' ⟨⟨tot,rfl,ht⟩,ks,ds,l0,l1,l2,hm2,e0,e1,e2⟩;have htk:=ht.nk;have htf:=ht.flat;refine⟨[],k6,[some (obl (cnK k3 k4 f c f.ns.length) (l0++[])),some (obl ks (l1++[])),some (obl ds (l2++[]))],[],.tup [.s tot,.s (.int .i64 ((0:Nat):Int))],rfl,Rl,⟨⟨_,_,_,e0,(Er Ys),rfl,rfl,rfl,rfl⟩,⟨_,_,_,e1,.same (A2.cells hm2.knk),rfl,rfl,rfl,rfl⟩,⟨_,_,_,e2,.same (A2.cells hm2.dnk),rfl,rfl,rfl,rfl⟩,Ae⟩,Ae,.cons htk.rn (.cons rfl .nil),?_⟩;clear e0 e1 e2;refine Ywb ?_;refine Eo hal Ya ?_;rintro rc gc' rfl;refine⟨[],k6,[],[],dA p,rfl,Rl,Ae,Ae,Ys,?_⟩;refine Ywb ?_;have ha:COk a:=(hs.ok a (.head _)).1;have hra:=(hs.ok a (.head _)).2;have ank:=ha.1.nk;have anf:=ha.1.flat;have hca:=Lh ha.1 ht;rcases BJ a.n (B1 (Tr2 f c) c f.rs).length with hlt|heq|hgt
   ·rw[S0 hlt] at hca;refine Ek pr C.f47 rfl ?_;refine Ywb ?_;refine Eg pr ?_;refine Ywb ?_;refine Eg pr ?_;refine Ywb ?_;refine Eg pr ?_;refine Ywb ?_;conv=>whnf
    exact⟨(r-p,.old a ⟨(B1 (Tr2 f c) c f.rs).length,tot,p⟩),rho 0 [(k0,k0),(k1,k1),(k2,k2),(k3,k9)],_,(by show rdq (r-p)<rdq r;omega),El (clB f (r-p)++[(k2,rdb (cC a)),(k3,clW (cC a++cC ⟨(B1 (Tr2 f c) c f.rs).length,tot,p⟩) k2)]) k4 [(k0,k0),(k1,k1),(k2,k2),(k3,k9)],hst _ (by simp[Sh.L,I8,kyC,nmq,hlt]) (λy hy=>by simp only[Sh.L,Af,Ah,AP] at hy;rcases hy with rfl|rfl<;>first|exact ht|exact ha.1|exact hb.1|fail) Ac,rfl⟩
   ·rw[kQ heq] at hca;have hor:=hor a.d ha.2 hra;refine Ek pr C.f47 rfl ?_;refine Ywb ?_;refine Eg pr ?_;refine Ywb ?_;conv=>whnf
    exact⟨(r-p,.one ⟨a.n,a.v,a.d+p⟩),rho 0 [(k0,k0),(k1,k1),(k2,k2)],_,(by show rdq (r-p)<rdq r;omega),El (clB f (r-p)++[(k2,ob (cC ⟨a.n,a.v,a.d+p⟩))]) k3 [(k0,k0),(k1,k1),(k2,k2)],hst _ (by simp[Sh.L,I8,kyC,nmq,heq]) (by simpa[Sh.L] using ha.1) Ac,rfl⟩
   ·have q1:¬a.n<(B1 (Tr2 f c) c f.rs).length:=Aa;have q2:¬a.n=(B1 (Tr2 f c) c f.rs).length:=Aa;rw[S1 hgt] at hca;refine Ek pr C.f47 rfl ?_;refine Ywb ?_;refine Eg pr ?_;refine Ywb ?_;refine Eg pr ?_;refine Ywb ?_;refine Eg pr ?_;refine Ywb ?_;conv=>whnf
    exact⟨(r-p,.two ⟨(B1 (Tr2 f c) c f.rs).length,tot,p⟩ a),rho 0 [(k0,k0),(k1,k1),(k2,k9)],_,(by show rdq (r-p)<rdq r;omega),El (clB f (r-p)++[(k2,ob (cC ⟨(B1 (Tr2 f c) c f.rs).length,tot,p⟩++cC a))]) k3 [(k0,k0),(k1,k1),(k2,k9)],hst _ (by simp[Sh.L,I8,kyC,nmq,q1,q2]) (λy hy=>by simp only[Sh.L,Af,Ah,AP] at hy;rcases hy with rfl|rfl<;>first|exact ht|exact ha.1|exact hb.1|fail) Ac,rfl⟩
  |two a b=>
   dsimp only[Sh.x,Sh.B,Sh.N];refine Yw2 (λh=>?_) (λh=>?_);case refine_2=>exact absurd h (by simp[hdr])
   refine Ywb ?_;refine Eo hnew Ya ?_;rintro rc gc' ⟨rfl,e1,e2,e3⟩;refine⟨[(k3,k1),(k4,k2),(k5,k3)],k6,[],[ob (List.replicate f.ns.length .A4),ob (List.replicate f.ns.length (.bool false)),ob (cnK k3 k4 f c f.ns.length)],.v (.s (.ptr k5 0)),rfl,(show 3<=6 by decide),Ae,⟨⟨_,e1,.same (A2.cells hm.knk)⟩,⟨_,e2,.same (A2.cells hm.dnk)⟩,⟨_,e3,(Er Ys)⟩,Ae⟩,rfl,?_⟩;clear e1 e2 e3;refine Ywb ?_;refine En (cnL f c f.ns.length (List.replicate f.ns.length .A4) (List.replicate f.ns.length (.bool false)) [] [] []) k3 [(k0,k5),(k1,k3),(k2,k4)] htot ⟨⟨_,_,rfl,rfl,(Er Ys)⟩,⟨_,_,rfl,rfl,.same (A2.cells hm.knk)⟩,⟨_,_,rfl,rfl,.same (A2.cells hm.dnk)⟩,Ae⟩ Ya ?_;rintro rc gc' ⟨⟨tot,rfl,ht⟩,ks,ds,l0,l1,l2,hm2,e0,e1,e2⟩;have htk:=ht.nk;have htf:=ht.flat;refine⟨[],k6,[some (obl (cnK k3 k4 f c f.ns.length) (l0++[])),some (obl ks (l1++[])),some (obl ds (l2++[]))],[],.tup [.s tot,.s (.int .i64 ((0:Nat):Int))],rfl,Rl,⟨⟨_,_,_,e0,(Er Ys),rfl,rfl,rfl,rfl⟩,⟨_,_,_,e1,.same (A2.cells hm2.knk),rfl,rfl,rfl,rfl⟩,⟨_,_,_,e2,.same (A2.cells hm2.dnk),rfl,rfl,rfl,rfl⟩,Ae⟩,Ae,.cons htk.rn (.cons rfl .nil),?_⟩;clear e0 e1 e2;refine Ywb ?_;refine Eo hal Ya ?_;rintro rc gc' rfl;refine⟨[],k6,[],[],dA p,rfl,Rl,Ae,Ae,Ys,?_⟩;refine Ywb ?_;have ha:COk a:=(hs.ok a (.head _)).1;have hra:=(hs.ok a (.head _)).2;have hb:COk b:=(hs.ok b (.tail _ (.head _))).1;have hrb:=(hs.ok b (.tail _ (.head _))).2;have hab:a.n<b.n:=(AA.1 hs.asc).1 b (.head _);have ank:=ha.1.nk;have anf:=ha.1.flat;have bnk:=hb.1.nk;have bnf:=hb.1.flat;have hlen:2+rdq r<=3:=hlen;replace hr0:r-p=0:=hr0 Aa;have hca:=Lh ha.1 ht;have hcb:=Lh hb.1 ht;rcases BJ b.n (B1 (Tr2 f c) c f.rs).length with hlt|heq|hgt
   ·have q1:a.n<(B1 (Tr2 f c) c f.rs).length:=Aa;rw[S0 q1] at hca;rw[S0 hlt] at hcb;refine Ek pr C.f47 rfl ?_;refine Ywb ?_;refine Eg pr ?_;refine Ywb ?_;refine Eg pr ?_;refine Ywb ?_;refine Eg pr ?_;refine Ywb ?_;refine Eg pr ?_;refine Ywb ?_;conv=>whnf
    exact⟨(r-p,.fin [a,b,⟨(B1 (Tr2 f c) c f.rs).length,tot,p⟩]),rho 0 [(k0,k0),(k1,k1),(k2,k9)],_,(by show rdq (r-p)<rdq r;omega),El (clB f (r-p)++[(k2,rdb (cCs [a,b,⟨(B1 (Tr2 f c) c f.rs).length,tot,p⟩]))]) k3 [(k0,k0),(k1,k1),(k2,k9)],hst _ (by simp[Sh.L,I8,kyC,nmq,hlt,q1]) (λy hy=>by simp only[Sh.L,Af,Ah,AP] at hy;rcases hy with rfl|rfl|rfl<;>first|exact ht|exact ha.1|exact hb.1|fail) (λL h=>by cases h;exact⟨hr0,Ac⟩),rfl⟩
   ·have q1:a.n<(B1 (Tr2 f c) c f.rs).length:=Aa;rw[S0 q1] at hca;rw[kQ heq] at hcb;have hor:=hor b.d hb.2 hrb;refine Ek pr C.f47 rfl ?_;refine Ywb ?_;refine Eg pr ?_;refine Ywb ?_;refine Eg pr ?_;refine Ywb ?_;conv=>whnf
    exact⟨(r-p,.fin [a,⟨b.n,b.v,b.d+p⟩]),rho 0 [(k0,k0),(k1,k1),(k2,k2)],_,(by show rdq (r-p)<rdq r;omega),El (clB f (r-p)++[(k2,rdb (cCs [a,⟨b.n,b.v,b.d+p⟩]))]) k3 [(k0,k0),(k1,k1),(k2,k2)],hst _ (by simp[Sh.L,I8,kyC,nmq,heq,q1]) (λy hy=>by simp only[Sh.L,Af,Ah,AP] at hy;rcases hy with rfl|rfl<;>first|exact ht|exact ha.1|exact hb.1|fail) (λL h=>by cases h;exact⟨hr0,Ac⟩),rfl⟩
   ·rcases BJ a.n (B1 (Tr2 f c) c f.rs).length with hlt2|heq2|hgt2
    ·have q1:¬b.n<(B1 (Tr2 f c) c f.rs).length:=Aa;have q2:¬b.n=(B1 (Tr2 f c) c f.rs).length:=Aa;rw[S1 hgt] at hcb;rw[S0 hlt2] at hca;refine Ek pr C.f47 rfl ?_;refine Ywb ?_;refine Eg pr ?_;refine Ywb ?_;refine Eg pr ?_;refine Ywb ?_;refine Eg pr ?_;refine Ywb ?_;refine Eg pr ?_;refine Ywb ?_;conv=>whnf
     exact⟨(r-p,.fin [a,⟨(B1 (Tr2 f c) c f.rs).length,tot,p⟩,b]),rho 0 [(k0,k0),(k1,k1),(k2,k9)],_,(by show rdq (r-p)<rdq r;omega),El (clB f (r-p)++[(k2,rdb (cCs [a,⟨(B1 (Tr2 f c) c f.rs).length,tot,p⟩,b]))]) k3 [(k0,k0),(k1,k1),(k2,k9)],hst _ (by simp[Sh.L,I8,kyC,nmq,hlt2,q1,q2]) (λy hy=>by simp only[Sh.L,Af,Ah,AP] at hy;rcases hy with rfl|rfl|rfl<;>first|exact ht|exact ha.1|exact hb.1|fail) (λL h=>by cases h;exact⟨hr0,Ac⟩),rfl⟩
    ·have q1:¬b.n<(B1 (Tr2 f c) c f.rs).length:=Aa;have q2:¬b.n=(B1 (Tr2 f c) c f.rs).length:=Aa;rw[S1 hgt] at hcb;rw[kQ heq2] at hca;have hor:=hor a.d ha.2 hra;refine Ek pr C.f47 rfl ?_;refine Ywb ?_;refine Eg pr ?_;refine Ywb ?_;conv=>whnf
     exact⟨(r-p,.fin [⟨a.n,a.v,a.d+p⟩,b]),rho 0 [(k0,k0),(k1,k1),(k2,k2)],_,(by show rdq (r-p)<rdq r;omega),El (clB f (r-p)++[(k2,rdb (cCs [⟨a.n,a.v,a.d+p⟩,b]))]) k3 [(k0,k0),(k1,k1),(k2,k2)],hst _ (by simp[Sh.L,I8,kyC,nmq,heq2]) (λy hy=>by simp only[Sh.L,Af,Ah,AP] at hy;rcases hy with rfl|rfl<;>first|exact ht|exact ha.1|exact hb.1|fail) (λL h=>by cases h;exact⟨hr0,Ac⟩),rfl⟩
    ·have q1:¬b.n<(B1 (Tr2 f c) c f.rs).length:=Aa;have q2:¬b.n=(B1 (Tr2 f c) c f.rs).length:=Aa;rw[S1 hgt] at hcb;have q3:¬a.n<(B1 (Tr2 f c) c f.rs).length:=Aa;have q4:¬a.n=(B1 (Tr2 f c) c f.rs).length:=Aa;rw[S1 hgt2] at hca;refine Ek pr C.f47 rfl ?_;refine Ywb ?_;refine Eg pr ?_;refine Ywb ?_;refine Eg pr ?_;refine Ywb ?_;refine Eg pr ?_;refine Ywb ?_;refine Eg pr ?_;refine Ywb ?_;conv=>whnf
     exact⟨(r-p,.fin [⟨(B1 (Tr2 f c) c f.rs).length,tot,p⟩,a,b]),rho 0 [(k0,k0),(k1,k1),(k2,k9)],_,(by show rdq (r-p)<rdq r;omega),El (clB f (r-p)++[(k2,rdb (cCs [⟨(B1 (Tr2 f c) c f.rs).length,tot,p⟩,a,b]))]) k3 [(k0,k0),(k1,k1),(k2,k9)],hst _ (by simp[Sh.L,I8,kyC,nmq,q3,q4]) (λy hy=>by simp only[Sh.L,Af,Ah,AP] at hy;rcases hy with rfl|rfl|rfl<;>first|exact ht|exact ha.1|exact hb.1|fail) (λL h=>by cases h;exact⟨hr0,Ac⟩),rfl⟩
  |old a b=>
   dsimp only[Sh.x,Sh.B,Sh.N];refine Yw2 (λh=>?_) (λh=>?_);case refine_2=>exact absurd h (by simp[hdr])
   refine Ywb ?_;refine Eo hnew Ya ?_;rintro rc gc' ⟨rfl,e1,e2,e3⟩;refine⟨[(k4,k1),(k5,k2),(k6,k3)],k7,[],[ob (List.replicate f.ns.length .A4),ob (List.replicate f.ns.length (.bool false)),ob (cnK k4 k5 f c f.ns.length)],.v (.s (.ptr k6 0)),rfl,(show 4<=7 by decide),Ae,⟨⟨_,e1,.same (A2.cells hm.knk)⟩,⟨_,e2,.same (A2.cells hm.dnk)⟩,⟨_,e3,(Er Ys)⟩,Ae⟩,rfl,?_⟩;clear e1 e2 e3;refine Ywb ?_;refine En (cnL f c f.ns.length (List.replicate f.ns.length .A4) (List.replicate f.ns.length (.bool false)) [] [] []) k3 [(k0,k6),(k1,k4),(k2,k5)] htot ⟨⟨_,_,rfl,rfl,(Er Ys)⟩,⟨_,_,rfl,rfl,.same (A2.cells hm.knk)⟩,⟨_,_,rfl,rfl,.same (A2.cells hm.dnk)⟩,Ae⟩ Ya ?_;rintro rc gc' ⟨⟨tot,rfl,ht⟩,ks,ds,l0,l1,l2,hm2,e0,e1,e2⟩;have htk:=ht.nk;have htf:=ht.flat;refine⟨[],k7,[some (obl (cnK k4 k5 f c f.ns.length) (l0++[])),some (obl ks (l1++[])),some (obl ds (l2++[]))],[],.tup [.s tot,.s (.int .i64 ((0:Nat):Int))],rfl,Rl,⟨⟨_,_,_,e0,(Er Ys),rfl,rfl,rfl,rfl⟩,⟨_,_,_,e1,.same (A2.cells hm2.knk),rfl,rfl,rfl,rfl⟩,⟨_,_,_,e2,.same (A2.cells hm2.dnk),rfl,rfl,rfl,rfl⟩,Ae⟩,Ae,.cons htk.rn (.cons rfl .nil),?_⟩;clear e0 e1 e2;refine Ywb ?_;refine Eo hal Ya ?_;rintro rc gc' rfl;refine⟨[],k7,[],[],dA p,rfl,Rl,Ae,Ae,Ys,?_⟩;refine Ywb ?_;have ha:COk a:=(hs.ok a (.head _)).1;have hra:=(hs.ok a (.head _)).2;have hb:COk b:=(hs.ok b (.tail _ (.head _))).1;have hrb:=(hs.ok b (.tail _ (.head _))).2;have hab:a.n<b.n:=(AA.1 hs.asc).1 b (.head _);have ank:=ha.1.nk;have anf:=ha.1.flat;have bnk:=hb.1.nk;have bnf:=hb.1.flat;have hlen:2+rdq r<=3:=hlen;replace hr0:r-p=0:=hr0 Aa;have hca:=Lh ha.1 ht;have hcb:=Lh hb.1 ht;rcases BJ b.n (B1 (Tr2 f c) c f.rs).length with hlt|heq|hgt
   ·have q1:a.n<(B1 (Tr2 f c) c f.rs).length:=Aa;rw[S0 q1] at hca;rw[S0 hlt] at hcb;refine Ek pr C.f47 rfl ?_;refine Ywb ?_;refine Eg pr ?_;refine Ywb ?_;refine Eg pr ?_;refine Ywb ?_;refine Eg pr ?_;refine Ywb ?_;refine Eg pr ?_;refine Ywb ?_;conv=>whnf
    exact⟨(r-p,.fin [a,b,⟨(B1 (Tr2 f c) c f.rs).length,tot,p⟩]),rho 0 [(k0,k0),(k1,k1),(k2,k10)],_,(by show rdq (r-p)<rdq r;omega),El (clB f (r-p)++[(k2,rdb (cCs [a,b,⟨(B1 (Tr2 f c) c f.rs).length,tot,p⟩]))]) k3 [(k0,k0),(k1,k1),(k2,k10)],hst _ (by simp[Sh.L,I8,kyC,nmq,hlt,q1]) (λy hy=>by simp only[Sh.L,Af,Ah,AP] at hy;rcases hy with rfl|rfl|rfl<;>first|exact ht|exact ha.1|exact hb.1|fail) (λL h=>by cases h;exact⟨hr0,Ac⟩),rfl⟩
   ·have q1:a.n<(B1 (Tr2 f c) c f.rs).length:=Aa;rw[S0 q1] at hca;rw[kQ heq] at hcb;have hor:=hor b.d hb.2 hrb;refine Ek pr C.f47 rfl ?_;refine Ywb ?_;refine Eg pr ?_;refine Ywb ?_;refine Eg pr ?_;refine Ywb ?_;conv=>whnf
    exact⟨(r-p,.fin [a,⟨b.n,b.v,b.d+p⟩]),rho 0 [(k0,k0),(k1,k1),(k2,k3)],_,(by show rdq (r-p)<rdq r;omega),El (clB f (r-p)++[(k2,rdb (cCs [a,⟨b.n,b.v,b.d+p⟩]))]) k3 [(k0,k0),(k1,k1),(k2,k3)],hst _ (by simp[Sh.L,I8,kyC,nmq,heq,q1]) (λy hy=>by simp only[Sh.L,Af,Ah,AP] at hy;rcases hy with rfl|rfl<;>first|exact ht|exact ha.1|exact hb.1|fail) (λL h=>by cases h;exact⟨hr0,Ac⟩),rfl⟩
   ·rcases BJ a.n (B1 (Tr2 f c) c f.rs).length with hlt2|heq2|hgt2
    ·have q1:¬b.n<(B1 (Tr2 f c) c f.rs).length:=Aa;have q2:¬b.n=(B1 (Tr2 f c) c f.rs).length:=Aa;rw[S1 hgt] at hcb;rw[S0 hlt2] at hca;refine Ek pr C.f47 rfl ?_;refine Ywb ?_;refine Eg pr ?_;refine Ywb ?_;refine Eg pr ?_;refine Ywb ?_;refine Eg pr ?_;refine Ywb ?_;refine Eg pr ?_;refine Ywb ?_;conv=>whnf
     exact⟨(r-p,.fin [a,⟨(B1 (Tr2 f c) c f.rs).length,tot,p⟩,b]),rho 0 [(k0,k0),(k1,k1),(k2,k10)],_,(by show rdq (r-p)<rdq r;omega),El (clB f (r-p)++[(k2,rdb (cCs [a,⟨(B1 (Tr2 f c) c f.rs).length,tot,p⟩,b]))]) k3 [(k0,k0),(k1,k1),(k2,k10)],hst _ (by simp[Sh.L,I8,kyC,nmq,hlt2,q1,q2]) (λy hy=>by simp only[Sh.L,Af,Ah,AP] at hy;rcases hy with rfl|rfl|rfl<;>first|exact ht|exact ha.1|exact hb.1|fail) (λL h=>by cases h;exact⟨hr0,Ac⟩),rfl⟩
    ·have q1:¬b.n<(B1 (Tr2 f c) c f.rs).length:=Aa;have q2:¬b.n=(B1 (Tr2 f c) c f.rs).length:=Aa;rw[S1 hgt] at hcb;rw[kQ heq2] at hca;have hor:=hor a.d ha.2 hra;refine Ek pr C.f47 rfl ?_;refine Ywb ?_;refine Eg pr ?_;refine Ywb ?_;conv=>whnf
     exact⟨(r-p,.fin [⟨a.n,a.v,a.d+p⟩,b]),rho 0 [(k0,k0),(k1,k1),(k2,k3)],_,(by show rdq (r-p)<rdq r;omega),El (clB f (r-p)++[(k2,rdb (cCs [⟨a.n,a.v,a.d+p⟩,b]))]) k3 [(k0,k0),(k1,k1),(k2,k3)],hst _ (by simp[Sh.L,I8,kyC,nmq,heq2]) (λy hy=>by simp only[Sh.L,Af,Ah,AP] at hy;rcases hy with rfl|rfl<;>first|exact ht|exact ha.1|exact hb.1|fail) (λL h=>by cases h;exact⟨hr0,Ac⟩),rfl⟩
    ·have q1:¬b.n<(B1 (Tr2 f c) c f.rs).length:=Aa;have q2:¬b.n=(B1 (Tr2 f c) c f.rs).length:=Aa;rw[S1 hgt] at hcb;have q3:¬a.n<(B1 (Tr2 f c) c f.rs).length:=Aa;have q4:¬a.n=(B1 (Tr2 f c) c f.rs).length:=Aa;rw[S1 hgt2] at hca;refine Ek pr C.f47 rfl ?_;refine Ywb ?_;refine Eg pr ?_;refine Ywb ?_;refine Eg pr ?_;refine Ywb ?_;refine Eg pr ?_;refine Ywb ?_;refine Eg pr ?_;refine Ywb ?_;conv=>whnf
     exact⟨(r-p,.fin [⟨(B1 (Tr2 f c) c f.rs).length,tot,p⟩,a,b]),rho 0 [(k0,k0),(k1,k1),(k2,k10)],_,(by show rdq (r-p)<rdq r;omega),El (clB f (r-p)++[(k2,rdb (cCs [⟨(B1 (Tr2 f c) c f.rs).length,tot,p⟩,a,b]))]) k3 [(k0,k0),(k1,k1),(k2,k10)],hst _ (by simp[Sh.L,I8,kyC,nmq,q3,q4]) (λy hy=>by simp only[Sh.L,Af,Ah,AP] at hy;rcases hy with rfl|rfl|rfl<;>first|exact ht|exact ha.1|exact hb.1|fail) (λL h=>by cases h;exact⟨hr0,Ac⟩),rfl⟩
  |fin L=>exact absurd (hs.fin L rfl).1 hz
end Go.Pv
end
section
noncomputable section
set_option maxRecDepth 100000
namespace Go.Pv.E
open Go.Vm Go.Pv.K
def dAT (d:Nat):PA:=.tup [.agg [slV 3 (dT d).1,.int .i64 ((dT d).2:Nat)],.s (.int .i64 (0:Nat))]
abbrev I (n:Nat):PA:=.v (.s (.int .i64 (n:Nat)))
def lst (d:Nat):Nat:=if d.testBit 0 then 0 else if d.testBit 1 then 1 else if d.testBit 2 then 2 else if d.testBit 3 then 3 else 0
theorem XK:∀d,d<16->R 33 [dA d] (I 0):=by decide +kernel
theorem XL:∀d,d<16->R 34 [dA d] (.tup [.s (.int .u64 (lst d:Nat)),.s (.bool (d !=0))]):=by decide +kernel
theorem Aah:∀d,d<16->R 97 [dA d] (dAT (15-d)):=by decide +kernel
theorem AbA:∀d,d<16->∀s∈[5,13],R 98 [dA d,dA s] (dAT (d &&& s)):=by decide +kernel
theorem AbB:∀d,d<16->∀s∈[10,2],R 98 [dA d,dA s] (dAT (d &&& s)):=by decide +kernel
theorem SM:∀s,s<16->∀d∈[2,8],R 98 [dA d,dA s] (dAT (d &&& s)):=by decide +kernel
theorem Adr:∀p∈[(1,1),(3,1),(5,5),(7,5),(9,1),(11,1),(13,5),(15,5),(4,4),(12,4),(2,2),(6,2),(10,2),(14,2),(8,8)],R 36 [dA p.1,dA p.2] (dAT (p.1-p.2)):=by decide +kernel
theorem or_c:∀p∈[(1,2),(5,2),(1,8),(5,8),(2,8),(3,8),(7,8),(2,4),(4,8),(6,8)],R 41 [dA p.1,dA p.2] (dAT (p.1+p.2)):=by decide +kernel
theorem SN:∀d,d<16->R 43 [dA d] (I 0):=by decide +kernel
theorem SO:∀d,d<16->R 44 [dA d] (.tup [.s (.int .u64 (lst d:Nat)),.s (.bool (d !=0))]):=by decide +kernel
theorem AbC:∀d,d<16->∀s∈[10,2],R 106 [dA d,dA s] (dA (d &&& s)):=by decide +kernel
theorem AbD:∀s,s<16->∀d∈[2,8],R 106 [dA d,dA s] (dA (d &&& s)):=by decide +kernel
theorem SP:∀d,d<16->∀s∈[10,2],R 46 [dA d,dA s] (dA (d &&& (15-s))):=by decide +kernel
theorem AbE:∀s,s<16->∀d∈[2,8],R 46 [dA d,dA s] (dA (d &&& (15-s))):=by decide +kernel
theorem AbF:∀p∈[(1,1),(3,1),(5,5),(7,5),(9,1),(11,1),(13,5),(15,5),(4,4),(12,4),(2,2),(6,2),(10,2),(14,2),(8,8)],R 46 [dA p.1,dA p.2] (dA (p.1-p.2)):=by decide +kernel
theorem AbG:∀p∈[(1,2),(5,2),(1,8),(5,8),(2,8),(3,8),(7,8),(2,4),(4,8),(6,8)],R 105 [dA p.1,dA p.2] (dA (p.1+p.2)):=by decide +kernel
theorem AbH:∀d,d<16->R 48 [dA d,dA d] (B true):=by decide +kernel
end Go.Pv.E
end
section
noncomputable section
namespace Go.Pv
open Go.Vm Go.Vm.C
open Go.Vm.Key (kn)
set_option maxRecDepth 40000
set_option maxHeartbeats 0
section
set_option maxRecDepth 100000
theorem Qp:∀d,E.dAT d=dAT d
 |0=>rfl
 |1=>rfl
 |2=>rfl
 |3=>rfl
 |4=>rfl
 |5=>rfl
 |6=>rfl
 |7=>rfl
 |8=>rfl
 |9=>rfl
 |10=>rfl
 |11=>rfl
 |12=>rfl
 |13=>rfl
 |14=>rfl
 |_+15=>rfl
theorem XM {c d s:Nat} (hc:c<4) (hd:d=10∨d=2) (hs:s<16):lL c d s where
 lt:=Aa
 h:=kJ.holds d Aa c hc
 n:=by rw[<-D8,<-Qp];exact ent (E.Aah d Aa)
 i:=dZ.inn d Aa c hc
 p:=by
  unfold nrw;cases h:d.testBit c;·simp only[Fj,Ag];rw[<-D8,<-D8,<-Qp];exact ent (E.AbA s hs (15-d) (by rcases hd with rfl|rfl<;>decide))
  ·simp only[Ak];rw[<-D8,<-D8,<-Qp];exact ent (E.AbB s hs d (by rcases hd with rfl|rfl<;>decide))
 r h:=by unfold nrw;rw[Aj h,<-D8,<-D8,<-D8];exact ent (E.AbC s hs d (by rcases hd with rfl|rfl<;>decide))
 m h:=by unfold nrw;rw[h];simp only[Fj,Ag];rw[<-D8,<-D8,<-D8];exact ent (E.SP s hs d (by rcases hd with rfl|rfl<;>decide))
theorem SQ {c d s:Nat} (hc:c<4) (hd:d<16) (hs:s=2∨s=8):lL c d s where
 lt:=hd
 h:=kJ.holds d hd c hc
 n:=by rw[<-D8,<-Qp];exact ent (E.Aah d hd)
 i:=dZ.inn d hd c hc
 p:=by
  unfold nrw;cases h:d.testBit c;·simp only[Fj,Ag];rw[<-D8,<-D8,<-Qp];exact ent (E.SM (15-d) Aa s (by rcases hs with rfl|rfl<;>decide))
  ·simp only[Ak];rw[<-D8,<-D8,<-Qp];exact ent (E.SM d hd s (by rcases hs with rfl|rfl<;>decide))
 r h:=by unfold nrw;rw[Aj h,<-D8,<-D8,<-D8];exact ent (E.AbD d hd s (by rcases hs with rfl|rfl<;>decide))
 m h:=by unfold nrw;rw[h];simp only[Fj,Ag];rw[<-D8,<-D8,<-D8];exact ent (E.AbE d hd s (by rcases hs with rfl|rfl<;>decide))
theorem AbI {c d s:Nat} (h:s<16):nrw c d s<16:=by
 unfold nrw;split;·exact Cq Nat.and_le_left h
 ·exact Cq Nat.and_le_left h
theorem Aai {c:Nat}:∀{l:Es} {s:Nat},s<16->sF c l s<16
 |[],_,h=>h
 |r::l,s,h=>Aai (l:=l) (AbI h)
theorem XN:∀d,d<16->nrw 1 d 2=2/\nrw 3 d 8=8:=Ab
structure XO (f:Fo):Prop where
 two:∀(i:Nat) (r:Nat×Nat),f.rs[i]?=some r->r.2=10∨r.2=2
 sf:∀d,d<16->d≠0->sF (lsq d) f.rs d=ptq d
theorem Ads {f:Fo} {n:Nat} (h2:2<=n) (h4:n<=4) (h:f.rs=(List.range n).map λi=>(i,(170+40*i) % 256 % 16)):XO f:=by
 obtain rfl|rfl|rfl:n=2∨n=3∨n=4:=Aa
 ·have e:f.rs=[(0,10),(1,2)]:=h;refine⟨λi r hr=>?_,?_⟩;·rw[e] at hr;have:=Aq hr;simp at this;rcases this with rfl|rfl<;>simp
  ·rw[e];decide
 ·have e:f.rs=[(0,10),(1,2),(2,10)]:=h;refine⟨λi r hr=>?_,?_⟩;·rw[e] at hr;have:=Aq hr;simp at this;rcases this with rfl|rfl|rfl<;>simp
  ·rw[e];decide
 ·have e:f.rs=[(0,10),(1,2),(2,10),(3,2)]:=h;refine⟨λi r hr=>?_,?_⟩;·rw[e] at hr;have:=Aq hr;simp at this;rcases this with rfl|rfl|rfl|rfl<;>simp
  ·rw[e];decide
section
variable {f:Fo} (R:XO f) (w:WF0 f)
include R
theorem Aaj {d:Nat} (hd:d<16) (i:Nat) (r:Nat×Nat) (hr:f.rs[i]?=some r):lL (lsq d) r.2 (sF (lsq d) (f.rs.take i) d):=XM (rQ d) (R.two i r hr) (Aai hd)
theorem XP:∀d,d<16->(lsq d=1->ptq d=2)/\(lsq d=3->ptq d=8):=Ab
theorem Aak (w:WF0 f) {d:Nat} (hd:d<16) (h0:d≠0) (hq:qF (lsq d) f.rs≠[]) (i:Nat) (n:Nd) (hn:f.ns[i]?=some n) (a:Al) (ha:a∈n.az):lL (lsq d) a.d (sF (lsq d) f.rs d)/\nrw (lsq d) a.d (sF (lsq d) f.rs d)=sF (lsq d) f.rs d:=by
 have had:=(w.al i n hn a ha).2.2.1;have hc:lsq d=1∨lsq d=3:=by obtain⟨x,hx⟩:=Cj _ hq;obtain⟨r,hr,_⟩:=Aw.1 hx;obtain⟨hr1,hr2⟩:=Co.1 hr;obtain⟨j,hj⟩:=BP.1 hr1;have h2:=R.two j r hj;have hl:=rQ d;generalize lsq d=c at *;generalize r.2=e at *;have:c=0∨c=1∨c=2∨c=3:=Aa;rcases this with rfl|rfl|rfl|rfl<;>rcases h2 with rfl|rfl<;>first|exact .inl rfl|exact .inr rfl|(exact absurd hr2 Ab)
 obtain⟨q1,q2⟩:=XP R d hd;obtain⟨n1,n2⟩:=XN a.d had;rw[R.sf d hd h0];rcases hc with hc|hc;·rw[q1 hc,hc];exact⟨SQ Ab had (.inl rfl),n1⟩
 ·rw[q2 hc,hc];exact⟨SQ Ab had (.inr rfl),n2⟩
theorem Adt (w:WF0 f) (v:WF f):FcOk f where
 least d hd:=by rw[<-D8];exact ent (E.XL d hd)
 check d hd:=by rw[<-D8];exact ent (E.XK d hd)
 sub d hd h0:=by rw[<-D8,<-D8,<-Qp];exact ent (E.Adr (d,ptq d) (by revert h0;revert d;decide))
 or p hp:=by rw[<-D8,<-D8,<-Qp];exact ent (E.or_c p hp)
 alike d hd h0:=by have:=RB (c:=lsq d) (s:=d) w v (Aak R w hd h0) (Aaj R hd);rw[R.sf d hd h0] at this;exact this
theorem Adu (w:WF0 f) (v:WF f):FdOk f where
 least d hd:=by rw[<-D8];exact ent (E.SO d hd)
 check d hd:=by rw[<-D8];exact ent (E.SN d hd)
 sub d hd h0:=by rw[<-D8,<-D8,<-D8];exact ent (E.AbF (d,ptq d) (by revert h0;revert d;decide))
 or p hp:=by rw[<-D8,<-D8,<-D8];exact ent (E.AbG p hp)
 alike d hd h0:=by have:=MI (c:=lsq d) (s:=d) w v (Aak R w hd h0) (Aaj R hd);rw[R.sf d hd h0] at this;exact this
end
end

section
def sbt (t:Tre) (a e:Nat):Tre:=(t.drop a).take (e-a)
def RdC (T:EG) (t:Tre) (i a:Nat) (e n:Nat):Prop:=a<=e/\e<=t.length/\(T i)[n]?=some (sbt t a e)
abbrev EY (T:EG) (t:Tre) (i a:Nat) (m:Et):Prop:=B8 m (RdC T t i a)
abbrev mKs (m:Et):Ey:=m.map λp=>.int .i64 (p.1:Nat)
abbrev mVs (m:Et):Ey:=m.map (·.2)
def mpV (m:Et):PV:=.mp (mKs m) (mVs m)
theorem bY:∀m:Et,mpE (mKs m) (mVs m)=mm m
 |[]=>rfl
 |p::m=>by show(PC.s (.int .i64 (p.1:Nat)),PC.s p.2)::mpE (mKs m) (mVs m)=(PC.s (.int .i64 (p.1:Nat)),PC.s p.2)::mm m;rw[bY m]
abbrev Kn:=List ((Nat×Nat)×Et)
def kk (K:Kn):List (PC×PC):=K.map λp=>(.agg [.int .i64 (p.1.1:Nat),.int .i64 (p.1.2:Nat)],.s (mpV p.2))
def KOk (T:EG) (t:Tre) (K:Kn):Prop:=∀p∈K,EY T t p.1.1 p.1.2 p.2
def wS:Kn->Nat->Nat->Option (Et)
 |[],_,_=>none
 |p::K,i,a=>if p.1.1=i/\p.1.2=a then some p.2 else wS K i a
theorem KOk.fnd {T:EG} {t:Tre}:∀{K:Kn},KOk T t K->∀{i a:Nat} {m:Et},wS K i a=some m->EY T t i a m
 |[],_,_,_,_,h=>Ad
 |p::K,hK,i,a,m,h=>by
  rw[wS] at h;split at h;·next e=>obtain⟨rfl,rfl⟩:=e;cases h;exact hK p (.head _)
  ·exact KOk.fnd (λq hq=>hK q (.tail _ hq)) h
theorem IN (i a j b:Nat):S8 (.agg [.int,.int]) (.agg [.int .i64 (i:Nat),.int .i64 (a:Nat)]) (.agg [.int .i64 (j:Nat),.int .i64 (b:Nat)])=some (decide (j=i/\b=a)):=by have:S8 (.agg [.int,.int]) (.agg [.int .i64 (i:Nat),.int .i64 (a:Nat)]) (.agg [.int .i64 (j:Nat),.int .i64 (b:Nat)])=some (((i:Int)==(j:Int))&&(((a:Int)==(b:Int))&&true)):=rfl;rw[this];congr 1;by_cases h1:j=i<;>by_cases h2:b=a<;>simp[h1,h2]<;>omega
theorem SR (i a:Nat):∀K:Kn,Tt (.agg [.int,.int]) (.agg [.int .i64 (i:Nat),.int .i64 (a:Nat)]) (kk K)=some ((wS K i a).map λm=>PC.s (mpV m))
 |[]=>rfl
 |p::K=>by
  show Tt (.agg [.int,.int]) (.agg [.int .i64 (i:Nat),.int .i64 (a:Nat)]) ((.agg [.int .i64 (p.1.1:Nat),.int .i64 (p.1.2:Nat)],.s (mpV p.2))::kk K)=_;rw[Tt,IN,wS];by_cases h:p.1.1=i/\p.1.2=a;·simp[h]
  ·simp[h,SR i a K]
def EZ (i a:Nat) (m:Et):Kn->Kn
 |[]=>[((i,a),m)]
 |p::K=>if p.1.1=i/\p.1.2=a then((i,a),m)::K else p::EZ i a m K
theorem KOk.rpl {T:EG} {t:Tre} {i a:Nat} {m:Et} (hm:EY T t i a m):∀{K:Kn},KOk T t K->KOk T t (EZ i a m K)
 |[],_=>λp hp=>by simp only[EZ,Ar] at hp;subst hp;exact hm
 |q::K,h=>λp hp=>by
  rw[EZ] at hp;split at hp
  ·rcases Af.1 hp with rfl|hp;·exact hm
   ·exact h p (.tail _ hp)
  ·rcases Af.1 hp with rfl|hp;·exact h _ (.head _)
   ·exact KOk.rpl hm (λr hr=>h r (.tail _ hr)) p hp
theorem Aal (i a:Nat) (m:Et):∀K:Kn,aN (.agg [.int,.int]) (.agg [.int .i64 (i:Nat),.int .i64 (a:Nat)]) (.s (mpV m)) (kk K)=some (kk (EZ i a m K))
 |[]=>rfl
 |p::K=>by
  show aN (.agg [.int,.int]) (.agg [.int .i64 (i:Nat),.int .i64 (a:Nat)]) (.s (mpV m)) ((.agg [.int .i64 (p.1.1:Nat),.int .i64 (p.1.2:Nat)],.s (mpV p.2))::kk K)=_;rw[aN,IN,EZ];by_cases h:p.1.1=i/\p.1.2=a;·simp[h,kk]
  ·simp only[h,decide_false,Ag];rw[Aal i a m K];rfl
theorem lk_k {b:Key} {g:A0} {K:Kn} {own frz:Bool} {anc:ED} {log:Es} {i a:Nat} (hg:g.get b=some ⟨.map (kk K),own,frz,anc,log⟩) :
  opP (.lookup (.agg [.int,.int]) (.s .Ic) true) [.v (.s (.map b)),.v (.agg [.int .i64 (i:Nat),.int .i64 (a:Nat)])] g=some (match wS K i a with
   |some m=>.tup [.s (mpV m),.s (.bool true)]
   |none=>.tup [.s .Ic,.s (.bool false)],g):=by
 show Ik (.agg [.int,.int]) (.s .Ic) true [.v (.s (.map b)),.v (.agg [.int .i64 (i:Nat),.int .i64 (a:Nat)])] g=_
 unfold Ik
 have hf:Io (.agg [.int,.int]) (.agg [.int .i64 (i:Nat),.int .i64 (a:Nat)])=true:=rfl
 simp only[lF,Rr,hg,hf,SR,Ak]
 cases wS K i a<;>rfl
theorem ms_k {b:Key} {g:A0} {K:Kn} {log:Es} {i a:Nat} {m:Et} (hg:g.get b=some ⟨.map (kk K),true,false,[],log⟩) :
  opP (.K1 (.agg [.int,.int])) [.v (.s (.map b)),.v (.agg [.int .i64 (i:Nat),.int .i64 (a:Nat)]),.v (.s (mpV m))] g=some (.unit,g.upd b (some ⟨.map (kk (EZ i a m K)),true,false,[],(0,0)::log⟩)):=by show Nh (.agg [.int,.int]) [.v (.s (.map b)),.v (.agg [.int .i64 (i:Nat),.int .i64 (a:Nat)]),.v (.s (mpV m))] g=_;unfold Nh;have hf:Io (.agg [.int,.int]) (.agg [.int .i64 (i:Nat),.int .i64 (a:Nat)])=true:=rfl;simp only[hg,hf,Aal i a m K];rfl
theorem Adv (K:Kn) (ρ:EC):RnB ρ (.map (kk K)) (.map (kk K)):=by
 show A1 _ (kk K) (kk K);induction K with
 |nil=>exact .nil
 |cons p K ih=>exact .cons ⟨.cons rfl (.cons rfl .nil),rfl⟩ ih
theorem Ku.kk {K:Kn} {ρ:EC} {H:A0} {log log':Es}:Ku ρ H ⟨.map (Go.Pv.kk K),true,false,[],log⟩ ⟨.map (Go.Pv.kk K),true,false,[],log'⟩:=⟨Adv K ρ,λ_=>⟨rfl,.inl .nil⟩,rfl⟩
abbrev foX (f:Fo):Ey:=[.lst 5 (f.ns.map nV) none,.lst 3 (f.rs.map rV) none]
abbrev kB (K:Kn) (l:Es):B4:=⟨.map (kk K),true,false,[],l⟩
abbrev AbJ:List (Key×Nat):=[(k3,0),(k4,0),(k5,0),(k6,0),(k2,0)]
abbrev rkL (f:Fo) (c:Nat) (tot:PV) (t:Tre) (m:Et) (K:Kn) (l0 l1 l8:Es):List (Key×B4):=
 [(k0,obl (tbC f c tot) l0),(k1,mpB m l1),(k2,obl [.ptr k0 0] []),(k3,obl (foX f) []),(k4,obl [.int .u64 (c:Nat)] []),(k5,obl [tV t] []),(k6,obl [.ptr k7 0] []),(k7,obl [.map k8,.func 58 [] AbJ] []),(k8,kB K l8)]
structure RkH (T:EG) (f:Fo) (c:Nat) (tot:PV) (t:Tre) (m:Et) (K:Kn) (l0 l1 l8:Es) (g:A0):Prop where
 hm:Fa T m
 hK:KOk T t K
 lg:Lg l0
 e0:g.get k0=some (obl (tbC f c tot) l0)
 e1:g.get k1=some (mpB m l1)
 e2:g.get k2=some (obl [.ptr k0 0] [])
 e3:g.get k3=some (obl (foX f) [])
 e4:g.get k4=some (obl [.int .u64 (c:Nat)] [])
 e5:g.get k5=some (obl [tV t] [])
 e6:g.get k6=some (obl [.ptr k7 0] [])
 e7:g.get k7=some (obl [.map k8,.func 58 [] AbJ] [])
 e8:g.get k8=some (kB K l8)
structure SS (T:EG) (f:Fo) (c:Nat) (tot:PV) (t:Tre) (i a:Nat) (r:PA) (g:A0):Prop where
 rd:∃ms,r=.v (.s (mpV ms))/\EY T t i a ms
 blk:∃m K l0 l1 l8,RkH T f c tot t m K l0 l1 l8 g
abbrev rkR:Ew:=[(k0,k0),(k1,k1),(k2,k2),(k3,k3),(k4,k4),(k5,k5),(k6,k6),(k7,k7),(k8,k8)]
abbrev rkX (f:Fo) (c:Nat) (tot:PV) (t:Tre) (m:Et) (K:Kn) (l0 l1 l8:Es):List (Option B4):=
 [some (obl (tbC f c tot) l0),some (mpB m l1),some (obl [.ptr k0 0] []),some (obl (foX f) []),some (obl [.int .u64 (c:Nat)] []),some (obl [tV t] []),some (obl [.ptr k7 0] []),some (obl [.map k8,.func 58 [] AbJ] []),some (kB K l8)]
section
variable {T:EG} {f:Fo} {c:Nat} {tot:PV} {t:Tre} {m m':Et} {K K':Kn} {l0 l1 l8 a0 a1 a8:Es} {g gc':A0}
theorem RkH.blk (ht:A2 tot) (h:RkH T f c tot t m K l0 l1 l8 g):Na (rho 0 rkR) g (rkL f c tot t m K [] [] []):=
 ⟨⟨_,_,rfl,h.e0,.same Yc⟩,⟨_,_,rfl,h.e1,.map h.hm⟩,⟨_,_,rfl,h.e2,.same Yc⟩,⟨_,_,rfl,h.e3,.same Yc⟩,⟨_,_,rfl,h.e4,.same Yc⟩,⟨_,_,rfl,h.e5,.same Yc⟩,⟨_,_,rfl,h.e6,.same Yc⟩,⟨_,_,rfl,h.e7,.same Yc⟩,⟨_,_,rfl,h.e8,.kk⟩,Ae⟩
theorem RkH.old (ht:A2 tot) (h:RkH T f c tot t m K l0 l1 l8 g) (h':RkH T f c tot t m' K' a0 a1 a8 gc'):Nb (muR rkR []) g gc' (rkL f c tot t m K [] [] []) rkR (rkX f c tot t m' K' (a0++l0) (a1++l1) (a8++l8)):=
 ⟨⟨_,_,_,h'.e0,.same Yc,h.e0,rfl,rfl,rfl⟩,⟨_,_,_,h'.e1,.map h'.hm,h.e1,rfl,rfl,rfl⟩,⟨_,_,_,h'.e2,.same Yc,h.e2,rfl,rfl,rfl⟩,⟨_,_,_,h'.e3,.same Yc,h.e3,rfl,rfl,rfl⟩,⟨_,_,_,h'.e4,.same Yc,h.e4,rfl,rfl,rfl⟩,
  ⟨_,_,_,h'.e5,.same Yc,h.e5,rfl,rfl,rfl⟩,⟨_,_,_,h'.e6,.same Yc,h.e6,rfl,rfl,rfl⟩,⟨_,_,_,h'.e7,.same Yc,h.e7,rfl,rfl,rfl⟩,⟨_,_,_,h'.e8,.kk,h.e8,rfl,rfl,rfl⟩,Ae⟩
end
def bZ (P:Program) (T:EG) (f:Fo) (c:Nat) (tot:PV) (t:Tre) (i:Nat):Prop:=∀m K a,Fa T m->KOk T t K->PXC P 60 [.v (.s (.ptr k7 0)),.v (.agg [.int .i64 (i:Nat),.int .i64 (a:Nat)])] (mkH (rkL f c tot t m K [] [] []) k9) (SS T f c tot t i a)
def SU (P:Program) (T:EG) (f:Fo) (c:Nat) (tot:PV) (t:Tre) (i:Nat):Prop:=∀m K a,Fa T m->KOk T t K->PXC P 58 [.v (.agg [.int .i64 (i:Nat),.int .i64 (a:Nat)]),.v (.s (.ptr k3 0)),.v (.s (.ptr k4 0)),.v (.s (.ptr k5 0)),.v (.s (.ptr k6 0)),.v (.s (.ptr k2 0))] (mkH (rkL f c tot t m K [] [] []) k9) (SS T f c tot t i a)
def AtR (T:EG) (f:Fo) (c:Nat) (tot:PV) (t:Tre) (i a:Nat) (g:A0) (r:PA) (g':A0):Prop:=∃ms m K l0 l1 l8,r=.v (.s (mpV ms))/\EY T t i a ms/\Fa T m/\KOk T t K/\Lg l0/\g'=⟨Uv g.mem rkR (rkX f c tot t m K l0 l1 l8),g.next⟩
theorem PAt {P:Program} {fn:Nat} {args:Ez} {T:EG} {f:Fo} {c:Nat} {tot:PV} {t:Tre} (ht:A2 tot) {i a:Nat} {m:Et} {K:Kn} {l0 l1 l8:Es} {g:A0} (h:RkH T f c tot t m K l0 l1 l8 g) (hlow:vO g.next.toNat rkR=true) (ha:A1 (RnA (rho 0 rkR)) args args)
  (hV:PXC P fn args (mkH (rkL f c tot t m K [] [] []) k9) (SS T f c tot t i a)):PXC P fn args g (AtR T f c tot t i a g):=
 PXC.sub (PY (r:=rkR) rfl (h.blk ht)) ha hV λrc gc' ⟨⟨ms,e1,e2⟩,m',K',a0,a1,a8,h'⟩=>by have hb:PU (rho 0 rkR) (muR rkR []) g (mkH (rkL f c tot t m K [] [] []) k9) ⟨Uv g.mem rkR (rkX f c tot t m' K' (a0++l0) (a1++l1) (a8++l8)),g.next⟩ gc':=PZ (nw:=[]) (ys:=[]) rfl hlow rfl Rl (h.old ht h') Ae;exact⟨muR rkR [],rc,_,hb,by subst e1;exact rfl,ms,m',K',_,_,_,e1,e2,h'.hm,h'.hK,h'.lg.app h.lg,rfl⟩
attribute [local irreducible] PX PXL PXC
theorem XQ {P:Program} (pf:PF P Fn) {T:EG} {f:Fo} {c:Nat} {tot:PV} {t:Tre} (ht:A2 tot) {i:Nat} (hV:SU P T f c tot t i):bZ P T f c tot t i:=by
 intro m K a hm hK;have hl:=λ(g:A0) (l:Es) (hg:g.get k8=some (kB K l))=>lk_k (i:=i) (a:=a) hg;refine PXC.of pf (vf:=C.f60) rfl ?_;refine Eh pt pf ?_;refine Yw1 ?_;refine Eh pt pf ?_;refine Yw1 ?_;refine⟨_,_,hl _ _ rfl,?_⟩;cases hf:wS K i a with
 |some ms=>refine Yw1 ?_;exact⟨⟨_,rfl,hK.fnd hf⟩,m,K,_,_,_,hm,hK,Lg.nil,rfl,rfl,rfl,rfl,rfl,rfl,rfl,rfl,rfl⟩
 |none=>refine Yw1 ?_;refine PX.seq ?_;refine PX.ZT 5 (pu:=pt) pf rfl rfl rfl rfl ?_;refine Yw1 ?_;refine⟨rfl,_,_,_,_,rfl,rfl,PAt ht ⟨hm,hK,Lg.nil,rfl,rfl,rfl,rfl,rfl,rfl,rfl,rfl,rfl⟩ rfl Ya (hV m K a hm hK),zU rfl,?_⟩;rintro r g' ⟨ms,m',K',l0,l1,l8,rfl,hr,hm',hK',lg,rfl⟩;refine Yw1 ?_;refine⟨rfl,?_⟩;refine Eh pt pf ?_;refine Yw1 ?_;refine⟨_,_,ms_k rfl,?_⟩;refine Yw1 ?_;refine Ei pt pf ?_;refine Yw1 ?_;exact⟨⟨_,rfl,hr⟩,m',_,_,_,_,hm',hK'.rpl hr,lg,rfl,rfl,rfl,rfl,rfl,rfl,rfl,rfl,rfl⟩
end
end Go.Pv
end
section
noncomputable section
namespace Go.Pv
open Go.Vm
open Go.Vm.Key (kn)
set_option maxRecDepth 40000
set_option maxHeartbeats 0
section
variable {T:EG} {t:Tre}
def Mi (C:Nat->Nat->Prop) (e n:Nat):Prop:=C e n/\∀n',C e n'->n<=n'
theorem Mi.uniq {C:Nat->Nat->Prop} {e n n':Nat} (h:Mi C e n) (h':Mi C e n'):n=n':=by have:=h.2 n' h'.1;have:=h'.2 n h.1;omega
theorem B8.mi {m:Et} {C:Nat->Nat->Prop} (h:B8 m C) {e:Nat} {v:PV} (hv:fnd m e=some v):∃n,A6 n v/\Mi C e n:=by obtain⟨n,a1,a2,a3⟩:=h.so e v hv;exact⟨n,a1,a2,a3⟩
theorem B8.nO {m:Et} {C:Nat->Nat->Prop} (h:B8 m C) {e n:Nat} (hn:Mi C e n):∃v,fnd m e=some v/\A6 n v:=by
 cases hf:fnd m e with
 |none=>exact absurd hn.1 (h.no e hf n)
 |some v=>obtain⟨n',a1,a2⟩:=h.mi hf;exact⟨v,rfl,by rw[hn.uniq a2];exact a1⟩
theorem cB {C:Nat->Nat->Prop} {e n:Nat} (h:C e n):∃k,Mi C e k/\k<=n:=by
 induction n using Nat.strongRecOn with
 |_ n ih=>
  by_cases hx:∃j,j<n/\C e j;·obtain⟨j,h1,h2⟩:=hx;obtain⟨k,h3,h4⟩:=ih j h1 h2;exact⟨k,h3,Aa⟩
  ·exact⟨n,⟨h,λn' hn'=>Nat.le_of_not_lt λhlt=>hx ⟨n',hlt,hn'⟩⟩,Rl⟩
theorem Ji {m:Et} (hn:(m.map (·.1)).Nodup):∀{j:Nat} {p:Nat×PV},m[j]?=some p->fnd m p.1=some p.2:=by
 induction m with
 |nil=>intro j p h;simp at h
 |cons q m ih=>
  intro j p h;simp only[AG,CM] at hn;cases j with
  |zero=>simp at h;subst h;simp[fnd]
  |succ j=>
   have hj:m[j]?=some p:=by simpa using h
   rw[fnd,Ao λe=>hn.1 (by rw[e];exact Aw.2 ⟨p,Aq hj,rfl⟩)];exact ih hn.2 hj
theorem S2 {m:Et} {e:Nat} {v:PV} (h:fnd m e=some v):∃j:Nat,m[j]?=some (e,v):=by
 induction m with
 |nil=>cases h
 |cons q m ih=>
  rw[fnd] at h;split at h;·next he=>cases h;exact⟨0,by simp[<-he]⟩
  ·obtain⟨j,hj⟩:=ih h;exact⟨j+1,by simpa using hj⟩
theorem rS {a e:Nat} (h1:a<=e) (h2:e<=t.length):(sbt t a e).length=e-a:=by simp only[sbt,Ba,Cr];omega
theorem rT {a m e:Nat} (h1:a<=m) (h2:m<=e):sbt t a e=sbt t a m++sbt t m e:=by unfold sbt;have:e-a=(m-a)+(e-m):=Aa;rw[this,List.take_add,De];congr 3;omega
theorem IP {a e:Nat} {u v:Tre} (h1:a<=e) (h2:e<=t.length) (h:sbt t a e=u++v):a+u.length<=e/\u=sbt t a (a+u.length)/\v=sbt t (a+u.length) e:=by
 have hl:=Bh List.length h;rw[rS h1 h2,La] at hl;have hle:a+u.length<=e:=Aa;refine⟨hle,?_⟩;have h3:=rT (t:=t) (a:=a) (m:=a+u.length) (e:=e) Aa hle;rw[h] at h3;have h4:u.length=(sbt t a (a+u.length)).length:=by rw[rS Aa Aa];omega
 exact List.append_inj h3 h4
theorem SW {a e:Nat} {p:Nat} {w:Tre} (h1:a<=e) (h2:e<=t.length) (h:sbt t a e=p::w):a+1<=e/\t[a]?=some p/\w=sbt t (a+1) e:=by
 obtain⟨b1,b2,b3⟩:=IP (u:=[p]) (v:=w) h1 h2 (by simpa using h);refine⟨b1,?_,b3⟩;simp only[sbt,Bl] at b2;have:(t.drop a)[0]?=some p:=by
  have h4:a+1-a=1:=Aa;rw[h4] at b2;cases hd:t.drop a with
  |nil=>rw[hd] at b2;simp at b2
  |cons q r=>rw[hd] at b2;simp at b2;simp[b2]
 simpa using this
theorem XR {a e:Nat} {p:Nat} (h1:a+1<=e) (h3:t[a]?=some p):sbt t a e=p::sbt t (a+1) e:=by
 rw[rT (t:=t) (a:=a) (m:=a+1) (e:=e) Aa h1];have:sbt t a (a+1)=[p]:=by unfold sbt;have h4:a+1-a=1:=Aa;rw[h4];have h5:a<t.length:=(Gi.1 h3).1;rw[Ax h5];simp only[Dj,Ea];rw[Gg h5] at h3;rw[Cw h3]
 rw[this];rfl
theorem kR (ks:EF) (k:Nat):B9 T (ks++[k])=(B9 T ks).flatMap λu=>(T k).map (u++·):=by
 induction ks with
 |nil=>simp[B9,Kx]
 |cons x ks ih=>rw[AH,B9,ih,B9,List.flatMap_assoc];congr 1;funext s;rw[List.map_flatMap,List.flatMap_map];congr 1;funext u;simp[DB,Function.comp_def]
theorem MJ (ks:EF) (k:Nat):(B9 T (ks++[k])).length=(B9 T ks).length*(T k).length:=by rw[kR,DR];simp only[Lm];rw[List.map_const',List.sum_replicate_nat]
theorem cD {ks:EF} {k n:Nat} {w:Tre}:(B9 T (ks++[k]))[n]?=some w↔∃i j u v,n=i*(T k).length+j/\(B9 T ks)[i]?=some u/\(T k)[j]?=some v/\w=u++v:=by
 rw[kR];by_cases hz:(T k).length=0
 ·have hk:T k=[]:=Bm.1 hz;constructor;·intro h;rw[List.flatMap_eq_nil_iff.2 (λu _=>by simp[hk])] at h;simp at h
  ·rintro⟨i,j,u,v,_,_,h,_⟩;rw[hk] at h;simp at h
 ·have hm:0<(T k).length:=Du hz;rw[Uz hm (l:=B9 T ks) (g:=λu=>(T k).map (u++·)) (λs _=>Ac)];constructor;·intro h;obtain⟨u,h1,h2⟩:=AL.1 h;rw[AD] at h2;obtain⟨v,h3,h4⟩:=BD.1 h2;exact⟨n / (T k).length,n % (T k).length,u,v,by rw[Ct];exact(Nat.div_add_mod n _).symm,h1,h3,h4.symm⟩
  ·rintro⟨i,j,u,v,rfl,h1,h2,rfl⟩;have hj:j<(T k).length:=(Gi.1 h2).1;have e1:(i*(T k).length+j) / (T k).length=i:=by rw[Ct,Nat.mul_add_div hm,Dg hj];omega
   have e2:(i*(T k).length+j) % (T k).length=j:=by rw[Ct,Nat.mul_add_mod,Bz hj]
   rw[e1,e2,h1];simp[h2]
def WaC (T:EG) (t:Tre) (a:Nat) (ks:EF) (e n:Nat):Prop:=a<=e/\e<=t.length/\(B9 T ks)[n]?=some (sbt t a e)
theorem FA {a:Nat} (ha:a<=t.length):B8 [(a,.A4)] (WaC T t a []) where
 keys:=Ac
 no e he n hn:=by
  obtain⟨h1,h2,h3⟩:=hn;cases n with
  |zero=>simp only[B9,Bb,Sj] at h3;have:=Bh List.length h3;rw[rS h1 h2] at this;simp only[BO] at this;have hea:e=a:=Aa;subst hea;simp[fnd] at he
  |succ n=>simp[B9] at h3
 so e v he:=by
  rw[fnd] at he;split at he
  ·next h=>
   cases he;subst h;exact⟨0,.nil,⟨Rl,ha,by simp[B9,sbt]⟩,λ_ _=>Zl⟩
  ·cases he
def StC (T:EG) (t:Tre) (a:Nat) (ks:EF) (k:Nat) (e n:Nat):Prop:=∃mid r more,Mi (WaC T t a ks) mid r/\Mi (RdC T t k mid) e more/\n=r*(T k).length+more
theorem dO {a:Nat} {ks:EF} {k:Nat} {m:Et} (h:B8 m (StC T t a ks k)):B8 m (WaC T t a (ks++[k])):=by
 refine h.sub (λe n ⟨mid,r,more,⟨⟨h1,h2,h3⟩,_⟩,⟨⟨h4,h5,h6⟩,_⟩,hn⟩=>⟨Aa,h5,?_⟩) λe n ⟨h1,h2,h3⟩=>?_;·exact cD.2 ⟨r,more,_,_,hn,h3,h6,rT h1 h4⟩
 ·obtain⟨i,j,u,v,rfl,h4,h5,h6⟩:=cD.1 h3;obtain⟨c1,c2,c3⟩:=IP h1 h2 h6;have w1:WaC T t a ks (a+u.length) i:=⟨Aa,Aa,by rw[h4,<-c2]⟩;have w2:RdC T t k (a+u.length) e j:=⟨c1,h2,by rw[h5,<-c3]⟩;obtain⟨r,r1,r2⟩:=cB w1;obtain⟨more,m1,m2⟩:=cB w2;refine⟨_,⟨_,r,more,r1,m1,rfl⟩,?_⟩;have:=AZ (T k).length r2;omega
theorem Adw {a:Nat} {ks:EF} {k mid r more e:Nat} (h1:WaC T t a ks mid r) (h2:RdC T t k mid e more):r*(T k).length+more<(B9 T (ks++[k])).length:=
 (Gi.1 (cD.2 ⟨r,more,_,_,rfl,h1.2.2,h2.2.2,rfl⟩)).1
def NoC (T:EG) (t:Tre) (c a:Nat) (az:List Al) (e n:Nat):Prop:=a<=e/\e<=t.length/\(C7 T c az)[n]?=some (sbt t a e)
theorem SX {c a:Nat}:B8 [] (NoC T t c a []):=B8.nil.eq λe n=>by simp[NoC,C7]
theorem eZ {c a:Nat} {az:List Al} {x:Al} (hx:x.d.testBit c=false) {m:Et} (h:B8 m (NoC T t c a az)):B8 m (NoC T t c a (az++[x])):=
 h.eq λe n=>by simp only[NoC,Hi,hx];simp
theorem kS {c a e n:Nat} {az:List Al} {x:Al} (hx:x.d.testBit c=true) (h1:a<=e) (h2:e<=t.length):(C7 T c (az++[x]))[n]?=some (sbt t a e)↔(C7 T c az)[n]?=some (sbt t a e) ∨
  ((C7 T c az).length<=n/\t[a]?=some x.p/\a+1<=e/\(B9 T x.ks)[n-(C7 T c az).length]?=some (sbt t (a+1) e)):=by
 rw[Hi,hx,Aj rfl,List.getElem?_append];by_cases hn:n<(C7 T c az).length;·rw[Aj hn];exact⟨λh=>.inl h,λh=>h.elim id λh=>absurd h.1 Aa⟩
 ·rw[Ao hn,AD,BD];have h0:(C7 T c az)[n]?=none:=AJ Aa;constructor;·rintro⟨w,h3,h4⟩;obtain⟨b1,b2,b3⟩:=SW h1 h2 h4.symm;exact .inr ⟨Aa,b2,b1,by rw[h3,b3]⟩
  ·rintro(h|⟨_,h3,h4,h5⟩);·rw[h0] at h;cases h
   ·exact⟨_,h5,(XR h4 h3).symm⟩
theorem S4 {c a:Nat} {az:List Al} {x:Al} (hx:x.d.testBit c=true) (hp:t[a]?≠some x.p) {m:Et} (h:B8 m (NoC T t c a az)):B8 m (NoC T t c a (az++[x])):=
 h.eq λe n=>⟨λ⟨h1,h2,h3⟩=>⟨h1,h2,(kS hx h1 h2).2 (.inl h3)⟩,λ⟨h1,h2,h3⟩=>⟨h1,h2,((kS hx h1 h2).1 h3).elim id λh=>absurd h.2.1 hp⟩⟩
def AlC (T:EG) (t:Tre) (c a:Nat) (az:List Al) (ks:EF) (e n:Nat):Prop:=NoC T t c a az e n∨∃r,Mi (WaC T t (a+1) ks) e r/\n=(C7 T c az).length+r
theorem Pt {c a:Nat} {az:List Al} {x:Al} (hx:x.d.testBit c=true) (hp:t[a]?=some x.p) {m:Et} (h:B8 m (AlC T t c a az x.ks)):B8 m (NoC T t c a (az++[x])):=by
 refine h.sub (λe n hn=>?_) λe n ⟨h1,h2,h3⟩=>?_
 ·rcases hn with⟨h1,h2,h3⟩|⟨r,⟨⟨h1,h2,h3⟩,_⟩,rfl⟩;·exact⟨h1,h2,(kS hx h1 h2).2 (.inl h3)⟩
  ·exact⟨Aa,h2,(kS hx Aa h2).2 (.inr ⟨Aa,hp,h1,by rw[Ds];exact h3⟩)⟩
 ·rcases(kS hx h1 h2).1 h3 with h4|⟨h4,h5,h6,h7⟩;·exact⟨n,.inl ⟨h1,h2,h4⟩,Rl⟩
  ·obtain⟨r,r1,r2⟩:=cB (C:=WaC T t (a+1) x.ks) ⟨h6,h2,h7⟩;exact⟨_,.inr ⟨r,r1,rfl⟩,Aa⟩
theorem Adx {c a e r:Nat} {az:List Al} {x:Al} (hx:x.d.testBit c=true) (h:WaC T t (a+1) x.ks e r):(C7 T c az).length+r<(C7 T c (az++[x])).length:=by have:=(Gi.1 h.2.2).1;rw[Hi,hx,Aj rfl,La,Lm];omega
end
def GOk (r:Ew) (g1:A0):List (Key×B4)->Prop
 |[]=>True
 |(k,_)::G=>(match Gb r k with
  |some j=>g1.get j=none
  |none=>True)/\GOk r g1 G
theorem nP:∀(l G:List (Key×B4)) (k:Key),Lr l k=none->Lr (l++G) k=Lr G k
 |[],_,_,_=>rfl
 |(a,x)::l,G,k,h=>by
  simp only[AH,Lr] at h ⊢;split;·next e=>simp only[e] at h;cases h
  ·next e=>simp only[e] at h;exact nP l G k h
theorem GOk.get {r:Ew} {g1:A0}:∀{G:List (Key×B4)},GOk r g1 G->∀k x,Lr G k=some x->∀j,Gb r k=some j->g1.get j=none
 |[],_,k,x,h,_,_=>Ad
 |(a,z)::G,hg,k,x,h,j,hj=>by
  simp only[Lr] at h;split at h
  ·next e=>
   have:=He e;subst this;have h1:=hg.1;rw[hj] at h1;exact h1
  ·exact hg.2.get k x h j hj
theorem Trim.ofG {lo:Nat} (r:Ew) (G:List (Key×B4)) {L1 L2:Fm} {g1:A0} {l:List (Key×B4)} {nx:Key} (hn:Gk lo nx.toNat (l++G) r [] []=true) (hlo:lo<=nx.toNat) (hlow:iV g1 l lo) (hb:Na (rho lo r) g1 l) (hG:GOk r g1 G) (hf:Jz (rho lo r) L1 L2) :
  Trim lo (rho lo r) L1 g1 L2 (mkH l nx):=by
 obtain⟨i1,i2⟩:=Li hn;have low:∀k:Key,k.toNat<lo->rho lo r k=some k:=λk hk=>by
  have:Nat.blt k.toNat lo=true:=by rw[Bs];exact hk
  simp only[rho,this]
 have high:∀k:Key,¬k.toNat<lo->rho lo r k=Gb r k:=λk hk=>by
  have:Nat.blt k.toNat lo=false:=by
   cases hh:Nat.blt k.toNat lo with
   |false=>rfl
   |true=>rw[Bs] at hh;exact absurd hh hk
  simp only[rho,this]
 refine⟨λk hk=>⟨low k hk,by rw[Mo];exact hlow.get k hk⟩,λk k' j h h'=>?_,λk j h hj=>?_,λk x hx=>?_,λk j h hg=>?_,hf.get,hlo⟩
 ·by_cases hk:k.toNat<lo<;>by_cases hk':k'.toNat<lo;·rw[low k hk] at h;rw[low k' hk'] at h';cases h;cases h';rfl
  ·rw[low k hk] at h;rw[high k' hk'] at h';cases h;have:=(i1 k' k h').2.1;omega
  ·rw[high k hk] at h;rw[low k' hk'] at h';cases h';have:=(i1 k k' h).2.1;omega
  ·rw[high k hk] at h;rw[high k' hk'] at h';exact i2 k k' j h h'
 ·by_cases hk:k.toNat<lo;·exact⟨Bu hk hlo,λhh=>Aa⟩
  ·rw[high k hk] at h;obtain⟨a1,a2,a3,_⟩:=i1 k j h;exact⟨a3,λ_=>a2⟩
 ·rw[Mo] at hx;exact hb.get k x hx
 ·rw[Mo] at hg;by_cases hk:k.toNat<lo;·rw[low k hk] at h;cases h;rw[<-hlow.get k hk];exact hg
  ·rw[high k hk] at h;have h1:=(i1 k j h).2.2.2.1;rw[nP l G k hg] at h1;cases hx:Lr G k with
   |none=>rw[hx] at h1;cases h1
   |some x=>exact hG.get k x hx j h
def nav:EF->B7->B7
 |[],c=>c
 |0::p,.seq a _=>nav p a
 |_::p,.seq _ b=>nav p b
 |0::p,.cond _ a _=>nav p a
 |_::p,.cond _ _ b=>nav p b
 |_::p,.block _ a=>nav p a
 |_::p,.loop a=>nav p a
 |_::_,c=>c
end Go.Pv
end
section
noncomputable section
namespace Go.Pv
open Go.Vm Go.Vm.C
open Go.Vm.Key (kn)
set_option maxRecDepth 40000
set_option maxHeartbeats 0
section
attribute [local irreducible] PX PXL PXC
def cL0:B7:=nav [1,1,1,1,0,1,0] C.f58.body
def cL2:B7:=nav [0,1,1,0,0,1,1,0,1,0,1,0,1,0] cL0
def cL4:B7:=nav [0,1,1,0,0,1,1,0,1,0] cL2
def cL6:B7:=nav [0,1,1,1,1,1,1,1,0] cL4
def cL8:B7:=nav [0,1,1,0,0,1,1,0,1,0,1,1,1,0] cL0
abbrev pA (k:Key):FE:=.v (.v (.s (.ptr k 0)))
abbrev mA (k:Key):FE:=.v (.v (.s (.map k)))
abbrev jA (al:List Al) (bv:PV) (j:Nat):Fm:=[(k1,pA k3),(k2,pA k4),(k3,pA k5),(k4,pA k6),(k5,pA k2),(k6,pA k9),(k8,mA k10),(k9,pA k11),sE k10 bv,(k32,.v (PA.lst 4 (al.map aV))),(k33,.v (iA (al.map aV).length)),(k34,.v (iA j))]
abbrev jK (al:List Al) (bv:PV) (j:Nat) (ks:EF) (q:Nat):Fm:=jA al bv j++[(k12,pA k12),(k69,.v (PA.lst 4 (ks.map kV))),(k70,.v (iA (ks.map kV).length)),(k71,.v (iA q))]
abbrev jX (al:List Al) (bv:PV) (j:Nat) (ks:EF) (q:Nat):Fm:=jK al bv j ks q++[(k15,pA k14),(k16,mA k15),(k77,pA k16)]
abbrev jY (al:List Al) (bv:PV) (j:Nat) (ks:EF) (q:Nat) (rv:PV):Fm:=jX al bv j ks q++[sE k18 rv,(k115,pA k18)]
abbrev hA (f:Fo) (c:Nat) (tot:PV) (t:Tre) (i a:Nat) (nd:Nd) (m:Et) (K:Kn) (l0 l1 l8:Es) (out:Et):List (Key×B4):=
 rkL f c tot t m K l0 l1 l8++[(k9,obl [.int .i64 (i:Nat),.int .i64 (a:Nat)] []),(k10,mpB out []),(k11,obl (nC nd) [])]
abbrev hX (f:Fo) (c:Nat) (tot:PV) (t:Tre) (i a:Nat) (nd:Nd) (m:Et) (K:Kn) (l0 l1 l8:Es) (out:Et) (x:Al) (k:Nat) (nx:Et):List (Key×B4):=
 hA f c tot t i a nd m K l0 l1 l8 out++[(k12,obl (aC x) []),(k14,obl (kV k) []),(k15,mpB nx [])]
abbrev rY:Ew:=[(k9,k9),(k10,k10),(k11,k11),(k12,k12),(k14,k14),(k15,k15),(k16,k16),(k18,k18)]
abbrev cE:B4:=obl [] []
def InC (T:EG) (DO:Nat->Nat->Prop) (k r:Nat) (ms:Et) (S:EF) (e n:Nat):Prop:=DO e n∨∃(j:Nat) (v:PV) (more:Nat),j∈S/\ms[j]?=some (e,v)/\A6 more v/\n=r*(T k).length+more
section
variable {P:Program} {T:EG} {f:Fo} {c:Nat} {tot:PV} {t:Tre} {i a:Nat} {nd:Nd} {K:Kn} {l8:Es} {out:Et} {x:Al}
theorem trX {L1 L2:Fm} {nx9:Key} {m nx:Et} {k:Nat} {l0 l1:Es} {g:A0} {CO DO:Nat->Nat->Prop} (ht:A2 tot) (hO:B8 out CO) (hnx:B8 nx DO) (h:RkH T f c tot t m K l0 l1 l8 g) (h9:∃l,g.get k9=some (obl [.int .i64 (i:Nat),.int .i64 (a:Nat)] l)) (h10:∃l,g.get k10=some (mpB out l))
  (h11:∃l,g.get k11=some (obl (nC nd) l)) (h12:∃l,g.get k12=some (obl (aC x) l)) (h14:∃l,g.get k14=some (obl (kV k) l)) (h15:∃l,g.get k15=some (mpB nx l)) (r:Ew) (G:List (Key×B4)) (hr:∀k∈[k9,k10,k11,k12,k14,k15],rho 9 r k=some k)
  (hn:Gk 9 nx9.toNat (hX f c tot t i a nd m K l0 l1 l8 out x k nx++G) r [] []=true) (hnn:9<=nx9.toNat) (hG:GOk r g G) (hf:Jz (rho 9 r) L1 L2):Trim 9 (rho 9 r) L1 g L2 (mkH (hX f c tot t i a nd m K l0 l1 l8 out x k nx) nx9):=by
 obtain⟨_,h9⟩:=h9;obtain⟨_,h10⟩:=h10;obtain⟨_,h11⟩:=h11;obtain⟨_,h12⟩:=h12;obtain⟨_,h14⟩:=h14;obtain⟨_,h15⟩:=h15;exact Trim.ofG r G hn hnn ⟨h.e8.symm,h.e7.symm,h.e6.symm,h.e5.symm,h.e4.symm,h.e3.symm,h.e2.symm,h.e1.symm,h.e0.symm,Ae⟩
  ⟨⟨_,_,rfl,h.e0,.same Yc⟩,⟨_,_,rfl,h.e1,.map h.hm⟩,⟨_,_,rfl,h.e2,.same Yc⟩,⟨_,_,rfl,h.e3,.same Yc⟩,⟨_,_,rfl,h.e4,.same Yc⟩,⟨_,_,rfl,h.e5,.same Yc⟩,⟨_,_,rfl,h.e6,.same Yc⟩,⟨_,_,rfl,h.e7,.same Yc⟩,⟨_,_,rfl,h.e8,.kk⟩,
   ⟨_,_,hr k9 Ac,h9,.same Yc⟩,⟨_,_,hr k10 Ac,h10,hO.blk⟩,⟨_,_,hr k11 Ac,h11,.same Yc⟩,⟨_,_,hr k12 Ac,h12,.same Yc⟩,⟨_,_,hr k14 Ac,h14,.same Yc⟩,⟨_,_,hr k15 Ac,h15,hnx.blk⟩,Ae⟩ hG hf
theorem l6 (pf:PF P Fn) (ht:A2 tot) {al:List Al} {bv:PV} {j0:Nat} {ks:EF} {q k r mid:Nat} {rv:PV} {ms:Et} {itO:PIt} {DO CO:Nat->Nat->Prop} (hO:B8 out CO) (hbv:A2 bv) (hK:KOk T t K) (hr:A6 r rv) (hms:EY T t k mid ms) (hkid:Uy T f c tot k)
  (hB:∀more,more<(T k).length->r*(T k).length+more<4294967296) (hito:itO.k=k16) {m:Et} {l0 l1:Es} {nx:Et} (hm:Fa T m) (lg:Lg l0) (hnx:B8 nx DO) {Q:PQT}
  (hQ:∀m' l0' l1' nx' S,Fa T m'->Lg l0'->B8 nx' (InC T DO k r ms S)->(∀j,j<ms.length->j∈S)->(∀j∈S,j<ms.length)->Q (.exit 6) ((k117,.v (bA false))::(k116,.v (.tup [.s (.bool false)]))::jY al bv j0 ks q rv) (mkH (hX f c tot t i a nd m' K l0' l1' l8 out x k nx') k19) [itO,⟨k18,mKs ms,mVs ms,S⟩]) :
  PX P 9 cL6 (jY al bv j0 ks q rv) (mkH (hX f c tot t i a nd m K l0 l1 l8 out x k nx) k19) [itO,⟨k18,mKs ms,mVs ms,[]⟩] Q:=by
 have rnk:=hr.nk;have hid:∀k∈[k9,k10,k11,k12,k14,k15],rho 9 rY k=some k:=by simp only[Af,Ah,AP,CU,Ee];exact⟨rfl,rfl,rfl,rfl,rfl,rfl⟩
 have hkl:(mKs ms).length=ms.length:=Lm ..;refine PX.B6 (σ:=EF) (λS=>ms.length-S.length) (λ_=>jY al bv j0 ks q rv)
  (λS g=>S.Nodup/\(∀j∈S,j<ms.length)/\∃m' l0' l1' nx',Fa T m'/\Lg l0'/\B8 nx' (InC T DO k r ms S)/\g=mkH (hX f c tot t i a nd m' K l0' l1' l8 out x k nx') k19) (λS=>[itO,⟨k18,mKs ms,mVs ms,S⟩]) []
  (ρ:=rho 9 rY) (g0:=mkH (hX f c tot t i a nd m K l0 l1 l8 out x k nx) k19) ?_ ?_ ⟨.nil,Ac,m,l0,l1,nx,hm,lg,hnx.eq λe n=>by simp[InC],rfl⟩ ?_
 ·exact trX ht hO hnx ⟨hm,hK,lg,rfl,rfl,rfl,rfl,rfl,rfl,rfl,rfl,rfl⟩ ⟨_,rfl⟩ ⟨_,rfl⟩ ⟨_,rfl⟩ ⟨_,rfl⟩ ⟨_,rfl⟩ ⟨_,rfl⟩ rY [(k16,cE),(k18,cE)] hid rfl Ab ⟨rfl,rfl,Ae⟩ Yf
 ·exact .cons ⟨by rw[hito];rfl,rfl,rfl,rfl⟩ (.cons ⟨rfl,rfl,rfl,rfl⟩ .nil)
 rintro S g ⟨hS1,hS2,m',l0',l1',nx',hm',lg',hnx',rfl⟩;refine PX.seq (PX.region (PXL.next (I1:=[itO]) (I2:=[]) rfl rfl (λhall=>?_) λj key val hj hk hv=>?_));·refine PXL.split 1 (pu:=pt) pf ?_;refine Yw1 ?_;refine PXL.nil ?_;refine Eh pt pf ?_;refine Yw1 ?_;exact hQ m' l0' l1' nx' S hm' lg' hnx' (λj hj=>hall j (by rw[hkl];exact hj)) hS2
 ·refine PXL.split 1 (pu:=pt) pf ?_;refine Yw1 ?_;refine PXL.nil ?_;refine Eh pt pf ?_;refine Yw1 ?_;refine PX.block (PX.seq (PX.region (PXL.entry (I1:=[itO]) (I2:=[]) rfl rfl rfl hk hv ?_)));obtain⟨p,hp,rfl⟩:∃p,ms[j]?=some p/\key=.int .i64 (p.1:Nat):=by simp only[AD,BD] at hk;obtain⟨p,h1,h2⟩:=hk;exact⟨p,h1,h2.symm⟩
  obtain rfl:val=p.2:=by simp only[AD,hp,AK,Sj] at hv;exact hv.symm
  obtain⟨e,v⟩:=p;obtain⟨more,hmv,hmi⟩:=hms.mi (Ji hms.keys hp);have hml:more<(T k).length:=(Gi.1 hmi.1.2.2).1;have vnk:=hmv.nk;refine PXL.split 4 (pu:=pt) pf ?_;refine Yw1 ?_;refine PXL.nil ?_;refine Ei pt pf ?_;refine Yw1 ?_;simp only at hmv hmi vnk;refine En (tyL f c tot m' [] []) k2 tyR (hkid m' hm') (Hz ht hm' rfl rfl) Ya ?_;rintro rc gc' ⟨⟨u,rfl,hu⟩,m2,a0,a1,hm2,_,lga0,e0,e1⟩;have unk:=hu.nk;refine⟨[],k19,tyX f c tot m2 (a0++_) (a1++_),[],.v (.s u),rfl,Rl,H9 ht hm2 e0 e1 rfl rfl rfl rfl,Ae,hu.nk.rn,?_⟩;have hlt:=hB more hml;have hmul:=Z4 (f:=f) (c:=c) (tot:=tot) hm2 hr hu Aa;refine Yw1 ?_;clear e0 e1;refine En (tyL f c tot m2 [] []) k2 tyR hmul (Hz ht hm2 rfl rfl) Ya ?_;rintro rc gc' ⟨⟨w,rfl,hw⟩,m3,b0,b1,hm3,_,lgb0,e0,e1⟩;have wnk:=hw.nk;refine⟨[],k19,tyX f c tot m3 (b0++_) (b1++_),[],.v (.s w),rfl,Rl,H9 ht hm3 e0 e1 rfl rfl rfl rfl,Ae,hw.nk.rn,?_⟩;have hadd:=Xw (f:=f) (c:=c) (tot:=tot) hm3 hw hmv hlt;refine Yw1 ?_;clear e0 e1;refine En (tyL f c tot m3 [] []) k2 tyR hadd (Hz ht hm3 rfl rfl) Ya ?_;rintro rc gc' ⟨⟨z,rfl,hz⟩,m4,c0,c1,hm4,_,lgc0,e0,e1⟩;have znk:=hz.nk;refine⟨[],k19,tyX f c tot m4 (c0++_) (c1++_),[],.v (.s z),rfl,Rl,H9 ht hm4 e0 e1 rfl rfl rfl rfl,Ae,hz.nk.rn,?_⟩;have hput:=RA hnx' (e:=e) hz;refine Yw1 ?_;clear e0 e1;refine En [(k0,mpB nx' [])] k1 [(k0,k15)] hput ⟨⟨_,_,rfl,rfl,hnx'.blk⟩,Ae⟩ Ya ?_;rintro rc gc' ⟨rfl,nx2,lp,e0,hnx2⟩;refine⟨[],k19,[some (mpB nx2 (lp++[]))],[],.unit,rfl,Rl,⟨⟨_,_,_,e0,hnx2.blk,rfl,rfl,rfl,rfl⟩,Ae⟩,Ae,.nil,?_⟩;refine Yw1 ?_;have hjl:j<ms.length:=(Gi.1 hp).1;have hnd:(S++[j]).Nodup:=Da.2 ⟨hS1,Ac,λy hy z hz hyz=>by rw[Ar] at hz;subst hz;subst hyz;exact hj hy⟩;have hbd:∀y∈S++[j],y<ms.length:=λy hy=>by
   rcases Av.1 hy with hy|hy;·exact hS2 y hy
   ·rw[Ar] at hy;rw[hy];exact hjl
  refine⟨S++[j],_,_,_,[],?_,trX (nx9:=k19) ht hO hnx2 ⟨hm4,hK,Yg,rfl,rfl,rfl,rfl,rfl,rfl,rfl,rfl,rfl⟩ ⟨_,rfl⟩ ⟨_,rfl⟩ ⟨_,rfl⟩ ⟨_,rfl⟩ ⟨_,rfl⟩ ⟨_,rfl⟩ rY [(k16,cE),(k18,cE)] hid rfl Ab ⟨rfl,rfl,Ae⟩ Yf,(Ay _).symm,.cons ⟨by rw[hito];rfl,rfl,rfl,rfl⟩ (.cons ⟨rfl,rfl,rfl,rfl⟩ .nil),?_⟩;·have:=Hc ms.length (S++[j]) hnd hbd;simp only[La,Bl] at this ⊢;omega
  ·refine⟨hnd,hbd,m4,_,_,nx2,hm4,Yg,hnx2.eq λe' n=>⟨λh=>?_,λh=>?_⟩,rfl⟩
   ·rcases h with(h|⟨j',v',mr,h1,h2,h3,h4⟩)|⟨rfl,rfl⟩;·exact .inl h
    ·exact .inr ⟨j',v',mr,by simp[h1],h2,h3,h4⟩
    ·exact .inr ⟨j,v,more,Ac,hp,hmv,rfl⟩
   ·rcases h with h|⟨j',v',mr,h1,h2,h3,h4⟩;·exact .inl (.inl h)
    ·rcases Av.1 h1 with h1|h1;·exact .inl (.inr ⟨j',v',mr,h1,h2,h3,h4⟩)
     ·rw[Ar] at h1;subst h1;rw[hp] at h2;cases h2;rw[h3.uniq hmv] at h4;exact .inr ⟨rfl,h4⟩
end
end
section
attribute [local irreducible] PX PXL PXC
def OuC (T:EG) (t:Tre) (k:Nat) (wm:Et) (S:EF) (e n:Nat):Prop:=∃(j mid:Nat) (v:PV) (r more:Nat),j∈S/\wm[j]?=some (mid,v)/\A6 r v/\Mi (RdC T t k mid) e more/\n=r*(T k).length+more
abbrev rX:Ew:=[(k9,k9),(k10,k10),(k11,k11),(k12,k12),(k14,k14),(k15,k15),(k16,k16)]
theorem AbK:∀k∈[k9,k10,k11,k12,k14,k15],rho 9 rX k=some k:=by simp only[Af,Ah,AP,CU,Ee];exact⟨rfl,rfl,rfl,rfl,rfl,rfl⟩
theorem hidY:∀k∈[k9,k10,k11,k12,k14,k15],rho 9 rY k=some k:=by simp only[Af,Ah,AP,CU,Ee];exact⟨rfl,rfl,rfl,rfl,rfl,rfl⟩
section
variable {P:Program} {T:EG} {f:Fo} {c:Nat} {tot:PV} {t:Tre} {i a:Nat} {nd:Nd} {out:Et} {x:Al}
theorem l4 (pf:PF P Fn) (ht:A2 tot) {al:List Al} {bv:PV} {j0:Nat} {ks:EF} {q k b0:Nat} {kq:EF} {wm:Et} {CO:Nat->Nat->Prop} (hO:B8 out CO) (hbv:A2 bv) (hw:B8 wm (WaC T t b0 kq)) (hkid:Uy T f c tot k) (hget:bZ P T f c tot t k)
  (hB:(B9 T (kq++[k])).length<4294967296) {m:Et} {K:Kn} {l0 l1 l8:Es} (hm:Fa T m) (hK:KOk T t K) (lg:Lg l0) {Q:PQT}
  (hQ:∀m' K' l0' l1' l8' nx' S,Fa T m'->KOk T t K'->Lg l0'->B8 nx' (StC T t b0 kq k)->Q (.exit 4) ((k79,.v (bA false))::(k78,.v (.tup [.s (.bool false)]))::jX al bv j0 ks q) (mkH (hX f c tot t i a nd m' K' l0' l1' l8' out x k nx') k17) [⟨k16,mKs wm,mVs wm,S⟩]) :
  PX P 9 cL4 (jX al bv j0 ks q) (mkH (hX f c tot t i a nd m K l0 l1 l8 out x k []) k17) [⟨k16,mKs wm,mVs wm,[]⟩] Q:=by
 have hkl:(mKs wm).length=wm.length:=Lm ..;refine PX.B6 (σ:=EF) (λS=>wm.length-S.length) (λ_=>jX al bv j0 ks q)
  (λS g=>S.Nodup/\(∀j∈S,j<wm.length)/\∃m' K' l0' l1' l8' nx',Fa T m'/\KOk T t K'/\Lg l0'/\B8 nx' (OuC T t k wm S)/\g=mkH (hX f c tot t i a nd m' K' l0' l1' l8' out x k nx') k17) (λS=>[⟨k16,mKs wm,mVs wm,S⟩]) []
  (ρ:=rho 9 rX) (g0:=mkH (hX f c tot t i a nd m K l0 l1 l8 out x k []) k17) ?_ ?_ ⟨.nil,Ac,m,K,l0,l1,l8,[],hm,hK,lg,B8.nil.eq λe n=>by simp[OuC],rfl⟩ ?_
 ·exact trX ht hO B8.nil ⟨hm,hK,lg,rfl,rfl,rfl,rfl,rfl,rfl,rfl,rfl,rfl⟩ ⟨_,rfl⟩ ⟨_,rfl⟩ ⟨_,rfl⟩ ⟨_,rfl⟩ ⟨_,rfl⟩ ⟨_,rfl⟩ rX [(k16,cE)] AbK rfl Ab ⟨rfl,Ae⟩ Yf
 ·exact .cons ⟨rfl,rfl,rfl,rfl⟩ .nil
 rintro S g ⟨hS1,hS2,m',K',l0',l1',l8',nx',hm',hK',lg',hnx',rfl⟩;refine PX.seq (PX.region (PXL.next (I1:=[]) (I2:=[]) rfl rfl (λhall=>?_) λj key val hj hk hv=>?_))
 ·refine PXL.split 1 (pu:=pt) pf ?_;refine Yw1 ?_;refine PXL.nil ?_;refine Eh pt pf ?_;refine Yw1 ?_;refine hQ m' K' l0' l1' l8' nx' S hm' hK' lg' (hnx'.eq λe n=>⟨?_,?_⟩);·rintro⟨j,mid,v,r,more,h1,h2,h3,h4,h5⟩;obtain⟨r',a1,a2⟩:=hw.mi (Ji hw.keys h2);rw[h3.uniq a1] at h5;exact⟨mid,r',more,a2,h4,h5⟩
  ·rintro⟨mid,r,more,h1,h2,h3⟩;obtain⟨v,a1,a2⟩:=hw.nO h1;obtain⟨j,hj⟩:=S2 a1;exact⟨j,mid,v,r,more,hall j (by rw[hkl];exact(Gi.1 hj).1),hj,a2,h2,h3⟩
 ·refine PXL.split 1 (pu:=pt) pf ?_;refine Yw1 ?_;refine PXL.nil ?_;refine Eh pt pf ?_;refine Yw1 ?_;refine PX.block (PX.seq (PX.region (PXL.entry (I1:=[]) (I2:=[]) rfl rfl rfl hk hv ?_)));obtain⟨p,hp,rfl⟩:∃p,wm[j]?=some p/\key=.int .i64 (p.1:Nat):=by simp only[AD,BD] at hk;obtain⟨p,h1,h2⟩:=hk;exact⟨p,h1,h2.symm⟩
  obtain rfl:val=p.2:=by simp only[AD,hp,AK,Sj] at hv;exact hv.symm
  obtain⟨mid,v⟩:=p;obtain⟨r,hrv,hmi⟩:=hw.mi (Ji hw.keys hp);simp only at hrv hmi;have vnk:=hrv.nk;refine PXL.split 4 (pu:=pt) pf ?_;refine Yw1 ?_;refine PXL.nil ?_;refine Eh pt pf ?_;refine Yw1 ?_;refine PX.seq (Eh pt pf ?_);refine Yw1 ?_;refine PX.cond rfl rfl (λ_=>?_) (λh=>Ad);refine PX.region (PXL.split 5 (pu:=pt) pf ?_);refine Yw1 ?_;refine PXL.call rfl (PAt ht ⟨hm',hK',lg',rfl,rfl,rfl,rfl,rfl,rfl,rfl,rfl,rfl⟩ rfl Ya (hget m' K' mid hm' hK')) ?_;rintro r1 g' ⟨ms,m2,K2,a0,a1,a8,rfl,hms,hm2,hK2,lga,rfl⟩;conv=>whnf
  refine PXL.split 1 (pu:=pt) pf ?_;refine Yw1 ?_;refine PXL.nil ?_;refine PX.seq (PX.region (PXL.split 1 (pu:=pt) pf ?_));refine Yw1 ?_;refine PXL.range rfl rfl (PXL.nil ?_);refine PX.block (PX.trim (trX (nx9:=k19) (k:=k) ht hO hnx' ⟨hm2,hK2,lga,rfl,rfl,rfl,rfl,rfl,rfl,rfl,rfl,rfl⟩ ⟨_,rfl⟩ ⟨_,rfl⟩ ⟨_,rfl⟩ ⟨_,rfl⟩ ⟨_,rfl⟩ ⟨_,rfl⟩ rY [(k16,cE),(k18,cE)] hidY rfl Ab ⟨rfl,rfl,Ae⟩ ?_) (.cons ⟨rfl,rfl,rfl,rfl⟩ (.cons ⟨rfl,rfl,rfl,rfl⟩ .nil))
   (l6 (al:=al) (bv:=bv) (j0:=j0) (ks:=ks) (q:=q) (k:=k) (rv:=v) (itO:=⟨k16,mKs wm,mVs wm,S++[j]⟩) pf ht hO hbv hK2 hrv hms hkid ?_ rfl hm2 lga hnx' ?_))
  ·repeat' first|refine⟨⟨_,rfl,rfl⟩,?_⟩|refine⟨⟨_,rfl,A2.rn (by assumption)⟩,?_⟩|exact trivial|fail
  ·intro more hml;have:(B9 T (kq++[k])).length=(B9 T kq).length*(T k).length:=MJ kq k;have hr:r<(B9 T kq).length:=(Gi.1 hmi.1.2.2).1;have h3:(r+1)*(T k).length<=(B9 T kq).length*(T k).length:=AZ _ hr;rw[Bg] at h3;omega
  ·intro m3 c0 c1 nx3 S3 hm3 lgc hnx3 hall hS3;have hjl:j<wm.length:=(Gi.1 hp).1;have hnd:(S++[j]).Nodup:=Da.2 ⟨hS1,Ac,λy hy z hz hyz=>by rw[Ar] at hz;subst hz;subst hyz;exact hj hy⟩;have hbd:∀y∈S++[j],y<wm.length:=λy hy=>by
    rcases Av.1 hy with hy|hy;·exact hS2 y hy
    ·rw[Ar] at hy;rw[hy];exact hjl
   refine Yw1 ?_;refine⟨S++[j],_,_,[_],[_],?_,trX (nx9:=k17) (k:=k) ht hO hnx3 ⟨hm3,hK2,lgc,rfl,rfl,rfl,rfl,rfl,rfl,rfl,rfl,rfl⟩ ⟨_,rfl⟩ ⟨_,rfl⟩ ⟨_,rfl⟩ ⟨_,rfl⟩ ⟨_,rfl⟩ ⟨_,rfl⟩ rX [(k16,cE)] AbK rfl Ab ⟨rfl,Ae⟩ Yf,rfl,.cons ⟨rfl,rfl,rfl,rfl⟩ .nil,?_⟩;·have:=Hc wm.length (S++[j]) hnd hbd;simp only[La,Bl] at this ⊢;omega
   ·refine⟨hnd,hbd,m3,_,_,_,_,nx3,hm3,hK2,lgc,hnx3.eq λe' n=>⟨λh=>?_,λh=>?_⟩,rfl⟩
    ·rcases h with⟨j',mid',v',r',mr,h1,h2,h3,h4,h5⟩|⟨j2,v2,more,h1,h2,h3,h4⟩;·exact⟨j',mid',v',r',mr,by simp[h1],h2,h3,h4,h5⟩
     ·obtain⟨more',b1,b2⟩:=hms.mi (Ji hms.keys h2);rw[h3.uniq b1] at h4;exact⟨j,mid,v,r,more',Ac,hp,hrv,b2,h4⟩
    ·obtain⟨j',mid',v',r',mr,h1,h2,h3,h4,h5⟩:=h;rcases Av.1 h1 with h1|h1;·exact .inl ⟨j',mid',v',r',mr,h1,h2,h3,h4,h5⟩
     ·rw[Ar] at h1;subst h1;rw[hp] at h2;cases h2;rw[h3.uniq hrv] at h5;obtain⟨v2,b1,b2⟩:=hms.nO h4;obtain⟨j2,hj2⟩:=S2 b1;exact .inr ⟨j2,v2,mr,hall j2 (Gi.1 hj2).1,hj2,b2,h5⟩
end
end
section
attribute [local irreducible] PX PXL PXC
abbrev hW (f:Fo) (c:Nat) (tot:PV) (t:Tre) (i a:Nat) (nd:Nd) (m:Et) (K:Kn) (l0 l1 l8:Es) (out:Et) (x:Al) (wm:Et):List (Key×B4):=
 hA f c tot t i a nd m K l0 l1 l8 out++[(k12,obl (aC x) []),(k13,mpB wm [])]
abbrev jW (al:List Al) (bv:PV) (j:Nat) (ks:EF) (q:Nat):Fm:=jK al bv j ks q++[(k13,mA k13)]
abbrev rW (k:Key):Ew:=[(k9,k9),(k10,k10),(k11,k11),(k12,k12),(k13,k)]
section
variable {P:Program} {T:EG} {f:Fo} {c:Nat} {tot:PV} {t:Tre} {i a:Nat} {nd:Nd} {out:Et} {x:Al}
theorem trW {L1 L2:Fm} {m wm:Et} {K:Kn} {l0 l1 l8:Es} {g:A0} {CO DO:Nat->Nat->Prop} (ht:A2 tot) (hO:B8 out CO) (hnx:B8 wm DO) (h:RkH T f c tot t m K l0 l1 l8 g) (h9:∃l,g.get k9=some (obl [.int .i64 (i:Nat),.int .i64 (a:Nat)] l)) (h10:∃l,g.get k10=some (mpB out l))
  (h11:∃l,g.get k11=some (obl (nC nd) l)) (h12:∃l,g.get k12=some (obl (aC x) l)) (kw:Key) (h13:∃l,g.get kw=some (mpB wm l)) (hr:∀k∈[k9,k10,k11,k12],rho 9 (rW kw) k=some k) (hr2:rho 9 (rW kw) k13=some kw)
  (hn:Gk 9 k14.toNat (hW f c tot t i a nd m K l0 l1 l8 out x wm) (rW kw) [] []=true) (hf:Jz (rho 9 (rW kw)) L1 L2):Trim 9 (rho 9 (rW kw)) L1 g L2 (mkH (hW f c tot t i a nd m K l0 l1 l8 out x wm) k14):=by
 obtain⟨_,h9⟩:=h9;obtain⟨_,h10⟩:=h10;obtain⟨_,h11⟩:=h11;obtain⟨_,h12⟩:=h12;obtain⟨_,h13⟩:=h13;exact Trim.of (rW kw) hn Ab ⟨h.e8.symm,h.e7.symm,h.e6.symm,h.e5.symm,h.e4.symm,h.e3.symm,h.e2.symm,h.e1.symm,h.e0.symm,Ae⟩
  ⟨⟨_,_,rfl,h.e0,.same Yc⟩,⟨_,_,rfl,h.e1,.map h.hm⟩,⟨_,_,rfl,h.e2,.same Yc⟩,⟨_,_,rfl,h.e3,.same Yc⟩,⟨_,_,rfl,h.e4,.same Yc⟩,⟨_,_,rfl,h.e5,.same Yc⟩,⟨_,_,rfl,h.e6,.same Yc⟩,⟨_,_,rfl,h.e7,.same Yc⟩,⟨_,_,rfl,h.e8,.kk⟩,
   ⟨_,_,hr k9 Ac,h9,.same Yc⟩,⟨_,_,hr k10 Ac,h10,hO.blk⟩,⟨_,_,hr k11 Ac,h11,.same Yc⟩,⟨_,_,hr k12 Ac,h12,.same Yc⟩,⟨_,_,hr2,h13,hnx.blk⟩,Ae⟩ hf
theorem AbL (k:Key):∀j∈[k9,k10,k11,k12],rho 9 (rW k) j=some j:=by simp only[Af,Ah,AP,CU,Ee];exact⟨rfl,rfl,rfl,rfl⟩
theorem rU (m:Et):∀x∈mKs m,A2 x:=λx hx=>by obtain⟨p,_,rfl⟩:=Aw.1 hx;exact Ae
theorem B8.nks {m:Et} {C:Nat->Nat->Prop} (h:B8 m C):∀x∈mVs m,A2 x:=λx hx=>by obtain⟨p,hp,rfl⟩:=Aw.1 hx;obtain⟨n,hn⟩:=h.val p hp;exact hn.nk
theorem fA (m:Et):(mVs m).length=(mKs m).length:=Ac
theorem l2 (pf:PF P Fn) (ht:A2 tot) {al:List Al} {bv:PV} {j0:Nat} {ks:EF} {b0:Nat} {CO:Nat->Nat->Prop} (hO:B8 out CO) (hbv:A2 bv) (hkid:∀k∈ks,Uy T f c tot k/\bZ P T f c tot t k)
  (hB:∀q,(B9 T (ks.take q)).length<4294967296) (hkl2:ks.length<=2) {wm:Et} (hw:B8 wm (WaC T t b0 [])) {m:Et} {K:Kn} {l0 l1 l8:Es} (hm:Fa T m) (hK:KOk T t K) (lg:Lg l0) {Q:PQT}
  (hQ:∀m' K' l0' l1' l8' wm' y,Fa T m'->KOk T t K'->Lg l0'->B8 wm' (WaC T t b0 ks)->Q (.exit 2) ((k72,y)::jW al bv j0 ks ks.length) (mkH (hW f c tot t i a nd m' K' l0' l1' l8' out x wm') k14) []) :
  PX P 9 cL2 (jW al bv j0 ks 0) (mkH (hW f c tot t i a nd m K l0 l1 l8 out x wm) k14) [] Q:=by
 have hkl:(ks.map kV).length=ks.length:=Lm ..;refine PX.B6 (σ:=Nat) (λq=>ks.length-q) (λq=>jW al bv j0 ks q)
  (λq g=>q<=ks.length/\∃m' K' l0' l1' l8' wm',Fa T m'/\KOk T t K'/\Lg l0'/\B8 wm' (WaC T t b0 (ks.take q))/\g=mkH (hW f c tot t i a nd m' K' l0' l1' l8' out x wm') k14) (λ_=>[]) 0
  (ρ:=rho 9 (rW k13)) (g0:=mkH (hW f c tot t i a nd m K l0 l1 l8 out x wm) k14) ?_ .nil ⟨Zl,m,K,l0,l1,l8,wm,hm,hK,lg,hw,rfl⟩ ?_
 ·exact trW ht hO hw ⟨hm,hK,lg,rfl,rfl,rfl,rfl,rfl,rfl,rfl,rfl,rfl⟩ ⟨_,rfl⟩ ⟨_,rfl⟩ ⟨_,rfl⟩ ⟨_,rfl⟩ k13 ⟨_,rfl⟩ (AbL _) rfl rfl Yf
 rintro q g ⟨hq,m',K',l0',l1',l8',wm',hm',hK',lg',hw',rfl⟩;refine Eh pt pf ?_;refine Yw1 ?_;refine Eh pt pf ?_;refine⟨λh=>?_,λh=>?_⟩
 ·have hq:q<ks.length:=by have:=B0 h;omega
  have hk:ks[q]?=some ks[q]:=Gg hq;have htk:ks.take (q+1)=ks.take q++[ks[q]]:=An hq;obtain⟨kk1,kk2⟩:=hkid ks[q] (AU hq);have hBq:=hB (q+1);rw[htk] at hBq;generalize ks[q]=k at hk htk kk1 kk2 hBq;have hge:(ks.map kV)[(q:Int).toNat]?=some (kV k):=by simp[hk]
  refine Yw1 ?_;refine PX.seq (PX.block ?_);refine Eh pt pf ?_;refine Yw1 ?_;refine Eh pt pf ?_;refine Yw1 ?_;refine PX.seq ?_;refine PX.QY (kx:=k13) (k:=k13) (ks:=mKs wm') (vs:=mVs wm') rfl rfl (by rw[bY];exact rfl) (fA _) (rU _) hw'.nks ?_;refine PX.seq (PX.region (PXL.split 1 (pu:=pt) pf ?_));refine Yw1 ?_;refine PXL.range rfl rfl (PXL.nil ?_);refine PX.block (PX.trim (trX (nx9:=k17) (k:=k) (nx:=[]) ht hO B8.nil ⟨hm',hK',lg',rfl,rfl,rfl,rfl,rfl,rfl,rfl,rfl,rfl⟩ ⟨_,rfl⟩ ⟨_,rfl⟩ ⟨_,rfl⟩ ⟨_,rfl⟩ ⟨_,rfl⟩ ⟨_,rfl⟩ rX [(k16,cE)] AbK rfl Ab ⟨rfl,Ae⟩ ?_) (.cons ⟨rfl,rfl,rfl,rfl⟩ .nil)
   (l4 (al:=al) (bv:=bv) (j0:=j0) (ks:=ks) (q:=q) (k:=k) (kq:=ks.take q) (wm:=wm') pf ht hO hbv hw' kk1 kk2 hBq hm' hK' lg' ?_))
  ·repeat' first|refine⟨⟨_,rfl,rfl⟩,?_⟩|refine⟨⟨_,rfl,A2.rn (by assumption)⟩,?_⟩|exact trivial|fail
  ·intro m2 K2 a0 a1 a8 nx2 S hm2 hK2 lga hnx2;refine Yw1 ?_;refine Ei pt pf ?_;refine Yw1 ?_;refine Ei pt pf ?_;refine Yw1 ?_;refine⟨q+1,_,_,[],[_],Lq,trW ht hO (dO hnx2) ⟨hm2,hK2,lga,rfl,rfl,rfl,rfl,rfl,rfl,rfl,rfl,rfl⟩ ⟨_,rfl⟩ ⟨_,rfl⟩ ⟨_,rfl⟩ ⟨_,rfl⟩ k15 ⟨_,rfl⟩ (AbL _) rfl rfl Yf,rfl,.nil,hq,m2,K2,_,_,_,nx2,hm2,hK2,lga,?_,rfl⟩;rw[htk];exact dO hnx2
 ·have hfull:q=ks.length:=by have:=B5 h;omega
  subst hfull;rw[AB] at hw';refine Yw1 ?_;exact hQ m' K' l0' l1' l8' wm' _ hm' hK' lg' hw'
end
end
section
attribute [local irreducible] PX PXL PXC
abbrev h8 (f:Fo) (c:Nat) (tot:PV) (t:Tre) (i a:Nat) (nd:Nd) (m:Et) (K:Kn) (l0 l1 l8:Es) (out:Et) (x:Al):List (Key×B4):=
 hA f c tot t i a nd m K l0 l1 l8 out++[(k12,obl (aC x) [])]
abbrev j8 (al:List Al) (bv:PV) (j:Nat):Fm:=jA al bv j++[(k12,pA k12)]
abbrev r8:Ew:=[(k9,k9),(k10,k10),(k11,k11),(k12,k12)]
def OtC (CO:Nat->Nat->Prop) (B:Nat) (wm:Et) (S:EF) (e n:Nat):Prop:=CO e n∨∃(j:Nat) (v:PV) (r:Nat),j∈S/\wm[j]?=some (e,v)/\A6 r v/\n=B+r
section
variable {P:Program} {T:EG} {f:Fo} {c:Nat} {tot:PV} {t:Tre} {i a:Nat} {nd:Nd} {x:Al}
theorem tr8 {L1 L2:Fm} {m out:Et} {K:Kn} {l0 l1 l8:Es} {g:A0} {CO:Nat->Nat->Prop} (ht:A2 tot) (hO:B8 out CO) (h:RkH T f c tot t m K l0 l1 l8 g) (h9:∃l,g.get k9=some (obl [.int .i64 (i:Nat),.int .i64 (a:Nat)] l)) (h10:∃l,g.get k10=some (mpB out l))
  (h11:∃l,g.get k11=some (obl (nC nd) l)) (h12:∃l,g.get k12=some (obl (aC x) l)) (nx9:Key) (r:Ew) (G:List (Key×B4)) (hr:∀k∈[k9,k10,k11,k12],rho 9 r k=some k)
  (hn:Gk 9 nx9.toNat (h8 f c tot t i a nd m K l0 l1 l8 out x++G) r [] []=true) (hnn:9<=nx9.toNat) (hG:GOk r g G) (hf:Jz (rho 9 r) L1 L2):Trim 9 (rho 9 r) L1 g L2 (mkH (h8 f c tot t i a nd m K l0 l1 l8 out x) nx9):=by
 obtain⟨_,h9⟩:=h9;obtain⟨_,h10⟩:=h10;obtain⟨_,h11⟩:=h11;obtain⟨_,h12⟩:=h12;exact Trim.ofG r G hn hnn ⟨h.e8.symm,h.e7.symm,h.e6.symm,h.e5.symm,h.e4.symm,h.e3.symm,h.e2.symm,h.e1.symm,h.e0.symm,Ae⟩
  ⟨⟨_,_,rfl,h.e0,.same Yc⟩,⟨_,_,rfl,h.e1,.map h.hm⟩,⟨_,_,rfl,h.e2,.same Yc⟩,⟨_,_,rfl,h.e3,.same Yc⟩,⟨_,_,rfl,h.e4,.same Yc⟩,⟨_,_,rfl,h.e5,.same Yc⟩,⟨_,_,rfl,h.e6,.same Yc⟩,⟨_,_,rfl,h.e7,.same Yc⟩,⟨_,_,rfl,h.e8,.kk⟩,
   ⟨_,_,hr k9 Ac,h9,.same Yc⟩,⟨_,_,hr k10 Ac,h10,hO.blk⟩,⟨_,_,hr k11 Ac,h11,.same Yc⟩,⟨_,_,hr k12 Ac,h12,.same Yc⟩,Ae⟩ hG hf
abbrev r8i:Ew:=r8++[(k14,k14)]
theorem SY:∀j∈[k9,k10,k11,k12],rho 9 r8 j=some j:=by simp only[Af,Ah,AP,CU,Ee];exact⟨rfl,rfl,rfl,rfl⟩
theorem IQ:∀j∈[k9,k10,k11,k12],rho 9 r8i j=some j:=by simp only[Af,Ah,AP,CU,Ee];exact⟨rfl,rfl,rfl,rfl⟩
theorem l8 (pf:PF P Fn) (ht:A2 tot) {al:List Al} {bv:PV} {j0 B:Nat} {wm out:Et} {CO CW:Nat->Nat->Prop} (hO:B8 out CO) (hbv:A6 B bv) (hw:B8 wm CW)
  (hB:∀e r,CW e r->B+r<4294967296) {m:Et} {K:Kn} {l0 l1 l8:Es} (hm:Fa T m) (hK:KOk T t K) (lg:Lg l0) {Q:PQT}
  (hQ:∀m' l0' l1' out' S,Fa T m'->Lg l0'->B8 out' (λe n=>CO e n∨∃r,Mi CW e r/\n=B+r)->Q (.exit 8) ((k138,.v (bA false))::(k137,.v (.tup [.s (.bool false)]))::(j8 al bv j0++[(k136,pA k14)])) (mkH (h8 f c tot t i a nd m' K l0' l1' l8 out' x) k15) [⟨k14,mKs wm,mVs wm,S⟩]) :
  PX P 9 cL8 (j8 al bv j0++[(k136,pA k14)]) (mkH (h8 f c tot t i a nd m K l0 l1 l8 out x) k15) [⟨k14,mKs wm,mVs wm,[]⟩] Q:=by
 have hkl:(mKs wm).length=wm.length:=Lm ..;have bnk:=hbv.nk;refine PX.B6 (σ:=EF) (λS=>wm.length-S.length) (λ_=>j8 al bv j0++[(k136,pA k14)])
  (λS g=>S.Nodup/\(∀j∈S,j<wm.length)/\∃m' l0' l1' out',Fa T m'/\Lg l0'/\B8 out' (OtC CO B wm S)/\g=mkH (h8 f c tot t i a nd m' K l0' l1' l8 out' x) k15) (λS=>[⟨k14,mKs wm,mVs wm,S⟩]) []
  (ρ:=rho 9 r8i) (g0:=mkH (h8 f c tot t i a nd m K l0 l1 l8 out x) k15) ?_ ?_ ⟨.nil,Ac,m,l0,l1,out,hm,lg,hO.eq λe n=>by simp[OtC],rfl⟩ ?_
 ·exact tr8 ht hO ⟨hm,hK,lg,rfl,rfl,rfl,rfl,rfl,rfl,rfl,rfl,rfl⟩ ⟨_,rfl⟩ ⟨_,rfl⟩ ⟨_,rfl⟩ ⟨_,rfl⟩ k15 r8i [(k14,cE)] IQ rfl Ab ⟨rfl,Ae⟩ Yf
 ·exact .cons ⟨rfl,rfl,rfl,rfl⟩ .nil
 rintro S g ⟨hS1,hS2,m',l0',l1',out',hm',lg',hO',rfl⟩;refine PX.seq (PX.region (PXL.next (I1:=[]) (I2:=[]) rfl rfl (λhall=>?_) λj key val hj hk hv=>?_))
 ·refine PXL.split 1 (pu:=pt) pf ?_;refine Yw1 ?_;refine PXL.nil ?_;refine Eh pt pf ?_;refine Yw1 ?_;refine hQ m' l0' l1' out' S hm' lg' (hO'.eq λe n=>⟨?_,?_⟩)
  ·rintro(h|⟨j,v,r,h2,h3,h4,h5⟩);·exact .inl h
   ·obtain⟨r',a1,a2⟩:=hw.mi (Ji hw.keys h3);rw[h4.uniq a1] at h5;exact .inr ⟨r',a2,h5⟩
  ·rintro(h|⟨r,h1,h2⟩);·exact .inl h
   ·obtain⟨v,a1,a2⟩:=hw.nO h1;obtain⟨j,hj⟩:=S2 a1;exact .inr ⟨j,v,r,hall j (by rw[hkl];exact(Gi.1 hj).1),hj,a2,h2⟩
 ·refine PXL.split 1 (pu:=pt) pf ?_;refine Yw1 ?_;refine PXL.nil ?_;refine Eh pt pf ?_;refine Yw1 ?_;refine PX.block (PX.seq (PX.region (PXL.entry (I1:=[]) (I2:=[]) rfl rfl rfl hk hv ?_)));obtain⟨p,hp,rfl⟩:∃p,wm[j]?=some p/\key=.int .i64 (p.1:Nat):=by simp only[AD,BD] at hk;obtain⟨p,h1,h2⟩:=hk;exact⟨p,h1,h2.symm⟩
  obtain rfl:val=p.2:=by simp only[AD,hp,AK,Sj] at hv;exact hv.symm
  obtain⟨e,v⟩:=p;obtain⟨r,hrv,hmi⟩:=hw.mi (Ji hw.keys hp);simp only at hrv hmi;have vnk:=hrv.nk;refine PXL.split 4 (pu:=pt) pf ?_;refine Yw1 ?_;refine PXL.nil ?_;have hadd:=Xw (f:=f) (c:=c) (tot:=tot) hm' hbv hrv (hB e r hmi.1);refine Ei pt pf ?_;refine Yw1 ?_;refine En (tyL f c tot m' [] []) k2 tyR hadd (Hz ht hm' rfl rfl) Ya ?_;rintro rc gc' ⟨⟨z,rfl,hz⟩,m2,a0,a1,hm2,_,lga0,e0,e1⟩;have znk:=hz.nk;refine⟨[],k15,tyX f c tot m2 (a0++_) (a1++_),[],.v (.s z),rfl,Rl,H9 ht hm2 e0 e1 rfl rfl rfl rfl,Ae,hz.nk.rn,?_⟩;have hput:=RA hO' (e:=e) hz;refine Yw1 ?_;clear e0 e1;refine En [(k0,mpB out' [])] k1 [(k0,k10)] hput ⟨⟨_,_,rfl,rfl,hO'.blk⟩,Ae⟩ Ya ?_;rintro rc gc' ⟨rfl,out2,lp,e0,hO2⟩;refine⟨[],k15,[some (mpB out2 (lp++[]))],[],.unit,rfl,Rl,⟨⟨_,_,_,e0,hO2.blk,rfl,rfl,rfl,rfl⟩,Ae⟩,Ae,.nil,?_⟩;refine Yw1 ?_;have hjl:j<wm.length:=(Gi.1 hp).1;have hnd:(S++[j]).Nodup:=Da.2 ⟨hS1,Ac,λy hy z hz hyz=>by rw[Ar] at hz;subst hz;subst hyz;exact hj hy⟩;have hbd:∀y∈S++[j],y<wm.length:=λy hy=>by
   rcases Av.1 hy with hy|hy;·exact hS2 y hy
   ·rw[Ar] at hy;rw[hy];exact hjl
  refine⟨S++[j],_,_,_,[],?_,tr8 ht hO2 ⟨hm2,hK,Yg,rfl,rfl,rfl,rfl,rfl,rfl,rfl,rfl,rfl⟩ ⟨_,rfl⟩ ⟨_,rfl⟩ ⟨_,rfl⟩ ⟨_,rfl⟩ k15 r8i [(k14,cE)] IQ rfl Ab ⟨rfl,Ae⟩ Yf,(Ay _).symm,.cons ⟨rfl,rfl,rfl,rfl⟩ .nil,?_⟩;·have:=Hc wm.length (S++[j]) hnd hbd;simp only[La,Bl] at this ⊢;omega
  ·refine⟨hnd,hbd,m2,_,_,out2,hm2,Yg,hO2.eq λe' n=>⟨λh=>?_,λh=>?_⟩,rfl⟩
   ·rcases h with(h|⟨j',v',r',h1,h2,h3,h4⟩)|⟨rfl,rfl⟩;·exact .inl h
    ·exact .inr ⟨j',v',r',by simp[h1],h2,h3,h4⟩
    ·exact .inr ⟨j,v,r,Ac,hp,hrv,rfl⟩
   ·rcases h with h|⟨j',v',r',h1,h2,h3,h4⟩;·exact .inl (.inl h)
    ·rcases Av.1 h1 with h1|h1;·exact .inl (.inr ⟨j',v',r',h1,h2,h3,h4⟩)
     ·rw[Ar] at h1;subst h1;rw[hp] at h2;cases h2;rw[h3.uniq hrv] at h4;exact .inr ⟨rfl,h4⟩
end
end
section
theorem PX.XS {P:Program} {lo:Nat} {L:Fm} {g:A0} {I:List PIt} {a b:B7} {Q:PQT} {M:Fm->A0->List PIt->Prop} (m:PX P lo a L g I λx L g I=>match x with
  |.normal=>M L g I
  |.exit i=>Q (.exit i) L g I
  |.ret=>Q .ret L g I) (h:∀L g I,M L g I->PX P lo b L g I Q):PX P lo (.seq a b) L g I Q:=PX.seq (m.mono λx L g I hq=>by
 cases x with
 |normal=>exact h L g I hq
 |exit i=>exact hq
 |ret=>exact hq)
theorem PX.Ady {P:Program} {lo:Nat} {L L2:Fm} {g g2:A0} {I:List PIt} {cd:B7} {Q:PQT} {ρ:EC} (t:Trim lo ρ L g L2 g2) (h:PX P lo cd L2 g2 [] Q):PX P lo cd L g I Q:=PX.drop (I:=[]) (I2:=I) (PX.trim t .nil h)
attribute [local irreducible] PX PXL PXC
abbrev rA:Ew:=[(k9,k9),(k10,k10),(k11,k11)]
section
variable {P:Program} {T:EG} {f:Fo} {c:Nat} {tot:PV} {t:Tre} {i a:Nat} {nd:Nd}
theorem trZ {L1 L2:Fm} {m out:Et} {K:Kn} {l0 l1 l8:Es} {g:A0} {CO:Nat->Nat->Prop} (ht:A2 tot) (hO:B8 out CO) (h:RkH T f c tot t m K l0 l1 l8 g) (h9:∃l,g.get k9=some (obl [.int .i64 (i:Nat),.int .i64 (a:Nat)] l)) (h10:∃l,g.get k10=some (mpB out l))
  (h11:∃l,g.get k11=some (obl (nC nd) l)) (hf:Jz (rho 9 rA) L1 L2):Trim 9 (rho 9 rA) L1 g L2 (mkH (hA f c tot t i a nd m K l0 l1 l8 out) k12):=by
 obtain⟨_,h9⟩:=h9;obtain⟨_,h10⟩:=h10;obtain⟨_,h11⟩:=h11;exact Trim.of rA rfl Ab ⟨h.e8.symm,h.e7.symm,h.e6.symm,h.e5.symm,h.e4.symm,h.e3.symm,h.e2.symm,h.e1.symm,h.e0.symm,Ae⟩
  ⟨⟨_,_,rfl,h.e0,.same Yc⟩,⟨_,_,rfl,h.e1,.map h.hm⟩,⟨_,_,rfl,h.e2,.same Yc⟩,⟨_,_,rfl,h.e3,.same Yc⟩,⟨_,_,rfl,h.e4,.same Yc⟩,⟨_,_,rfl,h.e5,.same Yc⟩,⟨_,_,rfl,h.e6,.same Yc⟩,⟨_,_,rfl,h.e7,.same Yc⟩,⟨_,_,rfl,h.e8,.kk⟩,
   ⟨_,_,rfl,h9,.same Yc⟩,⟨_,_,rfl,h10,hO.blk⟩,⟨_,_,rfl,h11,.same Yc⟩,Ae⟩ hf
def MidA (T:EG) (f:Fo) (c:Nat) (tot:PV) (t:Tre) (i a:Nat) (nd:Nd) (az:List Al) (x:Al) (L2:Fm) (L:Fm) (g:A0) (_:List PIt):Prop:=∃m K l0 l1 l8 out,Fa T m/\KOk T t K/\Lg l0/\B8 out (NoC T t c a (az++[x]))/\Trim 9 (rho 9 r8) L g L2 (mkH (h8 f c tot t i a nd m K l0 l1 l8 out x) k13)
theorem Adz (pf:PF P Fn) (D:Tg) (hc:c<4) (ht:A2 tot) (hL:t.length<=1000) (hN:nd.az.length<=3) (hal:∀x∈nd.az,x.ks.length<=2/\x.d<16/\∀k∈x.ks,k<i/\Uy T f c tot k/\bZ P T f c tot t k)
  (hP:∀x∈nd.az,∀q,(B9 T (x.ks.take q)).length<4294967296) (hB:(C7 T c nd.az).length<4294967296) {m:Et} {K:Kn} {l0 l1 l8:Es} (hm:Fa T m) (hK:KOk T t K) (lg:Lg l0) {Q:PQT}
  (hQ:∀m' K' l0' l1' l8' out' bv y,Fa T m'->KOk T t K'->Lg l0'->B8 out' (NoC T t c a nd.az)->Q (.exit 0) ((k35,y)::jA nd.az bv nd.az.length) (mkH (hA f c tot t i a nd m' K' l0' l1' l8' out') k12) []) :
  PX P 9 cL0 (jA nd.az .A4 0) (mkH (hA f c tot t i a nd m K l0 l1 l8 []) k12) [] Q:=by
 have hll:(nd.az.map aV).length=nd.az.length:=Lm ..;refine PX.B6 (σ:=Nat×PV) (λq=>nd.az.length-q.1) (λq=>jA nd.az q.2 q.1)
  (λq g=>q.1<=nd.az.length/\A6 (C7 T c (nd.az.take q.1)).length q.2/\∃m' K' l0' l1' l8' out',Fa T m'/\KOk T t K'/\Lg l0'/\B8 out' (NoC T t c a (nd.az.take q.1))/\g=mkH (hA f c tot t i a nd m' K' l0' l1' l8' out') k12) (λ_=>[]) (0,.A4)
  (ρ:=rho 9 rA) (g0:=mkH (hA f c tot t i a nd m K l0 l1 l8 []) k12) ?_ .nil ⟨Zl,A6.nil,m,K,l0,l1,l8,[],hm,hK,lg,SX,rfl⟩ ?_
 ·exact trZ ht B8.nil ⟨hm,hK,lg,rfl,rfl,rfl,rfl,rfl,rfl,rfl,rfl,rfl⟩ ⟨_,rfl⟩ ⟨_,rfl⟩ ⟨_,rfl⟩ Yf
 rintro⟨j,bv⟩ g ⟨hj,hbv,m',K',l0',l1',l8',out',hm',hK',lg',hO',rfl⟩;replace hj:j<=nd.az.length:=hj;replace hbv:A6 (C7 T c (nd.az.take j)).length bv:=hbv;replace hO':B8 out' (NoC T t c a (nd.az.take j)):=hO';have bnk:=hbv.nk;refine Eh pt pf ?_;refine Yw1 ?_;refine Eh pt pf ?_;refine⟨λh=>?_,λh=>?_⟩
 ·have hj:j<nd.az.length:=by have:=B0 h;omega
  have hx:nd.az[j]?=some nd.az[j]:=Gg hj;have htk:nd.az.take (j+1)=nd.az.take j++[nd.az[j]]:=An hj;have hin:nd.az[j]∈nd.az:=AU hj;generalize nd.az[j]=x at hx htk hin;have hga:=Ii hx;obtain⟨x1,x2,x3⟩:=hal x hin;have hPx:=hP x hin;have dh:=D.holds x.d x2 c hc;have hle:=M1 T c nd.az (j+1);refine Yw1 ?_;refine PX.seq (PX.block ?_);refine Eh pt pf ?_;refine Yw1 ?_;refine PX.seq (Eh pt pf ?_);cases hb:x.d.testBit c
  ·rw[hb] at dh;refine Yw1 ?_;refine Ei pt pf ?_;refine Yw1 ?_;refine Ei pt pf ?_;refine Yw1 ?_;refine⟨(j+1,bv),_,_,[],[],Lq,trZ ht (eZ hb hO') ⟨hm',hK',lg',rfl,rfl,rfl,rfl,rfl,rfl,rfl,rfl,rfl⟩ ⟨_,rfl⟩ ⟨_,rfl⟩ ⟨_,rfl⟩ Yf,rfl,.nil,hj,?_,m',K',_,_,_,out',hm',hK',lg',?_,rfl⟩;·have:=Hi T c (nd.az.take j) x;rw[<-htk,hb] at this;simp only[Fj,Ag,Ay] at this;rw[this];exact hbv
   ·rw[htk];exact eZ hb hO'
  ·rw[hb] at dh;refine Yw1 ?_;refine Ei pt pf ?_;refine Yw1 ?_;refine PX.XS (M:=MidA T f c tot t i a nd (nd.az.take j) x (j8 nd.az bv j)) ?_ ?_
   ·rcases t with _|⟨q0,t0⟩;·skip;refine Eh pt pf ?_;have hat:¬a<([]:Tre).length:=Ac;refine Yw1 ?_;refine PX.cond rfl rfl (λh=>Ad) (λh=>?_);refine Ei pt pf ?_;refine Yw1 ?_;refine⟨m',K',l0',l1',l8',out',hm',hK',lg',S4 hb (by rw[AJ Aa];simp) hO',?_⟩;exact tr8 ht hO' ⟨hm',hK',lg',rfl,rfl,rfl,rfl,rfl,rfl,rfl,rfl,rfl⟩ ⟨_,rfl⟩ ⟨_,rfl⟩ ⟨_,rfl⟩ ⟨_,rfl⟩ k13 r8 [] SY rfl Ab Ae Yf
    ·skip;have htl:(tR (q0::t0)).length=(q0::t0).length:=by simp[tR]
     refine Eh pt pf ?_;by_cases hat:a<(q0::t0).length
     ·have hp:(q0::t0)[a]?=some (q0::t0)[a]:=Gg hat;generalize (q0::t0)[a]=p at hp;have hgt:(tR (q0::t0))[(a:Int).toNat]?=some [.int .i64 (p:Nat),.int .i64 (-1),.int .i64 0,.int .i64 0]:=by rw[tR,AD,Bj,hp];rfl
      refine Yw1 ?_;refine PX.cond rfl rfl (λh=>?_) (λh=>?_)
      ·obtain rfl:p=x.p:=by simp at h;omega
       clear h;have hwa:=FA (T:=T) (t:=q0::t0) (a:=a+1) Aa;have hBx:=λe r (hr:WaC T (q0::t0) (a+1) x.ks e r)=>Bu (Adx (c:=c) (az:=nd.az.take j) hb hr) (by rw[<-htk];exact AQ hle (Dm hB));refine Eh pt pf ?_;refine Yw1 ?_;obtain⟨xp,xks,xd⟩:=x;rcases xks with _|⟨y,ys⟩
       ·refine PX.seq (Eh pt pf ?_);refine Yw1 ?_;refine Ei pt pf ?_;refine Yy pt ?_;refine PX.QY (kx:=k13) (k:=k13) (ks:=mKs [(a+1,.A4)]) (vs:=mVs [(a+1,.A4)]) rfl rfl (by rw[bY];exact rfl) (fA _) (rU _) hwa.nks ?_;refine PX.seq (PX.region (PXL.split 1 (pu:=pt) pf ?_));refine Yw1 ?_;refine PXL.range rfl rfl (PXL.nil ?_);refine PX.block (PX.trim (tr8 (out:=out') ht hO' ⟨hm',hK',lg',rfl,rfl,rfl,rfl,rfl,rfl,rfl,rfl,rfl⟩ ⟨_,rfl⟩ ⟨_,rfl⟩ ⟨_,rfl⟩ ⟨_,rfl⟩ k15 r8i [(k14,cE)] IQ rfl Ab ⟨rfl,Ae⟩ ?_) (.cons ⟨rfl,rfl,rfl,rfl⟩ .nil)
         (Go.Pv.l8 (al:=nd.az) (bv:=bv) (j0:=j) (wm:=[(a+1,.A4)]) pf ht hO' hbv hwa hBx hm' hK' lg' ?_))
        ·repeat' first|refine⟨⟨_,rfl,rfl⟩,?_⟩|refine⟨⟨_,rfl,A2.rn (by assumption)⟩,?_⟩|exact trivial|fail
        ·intro m5 d0 d1 out5 S5 hm5 lgd hO5;refine Yw1 ?_;exact⟨m5,_,_,_,_,out5,hm5,hK',lgd,Pt hb hp hO5,tr8 ht hO5 ⟨hm5,hK',lgd,rfl,rfl,rfl,rfl,rfl,rfl,rfl,rfl,rfl⟩ ⟨_,rfl⟩ ⟨_,rfl⟩ ⟨_,rfl⟩ ⟨_,rfl⟩ k13 r8 [] SY rfl Ab Ae Yf⟩
       ·refine PX.seq (Eh pt pf ?_);refine Yw1 ?_;refine PX.block (PX.trim (trW (i:=i) (a:=a) (nd:=nd) (x:=⟨xp,y::ys,xd⟩) (out:=out') (wm:=[(a+1,.A4)]) ht hO' hwa ⟨hm',hK',lg',rfl,rfl,rfl,rfl,rfl,rfl,rfl,rfl,rfl⟩ ⟨_,rfl⟩ ⟨_,rfl⟩ ⟨_,rfl⟩ ⟨_,rfl⟩ k13 ⟨_,rfl⟩ (AbL _) rfl rfl ?_) .nil
         (l2 (al:=nd.az) (bv:=bv) (j0:=j) (ks:=y::ys) (b0:=a+1) pf ht hO' bnk (λk hk=>(x3 k hk).2) hPx x1 hwa hm' hK' lg' ?_))
        ·repeat' first|refine⟨⟨_,rfl,rfl⟩,?_⟩|refine⟨⟨_,rfl,A2.rn (by assumption)⟩,?_⟩|exact trivial|fail
        ·intro m6 K6 f0 f1 f8 wm6 y6 hm6 hK6 lgf hw6;refine Yw1 ?_;refine PX.QY (kx:=k13) (k:=k13) (ks:=mKs wm6) (vs:=mVs wm6) rfl rfl (by rw[bY];exact rfl) (fA _) (rU _) hw6.nks ?_;refine PX.seq (PX.region (PXL.split 1 (pu:=pt) pf ?_));refine Yw1 ?_;refine PXL.range rfl rfl (PXL.nil ?_);refine PX.block (PX.trim (tr8 (out:=out') ht hO' ⟨hm6,hK6,lgf,rfl,rfl,rfl,rfl,rfl,rfl,rfl,rfl,rfl⟩ ⟨_,rfl⟩ ⟨_,rfl⟩ ⟨_,rfl⟩ ⟨_,rfl⟩ k15 r8i [(k14,cE)] IQ rfl Ab ⟨rfl,Ae⟩ ?_) (.cons ⟨rfl,rfl,rfl,rfl⟩ .nil)
         (Go.Pv.l8 (al:=nd.az) (bv:=bv) (j0:=j) (wm:=wm6) pf ht hO' hbv hw6 hBx hm6 hK6 lgf ?_))
         ·repeat' first|refine⟨⟨_,rfl,rfl⟩,?_⟩|refine⟨⟨_,rfl,A2.rn (by assumption)⟩,?_⟩|exact trivial|fail
         ·intro m5 d0 d1 out5 S5 hm5 lgd hO5;refine Yw1 ?_;exact⟨m5,_,_,_,_,out5,hm5,hK6,lgd,Pt hb hp hO5,tr8 ht hO5 ⟨hm5,hK6,lgd,rfl,rfl,rfl,rfl,rfl,rfl,rfl,rfl,rfl⟩ ⟨_,rfl⟩ ⟨_,rfl⟩ ⟨_,rfl⟩ ⟨_,rfl⟩ k13 r8 [] SY rfl Ab Ae Yf⟩
      ·have hpx:p≠x.p:=λe=>by subst e;revert h;simp
       refine Ei pt pf ?_;refine Yw1 ?_;refine⟨m',K',l0',l1',l8',out',hm',hK',lg',S4 hb (by rw[hp];simp[hpx]) hO',?_⟩;exact tr8 ht hO' ⟨hm',hK',lg',rfl,rfl,rfl,rfl,rfl,rfl,rfl,rfl,rfl⟩ ⟨_,rfl⟩ ⟨_,rfl⟩ ⟨_,rfl⟩ ⟨_,rfl⟩ k13 r8 [] SY rfl Ab Ae Yf
     ·refine Yw1 ?_;refine PX.cond rfl rfl (λh=>Ad) (λh=>?_);refine Ei pt pf ?_;refine Yw1 ?_;refine⟨m',K',l0',l1',l8',out',hm',hK',lg',S4 hb (by rw[AJ Aa];simp) hO',?_⟩;exact tr8 ht hO' ⟨hm',hK',lg',rfl,rfl,rfl,rfl,rfl,rfl,rfl,rfl,rfl⟩ ⟨_,rfl⟩ ⟨_,rfl⟩ ⟨_,rfl⟩ ⟨_,rfl⟩ k13 r8 [] SY rfl Ab Ae Yf
   ·rintro L2 g2 I2 ⟨m2,K2,a0,a1,a8,out2,hm2,hK2,lga,hO2,tr⟩;refine PX.Ady tr ?_;have hs:=Hi T c (nd.az.take j) x;rw[<-htk,hb] at hs;have hl:=Bh List.length hs;simp only[Ak,La,Lm] at hl;have alt:=qO (T:=T) (f:=f) (c:=c) ht (i:=i) (a:=x) x1 (λk hk=>⟨(x3 k hk).1,(x3 k hk).2.1⟩) Aa hm2;refine Ei pt pf ?_;refine Yw1 ?_;refine En (tyL f c tot m2 [] []) k2 tyR alt (Hz ht hm2 rfl rfl) Ya ?_;rintro rc gc' ⟨⟨u,rfl,hu⟩,m3,b0,b1,hm3,_,lgb0,e0,e1⟩;have unk:=hu.nk;refine⟨[],k13,tyX f c tot m3 (b0++_) (b1++_),[],.v (.s u),rfl,Rl,H9 ht hm3 e0 e1 rfl rfl rfl rfl,Ae,hu.nk.rn,?_⟩;have hadd:=Xw (f:=f) (c:=c) (tot:=tot) hm3 hbv hu Aa;rw[<-hl] at hadd;refine Yw1 ?_;clear e0 e1;refine En (tyL f c tot m3 [] []) k2 tyR hadd (Hz ht hm3 rfl rfl) Ya ?_;rintro rc gc' ⟨⟨w,rfl,hw⟩,m4,c0,c1,hm4,_,lgc0,e0,e1⟩;have wnk:=hw.nk;refine⟨[],k13,tyX f c tot m4 (c0++_) (c1++_),[],.v (.s w),rfl,Rl,H9 ht hm4 e0 e1 rfl rfl rfl rfl,Ae,hw.nk.rn,?_⟩;refine Yw1 ?_;refine Ei pt pf ?_;repeat'(try conv=>whnf)<;>first|(refine⟨λh=>?_,λh=>?_⟩<;>first|exact I9 h|exact Jr h|exact absurd (B0 h) Aa|exact absurd (B5 h) Aa|replace h:=B0 h|replace h:=B5 h|skip)|refine⟨_,⟨Aa,by assumption⟩,?_⟩|refine⟨_,⟨Aa,rfl⟩,?_⟩|refine⟨_,_,_,(rfl:Fw _ _ _=_),by assumption,?_⟩|refine⟨_,_,_,Fi (by repeat' first|exact trivial|refine⟨?_,?_⟩|exact Fv _ _|(show Hl _;assumption)|fail),by assumption,?_⟩|refine⟨(by omega:_/\_),?_⟩|refine⟨(by omega:_≠_),?_⟩|refine⟨_,_,(rfl:opP _ _ _=_),?_⟩|exact⟨_,(rfl:G4 _ _ _=_)⟩|fail
    rw[<-htk] at hO2;exact⟨(j+1,w),_,_,[],[],Lq,trZ ht hO2 ⟨hm4,hK2,Yg,rfl,rfl,rfl,rfl,rfl,rfl,rfl,rfl,rfl⟩ ⟨_,rfl⟩ ⟨_,rfl⟩ ⟨_,rfl⟩ Yf,rfl,.nil,hj,hw,m4,K2,_,_,_,out2,hm4,hK2,Yg,hO2,rfl⟩
 ·have hfull:j=nd.az.length:=by have:=B5 h;omega
  subst hfull;rw[AB] at hO';repeat'(try conv=>whnf)<;>first|(refine⟨λh=>?_,λh=>?_⟩<;>first|exact I9 h|exact Jr h|exact absurd (B0 h) Aa|exact absurd (B5 h) Aa|replace h:=B0 h|replace h:=B5 h|skip)|refine⟨_,⟨Aa,by assumption⟩,?_⟩|refine⟨_,⟨Aa,rfl⟩,?_⟩|refine⟨_,_,_,(rfl:Fw _ _ _=_),by assumption,?_⟩|refine⟨_,_,_,Fi (by repeat' first|exact trivial|refine⟨?_,?_⟩|exact Fv _ _|(show Hl _;assumption)|fail),by assumption,?_⟩|refine⟨(by omega:_/\_),?_⟩|refine⟨(by omega:_≠_),?_⟩|refine⟨_,_,(rfl:opP _ _ _=_),?_⟩|exact⟨_,(rfl:G4 _ _ _=_)⟩|fail
  exact hQ m' K' l0' l1' l8' out' bv _ hm' hK' lg' hO'
end
end
section
attribute [local irreducible] PX PXL PXC
variable {P:Program} {f:Fo} {c:Nat} {tot:PV} {t:Tre}
theorem XT (pf:PF P Fn) (D:Tg) (hc:c<4) (ht:A2 tot) (hL:t.length<=1000) {T:EG} {i:Nat} {nd:Nd} (hi:i<f.ns.length) (hL4:f.ns.length<=4) (hn:(f.ns.map nV)[(i:Int).toNat]?=some (nC nd)) (hN:nd.az.length<=3)
  (hal:∀x∈nd.az,x.ks.length<=2/\x.d<16/\∀k∈x.ks,k<i/\Uy T f c tot k/\bZ P T f c tot t k) (hP:∀x∈nd.az,∀q,(B9 T (x.ks.take q)).length<4294967296) (hT:T i=C7 T c nd.az) (hB:(C7 T c nd.az).length<4294967296):SU P T f c tot t i:=by
 intro m K a hm hK;have hlen:(f.ns.map nV).length=f.ns.length:=Lm ..;refine PXC.QY ?_;refine PXC.of pf (vf:=C.f58) rfl ?_;refine Eh pt pf ?_;refine Yw1 ?_;refine Eh pt pf ?_;refine Yw1 ?_;refine Eh pt pf ?_;refine Yw1 ?_;refine Eh pt pf ?_;refine Yw1 ?_;refine PX.seq (Eh pt pf ?_);refine Yw1 ?_;refine PX.block (PX.trim (trZ (i:=i) (a:=a) (nd:=nd) (out:=[]) ht B8.nil ⟨hm,hK,Lg.nil,rfl,rfl,rfl,rfl,rfl,rfl,rfl,rfl,rfl⟩ ⟨_,rfl⟩ ⟨_,rfl⟩ ⟨_,rfl⟩ ?_) .nil
  (Adz pf D hc ht hL hN hal hP hB hm hK Lg.nil ?_))
 ·repeat' first|refine⟨⟨_,rfl,rfl⟩,?_⟩|refine⟨⟨_,rfl,A2.rn (by assumption)⟩,?_⟩|exact trivial|fail
 ·intro m' K' l0' l1' l8' out' bv y hm' hK' lg' hO';refine Yw1 ?_;refine Ei pt pf ?_;refine Yw1 ?_;refine⟨k10,mKs out',mVs out',_,_,_,rfl,(by rw[bY];exact rfl),fA _,rU _,hO'.nks,⟨out',rfl,?_⟩,m',K',l0',l1',l8',hm',hK',lg',rfl,rfl,rfl,rfl,rfl,rfl,rfl,rfl,rfl⟩;exact hO'.eq λe n=>by simp only[NoC,RdC,hT]
theorem SZ (pf:PF P Fn) (D:Tg) (hc:c<4) (ht:A2 tot) (hL:t.length<=1000) (w:WF0 f) (v:WF f):∀i,i<f.ns.length->bZ P (Tr2 f c) f c tot t i:=by
 intro i;induction i using Nat.strongRecOn with
 |ind i ih=>
  intro hi;have hn:f.ns[i]?=some f.ns[i]:=Gg hi;generalize f.ns[i]=n at hn;have hL4:=w.len;have hg:=I6 hn;rw[J2 (v.as0 i n hn)] at hg;have hU:=qK (c:=c) (Sv w) i n hn;have hlen:=Ll (c:=c) w i hi;have hpx:=Xx i Aa;have hB:(Tr2 f c i).length<4294967296:=Aa;have hki:∀x∈n.az,∀k∈x.ks,k<i:=λx hx k hk=>(w.al i n hn x hx).2.1 k hk;refine XQ pf ht (XT pf D hc ht hL hi hL4 hg (w.Kw i n hn) (λx hx=>⟨(w.al i n hn x hx).1,(w.al i n hn x hx).2.2.1,λk hk=>?_⟩) (λx hx q=>?_) hU (by rw[<-hU];exact hB));·have:=hki x hx k hk;exact⟨this,zJ ht (V9 D hc ht w v k Aa),ih k this Aa⟩
  ·have:=jJ (T:=Tr2 f c) (i:=i) Aa (ks:=x.ks.take q) (by have:=(w.al i n hn x hx).1;simp only[Ba];omega) λk hk=>⟨hki x hx k (Bq hk),Ll w k (by have:=hki x hx k (Bq hk);omega)⟩;omega
end
section
attribute [local irreducible] PX PXL PXC
theorem lk_p {g:A0} {m:Et} {k:Nat} :
  opP (.lookup (.one .int) (.s .A4) true) [.v (.s (mpV m)),.v (.s (.int .i64 (k:Nat)))] g=some (match fnd m k with
   |some v=>.tup [.s v,.s (.bool true)]
   |none=>.tup [.s .A4,.s (.bool false)],g):=by
 show Ik (.one .int) (.s .A4) true [.v (.s (.mp (mKs m) (mVs m))),.v (.s (.int .i64 (k:Nat)))] g=_
 unfold Ik
 simp only[lF,Rr,Io,bY,qL]
 cases fnd m k<;>rfl
abbrev jR (f:Fo) (bv:PV) (j:Nat):Fm:=[(k3,pA k3),(k4,pA k4),(k5,pA k5),(k8,pA k2),(k10,pA k6),sE k11 bv,(k36,.v (PA.lst 3 (f.rs.map rV))),(k37,.v (iA (f.rs.map rV).length)),(k38,.v (iA j))]
theorem trR {T:EG} {f:Fo} {c:Nat} {tot:PV} {t:Tre} {L1 L2:Fm} {m:Et} {K:Kn} {l0 l1 l8:Es} {g:A0} (ht:A2 tot) (h:RkH T f c tot t m K l0 l1 l8 g) (hf:Jz (rho 0 rkR) L1 L2):Trim 0 (rho 0 rkR) L1 g L2 (mkH (rkL f c tot t m K [] [] []) k9):=
 Trim.of rkR rfl Zl Ae (h.blk ht) hf
theorem IS (t:Tre):opE .lens [.v (.s (tV t))]=some (iA (tR t).length):=by cases t<;>rfl
section
variable {P:Program} {f:Fo} {c:Nat}
theorem TA (pf:PF P Fn) (D:Xt) (D2:Tg) (hc:c<4) (w:WF0 f) (v:WF f) (h0:∀r∈f.rs,r.2.testBit 0=false) {t:Tre} (hL:t.length<=1000) :
  PXC P 18 [foA f,cA c,.v (.s (tV t))] (mkH [] k0) λr _=>(∃v n,r=.tup [.s v,.s (.int .i64 ((0:Nat):Int))]/\A6 n v/\(B1 (Tr2 f c) c f.rs)[n]?=some t/\∀n',(B1 (Tr2 f c) c f.rs)[n']?=some t->n<=n')∨((∀n:Nat,(B1 (Tr2 f c) c f.rs)[n]?≠some t)/\r=.tup [.s .A4,.s (.int .i64 ((90:Nat):Int))]):=by
 have cs:=Rb D D2 w v h0;have tal:=Oy D2 hc w v;have hrlen:(f.rs.map rV).length=f.rs.length:=Lm ..;have htl:(tR t).length=t.length:=by simp[tR]
 rw[E4 w.n0 w.r0] at cs tal ⊢;refine PXC.of pf (vf:=C.f18) rfl ?_;refine Eh pt pf ?_;refine Yw1 ?_;refine Eh pt pf ?_;refine Yw1 ?_;refine Eh pt pf ?_;refine Yw1 ?_;refine Eo tal Ya ?_;rintro rc gc' ⟨rfl,m,l0,l1,tot,hm,ht,e1,e2⟩;have tnk:=ht.nk;refine⟨[(k3,k1),(k4,k2)],k5,[],[obl (tbK k3 k4 f c tot) [],mpB m []],.tup [.s (.ptr k3 0),.s (.int .i64 ((0:Nat):Int))],rfl,(show 3<=5 by decide),Ae,⟨⟨_,e1,(Er Ys)⟩,⟨_,e2,.map hm⟩,Ae⟩,.cons rfl (.cons rfl .nil),?_⟩;clear e1 e2;refine Yw1 ?_;refine Eh pt pf ?_;refine Yw1 ?_;refine Eh pt pf ?_;refine Yw1 ?_;refine Eh pt pf ?_;refine Yw1 ?_;refine Eh pt pf ?_;refine Yw1 ?_;refine PX.seq (Eh pt pf ?_);refine Yw1 ?_;have hmax:=Z5 (c:=c) w;have hL4:=w.len;have rL:=w.Nl;refine PX.block (PX.B6 (σ:=Nat×PV) (λq=>f.rs.length-q.1) (λq=>jR f q.2 q.1)
  (λq g=>q.1<=f.rs.length/\A6 (B1 (Tr2 f c) c (f.rs.take q.1)).length q.2/\(∀n:Nat,(B1 (Tr2 f c) c (f.rs.take q.1))[n]?≠some t)/\∃m K,Fa (Tr2 f c) m/\KOk (Tr2 f c) t K/\g=mkH (rkL f c tot t m K [] [] []) k9) (λ_=>[]) (0,.A4)
  (ρ:=rho 0 [(k0,k3),(k1,k4),(k2,k5),(k3,k0),(k4,k1),(k5,k2),(k6,k8),(k7,k7),(k8,k6)]) (g0:=mkH (rkL f c tot t m [] [] [] []) k9) ?_ .nil ⟨Zl,A6.nil,by simp[B1],m,[],hm,λ_ h=>absurd h Ah,rfl⟩ ?_)
 ·exact Trim.of _ rfl Zl Ae ⟨⟨_,_,rfl,rfl,(Er Ys)⟩,⟨_,_,rfl,rfl,.map hm⟩,⟨_,_,rfl,rfl,(Er Ys)⟩,⟨_,_,rfl,rfl,.same Yc⟩,⟨_,_,rfl,rfl,.same Yc⟩,⟨_,_,rfl,rfl,.same Yc⟩,
   ⟨_,_,rfl,rfl,(Er Ys)⟩,⟨_,_,rfl,rfl,(Er Ys)⟩,⟨_,_,rfl,rfl,.kk (K:=[])⟩,Ae⟩ Yf
 rintro⟨j,bv⟩ g ⟨hj,hbv,hno,m',K',hm',hK',rfl⟩;replace hj:j<=f.rs.length:=hj;replace hbv:A6 (B1 (Tr2 f c) c (f.rs.take j)).length bv:=hbv;replace hno:∀n:Nat,(B1 (Tr2 f c) c (f.rs.take j))[n]?≠some t:=hno;have bnk:=hbv.nk;refine Eh pt pf ?_;refine Yw1 ?_;refine Eh pt pf ?_;refine⟨λh=>?_,λh=>?_⟩
 ·have hj:j<f.rs.length:=by have:=B0 h;omega
  have hr:f.rs[j]?=some f.rs[j]:=Gg hj;have htk:f.rs.take (j+1)=f.rs.take j++[f.rs[j]]:=An hj;generalize f.rs[j]=r at hr htk;have hgr:=Je hr;obtain⟨r1,r2,r3⟩:=w.rt j r hr;rw[r1] at hgr;have dh:=D2.holds r.2 r2 c hc;have hs:=Me (Tr2 f c) c (f.rs.take j) r;rw[<-htk,r1] at hs;have hle:=Sy (Tr2 f c) c f.rs (j+1);refine Yw1 ?_;refine PX.seq (PX.block ?_);refine Eh pt pf ?_;refine Yw1 ?_;refine Eh pt pf ?_;cases hb:r.2.testBit c;·rw[hb] at dh hs;simp only[Fj,Ag,Ay] at hs;refine Yw1 ?_;refine Ei pt pf ?_;refine Yw1 ?_;exact⟨(j+1,bv),_,_,[],[],Lq,trR tnk ⟨hm',hK',Lg.nil,rfl,rfl,rfl,rfl,rfl,rfl,rfl,rfl,rfl⟩ Yf,rfl,.nil,hj,(by rw[hs];exact hbv),(by rw[hs];exact hno),m',K',hm',hK',rfl⟩
  ·rw[hb] at dh hs;simp only[Ak] at hs;have hjn:j<f.ns.length:=Aa;have hget:=SZ pf D2 hc tnk hL w v j hjn m' K' 0 hm' hK';refine Yw1 ?_;refine PX.seq (PX.seq ?_);refine PX.ZT 4 (pu:=pt) pf rfl rfl rfl rfl ?_;refine Yw1 ?_;refine⟨rfl,_,_,_,_,rfl,rfl,PAt tnk ⟨hm',hK',Lg.nil,rfl,rfl,rfl,rfl,rfl,rfl,rfl,rfl,rfl⟩ rfl Ya hget,LW (pu:=pt) (F:=Fn) rfl Ab rfl rfl rfl ?_ ?_,?_⟩;·cases t<;>exact Ae
   ·rintro r' g' ⟨ms,m2,K2,a0,a1,a8,rfl,hms,hm2,hK2,lga,rfl⟩;exact⟨_,rfl,rfl⟩
   ·rintro r' g' ⟨ms,m2,K2,a0,a1,a8,rfl,hms,hm2,hK2,lga,rfl⟩;refine Yw1 ?_;conv=>whnf
    rw[show opE VOp.lens (List.map FE.pa [FE.v (PA.v (PC.s (tV t)))])=some (iA (tR t).length) from IS t];refine Yw1 ?_;refine⟨_,_,lk_p,?_⟩;have hsb:sbt t 0 (tR t).length=t:=by rw[htl];simp[sbt]
    have hl:=Bh List.length hs;rw[La] at hl;cases hf:fnd ms (tR t).length with
    |some u=>
     obtain⟨n1,hu,hmi⟩:=hms.mi hf;have hn1:n1<(Tr2 f c j).length:=(Gi.1 hmi.1.2.2).1;have hadd:=Xw (f:=f) (c:=c) (tot:=tot) hm2 hbv hu Aa;have unk:=hu.nk;have hpre:B1 (Tr2 f c) c f.rs=B1 (Tr2 f c) c (f.rs.take (j+1))++B1 (Tr2 f c) c (f.rs.drop (j+1)):=by
      conv=>lhs;rw[<-Be (j+1) f.rs]
      rw[B1,Cf];rfl
     refine Yw1 ?_;refine⟨rfl,?_⟩;refine Eh pt pf ?_;refine Yw1 ?_;refine Ei pt pf ?_;refine Yw1 ?_;refine En (tyL f c tot m2 [] []) k2 tyR hadd (Hz tnk hm2 rfl rfl) Ya ?_;rintro rc gc' ⟨⟨z,rfl,hz⟩,m3,b0,b1,hm3,_,lgb0,e0,e1⟩;have znk:=hz.nk;refine⟨[],k10,tyX f c tot m3 (b0++_) (b1++_),[],.v (.s z),rfl,Rl,H9 tnk hm3 e0 e1 rfl rfl rfl rfl,Ae,hz.nk.rn,?_⟩;refine Yw1 ?_;refine .inl ⟨z,_,rfl,hz,?_,?_⟩;·have:=hmi.1.2.2;rw[hsb] at this;rw[hpre,hs,AN,Am Aa,Ds,Ai Aa];exact this
     ·intro n' hn';rw[hpre,hs,AN] at hn';by_cases h1:n'<(B1 (Tr2 f c) c (f.rs.take j)).length;·rw[Ai h1] at hn';exact absurd hn' (hno n')
      ·rw[Am Aa] at hn';by_cases h2:n'-(B1 (Tr2 f c) c (f.rs.take j)).length<(Tr2 f c j).length;·rw[Ai h2] at hn';have:=hmi.2 (n'-(B1 (Tr2 f c) c (f.rs.take j)).length) ⟨Zl,by rw[htl];exact Rl,by rw[hsb];exact hn'⟩;omega
       ·omega
    |none=>
     have hnot:∀n:Nat,(Tr2 f c j)[n]?≠some t:=λn hn=>hms.no _ hf n ⟨Zl,by rw[htl];exact Rl,by rw[hsb];exact hn⟩;have hG:=V9 (tot:=tot) D2 hc tnk w v j hjn m2 hm2;refine Yw1 ?_;refine⟨rfl,?_⟩;refine Eh pt pf ?_;refine Yw1 ?_;refine Ei pt pf ?_;refine Yw1 ?_;refine Ei pt pf ?_;refine Yw1 ?_;refine En (tyL f c tot m2 [] []) k2 tyR hG (Hz tnk hm2 rfl rfl) Ya ?_;rintro rc gc' ⟨⟨u,rfl,hu⟩,m3,b0,b1,hm3,_,lgb0,e0,e1⟩;have unk:=hu.nk;refine⟨[],k10,tyX f c tot m3 (b0++_) (b1++_),[],.v (.s u),rfl,Rl,H9 tnk hm3 e0 e1 rfl rfl rfl rfl,Ae,hu.nk.rn,?_⟩;have hadd:=Xw (f:=f) (c:=c) (tot:=tot) hm3 hbv hu Aa;rw[<-hl] at hadd;refine Yw1 ?_;clear e0 e1;refine En (tyL f c tot m3 [] []) k2 tyR hadd (Hz tnk hm3 rfl rfl) Ya ?_;rintro rc gc' ⟨⟨z,rfl,hz⟩,m4,c0,c1,hm4,_,lgc0,e0,e1⟩;have znk:=hz.nk;refine⟨[],k10,tyX f c tot m4 (c0++_) (c1++_),[],.v (.s z),rfl,Rl,H9 tnk hm4 e0 e1 rfl rfl rfl rfl,Ae,hz.nk.rn,?_⟩;refine Yw1 ?_;refine Ei pt pf ?_;repeat'(try conv=>whnf)<;>first|(refine⟨λh=>?_,λh=>?_⟩<;>first|exact I9 h|exact Jr h|exact absurd (B0 h) Aa|exact absurd (B5 h) Aa|replace h:=B0 h|replace h:=B5 h|skip)|refine⟨_,⟨Aa,by assumption⟩,?_⟩|refine⟨_,⟨Aa,rfl⟩,?_⟩|refine⟨_,_,_,(rfl:Fw _ _ _=_),by assumption,?_⟩|refine⟨_,_,_,Fi (by repeat' first|exact trivial|refine⟨?_,?_⟩|exact Fv _ _|(show Hl _;assumption)|fail),by assumption,?_⟩|refine⟨(by omega:_/\_),?_⟩|refine⟨(by omega:_≠_),?_⟩|refine⟨_,_,(rfl:opP _ _ _=_),?_⟩|exact⟨_,(rfl:G4 _ _ _=_)⟩|fail
     refine⟨(j+1,z),_,_,[],[],Lq,trR tnk ⟨hm4,hK2,Yg,rfl,rfl,rfl,rfl,rfl,rfl,rfl,rfl,rfl⟩ Yf,rfl,.nil,hj,hz,?_,m4,K2,hm4,hK2,rfl⟩;intro n hn;rw[hs] at hn;by_cases h1:n<(B1 (Tr2 f c) c (f.rs.take j)).length;·rw[Ai h1] at hn;exact hno n hn
     ·rw[Am Aa] at hn;exact hnot _ hn
 ·have hfull:j=f.rs.length:=by have:=B5 h;omega
  rw[hfull,AB] at hno;repeat'(try conv=>whnf)<;>first|(refine⟨λh=>?_,λh=>?_⟩<;>first|exact I9 h|exact Jr h|exact absurd (B0 h) Aa|exact absurd (B5 h) Aa|replace h:=B0 h|replace h:=B5 h|skip)|refine⟨_,⟨Aa,by assumption⟩,?_⟩|refine⟨_,⟨Aa,rfl⟩,?_⟩|refine⟨_,_,_,(rfl:Fw _ _ _=_),by assumption,?_⟩|refine⟨_,_,_,Fi (by repeat' first|exact trivial|refine⟨?_,?_⟩|exact Fv _ _|(show Hl _;assumption)|fail),by assumption,?_⟩|refine⟨(by omega:_/\_),?_⟩|refine⟨(by omega:_≠_),?_⟩|refine⟨_,_,(rfl:opP _ _ _=_),?_⟩|exact⟨_,(rfl:G4 _ _ _=_)⟩|fail
  refine Ei pt pf ?_;repeat'(try conv=>whnf)<;>first|(refine⟨λh=>?_,λh=>?_⟩<;>first|exact I9 h|exact Jr h|exact absurd (B0 h) Aa|exact absurd (B5 h) Aa|replace h:=B0 h|replace h:=B5 h|skip)|refine⟨_,⟨Aa,by assumption⟩,?_⟩|refine⟨_,⟨Aa,rfl⟩,?_⟩|refine⟨_,_,_,(rfl:Fw _ _ _=_),by assumption,?_⟩|refine⟨_,_,_,Fi (by repeat' first|exact trivial|refine⟨?_,?_⟩|exact Fv _ _|(show Hl _;assumption)|fail),by assumption,?_⟩|refine⟨(by omega:_/\_),?_⟩|refine⟨(by omega:_≠_),?_⟩|refine⟨_,_,(rfl:opP _ _ _=_),?_⟩|exact⟨_,(rfl:G4 _ _ _=_)⟩|fail
  exact .inr ⟨hno,rfl⟩
end
end
def bfK:EF->EF->Bool
 |x::l,y::m=>if x=y then bfK l m else decide (x<y)
 |l,m=>decide (l.length<m.length)
def bfB (a b:Al):Bool:=if a.p=b.p then bfK a.ks b.ks else decide (a.p<b.p)
theorem Wh (a b:Al) (ha:a.ks.length<=2) (hb:b.ks.length<=2):A3 Fn 86 [.v (.agg (aC a)),.v (.agg (aC b))] (bA (bfB a b)):=by
 obtain⟨p,ks,d⟩:=a;obtain⟨q,ls,e⟩:=b;refine Ej pv C.f86 rfl ?_;refine⟨λh=>?_,λh=>?_⟩
 ·have h:¬p=q:=λe=>by rw[e] at h;simp at h
  refine mS ?_;simp[bfB,h]
 have h:p=q:=by
  have:(p:Int)=q:=by simpa using h
  omega
 subst h;rcases ks with _|⟨x,_|⟨y,_|⟨z,ks⟩⟩⟩<;>rcases ls with _|⟨u,_|⟨v,_|⟨z',ls⟩⟩⟩<;>first|(simp at ha;done)|(simp at hb;done)|skip
 all_goals
  refine Eg pv ?_
  repeat'(try conv=>whnf)<;>first|(refine⟨λh=>?_,λh=>?_⟩<;>first|exact I9 h|exact Jr h|exact absurd (B0 h) Aa|exact absurd (B5 h) Aa|replace h:=B0 h|replace h:=B5 h|skip)|refine⟨_,⟨Aa,by assumption⟩,?_⟩|refine⟨_,⟨Aa,rfl⟩,?_⟩|refine⟨_,_,_,(rfl:Fw _ _ _=_),by assumption,?_⟩|refine⟨_,_,_,Fi (by repeat' first|exact trivial|refine⟨?_,?_⟩|exact Fv _ _|(show Hl _;assumption)|fail),by assumption,?_⟩|refine⟨(by omega:_/\_),?_⟩|refine⟨(by omega:_≠_),?_⟩|refine⟨_,_,(rfl:opP _ _ _=_),?_⟩|exact⟨_,(rfl:G4 _ _ _=_)⟩|fail
 all_goals try
  refine Eg pv ?_
  repeat'(try conv=>whnf)<;>first|(refine⟨λh=>?_,λh=>?_⟩<;>first|exact I9 h|exact Jr h|exact absurd (B0 h) Aa|exact absurd (B5 h) Aa|replace h:=B0 h|replace h:=B5 h|skip)|refine⟨_,⟨Aa,by assumption⟩,?_⟩|refine⟨_,⟨Aa,rfl⟩,?_⟩|refine⟨_,_,_,(rfl:Fw _ _ _=_),by assumption,?_⟩|refine⟨_,_,_,Fi (by repeat' first|exact trivial|refine⟨?_,?_⟩|exact Fv _ _|(show Hl _;assumption)|fail),by assumption,?_⟩|refine⟨(by omega:_/\_),?_⟩|refine⟨(by omega:_≠_),?_⟩|refine⟨_,_,(rfl:opP _ _ _=_),?_⟩|exact⟨_,(rfl:G4 _ _ _=_)⟩|fail
 all_goals try
  refine Yy pv ?_
 all_goals refine mS ?_
 all_goals try simp at *
 all_goals simp[bfB,bfK, *]
 all_goals first
  |omega
  |(intro _;exfalso;omega)
  |(split<;>first|omega|(exfalso;omega)|(have e:y≠v:=λe=>by(subst e;omega));simp[e])
def wT (x:Al):List Al->List Al
 |y::l=>if bfB x y then y::wT x l else x::y::l
 |[]=>[x]
def Fy (l:List Al):List Al:=(l.foldl (λacc x=>wT x acc) []).reverse
abbrev eb (c:Ey):B4:=⟨.cells c,false,false,[],[]⟩
theorem wU (a:Al):XC Fn 26 [.v (.s (.slice k0 0 1 4 none))] (mkH [(k0,ob (C9 aV [a]))] k1) λr g'=>r=.unit/\g'.get k0=some (ob (C9 aV [a])):=by refine Ek pv C.f26 rfl ?_;refine Yy pv ?_;refine Yy pv ?_;refine Yy pv ?_;exact⟨rfl,rfl⟩
theorem wV (a b:Al) (ha:a.ks.length<=2) (hb:b.ks.length<=2):XC Fn 26 [.v (.s (.slice k0 0 2 4 none))] (mkH [(k0,⟨.cells (C9 aV [a,b]),true,false,[k1],[]⟩),(k1,eb (C9 aV [a]))] k2)
  λr g'=>r=.unit/\((g'.get k0=some ⟨.cells (C9 aV (Fy [a,b])),true,false,[k1],[]⟩/\g'.get k1=some (eb (C9 aV [a])))∨∃lg,g'.get k0=some ⟨.cells (C9 aV (Fy [a,b])),true,false,[],lg⟩/\g'.get k1=none):=by
 have bf:=Wh b a hb ha;have e:Fy [a,b]=if bfB b a then[b,a] else[a,b]:=by simp only[Fy,List.foldl,wT];split<;>rfl
 refine Ek pv C.f26 rfl ?_;refine Yy pv ?_;refine Yy pv ?_;refine Yy pv ?_;refine Eg pv ?_;cases hbf:bfB b a with
 |true=>rw[hbf] at bf e;rw[e];refine Yz pv ?_;refine Yy pv ?_;exact⟨rfl,.inr ⟨_,rfl,rfl⟩⟩
 |false=>rw[hbf] at bf e;rw[e];refine Yz pv ?_;exact⟨rfl,.inl ⟨rfl,rfl⟩⟩
end Go.Pv
end
