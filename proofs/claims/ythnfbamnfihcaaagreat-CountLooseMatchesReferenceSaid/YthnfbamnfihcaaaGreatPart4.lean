/- A part of the proof. No condition. -/
import Derived.Test.YthnfbamnfihcaaaGreatPart1
import Derived.Test.YthnfbamnfihcaaaGreatPart3
import Derived.Test.YthnfbamnfihcaaaGreatPart2
import Derived.Test.YthnfbamnfihcaaaGreatSets
import Derived.Test.YthnfbamnfihcaaaGreatCalls
import Derived.RowKit3
import Derived.OpenShut
import Derived.Test.YthnfbamnfihcaaaGreatRows
import Derived.Shelf.Spec.SlicesInsertGrow
import Derived.Test.YthnfbamnfihcaaaGreatFun
set_option linter.unusedVariables false
set_option linter.unusedSimpArgs false
set_option linter.unusedSectionVars false
section
noncomputable section
namespace Go.Pv
open Go.Vm Go.Vm.C
open Go.Vm.Key (kn)
set_option maxRecDepth 40000
set_option maxHeartbeats 0
theorem J4 (l:List Al):∀v∈C9 aV l,A2 v:=λv h=>by
 simp only[C9,AY,aV,Af,Ah,AP] at h;obtain⟨a,_,rfl|rfl|rfl|rfl⟩:=h;·exact Ae
 ·exact E9 _ _
 ·exact E9 _ _
 ·exact Ae
theorem wW (a b c:Al) (ha:a.ks.length<=2) (hb:b.ks.length<=2) (hc:c.ks.length<=2):XC Fn 26 [.v (.s (.slice k0 0 3 4 none))] (mkH [(k0,⟨.cells (C9 aV [a,b,c]),true,false,[k1,k2],[]⟩),(k1,eb (C9 aV [a,b])),(k2,eb (C9 aV [a]))] k3)
  λr g'=>r=.unit/\((g'.get k0=some ⟨.cells (C9 aV (Fy [a,b,c])),true,false,[k1,k2],[]⟩/\g'.get k1=some (eb (C9 aV [a,b]))/\g'.get k2=some (eb (C9 aV [a])))∨∃lg,g'.get k0=some ⟨.cells (C9 aV (Fy [a,b,c])),true,false,[],lg⟩/\g'.get k1=none/\g'.get k2=none):=by
 have b1:=Wh b a hb ha;have b2:=Wh c a hc ha;have b3:=Wh c b hc hb;have e:Fy [a,b,c]=(if bfB b a then(if bfB c a then(if bfB c b then[c,b,a] else[b,c,a]) else[b,a,c]) else(if bfB c b then(if bfB c a then[c,a,b] else[a,c,b]) else[a,b,c])):=by cases h1:bfB b a<;>cases h2:bfB c a<;>cases h3:bfB c b<;>simp[Fy,wT,h1,h2,h3]
 have tA:∀{l:List Al} {L1 L2:Fm} {g1:A0},g1.get k0=some ⟨.cells (C9 aV l),true,false,[k1,k2],[]⟩->g1.get k1=some (eb (C9 aV [a,b]))->g1.get k2=some (eb (C9 aV [a]))->Jz (rho 3 []) L1 L2->Trim 3 (rho 3 []) L1 g1 L2 (mkH [(k0,⟨.cells (C9 aV l),true,false,[k1,k2],[]⟩),(k1,eb (C9 aV [a,b])),(k2,eb (C9 aV [a]))] k3):=λh0 h1 h2 h3=>
  Trim.of [] rfl Rl ⟨h2.symm,h1.symm,h0.symm,Ae⟩ ⟨⟨_,_,rfl,h0,⟨A2.cells (J4 _),λ_=>⟨rfl,.inl (.cons rfl (.cons rfl .nil))⟩,rfl⟩⟩,⟨_,_,rfl,h1,⟨A2.cells (J4 _),Ep,rfl⟩⟩,⟨_,_,rfl,h2,⟨A2.cells (J4 _),Ep,rfl⟩⟩,Ae⟩ h3
 have tD:∀{l:List Al} {L1 L2:Fm} {g1:A0} {lg:Es},g1.get k0=some ⟨.cells (C9 aV l),true,false,[],lg⟩->g1.get k1=none->g1.get k2=none->Jz (rho 3 []) L1 L2->Trim 3 (rho 3 []) L1 g1 L2 (mkH [(k0,⟨.cells (C9 aV l),true,false,[],lg⟩)] k3):=λh0 h1 h2 h3=>
  Trim.of [] rfl Rl ⟨h2.symm,h1.symm,h0.symm,Ae⟩ ⟨⟨_,_,rfl,h0,⟨A2.cells (J4 _),λ_=>⟨rfl,.inl .nil⟩,rfl⟩⟩,Ae⟩ h3
 refine Ek pv C.f26 rfl ?_;refine XW.trim (tA (l:=[a,b,c]) (L2:=[sE k0 (.slice k0 0 3 4 none),(k2,.v (iA 0))]) rfl rfl rfl Yf) (Eg pv ?_);refine Yw1 ?_;refine XW.trim (tA (l:=[a,b,c]) (L2:=[sE k0 (.slice k0 0 3 4 none),(k2,.v (iA 0)),(k3,.v (iA 0))]) rfl rfl rfl Yf) (Eg pv ?_);refine Yw1 ?_;refine XW.trim (tA (l:=[a,b,c]) (L2:=[sE k0 (.slice k0 0 3 4 none),(k2,.v (iA 1))]) rfl rfl rfl Yf) (Eg pv ?_);refine Yw1 ?_;refine XW.trim (tA (l:=[a,b,c]) (L2:=[sE k0 (.slice k0 0 3 4 none),(k2,.v (iA 1)),(k3,.v (iA 1))]) rfl rfl rfl Yf) (Eg pv ?_);cases h1:bfB b a with
 |true=>
  rw[h1] at b1 e;refine Yw1 ?_;refine XW.trim (tD (l:=[b,a,c]) (L2:=[sE k0 (.slice k0 0 3 4 none),(k2,.v (iA 1)),(k3,.v (iA 0))]) rfl rfl rfl Yf) (Eg pv ?_);refine Yw1 ?_;refine XW.trim (tD (l:=[b,a,c]) (L2:=[sE k0 (.slice k0 0 3 4 none),(k2,.v (iA 2))]) rfl rfl rfl Yf) (Eg pv ?_);refine Yw1 ?_;refine XW.trim (tD (l:=[b,a,c]) (L2:=[sE k0 (.slice k0 0 3 4 none),(k2,.v (iA 2)),(k3,.v (iA 2))]) rfl rfl rfl Yf) (Eg pv ?_);cases h2:bfB c a with
  |true=>
   rw[h2] at b2 e;refine Yw1 ?_;refine XW.trim (tD (l:=[b,c,a]) (L2:=[sE k0 (.slice k0 0 3 4 none),(k2,.v (iA 2)),(k3,.v (iA 1))]) rfl rfl rfl Yf) (Eg pv ?_);cases h3:bfB c b with
   |true=>rw[h3] at b3 e;refine Yw1 ?_;refine XW.trim (tD (l:=[c,b,a]) (L2:=[sE k0 (.slice k0 0 3 4 none),(k2,.v (iA 2)),(k3,.v (iA 0))]) rfl rfl rfl Yf) (Eg pv ?_);refine Yw1 ?_;refine XW.trim (tD (l:=[c,b,a]) (L2:=[sE k0 (.slice k0 0 3 4 none),(k2,.v (iA 3))]) rfl rfl rfl Yf) (Eg pv ?_);refine Yw1 ?_;rw[e];exact⟨rfl,.inr ⟨_,rfl,rfl,rfl⟩⟩
   |false=>rw[h3] at b3 e;refine Yw1 ?_;refine XW.trim (tD (l:=[b,c,a]) (L2:=[sE k0 (.slice k0 0 3 4 none),(k2,.v (iA 3))]) rfl rfl rfl Yf) (Eg pv ?_);refine Yw1 ?_;rw[e];exact⟨rfl,.inr ⟨_,rfl,rfl,rfl⟩⟩
  |false=>rw[h2] at b2 e;refine Yw1 ?_;refine XW.trim (tD (l:=[b,a,c]) (L2:=[sE k0 (.slice k0 0 3 4 none),(k2,.v (iA 3))]) rfl rfl rfl Yf) (Eg pv ?_);refine Yw1 ?_;rw[e];exact⟨rfl,.inr ⟨_,rfl,rfl,rfl⟩⟩
 |false=>
  rw[h1] at b1 e;refine Yw1 ?_;refine XW.trim (tA (l:=[a,b,c]) (L2:=[sE k0 (.slice k0 0 3 4 none),(k2,.v (iA 2))]) rfl rfl rfl Yf) (Eg pv ?_);refine Yw1 ?_;refine XW.trim (tA (l:=[a,b,c]) (L2:=[sE k0 (.slice k0 0 3 4 none),(k2,.v (iA 2)),(k3,.v (iA 2))]) rfl rfl rfl Yf) (Eg pv ?_);cases h3:bfB c b with
  |true=>
   rw[h3] at b3 e;refine Yw1 ?_;refine XW.trim (tD (l:=[a,c,b]) (L2:=[sE k0 (.slice k0 0 3 4 none),(k2,.v (iA 2)),(k3,.v (iA 1))]) rfl rfl rfl Yf) (Eg pv ?_);cases h2:bfB c a with
   |true=>rw[h2] at b2 e;refine Yw1 ?_;refine XW.trim (tD (l:=[c,a,b]) (L2:=[sE k0 (.slice k0 0 3 4 none),(k2,.v (iA 2)),(k3,.v (iA 0))]) rfl rfl rfl Yf) (Eg pv ?_);refine Yw1 ?_;refine XW.trim (tD (l:=[c,a,b]) (L2:=[sE k0 (.slice k0 0 3 4 none),(k2,.v (iA 3))]) rfl rfl rfl Yf) (Eg pv ?_);refine Yw1 ?_;rw[e];exact⟨rfl,.inr ⟨_,rfl,rfl,rfl⟩⟩
   |false=>rw[h2] at b2 e;refine Yw1 ?_;refine XW.trim (tD (l:=[a,c,b]) (L2:=[sE k0 (.slice k0 0 3 4 none),(k2,.v (iA 3))]) rfl rfl rfl Yf) (Eg pv ?_);refine Yw1 ?_;rw[e];exact⟨rfl,.inr ⟨_,rfl,rfl,rfl⟩⟩
  |false=>rw[h3] at b3 e;refine Yw1 ?_;refine XW.trim (tA (l:=[a,b,c]) (L2:=[sE k0 (.slice k0 0 3 4 none),(k2,.v (iA 3))]) rfl rfl rfl Yf) (Eg pv ?_);refine Yw1 ?_;rw[e];exact⟨rfl,.inl ⟨rfl,rfl,rfl⟩⟩
def Vi (i b:Nat):Option Al:=match b / 3 % 16 with
 |0=>none
 |d+1=>some ⟨b % 3,match i with
  |0=>[]
  |i+1=>(List.range (b / 8 % 3)).map λm=>(b / 16+m) % (i+1),d+1⟩
def cF (l:EF) (i:Nat):List Al:=((List.range 3).filterMap λk=>(l[3*i+k]?).bind (Vi i))
def Mf (l:EF) (i:Nat):Nd:=⟨i / 2,i % 2,Fy (cF l i)⟩
def Gp (l:EF):Nat:=2+l.length / 6 % 4
def loose (l:EF):Fo:=⟨(List.range (Gp l)).map (Mf l),(List.range (Gp l)).map λi=>(i,(170+40*i) % 256 % 16)⟩
theorem nQ (x:Al):∀l:List Al,(wT x l).Perm (x::l)
 |[]=>.refl _
 |y::l=>by
  simp only[wT];split;·exact((nQ x l).cons y).trans (.swap x y l)
  ·exact .refl _
theorem Yi (l:List Al):(Fy l).Perm l:=by
 have:∀(l acc:List Al),(l.foldl (λacc x=>wT x acc) acc).Perm (l.reverse++acc):=by
  intro l;induction l with
  |nil=>intro acc;exact .refl _
  |cons x l ih=>intro acc;refine(ih (wT x acc)).trans ?_;rw[List.reverse_cons,AN];exact(nQ x acc).append_left _
 refine(List.reverse_perm _).trans ((this l []).trans ?_);rw[Ay];exact List.reverse_perm l
theorem wX {i b:Nat} {a:Al} (h:Vi i b=some a):a.ks.length<=2/\(∀k∈a.ks,k<i)/\a.d<16/\a.d≠0/\a.p<3:=by
 unfold Vi at h;split at h;·cases h
 ·next d hd=>
  simp only[Sj] at h;subst h;have:d+1<16:=Aa;refine⟨?_,?_,this,Ac,by simp only;omega⟩
  ·cases i with
   |zero=>simp
   |succ i=>simp only[Lm,CL];omega
  ·cases i with
   |zero=>simp
   |succ i=>simp only[Aw,BU];rintro k ⟨m,_,rfl⟩;exact Cu _ (Nat.succ_pos i)
theorem MK {l:EF} {i:Nat} {a:Al} (h:a∈cF l i):a.ks.length<=2/\(∀k∈a.ks,k<i)/\a.d<16/\a.d≠0/\a.p<3:=by unfold cF at h;obtain⟨k,_,hk⟩:=DU.1 h;obtain⟨b,_,hb⟩:=AL.1 hk;exact wX hb
theorem FB (l:EF) (i:Nat):(cF l i).length<=3:=by unfold cF;exact AQ (List.length_filterMap_le _ _) Ac
theorem kT {l:EF} (hl:l.length<=15):WF0 (loose l):=by
 have hc:Gp l<=4/\2<=Gp l:=by unfold Gp;omega
 have hn:∀(i:Nat) (n:Nd),(loose l).ns[i]?=some n->i<Gp l/\n=Mf l i:=by intro i n h;simp only[loose,AD] at h;obtain⟨j,hj,rfl⟩:=BD.1 h;obtain⟨h1,h2⟩:=Gi.1 hj;simp only[CL] at h1;simp only[List.getElem_range] at h2;subst h2;exact⟨h1,rfl⟩
 refine⟨?_,?_,?_,?_,?_,?_,?_,?_⟩;·intro e;have:=Bh List.length e;simp[loose] at this;omega
 ·intro e;have:=Bh List.length e;simp[loose] at this;omega
 ·simp[loose];omega
 ·simp[loose]
 ·intro i n h;obtain⟨_,rfl⟩:=hn i n h;rw[show(Mf l i).az=Fy (cF l i) from rfl,(Yi _).length_eq];exact FB l i
 ·intro i n h a ha;obtain⟨_,rfl⟩:=hn i n h;exact MK ((Yi _).mem_iff.1 ha)
 ·intro i m n h h';obtain⟨h1,rfl⟩:=hn i m h;obtain⟨h2,rfl⟩:=hn _ n h';have:i=0∨i=1∨i=2:=Aa;rcases this with rfl|rfl|rfl<;>(simp only[Mf];decide)
 ·intro i r h;simp only[loose,AD] at h;obtain⟨j,hj,rfl⟩:=BD.1 h;obtain⟨h1,h2⟩:=Gi.1 hj;simp only[CL] at h1;simp only[List.getElem_range] at h2;subst h2;have:i=0∨i=1∨i=2∨i=3:=Aa;rcases this with rfl|rfl|rfl|rfl<;>decide
theorem XU (u v:List Int) (hu:u.length<1000000) (hv:v.length<1000000):A3 Fn 12 [PA.lst 1 (u.map λn=>[.int .u32 n]),PA.lst 1 (v.map λn=>[.int .u32 n])] (bA (decide (u=v))):=by
 have ls:(u.map λn=>[PV.int .u32 n]).length=u.length:=Lm ..;have lt:(v.map λn=>[PV.int .u32 n]).length=v.length:=Lm ..;have get:∀{l:List Int} {k:Nat} {a:Int},l[k]?=some a->(l.map λn=>[PV.int .u32 n])[(k:Int).toNat]?=some [.int .u32 a]:=λh=>by simp[h]
 refine Ej pv C.f12 rfl ?_;refine⟨λh=>?_,λh=>?_⟩;·refine mS ?_;symm;refine Az λe=>?_;subst e;simp at h
 have hl:u.length=v.length:=by
  have:((u.map λn=>[PV.int .u32 n]).length:Int)=(v.map λn=>[PV.int .u32 n]).length:=by simpa using h
  omega
 refine XW.Wy (pu:=pv) (σ:=Nat) (λi=>u.length-i) (λi=>[(k0,.v (PA.lst 1 (u.map λn=>[.int .u32 n]))),(k1,.v (PA.lst 1 (v.map λn=>[.int .u32 n]))),(k5,.v (iA i))]) (λi=>i<=u.length/\∀j,j<i->u[j]?=v[j]?) 0 Zl
  (.cons rfl rfl (.cons rfl rfl (.cons rfl rfl (.nil _)))) ⟨Zl,λj h=>absurd h Aa⟩ ?_
 rintro i ⟨hi,hc⟩;refine⟨λh=>?_,λh=>?_⟩
 ·have hi:i<u.length:=by have:=B0 h;omega
  have ga:=Gg hi;generalize u[i]=a at ga;have gb:=Gg (show i<v.length by omega);generalize v[i]'Aa=b at gb;refine⟨_,⟨Aa,get ga⟩,?_⟩;refine⟨_,⟨Aa,get gb⟩,?_⟩;refine⟨λh=>?_,λh=>?_⟩
  ·have hab:a≠b:=λe=>by rw[e] at h;simp at h
   have e:decide (u=v)=false:=Az λe=>hab (by rw[e,gb] at ga;exact(Cw ga).symm);rw[e];exact Yw0
  ·have hab:a=b:=by simpa using h
   refine Yw1 ?_;refine⟨i+1,Aa,.cons rfl rfl (.cons rfl rfl (.cons rfl rfl (.nil _))),rfl,Aa,λj hj=>?_⟩;by_cases hji:j<i;·exact hc j hji
   ·rw[show j=i from Aa,ga,gb,hab]
 ·have e:decide (u=v)=true:=Ch (Cv λj=>by
   by_cases hj:j<u.length
   ·exact hc j (by have:=B5 h;omega)
   ·rw[AJ Aa,AJ Aa])
  rw[e];exact Yw0
end Go.Pv
end
section
noncomputable section
namespace Go.Pv
open Go.Vm
open Go.Vm.Key (kn)
set_option maxRecDepth 40000
set_option maxHeartbeats 0
theorem PX.via {P:Program} {F:D5} {lo:Nat} {cd:B7} {L L2:Fm} {g g2:A0} {Q:PQT} (h:XW F lo .skip L g λ_ L' g'=>L'=L2/\g'=g2) (m:PX P lo cd L2 g2 [] Q):PX P lo cd L g [] Q:=by
 intro N c hc s0 s h0 hlo hs he hg fr1 hf IV hI;obtain⟨n,x,fr1',h',Z',p',g',L',e,k1,k2,k3,rfl,rfl⟩:=h s0 s h0 hlo hs he hg fr1 hf;have hsk:fr1'=fr1/\h'=s.h:=by
  cases n with
  |zero=>simp[exec] at e
  |succ n=>simp only[exec,Sj,Pj] at e;exact⟨e.2.1.symm,e.2.2.symm⟩
 obtain⟨rfl,rfl⟩:=hsk;cases hI;exact m N c hc s0 ⟨Z',p',g',s.h⟩ h0 hlo k1 k2 rfl fr1' k3 [] .nil
theorem XW.skip {F:D5} {lo:Nat} {L:Fm} {g:A0} {Q:Fk->Fm->A0->Prop} (h:Q .normal L g):XW F lo .skip L g Q:=Q9 (pu:=λ_=>false) .skip h
theorem PX.Js {P:Program} {lo:Nat} {cd:B7} {L:Fm} {g g':A0} {Q:PQT} (b:Key) (i:Nat) {c:Ey} {own frz:Bool} {anc:ED} {log:Es} {v v':PV} (hb:lo<=b.toNat)
  (hg:g.get b=some ⟨.cells c,own,frz,anc,log⟩) (hi:c[i]?=some v) (hf:Kz deep v g=some (v',g')) (hg':g'.get b=some ⟨.cells c,own,frz,anc,log⟩)
  (h:PX P lo cd L (g'.upd b (some ⟨.cells (c.set i v'),own,frz,anc,log⟩)) [] Q):PX P lo cd L g [] Q:=PX.via (F:=λ_=>none) (XW.Js b i hb hg hi hf hg' (XW.skip ⟨rfl,rfl⟩)) h
theorem PX.Mq {P:Program} {lo:Nat} {cd:B7} {L:Fm} {g:A0} {Q:PQT} (b:Key) {x:B4} (hb:lo<=b.toNat) (hg:g.get b=some x) (hf:x.frz=false) (h:PX P lo cd L (g.upd b (some { x with frz:=true })) [] Q):PX P lo cd L g [] Q:=
 PX.via (F:=λ_=>none) (XW.Mq b hb hg hf (XW.skip ⟨rfl,rfl⟩)) h
theorem PX.KZ {P:Program} {lo:Nat} {cd:B7} {L:Fm} {g:A0} {Q:PQT} (b kz:Key) {x z:B4} (hb:lo<=b.toNat) (hg:g.get b=some x) (hz:g.get kz=some z) (hf:z.frz=true) (h:PX P lo cd L (g.upd b (some { x with anc:=[kz] })) [] Q):PX P lo cd L g [] Q:=
 PX.via (F:=λ_=>none) (XW.KZ b kz hb hg hz hf (XW.skip ⟨rfl,rfl⟩)) h
end Go.Pv
end
section
noncomputable section
namespace Go.Pv
open Go.Vm Go.Vm.C
open Go.Vm.Key (kn)
set_option maxRecDepth 40000
set_option maxHeartbeats 0
section
attribute [local irreducible] PX PXL PXC
def cM0:B7:=nav [1,1,1,0,1,0] C.f6.body
def cM2:B7:=nav [0,1,0,0,1,0,1,0] cM0
def cM6:B7:=nav [1,1,1,1,0,1,0] C.f6.body
abbrev pB (k:Key):FE:=.v (.v (.s (.ptr k 0)))
abbrev uB (bs:EF):Eu:=bs.map λb=>[.int .u8 (b:Nat)]
def alB:List Al->List (Key×B4)
 |[]=>[]
 |[x]=>[(k5,ob (C9 aV [x]))]
 |[x,y]=>[(k5,eb (C9 aV [x])),(k6,⟨.cells (C9 aV [x,y]),true,false,[k5],[]⟩)]
 |x::y::z::_=>[(k5,eb (C9 aV [x])),(k6,eb (C9 aV [x,y])),(k7,⟨.cells (C9 aV [x,y,z]),true,false,[k6,k5],[]⟩)]
def alS:List Al->PV
 |[]=>.A4
 |[_]=>.slice k5 0 1 4 none
 |[_,_]=>.slice k6 0 2 4 none
 |_=>.slice k7 0 3 4 none
abbrev ndB:Option (List Nd×Ey)->List (Key×B4)
 |none=>[]
 |some (ns,cc)=>[(k2,wld (C9 nV ns) k3),(k3,fzb cc)]
abbrev ndS:Option (List Nd×Ey)->Nat->PV
 |none,_=>.A4
 |some _,i=>.slice k2 0 i 5 none
abbrev ndR:Option (List Nd×Ey)->Ew
 |none=>[]
 |some _=>[(k2,k2),(k3,k3)]
abbrev jN (bs:EF) (i:Nat):Fm:=[(k0,.v (PA.lst 1 (uB bs))),(k2,pB k0),(k4,pB k1),(k5,.v (iA (Gp bs))),(k6,.v (iA i))]
abbrev hN (o:Option (List Nd×Ey)) (i:Nat):List (Key×B4):=[(k0,obl [.A4,.A4] []),(k1,obl [ndS o i,.A4] [])]++ndB o
abbrev xC (i:Nat) (s:PV):Ey:=[.int .i64 (i / 2:Nat),.int .i64 0,.int .i64 0,.int .i64 (i % 2:Nat),s]
abbrev jI (bs:EF) (i k:Nat):Fm:=jN bs i++[(k7,pB k4),(k8,.v (iA k))]
abbrev hI (o:Option (List Nd×Ey)) (i:Nat) (A:List Al):List (Key×B4):=hN o i++[(k4,obl (xC i (alS A)) [])]++alB A
def eA (bs:EF) (i k:Nat):List Al:=(List.range k).filterMap λk=>(bs[3*i+k]?).bind (Vi i)
theorem cG (bs:EF) (i k:Nat):eA bs i (k+1)=eA bs i k++((bs[3*i+k]?).bind (Vi i)).toList:=by simp only[eA,Cy,List.filterMap_append];congr 1
theorem kU (bs:EF) (i:Nat):∀k,(eA bs i k).length<=k
 |0=>by simp[eA]
 |k+1=>by rw[cG,La];have:=kU bs i k;cases(bs[3*i+k]?).bind (Vi i)<;>simp<;>omega
theorem TB {bs:EF} {i k:Nat} (h:bs.length<=3*i+k):∀{m},k<=m->eA bs i m=eA bs i k:=by
 intro m hm
 induction m with
 |zero=>have:k=0:=Aa
        rw[this]
 |succ m ih=>
  by_cases hk:k=m+1;·rw[hk]
  ·rw[cG,ih Aa,AJ Aa];simp
theorem XV {bs:EF} {i k:Nat} {a:Al} (h:a∈eA bs i k):a.ks.length<=2/\(∀k∈a.ks,k<i)/\a.d<16/\a.d≠0/\a.p<3:=by obtain⟨j,_,hj⟩:=DU.1 h;obtain⟨b,_,hb⟩:=AL.1 hj;exact wX hb
theorem IT:∀d,d<16->(dR d=0↔d=0):=Ab
def kdOf (i b:Nat):EF:=match i with
 |0=>[]
 |i+1=>(List.range (b / 8 % 3)).map λm=>(b / 16+m) % (i+1)
theorem wY (i b:Nat):Vi i b=if b / 3 % 16=0 then none else some ⟨b % 3,kdOf i b,b / 3 % 16⟩:=by
 unfold Vi;cases h:b / 3 % 16 with
 |zero=>rfl
 |succ d=>rw[Ao Aa];rfl
end
section
attribute [local irreducible] PX PXL PXC
theorem dP (l:List Nd):∀v∈C9 nV l,A2 v:=λv h=>by
 simp only[C9,AY,nV,Af,Ah,AP] at h;obtain⟨a,_,rfl|rfl|rfl|rfl|rfl⟩:=h;·exact Ae
 ·exact Ae
 ·exact Ae
 ·exact Ae
 ·exact E9 _ _
def pl (f:Nat):Bool:=Nat.beq f 10||Nat.beq f 27
def TD (i:Nat) (o:Option (List Nd×Ey)):Prop:=match o with
 |none=>i=0
 |some (ns,cc)=>0<i/\ns.length=i/\∀v∈cc,A2 v
def AbM (bs:EF) (o:Option (List Nd×Ey)) (i k:Nat) (A:List Al) (L:Fm) (g:A0):Prop:=∃ρ,Trim 0 ρ L g (jI bs i k) (mkH (hI o i A) k8)
def cB3:B7:=nav [0,1,0,0,1,1] cM2
theorem Ad1 {P:Program} (pf:PF P Fn) {bs:EF} {i k b:Nat} (hi:i<=3) (hb:b<256) (hgb:(uB bs)[((3:Int)*i+k).toNat]?=some [.int .u8 (b:Nat)]) (mk:A3 Fn 10 [PA.lst 1 [[.int .u8 ((b:Int) / 3)]],iA 2] (dA (b / 3 % 16)))
  (hk:0<=(3:Int)*i+k) {ns:List Nd} {cc:Ey} (hcc:∀v∈cc,A2 v) {A:List Al} (hA:A=[]∨(∃x,A=[x])∨∃x y,A=[x,y]) {Q:PQT} (hi0:0<i)
  (hQ:∀L g,AbM bs (some (ns,cc)) i k (A++(Vi i b).toList) L g->Q .normal L g []):PX P 0 cB3 (jI bs i k++[sE k9 (.int .i64 ((3:Int)*i+k))]) (mkH (hI (some (ns,cc)) i A) k8) [] Q:=by
 have nk1:=dP ns;have hd:b / 3 % 16<16:=Aa;have hr:b / 8 % 3=0∨b / 8 % 3=1∨b / 8 % 3=2:=Aa;have hkd:kdOf i b=(List.range (b / 8 % 3)).map λm=>(b / 16+m) % i:=by
  cases i with
  |zero=>omega
  |succ i=>rfl
 have hdz:=IT _ hd;have hae:=wY i b;rw[hkd] at hae;have hae':True->_:=λ_=>hae;have hdz':True->_:=λ_=>hdz;clear hae hdz hkd hd;rcases hA with rfl|⟨x,rfl⟩|⟨x,y,rfl⟩
 ·refine Yq pl pf ?_;refine PX.seq (Eh pl pf ?_);refine Yv1 ?_;refine Ei pl pf ?_;refine Eg pl ?_;rcases hr with hr|hr|hr
  ·refine Yv1 ?_;refine Yq pl pf ?_;have hdz:=hdz' Ae;have hae:=hae' Ae;rw[hr] at hae;refine PX.cond rfl rfl (λh=>?_) (λh=>?_);·rw[Ao (λe=>by rw[hdz.2 e] at h;exact absurd h Ab)] at hae;refine Yp pl pf ?_;refine hQ _ _ ?_;rw[hae];exact⟨_,Trim.of [(k0,k0),(k1,k1),(k2,k2),(k3,k3),(k4,k4),(k5,k11)] rfl Zl Ae Yb Yf⟩
   ·rw[Aj (hdz.1 (by simpa using h))] at hae;refine Yp pl pf ?_;refine hQ _ _ ?_;rw[hae];exact⟨_,Trim.of [(k0,k0),(k1,k1),(k2,k2),(k3,k3),(k4,k4)] rfl Zl Ae Yb Yf⟩
  ·refine Yv1 ?_;refine Eg pl ?_;refine Yv1 ?_;refine PX.Js k9 1 Zl rfl rfl rfl rfl ?_;refine Yq pl pf ?_;have hdz:=hdz' Ae;have hae:=hae' Ae;rw[hr] at hae;refine PX.cond rfl rfl (λh=>?_) (λh=>?_);·rw[Ao (λe=>by rw[hdz.2 e] at h;exact absurd h Ab)] at hae;refine Yp pl pf ?_;refine hQ _ _ ?_;rw[hae];exact⟨_,Trim.of [(k0,k0),(k1,k1),(k2,k2),(k3,k3),(k4,k4),(k5,k13)] rfl Zl Ae Yb Yf⟩
   ·rw[Aj (hdz.1 (by simpa using h))] at hae;refine Yp pl pf ?_;refine hQ _ _ ?_;rw[hae];exact⟨_,Trim.of [(k0,k0),(k1,k1),(k2,k2),(k3,k3),(k4,k4)] rfl Zl Ae Yb Yf⟩
  ·refine Yv1 ?_;refine Eg pl ?_;refine Yv1 ?_;refine Eg pl ?_;refine Yv1 ?_;refine PX.Js k9 1 Zl rfl rfl rfl rfl ?_;refine Yq pl pf ?_;have hdz:=hdz' Ae;have hae:=hae' Ae;rw[hr] at hae;refine PX.cond rfl rfl (λh=>?_) (λh=>?_);·rw[Ao (λe=>by rw[hdz.2 e] at h;exact absurd h Ab)] at hae;refine Yp pl pf ?_;refine hQ _ _ ?_;rw[hae];exact⟨_,Trim.of [(k0,k0),(k1,k1),(k2,k2),(k3,k3),(k4,k4),(k5,k15)] rfl Zl Ae Yb Yf⟩
   ·rw[Aj (hdz.1 (by simpa using h))] at hae;refine Yp pl pf ?_;refine hQ _ _ ?_;rw[hae];exact⟨_,Trim.of [(k0,k0),(k1,k1),(k2,k2),(k3,k3),(k4,k4)] rfl Zl Ae Yb Yf⟩
 ·refine Yq pl pf ?_;refine PX.seq (Eh pl pf ?_);refine Yv1 ?_;refine Ei pl pf ?_;refine Eg pl ?_;rcases hr with hr|hr|hr
  ·refine Yv1 ?_;refine Yq pl pf ?_;have hdz:=hdz' Ae;have hae:=hae' Ae;rw[hr] at hae;refine PX.cond rfl rfl (λh=>?_) (λh=>?_);·rw[Ao (λe=>by rw[hdz.2 e] at h;exact absurd h Ab)] at hae;refine Yp pl pf ?_;refine hQ _ _ ?_;rw[hae];exact⟨_,Trim.of [(k0,k0),(k1,k1),(k2,k2),(k3,k3),(k4,k4),(k5,k5),(k6,k11)] rfl Zl Ae Yb Yf⟩
   ·rw[Aj (hdz.1 (by simpa using h))] at hae;refine Yp pl pf ?_;refine hQ _ _ ?_;rw[hae];exact⟨_,Trim.of [(k0,k0),(k1,k1),(k2,k2),(k3,k3),(k4,k4),(k5,k5)] rfl Zl Ae Yb Yf⟩
  ·refine Yv1 ?_;refine Eg pl ?_;refine Yv1 ?_;refine PX.Js k9 1 Zl rfl rfl rfl rfl ?_;refine Yq pl pf ?_;have hdz:=hdz' Ae;have hae:=hae' Ae;rw[hr] at hae;refine PX.cond rfl rfl (λh=>?_) (λh=>?_);·rw[Ao (λe=>by rw[hdz.2 e] at h;exact absurd h Ab)] at hae;refine Yp pl pf ?_;refine hQ _ _ ?_;rw[hae];exact⟨_,Trim.of [(k0,k0),(k1,k1),(k2,k2),(k3,k3),(k4,k4),(k5,k5),(k6,k13)] rfl Zl Ae Yb Yf⟩
   ·rw[Aj (hdz.1 (by simpa using h))] at hae;refine Yp pl pf ?_;refine hQ _ _ ?_;rw[hae];exact⟨_,Trim.of [(k0,k0),(k1,k1),(k2,k2),(k3,k3),(k4,k4),(k5,k5)] rfl Zl Ae Yb Yf⟩
  ·refine Yv1 ?_;refine Eg pl ?_;refine Yv1 ?_;refine Eg pl ?_;refine Yv1 ?_;refine PX.Js k9 1 Zl rfl rfl rfl rfl ?_;refine Yq pl pf ?_;have hdz:=hdz' Ae;have hae:=hae' Ae;rw[hr] at hae;refine PX.cond rfl rfl (λh=>?_) (λh=>?_);·rw[Ao (λe=>by rw[hdz.2 e] at h;exact absurd h Ab)] at hae;refine Yp pl pf ?_;refine hQ _ _ ?_;rw[hae];exact⟨_,Trim.of [(k0,k0),(k1,k1),(k2,k2),(k3,k3),(k4,k4),(k5,k5),(k6,k15)] rfl Zl Ae Yb Yf⟩
   ·rw[Aj (hdz.1 (by simpa using h))] at hae;refine Yp pl pf ?_;refine hQ _ _ ?_;rw[hae];exact⟨_,Trim.of [(k0,k0),(k1,k1),(k2,k2),(k3,k3),(k4,k4),(k5,k5)] rfl Zl Ae Yb Yf⟩
 ·refine Yq pl pf ?_;refine PX.seq (Eh pl pf ?_);refine Yv1 ?_;refine Ei pl pf ?_;refine Eg pl ?_;rcases hr with hr|hr|hr
  ·refine Yv1 ?_;refine Yq pl pf ?_;have hdz:=hdz' Ae;have hae:=hae' Ae;rw[hr] at hae;refine PX.cond rfl rfl (λh=>?_) (λh=>?_);·rw[Ao (λe=>by rw[hdz.2 e] at h;exact absurd h Ab)] at hae;refine Yp pl pf ?_;refine hQ _ _ ?_;rw[hae];exact⟨_,Trim.of [(k0,k0),(k1,k1),(k2,k2),(k3,k3),(k4,k4),(k5,k5),(k6,k6),(k7,k11)] rfl Zl Ae Yb Yf⟩
   ·rw[Aj (hdz.1 (by simpa using h))] at hae;refine Yp pl pf ?_;refine hQ _ _ ?_;rw[hae];exact⟨_,Trim.of [(k0,k0),(k1,k1),(k2,k2),(k3,k3),(k4,k4),(k5,k5),(k6,k6)] rfl Zl Ae Yb Yf⟩
  ·refine Yv1 ?_;refine Eg pl ?_;refine Yv1 ?_;refine PX.Js k9 1 Zl rfl rfl rfl rfl ?_;refine Yq pl pf ?_;have hdz:=hdz' Ae;have hae:=hae' Ae;rw[hr] at hae;refine PX.cond rfl rfl (λh=>?_) (λh=>?_);·rw[Ao (λe=>by rw[hdz.2 e] at h;exact absurd h Ab)] at hae;refine Yp pl pf ?_;refine hQ _ _ ?_;rw[hae];exact⟨_,Trim.of [(k0,k0),(k1,k1),(k2,k2),(k3,k3),(k4,k4),(k5,k5),(k6,k6),(k7,k13)] rfl Zl Ae Yb Yf⟩
   ·rw[Aj (hdz.1 (by simpa using h))] at hae;refine Yp pl pf ?_;refine hQ _ _ ?_;rw[hae];exact⟨_,Trim.of [(k0,k0),(k1,k1),(k2,k2),(k3,k3),(k4,k4),(k5,k5),(k6,k6)] rfl Zl Ae Yb Yf⟩
  ·refine Yv1 ?_;refine Eg pl ?_;refine Yv1 ?_;refine Eg pl ?_;refine Yv1 ?_;refine PX.Js k9 1 Zl rfl rfl rfl rfl ?_;refine Yq pl pf ?_;have hdz:=hdz' Ae;have hae:=hae' Ae;rw[hr] at hae;refine PX.cond rfl rfl (λh=>?_) (λh=>?_);·rw[Ao (λe=>by rw[hdz.2 e] at h;exact absurd h Ab)] at hae;refine Yp pl pf ?_;refine hQ _ _ ?_;rw[hae];exact⟨_,Trim.of [(k0,k0),(k1,k1),(k2,k2),(k3,k3),(k4,k4),(k5,k5),(k6,k6),(k7,k15)] rfl Zl Ae Yb Yf⟩
   ·rw[Aj (hdz.1 (by simpa using h))] at hae;refine Yp pl pf ?_;refine hQ _ _ ?_;rw[hae];exact⟨_,Trim.of [(k0,k0),(k1,k1),(k2,k2),(k3,k3),(k4,k4),(k5,k5),(k6,k6)] rfl Zl Ae Yb Yf⟩
end
section
attribute [local irreducible] PX PXL PXC
theorem AbN {P:Program} (pf:PF P Fn) {bs:EF} {k b:Nat} (hb:b<256) (hgb:(uB bs)[((3:Int)*(0:Nat)+k).toNat]?=some [.int .u8 (b:Nat)]) (mk:A3 Fn 10 [PA.lst 1 [[.int .u8 ((b:Int) / 3)]],iA 2] (dA (b / 3 % 16)))
  (hk:0<=(3:Int)*(0:Nat)+k) {A:List Al} (hA:A=[]∨(∃x,A=[x])∨∃x y,A=[x,y]) {Q:PQT}
  (hQ:∀L g,AbM bs none 0 k (A++(Vi 0 b).toList) L g->Q .normal L g []):PX P 0 cB3 (jI bs 0 k++[sE k9 (.int .i64 ((3:Int)*(0:Nat)+k))]) (mkH (hI none 0 A) k8) [] Q:=by
 have hd:b / 3 % 16<16:=Aa;have hr:b / 8 % 3=0∨0<b / 8 % 3:=Aa;have hdz:=IT _ hd;have hae:=wY 0 b;have hae':True->_:=λ_=>hae;have hdz':True->_:=λ_=>hdz;clear hae hdz hd;rcases hA with rfl|⟨x,rfl⟩|⟨x,y,rfl⟩
 ·refine Yq pl pf ?_;refine PX.seq (Eh pl pf ?_);refine Yv1 ?_;refine Ei pl pf ?_;refine Eg pl ?_;rcases hr with hr|hr
  ·refine Yv1 ?_;refine Yq pl pf ?_;have hdz:=hdz' Ae;have hae:=hae' Ae;refine PX.cond rfl rfl (λh=>?_) (λh=>?_);·rw[Ao (λe=>by rw[hdz.2 e] at h;exact absurd h Ab)] at hae;refine Yp pl pf ?_;refine hQ _ _ ?_;rw[hae];exact⟨_,Trim.of [(k0,k0),(k1,k1),(k4,k4),(k5,k11)] rfl Zl Ae Yb Yf⟩
   ·rw[Aj (hdz.1 (by simpa using h))] at hae;refine Yp pl pf ?_;refine hQ _ _ ?_;rw[hae];exact⟨_,Trim.of [(k0,k0),(k1,k1),(k4,k4)] rfl Zl Ae Yb Yf⟩
  ·refine Yv1 ?_;refine Yq pl pf ?_;have hdz:=hdz' Ae;have hae:=hae' Ae;refine PX.cond rfl rfl (λh=>?_) (λh=>?_);·rw[Ao (λe=>by rw[hdz.2 e] at h;exact absurd h Ab)] at hae;refine Yp pl pf ?_;refine hQ _ _ ?_;rw[hae];exact⟨_,Trim.of [(k0,k0),(k1,k1),(k4,k4),(k5,k11)] rfl Zl Ae Yb Yf⟩
   ·rw[Aj (hdz.1 (by simpa using h))] at hae;refine Yp pl pf ?_;refine hQ _ _ ?_;rw[hae];exact⟨_,Trim.of [(k0,k0),(k1,k1),(k4,k4)] rfl Zl Ae Yb Yf⟩
 ·refine Yq pl pf ?_;refine PX.seq (Eh pl pf ?_);refine Yv1 ?_;refine Ei pl pf ?_;refine Eg pl ?_;rcases hr with hr|hr
  ·refine Yv1 ?_;refine Yq pl pf ?_;have hdz:=hdz' Ae;have hae:=hae' Ae;refine PX.cond rfl rfl (λh=>?_) (λh=>?_);·rw[Ao (λe=>by rw[hdz.2 e] at h;exact absurd h Ab)] at hae;refine Yp pl pf ?_;refine hQ _ _ ?_;rw[hae];exact⟨_,Trim.of [(k0,k0),(k1,k1),(k4,k4),(k5,k5),(k6,k11)] rfl Zl Ae Yb Yf⟩
   ·rw[Aj (hdz.1 (by simpa using h))] at hae;refine Yp pl pf ?_;refine hQ _ _ ?_;rw[hae];exact⟨_,Trim.of [(k0,k0),(k1,k1),(k4,k4),(k5,k5)] rfl Zl Ae Yb Yf⟩
  ·refine Yv1 ?_;refine Yq pl pf ?_;have hdz:=hdz' Ae;have hae:=hae' Ae;refine PX.cond rfl rfl (λh=>?_) (λh=>?_);·rw[Ao (λe=>by rw[hdz.2 e] at h;exact absurd h Ab)] at hae;refine Yp pl pf ?_;refine hQ _ _ ?_;rw[hae];exact⟨_,Trim.of [(k0,k0),(k1,k1),(k4,k4),(k5,k5),(k6,k11)] rfl Zl Ae Yb Yf⟩
   ·rw[Aj (hdz.1 (by simpa using h))] at hae;refine Yp pl pf ?_;refine hQ _ _ ?_;rw[hae];exact⟨_,Trim.of [(k0,k0),(k1,k1),(k4,k4),(k5,k5)] rfl Zl Ae Yb Yf⟩
 ·refine Yq pl pf ?_;refine PX.seq (Eh pl pf ?_);refine Yv1 ?_;refine Ei pl pf ?_;refine Eg pl ?_;rcases hr with hr|hr
  ·refine Yv1 ?_;refine Yq pl pf ?_;have hdz:=hdz' Ae;have hae:=hae' Ae;refine PX.cond rfl rfl (λh=>?_) (λh=>?_);·rw[Ao (λe=>by rw[hdz.2 e] at h;exact absurd h Ab)] at hae;refine Yp pl pf ?_;refine hQ _ _ ?_;rw[hae];exact⟨_,Trim.of [(k0,k0),(k1,k1),(k4,k4),(k5,k5),(k6,k6),(k7,k11)] rfl Zl Ae Yb Yf⟩
   ·rw[Aj (hdz.1 (by simpa using h))] at hae;refine Yp pl pf ?_;refine hQ _ _ ?_;rw[hae];exact⟨_,Trim.of [(k0,k0),(k1,k1),(k4,k4),(k5,k5),(k6,k6)] rfl Zl Ae Yb Yf⟩
  ·refine Yv1 ?_;refine Yq pl pf ?_;have hdz:=hdz' Ae;have hae:=hae' Ae;refine PX.cond rfl rfl (λh=>?_) (λh=>?_);·rw[Ao (λe=>by rw[hdz.2 e] at h;exact absurd h Ab)] at hae;refine Yp pl pf ?_;refine hQ _ _ ?_;rw[hae];exact⟨_,Trim.of [(k0,k0),(k1,k1),(k4,k4),(k5,k5),(k6,k6),(k7,k11)] rfl Zl Ae Yb Yf⟩
   ·rw[Aj (hdz.1 (by simpa using h))] at hae;refine Yp pl pf ?_;refine hQ _ _ ?_;rw[hae];exact⟨_,Trim.of [(k0,k0),(k1,k1),(k4,k4),(k5,k5),(k6,k6)] rfl Zl Ae Yb Yf⟩
end
section
attribute [local irreducible] PX PXL PXC
def MidE (bs:EF) (o:Option (List Nd×Ey)) (i:Nat) (A:List Al) (L:Fm) (g:A0):Prop:=∃ρ,Trim 0 ρ L g (jN bs i++[(k7,pB k4)]) (mkH (hI o i A) k8)
theorem Ad2 {P:Program} (pf:PF P Fn) {bs:EF} (hb:∀b∈bs,b<256) (hl:bs.length<=15) (mk:∀b:Nat,b<256->A3 Fn 10 [PA.lst 1 [[.int .u8 ((b:Int) / 3)]],iA 2] (dA (b / 3 % 16))) {i:Nat} (hi:i<=3) {o:Option (List Nd×Ey)} (ho:TD i o) {Q:PQT}
  (hQ:∀L g,MidE bs o i (eA bs i 3) L g->Q (.exit 2) L g []):PX P 0 cM2 (jI bs i 0) (mkH (hI o i []) k8) [] Q:=by
 have hbl:(uB bs).length=bs.length:=Lm ..;refine PX.B6 (σ:=Nat) (λk=>3-k) (λk=>jI bs i k) (λk g=>k<=3/\g=mkH (hI o i (eA bs i k)) k8) (λ_=>[]) 0 (ρ:=some) (g0:=mkH (hI o i []) k8) ?_ .nil ⟨Zl,rfl⟩ ?_;·exact Trim.same Zl (.cons rfl rfl (.cons rfl rfl (.cons rfl rfl (.cons rfl rfl (.cons rfl rfl (.cons rfl rfl (.cons rfl rfl (.nil _))))))))
 rintro k g ⟨hk,rfl⟩;replace hk:k<=3:=hk;have hpl:=kU bs i k;have hps:=cG bs i k;have hpe:=λh m (hm:k<=m)=>TB (bs:=bs) (i:=i) (k:=k) h hm;generalize hA:eA bs i k=A at hpl hps hpe;refine PX.seq (Eh pl pf ?_);refine Yv1 ?_;refine Ei pl pf ?_;refine⟨λh=>?_,λh=>?_⟩
 ·have hk3:k<3:=by have:=B0 h;omega
  refine Yv1 ?_;refine PX.seq (PX.block ?_);refine Yq pl pf ?_;refine PX.seq (Eh pl pf ?_);refine Yv1 ?_;refine Ei pl pf ?_;refine⟨λh2=>?_,λh2=>?_⟩
  ·have hend:bs.length<=3*i+k:=by have:=BB h2;omega
   have:=hpe hend 3 hk;rw[this] at hQ;exact hQ _ _ ⟨some,Trim.same Zl (.cons rfl rfl (.cons rfl rfl (.cons rfl rfl (.cons rfl rfl (.cons rfl rfl (.cons rfl rfl (.nil _)))))))⟩
  ·have hlt:3*i+k<bs.length:=by have:=BM h2;omega
   have hbk:bs[3*i+k]?=some bs[3*i+k]:=Gg hlt;have hb256:=hb bs[3*i+k] (AU hlt);generalize bs[3*i+k]=b at hbk hb256;have hgb:(uB bs)[((3:Int)*i+k).toNat]?=some [.int .u8 (b:Nat)]:=by rw[show((3:Int)*i+k).toNat=3*i+k by omega];simp[hbk]
   rw[hbk] at hps;have hA3:A=[]∨(∃x,A=[x])∨∃x y,A=[x,y]:=by
    rcases A with _|⟨x,_|⟨y,_|⟨z,A⟩⟩⟩;·exact .inl rfl
    ·exact .inr (.inl ⟨x,rfl⟩)
    ·exact .inr (.inr ⟨x,y,rfl⟩)
    ·simp only[Ap] at hpl;omega
   have fin:∀L g,AbM bs o i k (A++(Vi i b).toList) L g->PX P 0 (nav [0,1,1] cM2) L g [] λx L1 g1 I1=>match x with
     |.normal=>∃s' ρ g2 Ia Ib,3-s'<3-k/\Trim 0 ρ L1 g1 (jI bs i s') g2/\I1=Ia++Ib/\A1 (ItN ρ) [] Ia/\s'<=3/\g2=mkH (hI o i (eA bs i s')) k8
     |.exit i=>Q (.exit i) L1 g1 I1
     |.ret=>Q .ret L1 g1 I1:=by
    rintro L g ⟨ρ,tr⟩
    refine PX.trim tr .nil (Ei pl pf ?_)
    refine Yv1 ?_
    refine⟨k+1,some,_,[],[],Aa,Trim.same Zl (.cons rfl rfl (.cons rfl rfl (.cons rfl rfl (.cons rfl rfl (.cons rfl rfl (.cons rfl rfl (.cons rfl rfl (.nil _)))))))),rfl,.nil,hk3,?_⟩
    rw[hps];rfl
   have low:∀(L L2:Fm) (g:A0),Sub L2 L->Trim 0 some L g L2 g:=λL L2 g h=>Trim.same Zl h;refine Yv1 ?_;refine PX.trim (low _ (jI bs i k++[sE k9 (.int .i64 ((3:Int)*i+k))]) _ (.cons rfl rfl (.cons rfl rfl (.cons rfl rfl (.cons rfl rfl (.cons rfl rfl (.cons rfl rfl (.cons rfl rfl (.cons rfl rfl (.nil _)))))))))) .nil ?_;cases o with
   |none=>have hi0:i=0:=ho;subst hi0;exact AbN pf hb256 hgb (mk b hb256) Aa hA3 fin
   |some q=>obtain⟨ns,cc⟩:=q;obtain⟨ho1,ho2,ho3⟩:=ho;exact Ad1 pf hi hb256 hgb (mk b hb256) Aa ho3 hA3 ho1 fin
 ·have hk3:k=3:=by have:=B5 h;omega
  rw[hk3] at hA;rw[hA] at hQ;refine Yv1 ?_;exact hQ _ _ ⟨some,Trim.same Zl (.cons rfl rfl (.cons rfl rfl (.cons rfl rfl (.cons rfl rfl (.cons rfl rfl (.cons rfl rfl (.nil _)))))))⟩
end
section
attribute [local irreducible] PX PXL PXC
theorem nR {α:Type} (f:α->Ey) (l:List α) (x:α):C9 f (l++[x])=C9 f l++f x:=by simp[C9]
theorem ML {α:Type} (f:α->Ey) (l:List α):C9 f l=(l.map f).flatten:=by simp[C9,List.flatMap_def]
theorem XX (l:List Al):Ql (C9 aV l):=H4 λv h=>by
 simp only[C9,AY,aV,Af,Ah,AP] at h;obtain⟨a,_,rfl|rfl|rfl|rfl⟩:=h;·exact Ae
 ·exact Fv _ _
 ·exact Fv _ _
 ·exact Ae
theorem XY (l:List Nd):Ql (C9 nV l):=H4 λv h=>by
 simp only[C9,AY,nV,Af,Ah,AP] at h;obtain⟨a,_,rfl|rfl|rfl|rfl|rfl⟩:=h;·exact Ae
 ·exact Ae
 ·exact Ae
 ·exact Ae
 ·exact Fv _ _
theorem XZ (l:Es):Ql (C9 rV l):=H4 λv h=>by
 simp only[C9,AY,rV,Af,Ah,AP] at h;obtain⟨a,_,rfl|rfl|rfl⟩:=h;·exact Ae
 ·exact Fv _ _
 ·exact Ae
theorem Aam (l:Es):∀v∈C9 rV l,A2 v:=λv h=>by
 simp only[C9,AY,rV,Af,Ah,AP] at h;obtain⟨a,_,rfl|rfl|rfl⟩:=h;·exact Ae
 ·exact E9 _ _
 ·exact Ae
theorem kW {α:Type} {f:α->Ey} {es:Nat} (h:∀x,(f x).length=es) (he:es≠0) {l:List α} (hl:l≠[]) {k:Key} {own frz:Bool} {anc:ED} {log:Es} {g:A0} (hg:g.get k=some ⟨.cells (C9 f l),own,frz,anc,log⟩) (hf:Ql (C9 f l)) {n:Nat} (hn:n=l.length) :
  Kz deep (.slice k 0 n es none) g=some (.lst es (l.map f) none,if frz then g else g.upd k (some ⟨.cells (C9 f l),own,true,anc,log⟩)):=by
 subst hn;have h1:=Kc h l;have h2:0<l.length:=AS.2 hl;have h3:l.length*es≠0:=Nat.mul_ne_zero Aa he;have:=J0 (n:=38) (cap:=none) hg h1.symm h3 rfl hf;rw[ML] at this ⊢;have hc:chunk es l.length (l.map f).flatten=l.map f:=by
  have:=Mc (es:=es) (l:=l.map f) (λx hx=>by obtain⟨a,_,rfl⟩:=Aw.1 hx;exact h a)
  rwa [Lm] at this
 rw[hc] at this;exact this
theorem nS (l:List Al):(Fy l).length=l.length:=(Yi l).length_eq
theorem TE {l:List Al} (h:l≠[]):Fy l≠[]:=λe=>by have:=nS l;rw[e] at this;exact h (Bm.1 this.symm)
def cSo:B7:=nav [0,1,0,0,1,1,0] cM0
def cAp:B7:=nav [0,1,0,0,1,1,1] cM0
abbrev hO (o:Option (List Nd×Ey)) (i:Nat) (n:Nd):List (Key×B4):=hN o i++[(k4,obl (nV n) [])]
abbrev rO (o:Option (List Nd×Ey)):Ew:=[(k0,k0),(k1,k1)]++ndR o++[(k4,k4)]
theorem Ad3 {P:Program} (pf:PF P Fn) {bs:EF} {i:Nat} {o:Option (List Nd×Ey)} (ho:TD i o) {A:List Al} (hA:A.length<=3) (hk:∀a∈A,a.ks.length<=2) {Q:PQT}
  (hQ:∀L g,(∃ρ,Trim 0 ρ L g (jN bs i++[(k7,pB k4)]) (mkH (hO o i ⟨i / 2,i % 2,Fy A⟩) k8))->PX P 0 cAp L g [] Q):PX P 0 (.seq cSo cAp) (jN bs i++[(k7,pB k4)]) (mkH (hI o i A) k8) [] Q:=by
 have tr:∀{L:Fm} {g:A0} {l0 l1 l4:Es},g.get k0=some (obl [.A4,.A4] l0)->g.get k1=some (obl [ndS o i,.A4] l1)->(∀q,o=some q->g.get k2=some (wld (C9 nV q.1) k3)/\g.get k3=some (fzb q.2))->g.get k4=some (obl (nV ⟨i / 2,i % 2,Fy A⟩) l4)->Jz (rho 0 (rO o)) L (jN bs i++[(k7,pB k4)]) ->
   ∃ρ,Trim 0 ρ L g (jN bs i++[(k7,pB k4)]) (mkH (hO o i ⟨i / 2,i % 2,Fy A⟩) k8):=by
  intro L g l0 l1 l4 e0 e1 e2 e4 hf
  cases o with
  |none=>exact⟨_,Trim.of (rO none) rfl Zl Ae ⟨⟨_,_,rfl,e0,.same Yc⟩,⟨_,_,rfl,e1,.same Yc⟩,⟨_,_,rfl,e4,.same Yc⟩,Ae⟩ hf⟩
  |some q=>
   obtain⟨ns,cc⟩:=q
   obtain⟨ho1,ho2,ho3⟩:=ho
   obtain⟨e2,e3⟩:=e2 _ rfl
   exact⟨_,Trim.of (rO (some (ns,cc))) rfl Zl Ae ⟨⟨_,_,rfl,e0,.same Yc⟩,⟨_,_,rfl,e1,.same Yc⟩,⟨_,_,rfl,e2,⟨A2.cells (dP ns),λ_=>⟨rfl,.inl (.cons rfl .nil)⟩,rfl⟩⟩,⟨_,_,rfl,e3,⟨A2.cells ho3,λ_=>⟨rfl,.inl .nil⟩,rfl⟩⟩,⟨_,_,rfl,e4,.same Yc⟩,Ae⟩ hf⟩
 have fz:∀{L:Fm} {g:A0} {l0 l1 l4 l5:Es} {kk:Key} {own:Bool} {anc:ED} {n:Nat},g.get k0=some (obl [.A4,.A4] l0)->g.get k1=some (obl [ndS o i,.A4] l1)->(∀q,o=some q->g.get k2=some (wld (C9 nV q.1) k3)/\g.get k3=some (fzb q.2))->g.get k4=some (obl (xC i (.slice kk 0 n 4 none)) l4) ->
   g.get kk=some ⟨.cells (C9 aV (Fy A)),own,false,anc,l5⟩->(kk≠k0/\kk≠k1/\kk≠k2/\kk≠k3/\kk≠k4)->n=A.length->A≠[]->Jz (rho 0 (rO o)) L (jN bs i++[(k7,pB k4)])->PX P 0 cAp L g [] Q:=by
  rintro L g l0 l1 l4 l5 kk own anc n e0 e1 e2 e4 ek ⟨n0,n1,n2,n3,n4⟩ hn hA0 hf
  have hi0:=TE hA0
  have hz:=kW (f:=aV) (es:=4) (λ_=>rfl) Ab hi0 ek (XX _) (n:=n) (by rw[nS,hn])
  rw[Ao Bool.false_ne_true] at hz
  refine PX.Js k4 4 Zl e4 rfl hz ((congrFun (Hd g kk _) k4).trans ((Ao n4).trans e4)) ?_
  have u:∀k,k≠kk->k≠k4->((g.upd kk (some ⟨.cells (C9 aV (Fy A)),own,true,anc,l5⟩)).upd k4 (some ⟨.cells ((xC i (.slice kk 0 n 4 none)).set 4 (.lst 4 ((Fy A).map aV) none)),true,false,[],l4⟩)).get k=g.get k:=λk h1 h2=>by
   exact(congrFun (Hd _ k4 _) k).trans ((Ao (BL h2)).trans ((congrFun (Hd g kk _) k).trans (Ao (BL h1))))
  refine hQ _ _ (tr (l0:=l0) (l1:=l1) (l4:=l4) ((u k0 n0.symm Ab).trans e0) ((u k1 n1.symm Ab).trans e1) (λq hq=>⟨(u k2 n2.symm Ab).trans (e2 q hq).1,(u k3 n3.symm Ab).trans (e2 q hq).2⟩) ?_ hf)
  refine(congrFun (Hd _ k4 _) k4).trans ((Aj rfl).trans ?_)
  obtain⟨a,l,e⟩:∃a l,Fy A=a::l:=by
   cases h:Fy A with
   |nil=>exact absurd h hi0
   |cons a l=>exact⟨a,l,rfl⟩
  simp only[nV,asV,e]
  rfl
 rcases A with _|⟨x,_|⟨y,_|⟨z,_|⟨u,A⟩⟩⟩⟩
 ·rcases o with _|⟨ns,cc⟩;·refine Yq pl pf ?_;refine Ek pl C.f26 rfl ?_;refine Yv1 ?_;refine Eg pl ?_;refine Yv1 ?_;exact hQ _ _ (tr rfl rfl (λq hq=>by cases hq) rfl Yf)
  ·refine Yq pl pf ?_;refine Ek pl C.f26 rfl ?_;refine Yv1 ?_;refine Eg pl ?_;refine Yv1 ?_;exact hQ _ _ (tr rfl rfl (λq hq=>by cases hq;exact⟨rfl,rfl⟩) rfl Yf)
 ·rcases o with _|⟨ns,cc⟩
  ·refine Yq pl pf ?_;have nk1:=J4 [x];have nks:=J4 (Fy [x]);refine En [(k0,ob (C9 aV [x]))] k1 [(k0,k5)] (wU x) Yb Ya ?_;rintro rc gc' ⟨rfl,e0⟩;refine⟨[],k8,[some (ob (C9 aV [x]))],[],.unit,rfl,Rl,?_,Ae,Ys,?_⟩;·exact⟨⟨_,_,_,e0,⟨A2.cells nk1,λ_=>⟨rfl,.inl .nil⟩,rfl⟩,rfl,rfl,rfl,rfl⟩,Ae⟩
   ·refine Yv1 ?_;exact fz rfl rfl (λq hq=>by cases hq) rfl rfl Ab rfl Ac Yf
  ·refine Yq pl pf ?_;have nk1:=J4 [x];have nks:=J4 (Fy [x]);refine En [(k0,ob (C9 aV [x]))] k1 [(k0,k5)] (wU x) Yb Ya ?_;rintro rc gc' ⟨rfl,e0⟩;refine⟨[],k8,[some (ob (C9 aV [x]))],[],.unit,rfl,Rl,?_,Ae,Ys,?_⟩;·exact⟨⟨_,_,_,e0,⟨A2.cells nk1,λ_=>⟨rfl,.inl .nil⟩,rfl⟩,rfl,rfl,rfl,rfl⟩,Ae⟩
   ·refine Yv1 ?_;exact fz rfl rfl (λq hq=>by cases hq;exact⟨rfl,rfl⟩) rfl rfl Ab rfl Ac Yf
 ·rcases o with _|⟨ns,cc⟩
  ·refine Yq pl pf ?_;have nk1:=J4 [x];have nk2:=J4 [x,y];have nks:=J4 (Fy [x,y]);refine En [(k0,B4.mk (.cells (C9 aV [x,y])) true false [k1] []),(k1,eb (C9 aV [x]))] k2 [(k0,k6),(k1,k5)] (wV x y (hk x Ac) (hk y Ac)) Yb Ya ?_;rintro rc gc' ⟨rfl,⟨e0,e1⟩|⟨lg,e0,e1⟩⟩
   ·refine⟨[],k8,[some ⟨.cells (C9 aV (Fy [x,y])),true,false,[k5],[]⟩,some (eb (C9 aV [x]))],[],.unit,rfl,Rl,?_,Ae,Ys,?_⟩;·exact⟨⟨_,_,_,e0,⟨A2.cells nks,λ_=>⟨rfl,.inl (.cons rfl .nil)⟩,rfl⟩,rfl,rfl,rfl,rfl⟩,⟨_,_,_,e1,⟨A2.cells nk1,Ep,rfl⟩,rfl,rfl,rfl,rfl⟩,Ae⟩
    ·refine Yv1 ?_;exact fz rfl rfl (λq hq=>by cases hq) rfl rfl Ab rfl Ac Yf
   ·refine⟨[],k8,[some ⟨.cells (C9 aV (Fy [x,y])),true,false,[],lg⟩,none],[],.unit,rfl,Rl,?_,Ae,Ys,?_⟩;·exact⟨⟨_,_,_,e0,⟨A2.cells nks,λ_=>⟨rfl,.inl .nil⟩,rfl⟩,rfl,rfl,rfl,(Ay _).symm⟩,e1,Ae⟩
    ·refine Yv1 ?_;exact fz rfl rfl (λq hq=>by cases hq) rfl rfl Ab rfl Ac Yf
  ·refine Yq pl pf ?_;have nk1:=J4 [x];have nk2:=J4 [x,y];have nks:=J4 (Fy [x,y]);refine En [(k0,B4.mk (.cells (C9 aV [x,y])) true false [k1] []),(k1,eb (C9 aV [x]))] k2 [(k0,k6),(k1,k5)] (wV x y (hk x Ac) (hk y Ac)) Yb Ya ?_;rintro rc gc' ⟨rfl,⟨e0,e1⟩|⟨lg,e0,e1⟩⟩
   ·refine⟨[],k8,[some ⟨.cells (C9 aV (Fy [x,y])),true,false,[k5],[]⟩,some (eb (C9 aV [x]))],[],.unit,rfl,Rl,?_,Ae,Ys,?_⟩;·exact⟨⟨_,_,_,e0,⟨A2.cells nks,λ_=>⟨rfl,.inl (.cons rfl .nil)⟩,rfl⟩,rfl,rfl,rfl,rfl⟩,⟨_,_,_,e1,⟨A2.cells nk1,Ep,rfl⟩,rfl,rfl,rfl,rfl⟩,Ae⟩
    ·refine Yv1 ?_;exact fz rfl rfl (λq hq=>by cases hq;exact⟨rfl,rfl⟩) rfl rfl Ab rfl Ac Yf
   ·refine⟨[],k8,[some ⟨.cells (C9 aV (Fy [x,y])),true,false,[],lg⟩,none],[],.unit,rfl,Rl,?_,Ae,Ys,?_⟩;·exact⟨⟨_,_,_,e0,⟨A2.cells nks,λ_=>⟨rfl,.inl .nil⟩,rfl⟩,rfl,rfl,rfl,(Ay _).symm⟩,e1,Ae⟩
    ·refine Yv1 ?_;exact fz rfl rfl (λq hq=>by cases hq;exact⟨rfl,rfl⟩) rfl rfl Ab rfl Ac Yf
 ·rcases o with _|⟨ns,cc⟩
  ·refine Yq pl pf ?_;have nk1:=J4 [x];have nk2:=J4 [x,y];have nk3:=J4 [x,y,z];have nks:=J4 (Fy [x,y,z]);refine En [(k0,B4.mk (.cells (C9 aV [x,y,z])) true false [k1,k2] []),(k1,eb (C9 aV [x,y])),(k2,eb (C9 aV [x]))] k3 [(k0,k7),(k1,k6),(k2,k5)] (wW x y z (hk x Ac) (hk y Ac) (hk z Ac)) Yb Ya ?_;rintro rc gc' ⟨rfl,⟨e0,e1,e2⟩|⟨lg,e0,e1,e2⟩⟩
   ·refine⟨[],k8,[some ⟨.cells (C9 aV (Fy [x,y,z])),true,false,[k6,k5],[]⟩,some (eb (C9 aV [x,y])),some (eb (C9 aV [x]))],[],.unit,rfl,Rl,?_,Ae,Ys,?_⟩;·exact⟨⟨_,_,_,e0,⟨A2.cells nks,λ_=>⟨rfl,.inl (.cons rfl (.cons rfl .nil))⟩,rfl⟩,rfl,rfl,rfl,rfl⟩,⟨_,_,_,e1,⟨A2.cells nk2,Ep,rfl⟩,rfl,rfl,rfl,rfl⟩,⟨_,_,_,e2,⟨A2.cells nk1,Ep,rfl⟩,rfl,rfl,rfl,rfl⟩,Ae⟩
    ·refine Yv1 ?_;exact fz rfl rfl (λq hq=>by cases hq) rfl rfl Ab rfl Ac Yf
   ·refine⟨[],k8,[some ⟨.cells (C9 aV (Fy [x,y,z])),true,false,[],lg⟩,none,none],[],.unit,rfl,Rl,?_,Ae,Ys,?_⟩;·exact⟨⟨_,_,_,e0,⟨A2.cells nks,λ_=>⟨rfl,.inl .nil⟩,rfl⟩,rfl,rfl,rfl,(Ay _).symm⟩,e1,e2,Ae⟩
    ·refine Yv1 ?_;exact fz rfl rfl (λq hq=>by cases hq) rfl rfl Ab rfl Ac Yf
  ·refine Yq pl pf ?_;have nk1:=J4 [x];have nk2:=J4 [x,y];have nk3:=J4 [x,y,z];have nks:=J4 (Fy [x,y,z]);refine En [(k0,B4.mk (.cells (C9 aV [x,y,z])) true false [k1,k2] []),(k1,eb (C9 aV [x,y])),(k2,eb (C9 aV [x]))] k3 [(k0,k7),(k1,k6),(k2,k5)] (wW x y z (hk x Ac) (hk y Ac) (hk z Ac)) Yb Ya ?_;rintro rc gc' ⟨rfl,⟨e0,e1,e2⟩|⟨lg,e0,e1,e2⟩⟩
   ·refine⟨[],k8,[some ⟨.cells (C9 aV (Fy [x,y,z])),true,false,[k6,k5],[]⟩,some (eb (C9 aV [x,y])),some (eb (C9 aV [x]))],[],.unit,rfl,Rl,?_,Ae,Ys,?_⟩;·exact⟨⟨_,_,_,e0,⟨A2.cells nks,λ_=>⟨rfl,.inl (.cons rfl (.cons rfl .nil))⟩,rfl⟩,rfl,rfl,rfl,rfl⟩,⟨_,_,_,e1,⟨A2.cells nk2,Ep,rfl⟩,rfl,rfl,rfl,rfl⟩,⟨_,_,_,e2,⟨A2.cells nk1,Ep,rfl⟩,rfl,rfl,rfl,rfl⟩,Ae⟩
    ·refine Yv1 ?_;exact fz rfl rfl (λq hq=>by cases hq;exact⟨rfl,rfl⟩) rfl rfl Ab rfl Ac Yf
   ·refine⟨[],k8,[some ⟨.cells (C9 aV (Fy [x,y,z])),true,false,[],lg⟩,none,none],[],.unit,rfl,Rl,?_,Ae,Ys,?_⟩;·exact⟨⟨_,_,_,e0,⟨A2.cells nks,λ_=>⟨rfl,.inl .nil⟩,rfl⟩,rfl,rfl,rfl,(Ay _).symm⟩,e1,e2,Ae⟩
    ·refine Yv1 ?_;exact fz rfl rfl (λq hq=>by cases hq;exact⟨rfl,rfl⟩) rfl rfl Ab rfl Ac Yf
 ·simp at hA
end
section
attribute [local irreducible] PX PXL PXC
theorem AbO (n:Nd):∀v∈nV n,A2 v:=λv h=>dP [n] v (by simpa[C9] using h)
def nsO:Option (List Nd×Ey)->List Nd
 |none=>[]
 |some q=>q.1
theorem Ad4 {P:Program} (pf:PF P Fn) {bs:EF} {i:Nat} (hi:i<=3) {o:Option (List Nd×Ey)} (ho:TD i o) {n:Nd} {cd:B7} {Q Q':PQT} (hn:∀L g,PX P 0 cd L g [] Q->Q' .normal L g [])
  (hQ:∀L g cc,(∀v∈cc,A2 v)->(∃ρ,Trim 0 ρ L g (jN bs i) (mkH (hN (some (nsO o++[n],cc)) (i+1)) k4))->PX P 0 cd L g [] Q):PX P 0 cAp (jN bs i++[(k7,pB k4)]) (mkH (hO o i n) k8) [] Q':=by
 have nk1:=AbO n;have nk2:=dP [n];rcases o with _|⟨ns,cc⟩
 ·have hi0:i=0:=ho;subst hi0;refine Yp pl pf ?_;refine hn _ _ (PX.Mq k4 Zl rfl rfl (PX.KZ k9 k4 Zl rfl rfl rfl (hQ _ _ (nV n) nk1 ⟨_,El (hN (some ([n],nV n)) 1) k4 [(k0,k0),(k1,k1),(k2,k9),(k3,k4)]⟩)))
 ·obtain⟨ho1,ho2,ho3⟩:=ho;have hl:=Kc (f:=nV) (es:=5) (λ_=>rfl) ns;have nk3:=dP (ns++[n]);have e3:C9 nV (ns++[n])=C9 nV ns++nV n:=nR nV ns n;refine Yp pl pf ?_;refine⟨_,_,jB rfl (by rw[hl,ho2]) rfl Ab Aa,?_⟩;refine Yv1 ?_;refine hn _ _ (PX.KZ k9 k3 Zl rfl rfl rfl (hQ _ _ cc ho3 ⟨rho 0 [(k0,k0),(k1,k1),(k2,k9),(k3,k3)],?_⟩));show Trim 0 _ _ _ _ (mkH [(k0,obl [.A4,.A4] []),(k1,obl [.slice k2 0 (i+1) 5 none,.A4] []),(k2,wld (C9 nV (ns++[n])) k3),(k3,fzb cc)] k4);rw[e3] at nk3 ⊢;exact El [(k0,obl [.A4,.A4] []),(k1,obl [.slice k2 0 (i+1) 5 none,.A4] []),(k2,wld (C9 nV ns++nV n) k3),(k3,fzb cc)] k4 [(k0,k0),(k1,k1),(k2,k9),(k3,k3)]
end
section
attribute [local irreducible] PX PXL PXC
def NdE (bs:EF) (i:Nat) (L:Fm) (g:A0):Prop:=∃cc,(∀v∈cc,A2 v)/\∃ρ,Trim 0 ρ L g (jN bs i) (mkH (hN (some ((List.range i).map (Mf bs),cc)) i) k4)
theorem Ad5 {P:Program} (pf:PF P Fn) {bs:EF} (hb:∀b∈bs,b<256) (hl:bs.length<=15) (mk:∀b:Nat,b<256->A3 Fn 10 [PA.lst 1 [[.int .u8 ((b:Int) / 3)]],iA 2] (dA (b / 3 % 16))) {Q:PQT}
  (hQ:∀L g,NdE bs (Gp bs) L g->Q (.exit 0) L g []):PX P 0 cM0 (jN bs 0) (mkH (hN none 0) k4) [] Q:=by
 have hc:Gp bs<=4/\2<=Gp bs:=by unfold Gp;omega
 refine PX.B6 (σ:=Nat) (λi=>Gp bs-i) (λi=>jN bs i) (λi g=>i<=Gp bs/\∃o,TD i o/\nsO o=(List.range i).map (Mf bs)/\g=mkH (hN o i) k4) (λ_=>[]) 0 (ρ:=some) (g0:=mkH (hN none 0) k4) (Trim.same Zl (.cons rfl rfl (.cons rfl rfl (.cons rfl rfl (.cons rfl rfl (.cons rfl rfl (.nil _))))))) .nil ⟨Zl,none,rfl,rfl,rfl⟩ ?_;rintro i g ⟨hi,o,ho,hns,rfl⟩;replace hi:i<=Gp bs:=hi;have tr:∀{L:Fm} {l0 l1:Es} {g:A0} {l4:Es},g.get k0=some (obl [.A4,.A4] l0)->g.get k1=some (obl [ndS o i,.A4] l1)->(∀q,o=some q->g.get k2=some (wld (C9 nV q.1) k3)/\g.get k3=some (fzb q.2))->g.get k4=some (obl (xC i (alS [])) l4)->Jz (rho 0 (rO o)) L (jN bs i++[(k7,pB k4)]) ->
   ∃ρ,Trim 0 ρ L g (jN bs i++[(k7,pB k4)]) (mkH (hI o i []) k8):=by
  intro L l0 l1 g l4 e0 e1 e2 e4 hf
  cases o with
  |none=>exact⟨_,Trim.of (rO none) rfl Zl Ae ⟨⟨_,_,rfl,e0,.same Yc⟩,⟨_,_,rfl,e1,.same Yc⟩,⟨_,_,rfl,e4,.same Yc⟩,Ae⟩ hf⟩
  |some q=>
   obtain⟨ns,cc⟩:=q
   obtain⟨ho1,ho2,ho3⟩:=ho
   obtain⟨e2,e3⟩:=e2 _ rfl
   exact⟨_,Trim.of (rO (some (ns,cc))) rfl Zl Ae ⟨⟨_,_,rfl,e0,.same Yc⟩,⟨_,_,rfl,e1,.same Yc⟩,⟨_,_,rfl,e2,⟨A2.cells (dP ns),λ_=>⟨rfl,.inl (.cons rfl .nil)⟩,rfl⟩⟩,⟨_,_,rfl,e3,⟨A2.cells ho3,λ_=>⟨rfl,.inl .nil⟩,rfl⟩⟩,⟨_,_,rfl,e4,.same Yc⟩,Ae⟩ hf⟩
 have rest:∀{L:Fm} {g:A0} {Q Q':PQT} {cd:B7},i<=3->(∃ρ,Trim 0 ρ L g (jN bs i++[(k7,pB k4)]) (mkH (hI o i []) k8))->(∀L g,PX P 0 cd L g [] Q->Q' .normal L g []) ->
   (∀L g cc,(∀v∈cc,A2 v)->(∃ρ,Trim 0 ρ L g (jN bs i) (mkH (hN (some (nsO o++[Mf bs i],cc)) (i+1)) k4))->PX P 0 cd L g [] Q)->PX P 0 (nav [0,1,0,0,1] cM0) L g [] Q':=by
  rintro L g Q Q' cd h3 ⟨ρ,t⟩ h1 h2
  refine PX.trim t .nil (PX.seq (Eh pl pf ?_))
  refine Yv1 ?_
  refine PX.block (PX.trim (Trim.same (L2:=jI bs i 0) Zl (.cons rfl rfl (.cons rfl rfl (.cons rfl rfl (.cons rfl rfl (.cons rfl rfl (.cons rfl rfl (.cons rfl rfl (.nil _))))))))) .nil (Ad2 pf hb hl mk h3 ho ?_))
  rintro L g ⟨ρ,t⟩
  refine PX.trim t .nil (Ad3 pf ho (kU bs i 3) (λa ha=>(XV ha).1) ?_)
  rintro L g ⟨ρ,t⟩
  exact PX.trim t .nil (Ad4 pf h3 ho h1 h2)
 refine PX.seq (Eh pl pf ?_);refine Yv1 ?_;refine Ei pl pf ?_;refine⟨λh=>?_,λh=>?_⟩
 ·have hi3:i<Gp bs:=by have:=B0 h;omega
  have hi33:i<=3:=Aa;refine Yv1 ?_;refine PX.seq (PX.block ?_);have fin:∀L g cc,(∀v∈cc,A2 v)->(∃ρ,Trim 0 ρ L g (jN bs i) (mkH (hN (some (nsO o++[Mf bs i],cc)) (i+1)) k4))->PX P 0 (nav [0,1,1] cM0) L g [] λx L1 g1 I1=>match x with
     |.normal=>∃s' ρ g2 Ia Ib,Gp bs-s'<Gp bs-i/\Trim 0 ρ L1 g1 (jN bs s') g2/\I1=Ia++Ib/\A1 (ItN ρ) [] Ia/\s'<=Gp bs/\∃o,TD s' o/\nsO o=(List.range s').map (Mf bs)/\g2=mkH (hN o s') k4
     |.exit i=>Q (.exit i) L1 g1 I1
     |.ret=>Q .ret L1 g1 I1:=by
   rintro L g cc hcc ⟨ρ,t⟩
   have hns':nsO o++[Mf bs i]=(List.range (i+1)).map (Mf bs):=by rw[Cy,Cm,hns];rfl
   rw[hns'] at t
   refine PX.trim t .nil (Ei pl pf ?_)
   refine Yv1 ?_
   exact⟨i+1,some,_,[],[],Aa,Trim.same Zl (.cons rfl rfl (.cons rfl rfl (.cons rfl rfl (.cons rfl rfl (.cons rfl rfl (.nil _)))))),rfl,.nil,hi3,some _,⟨Nat.succ_pos _,Ac,hcc⟩,rfl,rfl⟩
  rcases o with _|⟨ns,cc⟩;·refine Yq pl pf ?_;exact rest hi33 (tr rfl rfl (λq hq=>by cases hq) rfl Yf) (λ_ _ h=>h) fin
  ·refine Yq pl pf ?_;exact rest hi33 (tr rfl rfl (λq hq=>by cases hq;exact⟨rfl,rfl⟩) rfl Yf) (λ_ _ h=>h) fin
 ·have hk3:i=Gp bs:=by have:=B5 h;omega
  subst hk3;rcases o with _|⟨ns,cc⟩
  ·have:Gp bs=0:=ho;omega
  ·have hns:ns=_:=hns;subst hns;exact hQ _ _ ⟨cc,ho.2.2,some,Trim.same Zl (.cons rfl rfl (.cons rfl rfl (.cons rfl rfl (.cons rfl rfl (.cons rfl rfl (.nil _))))))⟩
end
section
attribute [local irreducible] PX PXL PXC
abbrev jRt (N j:Nat):Fm:=[(k2,pB k0),(k4,pB k1),(k5,.v (iA N)),(k12,.v (iA j))]
def lO (i:Nat):Nat×Nat:=(i,(170+40*i) % 256 % 16)
abbrev hR (ns:List Nd) (cc:Ey) (N:Nat):Nat->List (Key×B4)
 |0=>[(k0,obl [.A4,.A4] []),(k1,obl [.slice k2 0 N 5 none,.A4] []),(k2,wld (C9 nV ns) k3),(k3,fzb cc)]
 |j+1=>[(k0,obl [.A4,.A4] []),(k1,obl [.slice k2 0 N 5 none,.slice k4 0 (j+1) 3 none] []),(k2,wld (C9 nV ns) k3),(k3,fzb cc),(k4,wld (C9 rV ((List.range (j+1)).map lO)) k3)]
def nxR:Nat->Key
 |0=>k4
 |_+1=>k5
theorem Ad6 {P:Program} (pf:PF P Fn) (mr:∀j:Nat,j<4->A3 Fn 10 [PA.lst 1 [[.int .u8 ((170+((j:Int) % 256*40) % 256) % 256)]],iA 2] (dA ((170+40*j) % 256 % 16))) {N:Nat} (hN:N<=4) {ns:List Nd} {cc:Ey} (hcc:∀v∈cc,A2 v) {Q:PQT}
  (hQ:∀L g,(∃ρ,Trim 0 ρ L g (jRt N N) (mkH (hR ns cc N N) (nxR N)))->Q (.exit 6) L g []):PX P 0 cM6 (jRt N 0) (mkH (hR ns cc N 0) k4) [] Q:=by
 have nkn:=dP ns;refine PX.B6 (σ:=Nat) (λj=>N-j) (λj=>jRt N j) (λj g=>j<=N/\g=mkH (hR ns cc N j) (nxR j)) (λ_=>[]) 0 (ρ:=some) (g0:=mkH (hR ns cc N 0) k4) (Trim.same Zl (.cons rfl rfl (.cons rfl rfl (.cons rfl rfl (.cons rfl rfl (.nil _)))))) .nil ⟨Zl,rfl⟩ ?_;rintro j g ⟨hj,rfl⟩;replace hj:j<=N:=hj;refine PX.seq (Eh pl pf ?_);refine Yv1 ?_;refine Ei pl pf ?_;refine⟨λh=>?_,λh=>?_⟩
 ·have hj3:j<N:=by have:=B0 h;omega
  have mj:=mr j Aa;generalize hd:(170+40*j) % 256 % 16=d at mj;have hrt:lO j=(j,d):=by unfold lO;rw[hd]
  have nk1:=Aam [(j,d)];refine Yv1 ?_;refine PX.seq (PX.block ?_);have fin:∀L g,(∃ρ,Trim 0 ρ L g (jRt N j) (mkH (hR ns cc N (j+1)) k5))->PX P 0 (nav [0,1,1] cM6) L g [] λx L1 g1 I1=>match x with
     |.normal=>∃s' ρ g2 Ia Ib,N-s'<N-j/\Trim 0 ρ L1 g1 (jRt N s') g2/\I1=Ia++Ib/\A1 (ItN ρ) [] Ia/\s'<=N/\g2=mkH (hR ns cc N s') (nxR s')
     |.exit i=>Q (.exit i) L1 g1 I1
     |.ret=>Q .ret L1 g1 I1:=by
   rintro L g ⟨ρ,t⟩
   refine PX.trim t .nil (Ei pl pf ?_)
   refine Yv1 ?_
   exact⟨j+1,some,_,[],[],Aa,Trim.same Zl (.cons rfl rfl (.cons rfl rfl (.cons rfl rfl (.cons rfl rfl (.nil _))))),rfl,.nil,hj3,rfl⟩
  rcases j with _|j;·refine Yp pl pf ?_;refine PX.KZ k6 k3 Zl rfl rfl rfl (fin _ _ ⟨rho 0 [(k0,k0),(k1,k1),(k2,k2),(k3,k3),(k4,k6)],?_⟩);show Trim 0 _ _ _ _ (mkH [(k0,obl [.A4,.A4] []),(k1,obl [.slice k2 0 N 5 none,.slice k4 0 1 3 none] []),(k2,wld (C9 nV ns) k3),(k3,fzb cc),(k4,wld (C9 rV [lO 0]) k3)] k5);rw[hrt];exact El [(k0,obl [.A4,.A4] []),(k1,obl [.slice k2 0 N 5 none,.slice k4 0 1 3 none] []),(k2,wld (C9 nV ns) k3),(k3,fzb cc),(k4,wld (C9 rV [(0,d)]) k3)] k5 [(k0,k0),(k1,k1),(k2,k2),(k3,k3),(k4,k6)]
  ·have hl:=Kc (f:=rV) (es:=3) (λ_=>rfl) ((List.range (j+1)).map lO);rw[Lm,CL] at hl;have e3:C9 rV ((List.range (j+1+1)).map lO)=C9 rV ((List.range (j+1)).map lO)++rV (j+1,d):=by rw[Cy,Cm,<-hrt];exact nR ..
   have nkr:=Aam ((List.range (j+1+1)).map lO);refine Yp pl pf ?_;refine⟨_,_,jB rfl (by rw[hl]) rfl Ab Aa,?_⟩;refine Yv1 ?_;refine PX.KZ k7 k3 Zl rfl rfl rfl (fin _ _ ⟨rho 0 [(k0,k0),(k1,k1),(k2,k2),(k3,k3),(k4,k7)],?_⟩);show Trim 0 _ _ _ _ (mkH [(k0,obl [.A4,.A4] []),(k1,obl [.slice k2 0 N 5 none,.slice k4 0 (j+1+1) 3 none] []),(k2,wld (C9 nV ns) k3),(k3,fzb cc),(k4,wld (C9 rV ((List.range (j+1+1)).map lO)) k3)] k5);rw[e3] at nkr ⊢;exact El [(k0,obl [.A4,.A4] []),(k1,obl [.slice k2 0 N 5 none,.slice k4 0 (j+1+1) 3 none] []),(k2,wld (C9 nV ns) k3),(k3,fzb cc),(k4,wld (C9 rV ((List.range (j+1)).map lO)++rV (j+1,d)) k3)] k5 [(k0,k0),(k1,k1),(k2,k2),(k3,k3),(k4,k7)]
 ·have hk3:j=N:=by have:=B5 h;omega
  subst hk3;exact hQ _ _ ⟨some,Trim.same Zl (.cons rfl rfl (.cons rfl rfl (.cons rfl rfl (.cons rfl rfl (.nil _)))))⟩
end
section
attribute [local irreducible] PX PXL PXC
theorem AbP {P:Program} (pf:PF P Fn) (D:Xt) {f:Fo} (w:WF0 f) {N M:Nat} (hN:N=f.ns.length) (hM:M=f.rs.length) {cc:Ey} {Q:PQT}
  (hQ:∀L g,(match Uu L g C.f6.results with
   |some l=>G3 l=.tup [.agg (foC f),.s (.bool (f.ns.all fmB))]
   |none=>False)->Q .ret L g []) :
  PX P 0 (nav [1,1,1,1,1] C.f6.body) (jRt N N) (mkH [(k0,obl [.A4,.A4] []),(k1,obl [.slice k2 0 N 5 none,.slice k4 0 M 3 none] []),(k2,wld (C9 nV f.ns) k3),(k3,fzb cc),(k4,wld (C9 rV f.rs) k3)] k5) [] Q:=by
 have snd:=Jc D w
 have hfo:=E4 w.n0 w.r0
 rw[hfo] at snd
 have hfc:foC f=[.lst 5 (f.ns.map nV) none,.lst 3 (f.rs.map rV) none]:=by have:=hfo;simpa[foA] using this
 rw[hfc] at hQ
 refine PX.Js k1 0 Zl rfl rfl (kW (f:=nV) (λ_=>rfl) Ab w.n0 rfl (XY _) hN) rfl ?_
 refine PX.Js k1 1 Zl rfl rfl (kW (f:=rV) (λ_=>rfl) Ab w.r0 rfl (XZ _) hM) rfl ?_
 refine Yq pl pf ?_
 refine Yp pl pf ?_
 exact hQ _ _ rfl
theorem TG {P:Program} (pf:PF P Fn) (D:Xt) {bs:EF} (hb:∀b∈bs,b<256) (hl:bs.length<=15) (mk:∀b:Nat,b<256->A3 Fn 10 [PA.lst 1 [[.int .u8 ((b:Int) / 3)]],iA 2] (dA (b / 3 % 16)))
  (mr:∀j:Nat,j<4->A3 Fn 10 [PA.lst 1 [[.int .u8 ((170+((j:Int) % 256*40) % 256) % 256)]],iA 2] (dA ((170+40*j) % 256 % 16))) :
  PXC P 6 [PA.lst 1 (uB bs)] (mkH [] k0) λr _=>r=.tup [.agg (foC (loose bs)),.s (.bool ((loose bs).ns.all fmB))]:=by
 have w:=kT (l:=bs) hl;have snd:=Jc D w;have hfo:=E4 w.n0 w.r0;have hc:Gp bs<=4/\2<=Gp bs:=by unfold Gp;omega
 have hlen:(uB bs).length=bs.length:=Ac;refine PXC.of pf (vf:=C.f6) rfl ?_;refine Yq pl pf ?_;refine Yq pl pf ?_;refine Yq pl pf ?_;refine PX.seq (Eh pl pf ?_);refine Yv1 ?_;have e5:(((2:Nat):Int)+((uB bs).length:Int) / ((6:Nat):Int) % ((4:Nat):Int))=(Gp bs:Int):=by rw[hlen];unfold Gp;omega
 have e5':RnA (rho 0 [(k0,k0),(k1,k1)]) (iA (Gp bs)) (.v (.s (.int .i64 (((2:Nat):Int)+((uB bs).length:Int) / ((6:Nat):Int) % ((4:Nat):Int))))):=by rw[e5];exact rfl
 refine PX.block (PX.trim (Trim.of (l:=hN none 0) (nx:=k4) (L2:=jN bs 0) [(k0,k0),(k1,k1)] rfl Zl Ae Yb (by(repeat' first|refine⟨⟨_,rfl,rfl⟩,?_⟩|refine⟨⟨_,rfl,A2.rn (by assumption)⟩,?_⟩|exact trivial|fail);exact⟨⟨_,rfl,e5'⟩,⟨_,rfl,rfl⟩,Ae⟩)) .nil (Ad5 pf hb hl mk ?_));rintro L g ⟨cc,hcc,ρ,t⟩;refine PX.trim t .nil (PX.seq (Eh pl pf ?_));refine Yv1 ?_;refine PX.block (PX.trim (Trim.of (l:=hR ((List.range (Gp bs)).map (Mf bs)) cc (Gp bs) 0) (nx:=k4) (L2:=jRt (Gp bs) 0) [(k0,k0),(k1,k1),(k2,k2),(k3,k3)] rfl Zl Ae ?_ Yf) .nil (Ad6 pf mr hc.1 hcc ?_));·exact⟨⟨_,_,rfl,rfl,.same Yc⟩,⟨_,_,rfl,rfl,.same Yc⟩,⟨_,_,rfl,rfl,⟨A2.cells (dP _),λ_=>⟨rfl,.inl (.cons rfl .nil)⟩,rfl⟩⟩,⟨_,_,rfl,rfl,⟨A2.cells hcc,λ_=>⟨rfl,.inl .nil⟩,rfl⟩⟩,Ae⟩
 rintro L g ⟨ρ,t⟩;have e:hR ((List.range (Gp bs)).map (Mf bs)) cc (Gp bs) (Gp bs)=[(k0,obl [.A4,.A4] []),(k1,obl [.slice k2 0 (Gp bs) 5 none,.slice k4 0 (Gp bs) 3 none] []),(k2,wld (C9 nV (loose bs).ns) k3),(k3,fzb cc),(k4,wld (C9 rV (loose bs).rs) k3)]/\nxR (Gp bs)=k5:=by obtain⟨m,hm⟩:∃m,Gp bs=m+1:=⟨Gp bs-1,Aa⟩;unfold loose;rw[hm];exact⟨rfl,rfl⟩
 rw[e.1,e.2] at t;exact PX.trim t .nil (AbP pf D w (by simp[loose]) (by simp[loose]) λL g h=>h)
end
theorem kX {T:EG}:∀{ks:EF},(∀k∈ks,∀t∈T k,t.length<=sz k)->∀s∈B9 T ks,s.length<=(ks.map sz).sum
 |[],_,s,h=>by simp only[B9,Ar] at h;subst h;exact Zl
 |k::ks,hk,s,h=>by simp only[B9,AY,Aw] at h;obtain⟨u,hu,v,hv,rfl⟩:=h;have h1:=hk k (.head _) u hu;have h2:=kX (λj hj=>hk j (.tail _ hj)) v hv;simp only[La,AG,List.sum_cons];omega
theorem YA {f:Fo} {c:Nat} (w:WF0 f):∀i,i<f.ns.length->∀t∈Tr2 f c i,t≠[]/\t.length<=sz i:=by
 intro i;induction i using Nat.strongRecOn with
 |ind i ih=>
  intro hi t ht;obtain⟨n,hn⟩:∃n,f.ns[i]?=some n:=⟨_,Gg hi⟩;have hl:=w.len;have e:=qK (c:=c) (Sv w) i n hn;rw[show Tr2 f c i=_ from e,C7,AY] at ht;obtain⟨a,ha,ht⟩:=ht;obtain⟨h1,h2,_⟩:=w.al i n hn a ha;split at ht;·obtain⟨s,hs,rfl⟩:=Aw.1 ht;have:=kX (λk hk u hu=>(ih k (h2 k hk) (by have:=h2 k hk;omega) u hu).2) s hs;have:=WD (i:=i) Aa h1 h2;exact⟨Ac,by simp only[Ap];omega⟩
  ·cases ht
theorem YB {f:Fo} {c:Nat} (w:WF0 f) {n:Nat} {t:Tre} (h:(B1 (Tr2 f c) c f.rs)[n]?=some t):t≠[]/\t.length<=15:=by
 have ht:=Aq h;rw[B1,AY] at ht;obtain⟨r,hr,ht⟩:=ht;split at ht;·obtain⟨i,hi⟩:=BP.1 hr;have h1:=(w.rt i r hi).1;have h2:=(Gi.1 hi).1;have h3:=w.Nl;have h4:=w.len;obtain⟨h5,h6⟩:=YA w r.1 Aa t ht;exact⟨h5,AQ h6 (QN _ Aa)⟩
 ·cases ht
section
attribute [local irreducible] PX PXL PXC
theorem YC (l:EF) (n:Nat):(uB l).take n=uB (l.take n):=Dq.symm
theorem AbQ (l:EF) (g:A0):opP (.slice (.slice 1) false true false) [.v (.s (.lst 1 (uB l) none)),.v (.s (.int .i64 (if((15:Nat):Int)<((uB l).length:Nat) then((15:Nat):Int) else((uB l).length:Nat))))] g=some (.v (.s (.lst 1 (uB (l.take 15)) none)),g):=by
 have hn:(uB l).length=l.length:=Ac;show Hv g (Lx 1 (.lst 1 (uB l) none) (none,some _,none))=_;by_cases h:((15:Nat):Int)<((uB l).length:Nat);·rw[Aj h];have h1:15<(uB l).length:=Aa;simp only[Lx,bounds,bnd,DH];rw[Aj Ae,Aj Aa];show Hv g (some (.lst 1 (List.take (15-0) (List.drop 0 (uB l))) none))=_;rw[CG,YC];rfl
 ·rw[Ao h];simp only[Lx,bounds,bnd,DH];rw[Aj Ae,Aj Aa];show Hv g (some (.lst 1 (List.take ((uB l).length-0) (List.drop 0 (uB l))) none))=_;rw[CG,CP,AB,Cb (by omega:l.length<=15)];rfl
theorem rZ {n:Nat} {u v:PV} (hu:A6 n u) (hv:A6 n v):A3 Fn 12 [.v (.s u),.v (.s v)] (bA true):=by
 have em:∀u v:PV,(u=.A4∨u=.lst 1 [] none)->(v=.A4∨v=.lst 1 [] none)->A3 Fn 12 [.v (.s u),.v (.s v)] (bA true):=by
  intro u v hu hv;refine Ej pv C.f12 rfl ?_;rcases hu with rfl|rfl<;>rcases hv with rfl|rfl
  ·refine Yx pv ?_;exact Yw0
  ·refine Yx pv ?_;exact Yw0
  ·refine Yx pv ?_;exact Yw0
  ·refine Yx pv ?_;exact Yw0
 cases hu with
 |nil=>
  cases hv with
  |nil=>exact em _ _ Ac Ac
  |emp=>exact em _ _ Ac Ac
  |one _ h0 h=>exact absurd h0 Ab
 |emp=>
  cases hv with
  |nil=>exact em _ _ Ac Ac
  |emp=>exact em _ _ Ac Ac
  |one _ h0 h=>exact absurd h0 Ab
 |one n h0 h=>
  cases hv with
  |nil=>exact absurd h0 Ab
  |emp=>exact absurd h0 Ab
  |one n h0 h=>have:=XU [(n:Int)] [(n:Int)] Ac Ac;simpa using this
end
def pc (n:Nat):Bool:=pr n||Sp [12,48] n
theorem AbR {d:Nat} (h:d<16):A3 Fn 48 [dA d,dA d] (bA true):=by rw[<-D8];exact ent (E.AbH d h)
theorem TH {L:List Cl} {i:Nat} {a:Cl} (h:L[i]?=some a):(L.map cC)[(i:Int).toNat]?=some [a.v,dN a.d,.int .i64 (dR a.d)]:=by simp[h]
theorem wZ {f:Fo}:∀{k r:Nat} {S:Es},(wP f k r S).length<=S.length+k
 |0,_,_=>Rl
 |k+1,r,S=>by have h1:=wZ (f:=f) (k:=k) (r:=r-ptq r) (S:=I8 (nmq f (lsq r)) (ptq r) S);have h2:=kO (n:=nmq f (lsq r)) (d:=ptq r) (S:=S);show(wP f k (r-ptq r) (I8 (nmq f (lsq r)) (ptq r) S)).length<=_;omega
theorem TI {L M:List Cl} (hL:∀a∈L,COk a) (hM:∀a∈M,COk a) (h0:L.map kyC=M.map kyC) (hl:L.length<=1000):A3 Fn 13 [.v (.s (slV 3 (L.map cC))),.v (.s (slV 3 (M.map cC)))] (bA true):=by
 have hlen:L.length=M.length:=by have:=Bh List.length h0;simpa using this
 have h1:(L.map cC).length=L.length:=Lm ..;have h2:(M.map cC).length=L.length:=by rw[Lm];exact hlen.symm
 refine Ej pc C.f13 rfl ?_;rcases L with _|⟨a0,L⟩
 ·obtain rfl:M=[]:=by simpa using h0.symm
  refine Yx pc ?_;exact Yw0
 rcases M with _|⟨b0,M⟩;·simp at h0
 generalize e1:a0::L=l1 at *;generalize e2:b0::M=l2 at *;have s1:slV 3 (l1.map cC)=.lst 3 (l1.map cC) none:=by rw[<-e1];rfl
 have s2:slV 3 (l2.map cC)=.lst 3 (l2.map cC) none:=by rw[<-e2];rfl
 rw[s1,s2];clear s1 s2 e1 e2;refine Yw2 (λh=>?_) (λh=>?_);·exact absurd h (by rw[h1,h2];simp)
 refine Yw1 ?_;refine XW.B6 (pu:=pc) (σ:=Nat) (λi=>l1.length-i) (λi=>[(k0,.v (PA.lst 3 (l1.map cC))),(k1,.v (PA.lst 3 (l2.map cC))),(k5,.v (iA i))]) (λi g=>i<=l1.length/\g=mkH [] k0) 0
  (Em [] k0 [] Ae Yf) ⟨Zl,rfl⟩ ?_
 rintro i g ⟨hi,rfl⟩;replace hi:i<=l1.length:=hi;refine⟨λh=>?_,λh=>?_⟩
 ·have hi:i<l1.length:=by have:=B0 h;omega
  have ha:l1[i]?=some l1[i]:=Gg hi;have hb:l2[i]?=some (l2[i]'Aa):=Gg Aa;generalize l1[i]=a at ha;generalize l2[i]'Aa=b at hb;have hk:kyC a=kyC b:=by have:=Bh (λl=>l[i]?) h0;simpa[ha,hb] using this
  injection hk with hk1 hk2
  obtain⟨a1,a2⟩:=hL a (Aq ha);obtain⟨b1,b2⟩:=hM b (Aq hb);have hga:=TH ha;have hgb:=TH hb;rw[<-hk2] at hgb;have hsn:=rZ a1 (by rw[hk1];exact b1);have hsd:=AbR a2;have f1:=a1.flat;have f2:=b1.flat;have n1:=a1.nk;have n2:=b1.nk;refine Ywc ?_;exact⟨i+1,_,_,Lq,Em [] k0 [] Ae Yf,hi,rfl⟩
 ·exact Yw0
end Go.Pv
end
section
noncomputable section
namespace Go.Pv
open Go.Vm
open Go.Vm.Key (kn)
set_option maxRecDepth 40000
set_option maxHeartbeats 0
theorem XW.MM {F:D5} {lo:Nat} {cd:B7} {L:Fm} {g g1:A0} {Q:Fk->Fm->A0->Prop} (k:Key) {e:FE} {x':PA} (hL:look L k=some e) (hx:G4 deep e.pa g=some (x',g1))
  (h:XW F lo cd (Jj L (some k) (.v x')) g1 Q):XW F lo cd L g Q:=by
 intro s0 s h0 hlo hs he hgs fr1 hfr;subst hgs;obtain⟨u,f1,f2⟩:=hfr k e.pa (Ha L k e hL);obtain⟨Z1,h1,h2⟩:=V0 hs.toGu f2 hx;have e0:=h1.ext s0.g.next.toNat s0.h.next.toNat;refine h s0 _ h0 hlo ⟨h1.sim,h1.room hs.toRoom⟩ (he.trans h0.toGu e0 Rl Rl) rfl fr1 λj v ej=>?_;obtain⟨y,hy,rfl⟩:=M0 _ j v ej;by_cases hj:k=j
 ·subst hj;have:y=.v x':=by
   have:look (Jj L (some k) (.v x')) k=some (.v x'):=by simp[Jj,look,Gy]
   rw[this] at hy;exact(Cw hy).symm
  subst this;exact⟨u,f1,h2.a⟩
 ·have hy:look L j=some y:=by
   rw[<-hy];simp only[Jj,look];split;·next hk=>exact absurd (He hk) hj
   ·rfl
  obtain⟨u2,a1,a2⟩:=hfr j y.pa (Ha L j y hy);exact⟨u2,a1,a2.mono e0.zle (λ_ _ h=>h)⟩
end Go.Pv
end
section
noncomputable section
namespace Go.Pv
open Go.Vm Go.Vm.C
open Go.Vm.Key (kn)
set_option maxRecDepth 40000
set_option maxHeartbeats 0
def pn (n:Nat):Bool:=pu n||Sp [57,181,182] n
def aH (n:Nat):PV:=.lst 1 (uL ([n].take (Ga [n] 1))) none
theorem S6 {n:Nat} (h:n<4294967296):A6 n (aH n):=Sq n h
theorem AbS (n:Nat):[n,0].take (Ga [n,0] 2)=[n].take (Ga [n] 1):=by rw[show Ga [n,0] 2=Ga [n] 1 from by simp[Ga]];have:=Zs [n] 1;rcases(by omega:Ga [n] 1=0∨Ga [n] 1=1) with h|h<;>rw[h]<;>rfl
theorem sA {a b:Nat} {v w:PV} (ha:A6 a v) (hb:A6 b w) (hs:b<=a):A3 Fn 57 [.v (.s v),.v (.s w)] (.tup [.s (aH (a-b)),.s (.int .i64 ((0:Nat):Int))]):=by
 have l0:∀{g R},R (uA a) g->XC Fn 111 [.v (.s v),iA 0] g R:=Wz ha rfl;have l1:∀{g R},R (uA b) g->XC Fn 111 [.v (.s w),iA 0] g R:=Wz hb rfl;have v0:=G6 ha;have v1:=G6 hb;have cm:=Lh ha hb;have hc:¬Iq (a:Int) (b:Int)<((0:Nat):Int):=by unfold Iq;split;omega;split<;>omega
 have fv:=ha.flat;have fw:=hb.flat;have hlt:=ha.lt;have e1:IntKind.wrap .u32 ((IntKind.wrap .u64 (IntKind.wrap .u64 (((4294967296:Nat):Int)+(a:Int)-(b:Int))-((0:Nat):Int))).tmod ((4294967296:Nat):Int))=((a-b:Nat):Int):=by rw[wrap_u64 (n:=((4294967296:Nat):Int)+(a:Int)-(b:Int)) Aa,wrap_u64 Aa,wrap_u32,Bv Aa];omega
 cases ha with
 |one _ h0 h=>refine Ej pn C.f57 rfl ?_;refine Yz pn ?_;refine l0 ?_;refine Yw1 ?_;refine l1 ?_;refine Yz pn ?_;exact⟨_,_,_,rfl,AaI e1,_,rfl⟩
 |_=>obtain rfl:b=0:=Aa;refine Ej pn C.f57 rfl ?_;refine Yz pn ?_;exact⟨_,_,_,rfl,pV [] Ab,_,rfl⟩
def nL (l:EF):Eu:=l.map λ(n:Nat)=>[.int .i64 (n:Int)]
theorem FC (l:EF):(nL l).length=l.length:=Lm ..
theorem TJ {l:EF} {i n:Nat} (h:l[i]?=some n):(nL l)[i]?=some [.int .i64 n]:=by simp[nL,h]
def Hb:EF->Nat
 |[]=>0
 |x::l=>x+2*Hb l
theorem aI:∀(a b:EF),Hb (a++b)=Hb a+2 ^ a.length*Hb b
 |[],b=>by simp[Hb]
 |x::a,b=>by rw[AH,Hb,Hb,aI a b,Ap,DE];rw[Nat.mul_add,Ct (2 ^ a.length) 2,Nat.mul_assoc];omega
theorem FD {l:EF} {k x:Nat} (h:l[k]?=some x):l.drop k=x::l.drop (k+1):=by obtain⟨hk,rfl⟩:=Gi.1 h;exact Ax hk
theorem Ad7 {x:Int} {a:Nat} (hx:x=a):A3 Fn 51 [PA.lst 1 [[.int .u32 x]]] (PA.lst 1 (uL ([a].take (Ga [a] 1)))):=by subst hx;exact eP [a] Ac
def AbT (l:EF) (cap:Option Nat) (v3:PV) (i m top:Nat):Fm:=[sE k0 (.lst 1 (nL l) cap),sE k3 v3,(k4,.v (iA i)),sE k5 (.int .u32 (Hb ((l.take top).drop m):Nat)),(k6,.v (iA ((m:Int)-((1:Nat):Int))))]
theorem YD {l:EF} {cap:Option Nat} (h1:∀x∈l,x<=1) (hl:l.length<=64) (hv:Hb l<4294967296):A3 Fn 182 [.v (.s (.lst 1 (nL l) cap))] (.v (.s (aH (Hb l)))):=by
 have hlen:=FC l;have key:∀(i top m:Nat),(l.take top).length=top->i<=m->m+1<=top->Hb ((l.take top).drop i)<4294967296->∃x,(nL l)[(((m+1:Nat):Int)-((1:Nat):Int)).toNat]?=some [.int .i64 (x:Nat)]/\x<=1/\Hb ((l.take top).drop m)=x+2*Hb ((l.take top).drop (m+1))/\Hb ((l.take top).drop m)<4294967296:=by
  intro i top m ht him hmt hvi;have hm:m<l.length:=by rw[Ba] at ht;omega
  have e:(l.take top)[m]?=some l[m]:=by rw[AT,Aj Aa,Gg hm]
  refine⟨l[m],by rw[show(((m+1:Nat):Int)-((1:Nat):Int)).toNat=m from Aa];exact TJ (Gg hm),h1 _ (AU hm),by rw[FD e,Hb],?_⟩;have:(l.take top).drop i=((l.take top).drop i).take (m-i)++(l.take top).drop m:=by
   conv=>lhs;rw[<-Be (m-i) ((l.take top).drop i)]
   rw[De,show i+(m-i)=m from Aa]
  rw[this,aI] at hvi;have:Hb ((l.take top).drop m)<=2 ^ (((l.take top).drop i).take (m-i)).length*Hb ((l.take top).drop m):=Nat.le_mul_of_pos_left _ (Nat.two_pow_pos _);omega
 have wrp:∀x n:Nat,x+2*n<4294967296->IntKind.wrap .u32 (IntKind.wrap .u32 (((2:Nat):Int)*(n:Nat))+IntKind.wrap .u32 (x:Nat))=((x+2*n:Nat):Int):=by intro x n h;rw[wrap_u32,wrap_u32,wrap_u32];omega
 rcases Nat.eq_zero_or_pos l.length with h0|h0;·obtain rfl:=Bm.1 h0;refine Ej pn C.f182 rfl ?_;refine Yz pn ?_;exact⟨_,_,_,rfl,eP [] Ab,_,rfl⟩
 rcases DT 32 l.length with h32|h32
 ·have hsp:Hb l=Hb (l.take 32)+2 ^ 32*Hb (l.drop 32):=by conv=>lhs;rw[<-Be 32 l,aI,Ba,show min 32 l.length=32 from Aa]
  have hz:Hb (l.drop 32)=0:=Aa;have ht:Hb (l.take 32)=Hb l:=Aa;have ht0:Hb ((l.take 32).drop 0)=Hb l:=by rw[CG,ht]
  have hz0:Hb ((l.take l.length).drop 32)=0:=by rw[AB,hz]
  rw[aH,<-AbS];refine Ej pn C.f182 rfl ?_;refine Yz pn ?_;refine XW.Wy (pu:=pn) (σ:=Nat) id (λm=>AbT l cap (.slice k0 0 0 1 (some 0)) 0 m 32) (λm=>0<=m/\m<=32) 32 Zl ?_ ⟨Aa,Rl⟩ ?_
  ·refine .cons rfl rfl (.cons rfl rfl (.cons rfl rfl (.cons rfl ?_ (.cons rfl ?_ (.nil _)))));·show _=PA.v (PC.s (.int .u32 (Hb _:Nat)));rw[Cd (by rw[Ba];omega)];rfl
   ·refine Bh (λz:Int=>iA (z-((1:Nat):Int))) ?_;show(if _ then _ else _:Int)=((32:Nat):Int);rw[Ao Ab,Aj Aa];rfl
  ·rintro m ⟨hm0,hm⟩;refine⟨λh=>?_,λh=>?_⟩
   ·have h:=B0 h;obtain⟨m,rfl⟩:∃k,m=k+1:=⟨m-1,Aa⟩;obtain⟨x,e1,e2,e3,e4⟩:=key 0 32 m (by rw[Ba];omega) Aa hm (by rw[ht0];exact hv);rw[e3] at e4;have e5:=wrp x _ e4;refine Yw1 ?_;refine⟨m,AI m,.cons rfl rfl (.cons rfl rfl (.cons rfl rfl (.cons rfl ?_ (.cons rfl ?_ (.nil _))))),rfl,Aa,Aa⟩;·show _=PA.v (PC.s (.int .u32 (Hb _:Nat)));rw[e3,<-e5];rfl
    ·show iA _=iA _;congr 3;omega
   ·have h:=B5 h;obtain rfl:m=0:=Aa;refine Yz pn ?_;refine XW.Wy (pu:=pn) (σ:=Nat) id (λm=>AbT l cap (.slice k2 0 1 1 none) 32 m l.length) (λm=>32<=m/\m<=l.length) l.length Zl ?_ ⟨Aa,Rl⟩ ?_
    ·refine .cons rfl rfl (.cons rfl rfl (.cons rfl rfl (.cons rfl ?_ (.cons rfl ?_ (.nil _)))));·show _=PA.v (PC.s (.int .u32 (Hb _:Nat)));rw[Cd (by rw[Ba];omega)];rfl
     ·refine Bh (λz:Int=>iA (z-((1:Nat):Int))) ?_;show(if _ then _ else _:Int)=((l.length:Nat):Int);rw[Ao Ab,Ao Aa,hlen]
    ·rintro m ⟨hm0,hm⟩;refine⟨λh=>?_,λh=>?_⟩
     ·have h:=B0 h;obtain⟨m,rfl⟩:∃k,m=k+1:=⟨m-1,Aa⟩;obtain⟨x,e1,e2,e3,e4⟩:=key 32 l.length m (by rw[AB]) Aa hm (by rw[hz0];decide);rw[e3] at e4;have e5:=wrp x _ e4;refine Yw1 ?_;refine⟨m,AI m,.cons rfl rfl (.cons rfl rfl (.cons rfl rfl (.cons rfl ?_ (.cons rfl ?_ (.nil _))))),rfl,Aa,Aa⟩;·show _=PA.v (PC.s (.int .u32 (Hb _:Nat)));rw[e3,<-e5];rfl
      ·show iA _=iA _;congr 3;omega
     ·have h:=B5 h;obtain rfl:m=32:=Aa;refine Yz pn ?_;exact⟨_,_,_,rfl,ZI (a:=Hb l) (Bh Int.ofNat ht0) (Bh Int.ofNat hz0),_,rfl⟩
 ·have e:Hb ((l.take l.length).drop 0)=Hb l:=by rw[CG,AB]
  refine Ej pn C.f182 rfl ?_;refine Yz pn ?_;refine XW.Wy (pu:=pn) (σ:=Nat) id (λm=>AbT l cap (.slice k0 0 0 1 (some 0)) 0 m l.length) (λm=>0<=m/\m<=l.length) l.length Zl ?_ ⟨Aa,Rl⟩ ?_
  ·refine .cons rfl rfl (.cons rfl rfl (.cons rfl rfl (.cons rfl ?_ (.cons rfl ?_ (.nil _)))));·show _=PA.v (PC.s (.int .u32 (Hb _:Nat)));rw[Cd (by rw[Ba];omega)];rfl
   ·refine Bh (λz:Int=>iA (z-((1:Nat):Int))) ?_;show(if _ then _ else _:Int)=((l.length:Nat):Int);rw[Ao Ab,Ao Aa,hlen]
  ·rintro m ⟨hm0,hm⟩;refine⟨λh=>?_,λh=>?_⟩
   ·have h:=B0 h;obtain⟨m,rfl⟩:∃k,m=k+1:=⟨m-1,Aa⟩;obtain⟨x,e1,e2,e3,e4⟩:=key 0 l.length m (by rw[AB]) Aa hm (by rw[e];exact hv);rw[e3] at e4;have e5:=wrp x _ e4;refine Yw1 ?_;refine⟨m,AI m,.cons rfl rfl (.cons rfl rfl (.cons rfl rfl (.cons rfl ?_ (.cons rfl ?_ (.nil _))))),rfl,Aa,Aa⟩;·show _=PA.v (PC.s (.int .u32 (Hb _:Nat)));rw[e3,<-e5];rfl
    ·show iA _=iA _;congr 3;omega
   ·have h:=B5 h;obtain rfl:m=0:=Aa;refine Yz pn ?_;exact⟨_,_,_,rfl,Ad7 (a:=Hb l) (Bh Int.ofNat e),_,rfl⟩
end Go.Pv
end
section
noncomputable section
set_option maxRecDepth 100000
namespace Go.Pv.E
open Go.Vm Go.Pv.K
def YE (n:Nat):PV:=.lst 1 ((List.range 32).map λk=>[.int .i64 (n / 2 ^ k % 2:Nat)]) none
theorem YF:∀n,n<128->R 181 [.v (.s (.lst 1 [[.int .u32 (n+1:Nat)]] none))] (.v (.s (YE (n+1)))):=by decide +kernel
theorem YG:∀n,n<127->R 181 [.v (.s (.lst 1 [[.int .u32 (n+129:Nat)]] none))] (.v (.s (YE (n+129)))):=by decide +kernel
end Go.Pv.E
end
section
noncomputable section
namespace Go.Pv
open Go.Vm Go.Vm.C
open Go.Vm.Key (kn)
set_option maxRecDepth 40000
set_option maxHeartbeats 0
def Ti (n:Nat):EF:=if n=0 then[] else(List.range 32).map λk=>n / 2 ^ k % 2
theorem YH (n:Nat):∀x∈Ti n,x<=1:=by
 unfold Ti;split;·simp
 ·intro x hx;obtain⟨k,_,rfl⟩:=Aw.1 hx;omega
theorem TK (n:Nat):(Ti n).length<=32:=by unfold Ti;split<;>simp
theorem nT (n:Nat):∀m,Hb ((List.range m).map λk=>n / 2 ^ k % 2)=n % 2 ^ m
 |0=>by simp[Hb,Nat.mod_one]
 |m+1=>by rw[Cy,Cm,aI,nT n m];simp only[Lm,CL,AG,BH,Hb,BN,BI];rw[DE,Nat.mod_mul]
theorem TL {n:Nat} (h:n<4294967296):Hb (Ti n)=n:=by
 unfold Ti;split;·next h=>subst h;rfl
 ·rw[nT];exact Bz h
theorem YI {n:Nat} (h:n≠0):E.YE n=.lst 1 (nL (Ti n)) none:=by simp only[E.YE,nL,Ti,Ao h,DB];rfl
theorem Aan {n:Nat} {v:PV} (hv:A6 n v) (h:n<256):A3 Fn 181 [.v (.s v)] (PA.lst 1 (nL (Ti n))):=by
 cases hv with
 |one n h0 _=>
  rw[PA.lst,<-YI Aa];rcases DT n 129 with h1|h1
  ·obtain⟨k,rfl⟩:∃k,n=k+1:=⟨n-1,Aa⟩;exact ent (E.YF k Aa)
  ·obtain⟨k,rfl⟩:∃k,n=k+129:=⟨n-129,Aa⟩;exact ent (E.YG k Aa)
 |_=>refine Ej pn C.f181 rfl ?_;refine Yx pn ?_;exact Yw0
theorem IU:∀{l:EF} {k:Nat},l[k]?=some 0->Hb (l.set k 1)=Hb l+2 ^ k
 |[],k,h=>Ad
 |x::l,0,h=>by simp at h;subst h;simp[Hb];omega
 |x::l,k+1,h=>by have:=IU (l:=l) (k:=k) (by simpa using h);rw[DY,Hb,Hb,this,DE];omega
theorem TM {g:A0} {b:Key} {c:Ey} {own frz:Bool} {anc:ED} {log:Es} {n es by' k:Nat} {x:PV} {new:Ey} (hg:g.get b=some ⟨.cells c,own,frz,anc,log⟩) (hc:c.length=n*es) (hn:n*es≠0) (hx:Yv g es x=some (new,k)) (hk:k≠0) (hr:2*(n+k)*by'<=281474976710656) :
  opP (.append es by') [.v (.s (.slice b 0 n es (some n))),.v (.s x)] g=some (.v (.s (.slice g.next 0 (n+k) es none)),g.new (.cells (c++new))):=by
 have h1:room (n+k) by'=true:=BT hr;have h2:¬n+k<=n:=Aa;have h3:g.renew b 0 (n*es) new=some (g.next,g.new (.cells (c++new))):=by have hc0:c≠[]:=λe=>hn (by rw[<-hc,e];rfl);simp[A0.renew,A0.cells,hg,A0.copied,hc.symm,hc0]
 show Hu es by' [.v (.s (.slice b 0 n es (some n))),.v (.s x)] g=_;simp only[Hu,hx,Ng,Ak,hk,Ag,h1,h2,h3]
def zL (l:EF):Ey:=l.map λ(n:Nat)=>.int .i64 (n:Int)
theorem aJ (l:EF):∀v∈zL l,A2 v:=λv h=>by obtain⟨n,_,rfl⟩:=Aw.1 h;exact Ae
theorem YJ (l:EF):Ql (zL l):=H4 λv h=>by obtain⟨n,_,rfl⟩:=Aw.1 h;exact Ae
theorem Ad8 (l:EF):nL l=(zL l).map λx=>[x]:=by simp[nL,zL]
theorem YK (l:EF):(nL l).flatten=zL l:=by
 induction l with
 |nil=>rfl
 |cons x l ih=>show PV.int .i64 (x:Int)::(nL l).flatten=PV.int .i64 (x:Int)::zL l;rw[ih]
theorem FF {g:A0} {k:Key} {l:EF} {own frz:Bool} {anc:ED} {log:Es} {cap:Option Nat} {n:Nat} (hg:g.get k=some ⟨.cells (zL l),own,frz,anc,log⟩) (hn:n=l.length) (hc:K4 n cap=true) :
  ∃g',Kz 40 (.slice k 0 n 1 cap) g=some (.lst 1 (nL l) none,g')/\g'.next=g.next/\g'.get k=some ⟨.cells (zL l),own,if l=[] then frz else true,anc,log⟩/\∀j,k≠j->g'.get j=g.get j:=by
 subst hn;rcases l with _|⟨x,l⟩
 ·refine⟨g,?_,rfl,hg,λ_ _=>rfl⟩;rw[Kz];simp only[hc,Dt,Ag];rfl
 ·have e:chunk 1 (x::l).length (zL (x::l))=nL (x::l):=by rw[Ad8];exact Xv (by simp[zL])
  have h:=J0 (n:=38) (es:=1) hg (by simp[zL]) Ac hc (YJ _);rw[e] at h;refine⟨_,h,?_⟩;cases frz
  ·refine⟨rfl,?_,λj hj=>?_⟩;·show(g.upd k _).get k=_;show Tr.get (Tr.upd g.mem k _) k=_;rw[Tr.Ju];rfl
   ·show(g.upd k _).get j=_;show Tr.get (Tr.upd g.mem k _) j=_;rw[Tr.Rj _ _ hj];rfl
  ·exact⟨rfl,hg,λ_ _=>rfl⟩
def dvI (w:PV) (bs:EF) (z:Int) (v9:PV):Fm:=[sE k1 w,(k7,.v (PA.lst 1 (nL bs))),sE k8 (.slice k0 0 bs.length 1 (some bs.length)),sE k9 v9,(k10,.v (iA z))]
def dvV (rest:EF):Option (Option Nat)->PV
 |none=>.lst 1 (nL rest) none
 |some c=>.slice k1 0 rest.length 1 c
def dvH (q rest:EF) (lg:Es) (g:A0):Option (Option Nat)->Prop
 |none=>g=mkH [(k0,obl (zL q) lg)] k1
 |some c=>K4 rest.length c=true/\∃fz,g=mkH [(k0,obl (zL q) lg),(k1,⟨.cells (zL rest),true,fz,[],[]⟩)] k2
structure dvP (a b i:Nat) (bs rest q:EF):Prop where
 il:i<=bs.length
 r1:∀x∈rest,x<=1
 rl:rest.length+i<=64
 rv:Hb rest=a / 2 ^ i % b
 q1:∀x∈q,x<=1
 ql:q.length=bs.length
 qv:Hb q=a / 2 ^ i / b*2 ^ i
 q0:∀j,j<i->q[j]?=some 0
theorem TN {p b:Nat}:p=b*(2*(p / 2 / b))+(p % 2+2*(p / 2 % b)):=by
 have h1:=Nat.div_add_mod (p / 2) b;have h3:b*(2*(p / 2 / b))=2*(b*(p / 2 / b)):=by rw[Nat.mul_left_comm]
 rw[h3];omega
theorem Ad9 {p b:Nat} (hb:0<b) (h:p % 2+2*(p / 2 % b)<b):p % b=p % 2+2*(p / 2 % b)/\p / b=2*(p / 2 / b):=by have e:=TN (p:=p) (b:=b);generalize p % 2+2*(p / 2 % b)=s at *;generalize 2*(p / 2 / b)=q at *;subst e;exact⟨by rw[Nat.mul_add_mod,Bz h],by rw[Nat.mul_add_div hb,Dg h];rfl⟩
theorem AdA {p b:Nat} (hb:0<b) (h:b<=p % 2+2*(p / 2 % b)):p % b=p % 2+2*(p / 2 % b)-b/\p / b=2*(p / 2 / b)+1:=by
 have e:=TN (p:=p) (b:=b);have h2:=Cu (p / 2) hb;have h3:p % 2+2*(p / 2 % b)<2*b:=Aa;clear h2;generalize p % 2+2*(p / 2 % b)=s at *;generalize 2*(p / 2 / b)=q at *;obtain⟨d,rfl⟩:∃d,s=b+d:=⟨s-b,Aa⟩;have e2:p=b*(q+1)+d:=by rw[Nat.mul_add];omega
 have h4:d<b:=Aa;rw[e2];exact⟨by rw[Nat.mul_add_mod,Bz h4];omega,by rw[Nat.mul_add_div hb,Dg h4]⟩
theorem YL (a i:Nat):a / 2 ^ (i+1)=a / 2 ^ i / 2:=by rw[DE,Nat.div_div_eq_div_mul]
theorem TO {x x':PV} {g g':A0} (h:Kz 40 x g=some (x',g')):Fw deep [.v (.s x)] g=some ([.v (.s x')],g'):=by
 show(match G4 40 (.v (.s x)) g with
  |some (y,h)=>match Fw 40 [] h with
   |some (ys,h)=>some (y::ys,h)
   |none=>none
  |none=>none)=_
 simp only[G4,aQ,h];rfl
theorem IW {cd:B7} {Q:Fk->Fm->A0->Prop} {w:PV} (hw:A2 w) {bs rest q:EF} {z z':Int} (hz:z=z') {form:Option (Option Nat)} {lg:Es} {g:A0} (hg:dvH q rest lg g form) (h:XW Fn 0 cd (dvI w bs z' (.lst 1 (nL rest) none)) (mkH [(k0,obl (zL q) lg)] k1) Q):XW Fn 0 cd (dvI w bs z (dvV rest form)) g Q:=by
 subst hz;cases form with
 |none=>replace hg:g=mkH [(k0,obl (zL q) lg)] k1:=hg;subst hg;exact h
 |some c=>
  obtain⟨hc,fz,rfl⟩:=hg;obtain⟨g',h1,h2,h3,h4⟩:=FF (g:=mkH [(k0,obl (zL q) lg),(k1,⟨.cells (zL rest),true,fz,[],[]⟩)] k2) (k:=k1) rfl rfl hc;have e0:g'.get k0=some (obl (zL q) lg):=by rw[h4 k0 Ab];rfl
  refine XW.MM k9 rfl (Lk h1) (XW.trim (Trim.of (L2:=dvI w bs z (.lst 1 (nL rest) none)) (l:=[(k0,obl (zL q) lg)]) (nx:=k1) [(k0,k0)] rfl Zl Ae ⟨⟨_,_,rfl,e0,.same (A2.cells (aJ _))⟩,Ae⟩ ⟨⟨_,rfl,hw.rn⟩,⟨_,rfl,rfl⟩,⟨_,rfl,rfl⟩,⟨_,rfl,rfl⟩,⟨_,rfl,rfl⟩,Ae⟩) h)
theorem sC {a b:Nat} {v w:PV} (ha:A6 a v) (hb:A6 b w) (h0:0<b) (h:a<256):A3 Fn 113 [.v (.s v),.v (.s w)] (.tup [.s (aH (a / b)),.s (aH (a % b)),.s (.int .i64 ((0:Nat):Int))]):=by
 have v0:=G6 ha;have v1:=G6 hb;have bt:=Aan ha h;have fv:=ha.flat;have hbl:=hb.lt;have wnk:=hb.nk;have wfl:=hb.flat;have hb':=hb;have b0:=YD (l:=[]) (cap:=none) Ac Ab Ab;by_cases ha0:a=0
 ·subst ha0;rw[Nat.zero_div,Nat.zero_mod];have e:nL (Ti 0)=[]:=rfl;rw[e] at bt;cases hb with
  |one b hb0 hb1=>refine Ej pn C.f113 rfl ?_;refine Yw1 ?_;refine⟨Ab,?_⟩;refine Yx pn ?_;exact Yw0
  |_=>exact absurd h0 Ab
 generalize hbs:Ti a=bs at bt;have hlen:bs.length=32:=by rw[<-hbs,Ti,Ao ha0];simp
 have hnl:=FC bs;have bget:∀i,i<bs.length->(nL bs)[(((i+1:Nat):Int)-((1:Nat):Int)).toNat]?=some [.int .i64 (a / 2 ^ i % 2:Nat)]:=λi hi=>by rw[show(((i+1:Nat):Int)-((1:Nat):Int)).toNat=i from Aa];refine TJ ?_;rw[<-hbs,Ti,Ao ha0,AD,Dk Aa];rfl
 have val0:∀n,Hb (List.replicate n 0)=0:=λn=>by
  induction n with
  |zero=>rfl
  |succ n ih=>rw[Cx,Hb,ih]
 have inv0:dvP a b bs.length bs [] (List.replicate bs.length 0):=by
  have h1:a / 2 ^ bs.length=0:=by rw[hlen];exact Dg Aa
  refine⟨Rl,Ac,by rw[hlen];decide,by rw[h1,Nat.zero_mod];rfl,λx hx=>by rw[Br hx];decide,Ck,by rw[val0,h1,Nat.zero_div,Bo],λj hj=>by simp[hj]⟩
 have zr:M8 [PV.int .i64 (Int.ofNat 0)] bs.length=zL (List.replicate bs.length 0):=by rw[dH,zL,List.map_replicate];rfl
 cases hb with
 |one b hb0 hb1=>
  refine Ej pn C.f113 rfl ?_;refine Yw1 ?_;refine⟨_,_,Gz (n:=bs.length) rfl (by rw[hnl]) Aa Ab,?_⟩;rw[zr];refine Yw1 ?_;refine XW.QD (σ:=Nat×EF×EF×Option (Option Nat)×Es) (λs=>s.1) (λs=>dvI (.lst 1 [[.int .u32 b]] none) bs ((s.1:Int)-((1:Nat):Int)) (dvV s.2.1 s.2.2.2.1)) (λs g=>dvP a b s.1 bs s.2.1 s.2.2.1/\dvH s.2.2.1 s.2.1 s.2.2.2.2 g s.2.2.2.1) (bs.length,[],List.replicate bs.length 0,some (some 0),[])
   (g0:=mkH [(k0,obl (zL (List.replicate bs.length 0)) []),(k1,⟨.cells (zL []),true,false,[],[]⟩)] k2) (Trim.of [(k0,k0),(k1,k1)] rfl Zl Ae ⟨⟨_,_,rfl,rfl,.same (A2.cells (aJ _))⟩,⟨_,_,rfl,rfl,.same (A2.cells (aJ _))⟩,Ae⟩ ?_) ⟨inv0,rfl,false,rfl⟩ ?_
  ·refine⟨⟨_,rfl,rfl⟩,⟨_,rfl,rfl⟩,⟨_,rfl,rfl⟩,⟨_,rfl,rfl⟩,⟨_,rfl,?_⟩,Ae⟩;rw[<-hnl];rfl
  rintro⟨i,rest,q,form,lg⟩ g ⟨hp,hg⟩;replace hp:dvP a b i bs rest q:=hp;cases i with
  |zero=>refine IW wnk rfl hg (Q9 (pu:=pn) _ ?_);refine⟨λh=>absurd (B0 h) Aa,λh=>?_⟩;have rv:=hp.rv;have qv:=hp.qv;rw[Nat.pow_zero,Nat.div_one] at rv qv;rw[CS] at qv;obtain⟨g',h1,h2,h3,h4⟩:=FF (g:=mkH [(k0,obl (zL q) lg)] k1) (k:=k0) (cap:=some bs.length) rfl hp.ql.symm (by simp[K4]);have bq:=YD (l:=q) (cap:=none) hp.q1 (by rw[hp.ql];omega) (by rw[qv];exact Cq (DQ _ _) Aa);have br:=YD (l:=rest) (cap:=none) hp.r1 (by have:=hp.rl;omega) (by rw[rv];exact Cq (Nat.mod_le _ _) Aa);rw[qv] at bq;rw[rv] at br;refine Yw1 ?_;refine⟨_,_,_,TO h1,bq,?_⟩;exact Yw0
  |succ i=>
   have hi:i<bs.length:=hp.il;have hbg:=bget i hi;rw[show(((i+1:Nat):Int)-((1:Nat):Int)).toNat=(i:Int).toNat from Aa] at hbg;refine IW wnk (z':=(i:Int)) Aa hg (Q9 (pu:=pn) _ ?_);clear hg;refine⟨λh=>?_,λh=>absurd (B5 h) Aa⟩;generalize hx:a / 2 ^ i % 2=x at hbg;have rv:=hp.rv;have qv:=hp.qv;rw[YL] at rv qv;have hlo:=Ad9 (p:=a / 2 ^ i) (b:=b) h0;have hhi:=AdA (p:=a / 2 ^ i) (b:=b) h0;rw[<-rv,hx] at hlo hhi;have hv:Hb (x::rest)=x+2*Hb rest:=rfl;have hp1:a / 2 ^ i<256:=Cq (DQ _ _) Aa;have hvl:x+2*Hb rest<256:=by have:=TN (p:=a / 2 ^ i) (b:=b);rw[<-rv,hx] at this;omega
   have bin:=YD (l:=x::rest) (cap:=none) (λy hy=>by rcases Af.1 hy with rfl|hy;omega;exact hp.r1 y hy) (by have:=hp.rl;simp only[Ap];omega) (by rw[hv];omega);rw[hv] at bin;have cm:=Lh (S6 (n:=x+2*Hb rest) Aa) hb';generalize hs:x+2*Hb rest=s at *;have hrl:=hp.rl;have inv_lo:s<b->dvP a b i bs (x::rest) q:=λhlt=>by
    obtain⟨e1,e2⟩:=hlo hlt;refine⟨Aa,λy hy=>?_,by simp only[Ap];omega,by rw[e1];exact hv,hp.q1,hp.ql,?_,λj hj=>hp.q0 j Aa⟩
    ·rcases Af.1 hy with rfl|hy;·omega
     ·exact hp.r1 y hy
    ·rw[qv,e2,DE,Ct 2,Nat.mul_assoc,Ct 2]
   have inv_hi:b<=s->dvP a b i bs (Ti (s-b)) (q.set i 1):=λhle=>by
    obtain⟨e1,e2⟩:=hhi hle;have hbl2:=TK (s-b);refine⟨Aa,YH _,Aa,by rw[e1,TL Aa],λy hy=>?_,by rw[Cz,hp.ql],?_,λj hj=>by rw[BW Aa];exact hp.q0 j Aa⟩
    ·rcases Ci hy with hy|rfl;·exact hp.q1 y hy
     ·exact Rl
    ·rw[IU (hp.q0 i Aa),qv,e2,Bg,Ce,DE,Ct 2,Nat.mul_assoc,Ct 2]
   have nats:=λh=>sA (S6 (n:=s) Aa) hb' h;have bits:=Aan (S6 (n:=s-b) Aa) Aa;have zq:(zL q).length=bs.length:=by rw[zL,Lm,hp.ql]
   have zset:∀j,(zL q).set j (.int .i64 ((1:Nat):Int))=zL (q.set j 1):=λj=>by rw[zL,zL,List.map_set]
   rcases rest with _|⟨y,rest⟩
   ·refine Yw2 (λh=>?_) (λh=>?_);·have hle:b<=s:=Nt h;have ns:=nats hle;refine Yw1 ?_;refine⟨_,_,Tf rfl (by rw[zq];exact hi) (zset i),?_⟩;refine Yw1 ?_;exact⟨(i,Ti (s-b),q.set i 1,none,_),_,_,AI i,Trim.of (L2:=dvI (.lst 1 [[.int .u32 b]] none) bs ((i:Int)-((1:Nat):Int)) (dvV (Ti (s-b)) none)) (l:=[(k0,obl (zL (q.set i 1)) ((i,1)::lg))]) (nx:=k1) [(k0,k0)] rfl Zl Ae ⟨⟨_,_,rfl,rfl,.same (A2.cells (aJ _))⟩,Ae⟩ ⟨⟨_,rfl,wnk.rn⟩,⟨_,rfl,rfl⟩,⟨_,rfl,rfl⟩,⟨_,rfl,rfl⟩,⟨_,rfl,rfl⟩,Ae⟩,inv_hi hle,rfl⟩
    ·have hlt:s<b:=Rd h;refine Yw1 ?_;exact⟨(i,[x],q,some (some 1),lg),_,_,AI i,Trim.of (L2:=dvI (.lst 1 [[.int .u32 b]] none) bs ((i:Int)-((1:Nat):Int)) (dvV [x] (some (some 1)))) (l:=[(k0,obl (zL q) lg),(k1,⟨.cells (zL [x]),true,true,[],[]⟩)]) (nx:=k2) [(k0,k0),(k1,k1)] rfl Zl Ae ⟨⟨_,_,rfl,rfl,.same (A2.cells (aJ _))⟩,⟨_,_,rfl,rfl,⟨(show A1 _ _ _ from A2.cells (aJ _)),λ_=>⟨rfl,.inl .nil⟩,rfl⟩⟩,Ae⟩ ⟨⟨_,rfl,wnk.rn⟩,⟨_,rfl,rfl⟩,⟨_,rfl,rfl⟩,⟨_,rfl,rfl⟩,⟨_,rfl,rfl⟩,Ae⟩,inv_lo hlt,rfl,true,rfl⟩
   ·refine Yw1 ?_;refine⟨_,_,TM (n:=1) (c:=zL [x]) rfl rfl Ab (new:=zL (y::rest)) (k:=rest.length+1) (by show some ((nL _).flatten,(nL _).length)=_;rw[YK,FC];rfl) Aa (by have:=hp.rl;simp only[Ap] at this;omega),?_⟩;obtain⟨g',h1,h2,h3,h4⟩:=FF (l:=x::y::rest) (n:=1+(rest.length+1)) (cap:=none) (k:=k2) (g:=(mkH [(k0,obl (zL q) lg),(k1,ob (zL [x]))] k2).new (.cells (zL [x]++zL (y::rest)))) rfl (by simp;omega) rfl;have e0:g'.get k0=some (obl (zL q) lg):=by rw[h4 k0 Ab];rfl
    refine Yw1 ?_;refine⟨_,_,_,TO h1,bin,?_⟩;refine Yw2 (λh=>?_) (λh=>?_);·have hle:b<=s:=Nt h;have ns:=nats hle;refine Yw1 ?_;refine⟨_,_,Tf e0 (by rw[zq];exact hi) (zset i),?_⟩;refine Yw1 ?_;exact⟨(i,Ti (s-b),q.set i 1,none,_),_,_,AI i,Trim.of (L2:=dvI (.lst 1 [[.int .u32 b]] none) bs ((i:Int)-((1:Nat):Int)) (dvV (Ti (s-b)) none)) (l:=[(k0,obl (zL (q.set i 1)) ((i,1)::lg))]) (nx:=k1) [(k0,k0)] rfl Zl Ae ⟨⟨_,_,rfl,Tr.Ju _ _ _,.same (A2.cells (aJ _))⟩,Ae⟩ ⟨⟨_,rfl,wnk.rn⟩,⟨_,rfl,rfl⟩,⟨_,rfl,rfl⟩,⟨_,rfl,rfl⟩,⟨_,rfl,rfl⟩,Ae⟩,inv_hi hle,rfl⟩
    ·have hlt:s<b:=Rd h;refine Yw1 ?_;refine⟨(i,x::y::rest,q,some none,lg),_,_,AI i,Trim.of (L2:=dvI (.lst 1 [[.int .u32 b]] none) bs ((i:Int)-((1:Nat):Int)) (dvV (x::y::rest) (some none))) (l:=[(k0,obl (zL q) lg),(k1,⟨.cells (zL (x::y::rest)),true,true,[],[]⟩)]) (nx:=k2) [(k0,k0),(k1,k2)] rfl Zl Ae ⟨⟨_,_,rfl,e0,.same (A2.cells (aJ _))⟩,⟨_,_,rfl,h3,⟨(show A1 _ _ _ from A2.cells (aJ _)),λ_=>⟨rfl,.inl .nil⟩,rfl⟩⟩,Ae⟩ ⟨⟨_,rfl,wnk.rn⟩,⟨_,rfl,rfl⟩,⟨_,rfl,rfl⟩,⟨_,rfl,?_⟩,⟨_,rfl,rfl⟩,Ae⟩,inv_lo hlt,rfl,true,rfl⟩;show some (PV.slice k2 0 (rest.length+1+1) 1 none)=some (PV.slice k2 0 (1+(rest.length+1)) 1 none);rw[DW 1]
 |_=>exact absurd h0 Ab
section
def pm (n:Nat):Bool:=pt n||Sp [27,28,30,57,113] n
theorem TP {g:A0} {k:Key} {own frz:Bool} {anc:ED} {log:Es} {c:Ey} {n:Nat} (s:Tre) (hg:g.get k=some ⟨.cells c,own,frz,anc,log⟩) (hc:c=(tR s).flatten) (hn:n=s.length) (h0:s≠[]) :
  Kz 40 (.slice k 0 n 4 none) g=some (.lst 4 (tR s) none,if frz then g else g.upd k (some ⟨.cells c,own,true,anc,log⟩)):=by subst hc;subst hn;have hrl:(tR s).length=s.length:=Lm ..;have hfl:=Jt (Su s);have hpos:=AS.2 h0;have h:=J0 (n:=38) (es:=4) (len:=s.length) (cap:=none) hg (by rw[hfl,hrl]) Aa rfl (H4 (qH s));rw[<-hrl,Mc (Su s)] at h;rw[<-hrl];exact h
variable {T:EG} {f:Fo} {c N:Nat}
structure Aao (T:EG) (f:Fo) (c N i n:Nat) (r:PA) (g:A0):Prop where
 tree:∃s,(T i)[n]?=some s/\s≠[]/\s.length<=sz i/\r=.v (.s (.lst 4 (tR s) none))
 blk:∃ks ds l0 l1 l2,Hw T N ks ds/\g.get k0=some (obl (cnC f c N) l0)/\g.get k1=some (obl ks l1)/\g.get k2=some (obl ds l2)
def AbU (T:EG) (f:Fo) (c N i:Nat):Prop:=∀ks ds n v,Hw T N ks ds->A6 n v->n<256->n<(T i).length->XC Fn 56 [.v (.s (.ptr k0 0)),iA i,.v (.s v)] (mkH (cnL f c N ks ds [] [] []) k3) (Aao T f c N i n)
def TkkF (T:EG) (f:Fo) (c N i:Nat):Prop:=∀ks ds n v,Hw T N ks ds->A6 n v->n<256->n<(T i).length->XC Fn 115 [.v (.s (.ptr k0 0)),.v (.agg (kV i)),.v (.s v)] (mkH (cnL f c N ks ds [] [] []) k3) (Aao T f c N i n)
theorem YM {i:Nat} (hG:AbU T f c N i):TkkF T f c N i:=by intro ks ds n v hm hv h1 h2;have vnk:=hv.nk;refine Ek pm C.f115 rfl ?_;refine Yw1 ?_;refine En (cnL f c N ks ds [] [] []) k3 cnR (hG ks ds n v hm hv h1 h2) (E7 hm rfl rfl rfl) Ya ?_;rintro rc gc' ⟨⟨s,gs,hs0,hsl,rfl⟩,ks',ds',l0,l1,l2,hm',e0,e1,e2⟩;refine⟨[],k4,cnX f c N ks' ds' (l0++[]) (l1++[]) (l2++[]),[],.v (.s (.lst 4 (tR s) none)),rfl,Rl,E5 hm' e0 e1 e2 rfl rfl rfl rfl rfl rfl,Ae,rfl,?_⟩;refine Yw1 ?_;exact⟨⟨s,gs,hs0,hsl,rfl⟩,_,_,_,_,_,hm',rfl,rfl,rfl⟩
abbrev tkB (nd:Nd):B4:=⟨.cells (nC nd),true,false,[],[(0,5)]⟩
theorem FG {lo:Nat} {L1 L2:Fm} {nd:Nd} {ks ds:Ey} {l0 l1 l2:Es} {g:A0} (hlo:lo=3) (hm:Hw T N ks ds) (e0:g.get k0=some (obl (cnC f c N) l0)) (e1:g.get k1=some (obl ks l1)) (e2:g.get k2=some (obl ds l2)) (e3:g.get k3=some (tkB nd)) (hf:Jz (rho lo [(k3,k3)]) L1 L2):Trim lo (rho lo [(k3,k3)]) L1 g L2 (mkH (cnL f c N ks ds l0 l1 l2++[(k3,tkB nd)]) k4):=by subst hlo;exact Trim.of (lo:=3) (l:=cnL f c N ks ds l0 l1 l2++[(k3,tkB nd)]) (nx:=k4) [(k3,k3)] rfl (show 3<=4 by decide) ⟨e2.symm,e1.symm,e0.symm,Ae⟩ ⟨⟨_,_,rfl,e0,.same Yc⟩,⟨_,_,rfl,e1,.same (A2.cells hm.knk)⟩,⟨_,_,rfl,e2,.same (A2.cells hm.dnk)⟩,⟨_,_,rfl,e3,.same Yc⟩,Ae⟩ hf
theorem YN (D:wN) (hc:c<4) (hN:f.ns.length=N) {i:Nat} {nd:Nd} (hi:i<N) (hL:N<=4) (hn:(f.ns.map nV)[(i:Int).toNat]?=some (nC nd)) (nL:nd.az.length<=3) (hal:∀a∈nd.az,a.ks.length<=2/\a.d<16/\∀k∈a.ks,k<i/\MH T f c N k/\TkkF T f c N k)
  (hT:T i=C7 T c nd.az) (hB:(C7 T c nd.az).length<4294967296):AbU T f c N i:=by
 intro ks ds n v hm hv h256 hnl;have nlen:(nd.az.map aV).length=nd.az.length:=Lm ..;have hlen:(f.ns.map nV).length=f.ns.length:=Lm ..;rw[hT] at hnl;have vnk:=hv.nk;refine XC.LG ?_;refine Ek pm C.f56 rfl ?_;refine Yw1 ?_;refine XW.B6 (pu:=pm) (σ:=Nat×PV) (λq=>nd.az.length-q.1) (λq=>[pE k0 k0,sE k2 q.2,pE k7 k3,(k8,.v (iA q.1))])
  (λq g=>q.1<=nd.az.length/\(C7 T c (nd.az.take q.1)).length<=n/\A6 (n-(C7 T c (nd.az.take q.1)).length) q.2/\∃ks ds l0 l1 l2,Hw T N ks ds/\g=mkH (cnL f c N ks ds l0 l1 l2++[(k3,tkB nd)]) k4) (0,v)
  (FG rfl hm rfl rfl rfl rfl Yf) ⟨Zl,Zl,hv,ks,ds,[],[],[],hm,rfl⟩ ?_
 clear hv vnk hm;rintro⟨j,u⟩ g ⟨hj,hle,hu,ks,ds,l0,l1,l2,hm,rfl⟩;replace hj:j<=nd.az.length:=hj;replace hle:(C7 T c (nd.az.take j)).length<=n:=hle;replace hu:A6 (n-(C7 T c (nd.az.take j)).length) u:=hu;have unk:=hu.nk;have ufl:=hu.flat;refine⟨λh=>?_,λh=>?_⟩;case refine_2=>
  have hfull:nd.az.take j=nd.az:=by rw[show j=nd.az.length from by have:=B5 h;omega];exact AB
  rw[hfull] at hle;omega
 have hj:j<nd.az.length:=by have:=B0 h;omega
 have ha:nd.az[j]?=some nd.az[j]:=Gg hj;have htk:nd.az.take (j+1)=nd.az.take j++[nd.az[j]]:=An hj;have hin:nd.az[j]∈nd.az:=AU hj;generalize nd.az[j]=a at ha htk hin;have hga:=Ii ha;obtain⟨a1,a2,a3⟩:=hal a hin;have dh:=D.inn a.d a2 c hc;have hs:=Hi T c (nd.az.take j) a;rw[<-htk] at hs;have hle2:=M1 T c nd.az (j+1);have hget:=λu=>bT (T:=T) (c:=c) (n:=n) (u:=u) ha;rw[<-hT] at hget;generalize (C7 T c nd.az).length=full at hB hle2 hnl;have hl:=Bh List.length hs;cases hb:a.d.testBit c;·rw[hb] at dh hs hl;simp only[Fj,Ag,Ay] at hs hl;refine Yw1 ?_;exact⟨(j+1,u),_,_,Lq,FG rfl hm rfl rfl rfl rfl Yf,hj,(by rw[hs];exact hle),(by rw[hs];exact hu),ks,ds,_,_,_,hm,rfl⟩
 ·rw[hb] at dh hs hl;replace hget:=λu=>hget u hb hle;simp only[Ak,La,Lm] at hl;have alt:=eW (T:=T) (f:=f) (c:=c) (N:=N) (a:=a) a1 (λk hk=>(a3 k hk).2.1) Aa hm;refine Yw1 ?_;refine En (cnL f c N ks ds [] [] []) k3 cnR alt (E7 hm rfl rfl rfl) Ya ?_;rintro rc gc' ⟨⟨q,rfl,hq⟩,ks2,ds2,b0,b1,b2,hm2,e0,e1,e2⟩;refine⟨[],k5,cnX f c N ks2 ds2 (b0++l0) (b1++l1) (b2++l2),[],.v (.s q),rfl,Rl,E5 hm2 e0 e1 e2 rfl rfl rfl rfl rfl rfl,Ae,hq.nk.rn,?_⟩;clear e0 e1 e2 alt;have qnk:=hq.nk;have qfl:=hq.flat;have cmp:=Lh hu hq;refine Yw2 (λh=>?_) (λh=>?_);·have hge:(B9 T a.ks).length<=n-(C7 T c (nd.az.take j)).length:=Nt h;have s1:=sA hu hq hge;have s2:=S6 (n:=n-(C7 T c (nd.az.take j)).length-(B9 T a.ks).length) Aa;generalize aH (n-(C7 T c (nd.az.take j)).length-(B9 T a.ks).length)=z at s1 s2;have znk:=s2.nk;refine Yw1 ?_;exact⟨(j+1,z),_,_,Lq,FG rfl hm2 rfl rfl rfl rfl Yf,hj,(by show(C7 T c (nd.az.take (j+1))).length<=n;omega),(by show A6 (n-(C7 T c (nd.az.take (j+1))).length) z;rw[hl,Df];exact s2),ks2,ds2,_,_,_,hm2,rfl⟩
  ·have hlt:n-(C7 T c (nd.az.take j)).length<(B9 T a.ks).length:=Rd h;clear cmp hq qnk qfl;have hn':n-(C7 T c (nd.az.take j)).length<256:=Aa;generalize n-(C7 T c (nd.az.take j)).length=n' at *;obtain⟨p,ks',d⟩:=a;rcases ks' with _|⟨x,_|⟨y,_|⟨z,ks'⟩⟩⟩
   ·refine⟨_,_,Gz (n:=0) rfl rfl Ab Ab,?_⟩;refine Yz pm ?_;refine Yy pm ?_;have h0:n'=0:=by simpa[B9] using hlt
    exact⟨_,_,rfl,⟨[p],hget [] (by rw[h0];rfl),Ac,zM i,rfl⟩,_,_,_,_,_,hm2,rfl,rfl,rfl⟩
   ·obtain⟨hx,kx,wx⟩:=a3 x Ac;clear a1 a3;rw[Kx] at hlt;have hkl:(List.map kV (Al.mk p [x] d).ks).length=1:=rfl;refine⟨_,_,Gz (n:=1) rfl rfl Ab Ab,?_⟩;refine Yz pm ?_;refine En (cnL f c N ks2 ds2 [] [] []) k3 cnR (kx ks2 ds2 hm2) (E7 hm2 rfl rfl rfl) Ya ?_;rintro rc gc' ⟨⟨v1,rfl,hv1⟩,cks,cds,c0,c1,c2,ch,e0,e1,e2⟩;refine⟨[],k6,cnX f c N cks cds (c0++_) (c1++_) (c2++_),[],.v (.s v1),rfl,Rl,E5 ch e0 e1 e2 rfl rfl rfl rfl rfl rfl,Ae,hv1.nk.rn,?_⟩;clear e0 e1 e2;have dv:=sC hu hv1 Aa hn';have v1f:=hv1.flat;have d3:=S6 (n:=n' % (T x).length) (Cq (Nat.mod_le _ _) Aa);rw[Bz hlt] at dv d3;generalize aH n'=rv at dv d3;have rnk:=d3.nk;generalize aH (n' / (T x).length)=qv at dv;refine Yw1 ?_;refine En (cnL f c N cks cds [] [] []) k3 cnR (wx cks cds n' rv ch d3 hn' hlt) (E7 ch rfl rfl rfl) Ya ?_;rintro rc gc' ⟨⟨s,sg,s0,sl,rfl⟩,dks,dds,d0,d1,d2,dh,e0,e1,e2⟩;refine⟨[],k6,cnX f c N dks dds (d0++_) (d1++_) (d2++_),[],.v (.s (.lst 4 (tR s) none)),rfl,Rl,E5 dh e0 e1 e2 rfl rfl rfl rfl rfl rfl,Ae,rfl,?_⟩;clear e0 e1 e2;refine Yz pm ?_;refine Yy pm ?_;have szx:=H0 i Aa x hx;have hsz:sz i<=15:=(by decide:∀i,i<=3->sz i<=15) i Aa;have sp:=AS.2 s0;have trl:(tR s).length=s.length:=Lm ..;refine⟨_,_,TM (n:=1) (new:=(tR s).flatten) (k:=s.length) rfl rfl Ab (by show some ((tR s).flatten,(tR s).length)=_;rw[trl]) Aa Aa,?_⟩;refine Yz pm ?_;exact⟨_,_,Lk (TP (p::s) rfl rfl (by simp;omega) Ac),⟨p::s,hget s (by rw[Kx];exact sg),Ac,by simp;omega,rfl⟩,_,_,_,_,_,dh,rfl,rfl,rfl⟩
   ·obtain⟨hx,kx,wx⟩:=a3 x Ac;obtain⟨hy,ky,wy⟩:=a3 y Ac;clear a1 a3;rw[Md] at hlt;have hy0:0<(T y).length:=by refine Du λe=>?_;rw[e] at hlt;simp at hlt
    have hq0:n' / (T y).length<(T x).length:=DL (by rw[Ct];exact hlt);have hr0:n' % (T y).length<(T y).length:=Cu _ hy0;have hqs:n' / (T y).length<=n':=DQ _ _;have hrs:n' % (T y).length<=n':=Nat.mod_le _ _;have hpg:=λs u=>Xy (T:=T) (x:=x) (n:=n') (s:=s) (u:=u) hy0;clear hlt;have hkl:(List.map kV (Al.mk p [x,y] d).ks).length=2:=rfl;refine⟨_,_,Gz (n:=2) rfl rfl Ab Ab,?_⟩;refine Yz pm ?_;refine En (cnL f c N ks2 ds2 [] [] []) k3 cnR (ky ks2 ds2 hm2) (E7 hm2 rfl rfl rfl) Ya ?_;rintro rc gc' ⟨⟨vy,rfl,hvy⟩,cks,cds,c0,c1,c2,ch,e0,e1,e2⟩;refine⟨[],k6,cnX f c N cks cds (c0++_) (c1++_) (c2++_),[],.v (.s vy),rfl,Rl,E5 ch e0 e1 e2 rfl rfl rfl rfl rfl rfl,Ae,hvy.nk.rn,?_⟩;clear e0 e1 e2;have dv:=sC hu hvy hy0 hn';have vyf:=hvy.flat;have dq:=S6 (n:=n' / (T y).length) Aa;have d3:=S6 (n:=n' % (T y).length) Aa;generalize n' / (T y).length=nx at *;generalize n' % (T y).length=ny at *;generalize aH nx=qy at dv dq;generalize aH ny=ry at dv d3;have rnk:=d3.nk;have qnk:=dq.nk;have qfl:=dq.flat;refine Yw1 ?_;refine En (cnL f c N cks cds [] [] []) k3 cnR (wy cks cds ny ry ch d3 Aa hr0) (E7 ch rfl rfl rfl) Ya ?_;rintro rc gc' ⟨⟨s,sg,s0,sl,rfl⟩,dks,dds,d0,d1,d2,dh,e0,e1,e2⟩;refine⟨[],k6,cnX f c N dks dds (d0++_) (d1++_) (d2++_),[],.v (.s (.lst 4 (tR s) none)),rfl,Rl,E5 dh e0 e1 e2 rfl rfl rfl rfl rfl rfl,Ae,rfl,?_⟩;clear e0 e1 e2;refine Yz pm ?_;refine En (cnL f c N dks dds [] [] []) k3 cnR (kx dks dds dh) (E7 dh rfl rfl rfl) Ya ?_;rintro rc gc' ⟨⟨vx,rfl,hvx⟩,gks,gds,g0,g1,g2,gh,e0,e1,e2⟩;refine⟨[],k6,cnX f c N gks gds (g0++_) (g1++_) (g2++_),[],.v (.s vx),rfl,Rl,E5 gh e0 e1 e2 rfl rfl rfl rfl rfl rfl,Ae,hvx.nk.rn,?_⟩;clear e0 e1 e2;have dw:=sC dq hvx Aa Aa;have vxf:=hvx.flat;have d6:=S6 (n:=nx % (T x).length) (Cq (Nat.mod_le _ _) Aa);rw[Bz hq0] at dw d6;generalize aH nx=rx at dw d6;generalize aH (nx / (T x).length)=qx at dw;have rxnk:=d6.nk;refine Yw1 ?_;refine En (cnL f c N gks gds [] [] []) k3 cnR (wx gks gds nx rx gh d6 Aa hq0) (E7 gh rfl rfl rfl) Ya ?_;rintro rc gc' ⟨⟨t,tg,t0,tl,rfl⟩,wks,wds,w0,w1,w2,wh,e0,e1,e2⟩;refine⟨[],k6,cnX f c N wks wds (w0++_) (w1++_) (w2++_),[],.v (.s (.lst 4 (tR t) none)),rfl,Rl,E5 wh e0 e1 e2 rfl rfl rfl rfl rfl rfl,Ae,rfl,?_⟩;clear e0 e1 e2;refine Yz pm ?_;refine Yy pm ?_;have szx:=H0 i Aa x hx;have szy:=H0 i Aa y hy;have hsz:sz i<=15:=(by decide:∀i,i<=3->sz i<=15) i Aa;have sp:=AS.2 s0;have tp:=AS.2 t0;have trl:(tR t).length=t.length:=Lm ..;have srl:(tR s).length=s.length:=Lm ..;refine⟨_,_,TM (n:=1) (new:=(tR t).flatten) (k:=t.length) rfl rfl Ab (by show some ((tR t).flatten,(tR t).length)=_;rw[trl]) Aa Aa,?_⟩;refine Yz pm ?_;refine⟨_,_,jB (n:=1+t.length) (k:=s.length) (new:=(tR s).flatten) rfl (by rw[La,Jt (Su t),trl];show 4+t.length*4=(1+t.length)*4;omega) (by show some ((tR s).flatten,(tR s).length)=_;rw[srl]) Aa Aa,?_⟩;refine Yz pm ?_;have e:tR (p::(t++s))=[[.int .i64 (p:Nat),.int .i64 (-1),.int .i64 0,.int .i64 0]]++tR t++tR s:=by simp[tR]
    exact⟨_,_,Lk (TP (p::(t++s)) rfl (by rw[e,Cg,Cg];rfl) (by simp;omega) Ac),⟨p::(t++s),hget (t++s) (hpg t s tg sg),Ac,by simp;omega,rfl⟩,_,_,_,_,_,wh,rfl,rfl,rfl⟩
   ·simp at a1
end
def pq (n:Nat):Bool:=pm n||Sp [44,43,46,105,106] n
theorem TQ {f:Fo} {c:Nat} (D:wN) (hc:c<4) (w:WF0 f) (v:WF f):∀i,i<f.ns.length->AbU (Tr2 f c) f c f.ns.length i:=by
 intro i;induction i using Nat.strongRecOn with
 |ind i ih=>intro hi;have hn:f.ns[i]?=some f.ns[i]:=Gg hi;generalize f.ns[i]=n at hn;have hL:=w.len;have hg:=I6 hn;rw[J2 (v.as0 i n hn)] at hg;have hU:=qK (c:=c) (Sv w) i n hn;have hlen:=Ll (c:=c) w i hi;have hpx:=Xx i Aa;have hB:(Tr2 f c i).length<4294967296:=Aa;refine YN D hc rfl hi hL hg (w.Kw i n hn) (λa ha=>⟨(w.al i n hn a ha).1,(w.al i n hn a ha).2.2.1,λk hk=>?_⟩) hU (by rw[<-hU];exact hB);have hki:=(w.al i n hn a ha).2.1 k hk;exact⟨hki,rP (Vf D hc w v k Aa),YM (ih k hki Aa)⟩
abbrev aK:Ew:=[(k0,k3),(k1,k1),(k2,k2)]
section
variable {T:EG} {f:Fo} {c N:Nat}
theorem Vj {ks ds:Ey} {l0 l1 l2:Es} (hm:Hw T N ks ds) {g:A0} (e0:g.get k3=some (obl (cnC f c N) l0)) (e1:g.get k1=some (obl ks l1)) (e2:g.get k2=some (obl ds l2)):Na (rho 0 aK) g (cnL f c N ks ds [] [] []):=
 ⟨⟨_,_,rfl,e0,.same Yc⟩,⟨_,_,rfl,e1,.same (A2.cells hm.knk)⟩,⟨_,_,rfl,e2,.same (A2.cells hm.dnk)⟩,Ae⟩
theorem O3 {ks ds ks' ds':Ey} {a0 a1 a2 l0 l1 l2:Es} {gc' g:A0} {q0 q1 q2:B4} (hm:Hw T N ks' ds') (e0:gc'.get k0=some (obl (cnC f c N) a0)) (e1:gc'.get k1=some (obl ks' a1)) (e2:gc'.get k2=some (obl ds' a2))
  (h0:g.get k3=some q0) (h1:g.get k1=some q1) (h2:g.get k2=some q2) (hq0:q0.log=l0) (hq1:q1.log=l1) (hq2:q2.log=l2):Nb (muR aK []) g gc' (cnL f c N ks ds [] [] []) aK (cnX f c N ks' ds' (a0++l0) (a1++l1) (a2++l2)):=
 ⟨⟨_,_,_,e0,.same Yc,h0,rfl,rfl,by rw[hq0]⟩,⟨_,_,_,e1,.same (A2.cells hm.knk),h1,rfl,rfl,by rw[hq1]⟩,⟨_,_,_,e2,.same (A2.cells hm.dnk),h2,rfl,rfl,by rw[hq2]⟩,Ae⟩
abbrev rkH (f:Fo) (c N:Nat) (ks ds:Ey) (l0 l1 l2:Es):List (Key×B4):=[(k0,ob [.lst 5 (f.ns.map nV) none,.lst 3 (f.rs.map rV) none]),(k1,obl ks l1),(k2,obl ds l2),(k3,obl (cnC f c N) l0)]
theorem Yj {lo:Nat} {L1 L2:Fm} {ks ds:Ey} {l0 l1 l2 lb:Es} {g:A0} (hlo:lo=0) (hm:Hw T N ks ds) (eb:g.get k0=some (obl [.lst 5 (f.ns.map nV) none,.lst 3 (f.rs.map rV) none] lb)) (e0:g.get k3=some (obl (cnC f c N) l0)) (e1:g.get k1=some (obl ks l1)) (e2:g.get k2=some (obl ds l2)) (hf:Jz (rho lo [(k0,k0),(k1,k1),(k2,k2),(k3,k3)]) L1 L2):Trim lo (rho lo [(k0,k0),(k1,k1),(k2,k2),(k3,k3)]) L1 g L2 (mkH (rkH f c N ks ds [] [] []) k4):=by subst hlo;exact Em (rkH f c N ks ds [] [] []) k4 [(k0,k0),(k1,k1),(k2,k2),(k3,k3)] ⟨⟨_,_,rfl,eb,.same Yc⟩,⟨_,_,rfl,e1,.same (A2.cells hm.knk)⟩,⟨_,_,rfl,e2,.same (A2.cells hm.dnk)⟩,⟨_,_,rfl,e0,.same Yc⟩,Ae⟩ hf
end
theorem FH {f:Fo} {c:Nat} (hc:c<4) (w:WF0 f) (hs:f.ns.all fmB=true) {n:Nat} {nv:PV} (hnv:A6 n nv) (h256:n<256):XC Fn 16 [foA f,cA c,.v (.s nv)] (mkH [] k0) λr _=>
  (∃s,(B1 (Tr2 f c) c f.rs)[n]?=some s/\s≠[]/\s.length<=15/\r=.tup [.s (.lst 4 (tR s) none),.s (.int .i64 ((0:Nat):Int))])∨((B1 (Tr2 f c) c f.rs).length<=n/\r=.tup [.s .A4,.s (.int .i64 ((120:Nat):Int))]):=by
 have w1:=w.wf (AF.1 hs);have snd:=Jc Ye w;rw[hs] at snd;have hm:=eY (Tr2 f c) f.ns.length;have hnew:=eX (c:=c) w;have htot:=total_ok (c:=c) dZ hc w w1 hm;have nval:=G6 hnv;have nvk:=hnv.nk;have nvf:=hnv.flat;have hrlen:(f.rs.map rV).length=f.rs.length:=Lm ..;have hL:=w.len;have rL:=w.Nl;rw[E4 w.n0 w.r0] at hnew snd ⊢;refine Ek pq C.f16 rfl ?_;refine Yw1 ?_;refine Eo hnew Ya ?_;rintro rc gc' ⟨rfl,e1,e2,e3⟩;refine⟨[(k1,k1),(k2,k2),(k3,k3)],k4,[],[ob (List.replicate f.ns.length .A4),ob (List.replicate f.ns.length (.bool false)),ob (cnC f c f.ns.length)],.v (.s (.ptr k3 0)),rfl,(show 1<=4 by decide),Ae,⟨⟨_,e1,.same (A2.cells hm.knk)⟩,⟨_,e2,.same (A2.cells hm.dnk)⟩,⟨_,e3,.same Yc⟩,Ae⟩,rfl,?_⟩;clear e1 e2 e3;refine Yw1 ?_;refine En (cnL f c f.ns.length (List.replicate f.ns.length .A4) (List.replicate f.ns.length (.bool false)) [] [] []) k3 aK htot ⟨⟨_,_,rfl,rfl,.same Yc⟩,⟨_,_,rfl,rfl,.same (A2.cells hm.knk)⟩,⟨_,_,rfl,rfl,.same (A2.cells hm.dnk)⟩,Ae⟩ Ya ?_;rintro rc gc' ⟨⟨v,rfl,hv⟩,ks,ds,l0,l1,l2,hm2,e0,e1,e2⟩;refine⟨[],k4,cnX f c f.ns.length ks ds (l0++[]) (l1++[]) (l2++[]),[],.tup [.s v,.s (.int .i64 ((0:Nat):Int))],rfl,Rl,O3 hm2 e0 e1 e2 rfl rfl rfl rfl rfl rfl,Ae,.cons hv.nk.rn (.cons rfl .nil),?_⟩;clear e0 e1 e2;have vf:=hv.flat;have cmp:=Lh hnv hv;refine Yw2 (λh=>?_) (λh=>?_);·exact .inr ⟨Nt h,rfl⟩
 have hnl:n<(B1 (Tr2 f c) c f.rs).length:=Rd h;clear h cmp hv vf;refine XW.B6 (pu:=pq) (σ:=Nat×PV) (λq=>f.rs.length-q.1) (λq=>[(k1,.v (cA c)),sE k2 q.2,pE k3 k0,pE k8 k3,(k11,.v (iA q.1))])
  (λq g=>q.1<=f.rs.length/\(B1 (Tr2 f c) c (f.rs.take q.1)).length<=n/\A6 (n-(B1 (Tr2 f c) c (f.rs.take q.1)).length) q.2/\∃ks ds,Hw (Tr2 f c) f.ns.length ks ds/\g=mkH (rkH f c f.ns.length ks ds [] [] []) k4) (0,nv)
  (Yj rfl hm2 rfl rfl rfl rfl Yf) ⟨Zl,Zl,hnv,ks,ds,hm2,rfl⟩ ?_
 clear hm hnv nvk hm2;rintro⟨i,u⟩ g ⟨hi,hle,hu,ks,ds,hm,rfl⟩;replace hi:i<=f.rs.length:=hi;replace hle:(B1 (Tr2 f c) c (f.rs.take i)).length<=n:=hle;replace hu:A6 (n-(B1 (Tr2 f c) c (f.rs.take i)).length) u:=hu;have unk:=hu.nk;have ufl:=hu.flat;refine⟨λh=>?_,λh=>?_⟩;case refine_2=>
  have hfull:f.rs.take i=f.rs:=by rw[show i=f.rs.length from by have:=B5 h;omega];exact AB
  rw[hfull] at hle;omega
 have hi:i<f.rs.length:=by have:=B0 h;omega
 have hr:f.rs[i]?=some f.rs[i]:=Gg hi;have htk:f.rs.take (i+1)=f.rs.take i++[f.rs[i]]:=An hi;generalize f.rs[i]=r at hr htk;have hgr:=Je hr;obtain⟨r1,r2,r3⟩:=w.rt i r hr;rw[r1] at hgr;have dh:=dZ.inn r.2 r2 c hc;have hs2:=Me (Tr2 f c) c (f.rs.take i) r;rw[<-htk,r1] at hs2;have hle2:=Sy (Tr2 f c) c f.rs (i+1);have hget:=λs=>vV (T:=Tr2 f c) (c:=c) (n:=n) (s:=s) hr;rw[r1] at hget;have hG:=Vf (c:=c) dZ hc w w1 i Aa ks ds hm;have hW:=TQ (c:=c) dZ hc w w1 i Aa;have hTl:=Ll (c:=c) w i Aa;generalize hfl:(B1 (Tr2 f c) c f.rs).length=full at hle2 hnl;have hl:=Bh List.length hs2;cases hb:r.2.testBit c;·rw[hb] at dh hs2 hl;simp only[Fj,Ag,Ay] at hs2 hl;refine Yw1 ?_;exact⟨(i+1,u),_,_,Lq,Yj rfl hm rfl rfl rfl rfl Yf,hi,(by rw[hs2];exact hle),(by rw[hs2];exact hu),ks,ds,hm,rfl⟩
 ·rw[hb] at dh hs2 hl;replace hget:=λs=>hget s hb hle;simp only[Ak,La] at hl;refine Yw1 ?_;refine En (cnL f c f.ns.length ks ds [] [] []) k3 aK hG (Vj hm rfl rfl rfl) Ya ?_;rintro rc gc' ⟨⟨q,rfl,hq⟩,ks2,ds2,b0,b1,b2,hm2,e0,e1,e2⟩;refine⟨[],k4,cnX f c f.ns.length ks2 ds2 (b0++_) (b1++_) (b2++_),[],.v (.s q),rfl,Rl,O3 hm2 e0 e1 e2 rfl rfl rfl rfl rfl rfl,Ae,hq.nk.rn,?_⟩;clear e0 e1 e2;have qnk:=hq.nk;have qfl:=hq.flat;have cmp:=Lh hu hq;refine Yw2 (λh=>?_) (λh=>?_);·have hlt:n-(B1 (Tr2 f c) c (f.rs.take i)).length<(Tr2 f c i).length:=Mr h;have hw:=hW ks2 ds2 _ u hm2 hu Aa hlt;refine Yw1 ?_;refine En (cnL f c f.ns.length ks2 ds2 [] [] []) k3 aK hw (Vj hm2 rfl rfl rfl) Ya ?_;rintro rc gc' ⟨⟨s,gs,s0,sl,rfl⟩,ks3,ds3,c0,c1,c2,hm3,e0,e1,e2⟩;refine⟨[],k4,cnX f c f.ns.length ks3 ds3 (c0++_) (c1++_) (c2++_),[],.v (.s (.lst 4 (tR s) none)),rfl,Rl,O3 hm3 e0 e1 e2 rfl rfl rfl rfl rfl rfl,Ae,rfl,?_⟩;refine Yw1 ?_;exact .inl ⟨s,hget s gs,s0,AQ sl (QN i Aa),rfl⟩
  ·have hge:(Tr2 f c i).length<=n-(B1 (Tr2 f c) c (f.rs.take i)).length:=Ln h;have s1:=sA hu hq hge;have s2:=S6 (n:=n-(B1 (Tr2 f c) c (f.rs.take i)).length-(Tr2 f c i).length) Aa;generalize aH (n-(B1 (Tr2 f c) c (f.rs.take i)).length-(Tr2 f c i).length)=z at s1 s2;have znk:=s2.nk;refine Yw1 ?_;exact⟨(i+1,z),_,_,Lq,Yj rfl hm2 rfl rfl rfl rfl Yf,hi,(by show(B1 (Tr2 f c) c (f.rs.take (i+1))).length<=n;omega),(by show A6 (n-(B1 (Tr2 f c) c (f.rs.take (i+1))).length) z;rw[hl,Df];exact s2),ks2,ds2,hm2,rfl⟩
theorem YO {f:Fo} {c:Nat} {tot:PV} (D:Tg) (hc:c<4) (ht:A2 tot) (w:WF0 f) (v:WF f) {m:Et} (hm:Fa (Tr2 f c) m) {n:Nat} {nv:PV} (hnv:A6 n nv) (hnl:(B1 (Tr2 f c) c f.rs).length<=n) :
  XC Fn 50 [.v (.s (.ptr k0 0)),.v (.s nv)] (mkH (tyL f c tot m [] []) k2) λr g=>r=.tup [.s .A4,.s (.int .i64 ((120:Nat):Int))] /\
   ∃m l0 l1,Fa (Tr2 f c) m/\g.get k0=some (obl (tbC f c tot) l0)/\g.get k1=some (mpB m l1):=by
 have hrlen:(f.rs.map rV).length=f.rs.length:=Lm ..;have hL:=w.len;have rL:=w.Nl;have nvk:=hnv.nk;refine Ek pt C.f50 rfl ?_;refine Yw1 ?_;refine XW.B6 (pu:=pt) (σ:=Nat×PV) (λq=>f.rs.length-q.1) (λq=>[pE k0 k0,sE k1 q.2,(k13,.v (PA.lst 3 (f.rs.map rV))),(k14,.v (iA (f.rs.map rV).length)),(k15,.v (iA q.1))])
  (λq g=>q.1<=f.rs.length/\A6 (n-(B1 (Tr2 f c) c (f.rs.take q.1)).length) q.2/\∃m l0 l1,Fa (Tr2 f c) m/\g=mkH (tyL f c tot m l0 l1) k2) (0,nv)
  (Sx rfl ht hm rfl rfl Yf) ⟨Zl,hnv,m,[],[],hm,rfl⟩ ?_
 clear hm hnv nvk;rintro⟨i,u⟩ g ⟨hi,hu,m,l0,l1,hm,rfl⟩;replace hi:i<=f.rs.length:=hi;replace hu:A6 (n-(B1 (Tr2 f c) c (f.rs.take i)).length) u:=hu;have unk:=hu.nk;have ufl:=hu.flat;refine⟨λh=>?_,λh=>?_⟩;case refine_2=>refine Yw1 ?_;exact⟨rfl,m,_,_,hm,rfl,rfl⟩
 have hi:i<f.rs.length:=by have:=B0 h;omega
 have hr:f.rs[i]?=some f.rs[i]:=Gg hi;have htk:f.rs.take (i+1)=f.rs.take i++[f.rs[i]]:=An hi;generalize f.rs[i]=r at hr htk;have hgr:=Je hr;obtain⟨r1,r2,r3⟩:=w.rt i r hr;rw[r1] at hgr;have dh:=D.holds r.2 r2 c hc;have hs:=Me (Tr2 f c) c (f.rs.take i) r;rw[<-htk,r1] at hs;have hle2:=Sy (Tr2 f c) c f.rs (i+1);have hG:=V9 (tot:=tot) D hc ht w v i Aa m hm;generalize hfl:(B1 (Tr2 f c) c f.rs).length=full at hle2 hnl;have hl:=Bh List.length hs;cases hb:r.2.testBit c;·rw[hb] at dh hs hl;simp only[Fj,Ag,Ay] at hs hl;refine Yw1 ?_;exact⟨(i+1,u),_,_,Lq,Sx rfl ht hm rfl rfl Yf,hi,(by rw[hs];exact hu),m,_,_,hm,rfl⟩
 ·rw[hb] at dh hs hl;simp only[Ak,La] at hl;refine Yw1 ?_;refine En (tyL f c tot m [] []) k2 tyR hG (Hz ht hm rfl rfl) Ya ?_;rintro rc gc' ⟨⟨q,rfl,hq⟩,m2,b0,b1,hm2,hk2,lgb,e0,e1⟩;refine⟨[],k3,tyX f c tot m2 (b0++l0) (b1++l1),[],.v (.s q),rfl,Rl,H9 ht hm2 e0 e1 rfl rfl rfl rfl,Ae,hq.nk.rn,?_⟩;clear e0 e1;have qnk:=hq.nk;have qfl:=hq.flat;have cmp:=Xr hu hq;refine Yw2 (λh=>?_) (λh=>?_);·have hlt:n-(B1 (Tr2 f c) c (f.rs.take i)).length<(Tr2 f c i).length:=Mr h;omega
  ·have hge:(Tr2 f c i).length<=n-(B1 (Tr2 f c) c (f.rs.take i)).length:=Ln h;obtain⟨z,s1,s2⟩:=pW hu hq hge;have znk:=s2.nk;refine Yw1 ?_;exact⟨(i+1,z),_,_,Lq,Sx rfl ht hm2 rfl rfl Yf,hi,(by show A6 (n-(B1 (Tr2 f c) c (f.rs.take (i+1))).length) z;rw[hl,Df];exact s2),m2,_,_,hm2,rfl⟩
theorem FI {f:Fo} {c:Nat} (hc:c<4) (w:WF0 f) (v:WF f) (h0:∀r∈f.rs,r.2.testBit 0=false) {n:Nat} {nv:PV} (hnv:A6 n nv) (hnl:(B1 (Tr2 f c) c f.rs).length<=n) :
  A3 Fn 14 [foA f,cA c,.v (.s nv)] (.tup [.s .A4,.s (.int .i64 ((120:Nat):Int))]):=by have cs:=Rb Ye kJ w v h0;have nval:=H8 hnv;have tal:=Oy kJ hc w v;have nvk:=hnv.nk;have nvf:=hnv.flat;rw[E4 w.n0 w.r0] at cs tal ⊢;refine Ej pt C.f14 rfl ?_;refine Yw1 ?_;refine Eo tal Ya ?_;rintro rc gc' ⟨rfl,m,l0,l1,tot,hm,ht,e1,e2⟩;have htk:=ht.nk;refine⟨[(k1,k1),(k2,k2)],k3,[],[obl (tbK k1 k2 f c tot) [],mpB m []],.tup [.s (.ptr k1 0),.s (.int .i64 ((0:Nat):Int))],rfl,(show 1<=3 by decide),Ae,⟨⟨_,e1,(Er Ys)⟩,⟨_,e2,.map hm⟩,Ae⟩,.cons rfl (.cons rfl .nil),?_⟩;clear e1 e2;have tr:=YO kJ hc htk w v hm hnv hnl;refine Yw1 ?_;refine En (tyL f c tot m [] []) k2 zK tr (qP htk hm rfl rfl) Ya ?_;rintro rc gc' ⟨rfl,m2,a0,a1,hm2,e0,e1⟩;refine⟨[],k3,QP f c tot m2 (a0++[]) (a1++[]),[],.tup [.s .A4,.s (.int .i64 ((120:Nat):Int))],rfl,Rl,⟨⟨_,_,_,e0,(Er Ys),rfl,rfl,rfl,rfl⟩,⟨_,_,_,e1,.map hm2,rfl,rfl,rfl,rfl⟩,Ae⟩,Ae,.cons rfl (.cons rfl .nil),?_⟩;exact Yw0
end Go.Pv
end
section
noncomputable section
namespace Go.Pv
open Go.Vm
open Go.Vm.Key (kn)
set_option maxRecDepth 40000
set_option maxHeartbeats 0
abbrev Fs:=Et
def Bd (m:Fs) (B:Nat):Prop:=∀p∈m,∀n,A6 n p.2->n<B
def Asc (m:Fs):Prop:=m.Pairwise λp q=>∀a b,A6 a p.2->A6 b q.2->a<b
theorem Bd.mono {m:Fs} {A B:Nat} (h:Bd m A) (hl:A<=B):Bd m B:=λp hp n hn=>Bu (h p hp n hn) hl
theorem Bd.snoc {m:Fs} {n e:Nat} {v:PV} (h:Bd m n) (hv:A6 n v):Bd (m++[(e,v)]) (n+1):=λp hp k hk=>by
 rcases Av.1 hp with hp|hp;·have:=h p hp k hk;omega
 ·rw[Ar] at hp;subst hp;have:=hk.uniq hv;omega
theorem Asc.snoc {m:Fs} {n e:Nat} {v:PV} (h:Asc m) (hb:Bd m n) (hv:A6 n v):Asc (m++[(e,v)]):=by refine Bp.2 ⟨h,Ac,λp hp q hq a b ha hb'=>?_⟩;rw[Ar] at hq;subst hq;have:=hb p hp a ha;have:=hb'.uniq hv;omega
theorem Asc.lt {m:Fs} (h:Asc m) {i j:Nat} {p q:Nat×PV} (hi:m[i]?=some p) (hj:m[j]?=some q) (hij:i<j) {a b:Nat} (ha:A6 a p.2) (hb:A6 b q.2):a<b:=by obtain⟨h1,rfl⟩:=Gi.1 hi;obtain⟨h2,rfl⟩:=Gi.1 hj;exact List.pairwise_iff_getElem.1 h i j h1 h2 hij a b ha hb
theorem xA {e:Nat} {v:PV}:∀{m:Fs},fnd m e=none->rpl e v m=m++[(e,v)]
 |[],_=>rfl
 |p::m,h=>by
  rw[fnd] at h;split at h;·cases h
  ·next he=>rw[rpl,Ao he,xA h];rfl
def btr (e:Nat) (v:PV) (m:Fs):Fs:=if(fnd m e).isSome then m else m++[(e,v)]
theorem sD {m:Fs} {C:Nat->Nat->Prop} (h:B8 m C) {e n:Nat} {v:PV} (hv:A6 n v) (hb:Bd m n) (ha:Asc m):B8 (btr e v m) (λj k=>C j k∨(j=e/\k=n))/\Bd (btr e v m) (n+1)/\Asc (btr e v m):=by
 unfold btr;cases hf:fnd m e with
 |some w=>obtain⟨n1,hw,_⟩:=h.mi hf;obtain⟨j,hj⟩:=S2 hf;have:=hb _ (Aq hj) n1 hw;exact⟨h.Zf hf hw Aa A6.uniq,hb.mono Aa,ha⟩
 |none=>
  refine⟨?_,hb.snoc hv,ha.snoc hb hv⟩;have:=h.put (e:=e) hv λw n' hw _=>by rw[hf] at hw;cases hw
  rw[xA hf] at this;exact this
section
variable {T:EG} {t:Tre}
theorem IX {ms:Fs} {DO:Nat->Nat->Prop} {k r j e more:Nat} {v:PV} (hp:ms[j]?=some (e,v)) (hv:A6 more v) {nx:Fs} (h:B8 nx λe' n=>InC T DO k r ms (List.range j) e' n∨(e'=e/\n=r*(T k).length+more)):B8 nx (InC T DO k r ms (List.range (j+1))):=
 h.eq λe' n=>by
  rw[Cy];constructor
  ·rintro((h|⟨j',v',mr,h1,h2,h3,h4⟩)|⟨rfl,rfl⟩);·exact .inl h
   ·exact .inr ⟨j',v',mr,CK _ h1,h2,h3,h4⟩
   ·exact .inr ⟨j,v,more,Ac,hp,hv,rfl⟩
  ·rintro(h|⟨j',v',mr,h1,h2,h3,h4⟩);·exact .inl (.inl h)
   ·rcases Av.1 h1 with h1|h1;·exact .inl (.inr ⟨j',v',mr,h1,h2,h3,h4⟩)
    ·rw[Ar] at h1;subst h1;rw[hp] at h2;cases h2;rw[h3.uniq hv] at h4;exact .inr ⟨rfl,h4⟩
theorem sG {wm ms:Fs} {k r j mid:Nat} {v:PV} (hp:wm[j]?=some (mid,v)) (hrv:A6 r v) (hms:EY T t k mid ms) {nx:Fs} (h:B8 nx (InC T (OuC T t k wm (List.range j)) k r ms (List.range ms.length))):B8 nx (OuC T t k wm (List.range (j+1))):=
 h.eq λe' n=>by
  rw[Cy];constructor
  ·rintro(⟨j',mid',v',r',mr,h1,h2,h3,h4,h5⟩|⟨j2,v2,more,h1,h2,h3,h4⟩);·exact⟨j',mid',v',r',mr,CK _ h1,h2,h3,h4,h5⟩
   ·obtain⟨more',b1,b2⟩:=hms.mi (Ji hms.keys h2);rw[h3.uniq b1] at h4;exact⟨j,mid,v,r,more',Ac,hp,hrv,b2,h4⟩
  ·rintro⟨j',mid',v',r',mr,h1,h2,h3,h4,h5⟩;rcases Av.1 h1 with h1|h1;·exact .inl ⟨j',mid',v',r',mr,h1,h2,h3,h4,h5⟩
   ·rw[Ar] at h1;subst h1;rw[hp] at h2;cases h2;rw[h3.uniq hrv] at h5;obtain⟨v2,b1,b2⟩:=hms.nO h4;obtain⟨j2,hj2⟩:=S2 b1;exact .inr ⟨j2,v2,mr,BU.2 (Gi.1 hj2).1,hj2,b2,h5⟩
theorem IY {wm:Fs} {k a:Nat} {kq:EF} (hw:B8 wm (WaC T t a kq)) {nx:Fs} (h:B8 nx (OuC T t k wm (List.range wm.length))):B8 nx (StC T t a kq k):=
 h.eq λe n=>by
  constructor;·rintro⟨j,mid,v,r,more,h1,h2,h3,h4,h5⟩;obtain⟨r',a1,a2⟩:=hw.mi (Ji hw.keys h2);rw[h3.uniq a1] at h5;exact⟨mid,r',more,a2,h4,h5⟩
  ·rintro⟨mid,r,more,h1,h2,h3⟩;obtain⟨v,a1,a2⟩:=hw.nO h1;obtain⟨j,hj⟩:=S2 a1;exact⟨j,mid,v,r,more,BU.2 (Gi.1 hj).1,hj,a2,h2,h3⟩
theorem IZ {CO:Nat->Nat->Prop} {B j e r:Nat} {wm:Fs} {v:PV} (hp:wm[j]?=some (e,v)) (hv:A6 r v) {nx:Fs} (h:B8 nx λe' n=>OtC CO B wm (List.range j) e' n∨(e'=e/\n=B+r)):B8 nx (OtC CO B wm (List.range (j+1))):=
 h.eq λe' n=>by
  rw[Cy];constructor
  ·rintro((h|⟨j',v',mr,h1,h2,h3,h4⟩)|⟨rfl,rfl⟩);·exact .inl h
   ·exact .inr ⟨j',v',mr,CK _ h1,h2,h3,h4⟩
   ·exact .inr ⟨j,v,r,Ac,hp,hv,rfl⟩
  ·rintro(h|⟨j',v',mr,h1,h2,h3,h4⟩);·exact .inl (.inl h)
   ·rcases Av.1 h1 with h1|h1;·exact .inl (.inr ⟨j',v',mr,h1,h2,h3,h4⟩)
    ·rw[Ar] at h1;subst h1;rw[hp] at h2;cases h2;rw[h3.uniq hv] at h4;exact .inr ⟨rfl,h4⟩
theorem JA {CO CW:Nat->Nat->Prop} {B:Nat} {wm:Fs} (hw:B8 wm CW) {nx:Fs} (h:B8 nx (OtC CO B wm (List.range wm.length))):B8 nx (λe n=>CO e n∨∃r,Mi CW e r/\n=B+r):=
 h.eq λe n=>by
  constructor
  ·rintro(h|⟨j,v,r,h1,h2,h3,h4⟩);·exact .inl h
   ·obtain⟨r',a1,a2⟩:=hw.mi (Ji hw.keys h2);rw[h3.uniq a1] at h4;exact .inr ⟨r',a2,h4⟩
  ·rintro(h|⟨r,h1,h2⟩);·exact .inl h
   ·obtain⟨v,a1,a2⟩:=hw.nO h1;obtain⟨j,hj⟩:=S2 a1;exact .inr ⟨j,v,r,BU.2 (Gi.1 hj).1,hj,a2,h2⟩
end
end Go.Pv
end
section
noncomputable section
namespace Go.Pv
open Go.Vm Go.Vm.C
open Go.Vm.Key (kn)
set_option maxRecDepth 40000
set_option maxHeartbeats 0
def bE (p:Nat×PV):Ey:=[.int .i64 (p.1:Nat),p.2]
theorem FJ (p:Nat×PV):(bE p).length=2:=rfl
def fR (m:Fs):Eu:=m.map bE
def fV (m:Fs):PV:=slV 2 (fR m)
abbrev fC (m:Fs):Ey:=C9 bE m
theorem TR (m:Fs):(fC m).length=m.length*2:=Kc FJ m
theorem YP (m:Fs) (p:Nat×PV):fC (m++[p])=fC m++bE p:=by simp[C9]
structure AdC (m:Fs) (e:Nat) (v:PV) (cc:Ey) (r:PA) (g:A0):Prop where
 e0:g.get k0=some (fzb cc)
 out:((fnd m e).isSome=true/\r=.v (.s (.slice k1 0 m.length 2 none))/\g.get k1=some (wld (fC m) k0)) ∨
  ((fnd m e).isSome=false/\∃kN,2<=kN.toNat/\r=.v (.s (.slice kN 0 (m++[(e,v)]).length 2 none))/\g.get kN=some ⟨.cells (fC (m++[(e,v)])),true,false,[k1,k0],[]⟩/\g.get k1=some ⟨.cells (fC m),false,false,[k0],[]⟩)
theorem kY:∀{m:Fs} {e:Nat},(∀p∈m,p.1≠e)->fnd m e=none
 |[],_,_=>rfl
 |p::m,e,h=>by rw[fnd,Ao (h p (.head _))];exact kY λq hq=>h q (.tail _ hq)
theorem TS:∀{m:Fs} {i e:Nat} {u:PV},m[i]?=some (e,u)->(fnd m e).isSome=true
 |p::m,0,e,u,h=>by simp at h;subst h;rw[fnd,Aj rfl];rfl
 |p::m,i+1,e,u,h=>by
  rw[fnd];split;·rfl
  ·exact TS (m:=m) (by simpa using h)
theorem nU {m:Fs} {e n:Nat} {v:PV} (hv:A6 n v) (hb:Bd m n) (hm:∀p∈m,∃k,A6 k p.2) (h0:m≠[]) (hl:m.length<=1000) {cc:Ey} :
  XC Fn 122 [.v (.s (.slice k1 0 m.length 2 none)),.v (.agg [.int .i64 (e:Nat),v])] (mkH [(k0,fzb cc),(k1,wld (fC m) k0)] k2) (AdC m e v cc):=by
 have vnk:=hv.nk;have vfl:=hv.flat;have fcl:=TR m;refine Ek pm C.f122 rfl ?_;refine Yw1 ?_;refine XW.Wy (pu:=pm) (σ:=Nat) (λi=>m.length-i) (λi=>[sE k0 (.slice k1 0 m.length 2 none),pE k3 k2,(k5,.v (iA i))]) (λi=>i<=m.length/\∀j p,j<i->m[j]?=some p->p.1≠e) 0 (show 2<=3 by decide) (.cons rfl rfl (.cons rfl rfl (.cons rfl rfl (.nil _)))) ⟨Zl,λj p h=>absurd h Aa⟩ ?_;rintro i ⟨hi,hno⟩;refine⟨λh=>?_,λh=>?_⟩
 ·have hi:i<m.length:=by have:=B0 h;omega
  have hp:m[i]?=some m[i]:=Gg hi;generalize m[i]=p at hp;obtain⟨k,hk⟩:=hm p (Aq hp);have hkn:=hb p (Aq hp) k hk;obtain⟨e',u⟩:=p;have cm:=Lh hv hk;have ufl:=hk.flat;refine Yw1 ?_;refine⟨_,_,ldf FJ rfl hp (k:=0) Ab rfl,?_⟩;refine Yw2 (λh=>?_) (λh=>?_)
  ·refine⟨_,_,ldf FJ rfl hp (k:=1) Ab rfl,?_⟩;refine Yw2 (λh=>?_) (λh=>?_);·exact absurd (Mr h) Aa
   ·obtain rfl:e'=e:=Aa;exact⟨rfl,.inl ⟨TS hp,rfl,rfl⟩⟩
  ·refine⟨i+1,Lq,.cons rfl rfl (.cons rfl rfl (.cons rfl rfl (.nil _))),rfl,hi,λj p hj hjp=>?_⟩;by_cases hji:j<i;·exact hno j p hji hjp
   ·rw[show j=i from Aa,hp] at hjp;cases hjp;exact λe1=>h (by rw[e1])
 ·have hii:i=m.length:=by have:=B5 h;omega
  have hn:fnd m e=none:=kY λp hp=>by obtain⟨j,hj,rfl⟩:=DN hp;exact hno j _ Aa (Gg hj)
  refine Yw1 ?_;refine⟨_,_,jB (n:=m.length) (k:=1) (new:=bE (e,v)) rfl fcl rfl Ab Aa,?_⟩;refine Yw1 ?_;exact⟨rfl,.inr ⟨by rw[hn];rfl,k4,(show 2<=4 by decide),by rw[La];rfl,by rw[YP];rfl,rfl⟩⟩
theorem kZ {e n:Nat} {v:PV} (hv:A6 n v):XC Fn 122 [.v (.s .A4),.v (.agg [.int .i64 (e:Nat),v])] (mkH [] k0) λr g=>r=.v (.s (.slice k2 0 1 2 none))/\g.get k2=some (ob (fC [(e,v)])):=by have vnk:=hv.nk;have vfl:=hv.flat;refine Ek pm C.f122 rfl ?_;refine Yz pm ?_;exact⟨rfl,rfl⟩
section
variable {T:EG} {f:Fo} {c N:Nat} {t:Tre}
theorem xD {a b:Nat} {v w:PV} (hv:A6 a v) (hw:A6 b w) (hs:a*b<4294967296) {ks ds:Ey} (hm:Hw T N ks ds) :
  XC Fn 180 [.v (.s (.ptr k0 0)),.v (.s (.slice k3 0 2 1 (some 2)))] (mkH (cnL f c N ks ds [] [] []++[(k3,ob [v,w])]) k4) λr g=>wO T f c N (a*b) r g/\g.get k3=some (ob [v,w]):=by
 obtain⟨r1,o1,o2⟩:=zB (n:=1) Ab;obtain⟨r2,p1,p2⟩:=Zt o2 hv (by rw[Ce];exact hv.lt);rw[Ce] at p2;obtain⟨r3,q1,q2⟩:=Zt p2 hw hs;have fr1:=o2.flat;have fv:=hv.flat;have fw:=hw.flat;have fr2:=p2.flat;have fr3:=q2.flat;refine Ek pm C.f180 rfl ?_;clear hs;refine Yx pm ?_;cases hv;·refine Yw1 ?_;exact⟨⟨⟨_,rfl,by rw[Bo];exact A6.nil⟩,_,_,_,_,_,hm,rfl,rfl,rfl⟩,rfl⟩
 ·refine Yw1 ?_;exact⟨⟨⟨_,rfl,by rw[Bo];exact A6.nil⟩,_,_,_,_,_,hm,rfl,rfl,rfl⟩,rfl⟩
 ·refine Yx pm ?_;cases hw;·refine Yw1 ?_;exact⟨⟨⟨_,rfl,by rw[BN];exact A6.nil⟩,_,_,_,_,_,hm,rfl,rfl,rfl⟩,rfl⟩
  ·refine Yw1 ?_;exact⟨⟨⟨_,rfl,by rw[BN];exact A6.nil⟩,_,_,_,_,_,hm,rfl,rfl,rfl⟩,rfl⟩
  ·refine Yz pm ?_;refine Yy pm ?_;refine Yy pm ?_;refine Yy pm ?_;exact⟨⟨⟨_,rfl,q2⟩,_,_,_,_,_,hm,rfl,rfl,rfl⟩,rfl⟩
theorem Pu (m:Fs) (ρ:EC):rnV ρ (fV m)=some (fV m):=(E9 _ _).rn
structure TT (T:EG) (f:Fo) (c N tl:Nat) (C:Nat->Nat->Prop) (r:PA) (g:A0):Prop where
 out:∃m,r=.v (.s (fV m))/\B8 m C/\Asc m/\∀p∈m,p.1<=tl
 blk:∃ks ds l0 l1 l2,Hw T N ks ds/\g.get k0=some (obl (cnC f c N) l0)/\g.get k1=some (obl ks l1)/\g.get k2=some (obl ds l2)
def AbV (T:EG) (f:Fo) (c N:Nat) (t:Tre) (i:Nat):Prop:=∀ks ds a,Hw T N ks ds->a<=t.length->XC Fn 67 [.v (.s (.ptr k0 0)),iA i,.v (.s (tV t)),iA a] (mkH (cnL f c N ks ds [] [] []) k3) (TT T f c N t.length (RdC T t i a))
def AbW (T:EG) (f:Fo) (c N:Nat) (t:Tre) (i:Nat):Prop:=∀ks ds a,Hw T N ks ds->a<=t.length->XC Fn 184 [.v (.s (.ptr k0 0)),.v (.agg (kV i)),.v (.s (tV t)),iA a] (mkH (cnL f c N ks ds [] [] []) k3) (TT T f c N t.length (RdC T t i a))
theorem YQ {i:Nat} (hG:AbV T f c N t i):AbW T f c N t i:=by intro ks ds a hm ha;refine Ek pm C.f184 rfl ?_;refine Yw1 ?_;refine En (cnL f c N ks ds [] [] []) k3 cnR (hG ks ds a hm ha) (E7 hm rfl rfl rfl) Ya ?_;rintro rc gc' ⟨⟨m,rfl,h1,h2,h3⟩,ks',ds',l0,l1,l2,hm',e0,e1,e2⟩;refine⟨[],k4,cnX f c N ks' ds' (l0++[]) (l1++[]) (l2++[]),[],.v (.s (fV m)),rfl,Rl,E5 hm' e0 e1 e2 rfl rfl rfl rfl rfl rfl,Ae,Pu _ _,?_⟩;refine Yw1 ?_;exact⟨⟨m,rfl,h1,h2,h3⟩,_,_,_,_,_,hm',rfl,rfl,rfl⟩
theorem Vk {m:Fs} (h:∀p∈m,∃n,A6 n p.2):∀v∈fC m,A2 v:=λv hv=>by
 obtain⟨p,hp,hv⟩:=AY.1 hv;obtain⟨n,hn⟩:=h p hp;simp only[bE,Af,Ah,AP] at hv;rcases hv with rfl|rfl;·exact Ae
 ·exact hn.nk
def oV (m:Fs):PV:=match m with
 |[]=>.A4
 |_=>.slice k4 0 m.length 2 none
def oB:Fs->List (Key×B4)
 |[]=>[]
 |p::m=>[(k4,wld (fC (p::m)) k3)]
def oN:Fs->Key
 |[]=>k4
 |_=>k5
abbrev kdB (k:Nat):B4:=⟨.cells (kV k),true,true,[],[]⟩
theorem fB {lo:Nat} {L1 L2:Fm} {k:Nat} {ks ds:Ey} {l0 l1 l2 lb:Es} {g:A0} (hlo:lo=3) (hm:Hw T N ks ds) (e0:g.get k0=some (obl (cnC f c N) l0)) (e1:g.get k1=some (obl ks l1)) (e2:g.get k2=some (obl ds l2)) (e3:g.get k3=some ⟨.cells (kV k),true,true,[],lb⟩) (hf:Jz (rho lo [(k3,k3)]) L1 L2):Trim lo (rho lo [(k3,k3)]) L1 g L2 (mkH (cnL f c N ks ds l0 l1 l2++[(k3,kdB k)]) k4):=by subst hlo;exact Trim.of (lo:=3) (l:=cnL f c N ks ds l0 l1 l2++[(k3,kdB k)]) (nx:=k4) [(k3,k3)] rfl (show 3<=4 by decide) ⟨e2.symm,e1.symm,e0.symm,Ae⟩ ⟨⟨_,_,rfl,e0,.same Yc⟩,⟨_,_,rfl,e1,.same (A2.cells hm.knk)⟩,⟨_,_,rfl,e2,.same (A2.cells hm.dnk)⟩,⟨_,_,rfl,e3,(Er Ys)⟩,Ae⟩ hf
theorem Wi {lo:Nat} {L1 L2:Fm} {k:Nat} {ks ds:Ey} {l0 l1 l2 lb lx:Es} {ax:ED} {m:Fs} {g:A0} (kx:Key) (hlo:lo=3) (hm:Hw T N ks ds) (hnk:∀p∈m,∃n,A6 n p.2) (e0:g.get k0=some (obl (cnC f c N) l0)) (e1:g.get k1=some (obl ks l1)) (e2:g.get k2=some (obl ds l2)) (e3:g.get k3=some ⟨.cells (kV k),true,true,[],lb⟩) (ex:g.get kx=some ⟨.cells (fC m),true,false,ax,lx⟩) (hn:Gk lo k5.toNat (cnL f c N ks ds l0 l1 l2++[(k3,kdB k),(k4,wld (fC m) k3)]) [(k3,k3),(k4,kx)] [] []=true) (hf:Jz (rho lo [(k3,k3),(k4,kx)]) L1 L2):Trim lo (rho lo [(k3,k3),(k4,kx)]) L1 g L2 (mkH (cnL f c N ks ds l0 l1 l2++[(k3,kdB k),(k4,wld (fC m) k3)]) k5):=by subst hlo;exact Trim.of (lo:=3) (l:=cnL f c N ks ds l0 l1 l2++[(k3,kdB k),(k4,wld (fC m) k3)]) (nx:=k5) [(k3,k3),(k4,kx)] hn (show 3<=5 by decide) ⟨e2.symm,e1.symm,e0.symm,Ae⟩ ⟨⟨_,_,rfl,e0,.same Yc⟩,⟨_,_,rfl,e1,.same (A2.cells hm.knk)⟩,⟨_,_,rfl,e2,.same (A2.cells hm.dnk)⟩,⟨_,_,rfl,e3,(Er Ys)⟩,⟨_,_,rfl,ex,⟨A2.cells (Vk hnk),λ_=>⟨rfl,.inr ⟨_,_,_,.head _,rfl,e3,rfl⟩⟩,rfl⟩⟩,Ae⟩ hf
end
section
variable {T:EG} {f:Fo} {c N:Nat} {t:Tre}
abbrev fuI (lm m:Fs) (t:Tre) (i:Nat):Fm:=[pE k0 k0,sE k1 (.lst 2 (fR lm) none),sE k3 (tV t),pE k6 k3,sE k9 (oV m),(k10,.v (iA i))]
abbrev fuJ (lm m ms:Fs) (t:Tre) (i j:Nat):Fm:=fuI lm m t i++[sE k11 (.lst 2 (fR ms) none),(k12,.v (iA j))]
theorem sH {m:Fs} {i e:Nat} {v:PV} (h:m[i]?=some (e,v)):(fR m)[(i:Int).toNat]?=some [.int .i64 (e:Nat),v]:=by simp[fR,h,bE]
theorem cH (m:Fs):(fR m).length=m.length:=Lm ..
theorem xE (t:Tre):A2 (tV t):=E9 _ _
theorem B8.len {m:Fs} {C:Nat->Nat->Prop} (h:B8 m C) {B:Nat} (hb:∀p∈m,p.1<=B):m.length<=B+1:=by
 have:=Hc (B+1) (m.map (·.1)) h.keys λe he=>by obtain⟨p,hp,rfl⟩:=Aw.1 he;have:=hb p hp;omega
 simpa using this
theorem sI {m:Fs} {e B:Nat} {v:PV} (h:∀p∈m,p.1<=B) (he:e<=B):∀p∈btr e v m,p.1<=B:=by
 unfold btr;split;·exact h
 ·intro p hp;rcases Av.1 hp with hp|hp
  ·exact h p hp
  ·rw[Ar] at hp;subst hp;exact he
theorem Aap {g:A0} {k:Key} {own frz:Bool} {anc:ED} {log:Es} {m:Fs} (hg:g.get k=some ⟨.cells (fC m),own,frz,anc,log⟩) (hv:∀p∈m,∃n,A6 n p.2) (h0:m≠[]) :
  Kz 40 (.slice k 0 m.length 2 none) g=some (fV m,if frz then g else g.upd k (some ⟨.cells (fC m),own,true,anc,log⟩)):=by
 have hpos:=AS.2 h0;have h:=J0 (n:=38) (es:=2) (len:=m.length) (cap:=none) hg (TR m).symm Aa rfl (H4 λv hv'=>by
  obtain⟨p,hp,hv'⟩:=AY.1 hv'
  obtain⟨n,hn⟩:=hv p hp
  simp only[bE,Af,Ah,AP] at hv'
  rcases hv' with rfl|rfl
  ·exact Ae
  ·exact hn.flat)
 have e:chunk 2 m.length (fC m)=fR m:=by
  have:=Mc (es:=2) (l:=fR m) λx hx=>by obtain⟨p,_,rfl⟩:=Aw.1 hx;rfl
  rw[cH] at this;exact this
 rw[e] at h;rw[h];cases m with
 |nil=>exact absurd rfl h0
 |cons=>rfl
theorem Mg {lm:Fs} {a k:Nat} {kq:EF} (hw:B8 lm (WaC T t a kq)) (hasc:Asc lm) (hkid:MH T f c N k) (hmk:AbW T f c N t k) (hB:(B9 T (kq++[k])).length<4294967296) (htl:t.length<=900) {ks ds:Ey} (hm:Hw T N ks ds) :
  XC Fn 121 [.v (.s (.ptr k0 0)),.v (.s (fV lm)),.v (.agg (kV k)),.v (.s (tV t))] (mkH (cnL f c N ks ds [] [] []) k3) (TT T f c N t.length (StC T t a kq k)):=by
 have tnk:=xE t;refine XC.LG ?_;refine Ek pm C.f121 rfl ?_;rcases lm with _|⟨p0,lm0⟩
 ·refine Yz pm ?_;exact⟨_,_,rfl,⟨[],rfl,IY hw (B8.nil.eq λe n=>by simp[OuC]),.nil,Ac⟩,_,_,_,_,_,hm,rfl,rfl,rfl⟩
 generalize hlm:p0::lm0=lm at *;have hlv:fV lm=.lst 2 (fR lm) none:=by rw[<-hlm];rfl
 rw[hlv];have hll:=cH lm;have hlb:=hw.len (B:=t.length) λp hp=>by obtain⟨i,hi⟩:=BP.1 hp;obtain⟨r,_,hr⟩:=hw.mi (Ji hw.keys hi);exact hr.1.2.1
 refine Yw1 ?_;refine XW.Mq k3 Rl rfl rfl ?_;refine XW.B6 (pu:=pm) (σ:=Nat×Fs) (λq=>lm.length-q.1) (λq=>fuI lm q.2 t q.1)
  (λq g=>q.1<=lm.length/\B8 q.2 (OuC T t k lm (List.range q.1))/\Asc q.2/\(∀p∈q.2,p.1<=t.length)/\(∃B,Bd q.2 B/\∀p r,lm[q.1]?=some p->A6 r p.2->B<=r*(T k).length)/\∃ks ds l0 l1 l2,Hw T N ks ds/\g=mkH (cnL f c N ks ds l0 l1 l2++(k3,kdB k)::oB q.2) (oN q.2)) (0,[])
  (fB rfl hm rfl rfl rfl rfl ?_) ⟨Zl,B8.nil.eq λe n=>by simp[OuC],.nil,Ac,⟨0,by simp[Bd],λ_ _ _ _=>Zl⟩,ks,ds,[],[],[],hm,rfl⟩ ?_
 ·repeat' first|refine⟨⟨_,rfl,rfl⟩,?_⟩|refine⟨⟨_,rfl,A2.rn (by assumption)⟩,?_⟩|exact trivial|fail
 clear hm;rintro⟨i,m⟩ g ⟨hi,hO,hA,hkb,⟨B,hBd,hBn⟩,ks,ds,l0,l1,l2,hm,rfl⟩;replace hi:i<=lm.length:=hi;replace hO:B8 m (OuC T t k lm (List.range i)):=hO;replace hA:Asc m:=hA;replace hkb:∀p∈m,p.1<=t.length:=hkb;replace hBd:Bd m B:=hBd;replace hBn:∀p r,lm[i]?=some p->A6 r p.2->B<=r*(T k).length:=hBn;have hval:=hO.val;refine⟨λh=>?_,λh=>?_⟩
 ·have hi:i<lm.length:=by have:=B0 h;omega
  have hp:lm[i]?=some lm[i]:=Gg hi
  generalize lm[i]=p at hp
  obtain⟨mid,v⟩:=p
  obtain⟨r,hrv,hmi⟩:=hw.mi (Ji hw.keys hp)
  simp only at hrv hmi
  have hgl:=sH hp
  have vnk:=hrv.nk
  have vfl:=hrv.flat
  have mk:=hmk ks ds mid hm hmi.1.2.1
  replace hBn:=hBn _ r hp hrv
  rcases m with _|⟨q0,m0⟩
  case' nil=>
   refine Yw1 ?_
   refine En (cnL f c N ks ds [] [] []) k3 cnR mk (E7 hm rfl rfl rfl) Ya ?_
   rintro rc gc' ⟨⟨ms,rfl,hms,hAs,hks⟩,ks2,ds2,a0,a1,a2,hm2,e0,e1,e2⟩
   rcases ms with _|⟨p1,ms1⟩
   ·refine⟨[],k4,cnX f c N ks2 ds2 (a0++l0) (a1++l1) (a2++l2),[],.v (.s .A4),rfl,Rl,E5 hm2 e0 e1 e2 rfl rfl rfl rfl rfl rfl,Ae,rfl,?_⟩
    clear e0 e1 e2
    refine Yz pm ?_
    exact⟨(i+1,[]),_,_,Lq,fB rfl hm2 rfl rfl rfl rfl Yf,hi,sG hp hrv hms (hO.eq λe n=>by simp[InC]),hA,hkb,⟨B,hBd,λp' r' hp' hr'=>AQ hBn (AZ _ (Dm (hasc.lt hp hp' (AI i) hrv hr')))⟩,ks2,ds2,_,_,_,hm2,rfl⟩
   generalize hme:p1::ms1=ms at *
   have hmv:fV ms=.lst 2 (fR ms) none:=by rw[<-hme];rfl
   refine⟨[],k4,cnX f c N ks2 ds2 (a0++l0) (a1++l1) (a2++l2),[],.v (.s (.lst 2 (fR ms) none)),rfl,Rl,E5 hm2 e0 e1 e2 rfl rfl rfl rfl rfl rfl,Ae,(by rw[hmv];rfl),?_⟩
   clear e0 e1 e2
   have hml:=cH ms
   have hmb:=hms.len hks
   refine Yw1 ?_
   refine XW.B6 (pu:=pm) (σ:=Nat×Fs) (λq=>ms.length-q.1) (λq=>fuJ lm q.2 ms t i q.1)
    (λq g=>q.1<=ms.length/\B8 q.2 (InC T (OuC T t k lm (List.range i)) k r ms (List.range q.1))/\Asc q.2/\(∀p∈q.2,p.1<=t.length)/\(∃B,Bd q.2 B/\B<=(r+1)*(T k).length/\∀p more,ms[q.1]?=some p->A6 more p.2->B<=r*(T k).length+more)/\∃ks ds l0 l1 l2,Hw T N ks ds/\g=mkH (cnL f c N ks ds l0 l1 l2++(k3,kdB k)::oB q.2) (oN q.2)) (0,[])
    (fB rfl hm2 rfl rfl rfl rfl Yf) ⟨Zl,hO.eq λe n=>by simp[InC],hA,hkb,⟨B,hBd,by rw[Bg];omega,λ_ _ _ _=>Aa⟩,ks2,ds2,_,_,_,hm2,rfl⟩ ?_
  case' cons=>
   refine Yw1 ?_
   refine En (cnL f c N ks ds [] [] []) k3 cnR mk (E7 hm rfl rfl rfl) Ya ?_
   rintro rc gc' ⟨⟨ms,rfl,hms,hAs,hks⟩,ks2,ds2,a0,a1,a2,hm2,e0,e1,e2⟩
   rcases ms with _|⟨p1,ms1⟩
   ·refine⟨[],k5,cnX f c N ks2 ds2 (a0++l0) (a1++l1) (a2++l2),[],.v (.s .A4),rfl,Rl,E5 hm2 e0 e1 e2 rfl rfl rfl rfl rfl rfl,Ae,rfl,?_⟩
    clear e0 e1 e2
    refine Yz pm ?_
    exact⟨(i+1,(q0::m0)),_,_,Lq,Wi k4 rfl hm2 hval rfl rfl rfl rfl rfl rfl Yf,hi,sG hp hrv hms (hO.eq λe n=>by simp[InC]),hA,hkb,⟨B,hBd,λp' r' hp' hr'=>AQ hBn (AZ _ (Dm (hasc.lt hp hp' (AI i) hrv hr')))⟩,ks2,ds2,_,_,_,hm2,rfl⟩
   generalize hme:p1::ms1=ms at *
   have hmv:fV ms=.lst 2 (fR ms) none:=by rw[<-hme];rfl
   refine⟨[],k5,cnX f c N ks2 ds2 (a0++l0) (a1++l1) (a2++l2),[],.v (.s (.lst 2 (fR ms) none)),rfl,Rl,E5 hm2 e0 e1 e2 rfl rfl rfl rfl rfl rfl,Ae,(by rw[hmv];rfl),?_⟩
   clear e0 e1 e2
   have hml:=cH ms
   have hmb:=hms.len hks
   refine Yw1 ?_
   refine XW.B6 (pu:=pm) (σ:=Nat×Fs) (λq=>ms.length-q.1) (λq=>fuJ lm q.2 ms t i q.1)
    (λq g=>q.1<=ms.length/\B8 q.2 (InC T (OuC T t k lm (List.range i)) k r ms (List.range q.1))/\Asc q.2/\(∀p∈q.2,p.1<=t.length)/\(∃B,Bd q.2 B/\B<=(r+1)*(T k).length/\∀p more,ms[q.1]?=some p->A6 more p.2->B<=r*(T k).length+more)/\∃ks ds l0 l1 l2,Hw T N ks ds/\g=mkH (cnL f c N ks ds l0 l1 l2++(k3,kdB k)::oB q.2) (oN q.2)) (0,(q0::m0))
    (Wi k4 rfl hm2 hval rfl rfl rfl rfl rfl rfl Yf) ⟨Zl,hO.eq λe n=>by simp[InC],hA,hkb,⟨B,hBd,by rw[Bg];omega,λ_ _ _ _=>Aa⟩,ks2,ds2,_,_,_,hm2,rfl⟩ ?_
  all_goals
   rintro⟨j,m⟩ g ⟨hj,hO2,hA2,hkb2,⟨B2,hBd2,hB3,hBn2⟩,ks3,ds3,b0,b1,b2,hm3,rfl⟩
   replace hj:j<=ms.length:=hj
   replace hO2:B8 m (InC T (OuC T t k lm (List.range i)) k r ms (List.range j)):=hO2
   replace hA2:Asc m:=hA2
   replace hkb2:∀p∈m,p.1<=t.length:=hkb2
   replace hBd2:Bd m B2:=hBd2
   replace hBn2:∀p more,ms[j]?=some p->A6 more p.2->B2<=r*(T k).length+more:=hBn2
   have hval2:=hO2.val
   refine⟨λh=>?_,λh=>?_⟩
   ·have hj:j<ms.length:=by have:=B0 h;omega
    have hp2:ms[j]?=some ms[j]:=Gg hj
    generalize ms[j]=p2 at hp2
    obtain⟨e,u⟩:=p2
    obtain⟨more,huv,hmi2⟩:=hms.mi (Ji hms.keys hp2)
    simp only at huv hmi2
    have hml2:more<(T k).length:=(Gi.1 hmi2.1.2.2).1
    have hlt:=DV (Adw hmi.1 hmi2.1) hB
    have hgl2:=sH hp2
    have unk:=huv.nk
    have ufl:=huv.flat
    have kd:=hkid ks3 ds3 hm3
    replace hBn2:=hBn2 _ more hp2 huv
    rcases m with _|⟨q1,m1⟩
    ·refine Yw1 ?_
     refine En (cnL f c N ks3 ds3 [] [] []) k3 cnR kd (E7 hm3 rfl rfl rfl) Ya ?_
     rintro rc gc' ⟨⟨w,rfl,hwv⟩,ks4,ds4,c0,c1,c2,hm4,e0,e1,e2⟩
     refine⟨[],k5,cnX f c N ks4 ds4 (c0++b0) (c1++b1) (c2++b2),[],.v (.s w),rfl,Rl,E5 hm4 e0 e1 e2 rfl rfl rfl rfl rfl rfl,Ae,hwv.nk.rn,?_⟩
     clear e0 e1 e2
     have wnk:=hwv.nk
     have wfl:=hwv.flat
     have pr:=xD (f:=f) (c:=c) hrv hwv Aa hm4
     refine Yw1 ?_
     refine En (cnL f c N ks4 ds4 [] [] []++[(k3,ob [v,w])]) k4 [(k0,k0),(k1,k1),(k2,k2),(k3,k4)] pr ⟨⟨_,_,rfl,rfl,.same Yc⟩,⟨_,_,rfl,rfl,.same (A2.cells hm4.knk)⟩,⟨_,_,rfl,rfl,.same (A2.cells hm4.dnk)⟩,⟨_,_,rfl,rfl,.same Yc⟩,Ae⟩ Ya ?_
     rintro rc gc' ⟨⟨⟨y,rfl,hyv⟩,ks5,ds5,d0,d1,d2,hm5,e0,e1,e2⟩,e3⟩
     refine⟨[],k5,cnX f c N ks5 ds5 (d0++_) (d1++_) (d2++_)++[some (ob [v,w])],[],.v (.s y),rfl,Rl,⟨⟨_,_,_,e0,.same Yc,rfl,rfl,rfl,rfl⟩,⟨_,_,_,e1,.same (A2.cells hm5.knk),rfl,rfl,rfl,rfl⟩,⟨_,_,_,e2,.same (A2.cells hm5.dnk),rfl,rfl,rfl,rfl⟩,⟨_,_,_,e3,.same Yc,rfl,rfl,rfl,rfl⟩,Ae⟩,Ae,hyv.nk.rn,?_⟩
     clear e0 e1 e2 e3
     have ynk:=hyv.nk
     have ad:=Gf (f:=f) (c:=c) hm5 hyv huv hlt
     refine Yw1 ?_
     refine En (cnL f c N ks5 ds5 [] [] []) k3 cnR ad (E7 hm5 rfl rfl rfl) Ya ?_
     rintro rc gc' ⟨⟨z,rfl,hzv⟩,ks6,ds6,f0,f1,f2,hm6,e0,e1,e2⟩
     refine⟨[],k5,cnX f c N ks6 ds6 (f0++_) (f1++_) (f2++_),[],.v (.s z),rfl,Rl,E5 hm6 e0 e1 e2 rfl rfl rfl rfl rfl rfl,Ae,hzv.nk.rn,?_⟩
     clear e0 e1 e2
     have znk:=hzv.nk
     obtain⟨x1,x2,x3⟩:=sD hO2 (e:=e) hzv (hBd2.mono hBn2) hA2
     replace x1:=IX hp2 huv x1
     have x4:=sI (v:=z) hkb2 hmi2.1.2.1
     have xB:∃B,Bd (btr e z []) B/\B<=(r+1)*(T k).length/\∀p more',ms[j+1]?=some p->A6 more' p.2->B<=r*(T k).length+more':=⟨_,x2,by rw[Bg];omega,λp' m' hp' hm'=>by have:=hAs.lt hp2 hp' (AI j) huv hm';omega⟩
     refine Yw1 ?_
     refine Eo (kZ (e:=e) hzv) Ya ?_
     rintro rc gc' ⟨rfl,e2⟩
     refine⟨[(k5,k2)],k6,[],[ob (fC [(e,z)])],.v (.s (.slice k5 0 1 2 none)),rfl,(show 5<=6 by decide),Ae,⟨⟨_,e2,.same Yc⟩,Ae⟩,rfl,?_⟩
     clear e2
     refine Yw1 ?_
     exact⟨(j+1,[(e,z)]),_,_,Lq,Wi k5 rfl hm6 x1.val rfl rfl rfl rfl rfl rfl Yf,hj,x1,x3,x4,xB,ks6,ds6,_,_,_,hm6,rfl⟩
    ·refine Yw1 ?_
     refine En (cnL f c N ks3 ds3 [] [] []) k3 cnR kd (E7 hm3 rfl rfl rfl) Ya ?_
     rintro rc gc' ⟨⟨w,rfl,hwv⟩,ks4,ds4,c0,c1,c2,hm4,e0,e1,e2⟩
     refine⟨[],k6,cnX f c N ks4 ds4 (c0++b0) (c1++b1) (c2++b2),[],.v (.s w),rfl,Rl,E5 hm4 e0 e1 e2 rfl rfl rfl rfl rfl rfl,Ae,hwv.nk.rn,?_⟩
     clear e0 e1 e2
     have wnk:=hwv.nk
     have wfl:=hwv.flat
     have pr:=xD (f:=f) (c:=c) hrv hwv Aa hm4
     refine Yw1 ?_
     refine En (cnL f c N ks4 ds4 [] [] []++[(k3,ob [v,w])]) k4 [(k0,k0),(k1,k1),(k2,k2),(k3,k5)] pr ⟨⟨_,_,rfl,rfl,.same Yc⟩,⟨_,_,rfl,rfl,.same (A2.cells hm4.knk)⟩,⟨_,_,rfl,rfl,.same (A2.cells hm4.dnk)⟩,⟨_,_,rfl,rfl,.same Yc⟩,Ae⟩ Ya ?_
     rintro rc gc' ⟨⟨⟨y,rfl,hyv⟩,ks5,ds5,d0,d1,d2,hm5,e0,e1,e2⟩,e3⟩
     refine⟨[],k6,cnX f c N ks5 ds5 (d0++_) (d1++_) (d2++_)++[some (ob [v,w])],[],.v (.s y),rfl,Rl,⟨⟨_,_,_,e0,.same Yc,rfl,rfl,rfl,rfl⟩,⟨_,_,_,e1,.same (A2.cells hm5.knk),rfl,rfl,rfl,rfl⟩,⟨_,_,_,e2,.same (A2.cells hm5.dnk),rfl,rfl,rfl,rfl⟩,⟨_,_,_,e3,.same Yc,rfl,rfl,rfl,rfl⟩,Ae⟩,Ae,hyv.nk.rn,?_⟩
     clear e0 e1 e2 e3
     have ynk:=hyv.nk
     have ad:=Gf (f:=f) (c:=c) hm5 hyv huv hlt
     refine Yw1 ?_
     refine En (cnL f c N ks5 ds5 [] [] []) k3 cnR ad (E7 hm5 rfl rfl rfl) Ya ?_
     rintro rc gc' ⟨⟨z,rfl,hzv⟩,ks6,ds6,f0,f1,f2,hm6,e0,e1,e2⟩
     refine⟨[],k6,cnX f c N ks6 ds6 (f0++_) (f1++_) (f2++_),[],.v (.s z),rfl,Rl,E5 hm6 e0 e1 e2 rfl rfl rfl rfl rfl rfl,Ae,hzv.nk.rn,?_⟩
     clear e0 e1 e2
     have znk:=hzv.nk
     obtain⟨x1,x2,x3⟩:=sD hO2 (e:=e) hzv (hBd2.mono hBn2) hA2
     replace x1:=IX hp2 huv x1
     have x4:=sI (v:=z) hkb2 hmi2.1.2.1
     have xB:∃B,Bd (btr e z (q1::m1)) B/\B<=(r+1)*(T k).length/\∀p more',ms[j+1]?=some p->A6 more' p.2->B<=r*(T k).length+more':=⟨_,x2,by rw[Bg];omega,λp' m' hp' hm'=>by have:=hAs.lt hp2 hp' (AI j) huv hm';omega⟩
     refine Yw1 ?_
     have hl2:=hO2.len hkb2
     refine En [(k0,fzb (kV k)),(k1,wld (fC (q1::m1)) k0)] k2 [(k0,k3),(k1,k4)] (nU (e:=e) hzv (hBd2.mono hBn2) hval2 Ac Aa) ⟨⟨_,_,rfl,rfl,(Er Ys)⟩,⟨_,_,rfl,rfl,⟨A2.cells (Vk hval2),λ_=>⟨rfl,.inl (.cons rfl .nil)⟩,rfl⟩⟩,Ae⟩ Ya ?_
     rintro rc gc' ⟨e3,⟨hf,rfl,e4⟩|⟨hf,kN,hle,rfl,eN,e4⟩⟩
     ·rw[show btr e z (q1::m1)=q1::m1 from by unfold btr;rw[Aj hf]] at x1 x3 x4 xB
      refine⟨[],k6,[some (kdB k),some (wld (fC (q1::m1)) k3)],[],.v (.s (.slice k4 0 (q1::m1).length 2 none)),rfl,Rl,⟨⟨_,_,_,e3,(Er Ys),rfl,rfl,rfl,rfl⟩,⟨_,_,_,e4,⟨A2.cells (Vk hval2),λ_=>⟨rfl,.inl (.cons rfl .nil)⟩,rfl⟩,rfl,rfl,rfl,rfl⟩,Ae⟩,Ae,rfl,?_⟩
      clear e3 e4
      refine Yw1 ?_
      exact⟨(j+1,q1::m1),_,_,Lq,Wi k4 rfl hm6 x1.val rfl rfl rfl rfl rfl rfl Yf,hj,x1,x3,x4,xB,ks6,ds6,_,_,_,hm6,rfl⟩
     ·rw[show btr e z (q1::m1)=q1::m1++[(e,z)] from by unfold btr;rw[Ao (by rw[hf];decide)]] at x1 x3 x4 xB
      refine⟨[(k6,kN)],k7,[some (kdB k),some ⟨.cells (fC (q1::m1)),false,false,[k3],[]⟩],[⟨.cells (fC (q1::m1++[(e,z)])),true,false,[k4,k3],[]⟩],.v (.s (.slice k6 0 (q1::m1++[(e,z)]).length 2 none)),Kd Rl Ab hle,(show 6<=7 by decide),⟨⟨_,_,_,e3,(Er Ys),rfl,rfl,rfl,rfl⟩,⟨_,_,_,e4,⟨A2.cells (Vk hval2),Ep,rfl⟩,rfl,rfl,rfl,rfl⟩,Ae⟩,⟨⟨_,eN,⟨A2.cells (Vk x1.val),λ_=>⟨rfl,.inl (.cons rfl (.cons rfl .nil))⟩,rfl⟩⟩,Ae⟩,rfl,?_⟩
      clear e3 e4 eN
      refine Yw1 ?_
      exact⟨(j+1,q1::m1++[(e,z)]),_,_,Lq,Wi k6 rfl hm6 x1.val rfl rfl rfl rfl rfl rfl Yf,hj,x1,x3,x4,xB,ks6,ds6,_,_,_,hm6,rfl⟩
   ·have hjj:j=ms.length:=by have:=B5 h;omega
    rw[hjj] at hO2
    have fin:=sG hp hrv hms hO2
    have hBf:∃B,Bd m B/\∀p r',lm[i+1]?=some p->A6 r' p.2->B<=r'*(T k).length:=⟨B2,hBd2,λp' r' hp' hr'=>AQ hB3 (AZ _ (hasc.lt hp hp' (AI i) hrv hr'))⟩
    rcases m with _|⟨q1,m1⟩
    ·refine Yw1 ?_
     exact⟨(i+1,[]),_,_,Lq,fB rfl hm3 rfl rfl rfl rfl Yf,hi,fin,hA2,hkb2,hBf,ks3,ds3,_,_,_,hm3,rfl⟩
    ·refine Yw1 ?_
     exact⟨(i+1,q1::m1),_,_,Lq,Wi k4 rfl hm3 fin.val rfl rfl rfl rfl rfl rfl Yf,hi,fin,hA2,hkb2,hBf,ks3,ds3,_,_,_,hm3,rfl⟩
 ·have hii:i=lm.length:=by have:=B5 h;omega
  rw[hii] at hO;have fin:=IY hw hO;rcases m with _|⟨q1,m1⟩
  ·refine Yw1 ?_;exact⟨_,_,rfl,⟨[],rfl,fin,hA,hkb⟩,_,_,_,_,_,hm,rfl,rfl,rfl⟩
  ·refine Yw1 ?_;exact⟨_,_,Lk (Aap rfl hval Ac),⟨_,rfl,fin,hA,hkb⟩,_,_,_,_,_,hm,rfl,rfl,rfl⟩
end
section
variable {T:EG} {f:Fo} {c N:Nat} {t:Tre}
def cMq:B7:=nav [1,1,1,1,0,1,0,0,1,0,0,1,1,0,1,0,1,1,1,0] C.f67.body
def oV5 (m:Fs):PV:=match m with
 |[]=>.A4
 |_=>.slice k5 0 m.length 2 none
def oB5:Fs->List (Key×B4)
 |[]=>[]
 |p::m=>[(k5,wld (fC (p::m)) k3)]
def oN5:Fs->Key
 |[]=>k5
 |_=>k6
abbrev maJ (out:Fs) (v14:PV) (t:Tre) (a:Nat) (bv:PV) (j q:Nat):Fm:=[pE k0 k0,sE k2 (tV t),(k3,.v (iA a)),sE k9 (oV5 out),pE k10 k3,sE k11 bv,(k12,.v (iA j)),pE k13 k4,sE k14 v14,(k16,.v (iA q))]
abbrev maH (f:Fo) (c N:Nat) (nd:Nd) (x:Al) (ks ds:Ey) (l0 l1 l2:Es) (out:Fs):A0:=mkH (cnL f c N ks ds l0 l1 l2++(k3,fzb (nC nd))::(k4,ob (aC x))::oB5 out) (oN5 out)
theorem sJ {lo:Nat} {L1 L2:Fm} {nd:Nd} {x:Al} {ks ds:Ey} {l0 l1 l2 lb la:Es} {g:A0} (ka:Key) (hlo:lo=3) (hm:Hw T N ks ds) (e0:g.get k0=some (obl (cnC f c N) l0)) (e1:g.get k1=some (obl ks l1)) (e2:g.get k2=some (obl ds l2)) (e3:g.get k3=some ⟨.cells (nC nd),true,true,[],lb⟩) (ea:g.get ka=some (obl (aC x) la)) (hn:Gk lo k5.toNat (cnL f c N ks ds l0 l1 l2++[(k3,fzb (nC nd)),(k4,ob (aC x))]) [(k3,k3),(k4,ka)] [] []=true) (hf:Jz (rho lo [(k3,k3),(k4,ka)]) L1 L2):Trim lo (rho lo [(k3,k3),(k4,ka)]) L1 g L2 (maH f c N nd x ks ds l0 l1 l2 []):=by subst hlo;exact Trim.of (lo:=3) (l:=cnL f c N ks ds l0 l1 l2++[(k3,fzb (nC nd)),(k4,ob (aC x))]) (nx:=k5) [(k3,k3),(k4,ka)] hn (show 3<=5 by decide) ⟨e2.symm,e1.symm,e0.symm,Ae⟩ ⟨⟨_,_,rfl,e0,.same Yc⟩,⟨_,_,rfl,e1,.same (A2.cells hm.knk)⟩,⟨_,_,rfl,e2,.same (A2.cells hm.dnk)⟩,⟨_,_,rfl,e3,(Er Ys)⟩,⟨_,_,rfl,ea,.same Yc⟩,Ae⟩ hf
theorem Wj {lo:Nat} {L1 L2:Fm} {nd:Nd} {x:Al} {ks ds:Ey} {l0 l1 l2 lb la lx:Es} {ax:ED} {p:Nat×PV} {m:Fs} {g:A0} (ka kx:Key) (hlo:lo=3) (hm:Hw T N ks ds) (hnk:∀q∈p::m,∃n,A6 n q.2) (e0:g.get k0=some (obl (cnC f c N) l0)) (e1:g.get k1=some (obl ks l1)) (e2:g.get k2=some (obl ds l2)) (e3:g.get k3=some ⟨.cells (nC nd),true,true,[],lb⟩) (ea:g.get ka=some (obl (aC x) la)) (ex:g.get kx=some ⟨.cells (fC (p::m)),true,false,ax,lx⟩) (hn:Gk lo k6.toNat (cnL f c N ks ds l0 l1 l2++[(k3,fzb (nC nd)),(k4,ob (aC x)),(k5,wld (fC (p::m)) k3)]) [(k3,k3),(k4,ka),(k5,kx)] [] []=true) (hf:Jz (rho lo [(k3,k3),(k4,ka),(k5,kx)]) L1 L2):Trim lo (rho lo [(k3,k3),(k4,ka),(k5,kx)]) L1 g L2 (maH f c N nd x ks ds l0 l1 l2 (p::m)):=by subst hlo;exact Trim.of (lo:=3) (l:=cnL f c N ks ds l0 l1 l2++[(k3,fzb (nC nd)),(k4,ob (aC x)),(k5,wld (fC (p::m)) k3)]) (nx:=k6) [(k3,k3),(k4,ka),(k5,kx)] hn (show 3<=6 by decide) ⟨e2.symm,e1.symm,e0.symm,Ae⟩ ⟨⟨_,_,rfl,e0,.same Yc⟩,⟨_,_,rfl,e1,.same (A2.cells hm.knk)⟩,⟨_,_,rfl,e2,.same (A2.cells hm.dnk)⟩,⟨_,_,rfl,e3,(Er Ys)⟩,⟨_,_,rfl,ea,.same Yc⟩,⟨_,_,rfl,ex,⟨A2.cells (Vk hnk),λ_=>⟨rfl,.inr ⟨_,_,_,.head _,rfl,e3,rfl⟩⟩,rfl⟩⟩,Ae⟩ hf
theorem ma4 {nd:Nd} {x:Al} {lm out:Fs} {a j B R:Nat} {bv:PV} {CO CW:Nat->Nat->Prop} (hbv:A6 B bv) (hw:B8 lm CW) (hAs:Asc lm) (hks:∀p∈lm,p.1<=t.length) (hR:∀e r,CW e r->r<R) (hBR:B+R<4294967296) (htl:t.length<=900)
  (hO:B8 out CO) (hA:Asc out) (hkb:∀p∈out,p.1<=t.length) (hBd:Bd out B) {ks ds:Ey} {l0 l1 l2:Es} (hm:Hw T N ks ds) {Q:Fk->Fm->A0->Prop}
  (hQ:∀ks ds l0 l1 l2 out' y1 y2 y3 y4,Hw T N ks ds->B8 out' (λe n=>CO e n∨∃r,Mi CW e r/\n=B+r)->Asc out'->(∀p∈out',p.1<=t.length)->Bd out' (B+R)->Q (.exit 4) ((k86,y1)::(k85,y2)::(k84,y3)::(k83,y4)::maJ out' (fV lm) t a bv j lm.length) (maH f c N nd x ks ds l0 l1 l2 out')) :
  XW Fn 3 cMq (maJ out (fV lm) t a bv j 0) (maH f c N nd x ks ds l0 l1 l2 out) Q:=by
 have tnk:=xE t;have bnk:=hbv.nk;have bfl:=hbv.flat;rcases lm with _|⟨p1,lm1⟩
 ·refine Yy pm ?_;exact hQ ks ds l0 l1 l2 out _ _ _ _ hm (JA hw (hO.eq λe n=>by simp[OtC])) hA hkb (hBd.mono Aa)
 generalize hme:p1::lm1=lm at *;have hmv:fV lm=.lst 2 (fR lm) none:=by rw[<-hme];rfl
 rw[hmv] at hQ ⊢;have hml:=cH lm;have hmb:=hw.len hks;refine XW.B6 (pu:=pm) (σ:=Nat×Fs) (λq=>lm.length-q.1) (λq=>maJ q.2 (.lst 2 (fR lm) none) t a bv j q.1)
  (λq g=>q.1<=lm.length/\B8 q.2 (OtC CO B lm (List.range q.1))/\Asc q.2/\(∀p∈q.2,p.1<=t.length)/\(∃B',Bd q.2 B'/\B'<=B+R/\∀p r,lm[q.1]?=some p->A6 r p.2->B'<=B+r)/\∃ks ds l0 l1 l2,Hw T N ks ds/\g=maH f c N nd x ks ds l0 l1 l2 q.2) (0,out)
  (ρ:=some) (g0:=maH f c N nd x ks ds l0 l1 l2 out) (Trim.same (by cases out;exact(show 3<=5 by decide);exact(show 3<=6 by decide)) (.cons rfl rfl (.cons rfl rfl (.cons rfl rfl (.cons rfl rfl (.cons rfl rfl (.cons rfl rfl (.cons rfl rfl (.cons rfl rfl (.cons rfl rfl (.cons rfl rfl (.nil _)))))))))))) ⟨Zl,hO.eq λe n=>by simp[OtC],hA,hkb,⟨B,hBd,Aa,λ_ _ _ _=>Aa⟩,ks,ds,l0,l1,l2,hm,rfl⟩ ?_
 ·clear hO hA hkb hBd hm;rintro⟨q,m⟩ g ⟨hq,hO2,hA2,hkb2,⟨B2,hBd2,hB3,hBn2⟩,ks3,ds3,b0,b1,b2,hm3,rfl⟩;replace hq:q<=lm.length:=hq;replace hO2:B8 m (OtC CO B lm (List.range q)):=hO2;replace hA2:Asc m:=hA2;replace hkb2:∀p∈m,p.1<=t.length:=hkb2;replace hBd2:Bd m B2:=hBd2;replace hBn2:∀p r,lm[q]?=some p->A6 r p.2->B2<=B+r:=hBn2;have hval2:=hO2.val;refine⟨λh=>?_,λh=>?_⟩
  ·have hq:q<lm.length:=by have:=B0 h;omega
   have hp2:lm[q]?=some lm[q]:=Gg hq;generalize lm[q]=p2 at hp2;obtain⟨e,u⟩:=p2;obtain⟨r,huv,hmi2⟩:=hw.mi (Ji hw.keys hp2);simp only at huv hmi2;have hrR:=hR e r hmi2.1;have hgl2:=sH hp2;have unk:=huv.nk;have ufl:=huv.flat;have ad:=Gf (f:=f) (c:=c) hm3 hbv huv Aa;replace hBn2:=hBn2 _ r hp2 huv;rcases m with _|⟨q1,m1⟩
   ·refine Yw1 ?_;refine En (cnL f c N ks3 ds3 [] [] []) k3 cnR ad (E7 hm3 rfl rfl rfl) Ya ?_;rintro rc gc' ⟨⟨z,rfl,zv⟩,fks,fds,f0,f1,f2,fh,e0,e1,e2⟩;refine⟨[],k5,cnX f c N fks fds (f0++_) (f1++_) (f2++_),[],.v (.s z),rfl,Rl,E5 fh e0 e1 e2 rfl rfl rfl rfl rfl rfl,Ae,zv.nk.rn,?_⟩;clear e0 e1 e2;have znk:=zv.nk;obtain⟨x1,x2,x3⟩:=sD hO2 (e:=e) zv (hBd2.mono hBn2) hA2;replace x1:=IZ hp2 huv x1;have x4:=sI (v:=z) hkb2 (hks _ (Aq hp2));have xB:∃B',Bd (btr e z []) B'/\B'<=B+R/\∀p r',lm[q+1]?=some p->A6 r' p.2->B'<=B+r':=⟨_,x2,Aa,λp' r' hp' hr'=>by have:=hAs.lt hp2 hp' (AI q) huv hr';omega⟩;refine Yw1 ?_;refine Eo (kZ (e:=e) zv) Ya ?_;rintro rc gc' ⟨rfl,e2⟩;refine⟨[(k5,k2)],k6,[],[ob (fC [(e,z)])],.v (.s (.slice k5 0 1 2 none)),rfl,(show 5<=6 by decide),Ae,⟨⟨_,e2,.same Yc⟩,Ae⟩,rfl,?_⟩;clear e2;refine Yw1 ?_;exact⟨(q+1,[(e,z)]),_,_,Lq,Wj k4 k5 rfl fh x1.val rfl rfl rfl rfl rfl rfl rfl Yf,hq,x1,x3,x4,xB,fks,fds,_,_,_,fh,rfl⟩
   ·refine Yw1 ?_;refine En (cnL f c N ks3 ds3 [] [] []) k3 cnR ad (E7 hm3 rfl rfl rfl) Ya ?_;rintro rc gc' ⟨⟨z,rfl,zv⟩,fks,fds,f0,f1,f2,fh,e0,e1,e2⟩;refine⟨[],k6,cnX f c N fks fds (f0++_) (f1++_) (f2++_),[],.v (.s z),rfl,Rl,E5 fh e0 e1 e2 rfl rfl rfl rfl rfl rfl,Ae,zv.nk.rn,?_⟩;clear e0 e1 e2;have znk:=zv.nk;obtain⟨x1,x2,x3⟩:=sD hO2 (e:=e) zv (hBd2.mono hBn2) hA2;replace x1:=IZ hp2 huv x1;have x4:=sI (v:=z) hkb2 (hks _ (Aq hp2));have xB:∃B',Bd (btr e z (q1::m1)) B'/\B'<=B+R/\∀p r',lm[q+1]?=some p->A6 r' p.2->B'<=B+r':=⟨_,x2,Aa,λp' r' hp' hr'=>by have:=hAs.lt hp2 hp' (AI q) huv hr';omega⟩;refine Yw1 ?_;have hl2:=hO2.len hkb2;refine En [(k0,fzb (nC nd)),(k1,wld (fC (q1::m1)) k0)] k2 [(k0,k3),(k1,k5)] (nU (e:=e) zv (hBd2.mono hBn2) hval2 Ac Aa) ⟨⟨_,_,rfl,rfl,(Er Ys)⟩,⟨_,_,rfl,rfl,⟨A2.cells (Vk hval2),λ_=>⟨rfl,.inl (.cons rfl .nil)⟩,rfl⟩⟩,Ae⟩ Ya ?_;rintro rc gc' ⟨e3,⟨hf,rfl,e4⟩|⟨hf,kN,hle,rfl,eN,e4⟩⟩;·rw[show btr e z (q1::m1)=q1::m1 from by unfold btr;rw[Aj hf]] at x1 x3 x4 xB;refine⟨[],k6,[some (fzb (nC nd)),some (wld (fC (q1::m1)) k3)],[],.v (.s (.slice k5 0 (q1::m1).length 2 none)),rfl,Rl,⟨⟨_,_,_,e3,(Er Ys),rfl,rfl,rfl,rfl⟩,⟨_,_,_,e4,⟨A2.cells (Vk hval2),λ_=>⟨rfl,.inl (.cons rfl .nil)⟩,rfl⟩,rfl,rfl,rfl,rfl⟩,Ae⟩,Ae,rfl,?_⟩;clear e3 e4;refine Yw1 ?_;exact⟨(q+1,q1::m1),_,_,Lq,Wj k4 k5 rfl fh x1.val rfl rfl rfl rfl rfl rfl rfl Yf,hq,x1,x3,x4,xB,fks,fds,_,_,_,fh,rfl⟩
    ·rw[show btr e z (q1::m1)=q1::m1++[(e,z)] from by unfold btr;rw[Ao (by rw[hf];decide)]] at x1 x3 x4 xB;refine⟨[(k6,kN)],k7,[some (fzb (nC nd)),some ⟨.cells (fC (q1::m1)),false,false,[k3],[]⟩],[⟨.cells (fC (q1::m1++[(e,z)])),true,false,[k5,k3],[]⟩],.v (.s (.slice k6 0 (q1::m1++[(e,z)]).length 2 none)),Kd Rl Ab hle,(show 6<=7 by decide),⟨⟨_,_,_,e3,(Er Ys),rfl,rfl,rfl,rfl⟩,⟨_,_,_,e4,⟨A2.cells (Vk hval2),Ep,rfl⟩,rfl,rfl,rfl,rfl⟩,Ae⟩,⟨⟨_,eN,⟨A2.cells (Vk x1.val),λ_=>⟨rfl,.inl (.cons rfl (.cons rfl .nil))⟩,rfl⟩⟩,Ae⟩,rfl,?_⟩;clear e3 e4 eN;refine Yw1 ?_;exact⟨(q+1,q1::m1++[(e,z)]),_,_,Lq,Wj k4 k6 rfl fh x1.val rfl rfl rfl rfl rfl rfl rfl Yf,hq,x1,x3,x4,xB,fks,fds,_,_,_,fh,rfl⟩
  ·obtain rfl:q=lm.length:=by have:=B5 h;omega
   refine Yw1 ?_;exact hQ ks3 ds3 b0 b1 b2 m _ _ _ _ hm3 (JA hw hO2) hA2 hkb2 (hBd2.mono hB3)
end
section
variable {T:EG} {f:Fo} {c N:Nat} {t:Tre}
theorem Lo {lo:Nat} {L1 L2:Fm} {nd:Nd} {ks ds:Ey} {l0 l1 l2 lb:Es} {g:A0} (hlo:lo=3) (hm:Hw T N ks ds) (e0:g.get k0=some (obl (cnC f c N) l0)) (e1:g.get k1=some (obl ks l1)) (e2:g.get k2=some (obl ds l2)) (e3:g.get k3=some ⟨.cells (nC nd),true,true,[],lb⟩) (hf:Jz (rho lo [(k3,k3)]) L1 L2):Trim lo (rho lo [(k3,k3)]) L1 g L2 (mkH (cnL f c N ks ds l0 l1 l2++[(k3,fzb (nC nd))]) k4):=by subst hlo;exact Trim.of (lo:=3) (l:=cnL f c N ks ds l0 l1 l2++[(k3,fzb (nC nd))]) (nx:=k4) [(k3,k3)] rfl (show 3<=4 by decide) ⟨e2.symm,e1.symm,e0.symm,Ae⟩ ⟨⟨_,_,rfl,e0,.same Yc⟩,⟨_,_,rfl,e1,.same (A2.cells hm.knk)⟩,⟨_,_,rfl,e2,.same (A2.cells hm.dnk)⟩,⟨_,_,rfl,e3,(Er Ys)⟩,Ae⟩ hf
theorem Mt {lo:Nat} {L1 L2:Fm} {nd:Nd} {ks ds:Ey} {l0 l1 l2 lb lx:Es} {ax:ED} {m:Fs} {g:A0} (kx:Key) (hlo:lo=3) (hm:Hw T N ks ds) (hnk:∀p∈m,∃n,A6 n p.2) (e0:g.get k0=some (obl (cnC f c N) l0)) (e1:g.get k1=some (obl ks l1)) (e2:g.get k2=some (obl ds l2)) (e3:g.get k3=some ⟨.cells (nC nd),true,true,[],lb⟩) (ex:g.get kx=some ⟨.cells (fC m),true,false,ax,lx⟩) (hn:Gk lo k5.toNat (cnL f c N ks ds l0 l1 l2++[(k3,fzb (nC nd)),(k4,wld (fC m) k3)]) [(k3,k3),(k4,kx)] [] []=true) (hf:Jz (rho lo [(k3,k3),(k4,kx)]) L1 L2):Trim lo (rho lo [(k3,k3),(k4,kx)]) L1 g L2 (mkH (cnL f c N ks ds l0 l1 l2++[(k3,fzb (nC nd)),(k4,wld (fC m) k3)]) k5):=by subst hlo;exact Trim.of (lo:=3) (l:=cnL f c N ks ds l0 l1 l2++[(k3,fzb (nC nd)),(k4,wld (fC m) k3)]) (nx:=k5) [(k3,k3),(k4,kx)] hn (show 3<=5 by decide) ⟨e2.symm,e1.symm,e0.symm,Ae⟩ ⟨⟨_,_,rfl,e0,.same Yc⟩,⟨_,_,rfl,e1,.same (A2.cells hm.knk)⟩,⟨_,_,rfl,e2,.same (A2.cells hm.dnk)⟩,⟨_,_,rfl,e3,(Er Ys)⟩,⟨_,_,rfl,ex,⟨A2.cells (Vk hnk),λ_=>⟨rfl,.inr ⟨_,_,_,.head _,rfl,e3,rfl⟩⟩,rfl⟩⟩,Ae⟩ hf
abbrev moI (out:Fs) (t:Tre) (a:Nat) (bv:PV) (j:Nat):Fm:=[pE k0 k0,sE k2 (tV t),(k3,.v (iA a)),sE k9 (oV out),pE k10 k3,sE k11 bv,(k12,.v (iA j))]
theorem AbX (D:wN) (hc:c<4) (hN:f.ns.length=N) {i:Nat} {nd:Nd} (hi:i<N) (hL:N<=4) (hn:(f.ns.map nV)[(i:Int).toNat]?=some (nC nd)) (nL:nd.az.length<=3) (hal:∀a∈nd.az,a.ks.length<=2/\a.d<16/\∀k∈a.ks,MH T f c N k/\AbW T f c N t k)
  (hP:∀x∈nd.az,∀q,(B9 T (x.ks.take q)).length<4294967296) (hT:T i=C7 T c nd.az) (hB:(C7 T c nd.az).length<4294967296) (htl:t.length<=900):AbV T f c N t i:=by
 intro ks ds a hm ha;have nlen:(nd.az.map aV).length=nd.az.length:=Lm ..;have hlen:(f.ns.map nV).length=f.ns.length:=Lm ..;have tnk:=xE t;refine XC.LG ?_;refine Ek pm C.f67 rfl ?_;refine Yw1 ?_;refine XW.Mq k3 Rl rfl rfl ?_;refine XW.B6 (pu:=pm) (σ:=Nat×Fs×PV) (λq=>nd.az.length-q.1) (λq=>moI q.2.1 t a q.2.2 q.1)
  (λq g=>q.1<=nd.az.length/\A6 (C7 T c (nd.az.take q.1)).length q.2.2/\B8 q.2.1 (NoC T t c a (nd.az.take q.1))/\Asc q.2.1/\(∀p∈q.2.1,p.1<=t.length)/\Bd q.2.1 (C7 T c (nd.az.take q.1)).length/\∃ks ds l0 l1 l2,Hw T N ks ds/\g=mkH (cnL f c N ks ds l0 l1 l2++(k3,fzb (nC nd))::oB q.2.1) (oN q.2.1)) (0,[],.A4)
  (Lo rfl hm rfl rfl rfl rfl Yf) ⟨Zl,A6.nil,SX,.nil,Ac,by simp[Bd],ks,ds,[],[],[],hm,rfl⟩ ?_
 clear hm;rintro⟨j,out,bv⟩ g ⟨hj,hbv,hO,hA,hkb,hBd,ks,ds,l0,l1,l2,hm,rfl⟩;replace hj:j<=nd.az.length:=hj;replace hbv:A6 (C7 T c (nd.az.take j)).length bv:=hbv;replace hO:B8 out (NoC T t c a (nd.az.take j)):=hO;replace hA:Asc out:=hA;replace hkb:∀p∈out,p.1<=t.length:=hkb;replace hBd:Bd out (C7 T c (nd.az.take j)).length:=hBd;have bnk:=hbv.nk;have bfl:=hbv.flat;have fin:j=nd.az.length->B8 out (RdC T t i a):=λe=>by subst e;rw[AB] at hO;exact hO.eq λe n=>by simp only[NoC,RdC,hT]
 have nxt:j<nd.az.length->∃x,nd.az[j]?=some x/\nd.az.take (j+1)=nd.az.take j++[x]/\x∈nd.az:=λhj=>⟨_,Gg hj,An hj,AU hj⟩;rcases out with _|⟨q1,m1⟩
 ·skip
  refine⟨λh=>?_,λh=>?_⟩
  case' refine_2=>
   have fin:=fin (by have:=B5 h;omega)
   refine Yw1 ?_
   exact⟨_,_,rfl,⟨[],rfl,fin,hA,hkb⟩,_,_,_,_,_,hm,rfl,rfl,rfl⟩
  have hj:j<nd.az.length:=by have:=B0 h;omega
  obtain⟨x,hx,htk,hin⟩:=nxt hj
  have hgx:=Ii hx
  obtain⟨x1,x2,x3⟩:=hal x hin
  have hPx:=hP x hin
  have dh:=D.inn x.d x2 c hc
  have hs:=Hi T c (nd.az.take j) x
  rw[<-htk] at hs
  have hle:=M1 T c nd.az (j+1)
  have hl:=Bh List.length hs
  cases hb:x.d.testBit c
  ·rw[hb] at dh hs hl
   simp only[Fj,Ag,Ay] at hs hl
   have hO':=eZ hb hO
   rw[<-htk] at hO'
   refine Yw1 ?_
   exact⟨(j+1,[],bv),_,_,Lq,Lo rfl hm rfl rfl rfl rfl Yf,hj,(by rw[hs];exact hbv),hO',hA,hkb,(by rw[hs];exact hBd),ks,ds,_,_,_,hm,rfl⟩
  rw[hb] at dh hs hl
  simp only[Ak,La,Lm] at hl
  have hR:=λe r (hr:WaC T t (a+1) x.ks e r)=>(Gi.1 hr.2.2).1
  have alt:=λks ds (hm:Hw T N ks ds)=>eW (T:=T) (f:=f) (c:=c) (N:=N) (a:=x) x1 (λk hk=>(x3 k hk).1) Aa hm
  rcases t with _|⟨q0,t0⟩
  ·have hO':=S4 (T:=T) (c:=c) (az:=nd.az.take j) (x:=x) hb Ac hO
   rw[<-htk] at hO'
   have hA':=hA
   have hkb':=hkb
   have hBd':=hBd.mono (B:=(C7 T c (nd.az.take (j+1))).length) Aa
   refine Yw1 ?_
   refine En (cnL f c N ks ds [] [] []) k3 cnR (alt ks ds hm) (E7 hm rfl rfl rfl) Ya ?_
   rintro rc gc' ⟨⟨w,rfl,hw⟩,ks2,ds2,a0,a1,a2,hm2,e0,e1,e2⟩
   refine⟨[],k5,cnX f c N ks2 ds2 (a0++_) (a1++_) (a2++_),[],.v (.s w),rfl,Rl,E5 hm2 e0 e1 e2 rfl rfl rfl rfl rfl rfl,Ae,hw.nk.rn,?_⟩
   clear e0 e1 e2
   have wnk:=hw.nk
   have ad:=Gf (f:=f) (c:=c) hm2 hbv hw Aa
   rw[<-hl] at ad
   refine Yw1 ?_
   refine En (cnL f c N ks2 ds2 [] [] []) k3 cnR ad (E7 hm2 rfl rfl rfl) Ya ?_
   rintro rc gc' ⟨⟨z,rfl,hz⟩,ks3,ds3,b0,b1,b2,hm3,e0,e1,e2⟩
   refine⟨[],k5,cnX f c N ks3 ds3 (b0++_) (b1++_) (b2++_),[],.v (.s z),rfl,Rl,E5 hm3 e0 e1 e2 rfl rfl rfl rfl rfl rfl,Ae,hz.nk.rn,?_⟩
   clear e0 e1 e2
   have znk:=hz.nk
   refine Yw1 ?_
   exact⟨(j+1,[],z),_,_,Lq,Lo rfl hm3 rfl rfl rfl rfl Yf,hj,hz,hO',hA',hkb',hBd',ks3,ds3,_,_,_,hm3,rfl⟩
  by_cases hat:a<(q0::t0).length
  case' neg=>
   have hO':=S4 (T:=T) (c:=c) (az:=nd.az.take j) (x:=x) hb (by rw[AJ Aa];simp) hO
   rw[<-htk] at hO'
   have hat':¬a<(tR (q0::t0)).length:=by simpa[tR] using hat
   have hA':=hA
   have hkb':=hkb
   have hBd':=hBd.mono (B:=(C7 T c (nd.az.take (j+1))).length) Aa
   refine Yw1 ?_
   refine En (cnL f c N ks ds [] [] []) k3 cnR (alt ks ds hm) (E7 hm rfl rfl rfl) Ya ?_
   rintro rc gc' ⟨⟨w,rfl,hw⟩,ks2,ds2,a0,a1,a2,hm2,e0,e1,e2⟩
   refine⟨[],k5,cnX f c N ks2 ds2 (a0++_) (a1++_) (a2++_),[],.v (.s w),rfl,Rl,E5 hm2 e0 e1 e2 rfl rfl rfl rfl rfl rfl,Ae,hw.nk.rn,?_⟩
   clear e0 e1 e2
   have wnk:=hw.nk
   have ad:=Gf (f:=f) (c:=c) hm2 hbv hw Aa
   rw[<-hl] at ad
   refine Yw1 ?_
   refine En (cnL f c N ks2 ds2 [] [] []) k3 cnR ad (E7 hm2 rfl rfl rfl) Ya ?_
   rintro rc gc' ⟨⟨z,rfl,hz⟩,ks3,ds3,b0,b1,b2,hm3,e0,e1,e2⟩
   refine⟨[],k5,cnX f c N ks3 ds3 (b0++_) (b1++_) (b2++_),[],.v (.s z),rfl,Rl,E5 hm3 e0 e1 e2 rfl rfl rfl rfl rfl rfl,Ae,hz.nk.rn,?_⟩
   clear e0 e1 e2
   have znk:=hz.nk
   refine Yw1 ?_
   exact⟨(j+1,[],z),_,_,Lq,Lo rfl hm3 rfl rfl rfl rfl Yf,hj,hz,hO',hA',hkb',hBd',ks3,ds3,_,_,_,hm3,rfl⟩
  have hp:(q0::t0)[a]?=some (q0::t0)[a]:=Gg hat
  generalize (q0::t0)[a]=p at hp
  have hgt:(tR (q0::t0))[(a:Int).toNat]?=some [.int .i64 (p:Nat),.int .i64 (-1),.int .i64 0,.int .i64 0]:=by rw[tR,AD,Bj,hp];rfl
  have hat':a<(tR (q0::t0)).length:=by simpa[tR] using hat
  refine Yw2 (λh=>?_) (λh=>?_)
  ·obtain rfl:p=x.p:=by simp at h;omega
   have w0:=FA (T:=T) (t:=q0::t0) (a:=a+1) hat
   have s0:Asc [(a+1,PV.A4)]:=CT _ _
   have kb0:∀p∈[(a+1,PV.A4)],p.1<=(q0::t0).length:=λp hp=>by rw[Ar] at hp;subst hp;exact hat
   obtain⟨xp,xks,xd⟩:=x
   rcases xks with _|⟨y,_|⟨z,_|⟨z2,xks⟩⟩⟩
   ·refine Yz pm ?_
    refine XW.MM k14 rfl (x':=.v (.s (fV [(a+1,.A4)]))) rfl ?_
    refine XW.trim (sJ k4 rfl hm rfl rfl rfl rfl rfl rfl Yf) (ma4 (lm:=[(a+1,.A4)]) (R:=_) hbv w0 s0 kb0 (λe r h=>hR e r h) Aa htl hO hA hkb hBd hm ?_)
    rintro ks ds l0 l1 l2 out' y1 y2 y3 y4 hm hO1 hA' hkb' hBd'
    have hO':=Pt hb hp hO1
    rw[<-htk] at hO'
    rw[<-hl] at hBd'
    rcases out' with _|⟨q2,m2⟩
    ·skip
     refine Yw1 ?_
     refine En (cnL f c N ks ds [] [] []) k3 cnR (alt ks ds hm) (E7 hm rfl rfl rfl) Ya ?_
     rintro rc gc' ⟨⟨w,rfl,hw⟩,ks2,ds2,a0,a1,a2,hm2,e0,e1,e2⟩
     refine⟨[],k5,cnX f c N ks2 ds2 (a0++_) (a1++_) (a2++_),[],.v (.s w),rfl,Rl,E5 hm2 e0 e1 e2 rfl rfl rfl rfl rfl rfl,Ae,hw.nk.rn,?_⟩
     clear e0 e1 e2
     have wnk:=hw.nk
     have ad:=Gf (f:=f) (c:=c) hm2 hbv hw Aa
     rw[<-hl] at ad
     refine Yw1 ?_
     refine En (cnL f c N ks2 ds2 [] [] []) k3 cnR ad (E7 hm2 rfl rfl rfl) Ya ?_
     rintro rc gc' ⟨⟨z,rfl,hz⟩,ks3,ds3,b0,b1,b2,hm3,e0,e1,e2⟩
     refine⟨[],k5,cnX f c N ks3 ds3 (b0++_) (b1++_) (b2++_),[],.v (.s z),rfl,Rl,E5 hm3 e0 e1 e2 rfl rfl rfl rfl rfl rfl,Ae,hz.nk.rn,?_⟩
     clear e0 e1 e2
     have znk:=hz.nk
     refine Yw1 ?_
     exact⟨(j+1,[],z),_,_,Lq,Lo rfl hm3 rfl rfl rfl rfl Yf,hj,hz,hO',hA',hkb',hBd',ks3,ds3,_,_,_,hm3,rfl⟩
    ·skip
     refine Yw1 ?_
     refine En (cnL f c N ks ds [] [] []) k3 cnR (alt ks ds hm) (E7 hm rfl rfl rfl) Ya ?_
     rintro rc gc' ⟨⟨w,rfl,hw⟩,ks2,ds2,a0,a1,a2,hm2,e0,e1,e2⟩
     refine⟨[],k6,cnX f c N ks2 ds2 (a0++_) (a1++_) (a2++_),[],.v (.s w),rfl,Rl,E5 hm2 e0 e1 e2 rfl rfl rfl rfl rfl rfl,Ae,hw.nk.rn,?_⟩
     clear e0 e1 e2
     have wnk:=hw.nk
     have ad:=Gf (f:=f) (c:=c) hm2 hbv hw Aa
     rw[<-hl] at ad
     refine Yw1 ?_
     refine En (cnL f c N ks2 ds2 [] [] []) k3 cnR ad (E7 hm2 rfl rfl rfl) Ya ?_
     rintro rc gc' ⟨⟨z,rfl,hz⟩,ks3,ds3,b0,b1,b2,hm3,e0,e1,e2⟩
     refine⟨[],k6,cnX f c N ks3 ds3 (b0++_) (b1++_) (b2++_),[],.v (.s z),rfl,Rl,E5 hm3 e0 e1 e2 rfl rfl rfl rfl rfl rfl,Ae,hz.nk.rn,?_⟩
     clear e0 e1 e2
     have znk:=hz.nk
     refine Yw1 ?_
     exact⟨(j+1,q2::m2,z),_,_,Lq,Mt k5 rfl hm3 hO'.val rfl rfl rfl rfl rfl rfl Yf,hj,hz,hO',hA',hkb',hBd',ks3,ds3,_,_,_,hm3,rfl⟩
   ·obtain⟨ky,my⟩:=x3 y Ac
    refine Yz pm ?_
    refine XC.LF (a:=[.v (.s (.ptr k0 0))]) (x':=.v (.s (fV [(a+1,.A4)]))) rfl ?_
    refine En (cnL f c N ks ds [] [] []) k3 cnR (Mg w0 s0 ky my (kq:=[]) (by exact hPx 1) htl hm) (E7 hm rfl rfl rfl) (by first|exact .cons rfl (.cons (Pu _ _) (.cons Ys (.cons tnk.rn .nil)))|fail) ?_
    rintro rc gc' ⟨⟨la,rfl,law,laa,lak⟩,gks,gds,g0,g1,g2,gh,e0,e1,e2⟩
    refine⟨[],k6,cnX f c N gks gds (g0++_) (g1++_) (g2++_),[],.v (.s (fV la)),rfl,Rl,E5 gh e0 e1 e2 rfl rfl rfl rfl rfl rfl,Ae,Pu _ _,?_⟩
    clear e0 e1 e2
    replace law:=dO law
    have lnk:A2 (fV la):=E9 _ _
    refine Yz pm ?_
    refine XW.trim (sJ k4 rfl gh rfl rfl rfl rfl rfl rfl Yf) (ma4 (lm:=la) (R:=_) hbv law laa lak (λe r h=>hR e r h) Aa htl hO hA hkb hBd gh ?_)
    rintro ks ds l0 l1 l2 out' y1 y2 y3 y4 hm hO1 hA' hkb' hBd'
    have hO':=Pt hb hp hO1
    rw[<-htk] at hO'
    rw[<-hl] at hBd'
    rcases out' with _|⟨q2,m2⟩
    ·skip
     refine Yw1 ?_
     refine En (cnL f c N ks ds [] [] []) k3 cnR (alt ks ds hm) (E7 hm rfl rfl rfl) Ya ?_
     rintro rc gc' ⟨⟨w,rfl,hw⟩,ks2,ds2,a0,a1,a2,hm2,e0,e1,e2⟩
     refine⟨[],k5,cnX f c N ks2 ds2 (a0++_) (a1++_) (a2++_),[],.v (.s w),rfl,Rl,E5 hm2 e0 e1 e2 rfl rfl rfl rfl rfl rfl,Ae,hw.nk.rn,?_⟩
     clear e0 e1 e2
     have wnk:=hw.nk
     have ad:=Gf (f:=f) (c:=c) hm2 hbv hw Aa
     rw[<-hl] at ad
     refine Yw1 ?_
     refine En (cnL f c N ks2 ds2 [] [] []) k3 cnR ad (E7 hm2 rfl rfl rfl) Ya ?_
     rintro rc gc' ⟨⟨z,rfl,hz⟩,ks3,ds3,b0,b1,b2,hm3,e0,e1,e2⟩
     refine⟨[],k5,cnX f c N ks3 ds3 (b0++_) (b1++_) (b2++_),[],.v (.s z),rfl,Rl,E5 hm3 e0 e1 e2 rfl rfl rfl rfl rfl rfl,Ae,hz.nk.rn,?_⟩
     clear e0 e1 e2
     have znk:=hz.nk
     refine Yw1 ?_
     exact⟨(j+1,[],z),_,_,Lq,Lo rfl hm3 rfl rfl rfl rfl Yf,hj,hz,hO',hA',hkb',hBd',ks3,ds3,_,_,_,hm3,rfl⟩
    ·skip
     refine Yw1 ?_
     refine En (cnL f c N ks ds [] [] []) k3 cnR (alt ks ds hm) (E7 hm rfl rfl rfl) Ya ?_
     rintro rc gc' ⟨⟨w,rfl,hw⟩,ks2,ds2,a0,a1,a2,hm2,e0,e1,e2⟩
     refine⟨[],k6,cnX f c N ks2 ds2 (a0++_) (a1++_) (a2++_),[],.v (.s w),rfl,Rl,E5 hm2 e0 e1 e2 rfl rfl rfl rfl rfl rfl,Ae,hw.nk.rn,?_⟩
     clear e0 e1 e2
     have wnk:=hw.nk
     have ad:=Gf (f:=f) (c:=c) hm2 hbv hw Aa
     rw[<-hl] at ad
     refine Yw1 ?_
     refine En (cnL f c N ks2 ds2 [] [] []) k3 cnR ad (E7 hm2 rfl rfl rfl) Ya ?_
     rintro rc gc' ⟨⟨z,rfl,hz⟩,ks3,ds3,b0,b1,b2,hm3,e0,e1,e2⟩
     refine⟨[],k6,cnX f c N ks3 ds3 (b0++_) (b1++_) (b2++_),[],.v (.s z),rfl,Rl,E5 hm3 e0 e1 e2 rfl rfl rfl rfl rfl rfl,Ae,hz.nk.rn,?_⟩
     clear e0 e1 e2
     have znk:=hz.nk
     refine Yw1 ?_
     exact⟨(j+1,q2::m2,z),_,_,Lq,Mt k5 rfl hm3 hO'.val rfl rfl rfl rfl rfl rfl Yf,hj,hz,hO',hA',hkb',hBd',ks3,ds3,_,_,_,hm3,rfl⟩
   ·obtain⟨ky,my⟩:=x3 y Ac
    obtain⟨kz,mz⟩:=x3 z Ac
    refine Yz pm ?_
    refine XC.LF (a:=[.v (.s (.ptr k0 0))]) (x':=.v (.s (fV [(a+1,.A4)]))) rfl ?_
    refine En (cnL f c N ks ds [] [] []) k3 cnR (Mg w0 s0 ky my (kq:=[]) (by exact hPx 1) htl hm) (E7 hm rfl rfl rfl) (by first|exact .cons rfl (.cons (Pu _ _) (.cons Ys (.cons tnk.rn .nil)))|fail) ?_
    rintro rc gc' ⟨⟨la,rfl,law,laa,lak⟩,gks,gds,g0,g1,g2,gh,e0,e1,e2⟩
    refine⟨[],k6,cnX f c N gks gds (g0++_) (g1++_) (g2++_),[],.v (.s (fV la)),rfl,Rl,E5 gh e0 e1 e2 rfl rfl rfl rfl rfl rfl,Ae,Pu _ _,?_⟩
    clear e0 e1 e2
    replace law:=dO law
    have lnk:A2 (fV la):=E9 _ _
    refine Yz pm ?_
    refine En (cnL f c N gks gds [] [] []) k3 cnR (Mg law laa kz mz (kq:=[y]) (by exact hPx 2) htl gh) (E7 gh rfl rfl rfl) (by first|exact .cons rfl (.cons (Pu _ _) (.cons Ys (.cons tnk.rn .nil)))|fail) ?_
    rintro rc gc' ⟨⟨lb,rfl,lbw,lba,lbk⟩,uks,uds,u0,u1,u2,uh,e0,e1,e2⟩
    refine⟨[],k6,cnX f c N uks uds (u0++_) (u1++_) (u2++_),[],.v (.s (fV lb)),rfl,Rl,E5 uh e0 e1 e2 rfl rfl rfl rfl rfl rfl,Ae,Pu _ _,?_⟩
    clear e0 e1 e2
    replace lbw:=dO lbw
    have lnk:A2 (fV lb):=E9 _ _
    refine Yz pm ?_
    refine XW.trim (sJ k4 rfl uh rfl rfl rfl rfl rfl rfl Yf) (ma4 (lm:=lb) (R:=_) hbv lbw lba lbk (λe r h=>hR e r h) Aa htl hO hA hkb hBd uh ?_)
    rintro ks ds l0 l1 l2 out' y1 y2 y3 y4 hm hO1 hA' hkb' hBd'
    have hO':=Pt hb hp hO1
    rw[<-htk] at hO'
    rw[<-hl] at hBd'
    rcases out' with _|⟨q2,m2⟩
    ·skip
     refine Yw1 ?_
     refine En (cnL f c N ks ds [] [] []) k3 cnR (alt ks ds hm) (E7 hm rfl rfl rfl) Ya ?_
     rintro rc gc' ⟨⟨w,rfl,hw⟩,ks2,ds2,a0,a1,a2,hm2,e0,e1,e2⟩
     refine⟨[],k5,cnX f c N ks2 ds2 (a0++_) (a1++_) (a2++_),[],.v (.s w),rfl,Rl,E5 hm2 e0 e1 e2 rfl rfl rfl rfl rfl rfl,Ae,hw.nk.rn,?_⟩
     clear e0 e1 e2
     have wnk:=hw.nk
     have ad:=Gf (f:=f) (c:=c) hm2 hbv hw Aa
     rw[<-hl] at ad
     refine Yw1 ?_
     refine En (cnL f c N ks2 ds2 [] [] []) k3 cnR ad (E7 hm2 rfl rfl rfl) Ya ?_
     rintro rc gc' ⟨⟨z,rfl,hz⟩,ks3,ds3,b0,b1,b2,hm3,e0,e1,e2⟩
     refine⟨[],k5,cnX f c N ks3 ds3 (b0++_) (b1++_) (b2++_),[],.v (.s z),rfl,Rl,E5 hm3 e0 e1 e2 rfl rfl rfl rfl rfl rfl,Ae,hz.nk.rn,?_⟩
     clear e0 e1 e2
     have znk:=hz.nk
     refine Yw1 ?_
     exact⟨(j+1,[],z),_,_,Lq,Lo rfl hm3 rfl rfl rfl rfl Yf,hj,hz,hO',hA',hkb',hBd',ks3,ds3,_,_,_,hm3,rfl⟩
    ·skip
     refine Yw1 ?_
     refine En (cnL f c N ks ds [] [] []) k3 cnR (alt ks ds hm) (E7 hm rfl rfl rfl) Ya ?_
     rintro rc gc' ⟨⟨w,rfl,hw⟩,ks2,ds2,a0,a1,a2,hm2,e0,e1,e2⟩
     refine⟨[],k6,cnX f c N ks2 ds2 (a0++_) (a1++_) (a2++_),[],.v (.s w),rfl,Rl,E5 hm2 e0 e1 e2 rfl rfl rfl rfl rfl rfl,Ae,hw.nk.rn,?_⟩
     clear e0 e1 e2
     have wnk:=hw.nk
     have ad:=Gf (f:=f) (c:=c) hm2 hbv hw Aa
     rw[<-hl] at ad
     refine Yw1 ?_
     refine En (cnL f c N ks2 ds2 [] [] []) k3 cnR ad (E7 hm2 rfl rfl rfl) Ya ?_
     rintro rc gc' ⟨⟨z,rfl,hz⟩,ks3,ds3,b0,b1,b2,hm3,e0,e1,e2⟩
     refine⟨[],k6,cnX f c N ks3 ds3 (b0++_) (b1++_) (b2++_),[],.v (.s z),rfl,Rl,E5 hm3 e0 e1 e2 rfl rfl rfl rfl rfl rfl,Ae,hz.nk.rn,?_⟩
     clear e0 e1 e2
     have znk:=hz.nk
     refine Yw1 ?_
     exact⟨(j+1,q2::m2,z),_,_,Lq,Mt k5 rfl hm3 hO'.val rfl rfl rfl rfl rfl rfl Yf,hj,hz,hO',hA',hkb',hBd',ks3,ds3,_,_,_,hm3,rfl⟩
   ·simp at x1
  ·have hpx:p≠x.p:=λe=>by subst e;revert h;simp
   have hO':=S4 (T:=T) (c:=c) (az:=nd.az.take j) (x:=x) hb (by rw[hp];simp[hpx]) hO
   rw[<-htk] at hO'
   have hA':=hA
   have hkb':=hkb
   have hBd':=hBd.mono (B:=(C7 T c (nd.az.take (j+1))).length) Aa
   refine Yw1 ?_
   refine En (cnL f c N ks ds [] [] []) k3 cnR (alt ks ds hm) (E7 hm rfl rfl rfl) Ya ?_
   rintro rc gc' ⟨⟨w,rfl,hw⟩,ks2,ds2,a0,a1,a2,hm2,e0,e1,e2⟩
   refine⟨[],k5,cnX f c N ks2 ds2 (a0++_) (a1++_) (a2++_),[],.v (.s w),rfl,Rl,E5 hm2 e0 e1 e2 rfl rfl rfl rfl rfl rfl,Ae,hw.nk.rn,?_⟩
   clear e0 e1 e2
   have wnk:=hw.nk
   have ad:=Gf (f:=f) (c:=c) hm2 hbv hw Aa
   rw[<-hl] at ad
   refine Yw1 ?_
   refine En (cnL f c N ks2 ds2 [] [] []) k3 cnR ad (E7 hm2 rfl rfl rfl) Ya ?_
   rintro rc gc' ⟨⟨z,rfl,hz⟩,ks3,ds3,b0,b1,b2,hm3,e0,e1,e2⟩
   refine⟨[],k5,cnX f c N ks3 ds3 (b0++_) (b1++_) (b2++_),[],.v (.s z),rfl,Rl,E5 hm3 e0 e1 e2 rfl rfl rfl rfl rfl rfl,Ae,hz.nk.rn,?_⟩
   clear e0 e1 e2
   have znk:=hz.nk
   refine Yw1 ?_
   exact⟨(j+1,[],z),_,_,Lq,Lo rfl hm3 rfl rfl rfl rfl Yf,hj,hz,hO',hA',hkb',hBd',ks3,ds3,_,_,_,hm3,rfl⟩
 ·skip
  refine⟨λh=>?_,λh=>?_⟩
  case' refine_2=>
   have fin:=fin (by have:=B5 h;omega)
   refine Yw1 ?_
   exact⟨_,_,Lk (Aap rfl fin.val Ac),⟨_,rfl,fin,hA,hkb⟩,_,_,_,_,_,hm,rfl,rfl,rfl⟩
  have hj:j<nd.az.length:=by have:=B0 h;omega
  obtain⟨x,hx,htk,hin⟩:=nxt hj
  have hgx:=Ii hx
  obtain⟨x1,x2,x3⟩:=hal x hin
  have hPx:=hP x hin
  have dh:=D.inn x.d x2 c hc
  have hs:=Hi T c (nd.az.take j) x
  rw[<-htk] at hs
  have hle:=M1 T c nd.az (j+1)
  have hl:=Bh List.length hs
  cases hb:x.d.testBit c
  ·rw[hb] at dh hs hl
   simp only[Fj,Ag,Ay] at hs hl
   have hO':=eZ hb hO
   rw[<-htk] at hO'
   refine Yw1 ?_
   exact⟨(j+1,q1::m1,bv),_,_,Lq,Mt k4 rfl hm hO.val rfl rfl rfl rfl rfl rfl Yf,hj,(by rw[hs];exact hbv),hO',hA,hkb,(by rw[hs];exact hBd),ks,ds,_,_,_,hm,rfl⟩
  rw[hb] at dh hs hl
  simp only[Ak,La,Lm] at hl
  have hR:=λe r (hr:WaC T t (a+1) x.ks e r)=>(Gi.1 hr.2.2).1
  have alt:=λks ds (hm:Hw T N ks ds)=>eW (T:=T) (f:=f) (c:=c) (N:=N) (a:=x) x1 (λk hk=>(x3 k hk).1) Aa hm
  rcases t with _|⟨q0,t0⟩
  ·have hO':=S4 (T:=T) (c:=c) (az:=nd.az.take j) (x:=x) hb Ac hO
   rw[<-htk] at hO'
   have hA':=hA
   have hkb':=hkb
   have hBd':=hBd.mono (B:=(C7 T c (nd.az.take (j+1))).length) Aa
   refine Yw1 ?_
   refine En (cnL f c N ks ds [] [] []) k3 cnR (alt ks ds hm) (E7 hm rfl rfl rfl) Ya ?_
   rintro rc gc' ⟨⟨w,rfl,hw⟩,ks2,ds2,a0,a1,a2,hm2,e0,e1,e2⟩
   refine⟨[],k6,cnX f c N ks2 ds2 (a0++_) (a1++_) (a2++_),[],.v (.s w),rfl,Rl,E5 hm2 e0 e1 e2 rfl rfl rfl rfl rfl rfl,Ae,hw.nk.rn,?_⟩
   clear e0 e1 e2
   have wnk:=hw.nk
   have ad:=Gf (f:=f) (c:=c) hm2 hbv hw Aa
   rw[<-hl] at ad
   refine Yw1 ?_
   refine En (cnL f c N ks2 ds2 [] [] []) k3 cnR ad (E7 hm2 rfl rfl rfl) Ya ?_
   rintro rc gc' ⟨⟨z,rfl,hz⟩,ks3,ds3,b0,b1,b2,hm3,e0,e1,e2⟩
   refine⟨[],k6,cnX f c N ks3 ds3 (b0++_) (b1++_) (b2++_),[],.v (.s z),rfl,Rl,E5 hm3 e0 e1 e2 rfl rfl rfl rfl rfl rfl,Ae,hz.nk.rn,?_⟩
   clear e0 e1 e2
   have znk:=hz.nk
   refine Yw1 ?_
   exact⟨(j+1,q1::m1,z),_,_,Lq,Mt k4 rfl hm3 hO.val rfl rfl rfl rfl rfl rfl Yf,hj,hz,hO',hA',hkb',hBd',ks3,ds3,_,_,_,hm3,rfl⟩
  by_cases hat:a<(q0::t0).length
  case' neg=>
   have hO':=S4 (T:=T) (c:=c) (az:=nd.az.take j) (x:=x) hb (by rw[AJ Aa];simp) hO
   rw[<-htk] at hO'
   have hat':¬a<(tR (q0::t0)).length:=by simpa[tR] using hat
   have hA':=hA
   have hkb':=hkb
   have hBd':=hBd.mono (B:=(C7 T c (nd.az.take (j+1))).length) Aa
   refine Yw1 ?_
   refine En (cnL f c N ks ds [] [] []) k3 cnR (alt ks ds hm) (E7 hm rfl rfl rfl) Ya ?_
   rintro rc gc' ⟨⟨w,rfl,hw⟩,ks2,ds2,a0,a1,a2,hm2,e0,e1,e2⟩
   refine⟨[],k6,cnX f c N ks2 ds2 (a0++_) (a1++_) (a2++_),[],.v (.s w),rfl,Rl,E5 hm2 e0 e1 e2 rfl rfl rfl rfl rfl rfl,Ae,hw.nk.rn,?_⟩
   clear e0 e1 e2
   have wnk:=hw.nk
   have ad:=Gf (f:=f) (c:=c) hm2 hbv hw Aa
   rw[<-hl] at ad
   refine Yw1 ?_
   refine En (cnL f c N ks2 ds2 [] [] []) k3 cnR ad (E7 hm2 rfl rfl rfl) Ya ?_
   rintro rc gc' ⟨⟨z,rfl,hz⟩,ks3,ds3,b0,b1,b2,hm3,e0,e1,e2⟩
   refine⟨[],k6,cnX f c N ks3 ds3 (b0++_) (b1++_) (b2++_),[],.v (.s z),rfl,Rl,E5 hm3 e0 e1 e2 rfl rfl rfl rfl rfl rfl,Ae,hz.nk.rn,?_⟩
   clear e0 e1 e2
   have znk:=hz.nk
   refine Yw1 ?_
   exact⟨(j+1,q1::m1,z),_,_,Lq,Mt k4 rfl hm3 hO.val rfl rfl rfl rfl rfl rfl Yf,hj,hz,hO',hA',hkb',hBd',ks3,ds3,_,_,_,hm3,rfl⟩
  have hp:(q0::t0)[a]?=some (q0::t0)[a]:=Gg hat
  generalize (q0::t0)[a]=p at hp
  have hgt:(tR (q0::t0))[(a:Int).toNat]?=some [.int .i64 (p:Nat),.int .i64 (-1),.int .i64 0,.int .i64 0]:=by rw[tR,AD,Bj,hp];rfl
  have hat':a<(tR (q0::t0)).length:=by simpa[tR] using hat
  refine Yw2 (λh=>?_) (λh=>?_)
  ·obtain rfl:p=x.p:=by simp at h;omega
   have w0:=FA (T:=T) (t:=q0::t0) (a:=a+1) hat
   have s0:Asc [(a+1,PV.A4)]:=CT _ _
   have kb0:∀p∈[(a+1,PV.A4)],p.1<=(q0::t0).length:=λp hp=>by rw[Ar] at hp;subst hp;exact hat
   obtain⟨xp,xks,xd⟩:=x
   rcases xks with _|⟨y,_|⟨z,_|⟨z2,xks⟩⟩⟩
   ·refine Yz pm ?_
    refine XW.MM k14 rfl (x':=.v (.s (fV [(a+1,.A4)]))) rfl ?_
    refine XW.trim (Wj k5 k4 rfl hm hO.val rfl rfl rfl rfl rfl rfl rfl Yf) (ma4 (lm:=[(a+1,.A4)]) (R:=_) hbv w0 s0 kb0 (λe r h=>hR e r h) Aa htl hO hA hkb hBd hm ?_)
    rintro ks ds l0 l1 l2 out' y1 y2 y3 y4 hm hO1 hA' hkb' hBd'
    have hO':=Pt hb hp hO1
    rw[<-htk] at hO'
    rw[<-hl] at hBd'
    rcases out' with _|⟨q2,m2⟩
    ·skip
     refine Yw1 ?_
     refine En (cnL f c N ks ds [] [] []) k3 cnR (alt ks ds hm) (E7 hm rfl rfl rfl) Ya ?_
     rintro rc gc' ⟨⟨w,rfl,hw⟩,ks2,ds2,a0,a1,a2,hm2,e0,e1,e2⟩
     refine⟨[],k5,cnX f c N ks2 ds2 (a0++_) (a1++_) (a2++_),[],.v (.s w),rfl,Rl,E5 hm2 e0 e1 e2 rfl rfl rfl rfl rfl rfl,Ae,hw.nk.rn,?_⟩
     clear e0 e1 e2
     have wnk:=hw.nk
     have ad:=Gf (f:=f) (c:=c) hm2 hbv hw Aa
     rw[<-hl] at ad
     refine Yw1 ?_
     refine En (cnL f c N ks2 ds2 [] [] []) k3 cnR ad (E7 hm2 rfl rfl rfl) Ya ?_
     rintro rc gc' ⟨⟨z,rfl,hz⟩,ks3,ds3,b0,b1,b2,hm3,e0,e1,e2⟩
     refine⟨[],k5,cnX f c N ks3 ds3 (b0++_) (b1++_) (b2++_),[],.v (.s z),rfl,Rl,E5 hm3 e0 e1 e2 rfl rfl rfl rfl rfl rfl,Ae,hz.nk.rn,?_⟩
     clear e0 e1 e2
     have znk:=hz.nk
     refine Yw1 ?_
     exact⟨(j+1,[],z),_,_,Lq,Lo rfl hm3 rfl rfl rfl rfl Yf,hj,hz,hO',hA',hkb',hBd',ks3,ds3,_,_,_,hm3,rfl⟩
    ·skip
     refine Yw1 ?_
     refine En (cnL f c N ks ds [] [] []) k3 cnR (alt ks ds hm) (E7 hm rfl rfl rfl) Ya ?_
     rintro rc gc' ⟨⟨w,rfl,hw⟩,ks2,ds2,a0,a1,a2,hm2,e0,e1,e2⟩
     refine⟨[],k6,cnX f c N ks2 ds2 (a0++_) (a1++_) (a2++_),[],.v (.s w),rfl,Rl,E5 hm2 e0 e1 e2 rfl rfl rfl rfl rfl rfl,Ae,hw.nk.rn,?_⟩
     clear e0 e1 e2
     have wnk:=hw.nk
     have ad:=Gf (f:=f) (c:=c) hm2 hbv hw Aa
     rw[<-hl] at ad
     refine Yw1 ?_
     refine En (cnL f c N ks2 ds2 [] [] []) k3 cnR ad (E7 hm2 rfl rfl rfl) Ya ?_
     rintro rc gc' ⟨⟨z,rfl,hz⟩,ks3,ds3,b0,b1,b2,hm3,e0,e1,e2⟩
     refine⟨[],k6,cnX f c N ks3 ds3 (b0++_) (b1++_) (b2++_),[],.v (.s z),rfl,Rl,E5 hm3 e0 e1 e2 rfl rfl rfl rfl rfl rfl,Ae,hz.nk.rn,?_⟩
     clear e0 e1 e2
     have znk:=hz.nk
     refine Yw1 ?_
     exact⟨(j+1,q2::m2,z),_,_,Lq,Mt k5 rfl hm3 hO'.val rfl rfl rfl rfl rfl rfl Yf,hj,hz,hO',hA',hkb',hBd',ks3,ds3,_,_,_,hm3,rfl⟩
   ·obtain⟨ky,my⟩:=x3 y Ac
    refine Yz pm ?_
    refine XC.LF (a:=[.v (.s (.ptr k0 0))]) (x':=.v (.s (fV [(a+1,.A4)]))) rfl ?_
    refine En (cnL f c N ks ds [] [] []) k3 cnR (Mg w0 s0 ky my (kq:=[]) (by exact hPx 1) htl hm) (E7 hm rfl rfl rfl) (by first|exact .cons rfl (.cons (Pu _ _) (.cons Ys (.cons tnk.rn .nil)))|fail) ?_
    rintro rc gc' ⟨⟨la,rfl,law,laa,lak⟩,gks,gds,g0,g1,g2,gh,e0,e1,e2⟩
    refine⟨[],k7,cnX f c N gks gds (g0++_) (g1++_) (g2++_),[],.v (.s (fV la)),rfl,Rl,E5 gh e0 e1 e2 rfl rfl rfl rfl rfl rfl,Ae,Pu _ _,?_⟩
    clear e0 e1 e2
    replace law:=dO law
    have lnk:A2 (fV la):=E9 _ _
    refine Yz pm ?_
    refine XW.trim (Wj k5 k4 rfl gh hO.val rfl rfl rfl rfl rfl rfl rfl Yf) (ma4 (lm:=la) (R:=_) hbv law laa lak (λe r h=>hR e r h) Aa htl hO hA hkb hBd gh ?_)
    rintro ks ds l0 l1 l2 out' y1 y2 y3 y4 hm hO1 hA' hkb' hBd'
    have hO':=Pt hb hp hO1
    rw[<-htk] at hO'
    rw[<-hl] at hBd'
    rcases out' with _|⟨q2,m2⟩
    ·skip
     refine Yw1 ?_
     refine En (cnL f c N ks ds [] [] []) k3 cnR (alt ks ds hm) (E7 hm rfl rfl rfl) Ya ?_
     rintro rc gc' ⟨⟨w,rfl,hw⟩,ks2,ds2,a0,a1,a2,hm2,e0,e1,e2⟩
     refine⟨[],k5,cnX f c N ks2 ds2 (a0++_) (a1++_) (a2++_),[],.v (.s w),rfl,Rl,E5 hm2 e0 e1 e2 rfl rfl rfl rfl rfl rfl,Ae,hw.nk.rn,?_⟩
     clear e0 e1 e2
     have wnk:=hw.nk
     have ad:=Gf (f:=f) (c:=c) hm2 hbv hw Aa
     rw[<-hl] at ad
     refine Yw1 ?_
     refine En (cnL f c N ks2 ds2 [] [] []) k3 cnR ad (E7 hm2 rfl rfl rfl) Ya ?_
     rintro rc gc' ⟨⟨z,rfl,hz⟩,ks3,ds3,b0,b1,b2,hm3,e0,e1,e2⟩
     refine⟨[],k5,cnX f c N ks3 ds3 (b0++_) (b1++_) (b2++_),[],.v (.s z),rfl,Rl,E5 hm3 e0 e1 e2 rfl rfl rfl rfl rfl rfl,Ae,hz.nk.rn,?_⟩
     clear e0 e1 e2
     have znk:=hz.nk
     refine Yw1 ?_
     exact⟨(j+1,[],z),_,_,Lq,Lo rfl hm3 rfl rfl rfl rfl Yf,hj,hz,hO',hA',hkb',hBd',ks3,ds3,_,_,_,hm3,rfl⟩
    ·skip
     refine Yw1 ?_
     refine En (cnL f c N ks ds [] [] []) k3 cnR (alt ks ds hm) (E7 hm rfl rfl rfl) Ya ?_
     rintro rc gc' ⟨⟨w,rfl,hw⟩,ks2,ds2,a0,a1,a2,hm2,e0,e1,e2⟩
     refine⟨[],k6,cnX f c N ks2 ds2 (a0++_) (a1++_) (a2++_),[],.v (.s w),rfl,Rl,E5 hm2 e0 e1 e2 rfl rfl rfl rfl rfl rfl,Ae,hw.nk.rn,?_⟩
     clear e0 e1 e2
     have wnk:=hw.nk
     have ad:=Gf (f:=f) (c:=c) hm2 hbv hw Aa
     rw[<-hl] at ad
     refine Yw1 ?_
     refine En (cnL f c N ks2 ds2 [] [] []) k3 cnR ad (E7 hm2 rfl rfl rfl) Ya ?_
     rintro rc gc' ⟨⟨z,rfl,hz⟩,ks3,ds3,b0,b1,b2,hm3,e0,e1,e2⟩
     refine⟨[],k6,cnX f c N ks3 ds3 (b0++_) (b1++_) (b2++_),[],.v (.s z),rfl,Rl,E5 hm3 e0 e1 e2 rfl rfl rfl rfl rfl rfl,Ae,hz.nk.rn,?_⟩
     clear e0 e1 e2
     have znk:=hz.nk
     refine Yw1 ?_
     exact⟨(j+1,q2::m2,z),_,_,Lq,Mt k5 rfl hm3 hO'.val rfl rfl rfl rfl rfl rfl Yf,hj,hz,hO',hA',hkb',hBd',ks3,ds3,_,_,_,hm3,rfl⟩
   ·obtain⟨ky,my⟩:=x3 y Ac
    obtain⟨kz,mz⟩:=x3 z Ac
    refine Yz pm ?_
    refine XC.LF (a:=[.v (.s (.ptr k0 0))]) (x':=.v (.s (fV [(a+1,.A4)]))) rfl ?_
    refine En (cnL f c N ks ds [] [] []) k3 cnR (Mg w0 s0 ky my (kq:=[]) (by exact hPx 1) htl hm) (E7 hm rfl rfl rfl) (by first|exact .cons rfl (.cons (Pu _ _) (.cons Ys (.cons tnk.rn .nil)))|fail) ?_
    rintro rc gc' ⟨⟨la,rfl,law,laa,lak⟩,gks,gds,g0,g1,g2,gh,e0,e1,e2⟩
    refine⟨[],k7,cnX f c N gks gds (g0++_) (g1++_) (g2++_),[],.v (.s (fV la)),rfl,Rl,E5 gh e0 e1 e2 rfl rfl rfl rfl rfl rfl,Ae,Pu _ _,?_⟩
    clear e0 e1 e2
    replace law:=dO law
    have lnk:A2 (fV la):=E9 _ _
    refine Yz pm ?_
    refine En (cnL f c N gks gds [] [] []) k3 cnR (Mg law laa kz mz (kq:=[y]) (by exact hPx 2) htl gh) (E7 gh rfl rfl rfl) (by first|exact .cons rfl (.cons (Pu _ _) (.cons Ys (.cons tnk.rn .nil)))|fail) ?_
    rintro rc gc' ⟨⟨lb,rfl,lbw,lba,lbk⟩,uks,uds,u0,u1,u2,uh,e0,e1,e2⟩
    refine⟨[],k7,cnX f c N uks uds (u0++_) (u1++_) (u2++_),[],.v (.s (fV lb)),rfl,Rl,E5 uh e0 e1 e2 rfl rfl rfl rfl rfl rfl,Ae,Pu _ _,?_⟩
    clear e0 e1 e2
    replace lbw:=dO lbw
    have lnk:A2 (fV lb):=E9 _ _
    refine Yz pm ?_
    refine XW.trim (Wj k5 k4 rfl uh hO.val rfl rfl rfl rfl rfl rfl rfl Yf) (ma4 (lm:=lb) (R:=_) hbv lbw lba lbk (λe r h=>hR e r h) Aa htl hO hA hkb hBd uh ?_)
    rintro ks ds l0 l1 l2 out' y1 y2 y3 y4 hm hO1 hA' hkb' hBd'
    have hO':=Pt hb hp hO1
    rw[<-htk] at hO'
    rw[<-hl] at hBd'
    rcases out' with _|⟨q2,m2⟩
    ·skip
     refine Yw1 ?_
     refine En (cnL f c N ks ds [] [] []) k3 cnR (alt ks ds hm) (E7 hm rfl rfl rfl) Ya ?_
     rintro rc gc' ⟨⟨w,rfl,hw⟩,ks2,ds2,a0,a1,a2,hm2,e0,e1,e2⟩
     refine⟨[],k5,cnX f c N ks2 ds2 (a0++_) (a1++_) (a2++_),[],.v (.s w),rfl,Rl,E5 hm2 e0 e1 e2 rfl rfl rfl rfl rfl rfl,Ae,hw.nk.rn,?_⟩
     clear e0 e1 e2
     have wnk:=hw.nk
     have ad:=Gf (f:=f) (c:=c) hm2 hbv hw Aa
     rw[<-hl] at ad
     refine Yw1 ?_
     refine En (cnL f c N ks2 ds2 [] [] []) k3 cnR ad (E7 hm2 rfl rfl rfl) Ya ?_
     rintro rc gc' ⟨⟨z,rfl,hz⟩,ks3,ds3,b0,b1,b2,hm3,e0,e1,e2⟩
     refine⟨[],k5,cnX f c N ks3 ds3 (b0++_) (b1++_) (b2++_),[],.v (.s z),rfl,Rl,E5 hm3 e0 e1 e2 rfl rfl rfl rfl rfl rfl,Ae,hz.nk.rn,?_⟩
     clear e0 e1 e2
     have znk:=hz.nk
     refine Yw1 ?_
     exact⟨(j+1,[],z),_,_,Lq,Lo rfl hm3 rfl rfl rfl rfl Yf,hj,hz,hO',hA',hkb',hBd',ks3,ds3,_,_,_,hm3,rfl⟩
    ·skip
     refine Yw1 ?_
     refine En (cnL f c N ks ds [] [] []) k3 cnR (alt ks ds hm) (E7 hm rfl rfl rfl) Ya ?_
     rintro rc gc' ⟨⟨w,rfl,hw⟩,ks2,ds2,a0,a1,a2,hm2,e0,e1,e2⟩
     refine⟨[],k6,cnX f c N ks2 ds2 (a0++_) (a1++_) (a2++_),[],.v (.s w),rfl,Rl,E5 hm2 e0 e1 e2 rfl rfl rfl rfl rfl rfl,Ae,hw.nk.rn,?_⟩
     clear e0 e1 e2
     have wnk:=hw.nk
     have ad:=Gf (f:=f) (c:=c) hm2 hbv hw Aa
     rw[<-hl] at ad
     refine Yw1 ?_
     refine En (cnL f c N ks2 ds2 [] [] []) k3 cnR ad (E7 hm2 rfl rfl rfl) Ya ?_
     rintro rc gc' ⟨⟨z,rfl,hz⟩,ks3,ds3,b0,b1,b2,hm3,e0,e1,e2⟩
     refine⟨[],k6,cnX f c N ks3 ds3 (b0++_) (b1++_) (b2++_),[],.v (.s z),rfl,Rl,E5 hm3 e0 e1 e2 rfl rfl rfl rfl rfl rfl,Ae,hz.nk.rn,?_⟩
     clear e0 e1 e2
     have znk:=hz.nk
     refine Yw1 ?_
     exact⟨(j+1,q2::m2,z),_,_,Lq,Mt k5 rfl hm3 hO'.val rfl rfl rfl rfl rfl rfl Yf,hj,hz,hO',hA',hkb',hBd',ks3,ds3,_,_,_,hm3,rfl⟩
   ·simp at x1
  ·have hpx:p≠x.p:=λe=>by subst e;revert h;simp
   have hO':=S4 (T:=T) (c:=c) (az:=nd.az.take j) (x:=x) hb (by rw[hp];simp[hpx]) hO
   rw[<-htk] at hO'
   have hA':=hA
   have hkb':=hkb
   have hBd':=hBd.mono (B:=(C7 T c (nd.az.take (j+1))).length) Aa
   refine Yw1 ?_
   refine En (cnL f c N ks ds [] [] []) k3 cnR (alt ks ds hm) (E7 hm rfl rfl rfl) Ya ?_
   rintro rc gc' ⟨⟨w,rfl,hw⟩,ks2,ds2,a0,a1,a2,hm2,e0,e1,e2⟩
   refine⟨[],k6,cnX f c N ks2 ds2 (a0++_) (a1++_) (a2++_),[],.v (.s w),rfl,Rl,E5 hm2 e0 e1 e2 rfl rfl rfl rfl rfl rfl,Ae,hw.nk.rn,?_⟩
   clear e0 e1 e2
   have wnk:=hw.nk
   have ad:=Gf (f:=f) (c:=c) hm2 hbv hw Aa
   rw[<-hl] at ad
   refine Yw1 ?_
   refine En (cnL f c N ks2 ds2 [] [] []) k3 cnR ad (E7 hm2 rfl rfl rfl) Ya ?_
   rintro rc gc' ⟨⟨z,rfl,hz⟩,ks3,ds3,b0,b1,b2,hm3,e0,e1,e2⟩
   refine⟨[],k6,cnX f c N ks3 ds3 (b0++_) (b1++_) (b2++_),[],.v (.s z),rfl,Rl,E5 hm3 e0 e1 e2 rfl rfl rfl rfl rfl rfl,Ae,hz.nk.rn,?_⟩
   clear e0 e1 e2
   have znk:=hz.nk
   refine Yw1 ?_
   exact⟨(j+1,q1::m1,z),_,_,Lq,Mt k4 rfl hm3 hO.val rfl rfl rfl rfl rfl rfl Yf,hj,hz,hO',hA',hkb',hBd',ks3,ds3,_,_,_,hm3,rfl⟩
end
theorem YR {f:Fo} {c:Nat} {t:Tre} (D:wN) (hc:c<4) (w:WF0 f) (v:WF f) (htl:t.length<=900):∀i,i<f.ns.length->AbV (Tr2 f c) f c f.ns.length t i:=by
 intro i;induction i using Nat.strongRecOn with
 |ind i ih=>
  intro hi;have hn:f.ns[i]?=some f.ns[i]:=Gg hi;generalize f.ns[i]=n at hn;have hL:=w.len;have hg:=I6 hn;rw[J2 (v.as0 i n hn)] at hg;have hU:=qK (c:=c) (Sv w) i n hn;have hlen:=Ll (c:=c) w i hi;have hpx:=Xx i Aa;have hB:(Tr2 f c i).length<4294967296:=Aa;have hki:∀x∈n.az,∀k∈x.ks,k<i:=λx hx k hk=>(w.al i n hn x hx).2.1 k hk;refine AbX D hc rfl hi hL hg (w.Kw i n hn) (λa ha=>⟨(w.al i n hn a ha).1,(w.al i n hn a ha).2.2.1,λk hk=>?_⟩) (λx hx q=>?_) hU (by rw[<-hU];exact hB) htl;·have:=hki a ha k hk;exact⟨rP (Vf D hc w v k Aa),YQ (ih k this Aa)⟩
  ·have:=jJ (T:=Tr2 f c) (i:=i) Aa (ks:=x.ks.take q) (by have:=(w.al i n hn x hx).1;simp only[Ba];omega) λk hk=>⟨hki x hx k (Bq hk),Ll w k (by have:=hki x hx k (Bq hk);omega)⟩;omega
abbrev rrI (t:Tre) (c:Nat) (bv:PV) (i:Nat):Fm:=[(k1,.v (cA c)),sE k2 (tV t),pE k3 k0,pE k8 k3,sE k11 bv,(k12,.v (iA i))]
theorem TU {f:Fo} {c:Nat} (hc:c<4) (w:WF0 f) (hs:f.ns.all fmB=true) {t:Tre} (htl:t.length<=900):XC Fn 19 [foA f,cA c,.v (.s (tV t))] (mkH [] k0) λr _=>
  (∃v n,r=.tup [.s v,.s (.int .i64 ((0:Nat):Int))]/\A6 n v/\(B1 (Tr2 f c) c f.rs)[n]?=some t/\∀n',(B1 (Tr2 f c) c f.rs)[n']?=some t->n<=n')∨((∀n:Nat,(B1 (Tr2 f c) c f.rs)[n]?≠some t)/\r=.tup [.s .A4,.s (.int .i64 ((90:Nat):Int))]):=by
 have w1:=w.wf (AF.1 hs);have snd:=Jc Ye w;rw[hs] at snd;have hm:=eY (Tr2 f c) f.ns.length;have hnew:=eX (c:=c) w;have htot:=total_ok (c:=c) dZ hc w w1 hm;have tnk:=xE t;have hrlen:(f.rs.map rV).length=f.rs.length:=Lm ..;have htr:(tR t).length=t.length:=by simp[tR]
 have hL:=w.len;have rL:=w.Nl;have hmax:=Z5 (c:=c) w;rw[E4 w.n0 w.r0] at hnew snd ⊢;refine Ek pm C.f19 rfl ?_;refine Yw1 ?_;refine Eo hnew Ya ?_;rintro rc gc' ⟨rfl,e1,e2,e3⟩;refine⟨[(k1,k1),(k2,k2),(k3,k3)],k4,[],[ob (List.replicate f.ns.length .A4),ob (List.replicate f.ns.length (.bool false)),ob (cnC f c f.ns.length)],.v (.s (.ptr k3 0)),rfl,(show 1<=4 by decide),Ae,⟨⟨_,e1,.same (A2.cells hm.knk)⟩,⟨_,e2,.same (A2.cells hm.dnk)⟩,⟨_,e3,.same Yc⟩,Ae⟩,rfl,?_⟩;clear e1 e2 e3;refine Yw1 ?_;refine En (cnL f c f.ns.length (List.replicate f.ns.length .A4) (List.replicate f.ns.length (.bool false)) [] [] []) k3 aK htot ⟨⟨_,_,rfl,rfl,.same Yc⟩,⟨_,_,rfl,rfl,.same (A2.cells hm.knk)⟩,⟨_,_,rfl,rfl,.same (A2.cells hm.dnk)⟩,Ae⟩ Ya ?_;rintro rc gc' ⟨⟨v,rfl,hv⟩,ks,ds,l0,l1,l2,hm2,e0,e1,e2⟩;refine⟨[],k4,cnX f c f.ns.length ks ds (l0++[]) (l1++[]) (l2++[]),[],.tup [.s v,.s (.int .i64 ((0:Nat):Int))],rfl,Rl,O3 hm2 e0 e1 e2 rfl rfl rfl rfl rfl rfl,Ae,.cons hv.nk.rn (.cons rfl .nil),?_⟩;clear e0 e1 e2 hv;refine Yw1 ?_;refine XW.B6 (pu:=pm) (σ:=Nat×PV) (λq=>f.rs.length-q.1) (λq=>rrI t c q.2 q.1)
  (λq g=>q.1<=f.rs.length/\A6 (B1 (Tr2 f c) c (f.rs.take q.1)).length q.2/\(∀n:Nat,(B1 (Tr2 f c) c (f.rs.take q.1))[n]?≠some t)/\∃ks ds,Hw (Tr2 f c) f.ns.length ks ds/\g=mkH (rkH f c f.ns.length ks ds [] [] []) k4) (0,.A4)
  (Yj rfl hm2 rfl rfl rfl rfl Yf) ⟨Zl,A6.nil,by simp[B1],ks,ds,hm2,rfl⟩ ?_
 clear hm hm2;rintro⟨i,bv⟩ g ⟨hi,hbv,hno,ks,ds,hm,rfl⟩;replace hi:i<=f.rs.length:=hi;replace hbv:A6 (B1 (Tr2 f c) c (f.rs.take i)).length bv:=hbv;replace hno:∀n:Nat,(B1 (Tr2 f c) c (f.rs.take i))[n]?≠some t:=hno;have bnk:=hbv.nk;have bfl:=hbv.flat;refine⟨λh=>?_,λh=>?_⟩;case refine_2=>
  have hfull:i=f.rs.length:=by have:=B5 h;omega
  rw[hfull,AB] at hno;refine Yw1 ?_;exact .inr ⟨hno,rfl⟩
 have hi:i<f.rs.length:=by have:=B0 h;omega
 have hr:f.rs[i]?=some f.rs[i]:=Gg hi;have htk:f.rs.take (i+1)=f.rs.take i++[f.rs[i]]:=An hi;generalize f.rs[i]=r at hr htk;have hgr:=Je hr;obtain⟨r1,r2,r3⟩:=w.rt i r hr;rw[r1] at hgr;have dh:=dZ.inn r.2 r2 c hc;have hs2:=Me (Tr2 f c) c (f.rs.take i) r;rw[<-htk,r1] at hs2;have hle2:=Sy (Tr2 f c) c f.rs (i+1);have hG:=Vf (c:=c) dZ hc w w1 i Aa;have hW:=YR (c:=c) (t:=t) dZ hc w w1 htl i Aa ks ds 0 hm Zl;cases hb:r.2.testBit c;·rw[hb] at dh hs2;simp only[Fj,Ag,Ay] at hs2;refine Yw1 ?_;exact⟨(i+1,bv),_,_,Lq,Yj rfl hm rfl rfl rfl rfl Yf,hi,(by rw[hs2];exact hbv),(by rw[hs2];exact hno),ks,ds,hm,rfl⟩
 ·rw[hb] at dh hs2;simp only[Ak] at hs2;have hl:=Bh List.length hs2;rw[La] at hl;refine Yw1 ?_;refine En (cnL f c f.ns.length ks ds [] [] []) k3 aK hW (Vj hm rfl rfl rfl) Ya ?_;rintro rc gc' ⟨⟨ms,rfl,hms,hasc,hkb⟩,ks2,ds2,b0,b1,b2,hm2,e0,e1,e2⟩;refine⟨[],k4,cnX f c f.ns.length ks2 ds2 (b0++_) (b1++_) (b2++_),[],.v (.s (fV ms)),rfl,Rl,O3 hm2 e0 e1 e2 rfl rfl rfl rfl rfl rfl,Ae,Pu _ _,?_⟩;clear e0 e1 e2;have hsb:sbt t 0 t.length=t:=by simp[sbt]
  have hnx:(∀n:Nat,(Tr2 f c i)[n]?≠some t)->∀n:Nat,(B1 (Tr2 f c) c (f.rs.take (i+1)))[n]?≠some t:=λhnot n hn=>by
   rw[hs2] at hn;by_cases h1:n<(B1 (Tr2 f c) c (f.rs.take i)).length;·rw[Ai h1] at hn;exact hno n hn
   ·rw[Am Aa] at hn;exact hnot _ hn
  rcases hms0:ms with _|⟨p0,m0⟩;·subst hms0;have hnot:∀n:Nat,(Tr2 f c i)[n]?≠some t:=λn hn=>hms.no _ rfl n ⟨Zl,Rl,by rw[hsb];exact hn⟩;refine Yz pm ?_;refine En (cnL f c f.ns.length ks2 ds2 [] [] []) k3 aK (hG ks2 ds2 hm2) (Vj hm2 rfl rfl rfl) Ya ?_;rintro rc gc' ⟨⟨u,rfl,hu⟩,ks3,ds3,c0,c1,c2,hm3,e0,e1,e2⟩;refine⟨[],k4,cnX f c f.ns.length ks3 ds3 (c0++_) (c1++_) (c2++_),[],.v (.s u),rfl,Rl,O3 hm3 e0 e1 e2 rfl rfl rfl rfl rfl rfl,Ae,hu.nk.rn,?_⟩;clear e0 e1 e2;have unk:=hu.nk;have ad:=Gf (f:=f) (c:=c) hm3 hbv hu Aa;rw[<-hl] at ad;refine Yw1 ?_;refine En (cnL f c f.ns.length ks3 ds3 [] [] []) k3 aK ad (Vj hm3 rfl rfl rfl) Ya ?_;rintro rc gc' ⟨⟨z,rfl,hz⟩,ks4,ds4,d0,d1,d2,hm4,e0,e1,e2⟩;refine⟨[],k4,cnX f c f.ns.length ks4 ds4 (d0++_) (d1++_) (d2++_),[],.v (.s z),rfl,Rl,O3 hm4 e0 e1 e2 rfl rfl rfl rfl rfl rfl,Ae,hz.nk.rn,?_⟩;clear e0 e1 e2;have znk:=hz.nk;refine Yw1 ?_;exact⟨(i+1,z),_,_,Lq,Yj rfl hm4 rfl rfl rfl rfl Yf,hi,hz,hnx hnot,ks4,ds4,hm4,rfl⟩
  rw[<-hms0];have hlv:fV ms=.lst 2 (fR ms) none:=by rw[hms0];rfl
  have hll:=cH ms;have hml:=hms.len hkb;rw[hlv];clear hlv hms0 p0 m0;refine Yw1 ?_;refine XW.Wy (pu:=pm) (σ:=Nat) (λj=>ms.length-j) (λj=>rrI t c bv i++[sE k13 (.lst 2 (fR ms) none),(k14,.v (iA j))]) (λj=>j<=ms.length/\∀k p,k<j->ms[k]?=some p->p.1≠t.length) 0 Zl (.cons rfl rfl (.cons rfl rfl (.cons rfl rfl (.cons rfl rfl (.cons rfl rfl (.cons rfl rfl (.cons rfl rfl (.cons rfl rfl (.nil _))))))))) ⟨Zl,λk p h=>absurd h (Dn k)⟩ ?_;rintro j ⟨hj,hne⟩;refine⟨λh=>?_,λh=>?_⟩
  ·have hj:j<ms.length:=by have:=B0 h;omega
   have hp:ms[j]?=some ms[j]:=Gg hj;generalize ms[j]=p at hp;obtain⟨e,u⟩:=p;have hge:=sH hp;refine Yw1 ?_;conv=>whnf
   rw[show opE VOp.lens (List.map FE.pa [FE.v (PA.v (PC.s (tV t)))])=some (iA (tR t).length) from IS t];refine Yw2 (λh=>?_) (λh=>?_)
   ·obtain rfl:e=t.length:=Aa;have hf:=Ji hms.keys hp;obtain⟨n1,hu,hmi⟩:=hms.mi hf;have hn1:n1<(Tr2 f c i).length:=(Gi.1 hmi.1.2.2).1;have ad:=Gf (f:=f) (c:=c) hm2 hbv hu Aa;have unk:=hu.nk;have hpre:B1 (Tr2 f c) c f.rs=B1 (Tr2 f c) c (f.rs.take (i+1))++B1 (Tr2 f c) c (f.rs.drop (i+1)):=by
     conv=>lhs;rw[<-Be (i+1) f.rs]
     rw[B1,Cf];rfl
    refine Yw1 ?_;refine En (cnL f c f.ns.length ks2 ds2 [] [] []) k3 aK ad (Vj hm2 rfl rfl rfl) Ya ?_;rintro rc gc' ⟨⟨z,rfl,hz⟩,ks3,ds3,c0,c1,c2,hm3,e0,e1,e2⟩;refine⟨[],k4,cnX f c f.ns.length ks3 ds3 (c0++_) (c1++_) (c2++_),[],.v (.s z),rfl,Rl,O3 hm3 e0 e1 e2 rfl rfl rfl rfl rfl rfl,Ae,hz.nk.rn,?_⟩;clear e0 e1 e2;have znk:=hz.nk;refine Yw1 ?_;refine .inl ⟨z,_,rfl,hz,?_,?_⟩;·have:=hmi.1.2.2;rw[hsb] at this;rw[hpre,hs2,AN,Am Aa,Ds,Ai Aa];exact this
    ·intro n' hn';rw[hpre,hs2,AN] at hn';by_cases h1:n'<(B1 (Tr2 f c) c (f.rs.take i)).length;·rw[Ai h1] at hn';exact absurd hn' (hno n')
     ·rw[Am Aa] at hn';by_cases h2:n'-(B1 (Tr2 f c) c (f.rs.take i)).length<(Tr2 f c i).length;·rw[Ai h2] at hn';have:=hmi.2 (n'-(B1 (Tr2 f c) c (f.rs.take i)).length) ⟨Zl,Rl,by rw[hsb];exact hn'⟩;omega
      ·omega
   ·refine⟨j+1,Lq,.cons rfl rfl (.cons rfl rfl (.cons rfl rfl (.cons rfl rfl (.cons rfl rfl (.cons rfl rfl (.cons rfl rfl (.cons rfl rfl (.nil _)))))))),rfl,hj,λk p hk hkp=>?_⟩;by_cases hkj:k<j;·exact hne k p hkj hkp
    ·obtain rfl:k=j:=Aa;rw[hp] at hkp;cases hkp;show e≠t.length;omega
  ·have hfull:j=ms.length:=by have:=B5 h;omega
   have hnone:fnd ms t.length=none:=kY λp hp=>by obtain⟨k,hk⟩:=DK hp;exact hne k p (by have:=(Gi.1 hk).1;omega) hk
   have hnot:∀n:Nat,(Tr2 f c i)[n]?≠some t:=λn hn=>hms.no _ hnone n ⟨Zl,Rl,by rw[hsb];exact hn⟩;clear hne hfull hnone;refine Yw1 ?_;refine En (cnL f c f.ns.length ks2 ds2 [] [] []) k3 aK (hG ks2 ds2 hm2) (Vj hm2 rfl rfl rfl) Ya ?_;rintro rc gc' ⟨⟨u,rfl,hu⟩,ks3,ds3,c0,c1,c2,hm3,e0,e1,e2⟩;refine⟨[],k4,cnX f c f.ns.length ks3 ds3 (c0++_) (c1++_) (c2++_),[],.v (.s u),rfl,Rl,O3 hm3 e0 e1 e2 rfl rfl rfl rfl rfl rfl,Ae,hu.nk.rn,?_⟩;clear e0 e1 e2;have unk:=hu.nk;have ad:=Gf (f:=f) (c:=c) hm3 hbv hu Aa;rw[<-hl] at ad;refine Yw1 ?_;refine En (cnL f c f.ns.length ks3 ds3 [] [] []) k3 aK ad (Vj hm3 rfl rfl rfl) Ya ?_;rintro rc gc' ⟨⟨z,rfl,hz⟩,ks4,ds4,d0,d1,d2,hm4,e0,e1,e2⟩;refine⟨[],k4,cnX f c f.ns.length ks4 ds4 (d0++_) (d1++_) (d2++_),[],.v (.s z),rfl,Rl,O3 hm4 e0 e1 e2 rfl rfl rfl rfl rfl rfl,Ae,hz.nk.rn,?_⟩;clear e0 e1 e2;have znk:=hz.nk;refine Yw1 ?_;exact⟨(i+1,z),_,_,Lq,Yj rfl hm4 rfl rfl rfl rfl Yf,hi,hz,hnx hnot,ks4,ds4,hm4,rfl⟩
theorem FK (D:Xt) {f:Fo} (w:WF0 f):A3 Fn 124 [foA f] (bA (f.ns.all fmB)):=by
 have hlen:(f.ns.map nV).length=f.ns.length:=Lm ..;have hrlen:(f.rs.map rV).length=f.rs.length:=Lm ..;have hL:=w.len;have rL:=w.Nl;have hf:=E4 w.n0 w.r0;rw[hf];refine Ej pv C.f124 rfl ?_;refine XW.B6 (pu:=pv) (σ:=Nat) (λi=>f.ns.length-i) (foL f)
  (λi g=>g=mkH [(k0,foB f)] k1/\i<=f.ns.length/\∀j n,j<i->f.ns[j]?=some n->fmB n=true) 0
  (El [(k0,foB f)] k1 [(k0,k0)]) ⟨rfl,Zl,λj n h=>absurd h Aa⟩ ?_
 rintro i g ⟨rfl,hi,hc⟩;refine⟨λh=>?_,λh=>?_⟩
 ·have hi:i<f.ns.length:=by have:=B0 h;omega
  have hn:f.ns[i]?=some f.ns[i]:=Gg hi;generalize hnn:f.ns[i]=n at hn;have af:fmB n=false->f.ns.all fmB=false:=λhb=>by
   cases hh:f.ns.all fmB with
   |false=>rfl
   |true=>rw[AF.1 hh n (Aq hn)] at hb;cases hb
  have hg:=I6 hn;refine⟨_,⟨Aa,hg⟩,?_⟩;by_cases h0:n.az=[];·rw[af (by simp[fmB,h0])];obtain⟨l,c,az⟩:=n;subst h0;exact Yw0
  have pn:=Zu n;rw[J2 h0] at hg pn ⊢;have nlen:(n.az.map aV).length=n.az.length:=Lm ..;have nL:=w.Kw i n hn;have hnp:0<n.az.length:=AS.2 h0;have prev:¬0<i∨0<i/\∃m:Nd,(f.ns.map nV)[((i:Int)-1).toNat]?=some (nC m)/\A3 Fn 185 [PA.v (PC.agg (nC m))] (PA.lst 1 (iL [0,0,(m.left:Int),(m.copy:Int)]))/\A3 Fn 186 [PA.lst 1 (iL [0,0,(m.left:Int),(m.copy:Int)]),PA.lst 1 (iL [0,0,(n.left:Int),(n.copy:Int)])] (iA (Fq [0,0,(m.left:Int),(m.copy:Int)] [0,0,(n.left:Int),(n.copy:Int)]))/\Fq [0,0,(m.left:Int),(m.copy:Int)] [0,0,(n.left:Int),(n.copy:Int)]<0:=by
   by_cases hi0:0<i;case neg=>exact .inl hi0
   have hm:f.ns[i-1]?=some f.ns[i-1]:=Gg Aa;generalize hmm:f.ns[i-1]=m at hm;have m0:m.az≠[]:=λe=>by have:=hc (i-1) m Aa hm;simp[fmB,e] at this
   have hg1:=I6 hm;rw[show((i-1:Nat):Int)=(i:Int)-1 from Aa,J2 m0] at hg1;have pm:=Zu m;rw[J2 m0] at pm;exact .inr ⟨hi0,m,hg1,pm,Sr _ _ (Cn rfl) (Cn rfl),w.place (i-1) m n hm (by rw[show i-1+1=i from Aa];exact hn)⟩
  obtain hi0|⟨hi0,m,hg1,pm,cm,hpl⟩:=prev;all_goals refine Yw1 ?_
  all_goals
   refine XW.B6 (pu:=pv) (σ:=Nat) (λj=>n.az.length-j) (λj=>(k5,.v (.v (.s (.ptr k1 0))))::(k64,.v (PA.lst 4 (n.az.map aV)))::(k65,.v (iA (n.az.map aV).length))::(k66,.v (iA j))::foL f i)
    (λj g=>g=mkH [(k0,foB f),(k1,ob (nC n))] k2/\j<=n.az.length/\∀k a b,k+1<j->n.az[k]?=some a->n.az[k+1]?=some b->lt2 a b=true) 0
    (El [(k0,foB f),(k1,ob (nC n))] k2 [(k0,k0),(k1,k1)]) ⟨rfl,Zl,λk a b h=>absurd h Aa⟩ ?_
   rintro j g ⟨rfl,hj,hc2⟩
   refine⟨λh=>?_,λh=>?_⟩
   ·have hj:j<n.az.length:=by have:=B0 h;omega
    have ha:n.az[j]?=some n.az[j]:=Gg hj
    generalize haa:n.az[j]=a at ha
    have hga:=Ii ha
    obtain⟨a1,a2,a3,a4,_⟩:=w.al i n hn a (Aq ha)
    have ne:=D.ne a.d a3
    rw[mV a4] at ne
    have ps:=PL f n a a1 (λk hk=>DV (a2 k hk) hi) Aa w.n0
    rw[hf,J2 h0] at ps
    have ka:=pX a a1
    have prevA:¬0<j∨0<j/\∃b:Al,n.az[j-1]?=some b/\(n.az.map aV)[((j:Int)-1).toNat]?=some (aC b)/\A3 Fn 189 [.v (.agg (aC b))] (PA.lst 1 (iL (M7 b)))/\A3 Fn 186 [PA.lst 1 (iL (M7 b)),PA.lst 1 (iL (M7 a))] (iA (Fq (M7 b) (M7 a))):=by
     by_cases hj0:0<j
     case neg=>exact .inl hj0
     have hb:n.az[j-1]?=some n.az[j-1]:=Gg Aa
     generalize hbb:n.az[j-1]=b at hb
     have hgb:=Ii hb
     rw[show((j-1:Nat):Int)=(j:Int)-1 from Aa] at hgb
     have b1:=(w.al i n hn b (Aq hb)).1
     exact .inr ⟨hj0,b,hb,hgb,pX b b1,Sr _ _ (Ra b1) (Ra a1)⟩
    refine⟨_,⟨Aa,hga⟩,?_⟩
    obtain hj0|⟨hj0,b,hb,hgb,kb,ck⟩:=prevA
    ·refine Yw1 ?_
     exact⟨j+1,_,_,Aa,El [(k0,foB f),(k1,ob (nC n))] k2 [(k0,k0),(k1,k1)],rfl,Aa,λk x y hk=>absurd hk Aa⟩
    ·refine Yw2 (λh=>?_) (λh=>?_)
     ·have e:fmB n=false:=by
       cases hh:fmB n with
       |false=>rfl
       |true=>
        simp only[fmB,Au] at hh
        have:=BB (Zv hh.2 (j-1) b a hb (by rw[show j-1+1=j from Aa];exact ha))
        omega
      rw[af e];exact⟨_,rfl⟩
     ·refine⟨j+1,_,_,Aa,El [(k0,foB f),(k1,ob (nC n))] k2 [(k0,k0),(k1,k1)],rfl,Aa,λk x y hk hx hy=>?_⟩
      by_cases hkj:k+1<j
      ·exact hc2 k x y hkj hx hy
      ·have e1:k=j-1:=Aa
       subst e1
       rw[hb] at hx;cases hx
       rw[show j-1+1=j from Aa,ha] at hy;cases hy
       exact Ch Aa
   ·have e:fmB n=true:=by
     have hjj:j=n.az.length:=by have:=B5 h;omega
     simp only[fmB,Au]
     refine⟨by simpa using h0,iW λk a b ha hb=>hc2 k a b ?_ ha hb⟩
     have:=(Gi.1 hb).1
     omega
    refine Yw1 ?_
    refine⟨i+1,_,_,Aa,El [(k0,foB f)] k1 [(k0,k0)],rfl,Aa,λj m hj hm=>?_⟩
    by_cases hji:j<i
    ·exact hc j m hji hm
    ·rw[show j=i from Aa,hn] at hm;cases hm;exact e
 ·have hii:i=f.ns.length:=by have:=B5 h;omega
  have e:f.ns.all fmB=true:=AF.2 λn hn=>by obtain⟨j,hj,rfl⟩:=DN hn;exact hc j _ Aa (Gg hj)
  rw[e];refine Yw1 ?_;refine XW.B6 (pu:=pv) (σ:=Nat) (λj=>f.rs.length-j) (λj=>[pE k1 k0,(k107,.v (PA.lst 3 (f.rs.map rV))),(k108,.v (iA (f.rs.map rV).length)),(k109,.v (iA j))])
   (λj g=>g=mkH [(k0,foB f)] k1/\j<=f.rs.length) 0
   (El [(k0,foB f)] k1 [(k0,k0)]) ⟨rfl,Zl⟩ ?_
  rintro j g ⟨rfl,hj⟩;refine⟨λh=>?_,λh=>?_⟩
  ·have hj:j<f.rs.length:=by have:=B0 h;omega
   have hr:f.rs[j]?=some f.rs[j]:=Gg hj;generalize hrr:f.rs[j]=r at hr;have hgr:=Je hr;obtain⟨r1,r2,r3⟩:=w.rt j r hr;have ne:=D.ne r.2 r2;rw[mV r3] at ne;have prev:¬0<j∨0<j/\∃q:Nat×Nat,(f.rs.map rV)[((j:Int)-1).toNat]?=some [.int .i64 q.1,dN q.2,.int .i64 (dR q.2)]/\q.1<r.1:=by
    by_cases hj0:0<j;case neg=>exact .inl hj0
    have hq:f.rs[j-1]?=some f.rs[j-1]:=Gg Aa;have hgq:=Je hq;rw[show((j-1:Nat):Int)=(j:Int)-1 from Aa] at hgq;have:=(w.rt (j-1) _ hq).1;exact .inr ⟨hj0,_,hgq,Aa⟩
   refine⟨_,⟨Aa,hgr⟩,?_⟩;obtain hj0|⟨hj0,q,hgq,hlt⟩:=prev
   all_goals refine Yw1 ?_
   all_goals exact⟨j+1,_,_,Aa,El [(k0,foB f)] k1 [(k0,k0)],rfl,Aa⟩
  ·exact Yw0
section
variable {f:Fo} (w:WF0 f) (hs:f.ns.all fmB=false)
include w hs
theorem xF:A3 Fn 69 [foA f] (.tup [.s .A4,.s (.bool false)]):=by have hlen:(f.ns.map nV).length=f.ns.length:=Lm ..;have hL:=w.len;have fo:=FK Ye w;rw[hs] at fo;rw[E4 w.n0 w.r0] at fo ⊢;refine Ej pt C.f69 rfl ?_;exact Yw0
theorem TV:A3 Fn 21 [foA f,cA 0,iA 0] (.tup [.s .A4,.s (.bool false)]):=by have so:=xF w hs;rw[E4 w.n0 w.r0] at so ⊢;refine Ej pt C.f21 rfl ?_;exact Yw0
theorem MN:A3 Fn 91 [foA f,cA 0] (.v (.agg [.A4,.A4])):=by have so:=xF w hs;rw[E4 w.n0 w.r0] at so ⊢;refine Ej pt C.f91 rfl ?_;exact Yw0
theorem Wk:A3 Fn 28 [foA f] (bA false):=by have tr:=TV w hs;have se:=MN w hs;rw[E4 w.n0 w.r0] at tr se ⊢;refine Ej pt C.f28 rfl ?_;exact Yw0
abbrev eF (n:Nat):PA:=.tup [.s .A4,.s (.int .i64 (n:Nat))]
theorem MO {c:Nat}:A3 Fn 7 [foA f,cA c] (eF 110):=by have cs:=Wk w hs;rw[E4 w.n0 w.r0] at cs ⊢;refine Ej ph C.f7 rfl ?_;exact Yw0
theorem MP {d:Nat}:A3 Fn 9 [foA f,dA d] (eF 110):=by have cs:=Wk w hs;rw[E4 w.n0 w.r0] at cs ⊢;refine Ej ph C.f9 rfl ?_;exact Yw0
theorem FL {c:Nat} {n:PV}:A3 Fn 14 [foA f,cA c,.v (.s n)] (eF 110):=by have cs:=Wk w hs;rw[E4 w.n0 w.r0] at cs ⊢;refine Ej ph C.f14 rfl ?_;exact Yw0
theorem TW {c:Nat} {n:PV}:A3 Fn 18 [foA f,cA c,.v (.s n)] (eF 110):=by have cs:=Wk w hs;rw[E4 w.n0 w.r0] at cs ⊢;refine Ej ph C.f18 rfl ?_;exact Yw0
theorem MR {c:Nat}:A3 Fn 8 [foA f,cA c] (eF 110):=by have cs:=Jc Ye w;rw[hs] at cs;rw[E4 w.n0 w.r0] at cs ⊢;refine Ej ph C.f8 rfl ?_;exact Yw0
theorem MS {d:Nat}:A3 Fn 11 [foA f,dA d] (eF 110):=by have cs:=Jc Ye w;rw[hs] at cs;rw[E4 w.n0 w.r0] at cs ⊢;refine Ej ph C.f11 rfl ?_;exact Yw0
theorem FM {c:Nat} {n:PV}:A3 Fn 16 [foA f,cA c,.v (.s n)] (eF 110):=by have cs:=Jc Ye w;rw[hs] at cs;rw[E4 w.n0 w.r0] at cs ⊢;refine Ej ph C.f16 rfl ?_;exact Yw0
theorem TX {c:Nat} {n:PV}:A3 Fn 19 [foA f,cA c,.v (.s n)] (eF 110):=by have cs:=Jc Ye w;rw[hs] at cs;rw[E4 w.n0 w.r0] at cs ⊢;refine Ej ph C.f19 rfl ?_;exact Yw0
end
end Go.Pv
end
section
noncomputable section
set_option maxRecDepth 100000
namespace Go.Pv.E
open Go.Vm Go.Pv.K




end Go.Pv.E
end
section
noncomputable section
namespace Go.Pv
open Go.Vm Go.Vm.C
open Go.Vm.Key (kn)
set_option maxRecDepth 40000
set_option maxHeartbeats 0
def pl3 (n:Nat):Bool:=pc n||Sp [17,28,27] n
theorem MT {f:Fo} {c:Nat} (hc:c<4) (w:WF0 f) (v:WF f) (h0:∀r∈f.rs,r.2.testBit 0=false) :
  XC Fn 7 [foA f,cA c] (mkH [] k0) λr _=>∃u,r=.tup [.s u,.s (.int .i64 ((0:Nat):Int))]/\A6 (B1 (Tr2 f c) c f.rs).length u:=by
 have cs:=Rb Ye kJ w v h0;have tal:=Oy kJ hc w v;rw[E4 w.n0 w.r0] at cs tal ⊢;refine Ek pl3 C.f7 rfl ?_;refine Ywa ?_;refine Eo tal Ya ?_;rintro rc gc' ⟨rfl,m,l0,l1,tot,hm,ht,e1,e2⟩;have htk:=ht.nk;have htf:=ht.flat;refine⟨[(k1,k1),(k2,k2)],k3,[],[obl (tbK k1 k2 f c tot) [],mpB m []],.tup [.s (.ptr k1 0),.s (.int .i64 ((0:Nat):Int))],rfl,(show 1<=3 by decide),Ae,⟨⟨_,e1,(Er Ys)⟩,⟨_,e2,.map hm⟩,Ae⟩,.cons rfl (.cons rfl .nil),?_⟩;clear e1 e2;obtain⟨u,hcl,hu⟩:=Jd ht;refine Ywa ?_;conv=>whnf
 exact⟨u,rfl,hu⟩
theorem MU {f:Fo} {c:Nat} (hc:c<4) (w:WF0 f) (hs:f.ns.all fmB=true) :
  XC Fn 8 [foA f,cA c] (mkH [] k0) λr _=>∃u,r=.tup [.s u,.s (.int .i64 ((0:Nat):Int))]/\A6 (B1 (Tr2 f c) c f.rs).length u:=by
 have w1:=w.wf (AF.1 hs);have snd:=Jc Ye w;rw[hs] at snd;have hm:=eY (Tr2 f c) f.ns.length;have hnew:=eX (c:=c) w;have htot:=total_ok (c:=c) dZ hc w w1 hm;rw[E4 w.n0 w.r0] at hnew snd ⊢;refine Ek pl3 C.f8 rfl ?_;refine Ywa ?_;refine Eo hnew Ya ?_;rintro rc gc' ⟨rfl,e1,e2,e3⟩;refine⟨[(k1,k1),(k2,k2),(k3,k3)],k4,[],[ob (List.replicate f.ns.length .A4),ob (List.replicate f.ns.length (.bool false)),ob (cnC f c f.ns.length)],.v (.s (.ptr k3 0)),rfl,(show 1<=4 by decide),Ae,⟨⟨_,e1,.same (A2.cells hm.knk)⟩,⟨_,e2,.same (A2.cells hm.dnk)⟩,⟨_,e3,.same Yc⟩,Ae⟩,rfl,?_⟩;clear e1 e2 e3;refine Yw1 ?_;refine En (cnL f c f.ns.length (List.replicate f.ns.length .A4) (List.replicate f.ns.length (.bool false)) [] [] []) k3 aK htot ⟨⟨_,_,rfl,rfl,.same Yc⟩,⟨_,_,rfl,rfl,.same (A2.cells hm.knk)⟩,⟨_,_,rfl,rfl,.same (A2.cells hm.dnk)⟩,Ae⟩ Ya ?_;rintro rc gc' ⟨⟨v,rfl,hv⟩,ks,ds,l0,l1,l2,hm2,e0,e1,e2⟩;refine⟨[],k4,cnX f c f.ns.length ks ds (l0++[]) (l1++[]) (l2++[]),[],.tup [.s v,.s (.int .i64 ((0:Nat):Int))],rfl,Rl,O3 hm2 e0 e1 e2 rfl rfl rfl rfl rfl rfl,Ae,.cons hv.nk.rn (.cons rfl .nil),?_⟩;clear e0 e1 e2;have hvk:=hv.nk;refine Yw1 ?_;conv=>whnf
 exact⟨v,rfl,hv⟩
theorem TY {t:Tre} (hl:t.length<=1000):A3 Fn 17 [.v (.s (tV t)),.v (.s (tV t))] (bA true):=by
 refine Ej pl3 C.f17 rfl ?_;rcases t with _|⟨p0,t⟩
 ·refine Yx pl3 ?_;exact Yw0
 generalize e1:p0::t=u at *;have s1:tV u=.lst 4 (tR u) none:=by rw[<-e1];rfl
 have htl:(tR u).length=u.length:=by simp[tR]
 rw[s1];clear s1 e1;refine Yw2 (λh=>?_) (λh=>?_);·exact absurd h Ac
 refine Yw1 ?_;refine XW.B6 (pu:=pl3) (σ:=Nat) (λi=>u.length-i) (λi=>[(k0,.v (PA.lst 4 (tR u))),(k1,.v (PA.lst 4 (tR u))),(k5,.v (iA i))]) (λi g=>i<=u.length/\g=mkH [] k0) 0
  (Em [] k0 [] Ae Yf) ⟨Zl,rfl⟩ ?_
 rintro i g ⟨hi,rfl⟩;replace hi:i<=u.length:=hi;refine⟨λh=>?_,λh=>?_⟩
 ·have hi:i<u.length:=by have:=B0 h;omega
  have ha:u[i]?=some u[i]:=Gg hi;generalize u[i]=p at ha;have hga:(tR u)[(i:Int).toNat]?=some [.int .i64 (p:Nat),.int .i64 (-1),.int .i64 0,.int .i64 0]:=by rw[tR,AD,Bj,ha];rfl
  refine Yw2 (λh=>?_) (λh=>?_);refine Yw1 ?_;·exact absurd h Ac
  ·refine Yw1 ?_;exact⟨i+1,_,_,Lq,Em [] k0 [] Ae Yf,hi,rfl⟩
 ·exact Yw0
theorem Ke {F:D5} {f:Nat} {xs:Ez} {r:PA} (h:A3 F f xs r) (hx:∀g,Fw deep xs g=some (xs,g)) {g:A0}:XC F f xs g λr' g'=>r'=r/\g'=g:=
 λs hs hg vs hv=>bN (pu:=λ_=>true) (F:=F) (R:=λr' g'=>r'=r/\g'=g) (show iP F (λ_=>true) f xs g _ from⟨xs,g,r,hx g,h,rfl,rfl⟩) s hs hg vs hv
abbrev tE (v:PV) (e:Nat):PA:=.tup [.s v,.s (.int .i64 (e:Nat))]
structure Ans (P:Program) (f:Fo):Prop where
 cnt:∀c,c<4->∃n e,(XC Fn 7 [foA f,cA c] (mkH [] k0) λr _=>∃u,r=tE u e/\A6 n u)/\(XC Fn 8 [foA f,cA c] (mkH [] k0) λr _=>∃u,r=tE u e/\A6 n u)
 cls:∀d,d<16->∃S e,S.length<=3/\(XC Fn 9 [foA f,dA d] (mkH [] k0) λr _=>∃L:List Cl,r=tE (slV 3 (L.map cC)) e/\(∀a∈L,COk a)/\L.map kyC=S)/\(XC Fn 11 [foA f,dA d] (mkH [] k0) λr _=>∃L:List Cl,r=tE (slV 3 (L.map cC)) e/\(∀a∈L,COk a)/\L.map kyC=S)
 unr:∀c,c<4->∀n nv,n<256->A6 n nv->∃s e,s.length<=15/\(XC Fn 14 [foA f,cA c,.v (.s nv)] (mkH [] k0) λr _=>r=tE (tV s) e)/\(XC Fn 16 [foA f,cA c,.v (.s nv)] (mkH [] k0) λr _=>r=tE (tV s) e)
 rnk:∀c,c<4->∀t:Tre,t.length<=900->∃n e,(PXC P 18 [foA f,cA c,.v (.s (tV t))] (mkH [] k0) λr _=>∃u,r=tE u e/\A6 n u)/\(XC Fn 19 [foA f,cA c,.v (.s (tV t))] (mkH [] k0) λr _=>∃u,r=tE u e/\A6 n u)
theorem Qq (f:Fo) (g:A0):G4 deep (foA f) g=some (foA f,g):=by show G4 deep (.v (.agg [slV 5 (f.ns.map nV),slV 3 (f.rs.map rV)])) g=some (.v (.agg [slV 5 (f.ns.map nV),slV 3 (f.rs.map rV)]),g);cases f.ns.map nV<;>cases f.rs.map rV<;>rfl
theorem Fe {x:PA} {l:Ez} {g:A0} (hx:G4 deep x g=some (x,g)) (hl:Fw deep l g=some (l,g)):Fw deep (x::l) g=some (x::l,g):=by
 show(match G4 40 x g with
  |some (y,h)=>match Fw 40 l h with
   |some (ys,h)=>some (y::ys,h)
   |none=>none
  |none=>none)=_
 have hx:G4 40 x g=some (x,g):=hx;have hl:Fw 40 l g=some (l,g):=hl;simp only[hx,hl]
theorem TZ (t:Tre) (g:A0):G4 deep (.v (.s (tV t))) g=some (.v (.s (tV t)),g):=Lk (AaJ _ _ _)
theorem AbY {p:Nat->Prop} (h:∃n,p n):∃n,p n/\∀m,p m->n<=m:=by
 obtain⟨n,hn⟩:=h;induction n using Nat.strongRecOn with
 |ind n ih=>
  by_cases hx:∃m,m<n/\p m;·obtain⟨m,h1,h2⟩:=hx;exact ih m h1 h2
  ·exact⟨n,hn,λm hm=>Nat.le_of_not_lt λhlt=>hx ⟨m,hlt,hm⟩⟩
theorem UA {P:Program} (pf:PF P Fn) {f:Fo} (w:WF0 f) (hs:f.ns.all fmB=false):Ans P f where
 cnt c _:=⟨0,110,(Ke (MO w hs) λg=>Fe (Qq f g) (Fe rfl rfl)).mono λr _ h=>⟨.A4,h.1,A6.nil⟩,(Ke (MR w hs) λg=>Fe (Qq f g) (Fe rfl rfl)).mono λr _ h=>⟨.A4,h.1,A6.nil⟩⟩
 cls d _:=⟨[],110,Zl,(Ke (MP w hs) λg=>Fe (Qq f g) (Fe (rR d g) rfl)).mono λr _ h=>⟨[],h.1,Ac,rfl⟩,(Ke (MS w hs) λg=>Fe (Qq f g) (Fe (rR d g) rfl)).mono λr _ h=>⟨[],h.1,Ac,rfl⟩⟩
 unr c _ n nv _ hv:=⟨[],110,Zl,(Ke (FL w hs) λg=>Fe (Qq f g) (Fe rfl (Fe (Lk (hv.frz g)) rfl))).mono λr _ h=>h.1,(Ke (FM w hs) λg=>Fe (Qq f g) (Fe rfl (Fe (Lk (hv.frz g)) rfl))).mono λr _ h=>h.1⟩
 rnk c _ t _:=⟨0,110,PXC.run pf ((Ke (TW w hs) λg=>Fe (Qq f g) (Fe rfl (Fe (TZ t g) rfl))).mono λr _ h=>⟨.A4,h.1,A6.nil⟩),(Ke (TX w hs) λg=>Fe (Qq f g) (Fe rfl (Fe (TZ t g) rfl))).mono λr _ h=>⟨.A4,h.1,A6.nil⟩⟩
theorem AbZ {P:Program} (pf:PF P Fn) {f:Fo} (w:WF0 f) (hs:f.ns.all fmB=true) (h0:∀r∈f.rs,r.2.testBit 0=false) (R:XO f):Ans P f where
 cnt c hc:=⟨_,0,MT hc w (w.wf (AF.1 hs)) h0,MU hc w hs⟩
 cls d hd:=⟨wP f (rdq d) d [],0,by have:=wZ (f:=f) (k:=rdq d) (r:=d) (S:=[]);have:=EV d hd;simp only[BO] at *;omega,EW (Adt R w (w.wf (AF.1 hs))) w (w.wf (AF.1 hs)) h0 hd,wR (Adu R w (w.wf (AF.1 hs))) w hs hd⟩
 unr c hc n nv hn hv:=by
  have v:=w.wf (AF.1 hs);have hr:=FH hc w hs hv hn;by_cases hnl:n<(B1 (Tr2 f c) c f.rs).length
  ·obtain⟨s,g1,g2⟩:=LM Ye kJ hc w v h0 hv hnl;obtain⟨s1,s2⟩:=YB (c:=c) w g1;refine⟨s,0,s2,(Ke g2 λg=>Fe (Qq f g) (Fe rfl (Fe (Lk (hv.frz g)) rfl))).mono λr _ h=>h.1,hr.mono λr _ h=>?_⟩;rcases h with⟨s',h1,h2,h3,rfl⟩|⟨h1,_⟩
   ·rw[g1] at h1;cases h1;cases s with
    |nil=>exact absurd rfl s1
    |cons=>rfl
   ·omega
  ·refine⟨[],120,Zl,(Ke (FI hc w v h0 hv Aa) λg=>Fe (Qq f g) (Fe rfl (Fe (Lk (hv.frz g)) rfl))).mono λr _ h=>h.1,hr.mono λr _ h=>?_⟩;rcases h with⟨s',h1,_⟩|⟨_,rfl⟩
   ·exact absurd (Gi.1 h1).1 Aa
   ·rfl
 rnk c hc t ht:=by
  have v:=w.wf (AF.1 hs);have h1:=TA pf Ye kJ hc w v h0 (t:=t) Aa;have h2:=TU hc w hs ht;by_cases hx:∃n:Nat,(B1 (Tr2 f c) c f.rs)[n]?=some t;·obtain⟨n,hn,hmin⟩:=AbY hx;refine⟨n,0,h1.mono λr _ h=>?_,h2.mono λr _ h=>?_⟩;all_goals
    rcases h with⟨u,m,rfl,hu,hm,hl⟩|⟨hno,_⟩
    ·obtain rfl:m=n:=Nat.le_antisymm (hl n hn) (hmin m hm)
     exact⟨u,rfl,hu⟩
    ·exact absurd hn (hno n)
  ·refine⟨0,90,h1.mono λr _ h=>?_,h2.mono λr _ h=>?_⟩;all_goals
    rcases h with⟨u,m,rfl,hu,hm,hl⟩|⟨_,rfl⟩
    ·exact absurd ⟨m,hm⟩ hx
    ·exact⟨.A4,rfl,A6.nil⟩
end Go.Pv
end
section
noncomputable section
set_option maxRecDepth 100000
namespace Go.Pv.E
open Go.Vm Go.Pv.K
theorem Aca:R 104 [I 1] (dAT 12):=by decide +kernel
theorem Acb:R 104 [I 0] (dAT 10):=by decide +kernel
def al (b:Bool):Nat:=if b then 15 else 0
theorem AdD:∀a:Bool,R 106 [dA 12,dA (al a)] (dA (12 &&& al a)):=by decide +kernel
theorem AdE:∀a:Bool,R 46 [dA (al a),dA 12] (dA (al a &&& 3)):=by decide +kernel
theorem AdF:∀a b:Bool,R 105 [dA (12 &&& al a),dA (al b &&& 3)] (dA ((12 &&& al a)+(al b &&& 3))):=by decide +kernel
theorem AdG:∀v∈[0,3,12,15],R 106 [dA 10,dA v] (dA (10 &&& v)):=by decide +kernel
theorem AdH:∀v∈[0,3,12,15],∀w∈[0,3,12,15],R 105 [dA (10 &&& v),dA (w &&& 5)] (dA ((10 &&& v)+(w &&& 5))):=by decide +kernel
theorem Acd:∀b:Bool,R 25 [B b] (dA (al b)):=by decide +kernel
end Go.Pv.E
end
section
noncomputable section
namespace Go.Pv
open Go.Vm Go.Vm.C
open Go.Vm.Key (kn)
set_option maxRecDepth 40000
set_option maxHeartbeats 0
def pt4 (n:Nat):Bool:=Sp [25,104,105,106,46] n
abbrev byB (c:Nat):B4:=ob [.int .u8 (c:Nat)]
def bitX (c m:Nat):Bool:=IntKind.u8.wrap ((BitVec.ofInt IntKind.u8.bits ((c:Int).fdiv (2 ^ min (IntKind.u64.wrap ((m:Int) % ((8:Nat):Int))).toNat IntKind.u8.bits)) &&& BitVec.ofInt IntKind.u8.bits ((1:Nat):Int)).toNat:Nat)==((1:Nat):Int)
theorem YS:∀c,c<256->∀m,m<4->bitX c m=c.testBit m:=by decide +kernel
theorem JB {c m:Nat} (hc:c<256) (hm:m<4):XC Fn 42 [.v (.s (.slice k0 0 1 1 (some 1))),iA 2,iA 2,iA m] (mkH [(k0,byB c)] k1) λr g=>r=dA (E.al (c.testBit m))/\g.get k0=some (byB c):=by
 have hb:∀b:Bool,A3 Fn 25 [bA b] (dA (E.al b)):=λb=>by rw[<-D8];exact ent (E.Acd b)
 have e:=YS c hc m hm;rw[<-e];refine Ek pt4 C.f42 rfl ?_;refine Ywb ?_;refine⟨_,_,ld1 (c:=[.int .u8 (c:Nat)]) (x:=.int .u8 (c:Nat)) rfl (by rw[show(0+((m:Int) / ((8:Nat):Int)).toNat*1)=0 from Aa];rfl),?_⟩;refine Ywa ?_;conv=>whnf
 refine⟨_,_,_,rfl,hb _,?_⟩;refine Yw1 ?_;conv=>whnf
 exact⟨rfl,rfl⟩
def l1q (c m:Nat):Nat:=(12 &&& E.al (c.testBit (m+2)))+(E.al (c.testBit m) &&& 3)
theorem JC {c m:Nat} (hc:c<256) (hm:m<2):XC Fn 42 [.v (.s (.slice k0 0 1 1 (some 1))),iA 2,iA 1,iA m] (mkH [(k0,byB c)] k1) λr g=>r=dA (l1q c m)/\g.get k0=some (byB c):=by
 have hv:A3 Fn 104 [iA 1] (dAT 12):=by rw[<-Qp];exact ent E.Aca
 have h1:=JB (m:=m+2) hc Aa;have h2:=JB (m:=m) hc Aa;have hi:∀a,A3 Fn 106 [dA 12,dA (E.al a)] (dA (12 &&& E.al a)):=λa=>by rw[<-D8,<-D8,<-D8];exact ent (E.AdD a)
 have hn:∀a,A3 Fn 46 [dA (E.al a),dA 12] (dA (E.al a &&& 3)):=λa=>by rw[<-D8,<-D8,<-D8];exact ent (E.AdE a)
 have hu:∀a b,A3 Fn 105 [dA (12 &&& E.al a),dA (E.al b &&& 3)] (dA ((12 &&& E.al a)+(E.al b &&& 3))):=λa b=>by rw[<-D8,<-D8,<-D8];exact ent (E.AdF a b)
 replace hi:=hi (c.testBit (m+2));replace hn:=hn (c.testBit m);replace hu:=hu (c.testBit (m+2)) (c.testBit m);unfold l1q;obtain rfl|rfl:m=0∨m=1:=Aa
 ·refine Ek pt4 C.f42 rfl ?_;refine Ywb ?_;conv=>whnf
  rw[show IntKind.i64.wrap (((1:Nat):Int)*2 ^ min (IntKind.u64.wrap 1).toNat IntKind.i64.bits)=((2:Nat):Int) from Ab];refine Yw1 ?_;refine En [(k0,byB c)] k1 [(k0,k0)] h1 Yb Ya ?_;rintro rc gc' ⟨rfl,e0⟩;refine⟨[],k3,[some (byB c)],[],dA (E.al (c.testBit (0+2))),rfl,Rl,⟨⟨_,_,_,e0,.same Yc,rfl,rfl,rfl,rfl⟩,Ae⟩,Ae,Ys,?_⟩;refine Ywb ?_;refine En [(k0,byB c)] k1 [(k0,k0)] h2 Yb Ya ?_;rintro rc gc' ⟨rfl,e0⟩;refine⟨[],k3,[some (byB c)],[],dA (E.al (c.testBit 0)),rfl,Rl,⟨⟨_,_,_,e0,.same Yc,rfl,rfl,rfl,rfl⟩,Ae⟩,Ae,Ys,?_⟩;refine Ywb ?_;conv=>whnf
  exact⟨rfl,rfl⟩
 ·refine Ek pt4 C.f42 rfl ?_;refine Ywb ?_;conv=>whnf
  rw[show IntKind.i64.wrap (((1:Nat):Int)*2 ^ min (IntKind.u64.wrap 1).toNat IntKind.i64.bits)=((2:Nat):Int) from Ab];refine Yw1 ?_;refine En [(k0,byB c)] k1 [(k0,k0)] h1 Yb Ya ?_;rintro rc gc' ⟨rfl,e0⟩;refine⟨[],k3,[some (byB c)],[],dA (E.al (c.testBit (1+2))),rfl,Rl,⟨⟨_,_,_,e0,.same Yc,rfl,rfl,rfl,rfl⟩,Ae⟩,Ae,Ys,?_⟩;refine Ywb ?_;refine En [(k0,byB c)] k1 [(k0,k0)] h2 Yb Ya ?_;rintro rc gc' ⟨rfl,e0⟩;refine⟨[],k3,[some (byB c)],[],dA (E.al (c.testBit 1)),rfl,Rl,⟨⟨_,_,_,e0,.same Yc,rfl,rfl,rfl,rfl⟩,Ae⟩,Ae,Ys,?_⟩;refine Ywb ?_;conv=>whnf
  exact⟨rfl,rfl⟩
theorem JD:∀c,c<256->∀m,m<2->l1q c m∈[0,3,12,15]:=by decide +kernel
theorem YT:∀c,c<256->(10 &&& l1q c 1)+(l1q c 0 &&& 5)=c % 16:=by decide +kernel
theorem YU {c:Nat} (hc:c<256):XC Fn 42 [.v (.s (.slice k0 0 1 1 (some 1))),iA 2,iA 0,iA 0] (mkH [(k0,byB c)] k1) λr g=>r=dA (c % 16)/\g.get k0=some (byB c):=by
 have hv:A3 Fn 104 [iA 0] (dAT 10):=by rw[<-Qp];exact ent E.Acb
 have h1:=JC (m:=1) hc Ab;have h2:=JC (m:=0) hc Ab;have m1:=JD c hc 1 Ab;have m0:=JD c hc 0 Ab;have hi:A3 Fn 106 [dA 10,dA (l1q c 1)] (dA (10 &&& l1q c 1)):=by rw[<-D8,<-D8,<-D8];exact ent (E.AdG _ m1)
 have hlt:l1q c 0<16:=by simp at m0;omega
 have hn:A3 Fn 46 [dA (l1q c 0),dA 10] (dA (l1q c 0 &&& 5)):=by rw[<-D8,<-D8,<-D8];exact ent (E.SP _ hlt 10 Ab)
 have hu:A3 Fn 105 [dA (10 &&& l1q c 1),dA (l1q c 0 &&& 5)] (dA ((10 &&& l1q c 1)+(l1q c 0 &&& 5))):=by rw[<-D8,<-D8,<-D8];exact ent (E.AdH _ m1 _ m0)
 rw[<-YT c hc];refine Ek pt4 C.f42 rfl ?_;refine Ywb ?_;conv=>whnf
 rw[show IntKind.i64.wrap (((1:Nat):Int)*2 ^ min (IntKind.u64.wrap 0).toNat IntKind.i64.bits)=((1:Nat):Int) from Ab];refine Yw1 ?_;refine En [(k0,byB c)] k1 [(k0,k0)] h1 Yb Ya ?_;rintro rc gc' ⟨rfl,e0⟩;refine⟨[],k3,[some (byB c)],[],dA (l1q c 1),rfl,Rl,⟨⟨_,_,_,e0,.same Yc,rfl,rfl,rfl,rfl⟩,Ae⟩,Ae,Ys,?_⟩;refine Ywb ?_;refine En [(k0,byB c)] k1 [(k0,k0)] h2 Yb Ya ?_;rintro rc gc' ⟨rfl,e0⟩;refine⟨[],k3,[some (byB c)],[],dA (l1q c 0),rfl,Rl,⟨⟨_,_,_,e0,.same Yc,rfl,rfl,rfl,rfl⟩,Ae⟩,Ae,Ys,?_⟩;refine Ywb ?_;conv=>whnf
 exact⟨rfl,rfl⟩
theorem UB {c:Nat} (hc:c<256):XC Fn 10 [.v (.s (.slice k0 0 1 1 (some 1))),iA 2] (mkH [(k0,byB c)] k1) λr g=>r=dA (c % 16)/\g.get k0=some (byB c):=by
 have h1:=YU hc;refine Ek pt4 C.f10 rfl ?_;refine Ywa ?_;refine En [(k0,byB c)] k1 [(k0,k0)] h1 Yb Ya ?_;rintro rc gc' ⟨rfl,e0⟩;refine⟨[],k2,[some (byB c)],[],dA (c % 16),rfl,Rl,⟨⟨_,_,_,e0,.same Yc,rfl,rfl,rfl,rfl⟩,Ae⟩,Ae,Ys,?_⟩;refine Ywa ?_;conv=>whnf
 exact⟨rfl,rfl⟩
section
attribute [local irreducible] PX PXL PXC
def pe3 (n:Nat):Bool:=Sp [12] n
def Qe:PQT:=λx L g _=>match x with
 |.exit _=>False
 |_=>match Uu L g C.f3.results with
  |some l=>G3 l=bA true
  |none=>False
theorem Ace {P:Program} (pf:PF P Fn) {f:Fo} (w:WF0 f) (A:Ans P f) {c:Nat} (hc:c<4) {t:Tre} (ht:t.length<=900) :
  PX P 0 (nav [1,1,1,1,1,1,1,1,1,1,1,1,1] C.f3.body) [(k9,.v (bA true)),pE k10 k0,(k12,.v (cA c)),sE k23 (tV t)] (mkH [(k0,obl [.lst 5 (f.ns.map nV) none,.lst 3 (f.rs.map rV) none] [])] k1) [] Qe:=by
 obtain⟨n,e,h18,h19⟩:=A.rnk c hc t ht;rw[E4 w.n0 w.r0] at h18 h19;have tnk:=xE t;refine PX.seq (PX.region (PXL.split 3 (pu:=pe3) pf ?_));refine Yv1 ?_;refine PXL.call rfl (PXC.QB (R:=λr g'=>(∃u,r=tE u e/\A6 n u)/\g'=mkH [(k0,obl [.lst 5 (f.ns.map nV) none,.lst 3 (f.rs.map rV) none] [])] k1) (l:=[]) (nx:=k0) [] h18 rfl rfl Ae Ya ?_) ?_;·rintro rc gc' ⟨u,rfl,hu⟩;exact⟨[],k1,[],[],tE u e,rfl,Rl,Ae,Ae,.cons hu.nk.rn (.cons rfl .nil),⟨u,rfl,hu⟩,rfl⟩
 rintro r g' ⟨⟨u,rfl,hu⟩,rfl⟩;have huk:=hu.nk;have huf:=hu.flat;refine Yv1 ?_;refine PXL.split 5 (pu:=pe3) pf ?_;refine PXL.nil ?_;refine Yq pe3 pf ?_;refine Eo h19 Ya ?_;rintro rc gc' ⟨u2,rfl,hu2⟩;have huk2:=hu2.nk;have huf2:=hu2.flat;have sm:=rZ hu hu2;refine⟨[],k1,[],[],tE u2 e,rfl,Rl,Ae,Ae,.cons hu2.nk.rn (.cons rfl .nil),?_⟩;refine Yv1 ?_;refine Eh pe3 pf ?_;refine Yva ?_;refine Yp pe3 pf ?_;exact rfl
end
section
attribute [local irreducible] PX PXL PXC
theorem PX.MM {P:Program} {lo:Nat} {cd:B7} {L:Fm} {g g1:A0} {Q:PQT} (k:Key) {e:FE} {x':PA} (hL:look L k=some e) (hx:G4 deep e.pa g=some (x',g1)) (h:PX P lo cd (Jj L (some k) (.v x')) g1 [] Q):PX P lo cd L g [] Q:=
 PX.via (F:=λ_=>none) (XW.MM k hL hx (XW.skip ⟨rfl,rfl⟩)) h
abbrev rwT (p:Nat):Ey:=[.int .i64 (p:Nat),.int .i64 (-1),.int .i64 0,.int .i64 0]
theorem Acf (p:Nat):(rwT p).length=4:=rfl
theorem AdI (t:Tre):∀v∈(tR t).flatten,A2 v:=λv h=>by obtain⟨x,hx,hv⟩:=Dh.1 h;obtain⟨p,_,rfl⟩:=Aw.1 hx;simp only[Af,Ah,AP] at hv;rcases hv with rfl|rfl|rfl|rfl<;>exact Ae
theorem JE (t:Tre):(tR t).flatten=C9 rwT t:=by rw[tR,C9,List.flatMap_def]
theorem JF:∀{t:Tre} {i:Nat} {q:Nat},i<t.length->(C9 rwT t).set (i*4) (.int .i64 (q:Nat))=C9 rwT (t.set i q)
 |[],_,_,h=>absurd h (Dn _)
 |p::t,0,q,h=>rfl
 |p::t,i+1,q,h=>by have:=JF (t:=t) (i:=i) (q:=q) (by simpa using h);rw[show(i+1)*4=i*4+1+1+1+1 by omega];simp only[C9,Bf,rwT,AH,Bw,DY] at this ⊢;rw[this]
theorem cutT (t:Tre) {z:Int} (m:Nat) (hz:z=(m:Nat)) (hm:m<=t.length) (g:A0):opP (.slice (.slice 4) false true false) [.v (.s (.lst 4 (tR t) none)),.v (.s (.int .i64 z))] g=some (.v (.s (.lst 4 (tR (t.take m)) none)),g):=by subst hz;have hl:(tR t).length=t.length:=Lm ..;show Hv g (Lx 4 (.lst 4 (tR t) none) (none,some _,none))=_;simp only[Lx,bounds,bnd,DH];rw[Aj Ae,Aj Aa];show Hv g (some (.lst 4 (List.take (m-0) (List.drop 0 (tR t))) none))=_;rw[CG,CP,tR,<-Dq];rfl
abbrev jC (b c:Nat) (t:Tre):Fm:=[sE k3 (.int .u8 (b:Nat)),(k9,.v (bA true)),pE k10 k0,(k12,.v (cA c)),sE k23 (.lst 4 (tR t) none)]
abbrev jC2 (b c:Nat) (m:Nat):Fm:=[sE k3 (.int .u8 (b:Nat)),(k9,.v (bA true)),pE k10 k0,(k12,.v (cA c)),sE k23 (.slice k1 0 m 4 none)]
theorem YV {P:Program} (pf:PF P Fn) {b c:Nat} (hb:b<256) {B:Ey} {t:Tre} (h0:t≠[]) (hl:t.length<=900) (hB:∀v∈B,A2 v) {rest:B7} {Q:PQT}
  (K:∀t':Tre,t'.length<=900->PX P 0 rest [(k9,.v (bA true)),pE k10 k0,(k12,.v (cA c)),sE k23 (tV t')] (mkH [(k0,obl B [])] k1) [] Q) :
  PX P 0 (nav [1,1,1,1,1,1,1,1,1,1,1,1,0,1,0] C.f3.body) (jC b c t) (mkH [(k0,obl B [])] k1) [] λx L g I=>match x with
   |.normal=>PX P 0 rest L g I Q
   |.exit i=>Q (.exit i) L g I
   |.ret=>Q .ret L g I:=by
 have hlen:(tR t).length=t.length:=Lm ..
 have hpos:0<((tR t).length:Int):=by have:=AS.2 h0;omega
 have hm0:=Int.emod_nonneg ((b:Int) / ((3:Nat):Int)) (by omega:((tR t).length:Int)≠0)
 have hm1:=Int.emod_lt_of_pos ((b:Int) / ((3:Nat):Int)) hpos
 refine Eh pe3 pf ?_
 refine Yvc ?_
 obtain⟨m,hm⟩:=Cs (by omega:0<=((tR t).length:Int)-(b:Int) / ((3:Nat):Int) % ((tR t).length:Int))
 have hm1:0<m:=Aa
 have hm2:m<=t.length:=Aa
 refine⟨_,_,cutT t m hm hm2 _,?_⟩
 refine Yv1 ?_
 have hr:(tR (t.take m)).length=m:=by rw[tR,Lm,Ba];omega
 refine⟨_,_,Ac7 (x:=.lst 4 (tR (t.take m)) none) rfl Aa Aa,?_⟩
 refine Yv1 ?_
 have hnk:∀v∈(tR (t.take m)).flatten,A2 v:=AdI _
 refine PX.trim (Trim.of (l:=[(k0,obl B []),(k1,obl (C9 rwT (t.take m)) [])]) (nx:=k2) (L2:=jC2 b c m) [(k0,k0),(k1,k2)] rfl Zl Ae ⟨⟨_,_,rfl,rfl,.same (A2.cells hB)⟩,⟨_,_,rfl,rfl,by rw[<-JE];exact .same (A2.cells hnk)⟩,Ae⟩ ?_) .nil ?_
 ·refine⟨⟨_,rfl,rfl⟩,⟨_,rfl,rfl⟩,⟨_,rfl,rfl⟩,⟨_,rfl,rfl⟩,⟨_,rfl,?_⟩,Ae⟩
  rw[hr];rfl
 generalize hu:t.take m=u at hr hnk
 have hum:u.length=m:=by rw[<-hu,Ba];omega
 have hi0:=Int.emod_nonneg (b:Int) (by omega:(m:Int)≠0)
 have hi1:=Int.emod_lt_of_pos (b:Int) (by omega:(0:Int)<m)
 refine Ei pe3 pf ?_
 refine Yvc ?_
 have hlr:(C9 rwT u).length=m*4:=by rw[Kc Acf,hum]
 have ei:(b:Int) % (m:Int)=((b % m:Nat):Int):=rfl
 have hbm:b % m<m:=Cu _ hm1
 refine⟨_,_,st1 (c:=C9 rwT u) (log:=[]) rfl (by rw[hlr,ei,Bj];omega),?_⟩
 have hset:(C9 rwT u).set (0+((b:Int) % (m:Int)).toNat*4+0) (.int .i64 ((b:Int) / ((16:Nat):Int) % ((3:Nat):Int)))=(tR (u.set (b % m) (b / 16 % 3))).flatten:=by rw[JE,<-JF Aa,ei,Bj,AO,BI];rfl
 have hu2:(u.set (b % m) (b / 16 % 3)).length=m:=by rw[Cz,hum]
 generalize u.set (b % m) (b / 16 % 3)=u' at hset hu2
 have hr2:(tR u').length=m:=by rw[tR,Lm,hu2]
 have hch:chunk 4 m (tR u').flatten=tR u':=by rw[<-hr2];exact Mc (Su u')
 refine PX.MM k23 rfl (Lk (J0 (len:=m) (es:=4) (k:=k1) (c:=(tR u').flatten) (own:=true) (frz:=false) (anc:=[]) (log:=[(0+((b:Int) % (m:Int)).toNat*4+0,1)]) ?_ ?_ Aa rfl (H4 (qH u')))) ?_
 ·rw[<-hset];rfl
 ·rw[Jt (Su u'),hr2]
 rw[hch]
 have htv:tV u'=.lst 4 (tR u') none:=by
  cases u' with
  |nil=>simp at hu2;omega
  |cons p t=>rfl
 refine PX.trim (Em [(k0,obl B [])] k1 [(k0,k0)] ⟨⟨_,_,rfl,rfl,.same (A2.cells hB)⟩,Ae⟩ ?_) .nil (K u' Aa)
 rw[htv]
 exact⟨⟨_,rfl,rfl⟩,⟨_,rfl,rfl⟩,⟨_,rfl,rfl⟩,⟨_,rfl,rfl⟩,Ae⟩
end
section
attribute [local irreducible] PX PXL PXC
def pf3 (n:Nat):Bool:=Sp [5,12,13,15,17] n
abbrev jF (c a b:Nat) (e:Bool):Fm:=[sE k1 (.int .u8 (c:Nat)),sE k2 (.int .u8 (a:Nat)),sE k3 (.int .u8 (b:Nat)),(k9,.v (bA true)),pE k10 k0,(k11,.v (bA e)),(k12,.v (cA (c % 4)))]
def Qm:PQT:=λx L g _=>match x with
 |.exit _=>False
 |_=>match Uu L g C.f3.results with
  |some l=>G3 l=bA true
  |none=>False
theorem JG {P:Program} (pf:PF P Fn) {f:Fo} (w:WF0 f) (A:Ans P f) {c a b:Nat} {e:Bool} (hc:c<256) (ha:a<256) (hb:b<256) :
  PX P 0 (nav [1,1,1,1] C.f3.body) (jF c a b e) (mkH [(k0,obl (foC f) [])] k1) [] Qm:=by
 obtain⟨n,e1,h7,h8⟩:=A.cnt (c % 4) (Cu _ Ab);have fe:=E4 w.n0 w.r0;have hfc:foC f=[.lst 5 (f.ns.map nV) none,.lst 3 (f.rs.map rV) none]:=by simpa[foA] using fe
 obtain⟨S,e2,hS,h9,h11⟩:=A.cls (c % 16) (Cu _ Ab);have mk:=UB hc;obtain⟨nv,hnv1,hnv⟩:=zB (n:=a) Aa;have h15:A3 Fn 15 [.v (.s (.int .u64 (IntKind.wrap .u64 (a:Int))))] (.v (.s nv)):=by rw[wrap_u64 (n:=(a:Int)) Aa];exact hnv1
 have nvk:=hnv.nk;have nvf:=hnv.flat;obtain⟨s,e3,hsl,h14,h16⟩:=A.unr (c % 4) (Cu _ Ab) a nv ha hnv;have st:=TY (t:=s) Aa;rw[fe] at h14 h16;rw[fe] at h7 h8 h9 h11;rw[hfc];refine Yq pf3 pf ?_;refine Eo h7 Ya ?_;rintro rc gc' ⟨u,rfl,hu⟩;have huk:=hu.nk;have huf:=hu.flat;refine⟨[],k1,[],[],tE u e1,rfl,Rl,Ae,Ae,.cons hu.nk.rn (.cons rfl .nil),?_⟩;refine Yv1 ?_;refine Yq pf3 pf ?_;refine Eo h8 Ya ?_;rintro rc gc' ⟨u2,rfl,hu2⟩;have huk2:=hu2.nk;have huf2:=hu2.flat;have sm:=rZ hu hu2;refine⟨[],k1,[],[],tE u2 e1,rfl,Rl,Ae,Ae,.cons hu2.nk.rn (.cons rfl .nil),?_⟩;refine Yv1 ?_;refine Eh pf3 pf ?_;refine En [(k0,byB c)] k1 [(k0,k1)] mk Yb Ya ?_;rintro rc gc' ⟨rfl,e0⟩;refine⟨[],k2,[some (byB c)],[],dA (c % 16),rfl,Rl,⟨⟨_,_,_,e0,.same Yc,rfl,rfl,rfl,rfl⟩,Ae⟩,Ae,Ys,?_⟩;refine Yva ?_;refine Eo h9 Ya ?_;rintro rc gc' ⟨L1,rfl,hL1,hk1⟩;refine⟨[],k2,[],[],tE (slV 3 (L1.map cC)) e2,rfl,Rl,Ae,Ae,.cons (E9 _ _).rn (.cons rfl .nil),?_⟩;refine Yva ?_;refine Yq pf3 pf ?_;refine En [(k0,byB c)] k1 [(k0,k2)] mk Yb Ya ?_;rintro rc gc' ⟨rfl,e0⟩;refine⟨[],k3,[some (byB c)],[],dA (c % 16),rfl,Rl,⟨⟨_,_,_,e0,.same Yc,rfl,rfl,rfl,rfl⟩,Ae⟩,Ae,Ys,?_⟩;refine Yva ?_;refine Eo h11 Ya ?_;rintro rc gc' ⟨L2,rfl,hL2,hk2⟩;have sc:=TI hL1 hL2 (hk1.trans hk2.symm) (by rw[<-Lm (f:=kyC),hk1];omega);refine⟨[],k3,[],[],tE (slV 3 (L2.map cC)) e2,rfl,Rl,Ae,Ae,.cons (E9 _ _).rn (.cons rfl .nil),?_⟩;refine Yva ?_;refine PX.seq (Eh pf3 pf ?_);repeat'(try conv=>whnf)<;>first|(refine⟨λh=>?_,λh=>?_⟩<;>first|exact I9 h|exact Jr h|exact absurd (B0 h) Aa|exact absurd (B5 h) Aa|replace h:=B0 h|replace h:=B5 h|skip)|refine⟨(by omega:_/\_),?_⟩|refine⟨_,⟨Aa,by assumption⟩,?_⟩|refine⟨_,⟨Aa,rfl⟩,?_⟩|refine⟨_,_,_,(rfl:Fw _ _ _=_),by assumption,?_⟩|refine⟨_,_,_,Fi (by repeat' first|exact trivial|refine⟨?_,?_⟩|exact Fv _ _|(show Hl _;assumption)|fail),by assumption,?_⟩|refine⟨(by omega:_≠_),?_⟩|refine⟨_,_,(rfl:opP _ _ _=_),?_⟩|exact⟨_,(rfl:G4 _ _ _=_)⟩|fail
 all_goals first|(simp at h;done)|skip
 refine Yv1 ?_;all_goals first|(simp at h;done)|skip
 refine Yva ?_;refine Ei pf3 pf ?_;refine Yva ?_;refine Yq pf3 pf ?_;refine Eo h14 Ya ?_;rintro rc gc' rfl;refine⟨[],k3,[],[],tE (tV s) e3,rfl,Rl,Ae,Ae,.cons (E9 _ _).rn (.cons rfl .nil),?_⟩;refine Yva ?_;refine Yq pf3 pf ?_;refine Eo h16 Ya ?_;rintro rc gc' rfl;refine⟨[],k3,[],[],tE (tV s) e3,rfl,Rl,Ae,Ae,.cons (E9 _ _).rn (.cons rfl .nil),?_⟩;refine Yvb ?_;refine PX.seq (Eh pf3 pf ?_);refine Yv2 (λh=>?_) (λh=>?_);all_goals first|(simp at h;done)|skip
 refine Yv1 ?_;all_goals first|(simp at h;done)|skip
 refine Yv1 ?_;refine Ei pf3 pf ?_;refine Yva ?_;have hend:=λt (ht:(t:Tre).length<=900)=>(Ace pf w A (c:=c % 4) (Cu _ Ab) ht).mono (Q':=Qm) λx L g I h=>by cases x<;>exact h
 rcases s with _|⟨p0,s⟩
 ·refine PX.seq (Eh pf3 pf ?_);refine Yv1 ?_;all_goals first|(simp at h;done)|skip
  refine Yv1 ?_;refine Yp pf3 pf ?_;exact PX.trim (Em [(k0,obl [.lst 5 (f.ns.map nV) none,.lst 3 (f.rs.map rV) none] [])] k1 [(k0,k0)] ⟨⟨_,_,rfl,rfl,.same Yc⟩,Ae⟩ Yf) .nil (hend [] Ac)
 ·have hpl:(0:Int)<((tR (p0::s)).length:Int):=by simp[tR]
  refine PX.seq (Eh pf3 pf ?_);refine Yv1 ?_;all_goals first|(simp at h;done)|skip
  refine Yv1 ?_;refine PX.cond rfl rfl (λh=>?_) (λh=>?_);·refine PX.trim (Trim.of (l:=[(k0,obl [.lst 5 (f.ns.map nV) none,.lst 3 (f.rs.map rV) none] [])]) (nx:=k1) (L2:=jC b (c % 4) (p0::s)) [(k0,k0)] rfl Zl Ae ⟨⟨_,_,rfl,rfl,.same Yc⟩,Ae⟩ Yf) .nil ?_;refine PX.mono (Q':=_) (YV (t:=p0::s) pf hb Ac Aa (λv h=>by simp only[Af,Ah,AP] at h;rcases h with rfl|rfl<;>exact Ae) λt' ht'=>hend t' ht') λx L g I h=>?_;cases x<;>exact h
  ·refine Yp pf3 pf ?_;exact PX.trim (Em [(k0,obl [.lst 5 (f.ns.map nV) none,.lst 3 (f.rs.map rV) none] [])] k1 [(k0,k0)] ⟨⟨_,_,rfl,rfl,.same Yc⟩,Ae⟩ Yf) .nil (hend (p0::s) Aa)
theorem YX {P:Program} (pf:PF P Fn) (pfs:PF P E2.F0) (san:A3 E2.F0 5 [] (bA true)) {l:EF} (hb:∀b∈l,b<256) {c a d:Nat} (hc:c<256) (ha:a<256) (hd:d<256) :
  PXC P 3 [PA.lst 1 (uB l),.v (.s (.int .u8 (c:Nat))),.v (.s (.int .u8 (a:Nat))),.v (.s (.int .u8 (d:Nat)))] (mkH [] k0) λr _=>r=bA true:=by
 refine PXC.of pf (vf:=C.f3) rfl ?_;refine Yq pf3 pf ?_;refine PX.seq (PX.wp (F:=E2.F0) (pu:=pf3) pfs ?_);refine Yv1 ?_;refine PX.seq (PX.region (PXL.split 5 (pu:=pf3) pf ?_));refine⟨_,_,AbQ l _,?_⟩;refine Yv1 ?_;have hb':∀b∈l.take 15,b<256:=λb h=>hb b (Bq h);have hl:(l.take 15).length<=15:=by rw[Ba];omega
 have hlo:=TG pf Ye hb' hl (λb h=>?_) (λj h=>?_);rotate_left;·have e:((b:Int) / 3)=((b / 3:Nat):Int):=Aa;rw[e];exact XH Aa
 ·have e:(170+((j:Int) % 256*40) % 256) % 256=(((170+40*j) % 256:Nat):Int):=Aa;rw[e];exact XI j h
 generalize l.take 15=bs at hb' hl hlo;have w:=kT hl;have hcn:2<=Gp bs/\Gp bs<=4:=by unfold Gp;omega
 have R:XO (loose bs):=Ads hcn.1 hcn.2 rfl;generalize hf:loose bs=f at w hlo R;have h0:∀r∈f.rs,r.2.testBit 0=false:=λr hr=>by obtain⟨i,hi⟩:=BP.1 hr;rcases R.two i r hi with h|h<;>rw[h]<;>decide
 have A:Ans P f:=by
  cases hs:f.ns.all fmB;·exact UA pf w hs
  ·exact AbZ pf w hs h0 R
 refine PXL.call rfl (PXC.QB (R:=λr g'=>r=.tup [.agg (foC f),.s (.bool (f.ns.all fmB))]/\g'=mkH [] k0) (l:=[]) (nx:=k0) [] hlo rfl rfl Ae Ya ?_) ?_;·rintro rc gc' rfl;refine⟨[],k0,[],[],.tup [.agg (foC f),.s (.bool (f.ns.all fmB))],rfl,Rl,Ae,Ae,?_,⟨rfl,rfl⟩⟩;show A1 _ _ _;repeat' first|exact A1.nil|refine A1.cons rfl ?_|refine A1.cons (E9 _ _).rn ?_|refine A1.cons (A2.rn (by assumption)) ?_|refine A1.cons (show A1 _ _ _ by repeat' first|exact A1.nil|exact A2.cells (by assumption)|refine A1.cons rfl ?_|refine A1.cons (E9 _ _).rn ?_|refine A1.cons (A2.rn (by assumption)) ?_|fail) ?_|fail
 rintro r g' ⟨rfl,rfl⟩;refine Yv1 ?_;refine PXL.split 6 (pu:=pf3) pf ?_;refine PXL.nil ?_;refine Yq pf3 pf ?_;have hdd:((c:Int) % ((4:Nat):Int))=((c % 4:Nat):Int):=rfl;refine PX.trim (Trim.of (l:=[(k0,obl (foC f) [])]) (nx:=k1) (L2:=jF c a d (f.ns.all fmB)) [(k0,k0)] rfl Zl Ae ⟨⟨_,_,rfl,rfl,.same Yc⟩,Ae⟩ Yf) .nil ((JG pf w A hc ha hd).mono ?_);rintro x L g I h;cases x<;>exact h
end
section
attribute [local irreducible] PX PXL PXC
def pn3 (n:Nat):Bool:=Sp [6] n
theorem UD {P:Program} (pf:PF P Fn) (pfs:PF P E2.F0) (san:A3 E2.F0 5 [] (bA true)) {c a d:Nat} (hc:c<256) (ha:a<256) (hd:d<256) :
  PXC P 3 [.v (.s .A4),.v (.s (.int .u8 (c:Nat))),.v (.s (.int .u8 (a:Nat))),.v (.s (.int .u8 (d:Nat)))] (mkH [] k0) λr _=>r=bA true:=by have hn:A3 Fn 6 [.v (.s .A4)] (.tup [.agg (foC (loose [])),.s (.bool ((loose []).ns.all fmB))]):=ent E.AdJ;have w:=kT (l:=[]) Ab;have hs:(loose []).ns.all fmB=false:=Ab;generalize loose []=f at hn w hs;refine PXC.of pf (vf:=C.f3) rfl ?_;refine Yq pf3 pf ?_;refine PX.seq (PX.wp (F:=E2.F0) (pu:=pf3) pfs ?_);refine Yv1 ?_;refine Yq pn3 pf ?_;refine Yq pf3 pf ?_;refine PX.trim (Trim.of (l:=[(k0,obl (foC f) [])]) (nx:=k1) (L2:=jF c a d (f.ns.all fmB)) [(k0,k0)] rfl Zl Ae ⟨⟨_,_,rfl,rfl,.same Yc⟩,Ae⟩ Yf) .nil ((JG pf w (UA pf w hs) hc ha hd).mono ?_);rintro x L g I h;cases x<;>exact h
end
end Go.Pv
end
section
noncomputable section
namespace Go.Pv
open Go.Vm
open Go.Vm.Key (kn)
set_option maxRecDepth 40000
set_option maxHeartbeats 0
structure Lf (w w':World):Prop where
 os:w'.os=w.os
 output:w'.output=w.output
 size:w.heap.size<=w'.heap.size
 block:∀k,k<w.heap.size->w'.heap[k]?=w.heap[k]?
theorem lB {P:Program} {f:Nat} {args:Ez} {b:Bool} {nx:Key} (h:PXC P f args (mkH [] nx) λr _=>r=.v (.s (.bool b))) {Z:ZM} {hp:Heap} {φ:Emb} {w:World} {vs:EA} {us:List Value}
  (hg:Good ⟨Z,λ_=>none,mkH [] nx,hp⟩) (hc:Go.Vm.Clean hp) (hs:Sim φ hp.get hp.next.toNat w) (ho:∀k x,hp.get k=some x->x.own=false) (hv:A1 (AR Z λ_=>none) args vs) (hu:A1 (Gr φ) vs us) :
  Calls P f us.toArray w λe w'=>e=.returned (.bool b)/\Lf w w':=by
 refine Calls.mono ((h ⟨Z,λ_=>none,mkH [] nx,hp⟩ hg rfl vs hv).run hc φ w us hs hu) ?_;rintro e w' ⟨v',v,h',φ',rfl,_,he,_,_,ha,Z',p',r,g',_,_,hr,rfl⟩;have hv':v=.v (.s (.bool b)):=by
  cases v with
  |tup _=>exact absurd hr id
  |v x=>cases x with
   |agg _=>exact absurd hr id
   |s y=>have hr:A8 Z' (.bool b) y:=hr;cases hr;rfl
 subst hv';have ha:v'=.bool b:=ha;subst ha;refine⟨rfl,he.os.1,he.os.2,he.size,λk hk=>?_⟩;obtain⟨o,e⟩:∃o,w.heap[k]?=some o:=⟨w.heap[k],by simp[hk]⟩;rw[e];exact he.frame k o e λb x l h1 h2=>by rw[ho _ _ h1] at h2;cases h2
theorem lC {P:Program} {f:Nat} {args:Ez} {b:Bool} (h:PXC P f args (mkH [] C.k0) λr _=>r=.v (.s (.bool b))) {w:World} {vs:EA} {us:List Value}
  (hv:A1 (AR (λ_=>none) λ_=>none) args vs) (hu:A1 (Gr λ_=>none) vs us):Calls P f us.toArray w λe w'=>e=.returned (.bool b)/\Lf w w':=by
 refine lB (Z:=λ_=>none) (hp:=⟨.z,.h⟩) (φ:=λ_=>none) h ?_ ?_ ?_ ?_ hv hu
 ·refine⟨⟨λ_ _ _ h=>Ad,λk x h=>?_,λ_ _ h=>Ad,λ_ _ h=>Ad⟩,⟨λ_ _ h=>Ad,λ_ _ h=>Ad,λb _=>?_⟩⟩;·rw[Mo] at h;cases h
  ·exact Tr.sK b
 ·exact λb _=>⟨Tr.sK b,λc y hc=>by have:(Tr.z:Tr Blk).get c=some y:=hc;simp at this⟩
 ·exact⟨λ_ _ _ _ h=>Ad,λ_ _ _ _ _ _ _ h=>Ad,λ_ _=>rfl⟩
 ·exact λk x h=>by have:(Tr.z:Tr Blk).get k=some x:=h;simp at this
def hpL (l:EB):Heap:=⟨(Tr.z:Tr Blk).upd .h (some ⟨Body.ofList l,false,[]⟩),Key.h.succ⟩
theorem fD (l:EB) (k:Key):(hpL l).get k=if Key.h=k then some ⟨Body.ofList l,false,[]⟩ else none:=by show((Tr.z:Tr Blk).upd .h _).get k=_;rw[Tr.D1,Tr.sK]
theorem MV {P:Program} {f:Nat} {args:Ez} {b:Bool} (h:PXC P f args (mkH [] C.k0) λr _=>r=.v (.s (.bool b))) {w:World} {l:EB} {lo:Go.Vm.Loc} {vs:EA} {us:List Value}
  (hb:∃o,w.heap[lo.blk]?=some o/\Wl (λk=>if Key.h=k then some lo else none) lo false (Body.ofList l) o)
  (hv:A1 (AR (λk=>if Key.h=k then some (Body.ofList l) else none) λ_=>none) args vs) (hu:A1 (Gr λk=>if Key.h=k then some lo else none) vs us):Calls P f us.toArray w λe w'=>e=.returned (.bool b)/\Lf w w':=by
 have h1:(hpL l).next.toNat=1:=rfl;have h0:∀b:Key,1<=b.toNat->¬Key.h=b:=λb hb e=>by subst e;exact absurd hb Ab
 have hx:∀k x,(hpL l).get k=some x->Key.h=k/\x=⟨Body.ofList l,false,[]⟩:=λk x h=>by
  rw[fD] at h;split at h;·next e=>cases h;exact⟨e,rfl⟩
  ·cases h
 refine lB (Z:=λk=>if Key.h=k then some (Body.ofList l) else none) (hp:=hpL l) (φ:=λk=>if Key.h=k then some lo else none) h ?_ ?_ ?_ ?_ hv hu
 ·refine⟨⟨λ_ _ _ h=>Ad,λk x h=>?_,λb c h=>?_,λ_ _ h=>Ad⟩,⟨λ_ _ h=>Ad,λb c h=>?_,λb hb=>?_⟩⟩;·have h:(mkH [] C.k0).get k=some x:=h;rw[Mo] at h;cases h
  ·show ∃y,(hpL l).get b=some y/\_;rw[fD];have h:(if Key.h=b then some (Body.ofList l) else none)=some c:=h;split at h;·next e=>cases h;rw[Aj e];exact⟨_,rfl,rfl⟩
   ·cases h
  ·have h:(if Key.h=b then some (Body.ofList l) else none)=some c:=h;split at h;·next e=>subst e;exact(show(0:Nat)<1 by decide)
   ·cases h
  ·show(hpL l).get b=none;rw[fD,Ao (h0 b hb)]
 ·exact λb hb=>⟨by show(hpL l).get b=none;rw[fD,Ao (h0 b hb)],λc y hc=>by obtain⟨_,rfl⟩:=hx c y hc;simp⟩
 ·refine⟨λb x lo' h h'=>?_,λb x lo' b' x' lo'' h _ _ _ _ _ ho=>?_,λb hb=>Ao (h0 b hb)⟩;·obtain⟨e,rfl⟩:=hx b x h;rw[Aj e] at h';cases h';exact hb
  ·obtain⟨_,rfl⟩:=hx b x h;cases ho
 ·exact λk x h=>by obtain⟨_,rfl⟩:=hx k x h;rfl
section
open Go (bounds_u8 ints_at)
theorem qlst {Z:ZM} {p:Ren} {l:EF} {b:Key} {vcap:Option Nat} (hv:∀c,vcap=some c->l.length<=c) (hz:l≠[]->Z b=some (Body.ofList (l.map λn=>.int .u8 (n:Nat)))):AR Z p (PA.lst 1 (uB l)) (.v (.s (.slice b 0 l.length 1 vcap))):=by
 have hn:(uB l).length=l.length:=Ac;show A8 Z (.lst 1 (uB l) none) (.slice b 0 l.length 1 vcap);rw[<-hn];refine .lst (λi=>.int .u8 (l.getD i 0:Nat)) (.inl rfl) (λc h=>by rw[hn];exact hv c h) (λe he=>?_) (λh0=>?_) λi e j x he hx=>?_;·obtain⟨n,_,rfl⟩:=Aw.1 he;rfl
 ·have h1:l≠[]:=λe=>by subst e;exact h0 rfl
  refine⟨_,_,hz h1,?_,λt ht=>?_⟩;·simp
  ·have ht':t<l.length:=by simpa using ht
   rw[AO,Xg _ _ (by simpa using ht'),List.getElem_map];show _=some (SV.int .u8 (l.getD t 0:Nat));rw[AM,Gg ht',Di]
 ·rw[AD] at he;obtain⟨n,hn',rfl⟩:=BD.1 he;cases j with
  |succ j=>simp at hx
  |zero=>simp only[Bb,Sj] at hx;subst hx;rw[CS,BI,AM,hn',Di];exact .int ..
theorem walkG {P:Program} (pf:PF P Fn) (pfs:PF P E2.F0) (san:A3 E2.F0 5 [] (bA true)) (a0:Option Addr) (len0 cap0:Nat) (z0:List Int) (a1 a2 a3:Int) (w:World)
  (w0:(a0=none/\len0=0/\cap0=0/\z0=[])∨∃x,a0=some x/\len0<=cap0/\cap0<=maxLen/\z0.length=cap0/\(∀i,i<z0.length->w.cell? (x.add i)=some (.int .u8 (z0.getD i 0)))/\∀n∈z0,(Lit.int .u8 n).wf=true)
  (w1:(Lit.int .u8 a1).wf=true) (w2:(Lit.int .u8 a2).wf=true) (w3:(Lit.int .u8 a3).wf=true) :
  Calls P 3 #[.slice a0 len0 cap0,.int .u8 a1,.int .u8 a2,.int .u8 a3] w λe w'=>e=.returned (.bool true)/\Lf w w':=by
 have b1:=bounds_u8 w1;have b2:=bounds_u8 w2;have b3:=bounds_u8 w3;obtain⟨c,rfl⟩:=Cs b1.1;obtain⟨a,rfl⟩:=Cs b2.1;obtain⟨d,rfl⟩:=Cs b3.1;have hc:c<256:=Aa;have ha:a<256:=Aa;have hd:d<256:=Aa;rcases w0 with⟨rfl,rfl,rfl,rfl⟩|⟨x,rfl,hl,hm,hz,hcell,hwz⟩
 ·exact lC (UD pf pfs san hc ha hd) (vs:=[.v (.s .A4),.v (.s (.int .u8 (c:Nat))),.v (.s (.int .u8 (a:Nat))),.v (.s (.int .u8 (d:Nat)))]) (us:=[.slice none 0 0,.int .u8 (c:Nat),.int .u8 (a:Nat),.int .u8 (d:Nat)]) (.cons .A4 (.cons (.int ..) (.cons (.int ..) (.cons (.int ..) .nil)))) (.cons rfl (.cons rfl (.cons rfl (.cons rfl .nil))))
 ·obtain⟨l,hl1,hl2⟩:∃l:EF,z0.take len0=l.map (λn:Nat=>(n:Int))/\∀b∈l,b<256:=by
   refine⟨(z0.take len0).map Int.toNat,?_,λb hb=>?_⟩
   ·rw[DB];conv=>lhs;rw[<-List.map_id (z0.take len0)]
    refine List.map_congr_left λn hn=>?_;have:=bounds_u8 (hwz n (Bq hn));show n=((n.toNat:Nat):Int);omega
   ·obtain⟨n,hn,rfl⟩:=Aw.1 hb;have:=bounds_u8 (hwz n (Bq hn));omega
  have hln:l.length=len0:=by have:=Bh List.length hl1;simp only[Ba,Lm] at this;omega
  subst hln;have hlaw:=YX pf pfs san hl2 hc ha hd;have hu:∀φ:Emb,Fx φ (.slice .h 0 l.length 1 (some cap0)) (.slice (some x) l.length cap0)->A1 (Gr φ) [.v (.s (.slice .h 0 l.length 1 (some cap0))),.v (.s (.int .u8 (c:Nat))),.v (.s (.int .u8 (a:Nat))),.v (.s (.int .u8 (d:Nat)))] [.slice (some x) l.length cap0,.int .u8 (c:Nat),.int .u8 (a:Nat),.int .u8 (d:Nat)]:=λφ h=>.cons h (.cons rfl (.cons rfl (.cons rfl .nil)));have hv:∀Z:ZM,(l≠[]->Z .h=some (Body.ofList (l.map λn=>.int .u8 (n:Nat))))->A1 (AR Z λ_=>none) [PA.lst 1 (uB l),.v (.s (.int .u8 (c:Nat))),.v (.s (.int .u8 (a:Nat))),.v (.s (.int .u8 (d:Nat)))] [.v (.s (.slice .h 0 l.length 1 (some cap0))),.v (.s (.int .u8 (c:Nat))),.v (.s (.int .u8 (a:Nat))),.v (.s (.int .u8 (d:Nat)))]:=λZ h=>
   .cons (qlst (λc h=>by cases h;omega) h) (.cons (.int ..) (.cons (.int ..) (.cons (.int ..) .nil)))
  rcases Nat.eq_zero_or_pos cap0 with h0|h0;·subst h0;have he:l=[]:=Bm.1 Aa;exact lC hlaw (hv _ λh=>absurd he h) (hu _ ⟨x,0,rfl,hl,λk h=>by cases h;rfl,.inl rfl⟩)
  ·obtain⟨blk,off,rfl,hc2⟩:=ints_at hcell Aa;have arr:∃(cs:Array Value) (e:TypeId) (fr:Nat×Nat),w.heap[blk]?=some (.cells cs e fr)/\∀j,j<z0.length->cs[off+j]?=some (.int .u8 (z0.getD j 0)):=by
    have h:=hc2 0 Aa;unfold World.cell? at h;split at h
    ·next cs e fr hh=>
     refine⟨cs,e,fr,hh,λj hj=>?_⟩;have h:=hc2 j hj;unfold World.cell? at h;rw[hh] at h;exact h
    ·cases h
   obtain⟨cs,e,fr,hh,hcs⟩:=arr;have hsz:off+cap0<=cs.size:=by have:=(AE.1 (hcs (cap0-1) Aa)).1;omega
   refine MV (lo:=⟨blk,off,cs.size⟩) (l:=l.map λn=>.int .u8 (n:Nat)) hlaw ⟨_,hh,cs,e,fr,rfl,rfl,?_,λh=>Ad,λi hi=>?_⟩ (hv _ λ_=>Aj rfl) (hu _ ⟨_,cap0,rfl,hl,λk h=>by cases h;rfl,.inr ⟨_,Aj rfl,by rw[AO],λh=>Ad⟩⟩);·rw[Lm];show off+l.length<=cs.size;omega
   ·have hi':i<l.length:=by simpa using hi
    refine⟨_,_,Xg _ _ hi,hcs i Aa,?_⟩;have hz2:z0.getD i 0=((l[i]:Nat):Int):=by have:=Bh (λq=>q[i]?) hl1;simp only[AT,AD] at this;rw[Aj Aa,Gg hi',AK] at this;rw[AM,this,Di]
    rw[hz2,List.getElem_map];exact rfl
end
end Go.Pv
end
section
noncomputable section
namespace Go.Vm
open Key (kn)
section
set_option linter.unusedVariables false
set_option linter.unusedSimpArgs false
open Go.Proofs Go.RowKit
theorem JH {P:Program} {w:World} {st e ty:TypeId} {es:Nat} (hst:P.underlying st=some (.slice e)) (hes:Gv P e=some es) {b o dLen dCap:Nat} {a:Addr} {sLen sCap k:Nat} (hk:k=min sLen dLen) {cs:List Value} (hl:cs.length=k*es)
  (hc:∀j v,cs[j]?=some v->w.cell? (a.add j)=some v) {arr:Array Value} {t:TypeId} (hw:w.heap[b]?=some (.cells arr t (0,0))) (hfit:o+cs.length<=arr.size) (h1:∀v∈cs,v.oneCell'=true) :
  (Builtin.copy_ #[st,st] ty #[.slice (some ⟨b,o,none⟩) dLen dCap,.slice (some a) sLen sCap]).run P w=.ok (goInt k) (w.setRow b (over arr o cs)):=by have hf:(Builtin.firstCells es k (.slice (some a) sLen sCap)).run P w=.ok cs.toArray w:=run_firstCells_some (P:=P) w es k a sLen sCap cs hl hc;have hst':=run_storeCells_at P b o t cs 0 arr w hw (by simpa using hfit) h1;simp only[Nat.add_zero] at hst';have hst2:(storeCells ⟨b,o,none⟩ cs).run P w=.ok () (w.setRow b (over arr o cs)):=hst';have hmin:Nat.min sLen dLen=k:=hk.symm;simp[Builtin.copy_,run_underlying hst,Builtin.lenOf,hmin,run_sizeOf hes,hf,hst2]
theorem aL (w:World) (b:Nat) (x y:Array Value) {arr:Array Value} {t:TypeId} {fr:Nat×Nat} (hw:w.heap[b]?=some (.cells arr t fr)):(w.setRow b x).setRow b y=w.setRow b y:=by
 unfold World.setRow;congr 1;apply Array.ext_getElem?;intro j;by_cases hj:j=b;·subst hj;simp[Array.getElem?_modify,hw]
 ·simp[Array.getElem?_modify,Ne.symm hj]
theorem dQ {w:World} {b:Nat} {arr:Array Value} {t:TypeId} {fr:Nat×Nat} (hw:w.heap[b]?=some (.cells arr t fr)) (j:Nat):w.cell? ⟨b,j,none⟩=arr[j]?:=by simp[World.cell?,hw]
set_option maxHeartbeats 4000000 in
set_option maxRecDepth 100000 in
theorem Acg (b off n c i vb voff vc:Nat) (vs:List Value) (w:World) (hi:i<n) (hroom:n+1<=c) (hn:n<=1000) (hvb:vb≠b) {arr:Array Value} {t:TypeId} (hw:w.heap[b]?=some (.cells arr t (0,0))) (hc:off+c*3<=arr.size)
  (h1a:∀v∈(arr.toList.drop (off+i*3)).take ((n-i)*3),v.oneCell'=true) (hvl:vs.length=3) (hvs:∀j v,vs[j]?=some v->w.cell? ⟨vb,voff+j,none⟩=some v) (h1v:∀v∈vs,v.oneCell'=true)
  (tA:TypeId) (kA:Nat) (hsa:w.shape? vb=some (tA,kA)) (hsb:w.shape? b=some (t,arr.size)) (hfa:w.frozen? ⟨vb,voff,none⟩=false) (hfe:w.frozen? ⟨vb,kA,none⟩=false) :
  Calls Tryz.prog 40 #[.slice (some ⟨b,off,none⟩) n c,.int .i64 i,.slice (some ⟨vb,voff,none⟩) 1 vc] w λe w'=>
   e=.returned (.slice (some ⟨b,off,none⟩) (n+1) c)/\w'=(w.setRow b (over arr (off+i*3) (vs++(arr.toList.drop (off+i*3)).take ((n-i)*3)))).drew:=by
 have hz2:¬((i:Int)=(n:Int)):=Aa;have hz3:¬((c:Int)<(n:Int)+1):=Aa;have hw1:IntKind.i64.wrap ((i:Int)+1)=(i:Int)+1:=by rw[IntKind.wrap_i64];omega
 have hw2:IntKind.i64.wrap ((n:Int)+1)=(n:Int)+1:=by rw[IntKind.wrap_i64];omega
 have hu:Tryz.prog.underlying 37=some (.slice 101):=by kernel_rfl
 have hs:Gv Tryz.prog 101=some 3:=by kernel_rfl
 have hsz:∀w:World,(sizeOf 101).run Tryz.prog w=.ok 3 w:=λw=>run_sizeOf hs;have hk0:arr.size≠0:=Aa;have hov:∀lb cb,(callFunc 101 #[.slice (some ⟨vb,voff,none⟩) 1 vc,.slice (some ⟨b,off+(i+1)*3,none⟩) lb cb]).run Tryz.prog w=.ok (.value (.bool false)) w:=λlb cb=>by
  rw[run_callFunc_extern Tryz.func101 (by kernel_rfl) (by kernel_rfl) (by kernel_rfl) (e:=Extern.SlicesOverlaps.overlaps #[37,37] #[4]) (by kernel_rfl),
   Lib.run_overlaps_apart w 37 4 101 hu 3 hsz ⟨vb,voff,none⟩ ⟨b,off+(i+1)*3,none⟩ 1 vc lb cb hvb tA t kA arr.size hsa hsb hk0 hfa hfe]
  rfl
 obtain⟨cs,hcs⟩:∃cs,cs=(arr.toList.drop (off+i*3)).take ((n-i)*3):=⟨_,rfl⟩;have hcl:cs.length=(n-i)*3:=by rw[hcs,List.length_take,List.length_drop,Array.length_toList];omega
 have hcg:∀j v,cs[j]?=some v->arr[off+i*3+j]?=some v:=λj v hj=>by
  rw[hcs,List.getElem?_take] at hj;split at hj;·rw[List.getElem?_drop] at hj;rw[<-Array.getElem?_toList];exact hj
  ·cases hj
 have h1c:∀v∈cs,v.oneCell'=true:=λv hv=>h1a v (by rw[<-hcs];exact hv);have hcp1:∀ty dc sc,(Builtin.copy_ #[37,37] ty #[.slice (some ⟨b,off+(i+1)*3,none⟩) (n-i) dc,.slice (some ⟨b,off+i*3,none⟩) (n+1-i) sc]).run Tryz.prog w.drew=.ok (goInt ((n-i:Nat):Int)) (w.drew.setRow b (over arr (off+(i+1)*3) cs)):=λty dc sc=>
  JH hu hs Aa hcl (λj v hj=>by rw[Addr.add_lit];exact(dQ (w:=w.drew) hw _).trans (hcg j v hj)) (w:=w.drew) hw Aa h1c
 obtain⟨W1,hW1⟩:∃W1,W1=w.drew.setRow b (over arr (off+(i+1)*3) cs):=⟨_,rfl⟩;have hov1:=Ks arr (off+(i+1)*3) cs Aa;have hW1h:W1.heap[b]?=some (.cells (over arr (off+(i+1)*3) cs) t (0,0)):=by rw[hW1];exact setRow_heap w.drew b arr _ t (0,0) hw
 have hW1v:∀j,W1.cell? ⟨vb,j,none⟩=w.cell? ⟨vb,j,none⟩:=λj=>by rw[hW1];simp only[World.cell?];rw[setRow_other w.drew b vb _ hvb];rfl
 have hcp2:∀ty dc,(Builtin.copy_ #[37,37] ty #[.slice (some ⟨b,off+i*3,none⟩) (n+1-i) dc,.slice (some ⟨vb,voff,none⟩) 1 vc]).run Tryz.prog W1=.ok (goInt ((1:Nat):Int)) (W1.setRow b (over (over arr (off+(i+1)*3) cs) (off+i*3) vs)):=λty dc=>
  JH hu hs Aa Aa (λj v hj=>by rw[Addr.add_lit,hW1v];exact hvs j v hj) hW1h Aa h1v
 have hfin:over (over arr (off+(i+1)*3) cs) (off+i*3) vs=over arr (off+i*3) (vs++cs):=by
  apply Array.ext';have hq:off+(i+1)*3<=arr.toList.length:=by rw[Array.length_toList];omega
  have e1:off+i*3+vs.length=(arr.toList.take (off+(i+1)*3)).length:=by rw[List.length_take];omega
  simp only[over];rw[List.append_assoc (arr.toList.take (off+(i+1)*3)),List.take_append_of_le_length (by rw[List.length_take];omega),List.take_take,Nat.min_eq_left Aa,e1,List.drop_left,List.append_assoc,List.append_assoc,List.append_assoc,La,show off+i*3+(vs.length+cs.length)=off+(i+1)*3+cs.length from Aa]
 have hE:W1.setRow b (over (over arr (off+(i+1)*3) cs) (off+i*3) vs)=(w.setRow b (over arr (off+i*3) (vs++cs))).drew:=by rw[hfin,hW1,aL w.drew b _ _ hw];rfl
 rw[<-hW1] at hcp1;rw[<-hcs,<-hE];clear hE hfin hW1 hcs hW1v hcg hcl h1c hov1;have mixed:Tryz.prog.follows .mixedOrders=true:=by kernel_rfl
 have hb1:(0:Int)<=(i:Int)+1:=Aa;have hin:i<=n:=Aa;have htn:((i:Int)+1).toNat=i+1:=Aa;have hb2:¬(c=i+1):=Aa;have hb3:(i:Int)<=(n:Int)+1:=Aa;have hb4:¬(c=i):=Aa;go_enter Tryz.func40,Tryz.ntmps40;go_wp2_with (simp only[hov]);go_region_law_o (refine step_copy_runI rfl _ _ 37 37 rfl _ _ (by simp[Act.eval,Act.put]) (by simp[Act.eval,Act.put]) (hcp1 _ _ _) ?_);go_wp2_with (simp only[hcp2,Result.andThen_ok]);go_ret;exact⟨rfl,rfl⟩
set_option maxHeartbeats 4000000 in
set_option maxRecDepth 100000 in
theorem YY (b off n c i vb voff vc:Nat) (pre cs vs:List Value) (w:World) (hi:i<n) (hnc:n<=c) (hroom:c<n+1) (hn:n<=1000) (hvb:vb≠b) (hbw:b<w.heap.size) (hvw:vb<w.heap.size)
  (hpl:pre.length=i*3) (hcl:cs.length=(n-i)*3) (hps:∀j v,pre[j]?=some v->w.cell? ⟨b,off+j,none⟩=some v) (hcs:∀j v,cs[j]?=some v->w.cell? ⟨b,off+i*3+j,none⟩=some v) (h1c:∀v∈cs,v.oneCell'=true)
  (hvl:vs.length=3) (hvs:∀j v,vs[j]?=some v->w.cell? ⟨vb,voff+j,none⟩=some v) (h1v:∀v∈vs,v.oneCell'=true) :
  Calls Tryz.prog 40 #[.slice (some ⟨b,off,none⟩) n c,.int .i64 i,.slice (some ⟨vb,voff,none⟩) 1 vc] w λe w'=>
   ∃G rest,e=.returned (.slice (some ⟨w.heap.size,0,none⟩) (n+1) G)/\n+1<=G/\rest.length=(G-(n+1))*3/\w'.heap=w.heap.push (.cells (pre++(vs++cs)++rest).toArray 101 (0,0))/\w'.os=w.os/\w'.output=w.output:=by
 have hz2:¬((i:Int)=(n:Int)):=Aa;have hz3:(c:Int)<(n:Int)+1:=Aa;have hw1:IntKind.i64.wrap ((i:Int)+1)=(i:Int)+1:=by rw[IntKind.wrap_i64];omega
 have hw2:IntKind.i64.wrap ((n:Int)+1)=(n:Int)+1:=by rw[IntKind.wrap_i64];omega
 have hu:Tryz.prog.underlying 37=some (.slice 101):=by kernel_rfl
 have hu3:Tryz.prog.underlying 3=some (.int .i64):=by kernel_rfl
 have hs:Gv Tryz.prog 101=some 3:=by kernel_rfl
 have hby:Ty Tryz.prog 101=some 56:=by kernel_rfl
 have hzz:Ly Tryz.prog 101=some [.A4,.A4,.int .i64 0]:=by kernel_rfl
 obtain⟨i0,zv,hi0,hz0,hzr⟩:=Nn (φ:=λ_=>none) hzz;have hzs:i0.size=3:=by obtain⟨i',hi',h2⟩:=Oc hs;rw[hi0] at hi';cases hi';exact h2
 have hzb:i0.bytes=56:=by obtain⟨i',hi',h2⟩:=T3 hby;rw[hi0] at hi';cases hi';exact h2
 have hzl:=λk=>Ws (φ:=λ_=>none) hzr k;have hkk:(n:Int)+1-(i:Int)=((n+1-i:Nat):Int):=Aa;have hik:i+(n+1-i)=n+1:=Aa;have hold:(Builtin.firstCells i0.size i (.slice (some ⟨b,off,none⟩) i c)).run Tryz.prog w.drew=.ok pre.toArray w.drew:=by rw[hzs];exact run_firstCells_some w.drew 3 i ⟨b,off,none⟩ i c pre hpl (λj v hj=>by rw[Addr.add_lit];exact hps j v hj)
 have hrz:∀ty,(Builtin.append_ #[37,3] ty #[.slice (some ⟨b,off,none⟩) i c,.int .i64 ((n:Int)+1-(i:Int))]).run Tryz.prog w =
   .ok (.slice (some ⟨w.heap.size,0,none⟩) (n+1) (grownCap w (n+1) c 101)) (w.drew.alloc (.cells (pre.toArray++Builtin.zeroCells zv.cells (n+1-i)++Builtin.zeroCells zv.cells (grownCap w (n+1) c 101-(n+1))) 101)):=λty=>by
  have h:=Lib.run_append_grow_zeros w 37 3 ty 101 i0 _ .i64 .i64 hu hu3 hi0 hz0 (some ⟨b,off,none⟩) i c pre hold (n+1-i) Aa Aa Aa Aa (by rw[hzb];omega) (by rw[hzb,hik];exact growslice_fits hroom Aa)
  rw[hik] at h
  rw[hkk]
  exact h
 have hGn:n+1<=grownCap w (n+1) c 101:=grownCap_ge w _ _ _;have hG63:grownCap w (n+1) c 101<=9223372036854775807:=by have:=grownCap_le_maxLen w (n+1) c 101 (by unfold maxLen;omega);unfold maxLen at this;omega
 generalize grownCap w (n+1) c 101=G at hrz hGn hG63;obtain⟨ROW,hROW⟩:∃ROW:Array Value,ROW=pre.toArray++Builtin.zeroCells zv.cells (n+1-i)++Builtin.zeroCells zv.cells (G-(n+1)):=⟨_,rfl⟩;rw[<-hROW] at hrz;have hRl:ROW.size=G*3:=by rw[hROW,Array.size_append,Array.size_append,hzl,hzl];simp only[List.size_toArray,List.length_cons,List.length_nil];omega
 obtain⟨N,hN⟩:∃N,N=w.heap.size:=⟨_,rfl⟩;rw[<-hN] at hrz hbw hvw;obtain⟨W1,hW1⟩:∃W1,W1=w.drew.alloc (.cells ROW 101):=⟨_,rfl⟩;have hW1n:W1.heap=w.heap.push (.cells ROW 101 (0,0)):=by rw[hW1];rfl
 have hW1h:W1.heap[N]?=some (.cells ROW 101 (0,0)):=by rw[hW1n,hN];simp
 have old:∀k j,k<N->W1.cell? ⟨k,j,none⟩=w.cell? ⟨k,j,none⟩:=λk j hk=>by simp only[World.cell?];rw[hW1n,Array.getElem?_push,if_neg Aa]
 have hcpA:∀ty dc,(Builtin.copy_ #[37,37] ty #[.slice (some ⟨N,i*3,none⟩) (n+1-i) dc,.slice (some ⟨vb,voff,none⟩) 1 vc]).run Tryz.prog W1=.ok (goInt ((1:Nat):Int)) (W1.setRow N (over ROW (i*3) vs)):=λty dc=>
  JH hu hs Aa Aa (λj v hj=>by rw[Addr.add_lit,old _ _ hvw];exact hvs j v hj) hW1h Aa h1v
 have hov1:=Ks ROW (i*3) vs Aa;obtain⟨W2,hW2⟩:∃W2,W2=W1.setRow N (over ROW (i*3) vs):=⟨_,rfl⟩;have hW2h:W2.heap[N]?=some (.cells (over ROW (i*3) vs) 101 (0,0)):=by rw[hW2];exact setRow_heap W1 N ROW _ 101 (0,0) hW1h
 have hcpB:∀ty dc sc,(Builtin.copy_ #[37,37] ty #[.slice (some ⟨N,(i+1)*3,none⟩) (n-i) dc,.slice (some ⟨b,off+i*3,none⟩) (n-i) sc]).run Tryz.prog W2.drew=.ok (goInt ((n-i:Nat):Int)) (W2.drew.setRow N (over (over ROW (i*3) vs) ((i+1)*3) cs)):=λty dc sc=>
  JH hu hs Aa hcl (λj v hj=>by
   rw[Addr.add_lit]
   have:W2.drew.cell? ⟨b,off+i*3+j,none⟩=W1.cell? ⟨b,off+i*3+j,none⟩:=by
    rw[hW2]
    simp only[World.cell?]
    rw[show(W1.setRow N (over ROW (i*3) vs)).drew.heap[b]?=(W1.setRow N (over ROW (i*3) vs)).heap[b]? from rfl,setRow_other W1 N b _ Aa]
   rw[this,old _ _ hbw];exact hcs j v hj) (w:=W2.drew) hW2h Aa h1c
 have hfin:over (over ROW (i*3) vs) ((i+1)*3) cs=(pre++(vs++cs)++ROW.toList.drop ((n+1)*3)).toArray:=by
  apply Array.ext';have hpt:ROW.toList.take (i*3)=pre:=by rw[hROW];simp only[Array.toList_append,List.append_assoc];rw[<-hpl,List.take_left]
  have e1:(i+1)*3=(pre++vs).length:=by rw[La];omega
  simp only[over];have e2:((pre++vs)++ROW.toList.drop (i*3+vs.length)).drop ((pre++vs).length+cs.length)=ROW.toList.drop ((n+1)*3):=by rw[<-List.drop_drop,List.drop_left,List.drop_drop];congr 1;omega
  rw[hpt,e1,e2,List.take_left];simp only[List.append_assoc]
 have hE:(W2.drew.setRow N (over (over ROW (i*3) vs) ((i+1)*3) cs)).heap=w.heap.push (.cells (pre++(vs++cs)++ROW.toList.drop ((n+1)*3)).toArray 101 (0,0)):=by
  rw[hfin];generalize (pre++(vs++cs)++ROW.toList.drop ((n+1)*3)).toArray=F;rw[hW2,show(W1.setRow N (over ROW (i*3) vs)).drew.setRow N F=((W1.setRow N (over ROW (i*3) vs)).setRow N F).drew from rfl,aL W1 N _ _ hW1h];show(W1.setRow N F).heap=_;apply Array.ext_getElem?;intro j;by_cases hj:j=N;·subst hj;rw[setRow_heap W1 j ROW _ 101 (0,0) hW1h,hN];simp
  ·rw[setRow_other W1 N j _ hj,hW1n,Array.getElem?_push,Array.getElem?_push];simp[<-hN,hj]
 have hEo:(W2.drew.setRow N (over (over ROW (i*3) vs) ((i+1)*3) cs)).os=w.os/\(W2.drew.setRow N (over (over ROW (i*3) vs) ((i+1)*3) cs)).output=w.output:=by rw[hW2,hW1];exact⟨rfl,rfl⟩
 have hrl:(ROW.toList.drop ((n+1)*3)).length=(G-(n+1))*3:=by rw[List.length_drop,Array.length_toList];omega
 rw[<-hW1] at hrz;rw[<-hW2] at hcpA;have mixed:Tryz.prog.follows .mixedOrders=true:=by kernel_rfl
 have hb1:(0:Int)<=(i:Int)+1:=Aa;have hin:i<=n:=Aa;have htn:((i:Int)+1).toNat=i+1:=Aa;have hb2:¬(c=i):=Aa;have hb3:(i:Int)<=(n:Int):=Aa;have hb4:¬(G=i):=Aa;have hb5:¬(G=i+1):=Aa;clear hW1 hW2 hROW hfin hov1 hkk hik hold hzl hzz hzr hi0 hz0 hRl hW1n hW1h hW2h old;suffices hh:Calls Tryz.prog 40 #[.slice (some ⟨b,off,none⟩) n c,.int .i64 i,.slice (some ⟨vb,voff,none⟩) 1 vc] w λe w'=>e=.returned (.slice (some ⟨N,0,none⟩) (n+1) G)/\w'=W2.drew.setRow N (over (over ROW (i*3) vs) ((i+1)*3) cs) from
  Calls.mono hh λe w' he=>⟨G,_,by rw[<-hN];exact he.1,hGn,hrl,by rw[he.2];exact hE,by rw[he.2];exact hEo.1,by rw[he.2];exact hEo.2⟩
 clear hE hEo hrl hN;go_enter Tryz.func40,Tryz.ntmps40;go_wp2_with (first
  |(at_builtin;refine Lib.wpList_append_run _ rfl _ _ _ _ rfl _ _ rfl rfl _ _ (hrz _) ?_)
  |simp only[hcpA,Result.andThen_ok])
 go_region_law_o (refine step_copy_runI rfl _ _ 37 37 rfl _ _ (by simp[Act.eval,Act.put]) (by simp[Act.eval,Act.put]) (hcpB _ _ _) ?_);go_wp2;go_ret;exact⟨rfl,rfl⟩
end
section
set_option linter.unusedVariables false
open Go.Proofs Go.RowKit
theorem lD {w:World} {b:Nat} {arr:Array Value} {t:TypeId} (hw:w.heap[b]?=some (.cells arr t (0,0))) (j:Nat):w.frozen? ⟨b,j,none⟩=false:=by simp[World.frozen?,hw]
theorem xG {w:World} {b:Nat} {arr:Array Value} {t:TypeId} {fr:Nat×Nat} (hw:w.heap[b]?=some (.cells arr t fr)):w.shape? b=some (t,arr.size):=by simp[World.shape?,hw]
theorem Ach {h h':Heap} {b b2:Key} {n i:Nat} {cap2:Option Nat} {vls tl:EB} {c c2:Tr SV} {m m2:Nat} {anc anc2:ED} (hg:h.get b=some ⟨.cells c m,true,anc⟩) (hg2:h.get b2=some ⟨.cells c2 m2,true,anc2⟩) (hne:b≠b2)
  (hr2:h.read b2 0 3=some vls) (hrt:h.read b (i*3) ((n-i)*3)=some tl) (hgr:h.grow b 0 (i*3) (vls++tl)=some (h.next,h')) (hi:i<n) (hn:n<=1000) :
  MC Tryz.prog 40 [.v (.s (.slice b 0 n 3 none)),.v (.s (.int .i64 (i:Nat))),.v (.s (.slice b2 0 1 3 cap2))] h λu h1=>u=.v (.s (.slice h.next 0 (n+1) 3 none))/\h1=h':=by
 refine⟨⟨_,Tryz.func40,by kernel_rfl,by kernel_rfl⟩,λhcl φ w us s ha=>?_⟩;obtain⟨_,_,_,body,anc',g1,hg',_,_,hnx,hget,hg1⟩:=Vr hgr;have hgone:Qn h h':=λk hk hk0=>by
  rw[hget];have hne1:h.next≠k:=by rintro rfl;omega
  simp only[hne1,Ag];rcases hg1 with⟨_,_,rfl⟩|⟨_,_,rfl⟩
  ·have:b≠k:=by rintro rfl;rw[hg] at hk0;cases hk0
   simp only[this,Ag];exact hk0
  ·simp only;split;·rfl
   ·exact hk0
 have hcl':Clean h':=λk hk=>(Sb hgr).2 k hk (hcl k (by have:=(Sb hgr).1;omega));have hnx1:h'.next.toNat=h.next.toNat+1:=by rw[hnx];exact Key.toNat_succ _
 have hfr:φ h.next=none:=s.fresh _ Rl;obtain _|⟨h0,ha⟩:=ha
 obtain _|⟨h1,ha⟩:=ha;obtain _|⟨h2,ha⟩:=ha;cases ha;obtain⟨a,C,rfl,hnC,_,hloc⟩:=h0;obtain⟨a2,C2,rfl,hnC2,_,hloc2⟩:=h2;have h1:_=Value.int .i64 (i:Nat):=h1;subst h1;obtain⟨l,hφ,rfl,htot⟩:=hloc.resolve_left Aa;obtain⟨l2,hφ2,rfl,_⟩:=hloc2.resolve_left Aa;replace htot:=htot rfl;obtain⟨_,hw,arr,t,fr,rfl,hs,hm,hfr0,hcell⟩:=s.blk b _ l hg hφ;cases hfr0 rfl;obtain⟨_,hw2,NF,t2,fr2,rfl,hs2,hm2,hfr2,hcell2⟩:=s.blk b2 _ l2 hg2 hφ2;cases hfr2 rfl;have hvb:l2.blk≠l.blk:=λe=>by have:=(s.sep b _ l b2 _ l2 hg hφ hg2 hφ2 e.symm hne rfl).2.2;cases this
 obtain⟨hvl0,vs,hvr,hvs⟩:=s.read hφ2 hr2;obtain⟨htl0,cs,hcr,hcs⟩:=s.read hφ hrt;have hvl:vs.length=3:=by rw[<-A5 hvr,hvl0]
 have hcl2:cs.length=(n-i)*3:=by rw[<-A5 hcr,htl0]
 have hrel:A1 (Fx φ) (vls++tl) (vs++cs):=D0 hvr hcr;have hlv:vls.length=3:=hvl0;have hvs2:∀j v,vs[j]?=some v->w.cell? ⟨l2.blk,0+l2.off+j,none⟩=some v:=λj v hj=>by rw[<-Addr.add_lit];exact hvs j v hj
 by_cases hroom:n+1<=C
 ·have hce:cs=(arr.toList.drop (0+l.off+i*3)).take ((n-i)*3):=by
   apply Cv;intro j;rw[AT,BF];by_cases hj:j<(n-i)*3;·rw[Aj hj];refine Eq.trans ?_ (DC (xs:=arr)).symm;have hx:cs[j]?=some cs[j]:=Gg Aa;have:=hcs j _ hx;rw[Addr.add_lit,dQ hw] at this;rw[hx,<-this];congr 1;omega
   ·rw[Ao hj];exact AJ Aa
  have hh:=Acg l.blk (0+l.off) n C i l2.blk (0+l2.off) C2 vs w hi hroom hn hvb hw Aa (by rw[<-hce];exact Pe hcr) hvl hvs2 (Pe hvr) t2 NF.size (xG hw2) (xG hw) (lD hw2 _) (lD hw2 _);rw[<-hce] at hh;obtain⟨_,_,arr',t',e1,e2,g4,g5⟩:=s.FZ (nx':=h'.next.toNat) hfr Aa Aa hgr hφ hrel (by rw[La];omega);rw[hw] at e1;cases e1;refine Calls.mono hh ?_;rintro e w' ⟨rfl,rfl⟩;refine⟨_,_,h',_,rfl,g4.congr (w':=(w.setRow l.blk _).drew) rfl,(by rw[hnx1];exact g5.trans (Ext.of_heap rfl ⟨rfl,rfl⟩)),hcl',hgone,?_,rfl,rfl⟩;exact⟨_,C,rfl,hroom,Ac,.inr ⟨_,Emb.D6 _ _ _,Ac,λ_=>by simp;omega⟩⟩
 ·obtain⟨_,_,olds,hol,hoc,hK⟩:=s.sW (nx':=h'.next.toNat) hfr Aa Aa hgr (.inr hφ) hrel;have hh:=YY l.blk (0+l.off) n C i l2.blk (0+l2.off) C2 olds cs vs w hi hnC Aa hn hvb (s.lt hg hφ) (s.lt hg2 hφ2) hol hcl2 (λj v hj=>by rw[<-Addr.add_lit];exact hoc j v hj) (λj v hj=>by
   have:=hcs j v hj
   rw[Addr.add_lit] at this
   rw[<-this];congr 2;omega) (Pe hcr) hvl hvs2 (Pe hvr)
  refine Calls.mono hh ?_;rintro e w' ⟨G,rest,rfl,hG,hrl,hw',ho⟩;obtain⟨k1,k2⟩:=hK w' rest 101 hw' ho;refine⟨_,_,h',_,rfl,k1,(by rw[hnx1];exact k2),hcl',hgone,?_,rfl,rfl⟩;exact⟨_,G,rfl,hG,Ac,.inr ⟨_,Emb.D6 _ _ _,Ac,λ_=>by simp only[La];omega⟩⟩
set_option maxHeartbeats 4000000 in
set_option maxRecDepth 100000 in
theorem UE (a a2:Addr) (n C C2:Nat) (v':Value) (w w':World) (hrun:(Builtin.append_ #[37,37] 37 #[.slice (some a) n C,.slice (some a2) 1 C2]).run Tryz.prog w=.ok v' w') :
  Calls Tryz.prog 40 #[.slice (some a) n C,.int .i64 (n:Nat),.slice (some a2) 1 C2] w λe w1=>e=.returned v'/\w1=w':=by go_enter Tryz.func40,Tryz.ntmps40;obtain⟨ab,ao,asp⟩:=a;go_wp2_with (at_builtin;refine Lib.wpList_append_run _ rfl _ _ _ _ rfl _ _ rfl rfl _ _ hrun ?_);all_goals (go_ret;exact⟨rfl,rfl⟩)
set_option maxHeartbeats 4000000 in
set_option maxRecDepth 100000 in
theorem UF (a2:Addr) (C2:Nat) (v':Value) (w w':World) (hrun:(Builtin.append_ #[37,37] 37 #[.slice none 0 0,.slice (some a2) 1 C2]).run Tryz.prog w=.ok v' w') :
  Calls Tryz.prog 40 #[.slice none 0 0,.int .i64 0,.slice (some a2) 1 C2] w λe w1=>e=.returned v'/\w1=w':=by go_enter Tryz.func40,Tryz.ntmps40;go_wp2_with (at_builtin;refine Lib.wpList_append_run _ rfl _ _ _ _ rfl _ _ rfl rfl _ _ hrun ?_);go_ret;exact⟨rfl,rfl⟩
end
end Go.Vm
end
section
set_option linter.unusedVariables false
noncomputable section
namespace Go.Vm
open Go.Proofs Go.RowKit
theorem JI {h h':Heap} {φ:Emb} {w:World} {s x:SV} {v:AV} {vs vx:Value} (e:(VOp.append 3 56).run [.v (.s s),.v (.s x)] h=some (v,h')) (sim:Sim φ h.get h.next.toNat w) (hs:Fx φ s vs) (hx:Fx φ x vx) :
  ∃v' w',(Builtin.append_ #[37,37] 37 #[vs,vx]).run Tryz.prog w=.ok v' w'/\dX φ h w h' w' λφ'=>Gr φ' v v':=by
 have hu:Tryz.prog.underlying 37=some (.slice 101):=by kernel_rfl
 have hs1:Gv Tryz.prog 101=some 3:=by kernel_rfl
 have hby:Ty Tryz.prog 101=some 56:=by kernel_rfl
 have hzz:Ly Tryz.prog 101=some [.A4,.A4,.int .i64 0]:=by kernel_rfl
 have hfr:φ h.next=none:=sim.fresh _ Rl;have hn:=(Zb _ _ h v h' e).1;simp only[VOp.run,O9] at e;split at e
 ·next new n hsrc=>
  split at e
  ·next r h2 hap=>
   cases e;obtain⟨v',w',f1,φ',f2,f3,f4⟩:=gC (P:=Tryz.prog) (ty:=37) (ats:=#[37,37]) sim hfr rfl hu rfl hu (.inr ⟨_,rfl⟩) hs1 hby Ab hzz rfl hsrc hx hs hap;exact⟨v',w',f1,φ',f2 _ hn Rl,f3,f4⟩
  ·cases e
 ·cases e
theorem MW (args:EA) (h:Heap) (v:AV) (h':Heap) (hcl:Clean h) (e:Un args h=some (v,h')) (φ:Emb) (w:World) (vs:List Value) (sim:Sim φ h.get h.next.toNat w) (ha:A1 (Gr φ) args vs) :
  Calls Tryz.prog 40 vs.toArray w λe w'=>∃v',e=.returned v'/\dX φ h w h' w' λφ'=>Gr φ' v v':=by
 unfold Un at e;split at e
 ·next s i b2 c2=>
  split at e
  ·next hi0=>
   unfold yM at e;have ha0:=ha;obtain _|⟨h0,ha⟩:=ha
   obtain _|⟨h1,ha⟩:=ha;obtain _|⟨h2,ha⟩:=ha;cases ha;have h1:_=Value.int .i64 i:=h1;subst h1;have h2':=h2;obtain⟨a2,C2,rfl,hnC2,_,hloc2⟩:=h2';split at e
   ·split at e
    ·next hi=>
     subst hi;have h0:_=Value.slice none 0 0:=h0;subst h0;obtain⟨v',w',r1,r2⟩:=JI e sim (s:=.A4) rfl h2;refine Calls.mono (UF a2 C2 v' w w' r1) ?_;rintro e w1 ⟨rfl,rfl⟩;exact⟨v',rfl,r2⟩
    ·cases e
   ·next b n=>
    have h0':=h0;obtain⟨a,C,rfl,hnC,_,hloc⟩:=h0';split at e
    ·next hi=>
     subst hi;obtain⟨v',w',r1,r2⟩:=JI e sim h0 h2;refine Calls.mono (UE a a2 n C C2 v' w w' r1) ?_;rintro e w1 ⟨rfl,rfl⟩;exact⟨v',rfl,r2⟩
    ·next hi=>
     unfold oY at e;split at e
     ·next hc=>
      split at e
      ·next c c2' m2 anc2 hg2=>
       split at e
       ·next vls hr=>
        split at e
        ·next tl ht=>
         split at e
         ·next b' h1 hgr=>
          cases e;obtain⟨cc,m,anc,_,_,_,hg,_,rfl,_⟩:=Vr hgr;obtain⟨j,rfl⟩:=Cs hi0;refine Calls.mono ((Ach hg hg2 hc.2.2 hr ht hgr hc.1 hc.2.1).run hcl φ w _ sim ha0) ?_;rintro e w' ⟨v',u,h2,φ',rfl,k1,k2,_,_,k5,rfl,rfl⟩;exact⟨v',rfl,φ',k1,k2,k5⟩
         ·cases e
        ·cases e
       ·cases e
      ·cases e
     ·cases e
   ·cases e
  ·cases e
 ·cases e
theorem orc:Ui Tryz.prog noO:=OR ⟨_,Tryz.func40,by kernel_rfl,by kernel_rfl⟩ MW
end Go.Vm
namespace Go.Pv
theorem pfS:PF Go.Proofs.Tryz.prog E2.F0:=⟨by kernel_rfl,λf vf h=>Go.Vm.C.xH f vf h,Go.Vm.orc⟩
theorem pfT:PF Go.Proofs.Tryz.prog Fn:=⟨pfS.mix,λf vf h=>by
 unfold Fn at h
 split at h
 ·cases h
 ·exact Go.Vm.C.xH f vf h,pfS.ora⟩
end Go.Pv
end
