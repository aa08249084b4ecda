/- A part of the proof. No condition. -/
import Derived.Test.YthnfbamnfihcaaaGreatPart1
set_option linter.unusedVariables false
set_option linter.unusedSimpArgs false
set_option linter.unusedSectionVars false
section
noncomputable section
namespace Go.Pv
open Go.Vm Go.Vm.C
open Go.Vm.Key (kn)
set_option maxRecDepth 40000
set_option maxHeartbeats 0
theorem ZJ {a b:Nat} {v w:PV} (ha:A6 a v) (hb:A6 b w) (h0:a=0∨b=0):A3 Fn 118 [.v (.s v),.v (.s w)] (okA (.lst 1 [] none)):=by
 have v0:=H8 ha;have v1:=H8 hb;have z:∀{x:Int},x=0->A3 Fn 158 [PA.lst 1 [[.int .u32 x]]] (okA (.lst 1 [] none)):=λh=>pt1 (a:=0) h;cases ha with
 |one=>cases hb with
  |one=>omega
  |_=>
   refine Ej pu C.f118 rfl ?_
   refine⟨_,_,_,rfl,v0,λ_=>⟨_,_,_,rfl,v1,Ep,λ_=>?_⟩,Ep⟩
   refine⟨Ac,_,_,Gz (n:=1) rfl Ac Ab Ab,?_⟩
   refine Eg pu ⟨λ_=>?_,Ep⟩
   refine Eg pu ⟨Ep,λ_=>?_⟩
   refine⟨Ac,⟨Ac,Ac⟩,_,_,rfl,Ac,?_⟩
   refine Eg pu ⟨Ep,λ_=>?_⟩
   exact⟨_,_,_,rfl,z (by rw[wrap_u32];rfl),_,rfl⟩
 |_=>cases hb with
  |one=>
   refine Ej pu C.f118 rfl ?_
   refine⟨_,_,_,rfl,v0,λ_=>⟨_,_,_,rfl,v1,Ep,λ_=>?_⟩,Ep⟩
   refine⟨Ac,_,_,Gz (n:=1) rfl Ac Ab Ab,?_⟩
   refine Eg pu ⟨Ep,λ_=>?_⟩
   exact⟨_,_,_,rfl,z rfl,_,rfl⟩
  |_=>
   refine Ej pu C.f118 rfl ?_
   refine⟨_,_,_,rfl,v0,λ_=>⟨_,_,_,rfl,v1,Ep,λ_=>?_⟩,Ep⟩
   refine⟨Ac,_,_,Gz (n:=0) rfl Ac Ab Ab,?_⟩
   refine Eg pu ⟨Ep,λ_=>?_⟩
   exact⟨_,_,_,rfl,pt0,_,rfl⟩
theorem Ac3 {a b:Nat} {v w:PV} (ha:A6 a v) (hb:A6 b w) (h1:0<a) (h2:0<b) (hm:a*b<4294967296):A3 Fn 118 [.v (.s v),.v (.s w)] (okA (.lst 1 (uL ([a*b,0].take (Ga [a*b,0] 2))) none)):=by
 have v0:=H8 ha;have v1:=H8 hb;have hc:(a:Int)*b=((a*b:Nat):Int):=Ac;have w0:IntKind.wrap .u64 (Int.ofNat 0)=0:=rfl;have wa:∀{n:Nat},n<4294967296->IntKind.wrap .u64 (n:Int)=n:=λh=>wrap_u64 Aa;cases ha<;>first|(exfalso;omega)|skip
 cases hb<;>first|(exfalso;omega)|skip
 rename_i _ ba _ bb
 generalize hn:a*b=n at hm hc ⊢;have o1:IntKind.wrap .u64 (a:Int)*IntKind.wrap .u64 (b:Int)=(n:Int):=by rw[wa ba,wa bb,hc]
 refine Ej pu C.f118 rfl ?_;refine⟨_,_,_,rfl,v0,λ_=>⟨_,_,_,rfl,v1,Ep,λ_=>?_⟩,Ep⟩;refine⟨Ac,_,_,Gz (n:=2) rfl Ac Ab Ab,?_⟩;refine Eg pu ⟨λ_=>?_,Ep⟩;refine Eg pu ⟨λ_=>?_,Ep⟩;refine⟨_,⟨Ac,rfl⟩,_,⟨Ac,rfl⟩,⟨by rw[o1];omega,by rw[o1];omega⟩,Ac,⟨Ac,Ac⟩,_,_,rfl,⟨by rw[o1,w0];omega,by rw[o1,w0];omega⟩,⟨by rw[o1,w0];omega,by rw[o1,w0];omega⟩,Ac,⟨Ac,Ac⟩,_,_,rfl,Ac,?_⟩;refine Eg pu ⟨Ep,λ_=>?_⟩;refine⟨Ac,⟨Ac,Ac⟩,_,_,rfl,Ac,?_⟩;refine Eg pu ⟨Ep,λ_=>?_⟩;refine⟨_,_,_,rfl,pt2 ?_ ?_,_,rfl⟩;·rw[o1,w0,wrap_u32];omega
 ·rw[o1,w0,mT Aa Aa];rfl
theorem natMul {a b:Nat} {v w:PV} (ha:A6 a v) (hb:A6 b w) (hs:a*b<4294967296):∃r,A3 Fn 118 [.v (.s v),.v (.s w)] (okA r)/\A6 (a*b) r:=by
 by_cases ha0:a=0;·subst ha0;rw[Bo];exact⟨_,ZJ ha hb (.inl rfl),.emp⟩
 ·by_cases hb0:b=0;·subst hb0;rw[BN];exact⟨_,ZJ ha hb (.inr rfl),.emp⟩
  ·exact⟨_,Ac3 ha hb Aa Aa hs,Ih _ hs⟩
theorem pW {a b:Nat} {v w:PV} (ha:A6 a v) (hb:A6 b w) (hs:b<=a):∃r,A3 Fn 83 [.v (.s v),.v (.s w)] (okA r)/\A6 (a-b) r:=by
 have v0:=H8 ha;have v1:=H8 hb;have c0:=Xr ha hb;have hc:¬Iq (a:Int) b<((0:Nat):Int):=by
  unfold Iq;split;·omega
  ·split<;>decide
 have wa:∀{n:Nat},n<4294967296->IntKind.wrap .u64 (n:Int)=n:=λh=>wrap_u64 Aa;have bd:a-b<4294967296:=by cases ha<;>omega
 refine⟨_,?_,Sq _ bd⟩;cases ha<;>cases hb<;>first|(exfalso;omega)|skip
 case one.one h0 h g0 g=>
  refine Ej pu C.f83 rfl ?_;refine⟨_,_,_,rfl,v0,λ_=>⟨_,_,_,rfl,v1,Ep,λ_=>⟨_,_,_,rfl,c0,(λh=>absurd (B0 h) hc),λ_=>?_⟩⟩,Ep⟩;refine⟨_,_,Gz (n:=1) rfl Ac Ab Ab,_,_,rfl,Ek pu C.f157 rfl ?_⟩;refine Eg pu ⟨λ_=>⟨λ_=>?_,Ep⟩,Ep⟩;refine⟨_,⟨Ac,rfl⟩,⟨by rw[wa g];omega,by rw[wa g];omega⟩,⟨Ac,Ac⟩,_,_,rfl,(λh'=>?_),λ_=>?_⟩;·have:=B0 h';rw[wa h,wa g] at this;omega
  refine⟨⟨Ac,Ac⟩,_,_,rfl,⟨Ac,Ac⟩,_,_,rfl,Ac,?_⟩;refine Eg pu ⟨Ep,λ_=>?_⟩;refine⟨_,_,_,rfl,pt1 (a:=a-b) ?_,_,rfl⟩;rw[wa h,wa g,wrap_u64 Aa,wrap_u32];omega
 case one.nil h0 h=>
  refine Ej pu C.f83 rfl ?_;refine⟨_,_,_,rfl,v0,λ_=>⟨_,_,_,rfl,v1,Ep,λ_=>⟨_,_,_,rfl,c0,(λh=>absurd (B0 h) hc),λ_=>?_⟩⟩,Ep⟩;refine⟨_,_,Gz (n:=1) rfl Ac Ab Ab,_,_,rfl,Ek pu C.f157 rfl ?_⟩;refine Eg pu ⟨λ_=>⟨Ep,λ_=>?_⟩,Ep⟩;refine⟨⟨Ac,Ac⟩,_,_,rfl,(λh'=>?_),λ_=>?_⟩;·have:=B0 h';rw[wa h] at this;omega
  refine⟨⟨Ac,Ac⟩,_,_,rfl,⟨Ac,Ac⟩,_,_,rfl,Ac,?_⟩;refine Eg pu ⟨Ep,λ_=>?_⟩;refine⟨_,_,_,rfl,pt1 (a:=a-0) ?_,_,rfl⟩;rw[wa h,wrap_u64 Aa,wrap_u32];omega
 case one.emp h0 h=>
  refine Ej pu C.f83 rfl ?_;refine⟨_,_,_,rfl,v0,λ_=>⟨_,_,_,rfl,v1,Ep,λ_=>⟨_,_,_,rfl,c0,(λh=>absurd (B0 h) hc),λ_=>?_⟩⟩,Ep⟩;refine⟨_,_,Gz (n:=1) rfl Ac Ab Ab,_,_,rfl,Ek pu C.f157 rfl ?_⟩;refine Eg pu ⟨λ_=>⟨Ep,λ_=>?_⟩,Ep⟩;refine⟨⟨Ac,Ac⟩,_,_,rfl,(λh'=>?_),λ_=>?_⟩;·have:=B0 h';rw[wa h] at this;omega
  refine⟨⟨Ac,Ac⟩,_,_,rfl,⟨Ac,Ac⟩,_,_,rfl,Ac,?_⟩;refine Eg pu ⟨Ep,λ_=>?_⟩;refine⟨_,_,_,rfl,pt1 (a:=a-0) ?_,_,rfl⟩;rw[wa h,wrap_u64 Aa,wrap_u32];omega
 all_goals
  refine Ej pu C.f83 rfl ?_
  refine⟨_,_,_,rfl,v0,λ_=>⟨_,_,_,rfl,v1,Ep,λ_=>⟨_,_,_,rfl,c0,(λh=>absurd (B0 h) hc),λ_=>?_⟩⟩,Ep⟩
  refine⟨_,_,Gz (n:=0) rfl Ac Ab Ab,_,_,rfl,Ek pu C.f157 rfl ?_⟩
  refine Eg pu ⟨Ep,λ_=>?_⟩
  exact⟨_,_,_,rfl,pt0,_,rfl⟩
theorem or0 {n:Nat} (h:n<4294967296):(BitVec.ofInt (IntKind.bits .u64) (0:Int) ||| BitVec.ofInt (IntKind.bits .u64) (n:Int)).toNat=n:=by show(BitVec.ofInt 64 (0:Int) ||| BitVec.ofInt 64 (n:Int)).toNat=n;have e:BitVec.ofInt 64 (0:Int)=0#64:=rfl;rw[e,BitVec.zero_or];simp only[BitVec.toNat_ofInt];omega
theorem or1 {n:Nat} (h:n<4294967296):IntKind.wrap .u64 ((BitVec.ofInt (IntKind.bits .u64) (IntKind.wrap .u64 (((0:Nat):Int)*2 ^ min (Int.toNat ((32:Nat):Int)) (IntKind.bits .u64))) ||| BitVec.ofInt (IntKind.bits .u64) (IntKind.wrap .u64 (n:Int))).toNat:Nat)=(n:Int):=by
 have e1:IntKind.wrap .u64 (((0:Nat):Int)*2 ^ min (Int.toNat ((32:Nat):Int)) (IntKind.bits .u64))=0:=by rw[show(((0:Nat):Int)*2 ^ min (Int.toNat ((32:Nat):Int)) (IntKind.bits .u64))=0 from Int.zero_mul _];rfl
 rw[e1,wrap_u64 (n:=(n:Int)) Aa,or0 h,wrap_u64 Aa]
theorem PJ {a d:Nat} {v:PV} (ha:A6 a v) (hd:0<d) (hd2:d<4294967296):∃r,A3 Fn 222 [.v (.s v),.v (.s (.int .u32 d))] (.tup [.s r,.s (.int .u32 ((a % d:Nat):Int))])/\A6 (a / d) r:=by
 have wa:∀{n:Nat},n<4294967296->IntKind.wrap .u64 (n:Int)=n:=λh=>wrap_u64 Aa;have bd:a / d<4294967296:=by have:a / d<=a:=DQ a d;cases ha<;>omega
 cases ha;case one h0 h=>
  refine⟨_,?_,Sq _ bd⟩;refine Ej pu C.f222 rfl ?_;refine⟨_,_,Gz (n:=1) rfl Ac Ab Ab,?_⟩;refine Eg pu ⟨λ_=>?_,Ep⟩;refine⟨Ac,Ac,_,⟨Ac,rfl⟩,⟨?_,⟨Ac,Ac⟩,_,_,rfl,?_,Ac,?_⟩⟩;·rw[wa hd2];omega
  ·rw[wa hd2];omega
  refine Eg pu ⟨Ep,λ_=>?_⟩;refine⟨_,_,_,rfl,pt1 (a:=a / d) ?_,?_⟩;·rw[or1 h,wa hd2,BK Aa,<-Int.natCast_ediv];generalize a / d=q at bd ⊢;rw[wrap_u64 Aa,wrap_u32];omega
  ·have e:IntKind.wrap .u32 ((IntKind.wrap .u64 ((BitVec.ofInt (IntKind.bits .u64) (IntKind.wrap .u64 (((0:Nat):Int)*2 ^ min (Int.toNat ((32:Nat):Int)) (IntKind.bits .u64))) ||| BitVec.ofInt (IntKind.bits .u64) (IntKind.wrap .u64 (a:Int))).toNat:Nat)).tmod (IntKind.wrap .u64 (d:Int)))=((a % d:Nat):Int):=by rw[or1 h,wa hd2,Bv Aa,<-Int.natCast_emod,wrap_u32];have:a % d<d:=Cu _ hd;omega
   rw[<-e];exact⟨_,rfl⟩
 all_goals
  rw[Nat.zero_div,Nat.zero_mod]
  refine⟨_,?_,A6.emp⟩
  refine Ej pu C.f222 rfl ?_
  refine⟨_,_,Gz (n:=0) rfl Ac Ab Ab,?_⟩
  refine Eg pu ⟨Ep,λ_=>?_⟩
  exact⟨_,_,_,rfl,pt0,_,rfl⟩
theorem A6.frz {n:Nat} {v:PV} (h:A6 n v) (g:A0):Kz 40 v g=some (v,g):=by cases h<;>rfl
theorem VQ (k:IntKind) (n:Int) (g:A0):Kz 40 (.int k n) g=some (.int k n,g):=rfl
theorem bO {a b:Nat} {v w:PV} (ha:A6 a v) (hb:A6 b w) (h0:0<b):∃q r,A3 Fn 179 [.v (.s v),.v (.s w)] (.tup [.s q,.s r,.s (.int .i64 ((0:Nat):Int))])/\A6 (a / b) q/\A6 (a % b) r:=by
 have v0:=H8 ha;have v1:=H8 hb;have fz:∀g,Fw deep [.v (.s v)] g=some ([.v (.s v)],g):=by cases ha<;>exact λ_=>rfl
 have fz2:∀g k,Fw deep [.v (.s v),.v (.s (.int .u32 k))] g=some ([.v (.s v),.v (.s (.int .u32 k))],g):=by cases ha<;>exact λ_ _=>rfl
 cases hb with
 |nil=>omega
 |emp=>omega
 |one n h1 h2=>obtain⟨q,hq1,hq2⟩:=PJ ha h1 h2;have hm:a % b<b:=Cu _ h0;obtain⟨r,hr1,hr2⟩:=Ac2 (n:=a % b) Aa;refine⟨q,r,?_,hq2,hr2⟩;have fq:=hq2.frz;have fr:=hr2.frz;have wa:IntKind.wrap .u64 ((a % b:Nat):Int)=((a % b:Nat):Int):=wrap_u64 Aa;refine Ej pu C.f179 rfl ?_;refine⟨_,_,_,fz _,v0,λ_=>⟨_,_,_,rfl,v1,Ep,λ_=>⟨Ep,λ_=>⟨λ_=>?_,Ep⟩⟩⟩,Ep⟩;refine⟨_,⟨Ab,rfl⟩,_,_,_,fz2 _ _,hq1,?_⟩;refine⟨_,_,_,rfl,by rw[wa];exact hr1,?_⟩;refine⟨.empty,?_⟩;show G4 40 (.tup [.s q,.s r,.s (.int .i64 _)]) .empty=_;simp only[G4,Wo,aQ,fq,fr,VQ]
end Go.Pv
end
section
noncomputable section
namespace Go.Pv
open Go.Vm
open Go.Vm.Key (kn)
set_option maxRecDepth 40000
set_option maxHeartbeats 0
section
variable {F:D5} {pu:EH}
def Lr:List (Key×B4)->Key->Option B4
 |[],_=>none
 |(j,x)::l,k=>match keq j k with
  |true=>some x
  |false=>Lr l k
def mkT:List (Key×B4)->Tr B4
 |[]=>.z
 |(k,x)::l=>(mkT l).upd k (some x)
def mkH (l:List (Key×B4)) (nx:Key):A0:=⟨mkT l,nx⟩
theorem Mo (nx:Key):∀(l:List (Key×B4)) (k:Key),(mkH l nx).get k=Lr l k
 |[],k=>Tr.sK k
 |(j,x)::l,k=>by
  show((mkT l).upd j (some x)).get k=_;rw[Tr.D1];simp only[Lr];by_cases h:j=k;·subst h;rw[Aj rfl,Gy]
  ·rw[Ao h];have:keq j k=false:=by
    cases hk:keq j k with
    |false=>rfl
    |true=>exact absurd (He hk) h
   rw[this];exact Mo nx l k
abbrev ob (c:Ey):B4:=⟨.cells c,true,false,[],[]⟩
abbrev obl (c:Ey) (log:Es):B4:=⟨.cells c,true,false,[],log⟩
def Gb:Ew->Key->EE
 |[],_=>none
 |(j,x)::l,k=>match keq j k with
  |true=>some x
  |false=>Gb l k
def rho (lo:Nat) (r:Ew):Key->EE:=λk=>match Nat.blt k.toNat lo with
 |true=>some k
 |false=>Gb r k
def Jz (ρ:EC) (L1:Fm):Fm->Prop
 |[]=>True
 |(k,x)::L=>(∃y,look L1 k=some y/\RnA ρ x.pa y.pa)/\Jz ρ L1 L
theorem Jz.get {ρ:EC} {L1:Fm}:∀{L:Fm},Jz ρ L1 L->∀k x,look L k=some x->∃y,look L1 k=some y/\RnA ρ x.pa y.pa
 |[],_,k,x,h=>Ad
 |(j,z)::L,h,k,x,hx=>by
  simp only[look] at hx;split at hx;·next hk=>cases hx;rw[<-He hk];exact h.1
  ·exact h.2.get k x hx
def Na (ρ:EC) (g1:A0):List (Key×B4)->Prop
 |[]=>True
 |(k,x)::l=>(∃j y,ρ k=some j/\g1.get j=some y/\Ku ρ g1 x y)/\Na ρ g1 l
theorem Na.get {ρ:EC} {g1:A0}:∀{l:List (Key×B4)},Na ρ g1 l->∀k x,Lr l k=some x->∃j y,ρ k=some j/\g1.get j=some y/\Ku ρ g1 x y
 |[],_,k,x,h=>Ad
 |(j,z)::L,h,k,x,hx=>by
  simp only[Lr] at hx;split at hx;·next hk=>cases hx;rw[<-He hk];exact h.1
  ·exact h.2.get k x hx
def Gk (lo nx:Nat) (l:List (Key×B4)):Ew->ED->ED->Bool
 |[],_,_=>true
 |(k,j)::r,ks,js=>Nat.ble lo k.toNat&&Nat.ble lo j.toNat&&Nat.blt k.toNat nx&&(Lr l k).isSome&&!ks.any (keq k)&&!js.any (keq j)&&Gk lo nx l r (k::ks) (j::js)
theorem Li {lo nx:Nat} {l:List (Key×B4)}:∀{r:Ew} {ks js:ED},Gk lo nx l r ks js=true ->
  (∀k j,Gb r k=some j->lo<=k.toNat/\lo<=j.toNat/\k.toNat<nx/\(Lr l k).isSome=true/\k∉ks/\j∉js)/\(∀k k' j,Gb r k=some j->Gb r k'=some j->k=k')
 |[],ks,js,_=>⟨λk j h=>Ad,λk k' j h=>Ad⟩
 |(a,b)::r,ks,js,h=>by
  simp only[Gk,Au,BC,Bs,AX,Dz] at h;obtain⟨⟨⟨⟨⟨⟨h1,h2⟩,h3⟩,h4⟩,h5⟩,h6⟩,h7⟩:=h;obtain⟨i1,i2⟩:=Li h7;have ha:a∉ks:=λhm=>by have:=h5 a hm;rw[Gy] at this;exact this rfl
  have hb:b∉js:=λhm=>by have:=h6 b hm;rw[Gy] at this;exact this rfl
  refine⟨λk j hk=>?_,λk k' j hk hk'=>?_⟩
  ·simp only[Gb] at hk;split at hk;·next he=>cases hk;rw[<-He he];exact⟨h1,h2,h3,h4,ha,hb⟩
   ·obtain⟨a1,a2,a3,a4,a5,a6⟩:=i1 k j hk;exact⟨a1,a2,a3,a4,λhm=>a5 (BX _ hm),λhm=>a6 (BX _ hm)⟩
  ·simp only[Gb] at hk hk';cases e1:keq a k<;>cases e2:keq a k'<;>simp only[e1,e2] at hk hk';·exact i2 k k' j hk hk'
   ·cases hk';exact absurd (BV ..) (i1 k b hk).2.2.2.2.2
   ·cases hk;exact absurd (BV ..) (i1 k' b hk').2.2.2.2.2
   ·rw[<-He e1,<-He e2]
def iV (g1:A0) (l:List (Key×B4)):Nat->Prop
 |0=>True
 |n+1=>Lr l (kn n)=g1.get (kn n)/\iV g1 l n
theorem iV.get {g1:A0} {l:List (Key×B4)}:∀{n:Nat},iV g1 l n->∀k:Key,k.toNat<n->Lr l k=g1.get k
 |0,_,k,h=>absurd h (Dn _)
 |n+1,h,k,hk=>by
  by_cases e:k.toNat=n;·rw[<-Key.J8 k,e];exact h.1
  ·exact h.2.get k Aa
theorem Trim.of {lo:Nat} (r:Ew) {L1 L2:Fm} {g1:A0} {l:List (Key×B4)} {nx:Key} (hn:Gk lo nx.toNat l r [] []=true) (hlo:lo<=nx.toNat) (hlow:iV g1 l lo) (hb:Na (rho lo r) g1 l) (hf:Jz (rho lo r) L1 L2) :
  Trim lo (rho lo r) L1 g1 L2 (mkH l nx):=by
 obtain⟨i1,i2⟩:=Li hn;have low:∀k:Key,k.toNat<lo->rho lo r k=some k:=λk hk=>by
  have:Nat.blt k.toNat lo=true:=by rw[Bs];exact hk
  simp only[rho,this]
 have high:∀k:Key,¬k.toNat<lo->rho lo r k=Gb r k:=λk hk=>by
  have:Nat.blt k.toNat lo=false:=by
   cases hh:Nat.blt k.toNat lo with
   |false=>rfl
   |true=>rw[Bs] at hh;exact absurd hh hk
  simp only[rho,this]
 refine⟨λk hk=>⟨low k hk,by rw[Mo];exact hlow.get k hk⟩,λk k' j h h'=>?_,λk j h hj=>?_,λk x hx=>?_,λk j h hg=>?_,hf.get,hlo⟩
 ·by_cases hk:k.toNat<lo<;>by_cases hk':k'.toNat<lo;·rw[low k hk] at h;rw[low k' hk'] at h';cases h;cases h';rfl
  ·rw[low k hk] at h;rw[high k' hk'] at h';cases h;have:=(i1 k' k h').2.1;omega
  ·rw[high k hk] at h;rw[low k' hk'] at h';cases h';have:=(i1 k k' h).2.1;omega
  ·rw[high k hk] at h;rw[high k' hk'] at h';exact i2 k k' j h h'
 ·by_cases hk:k.toNat<lo;·exact⟨Bu hk hlo,λhh=>Aa⟩
  ·rw[high k hk] at h;obtain⟨a1,a2,a3,_⟩:=i1 k j h;exact⟨a3,λ_=>a2⟩
 ·rw[Mo] at hx;exact hb.get k x hx
 ·rw[Mo] at hg;by_cases hk:k.toNat<lo;·rw[low k hk] at h;cases h;rw[<-hlow.get k hk];exact hg
  ·rw[high k hk] at h;have:=(i1 k j h).2.2.2.1;rw[hg] at this;cases this
def A2:PV->Prop
 |.ptr ..|.slice ..|.map _|.func ..=>False
 |_=>True
theorem A2.rn {ρ:EC} {v:PV} (h:A2 v):rnV ρ v=some v:=by cases v<;>first|rfl|exact h.elim
theorem A2.cells {ρ:EC}:∀{l:Ey},(∀v∈l,A2 v)->A1 (λx y=>rnV ρ x=some y) l l
 |[],_=>.nil
 |v::l,h=>.cons (h v (BV ..)).rn (A2.cells λu hu=>h u (BX _ hu))
theorem Ku.same {ρ:EC} {K:A0} {c:Ey} {log log':Es} (h:A1 (λx y=>rnV ρ x=some y) c c):Ku ρ K ⟨.cells c,true,false,[],log⟩ ⟨.cells c,true,false,[],log'⟩:=⟨h,λ_=>⟨rfl,.inl .nil⟩,rfl⟩
theorem Em{lo:Nat}{L1 L2:Fm}{g1:A0}(l:List (Key×B4))(nx:Key)(r:Ew)(hb:Na (rho lo r) g1 l)(hf:Jz (rho lo r) L1 L2)(hn:Gk lo nx.toNat l r [] []=true:=by exact rfl)(hlo:lo<=nx.toNat:=by exact Nat.zero_le _)(hlow:iV g1 l lo:=by exact trivial):Trim lo (rho lo r) L1 g1 L2 (mkH l nx):=Trim.of r hn hlo hlow hb hf
theorem El{lo:Nat}{L1 L2:Fm}{g1:A0}(l:List (Key×B4))(nx:Key)(r:Ew)(hb:Na (rho lo r) g1 l:=by repeat' first | refine ⟨⟨_, _, rfl, rfl, Ku.same (by repeat' first | exact A1.nil | exact A2.cells (by assumption) | refine A1.cons rfl ?_ | refine A1.cons (E9 _ _).rn ?_ | refine A1.cons (A2.rn (by assumption)) ?_ | fail)⟩, ?_⟩ | refine ⟨⟨_, _, rfl, rfl, ⟨(show A1 _ _ _ by repeat' first | exact A1.nil | exact A2.cells (by assumption) | refine A1.cons rfl ?_ | refine A1.cons (E9 _ _).rn ?_ | refine A1.cons (A2.rn (by assumption)) ?_ | fail), λh => (by first | cases h; done | exact ⟨rfl, .inl .nil⟩ | exact ⟨rfl, .inl (.cons rfl .nil)⟩ | exact ⟨rfl, .inl (.cons rfl (.cons rfl .nil))⟩ | exact ⟨rfl, .inl (.cons rfl (.cons rfl (.cons rfl .nil)))⟩ | exact ⟨rfl, .inr ⟨_, _, _, .head _, rfl, rfl, rfl⟩⟩), rfl⟩⟩, ?_⟩ | exact trivial | fail)(hf:Jz (rho lo r) L1 L2:=by repeat' first | refine ⟨⟨_, rfl, rfl⟩, ?_⟩ | refine ⟨⟨_, rfl, A2.rn (by assumption)⟩, ?_⟩ | exact trivial | fail)(hn:Gk lo nx.toNat l r [] []=true:=by exact rfl)(hlo:lo<=nx.toNat:=by exact Nat.zero_le _)(hlow:iV g1 l lo:=by exact trivial):Trim lo (rho lo r) L1 g1 L2 (mkH l nx):=Trim.of r hn hlo hlow hb hf
theorem Er{ρ:EC}{K:A0}{o z:Bool}{c c':Ey}{m n:Es}(h:A1 (λx y=>rnV ρ x=some y) c c'):Ku ρ K ⟨.cells c,o,z,[],m⟩ ⟨.cells c',o,z,[],n⟩:=⟨h,λe=>⟨e,.inl .nil⟩,rfl⟩
end
end Go.Pv
end
section
noncomputable section
namespace Go.Pv
open Go.Vm Go.Vm.C
open Go.Vm.Key (kn)
set_option maxRecDepth 40000
set_option maxHeartbeats 0
structure Al where
 p:Nat
 ks:EF
 d:Nat
structure Nd where
 left:Nat
 copy:Nat
 az:List Al
structure Fo where
 ns:List Nd
 rs:Es
def brV (v l h:Nat):Ey:=[.int .i64 v,.int .i64 l,.int .i64 h]
def dT:Nat->Eu×Nat
 |0=>([],0)
 |1=>([brV 1 1 0,brV 0 2 0],3)
 |2=>([brV 1 1 0,brV 0 0 2],3)
 |3=>([brV 1 1 0],2)
 |4=>([brV 1 0 1,brV 0 2 0],3)
 |5=>([brV 0 1 0],2)
 |6=>([brV 1 0 1,brV 1 1 0,brV 0 2 3],4)
 |7=>([brV 1 1 0,brV 0 1 2],3)
 |8=>([brV 1 0 1,brV 0 0 2],3)
 |9=>([brV 1 1 0,brV 1 0 1,brV 0 2 3],4)
 |10=>([brV 0 0 1],2)
 |11=>([brV 1 1 0,brV 0 2 1],3)
 |12=>([brV 1 0 1],2)
 |13=>([brV 1 0 1,brV 0 1 2],3)
 |14=>([brV 1 0 1,brV 0 2 1],3)
 |_=>([],1)
def slV (es:Nat):Eu->PV
 |[]=>.A4
 |l=>.lst es l none
def dN (d:Nat):PV:=slV 3 (dT d).1
def dR (d:Nat):Int:=((dT d).2:Int)
def dC (d:Nat):Ey:=[dN d,.int .i64 (dR d)]
abbrev dA (d:Nat):PA:=.v (.agg (dC d))
def kV (k:Nat):Ey:=[.int .i64 k,.int .i64 (-1),.int .i64 0,.int .i64 0]
def ksV (l:EF):PV:=slV 4 (l.map kV)
def aV (a:Al):Ey:=[.int .i64 a.p,ksV a.ks,dN a.d,.int .i64 (dR a.d)]
def asV (l:List Al):PV:=slV 4 (l.map aV)
def nV (n:Nd):Ey:=[.int .i64 n.left,.int .i64 0,.int .i64 0,.int .i64 n.copy,asV n.az]
def rV (r:Nat×Nat):Ey:=[.int .i64 r.1,dN r.2,.int .i64 (dR r.2)]
def foC (f:Fo):Ey:=[slV 5 (f.ns.map nV),slV 3 (f.rs.map rV)]
abbrev foA (f:Fo):PA:=.v (.agg (foC f))
theorem AaJ (es:Nat) (l:Eu) (g:A0):Kz 40 (slV es l) g=some (slV es l,g):=by cases l<;>rfl
theorem E9 (es:Nat) (l:Eu):A2 (slV es l):=by cases l<;>exact Ae
def M7 (a:Al):List Int:=(a.p:Int)::a.ks.flatMap λ(k:Nat)=>[0,0,-1,(k:Int)]
theorem vH (a:Al) (hk:a.ks.length<=2):A3 Fn 162 [.v (.agg (aV a))] (PA.lst 1 (iL (M7 a))):=by
 obtain⟨p,ks,d⟩:=a;refine Ej pu C.f162 rfl ?_;rcases ks with _|⟨x,_|⟨y,_|⟨z,ks⟩⟩⟩;·refine Eg pu ⟨Ep,λ_=>?_⟩;exact⟨_,rfl⟩
 ·refine Eg pu ⟨λ_=>?_,Ep⟩;refine⟨_,⟨Ac,rfl⟩,_,_,rfl,Ac,?_⟩;refine Eg pu ⟨Ep,λ_=>?_⟩;exact⟨_,rfl⟩
 ·refine Eg pu ⟨λ_=>?_,Ep⟩;refine⟨_,⟨Ac,rfl⟩,_,_,rfl,Ac,?_⟩;refine Eg pu ⟨λ_=>?_,Ep⟩;refine⟨_,⟨Ac,rfl⟩,_,_,rfl,Ac,?_⟩;refine Eg pu ⟨Ep,λ_=>?_⟩;exact⟨_,rfl⟩
 ·simp at hk
theorem pX (a:Al) (hk:a.ks.length<=2):A3 Fn 189 [.v (.agg (aV a))] (PA.lst 1 (iL (M7 a))):=by
 obtain⟨p,ks,d⟩:=a;refine Ej pu C.f189 rfl ?_;rcases ks with _|⟨x,_|⟨y,_|⟨z,ks⟩⟩⟩;·refine Eg pu ⟨Ep,λ_=>?_⟩;exact⟨_,rfl⟩
 ·refine Eg pu ⟨λ_=>?_,Ep⟩;refine⟨_,⟨Ac,rfl⟩,_,_,rfl,Ac,?_⟩;refine Eg pu ⟨Ep,λ_=>?_⟩;exact⟨_,rfl⟩
 ·refine Eg pu ⟨λ_=>?_,Ep⟩;refine⟨_,⟨Ac,rfl⟩,_,_,rfl,Ac,?_⟩;refine Eg pu ⟨λ_=>?_,Ep⟩;refine⟨_,⟨Ac,rfl⟩,_,_,rfl,Ac,?_⟩;refine Eg pu ⟨Ep,λ_=>?_⟩;exact⟨_,rfl⟩
 ·simp at hk
theorem PK {f:Fo} (h:f.ns≠[]):foA f=.v (.agg [.lst 5 (f.ns.map nV) none,slV 3 (f.rs.map rV)]):=by
 obtain⟨ns,rs⟩:=f;cases ns with
 |nil=>exact absurd rfl h
 |cons=>rfl
theorem I6 {ns:List Nd} {k:Nat} {n:Nd} (h:ns[k]?=some n):(ns.map nV)[(k:Int).toNat]?=some (nV n):=by simp[h]
theorem VR (f:Fo) (n:Nd) (a:Al) (hk:a.ks.length<=2) (hs:∀k∈a.ks,k<f.ns.length) (hl:f.ns.length<1000000) (h0:f.ns≠[]):A3 Fn 161 [foA f,.v (.agg (nV n)),.v (.agg (aV a))] (bA true):=by
 obtain⟨p,ks,d⟩:=a;have hlen:(f.ns.map nV).length=f.ns.length:=Lm ..;have step:∀k,k<f.ns.length->∃n,(f.ns.map nV)[(k:Int).toNat]?=some (nV n):=λk h=>⟨f.ns[k],I6 (Gg h)⟩;rw[PK h0];refine Ej pu C.f161 rfl ?_;rcases ks with _|⟨x,_|⟨y,_|⟨z,ks⟩⟩⟩;·refine Eg pu ⟨Ep,λ_=>?_⟩;exact⟨Ep,λ_=>⟨λ_=>⟨_,rfl⟩,Ep⟩⟩
 ·have hx:=hs x Ac;obtain⟨m,hm⟩:=step x hx;rw[<-hlen] at hx;refine Eg pu ⟨λ_=>?_,Ep⟩;refine⟨_,⟨Ac,rfl⟩,λ_=>⟨Ep,λ_=>⟨Ep,λ_=>⟨(λh=>absurd (B0 h) Aa),λ_=>⟨λ_=>⟨λ_=>⟨_,⟨Aa,hm⟩,λ_=>⟨_,⟨Aa,hm⟩,Ep,λ_=>⟨Ac,?_⟩⟩,Ep⟩,Ep⟩,λh=>absurd (B0 h) Aa⟩⟩⟩⟩,Ep⟩;refine Eg pu ⟨Ep,λ_=>?_⟩;exact⟨λ_=>⟨Ac,_,⟨Ac,rfl⟩,λ_=>⟨λ_=>⟨_,rfl⟩,λh=>absurd (B0 h) Aa⟩,Ep⟩,Ep⟩
 ·have hx:=hs x Ac;obtain⟨m,hm⟩:=step x hx;have hy:=hs y Ac;obtain⟨m2,hm2⟩:=step y hy;rw[<-hlen] at hx hy;refine Eg pu ⟨λ_=>?_,Ep⟩;refine⟨_,⟨Ac,rfl⟩,λ_=>⟨Ep,λ_=>⟨Ep,λ_=>⟨(λh=>absurd (B0 h) Aa),λ_=>⟨λ_=>⟨λ_=>⟨_,⟨Aa,hm⟩,λ_=>⟨_,⟨Aa,hm⟩,Ep,λ_=>⟨Ac,?_⟩⟩,Ep⟩,Ep⟩,λh=>absurd (B0 h) Aa⟩⟩⟩⟩,Ep⟩;refine Eg pu ⟨λ_=>?_,Ep⟩;refine⟨_,⟨Ac,rfl⟩,λ_=>⟨λ_=>⟨Ac,_,⟨Ac,rfl⟩,λ_=>⟨Ep,λ_=>⟨(λh=>absurd (B0 h) Aa),λ_=>⟨λ_=>⟨λ_=>⟨_,⟨Aa,hm2⟩,λ_=>⟨_,⟨Aa,hm2⟩,Ep,λ_=>⟨Ac,?_⟩⟩,Ep⟩,Ep⟩,λh=>absurd (B0 h) Aa⟩⟩⟩,λh=>absurd (B5 h) Aa⟩,Ep⟩,Ep⟩;refine Eg pu ⟨Ep,λ_=>?_⟩;exact⟨λ_=>⟨Ac,_,⟨Ac,rfl⟩,λ_=>⟨λ_=>⟨_,rfl⟩,λh=>absurd (B0 h) Aa⟩,Ep⟩,Ep⟩
 ·simp at hk
theorem PL (f:Fo) (n:Nd) (a:Al) (hk:a.ks.length<=2) (hs:∀k∈a.ks,k<f.ns.length) (hl:f.ns.length<1000000) (h0:f.ns≠[]):A3 Fn 188 [foA f,.v (.agg (nV n)),.v (.agg (aV a))] (bA true):=by
 obtain⟨p,ks,d⟩:=a;have hlen:(f.ns.map nV).length=f.ns.length:=Lm ..;have step:∀k,k<f.ns.length->∃n,(f.ns.map nV)[(k:Int).toNat]?=some (nV n):=λk h=>⟨f.ns[k],I6 (Gg h)⟩;rw[PK h0];refine Ej pu C.f188 rfl ?_;rcases ks with _|⟨x,_|⟨y,_|⟨z,ks⟩⟩⟩;·refine Eg pu ⟨Ep,λ_=>?_⟩;exact⟨Ep,λ_=>⟨_,rfl⟩⟩
 ·have hx:=hs x Ac;obtain⟨m,hm⟩:=step x hx;rw[<-hlen] at hx;refine Eg pu ⟨λ_=>?_,Ep⟩;refine⟨_,⟨Ac,rfl⟩,λ_=>⟨Ep,λ_=>⟨λ_=>⟨λ_=>⟨λ_=>⟨_,⟨Aa,hm⟩,λ_=>⟨_,⟨Aa,hm⟩,Ep,λ_=>⟨Ac,?_⟩⟩,Ep⟩,Ep⟩,λh=>absurd (B0 h) Aa⟩,λh=>absurd (B5 h) Aa⟩⟩,Ep⟩;refine Eg pu ⟨Ep,λ_=>?_⟩;exact⟨Ep,λ_=>⟨_,rfl⟩⟩
 ·have hx:=hs x Ac;obtain⟨m,hm⟩:=step x hx;have hy:=hs y Ac;obtain⟨m2,hm2⟩:=step y hy;rw[<-hlen] at hx hy;refine Eg pu ⟨λ_=>?_,Ep⟩;refine⟨_,⟨Ac,rfl⟩,λ_=>⟨Ep,λ_=>⟨λ_=>⟨λ_=>⟨λ_=>⟨_,⟨Aa,hm⟩,λ_=>⟨_,⟨Aa,hm⟩,Ep,λ_=>⟨Ac,?_⟩⟩,Ep⟩,Ep⟩,λh=>absurd (B0 h) Aa⟩,λh=>absurd (B5 h) Aa⟩⟩,Ep⟩;refine Eg pu ⟨λ_=>?_,Ep⟩;refine⟨_,⟨Ac,rfl⟩,λ_=>⟨λ_=>⟨Ep,λ_=>⟨λ_=>⟨λ_=>⟨λ_=>⟨_,⟨Aa,hm2⟩,λ_=>⟨_,⟨Aa,hm2⟩,Ep,λ_=>⟨Ac,?_⟩⟩,Ep⟩,Ep⟩,λh=>absurd (B0 h) Aa⟩,λh=>absurd (B5 h) Aa⟩⟩,λh=>absurd (B5 h) Aa⟩,Ep⟩;refine Eg pu ⟨Ep,λ_=>?_⟩;exact⟨Ep,λ_=>⟨_,rfl⟩⟩
 ·simp at hk
end Go.Pv
end
section
noncomputable section
namespace Go.Pv
open Go.Vm
open Go.Vm.Key (kn)
set_option maxRecDepth 40000
set_option maxHeartbeats 0
def pv (n:Nat):Bool:=pu n||Sp [185] n
def Hl:PV->Prop
 |.bool _|.int ..|.str _|.Iv|.A4|.Ic|.J5|.lst _ _ none|.rp _|.func _ [] []=>True
 |_=>False
def Ql:Ey->Prop
 |[]=>True
 |v::l=>Hl v/\Ql l
def Ac4:PC->Prop
 |.s v=>Hl v
 |.agg l=>Ql l
def PM:Ez->Prop
 |[]=>True
 |.v c::l=>Ac4 c/\PM l
 |.tup _::_=>False
theorem mU (n:Nat) {v:PV} (h:Hl v) (g:A0):Kz (n+1) v g=some (v,g):=by unfold Hl at h;split at h;all_goals first|rfl|exact h.elim
theorem Xs (n:Nat):∀{l:Ey},Ql l->∀g:A0,Kz.cK (Kz (n+1)) l g=some (l,g)
 |[],_,_=>rfl
 |v::l,h,g=>by simp only[Kz.cK,mU n h.1,Xs n h.2]
theorem Fi:∀{xs:Ez},PM xs->∀{g:A0},Fw deep xs g=some (xs,g)
 |[],_,_=>rfl
 |.v (.s v)::l,h,g=>by have:=Fi h.2 (g:=g);show Fw 40 _ g=_;simp only[Fw,G4,aQ,mU 39 h.1];rw[show Fw 40 l g=_ from this]
 |.v (.agg c)::l,h,g=>by have:=Fi h.2 (g:=g);show Fw 40 _ g=_;simp only[Fw,G4,aQ,Xs 39 h.1];rw[show Fw 40 l g=_ from this]
theorem I9 {P:Prop} (h:false=true):P:=Bool.noConfusion h
theorem Jr {P:Prop} (h:true=false):P:=Bool.noConfusion h
end Go.Pv
end
section
noncomputable section
namespace Go.Pv
open Go.Vm Go.Vm.C
open Go.Vm.Key (kn)
set_option maxRecDepth 40000
set_option maxHeartbeats 0
def pw (n:Nat):Bool:=pu n||Sp [227,246] n
theorem vI (a:Int):A3 Fn 246 [iA a] (bA false):=by refine Ej pw C.f246 rfl ?_;exact mS Ac
theorem AaK (a b:Int):A3 Fn 227 [iA a,iA b] (iA (Iq a b)):=by
 refine Ej pw C.f227 rfl ?_;have na:=vI a;have nb:=vI b;refine⟨_,_,_,rfl,na,_,_,_,rfl,nb,λh=>I9 h,λ_=>⟨λh=>I9 h,λ_=>⟨λh=>?_,λh=>?_⟩⟩⟩;·exact⟨_,by rw[Iq,Aj (B0 h)];rfl⟩
 ·refine⟨λh'=>?_,λh'=>?_⟩;·exact⟨_,by rw[Iq,Ao (B5 h),Aj (B0 h')];rfl⟩
  ·exact⟨_,by rw[Iq,Ao (B5 h),Ao (B5 h')];rfl⟩
theorem VS {a b:Int} (h:a≠b):Iq a b≠0:=by
 unfold Iq;split;·simp
 ·split;·simp
  ·omega
theorem Sr (a b:List Int) (ha:a.length<1000000) (hb:b.length<1000000):A3 Fn 186 [PA.lst 1 (iL a),PA.lst 1 (iL b)] (iA (Fq a b)):=by
 have la:(iL a).length=a.length:=Lm ..;have lb:(iL b).length=b.length:=Lm ..;refine Ej pw C.f186 rfl ?_;refine XW.Wy (pu:=pw) (σ:=Nat) (λi=>a.length-i) (λi=>[(k0,.v (PA.lst 1 (iL a))),(k1,.v (PA.lst 1 (iL b))),(k9,.v (PA.lst 1 (iL a))),(k10,.v (iA (iL a).length)),(k11,.v (iA i))]) (λi=>i<=a.length/\i<=b.length/\Fq (a.drop i) (b.drop i)=Fq a b) 0 Zl
  (.cons rfl rfl (.cons rfl rfl (.cons rfl rfl (.cons rfl rfl (.cons rfl rfl (.nil _)))))) ⟨Zl,Zl,rfl⟩ ?_
 rintro i ⟨h1,h2,h3⟩;refine⟨λh=>?_,λh=>?_⟩
 ·have hi:i<a.length:=by have:=B0 h;omega
  have ga:=pS (Gg hi);refine⟨_,⟨BE i,ga⟩,λh'=>?_,λh'=>?_⟩
  ·have:b.length<=i:=by have:=BB h';omega
   rw[<-h3,CC this,Ax hi];exact⟨_,rfl⟩
  ·have hj:i<b.length:=by have:=BM h';omega
   have gb:=pS (Gg hj);have hc:=AaK a[i] b[i];refine⟨_,⟨BE i,gb⟩,_,_,_,rfl,hc,λhe=>?_,λhe=>?_⟩
   ·have hne:a[i]≠b[i]:=by
     intro e;have:¬Iq a[i] b[i]=0:=by simpa using he
     exact this (by rw[e,Iq,Ao Aa,Ao Aa])
    rw[<-h3,Ax hi,Ax hj,Fq,Ao hne];exact⟨_,rfl⟩
   ·have hq:a[i]=b[i]:=CF λhne=>by
     have:Iq a[i] b[i]=0:=by simpa using he
     exact VS hne this
    refine⟨Aa,i+1,Aa,.cons rfl rfl (.cons rfl rfl (.cons rfl rfl (.cons rfl rfl (.cons rfl rfl (.nil _))))),rfl,hi,hj,?_⟩;rw[<-h3,Ax hi,Ax hj,Fq,Aj hq]
 ·have hi:a.length<=i:=by have:=B5 h;omega
  have e:a.drop i=[]:=CC hi;refine⟨λh'=>?_,λh'=>?_⟩
  ·have hj:i<b.length:=by have:=B0 h';omega
   rw[<-h3,e,Ax hj];exact⟨_,rfl⟩
  ·have hj:b.length<=i:=by have:=B5 h';omega
   rw[<-h3,e,CC hj];exact⟨_,rfl⟩
structure Xt:Prop where
 ne:∀d,d<16->A3 Fn 187 [dA d] (bA (d !=0))
 neR:∀d,d<16->A3 Fn 160 [dA d] (bA (d !=0))
 ZK:∀d,d<16->A3 Fn 109 [dA d] (dA (15-d))
 uni:∀d,d<16->A3 Fn 105 [dA d,dA 15] (dA 15)
 int:A3 Fn 106 [dA 15,dA 15] (dA 15)
 ZL:A3 Fn 48 [dA 15,dA 0] (bA false)
 ZN:A3 Fn 48 [dA 15,dA 15] (bA true)
 con:A3 Fn 25 [bA true] (dA 15)
structure WF (f:Fo):Prop where
 n0:f.ns≠[]
 r0:f.rs≠[]
 len:f.ns.length<1000000
 Nl:f.rs.length<1000000
 as0:∀(i:Nat) (n:Nd),f.ns[i]?=some n->n.az≠[]
 Kw:∀(i:Nat) (n:Nd),f.ns[i]?=some n->n.az.length<1000000
 al:∀(i:Nat) (n:Nd),f.ns[i]?=some n->∀a∈n.az,a.ks.length<=2/\(∀k∈a.ks,k<i)/\a.d<16/\a.d≠0
 place:∀(i:Nat) (m n:Nd),f.ns[i]?=some m->f.ns[i+1]?=some n->Fq [0,0,(m.left:Int),(m.copy:Int)] [0,0,(n.left:Int),(n.copy:Int)]<0
 key:∀(i:Nat) (n:Nd),f.ns[i]?=some n->∀(k:Nat) (a b:Al),n.az[k]?=some a->n.az[k+1]?=some b->Fq (M7 a) (M7 b)<0
 rt:∀(i:Nat) (r:Nat×Nat),f.rs[i]?=some r->r.1<f.ns.length/\r.2<16/\r.2≠0
 asc:∀(i:Nat) (r q:Nat×Nat),f.rs[i]?=some r->f.rs[i+1]?=some q->r.1<q.1
theorem AaL {l:List Al} (h:l≠[]):asV l=.lst 4 (l.map aV) none:=by cases l with|nil=>exact absurd rfl h|cons=>rfl
theorem E4 {f:Fo} (h:f.ns≠[]) (h2:f.rs≠[]):foA f=.v (.agg [.lst 5 (f.ns.map nV) none,.lst 3 (f.rs.map rV) none]):=by
 obtain⟨ns,rs⟩:=f;cases ns with
 |nil=>exact absurd rfl h
 |cons=>cases rs with
  |nil=>exact absurd rfl h2
  |cons=>rfl
abbrev foB (f:Fo):B4:=ob [.lst 5 (f.ns.map nV) none,.lst 3 (f.rs.map rV) none]
theorem Zu (n:Nd):A3 Fn 185 [.v (.agg (nV n))] (PA.lst 1 (iL [0,0,(n.left:Int),(n.copy:Int)])):=by obtain⟨l,c,az⟩:=n;refine Ej pv C.f185 rfl ?_;exact⟨_,rfl⟩
theorem mV {d:Nat} (h:d≠0):(d !=0)=true:=by simpa using h
abbrev nC (n:Nd):Ey:=[.int .i64 n.left,.int .i64 0,.int .i64 0,.int .i64 n.copy,.lst 4 (n.az.map aV) none]
theorem J2 {n:Nd} (h:n.az≠[]):nV n=nC n:=by rw[nV,AaL h]
abbrev aC (a:Al):Ey:=[.int .i64 a.p,ksV a.ks,dN a.d,.int .i64 (dR a.d)]
theorem Ra {a:Al} (h:a.ks.length<=2):(M7 a).length<1000000:=by obtain⟨p,ks,d⟩:=a;rcases ks with _|⟨x,_|⟨y,_|⟨z,ks⟩⟩⟩;all_goals simp[M7] at h ⊢
theorem Fv (es:Nat) (l:Eu):Hl (slV es l):=by cases l<;>exact Ae
abbrev foL (f:Fo) (i:Nat):Fm:=[pE k1 k0,sE k3 (.func 185 [] []),(k11,.v (PA.lst 5 (f.ns.map nV))),(k12,.v (iA (f.ns.map nV).length)),(k13,.v (iA i))]
theorem Ii {l:List Al} {k:Nat} {a:Al} (h:l[k]?=some a):(l.map aV)[(k:Int).toNat]?=some (aC a):=by simp[h,aV]
theorem Je {l:Es} {k:Nat} {a:Nat×Nat} (h:l[k]?=some a):(l.map rV)[(k:Int).toNat]?=some [.int .i64 a.1,dN a.2,.int .i64 (dR a.2)]:=by simp[h,rV]
theorem KU (D:Xt) {f:Fo} (w:WF f):A3 Fn 124 [foA f] (bA true):=by
 have hlen:(f.ns.map nV).length=f.ns.length:=Lm ..;have hrlen:(f.rs.map rV).length=f.rs.length:=Lm ..;have hL:=w.len;have gn:∀(i:Nat) (n:Nd),f.ns[i]?=some n->(f.ns.map nV)[(i:Int).toNat]?=some (nC n):=λi n h=>by rw[I6 h,J2 (w.as0 i n h)]
 have hf:=E4 w.n0 w.r0;rw[hf];refine Ej pv C.f124 rfl ?_;refine XW.B6 (pu:=pv) (σ:=Nat) (λi=>f.ns.length-i) (foL f)
  (λi g=>g=mkH [(k0,foB f)] k1/\i<=f.ns.length) 0
  (El [(k0,foB f)] k1 [(k0,k0)]) ⟨rfl,Zl⟩ ?_
 rintro i g ⟨rfl,hi⟩;refine⟨λh=>?_,λh=>?_⟩
 ·have hi:i<f.ns.length:=by have:=B0 h;omega
  have hn:f.ns[i]?=some f.ns[i]:=Gg hi;generalize hnn:f.ns[i]=n at hn;have hg:=gn i n hn;have nlen:(n.az.map aV).length=n.az.length:=Lm ..;have nL:=w.Kw i n hn;have hnp:0<n.az.length:=AS.2 (w.as0 i n hn);have pn:=Zu n;rw[J2 (w.as0 i n hn)] at pn;refine⟨_,⟨Aa,hg⟩,?_⟩;have prev:¬0<i∨0<i/\∃m:Nd,(f.ns.map nV)[((i:Int)-1).toNat]?=some (nC m)/\A3 Fn 185 [PA.v (PC.agg (nC m))] (PA.lst 1 (iL [0,0,(m.left:Int),(m.copy:Int)]))/\A3 Fn 186 [PA.lst 1 (iL [0,0,(m.left:Int),(m.copy:Int)]),PA.lst 1 (iL [0,0,(n.left:Int),(n.copy:Int)])] (iA (Fq [0,0,(m.left:Int),(m.copy:Int)] [0,0,(n.left:Int),(n.copy:Int)]))/\Fq [0,0,(m.left:Int),(m.copy:Int)] [0,0,(n.left:Int),(n.copy:Int)]<0:=by
   by_cases hi0:0<i;case neg=>exact .inl hi0
   have hm:f.ns[i-1]?=some f.ns[i-1]:=Gg Aa;generalize hmm:f.ns[i-1]=m at hm;have hg1:=gn (i-1) m hm;rw[show((i-1:Nat):Int)=(i:Int)-1 from Aa] at hg1;have pm:=Zu m;rw[J2 (w.as0 _ m hm)] at pm;exact .inr ⟨hi0,m,hg1,pm,Sr _ _ (Cn rfl) (Cn rfl),w.place (i-1) m n hm (by rw[show i-1+1=i from Aa];exact hn)⟩
  obtain hi0|⟨hi0,m,hg1,pm,cm,hpl⟩:=prev;all_goals refine Yw1 ?_
  all_goals
   refine XW.B6 (pu:=pv) (σ:=Nat) (λj=>n.az.length-j) (λj=>(k5,.v (.v (.s (.ptr k1 0))))::(k64,.v (PA.lst 4 (n.az.map aV)))::(k65,.v (iA (n.az.map aV).length))::(k66,.v (iA j))::foL f i)
    (λj g=>g=mkH [(k0,foB f),(k1,ob (nC n))] k2/\j<=n.az.length) 0
    (El [(k0,foB f),(k1,ob (nC n))] k2 [(k0,k0),(k1,k1)]) ⟨rfl,Zl⟩ ?_
   rintro j g ⟨rfl,hj⟩
   refine⟨λh=>?_,λh=>?_⟩
   ·have hj:j<n.az.length:=by have:=B0 h;omega
    have ha:n.az[j]?=some n.az[j]:=Gg hj
    generalize haa:n.az[j]=a at ha
    have hga:=Ii ha
    obtain⟨a1,a2,a3,a4⟩:=w.al i n hn a (Aq ha)
    have ne:=D.ne a.d a3
    rw[mV a4] at ne
    have ps:=PL f n a a1 (λk hk=>DV (a2 k hk) hi) w.len w.n0
    rw[hf,J2 (w.as0 i n hn)] at ps
    have ka:=pX a a1
    refine⟨_,⟨Aa,hga⟩,?_⟩
    have prevA:¬0<j∨0<j/\∃b:Al,(n.az.map aV)[((j:Int)-1).toNat]?=some (aC b)/\A3 Fn 189 [.v (.agg (aC b))] (PA.lst 1 (iL (M7 b)))/\A3 Fn 186 [PA.lst 1 (iL (M7 b)),PA.lst 1 (iL (M7 a))] (iA (Fq (M7 b) (M7 a)))/\Fq (M7 b) (M7 a)<0:=by
     by_cases hj0:0<j
     case neg=>exact .inl hj0
     have hb:n.az[j-1]?=some n.az[j-1]:=Gg Aa
     generalize hbb:n.az[j-1]=b at hb
     have hgb:=Ii hb
     rw[show((j-1:Nat):Int)=(j:Int)-1 from Aa] at hgb
     have b1:=(w.al i n hn b (Aq hb)).1
     exact .inr ⟨hj0,b,hgb,pX b b1,Sr _ _ (Ra b1) (Ra a1),w.key i n hn (j-1) b a hb (by rw[show j-1+1=j from Aa];exact ha)⟩
    obtain hj0|⟨hj0,b,hgb,kb,ck,hke⟩:=prevA
    all_goals refine Yw1 ?_
    all_goals exact⟨j+1,_,_,Aa,El [(k0,foB f),(k1,ob (nC n))] k2 [(k0,k0),(k1,k1)],rfl,Aa⟩
   ·refine Yw1 ?_
    exact⟨i+1,_,_,Aa,El [(k0,foB f)] k1 [(k0,k0)],rfl,Aa⟩
 ·refine Yw1 ?_;refine XW.B6 (pu:=pv) (σ:=Nat) (λj=>f.rs.length-j) (λj=>[pE k1 k0,(k107,.v (PA.lst 3 (f.rs.map rV))),(k108,.v (iA (f.rs.map rV).length)),(k109,.v (iA j))])
   (λj g=>g=mkH [(k0,foB f)] k1/\j<=f.rs.length) 0
   (El [(k0,foB f)] k1 [(k0,k0)]) ⟨rfl,Zl⟩ ?_
  rintro j g ⟨rfl,hj⟩;refine⟨λh=>?_,λh=>?_⟩
  ·have hj:j<f.rs.length:=by have:=B0 h;omega
   have rL:=w.Nl;have hr:f.rs[j]?=some f.rs[j]:=Gg hj;generalize hrr:f.rs[j]=r at hr;have hgr:=Je hr;obtain⟨r1,r2,r3⟩:=w.rt j r hr;have ne:=D.ne r.2 r2;rw[mV r3] at ne;have prev:¬0<j∨0<j/\∃q:Nat×Nat,(f.rs.map rV)[((j:Int)-1).toNat]?=some [.int .i64 q.1,dN q.2,.int .i64 (dR q.2)]/\q.1<r.1:=by
    by_cases hj0:0<j;case neg=>exact .inl hj0
    have hq:f.rs[j-1]?=some f.rs[j-1]:=Gg Aa;have hgq:=Je hq;rw[show((j-1:Nat):Int)=(j:Int)-1 from Aa] at hgq;exact .inr ⟨hj0,_,hgq,w.asc (j-1) _ r hq (by rw[show j-1+1=j from Aa];exact hr)⟩
   refine⟨_,⟨Aa,hgr⟩,?_⟩;obtain hj0|⟨hj0,q,hgq,hlt⟩:=prev
   all_goals refine Yw1 ?_
   all_goals exact⟨j+1,_,_,Aa,El [(k0,foB f)] k1 [(k0,k0)],rfl,Aa⟩
  ·exact Yw0
def lt2 (a b:Al):Bool:=decide (Fq (M7 a) (M7 b)<0)
def chain:List Al->Bool
 |a::b::l=>lt2 a b&&chain (b::l)
 |_=>true
def fmB (n:Nd):Bool:=!n.az.isEmpty&&chain n.az
theorem iW:∀{l:List Al},(∀k a b,l[k]?=some a->l[k+1]?=some b->lt2 a b=true)->chain l=true
 |[],_=>rfl
 |[a],_=>rfl
 |a::b::l,h=>by simp only[chain,Au];exact⟨h 0 a b rfl rfl,iW λk x y hx hy=>h (k+1) x y hx hy⟩
theorem Zv:∀{l:List Al},chain l=true->∀k a b,l[k]?=some a->l[k+1]?=some b->lt2 a b=true
 |[],_,k,a,b,h,_=>Ad
 |[a],_,k,x,y,hx,hy=>by cases k<;>simp at hy
 |a::b::l,h,k,x,y,hx,hy=>by
  simp only[chain,Au] at h;cases k with
  |zero=>simp at hx hy;subst hx;subst hy;exact h.1
  |succ k=>exact Zv h.2 k x y (by simpa using hx) (by simpa using hy)
structure WF0 (f:Fo):Prop where
 n0:f.ns≠[]
 r0:f.rs≠[]
 len:f.ns.length<=4
 Nl:f.rs.length=f.ns.length
 Kw:∀(i:Nat) (n:Nd),f.ns[i]?=some n->n.az.length<=3
 al:∀(i:Nat) (n:Nd),f.ns[i]?=some n->∀a∈n.az,a.ks.length<=2/\(∀k∈a.ks,k<i)/\a.d<16/\a.d≠0/\a.p<3
 place:∀(i:Nat) (m n:Nd),f.ns[i]?=some m->f.ns[i+1]?=some n->Fq [0,0,(m.left:Int),(m.copy:Int)] [0,0,(n.left:Int),(n.copy:Int)]<0
 rt:∀(i:Nat) (r:Nat×Nat),f.rs[i]?=some r->r.1=i/\r.2<16/\r.2≠0
theorem WF0.wf {f:Fo} (w:WF0 f) (h:∀n∈f.ns,fmB n=true):WF f where
 n0:=w.n0
 r0:=w.r0
 len:=by have:=w.len;omega
 Nl:=by have:=w.len;have:=w.Nl;omega
 as0 i n hn e:=by have:=h n (Aq hn);simp[fmB,e] at this
 Kw i n hn:=by have:=w.Kw i n hn;omega
 al i n hn a ha:=by obtain⟨h1,h2,h3,h4,_⟩:=w.al i n hn a ha;exact⟨h1,h2,h3,h4⟩
 place:=w.place
 key i n hn k a b ha hb:=by have:=h n (Aq hn);simp only[fmB,Au] at this;exact BB (Zv this.2 k a b ha hb)
 rt i r hr:=by obtain⟨h1,h2,h3⟩:=w.rt i r hr;have:=(Gi.1 hr).1;have:=w.Nl;exact⟨Aa,h2,h3⟩
 asc i r q hr hq:=by have:=(w.rt i r hr).1;have:=(w.rt _ q hq).1;omega
theorem zC (D:Xt) {f:Fo} (w:WF0 f) {i:Nat} {n:Nd} (hn:f.ns[i]?=some n):A3 Fn 87 [foA f,iA i] (bA (fmB n)):=by
 have hlen:(f.ns.map nV).length=f.ns.length:=Lm ..;have hL:=w.len;have hi:i<f.ns.length:=(Gi.1 hn).1;have hf:=E4 w.n0 w.r0;rw[hf];have hg:=I6 hn;refine Ej pv C.f87 rfl ?_;refine⟨_,⟨Aa,hg⟩,?_⟩;by_cases h0:n.az=[];·obtain⟨l,c,az⟩:=n;subst h0;exact Yw0
 have nlen:(n.az.map aV).length=n.az.length:=Lm ..;have nL:=w.Kw i n hn;have hnp:0<n.az.length:=AS.2 h0;rw[J2 h0] at hg ⊢;have prev:¬0<i∨0<i/\∃m:Nd,(f.ns.map nV)[((i:Int)-1).toNat]?=some (nV m)/\A3 Fn 159 [PA.lst 1 (iL [0,0,(m.left:Int),(m.copy:Int)]),PA.lst 1 (iL [0,0,(n.left:Int),(n.copy:Int)])] (iA (Fq [0,0,(m.left:Int),(m.copy:Int)] [0,0,(n.left:Int),(n.copy:Int)]))/\Fq [0,0,(m.left:Int),(m.copy:Int)] [0,0,(n.left:Int),(n.copy:Int)]<0:=by
  by_cases hi0:0<i;case neg=>exact .inl hi0
  have hm:f.ns[i-1]?=some f.ns[i-1]:=Gg Aa;generalize hmm:f.ns[i-1]=m at hm;have hg1:=I6 hm;rw[show((i-1:Nat):Int)=(i:Int)-1 from Aa] at hg1;exact .inr ⟨hi0,m,hg1,dG _ _ (Cn rfl) (Cn rfl),w.place (i-1) m n hm (by rw[show i-1+1=i from Aa];exact hn)⟩
 obtain hi0|⟨hi0,m,hg1,cm,hpl⟩:=prev;all_goals refine Yw1 ?_
 all_goals
  refine XW.B6 (pu:=pv) (σ:=Nat) (λj=>n.az.length-j) (λj=>[pE k2 k0,pE k5 k1,(k7,.v (iA j))])
   (λj g=>g=mkH [(k0,foB f),(k1,ob (nC n))] k2/\j<=n.az.length/\∀k a b,k+1<j->n.az[k]?=some a->n.az[k+1]?=some b->lt2 a b=true) 0
   (El [(k0,foB f),(k1,ob (nC n))] k2 [(k0,k0),(k1,k1)]) ⟨rfl,Zl,λk a b h=>absurd h Aa⟩ ?_
  rintro j g ⟨rfl,hj,hc⟩
  refine⟨λh=>?_,λh=>?_⟩
  ·have hj:j<n.az.length:=by have:=B0 h;omega
   have ha:n.az[j]?=some n.az[j]:=Gg hj
   generalize haa:n.az[j]=a at ha
   have hga:=Ii ha
   obtain⟨a1,a2,a3,a4,_⟩:=w.al i n hn a (Aq ha)
   have ne:=D.neR a.d a3
   rw[mV a4] at ne
   have ps:=VR f n a a1 (λk hk=>DV (a2 k hk) hi) Aa w.n0
   rw[hf,J2 h0] at ps
   have ka:=vH a a1
   have prevA:¬0<j∨0<j/\∃b:Al,n.az[j-1]?=some b/\(n.az.map aV)[((j:Int)-1).toNat]?=some (aC b)/\A3 Fn 162 [.v (.agg (aC b))] (PA.lst 1 (iL (M7 b)))/\A3 Fn 159 [PA.lst 1 (iL (M7 b)),PA.lst 1 (iL (M7 a))] (iA (Fq (M7 b) (M7 a))):=by
    by_cases hj0:0<j
    case neg=>exact .inl hj0
    have hb:n.az[j-1]?=some n.az[j-1]:=Gg Aa
    generalize hbb:n.az[j-1]=b at hb
    have hgb:=Ii hb
    rw[show((j-1:Nat):Int)=(j:Int)-1 from Aa] at hgb
    have b1:=(w.al i n hn b (Aq hb)).1
    exact .inr ⟨hj0,b,hb,hgb,vH b b1,dG _ _ (Ra b1) (Ra a1)⟩
   refine⟨_,⟨Aa,hga⟩,?_⟩
   obtain hj0|⟨hj0,b,hb,hgb,kb,ck⟩:=prevA
   ·refine Yw1 ?_
    exact⟨j+1,_,_,Aa,El [(k0,foB f),(k1,ob (nC n))] k2 [(k0,k0),(k1,k1)],rfl,Aa,λk x y hk=>absurd hk Aa⟩
   ·refine Yw2 (λh=>?_) (λh=>?_)
    ·have e:fmB n=false:=by
      cases hh:fmB n with
      |false=>rfl
      |true=>
       simp only[fmB,Au] at hh
       have:=BB (Zv hh.2 (j-1) b a hb (by rw[show j-1+1=j from Aa];exact ha))
       omega
     rw[e];exact⟨_,rfl⟩
    ·refine⟨j+1,_,_,Aa,El [(k0,foB f),(k1,ob (nC n))] k2 [(k0,k0),(k1,k1)],rfl,Aa,λk x y hk hx hy=>?_⟩
     by_cases hkj:k+1<j
     ·exact hc k x y hkj hx hy
     ·have e1:k=j-1:=Aa
      subst e1
      rw[hb] at hx;cases hx
      rw[show j-1+1=j from Aa,ha] at hy;cases hy
      exact Ch Aa
  ·have e:fmB n=true:=by
    have hjj:j=n.az.length:=by have:=B5 h;omega
    simp only[fmB,Au]
    refine⟨by simpa using h0,iW λk a b ha hb=>hc k a b ?_ ha hb⟩
    have:=(Gi.1 hb).1
    omega
   rw[e]
   exact Yw0
end Go.Pv
end
section
noncomputable section
namespace Go.Pv
open Go.Vm
open Go.Vm.Key (kn)
set_option maxRecDepth 40000
set_option maxHeartbeats 0
theorem GZ {g:A0} {b:Key} {c:Ey} {own frz:Bool} {anc:ED} {log:Es} (hg:g.get b=some ⟨.cells c,own,frz,anc,log⟩) {o n:Nat} (h:o+n<=c.length):g.read b o n=some ((c.drop o).take n):=by
 unfold A0.read;by_cases h0:n=0;·subst h0;simp
 ·rw[Ao h0];simp only[A0.cells,hg,Aj h]
theorem ld1 {g:A0} {b:Key} {c:Ey} {own frz:Bool} {anc:ED} {log:Es} {o:Nat} {x:PV} (hg:g.get b=some ⟨.cells c,own,frz,anc,log⟩) (h:c[o]?=some x):opP .Fb [.v (.s (.ptr b o))] g=some (.v (.s x),g):=by obtain⟨h1,h2⟩:=Gi.1 h;simp only[opP,Qc,GZ hg (show o+1<=c.length from h1)];rw[Ax h1,h2];rfl
theorem vJ {g:A0} {b:Key} {c:Ey} {log:Es} (hg:g.get b=some ⟨.cells c,true,false,[],log⟩) {o:Nat} {l:Ey} (h:o+l.length<=c.length):g.write b o l=some (g.upd b (some ⟨.cells (A0.over c o l),true,false,[],(o,l.length)::log⟩)):=by unfold A0.write;rw[hg];simp only;rw[Aj ⟨h,rfl⟩];rfl
theorem PN {c:Ey} {o:Nat} {y:PV} (h:o<c.length):A0.over c o [y]=c.set o y:=by simp only[A0.over,Ap,BO];rw[List.set_eq_take_append_cons_drop,Aj h];simp
theorem st1 {g:A0} {b:Key} {c:Ey} {log:Es} {o:Nat} {y:PV} (hg:g.get b=some ⟨.cells c,true,false,[],log⟩) (h:o<c.length):opP (.store 1) [.v (.s (.ptr b o)),.v (.s y)] g=some (.unit,g.upd b (some ⟨.cells (c.set o y),true,false,[],(o,1)::log⟩)):=by simp only[opP,Qd,PC.cells,Ap,BO,Ak];rw[vJ hg (by simp only[Ap,BO];omega),PN h];rfl
theorem Te {g:A0} {b:Key} {c:Ey} {own frz:Bool} {anc:ED} {log:Es} {i:Nat} {x:PV} (hg:g.get b=some ⟨.cells c,own,frz,anc,log⟩) (h:c[i]?=some x):opP .Fb [.v (.s (.ptr b (0+(i:Int).toNat*1)))] g=some (.v (.s x),g):=ld1 hg (by simpa using h)
theorem Tf {g:A0} {b:Key} {c c':Ey} {log:Es} {i:Nat} {y:PV} (hg:g.get b=some ⟨.cells c,true,false,[],log⟩) (h:i<c.length) (hc:c.set i y=c'):opP (.store 1) [.v (.s (.ptr b (0+(i:Int).toNat*1))),.v (.s y)] g=some (.unit,g.upd b (some ⟨.cells c',true,false,[],(i,1)::log⟩)):=by have:=st1 (y:=y) hg h;rw[hc] at this;simpa using this
def C9 {α:Type} (f:α->Ey) (l:List α):Ey:=l.flatMap f
section
variable {α:Type} {f:α->Ey} {es:Nat}
theorem Kc (hf:∀x,(f x).length=es):∀l:List α,(C9 f l).length=l.length*es
 |[]=>by simp[C9]
 |x::l=>by have:=Kc hf l;simp only[C9,Bf,La,hf,Ap] at this ⊢;rw[this,DG,DW]
theorem eQ (hf:∀x,(f x).length=es):∀{l:List α} {i:Nat} {x:α},l[i]?=some x->((C9 f l).drop (i*es)).take es=f x/\i*es+es<=(C9 f l).length
 |[],i,x,h=>Ad
 |y::l,0,x,h=>by
  cases h;have h1:(f y).length=es:=hf y;refine⟨?_,?_⟩;·simp only[C9,Bf,Bo,CG];rw[List.take_append_of_le_length Aa,Cb Aa]
  ·rw[Kc hf,Ap,DG];omega
 |y::l,i+1,x,h=>by
  have h1:(f y).length=es:=hf y;obtain⟨h2,h3⟩:=eQ hf (l:=l) (i:=i) (x:=x) (by simpa using h);rw[Kc hf] at h3;refine⟨?_,?_⟩;·rw[<-h2];simp only[C9,Bf,DG];rw[List.drop_append,Cd Aa,h1,Dx];simp
  ·rw[Kc hf,Ap,DG,DG];omega
theorem vK (hf:∀x,(f x).length=es):∀{l:List α} {i:Nat} {y:α},i<l.length->A0.over (C9 f l) (i*es) (f y)=C9 f (l.set i y)
 |[],i,x,h=>Ad
 |z::l,0,x,h=>by have h1:(f z).length=es:=hf z;simp only[C9,A0.over,Bf,Bo,Ea,Bw,AO,hf x,CE];rw[List.drop_append_of_le_length Aa,Cd Aa];simp
 |z::l,i+1,x,h=>by have h1:(f z).length=es:=hf z;have:=vK hf (l:=l) (i:=i) (y:=x) (by simpa using h);simp only[C9,A0.over,Bf,hf x,DY,DG] at this ⊢;rw[<-this];rw[List.take_append,Cb Aa,h1,Dx,List.drop_append,Cd (show(f z).length<=i*es+es+es by omega),h1,show i*es+es+es-es=i*es+es from Aa];simp
theorem KV (hf:∀x,(f x).length=es) {l:List α} {i k:Nat} {x:α} (h:l[i]?=some x) (hk:k<es):(C9 f l)[i*es+k]?=(f x)[k]?:=by obtain⟨h1,h2⟩:=eQ hf h;rw[<-h1,List.getElem?_take_of_lt hk,BF]
theorem ldf (hf:∀x,(f x).length=es) {g:A0} {b:Key} {own frz:Bool} {anc:ED} {log:Es} {l:List α} {i k:Nat} {x:α} {y:PV} (hg:g.get b=some ⟨.cells (C9 f l),own,frz,anc,log⟩) (h:l[i]?=some x) (hk:k<es) (hy:(f x)[k]?=some y):opP .Fb [.v (.s (.ptr b (0+(i:Int).toNat*es+k)))] g=some (.v (.s y),g):=by refine ld1 hg ?_;rw[AO,Bj,KV hf h hk,hy]
theorem ldn (hf:∀x,(f x).length=es) {g:A0} {b:Key} {own frz:Bool} {anc:ED} {log:Es} {l:List α} {i:Nat} {x:α} (hg:g.get b=some ⟨.cells (C9 f l),own,frz,anc,log⟩) (h:l[i]?=some x):opP (.Fl es) [.v (.s (.ptr b (0+(i:Int).toNat*es)))] g=some (.v (.agg (f x)),g):=by obtain⟨h1,h2⟩:=eQ hf h;simp only[opP,AO,Bj,Km,GZ hg h2,h1]
theorem stn (hf:∀x,(f x).length=es) {g:A0} {b:Key} {log:Es} {l:List α} {i:Nat} {y:α} (hg:g.get b=some ⟨.cells (C9 f l),true,false,[],log⟩) (h:i<l.length):opP (.store es) [.v (.s (.ptr b (0+(i:Int).toNat*es))),.v (.agg (f y))] g=some (.unit,g.upd b (some ⟨.cells (C9 f (l.set i y)),true,false,[],(i*es,es)::log⟩)):=by have h2:i*es+es<=(C9 f l).length:=(eQ hf (Gg h)).2;simp only[opP,AO,Bj,Qd,PC.cells,hf,Ak];rw[vJ hg (by rw[hf];exact h2),vK hf h,hf]
end
end Go.Pv
end
section
noncomputable section
namespace Go.Pv
open Go.Vm Go.Vm.C
open Go.Vm.Key (kn)
set_option maxRecDepth 40000
set_option maxHeartbeats 0
theorem KW (D:Xt) {f:Fo} (w:WF0 f):A3 Fn 88 [foA f] (bA true):=by
 have hlen:(f.ns.map nV).length=f.ns.length:=Lm ..;have hrlen:(f.rs.map rV).length=f.rs.length:=Lm ..;have hL:=w.len;have rL:=w.Nl;rw[E4 w.n0 w.r0];refine Ej pv C.f88 rfl ?_;refine XW.B6 (pu:=pv) (σ:=Nat) (λj=>f.rs.length-j) (λj=>[pE k1 k0,(k3,.v (iA j))])
  (λj g=>g=mkH [(k0,foB f)] k1/\j<=f.rs.length) 0
  (El [(k0,foB f)] k1 [(k0,k0)]) ⟨rfl,Zl⟩ ?_
 rintro j g ⟨rfl,hj⟩;refine⟨λh=>?_,λh=>?_⟩
 ·have hj:j<f.rs.length:=by have:=B0 h;omega
  have hr:f.rs[j]?=some f.rs[j]:=Gg hj;generalize hrr:f.rs[j]=r at hr;have hgr:=Je hr;obtain⟨r1,r2,r3⟩:=w.rt j r hr;have ne:=D.neR r.2 r2;rw[mV r3] at ne;have prev:¬0<j∨0<j/\∃q:Nat×Nat,(f.rs.map rV)[((j:Int)-1).toNat]?=some [.int .i64 q.1,dN q.2,.int .i64 (dR q.2)]/\q.1<r.1:=by
   by_cases hj0:0<j;case neg=>exact .inl hj0
   have hq:f.rs[j-1]?=some f.rs[j-1]:=Gg Aa;have hgq:=Je hq;rw[show((j-1:Nat):Int)=(j:Int)-1 from Aa] at hgq;have:=(w.rt (j-1) _ hq).1;exact .inr ⟨hj0,_,hgq,Aa⟩
  refine⟨_,⟨Aa,hgr⟩,?_⟩;obtain hj0|⟨hj0,q,hgq,hlt⟩:=prev
  all_goals refine Yw1 ?_
  all_goals exact⟨j+1,_,_,Aa,El [(k0,foB f)] k1 [(k0,k0)],rfl,Aa⟩
 ·exact Yw0
def bV (b:Bool):PV:=.bool b
theorem dH (z:PV):∀n,M8 [z] n=List.replicate n z
 |0=>rfl
 |n+1=>by rw[M8,dH z n];rfl
def upto (n j:Nat):Ey:=List.replicate j (bV true)++List.replicate (n-j) (bV false)
theorem PO {n j:Nat} (h:j<=n):(upto n j).length=n:=by simp[upto];omega
theorem PS {n j:Nat} (h:j<n):(upto n j).set j (bV true)=upto n (j+1):=by unfold upto;rw[CD _ _ Ac];simp only[Ck,Dl];rw[show n-j=(n-(j+1))+1 from Aa,Cx,CE,DJ,AN];rfl
theorem PT {n j:Nat}:(List.replicate n (bV true)).set j (bV true)=List.replicate n (bV true):=by simp
theorem pY (n:Nat) (b:Bool):∀v∈List.replicate n (bV b),A2 v:=λv h=>by rw[Br h];exact Ae
theorem HA (n j:Nat):∀v∈upto n j,A2 v:=λv h=>by
 rcases Av.1 h with h|h;·exact pY _ _ v h
 ·exact pY _ _ v h
theorem zD {f:Fo} (w:WF0 f) (v:WF f):A3 Fn 89 [foA f] (bA true):=by
 have hlen:(f.ns.map nV).length=f.ns.length:=Lm ..;have hrlen:(f.rs.map rV).length=f.rs.length:=Lm ..;have hL:=w.len;have rL:=w.Nl;rw[E4 w.n0 w.r0];refine Ej pv C.f89 rfl ?_;refine⟨_,_,Gz (n:=f.ns.length) rfl (by rw[hlen]) Aa Aa,?_⟩;rw[dH];refine XW.B6 (pu:=pv) (σ:=Nat) (λj=>f.rs.length-j) (λj=>[pE k1 k0,sE k3 (.slice k1 0 f.ns.length 1 (some f.ns.length)),(k4,.v (iA j))])
  (λj g=>g=mkH [(k0,foB f),(k1,ob (upto f.ns.length j))] k2/\j<=f.rs.length) 0
  (Em [(k0,foB f),(k1,ob (upto f.ns.length 0))] k2 [(k0,k0),(k1,k1)] ⟨⟨_,_,rfl,rfl,.same Yc⟩,⟨_,_,rfl,rfl,.same (A2.cells (HA _ _))⟩,Ae⟩ Yf) ⟨rfl,Zl⟩ ?_
 rintro j g ⟨rfl,hj⟩;refine⟨λh=>?_,λh=>?_⟩
 ·have hj:j<f.rs.length:=by have:=B0 h;omega
  have hr:f.rs[j]?=some f.rs[j]:=Gg hj;generalize hrr:f.rs[j]=r at hr;have hgr:=Je hr;obtain⟨r1,r2,r3⟩:=w.rt j r hr;rw[r1] at hgr;refine Yw1 ?_;refine⟨_,_,Tf rfl (by rw[PO Aa];omega) (PS Aa),?_⟩;refine Yw1 ?_;exact⟨j+1,_,_,Aa,Em [(k0,foB f),(k1,ob (upto f.ns.length (j+1)))] k2 [(k0,k0),(k1,k1)] ⟨⟨_,_,rfl,rfl,.same Yc⟩,⟨_,_,rfl,rfl,.same (A2.cells (HA _ _))⟩,Ae⟩ Yf,rfl,Aa⟩
 have hjj:j=f.ns.length:=by have:=B5 h;omega
 subst hjj;have hup:upto f.ns.length f.ns.length=List.replicate f.ns.length (bV true):=by simp[upto]
 rw[hup];have ge:∀i,i<f.ns.length->(List.replicate f.ns.length (bV true))[i]?=some (bV true):=λi hi=>by simp[hi]
 generalize hc:List.replicate f.ns.length (bV true)=c;have cl:c.length=f.ns.length:=by rw[<-hc];simp
 have cnk:∀v∈c,A2 v:=by rw[<-hc];exact pY _ _
 rw[hc] at ge;have tr:∀{L1 L2:Fm} {g1:A0} {log1:Es},g1.get k0=some (foB f)->g1.get k1=some (obl c log1)->Jz (rho 0 [(k0,k0),(k1,k1)]) L1 L2->Trim 0 (rho 0 [(k0,k0),(k1,k1)]) L1 g1 L2 (mkH [(k0,foB f),(k1,ob c)] k2):=λh1 h2 h3=>
  Trim.of [(k0,k0),(k1,k1)] rfl Zl Ae ⟨⟨_,_,rfl,h1,.same Yc⟩,⟨_,_,rfl,h2,.same (A2.cells cnk)⟩,Ae⟩ h3
 have cset:∀i,c.set i (bV true)=c:=λi=>by rw[<-hc];exact PT
 refine Yw1 ?_;refine XW.B6 (pu:=pv) (σ:=Nat) (λp=>f.ns.length-p) (λp=>[pE k1 k0,sE k3 (.slice k1 0 f.ns.length 1 (some f.ns.length)),(k5,.v (iA p))])
  (λp g=>g=mkH [(k0,foB f),(k1,ob c)] k2/\p<=f.ns.length) 0
  (tr rfl rfl Yf) ⟨rfl,Zl⟩ ?_
 rintro p g ⟨rfl,hp⟩;refine⟨λh=>?_,λh=>?_⟩
 ·have hp:p<f.ns.length:=by have:=B0 h;omega
  refine XW.B6 (pu:=pv) (σ:=Nat) (λi=>f.ns.length-i) (λi=>[pE k1 k0,sE k3 (.slice k1 0 f.ns.length 1 (some f.ns.length)),(k5,.v (iA p)),(k6,.v (iA i))])
   (λi g=>g=mkH [(k0,foB f),(k1,ob c)] k2/\i<=f.ns.length) 0
   (tr rfl rfl Yf) ⟨rfl,Zl⟩ ?_
  rintro i g ⟨rfl,hi⟩;refine⟨λh=>?_,λh=>?_⟩
  ·have hi:i<f.ns.length:=by have:=B0 h;omega
   have hn:f.ns[i]?=some f.ns[i]:=Gg hi;generalize hnn:f.ns[i]=n at hn;have hg:=I6 hn;rw[J2 (v.as0 i n hn)] at hg;have nlen:(n.az.map aV).length=n.az.length:=Lm ..;have nL:=w.Kw i n hn;refine XW.B6 (pu:=pv) (σ:=Nat) (λj=>n.az.length-j) (λj=>[pE k1 k0,sE k3 (.slice k1 0 f.ns.length 1 (some f.ns.length)),(k5,.v (iA p)),(k6,.v (iA i)),(k7,.v (iA j))])
    (λj g=>g=mkH [(k0,foB f),(k1,ob c)] k2/\j<=n.az.length) 0
    (tr rfl rfl Yf) ⟨rfl,Zl⟩ ?_
   rintro j g ⟨rfl,hj⟩;refine⟨Aa,_,_,Te rfl (ge i hi),?_⟩;refine Yw2 (λh=>?_) (λh=>?_)
   ·have hj:j<n.az.length:=Aa;have ha:n.az[j]?=some n.az[j]:=Gg hj;generalize haa:n.az[j]=a at ha;have hga:=Ii ha;obtain⟨a1,a2,_⟩:=w.al i n hn a (Aq ha);obtain⟨ap,ks,d⟩:=a;rcases ks with _|⟨x,_|⟨y,_|⟨z,ks⟩⟩⟩
    ·refine Yy pv ?_;exact⟨j+1,_,_,Aa,tr rfl rfl Yf,rfl,Aa⟩
    ·have hx:=a2 x Ac;refine Yy pv ?_;refine⟨_,_,Tf rfl Aa (cset x),?_⟩;refine Yz pv ?_;exact⟨j+1,_,_,Aa,tr rfl rfl Yf,rfl,Aa⟩
    ·have hx:=a2 x Ac;have hy:=a2 y Ac;refine Yy pv ?_;refine⟨_,_,Tf rfl Aa (cset x),?_⟩;refine Yz pv ?_;refine⟨_,_,Tf rfl Aa (cset y),?_⟩;refine Yz pv ?_;exact⟨j+1,_,_,Aa,tr rfl rfl Yf,rfl,Aa⟩
    ·simp at a1
   ·exact⟨i+1,_,_,Aa,tr rfl rfl Yf,rfl,Aa⟩
  ·refine Yw1 ?_;exact⟨p+1,_,_,Aa,tr rfl rfl Yf,rfl,Aa⟩
 ·refine Yw1 ?_;refine XW.B6 (pu:=pv) (σ:=Nat) (λj=>f.ns.length-j) (λj=>[sE k3 (.slice k1 0 f.ns.length 1 (some f.ns.length)),(k9,.v (iA j))])
   (λj g=>g=mkH [(k0,foB f),(k1,ob c)] k2/\j<=f.ns.length) 0 (tr rfl rfl Yf) ⟨rfl,Zl⟩ ?_
  rintro j g ⟨rfl,hj⟩;refine⟨λh=>?_,λh=>?_⟩
  ·have hj:j<f.ns.length:=by have:=B0 h;omega
   refine Yw1 ?_;refine⟨_,_,Te rfl (ge j hj),?_⟩;refine Yw1 ?_;exact⟨j+1,_,_,Aa,tr rfl rfl Yf,rfl,Aa⟩
  ·exact Yw0
end Go.Pv
end
section
noncomputable section
namespace Go.Pv
open Go.Vm
open Go.Vm.Key (kn)
set_option maxRecDepth 40000
set_option maxHeartbeats 0
section
section
variable {ρ μ:EC} (inv:∀k k' j,μ k=some k'->ρ k'=some j->j=k)
include inv
theorem pZ:∀{l m n:List (Key×Nat)},rnK μ l=some m->rnK ρ m=some n->n=l
 |[],m,n,h,e=>by cases h;cases e;rfl
 |(k,o)::l,m,n,h,e=>by
  simp only[rnK] at h;split at h
  ·next j hj=>
   split at h
   ·next r hr=>
    cases h;simp only[rnK] at e;split at e
    ·next i hi=>
     split at e;·next q hq=>cases e;rw[inv k j i hj hi,pZ hr hq]
     ·cases e
    ·cases e
   ·cases h
  ·cases h
theorem qA {x y z:PV} (h:rnV μ x=some y) (e:rnV ρ y=some z):z=x:=by
 cases x with
 |ptr b o=>
  simp only[rnV] at h;split at h
  ·next j hj=>
   cases h;simp only[rnV] at e;split at e;·next i hi=>cases e;rw[inv b j i hj hi]
   ·cases e
  ·cases h
 |slice b o len es cap=>
  simp only[rnV] at h;split at h
  ·next j hj=>
   cases h;simp only[rnV] at e;split at e;·next i hi=>cases e;rw[inv b j i hj hi]
   ·cases e
  ·cases h
 |map b=>
  simp only[rnV] at h;split at h
  ·next j hj=>
   cases h;simp only[rnV] at e;split at e;·next i hi=>cases e;rw[inv b j i hj hi]
   ·cases e
  ·cases h
 |func f fs cs=>
  simp only[rnV] at h;split at h
  ·next a ha=>
   split at h
   ·next b hb=>
    cases h;simp only[rnV] at e;split at e
    ·next a' ha'=>
     split at e;·next b' hb'=>cases e;rw[pZ inv ha ha',pZ inv hb hb']
     ·cases e
    ·cases e
   ·cases h
  ·cases h
 |_=>simp only[rnV,Sj] at h;subst h;simp only[rnV,Sj] at e;exact e.symm
theorem iX:∀{l m n:Ey},A1 (λx y=>rnV μ x=some y) l m->A1 (λx y=>rnV ρ x=some y) m n->n=l
 |[],m,n,h,e=>by cases h;cases e;rfl
 |x::l,m,n,h,e=>by
  cases h with
  |cons h1 h2=>cases e with
   |cons e1 e2=>rw[qA inv h1 e1,iX h2 e2]
theorem HB {x y z:PC} (h:RnC μ x y) (e:RnC ρ y z):z=x:=by
 cases x<;>cases y<;>cases z<;>simp only[RnC] at h e;·rw[qA inv h e]
 ·rw[iX inv h e]
theorem VT {x y z:Hj} (h:RnB μ x y) (e:RnB ρ y z):z=x:=by
 cases x<;>cases y<;>cases z<;>simp only[RnB] at h e;·rw[iX inv h e]
 ·next l m n=>
  congr 1;induction h generalizing n with
  |nil=>cases e;rfl
  |cons h1 _ ih=>cases e with
   |cons e1 e2=>rw[ih _ e2,Prod.ext (HB inv h1.1 e1.1) (HB inv h1.2 e1.2)]
 ·next m n st m' n' st' m'' n'' st''=>
  obtain⟨h1,rfl,rfl⟩:=h;obtain⟨e1,rfl,rfl⟩:=e;rw[inv m m' m'' h1 e1]
theorem M6.rn {new:Es} {y y' x x':Hj} {C C':Body} (hx:RnB ρ y x) (hx':RnB μ x' y') (k:M6 new y y' C C'):M6 new x x' C C' where
 same e:=by obtain⟨h1,h2⟩:=k.same e;subst h1;exact⟨(VT inv hx' hx).symm,h2⟩
 kind l' e:=by subst e;cases y'<;>simp only[RnB] at hx';obtain⟨l,rfl⟩:=k.kind _ rfl;cases x<;>simp only[RnB] at hx;exact⟨_,rfl⟩
 cells l c m e1 e2:=by
  subst e1;cases y<;>simp only[RnB] at hx;obtain⟨l',c',h1,h2,h3,h4⟩:=k.cells _ c m rfl e2;subst h1;cases x'<;>simp only[RnB] at hx';refine⟨_,c',rfl,h2,by rw[A5 hx',h3,A5 hx],λi hi=>?_⟩;obtain⟨h5,h6⟩:=h4 i hi;refine⟨?_,h6⟩;next l1 l2=>
  cases e1:l2[i]? with
  |none=>have a1:=CJ.1 e1;refine(CJ.2 ?_).symm;rw[<-A5 hx,<-h3,<-A5 hx'];exact a1
  |some a=>obtain⟨b,hb,hab⟩:=D3 hx' i e1;rw[h5] at hb;obtain⟨d,hd,hbd⟩:=D3 hx i hb;rw[hd,qA inv hab hbd]
end
structure PU (ρ μ:EC) (g gc g2 gc':A0):Prop where
 old:∀k j,k.toNat<g.next.toNat->(μ k=some j↔ρ j=some k)
 new:∀k j,¬k.toNat<g.next.toNat->μ k=some j->¬j.toNat<gc.next.toNat
 rng:∀j k,ρ j=some k->k.toNat<g.next.toNat
 inj:∀k k' j,μ k=some j->μ k'=some j->k=k'
 dom:∀k j,μ k=some j->j.toNat<gc'.next.toNat->k.toNat<g2.next.toNat
 blk:∀k x,g2.get k=some x->(∃j y,μ k=some j/\gc'.get j=some y/\Ku μ gc' x y)∨(μ k=none/\g.get k=some x)
 dead:∀k,g2.get k=none->(∀j,μ k=some j->gc'.get j=none)/\(k.toNat<g.next.toNat->μ k=none->g.get k=none)
 next:g.next.toNat<=g2.next.toNat
 log:∀k j x x' y y',k.toNat<g.next.toNat->μ k=some j->g.get k=some x->g2.get k=some x'->gc.get j=some y->gc'.get j=some y'->∀new,y'.log=new++y.log->x'.log=new++x.log
variable {F:D5}
theorem vL {g gc:A0} {ρ:EC} (t:Trim 0 ρ [] g [] gc) {s:Sta} (hs:Good s) (hg:s.g=g):Good ⟨s.Z,Ren.via ρ s.p,gc,s.h⟩:=by subst hg;exact t.Ij (Z:=s.Z) (p:=s.p) (h:=s.h) hs
theorem iY {Z:ZM} {p:Ren} {ρ:EC}:∀{argc args:Ez},A1 (RnA ρ) argc args->∀{vs:EA},A1 (AR Z p) args vs->A1 (AR Z (Ren.via ρ p)) argc vs
 |[],[],.nil,[],.nil=>.nil
 |_::_,_::_,.cons a1 a2,_::_,.cons b1 b2=>.cons (pO a1 b1) (iY a2 b2)
theorem vN {g gc gc' g2:A0} {ρ μ:EC} (t:Trim 0 ρ [] g [] gc) {s:Sta} (hs:Good s) (hg:s.g=g) {Z':ZM} {pc:Ren} {h':Heap} {rc r:PA} {u:AV} (h2:Good ⟨Z',pc,gc',h'⟩)
  (h3:E1 gc.next.toNat s.h.next.toNat ⟨s.Z,Ren.via ρ s.p,gc,s.h⟩ ⟨Z',pc,gc',h'⟩) (h4:AR Z' pc rc u) (B:PU ρ μ g gc g2 gc') (hr:RnA μ r rc) :
  ∃p2,Good ⟨Z',p2,g2,h'⟩/\E1 s.g.next.toNat s.h.next.toNat s ⟨Z',p2,g2,h'⟩/\AR Z' p2 r u:=by
 subst hg;have hsc:=t.Ij (Z:=s.Z) (p:=s.p) (h:=s.h) hs;have nxh:=h3.nx.2;simp only at nxh;let p2:Ren:=λk=>match Nat.blt k.toNat s.g.next.toNat with
  |true=>s.p k
  |false=>(μ k).bind pc
 have lo:∀k:Key,k.toNat<s.g.next.toNat->p2 k=s.p k:=λk hk=>by
  have:Nat.blt k.toNat s.g.next.toNat=true:=by rw[Bs];exact hk
  simp only[p2,this]
 have hi:∀k:Key,¬k.toNat<s.g.next.toNat->p2 k=(μ k).bind pc:=λk hk=>by
  have:Nat.blt k.toNat s.g.next.toNat=false:=by
   cases hh:Nat.blt k.toNat s.g.next.toNat with
   |false=>rfl
   |true=>rw[Bs] at hh;exact absurd hh hk
  simp only[p2,this]
 have hvia:∀{j k b},ρ j=some k->s.p k=some b->Ren.via ρ s.p j=some b:=λe e'=>by rw[Qk e];exact e'
 have via':∀{j b},Ren.via ρ s.p j=some b->∃k,ρ j=some k/\s.p k=some b:=λe=>by simpa only[Ren.via,AL] using e
 have hmu:∀k j,μ k=some j->p2 k=pc j:=by
  intro k j e;by_cases hk:k.toNat<s.g.next.toNat
  ·rw[lo k hk];have e1:=(B.old k j hk).1 e;cases hp:s.p k with
   |some b=>exact(h3.ple j b (hvia e1 hp)).symm
   |none=>
    cases hc:pc j with
    |none=>rfl
    |some b=>
     rcases h3.Nk j b hc with h6|h6;·obtain⟨k',h7,h8⟩:=via' h6;rw[e1] at h7;cases h7;rw[hp] at h8;cases h8
     ·have:=(t.dom j k e1 hk).1;have h7:=h6.1;(try simp only at h7);omega
  ·rw[hi k hk,e];rfl
 have ple2:PLe (Ren.via μ pc) p2:=λk b e=>by simp only[Ren.via,AL] at e;obtain⟨j,e1,e2⟩:=e;rw[hmu k j e1];exact e2
 have pleS:PLe s.p p2:=λk b e=>by rw[lo k (hs.pk k b e).1];exact e
 have apart:∀k b,k.toNat<s.g.next.toNat->μ k=none->s.p k=some b->∀j,Ren.via ρ s.p j≠some b:=by intro k b hk hm hp j e;obtain⟨k',e1,e2⟩:=via' e;cases hs.inj k k' b hp e2;rw[(B.old k j hk).2 e1] at hm;cases hm
 have same:∀k b,k.toNat<s.g.next.toNat->μ k=none->s.p k=some b->h'.get b=s.h.get b:=λk b hk hm hp=>h3.frame b (hs.pk k b hp).2 (apart k b hk hm hp);have inv:∀k j i,μ k=some j->ρ j=some i->i=k:=by intro k j i e e';have h6:=B.rng j i e';exact B.inj i k j ((B.old i j h6).2 e') e
 refine⟨p2,?_,?_,?_⟩
 ·refine⟨⟨?_,?_,h2.z,?_⟩,⟨?_,h2.zr,h2.top⟩⟩
  ·intro k k' b e e';simp only at e e';have mix:∀k k',k.toNat<s.g.next.toNat->¬k'.toNat<s.g.next.toNat->p2 k=some b->p2 k'=some b->k=k':=by
    intro k k' hk hk' e e';rw[lo k hk] at e;rw[hi k' hk'] at e';simp only[AL] at e';obtain⟨j,e1,e2⟩:=e';rcases h3.Nk j b e2 with h6|h6
    ·obtain⟨i,h7,h8⟩:=via' h6;have:=hs.inj k i b e h8;subst this;exact(inv k' j k e1 h7)
    ·have:=(hs.pk k b e).2;have:=h6.2;(try simp only at this);omega
   by_cases hk:k.toNat<s.g.next.toNat<;>by_cases hk':k'.toNat<s.g.next.toNat;·rw[lo k hk] at e;rw[lo k' hk'] at e';exact hs.inj k k' b e e'
   ·exact mix k k' hk hk' e e'
   ·exact(mix k' k hk' hk e' e).symm
   ·rw[hi k hk] at e;rw[hi k' hk'] at e';simp only[AL] at e e';obtain⟨j,e1,e2⟩:=e;obtain⟨j',e3,e4⟩:=e';cases h2.inj j j' b e2 e4;exact B.inj k k' j e1 e3
  ·intro k x hx;rcases B.blk k x hx with⟨j,y,e1,e2,e3⟩|⟨e2,e3⟩
   ·obtain⟨b,z,e4,e5,e6⟩:=h2.blk j y e2;refine⟨b,z,by rw[show(⟨Z',p2,g2,h'⟩:Sta).p k=p2 k from rfl,hmu k j e1];exact e4,e5,⟨(GX e3.body e6.body).mono (λ_ _ h=>h) ple2,λho=>?_,λhf=>e6.Si (by rw[<-e3.frz];exact hf),λhf=>e6.frz (by rw[<-e3.frz];exact hf)⟩⟩;obtain⟨h7,h8⟩:=e3.own ho;obtain⟨h9,h10⟩:=e6.own h7;exact⟨h9,h8.rel h2.toGu hmu h10⟩
   ·obtain⟨b,z,e4,e5,e6⟩:=hs.blk k x e3;have e1:=(hs.pk k b e4).1;refine⟨b,z,pleS _ _ e4,by rw[show(⟨Z',p2,g2,h'⟩:Sta).h=h' from rfl,same k b e1 e2 e4];exact e5,⟨e6.body.mono h3.zle pleS,λho=>?_,λhf=>?_,λhf=>h3.zle _ _ (e6.frz hf)⟩⟩;·obtain⟨h9,h10⟩:=e6.own ho;exact⟨h9,h10.mono h3.zle pleS⟩
    ·cases hz:Z' b with
     |none=>exact hz
     |some c=>
      rcases h3.Jv b c hz with h6|⟨j,h6⟩|h6;·exact absurd (e6.Si hf) h6
      ·exact absurd h6 (apart k b e1 e2 e4 j)
      ·have:=(hs.pk k b e4).2;(try simp only at h6);omega
  ·intro k b hp hg2;simp only at hp hg2;obtain⟨d1,d2⟩:=B.dead k hg2;cases hm:μ k with
   |some j=>rw[hmu k j hm] at hp;exact h2.dead j b hp (d1 j hm)
   |none=>
    by_cases hk:k.toNat<s.g.next.toNat;·rw[lo k hk] at hp;show h'.get b=none;rw[same k b hk hm hp];exact hs.dead k b hp (d2 hk hm)
    ·rw[hi k hk,hm] at hp;cases hp
  ·intro k b hp;simp only at hp ⊢;have:=B.next;by_cases hk:k.toNat<s.g.next.toNat;·rw[lo k hk] at hp;have:=(hs.pk k b hp).2;exact⟨Aa,Aa⟩
   ·rw[hi k hk] at hp;simp only[AL] at hp;obtain⟨j,e1,e2⟩:=hp;have h6:=h2.pk j b e2;exact⟨B.dom k j e1 h6.1,h6.2⟩
 ·refine⟨⟨B.next,nxh⟩,h3.zle,pleS,?_,?_,?_,?_,?_⟩
  ·intro k b hp;simp only at hp;by_cases hk:k.toNat<s.g.next.toNat;·rw[lo k hk] at hp;exact .inl hp
   ·rw[hi k hk] at hp;simp only[AL] at hp;obtain⟨j,e1,e2⟩:=hp;rcases h3.Nk j b e2 with h6|h6
    ·have:=(hsc.pk j b h6).1;exact absurd this (B.new k j hk e1)
    ·exact .inr ⟨Aa,h6.2⟩
  ·intro b c hz;rcases h3.Jv b c hz with h6|⟨j,h6⟩|h6
   ·exact .inl h6
   ·obtain⟨k,_,h8⟩:=via' h6;exact .inr (.inl ⟨k,h8⟩)
   ·exact .inr (.inr h6)
  ·intro b hb hn;refine h3.frame b hb λj e=>?_;obtain⟨k,_,h8⟩:=via' e;exact hn k h8
  ·intro k b hp hg;simp only;cases hx:g2.get k with
   |none=>rfl
   |some x=>
    rcases B.blk k x hx with⟨j,y,e1,e2,e3⟩|⟨e2,e3⟩
    ·have e4:=(B.old k j (hs.pk k b hp).1).1 e1;have e5:gc.get j=none:=by
      cases hj:gc.get j with
      |none=>rfl
      |some z=>obtain⟨i,w,e6,e7,_⟩:=t.blk j z hj;rw[e4] at e6;cases e6;rw[hg] at e7;cases e7
     have:=h3.gone j b (hvia e4 hp) e5;simp only at this;rw[e2] at this;cases this
    ·rw[hg] at e3;cases e3
  ·intro k x x' hx hx';simp only at hx';obtain⟨b0,_,hp0,_⟩:=hs.blk k x hx;have hk:=(hs.pk k b0 hp0).1;rcases B.blk k x' hx' with⟨j,y',e1,e2,e3⟩|⟨e2,e3⟩
   ·have e4:=(B.old k j hk).1 e1;cases hj:gc.get j with
    |none=>rw[t.dead j k e4 hj] at hx;cases hx
    |some y=>obtain⟨i,w,e6,e7,e8⟩:=t.blk j y hj;rw[e4] at e6;cases e6;rw[hx] at e7;cases e7;obtain⟨new,l1,l2⟩:=h3.log j y y' hj e2;refine⟨new,B.log k j x x' y y' hk e1 hx hx' hj e2 new l1,λb z hp hz=>?_⟩;obtain⟨z',hz',hkp⟩:=l2 b z (hvia e4 hp) hz;exact⟨z',hz',M6.rn inv e8.body e3.body hkp⟩
   ·rw[hx] at e3;cases e3;refine⟨[],rfl,λb z hp hz=>⟨z,?_,M6.refl _ _⟩⟩;show h'.get b=some z;rw[same k b hk e2 hp];exact hz
 ·exact(pO hr h4).mono (λ_ _ h=>h) ple2
theorem XC.sub {f:Nat} {args argc:Ez} {g gc:A0} {ρ:EC} {R Rc:PA->A0->Prop} (t:Trim 0 ρ [] g [] gc) (ha:A1 (RnA ρ) argc args) (h:XC F f argc gc Rc)
  (hR:∀rc gc',Rc rc gc'->∃μ r g2,PU ρ μ g gc g2 gc'/\RnA μ r rc/\R r g2):XC F f args g R:=by intro s hs hg vs hv;obtain⟨N,u,h',Z',pc,rc,gc',h1,h2,h3,h4,h5⟩:=h _ (vL t hs hg) rfl vs (iY ha hv);obtain⟨μ,r,g2,B,hr,hRr⟩:=hR rc gc' h5;obtain⟨p2,k1,k2,k3⟩:=vN t hs hg h2 h3 h4 B hr;exact⟨N,u,h',Z',p2,r,g2,h1,k1,k2,k3,hRr⟩
def Lj:Ew->Ew
 |[]=>[]
 |(j,k)::r=>(k,j)::Lj r
theorem HC:∀{r:Ew} {ks js:ED} {lo nx:Nat} {l:List (Key×B4)},Gk lo nx l r ks js=true->∀j k,Gb r j=some k↔Gb (Lj r) k=some j
 |[],ks,js,lo,nx,l,_,j,k=>⟨λh=>Ad,λh=>Ad⟩
 |(a,b)::r,ks,js,lo,nx,l,h,j,k=>by
  simp only[Gk,Au,BC,Bs,AX,Dz] at h;obtain⟨⟨⟨⟨⟨⟨h1,h2⟩,h3⟩,h4⟩,h5⟩,h6⟩,h7⟩:=h;obtain⟨i1,i2⟩:=Li h7;have ih:=HC h7 j k;simp only[Gb,Lj];cases e1:keq a j<;>cases e2:keq b k<;>simp only;·exact ih
  ·have:=He e2;subst this;refine⟨λh=>?_,λh=>?_⟩;·exact absurd (BV ..) (i1 j b h).2.2.2.2.2
   ·simp only[Sj] at h;subst h;rw[Gy] at e1;cases e1
  ·have:=He e1;subst this;refine⟨λh=>?_,λh=>?_⟩;·simp only[Sj] at h;subst h;rw[Gy] at e2;cases e2
   ·exact absurd (BV ..) (i1 a k (ih.2 h)).2.2.2.2.1
  ·rw[He e1,He e2];simp
def muR (r nw:Ew):Key->EE:=Gb (Lj r++nw)
theorem bP:∀(a b:Ew) (k:Key),Gb (a++b) k=match Gb a k with
  |some j=>some j
  |none=>Gb b k
 |[],b,k=>rfl
 |(x,y)::a,b,k=>by
  simp only[AH,Gb];cases keq x k;·exact bP a b k
  ·rfl
def Mp (gn nx nx2:Nat):Ew->ED->ED->Bool
 |[],_,_=>true
 |(k,j)::r,ks,js=>Nat.ble gn k.toNat&&Nat.blt k.toNat nx2&&Nat.ble nx j.toNat&&!ks.any (keq k)&&!js.any (keq j)&&Mp gn nx nx2 r (k::ks) (j::js)
theorem Zw {gn nx nx2:Nat}:∀{r:Ew} {ks js:ED},Mp gn nx nx2 r ks js=true ->
  (∀k j,Gb r k=some j->gn<=k.toNat/\k.toNat<nx2/\nx<=j.toNat/\k∉ks/\j∉js)/\(∀k k' j,Gb r k=some j->Gb r k'=some j->k=k')
 |[],ks,js,_=>⟨λk j h=>Ad,λk k' j h=>Ad⟩
 |(a,b)::r,ks,js,h=>by
  simp only[Mp,Au,BC,Bs,AX,Dz] at h;obtain⟨⟨⟨⟨⟨h1,h2⟩,h3⟩,h5⟩,h6⟩,h7⟩:=h;obtain⟨i1,i2⟩:=Zw h7;have ha:a∉ks:=λhm=>by have:=h5 a hm;rw[Gy] at this;exact this rfl
  have hb:b∉js:=λhm=>by have:=h6 b hm;rw[Gy] at this;exact this rfl
  refine⟨λk j hk=>?_,λk k' j hk hk'=>?_⟩
  ·simp only[Gb] at hk;split at hk;·next he=>cases hk;rw[<-He he];exact⟨h1,h2,h3,ha,hb⟩
   ·obtain⟨a1,a2,a3,a5,a6⟩:=i1 k j hk;exact⟨a1,a2,a3,λhm=>a5 (BX _ hm),λhm=>a6 (BX _ hm)⟩
  ·simp only[Gb] at hk hk';cases e1:keq a k<;>cases e2:keq a k'<;>simp only[e1,e2] at hk hk';·exact i2 k k' j hk hk'
   ·cases hk';exact absurd (BV ..) (i1 k b hk).2.2.2.2
   ·cases hk;exact absurd (BV ..) (i1 k' b hk').2.2.2.2
   ·rw[<-He e1,<-He e2]
def Nb (mu:EC) (g gc':A0) (l:List (Key×B4)):Ew->List (Option B4)->Prop
 |[],[]=>True
 |(j,k)::r,some x::xs=>(∃y x0 y0,gc'.get j=some y/\Ku mu gc' x y/\g.get k=some x0/\Lr l j=some y0/\y0.log=[]/\x.log=y.log++x0.log)/\Nb mu g gc' l r xs
 |(j,_)::r,none::xs=>gc'.get j=none/\Nb mu g gc' l r xs
 |_,_=>False
def iZ (mu:EC) (gc':A0):Ew->List B4->Prop
 |[],[]=>True
 |(k,j)::r,x::xs=>(∃y,gc'.get j=some y/\Ku mu gc' x y)/\iZ mu gc' r xs
 |_,_=>False
def Uv (t:Tr B4):Ew->List (Option B4)->Tr B4
 |(_,k)::r,x::xs=>(Uv t r xs).upd k x
 |_,_=>t
def Xu (t:Tr B4):Ew->List B4->Tr B4
 |(k,_)::r,x::xs=>(Xu t r xs).upd k (some x)
 |_,_=>t
theorem Zx {mu:EC} {g gc':A0} {l:List (Key×B4)} (t:Tr B4):∀{r:Ew} {xs:List (Option B4)},Nb mu g gc' l r xs->∀k,(Gb (Lj r) k=none/\(Uv t r xs).get k=t.get k) ∨
  (∃j x y x0 y0,Gb (Lj r) k=some j/\(Uv t r xs).get k=some x/\gc'.get j=some y/\Ku mu gc' x y/\g.get k=some x0/\Lr l j=some y0/\y0.log=[]/\x.log=y.log++x0.log) ∨
  (∃j,Gb (Lj r) k=some j/\(Uv t r xs).get k=none/\gc'.get j=none)
 |[],[],_,k=>.inl ⟨rfl,rfl⟩
 |[],_::_,h,k=>h.elim
 |_::_,[],h,k=>h.elim
 |(j,i)::r,x::xs,h,k=>by
  cases e:keq i k with
  |true=>
   have:=He e;subst this;cases x with
   |some x=>obtain⟨⟨y,x0,y0,h1,h2⟩,h3⟩:=h;exact .inr (.inl ⟨j,x,y,x0,y0,by simp only[Lj,Gb,Gy],by simp only[Uv,Tr.D1,Ak],h1,h2⟩)
   |none=>exact .inr (.inr ⟨j,by simp only[Lj,Gb,Gy],by simp only[Uv,Tr.D1,Ak],h.1⟩)
  |false=>
   have:i≠k:=λhh=>by subst hh;rw[Gy] at e;cases e
   have h3:Nb mu g gc' l r xs:=by cases x<;>exact h.2
   simp only[Lj,Gb,Uv,Tr.D1,e,Ao this];exact Zx t h3 k
theorem Zy {mu:EC} {gc':A0} (t:Tr B4):∀{r:Ew} {xs:List B4},iZ mu gc' r xs->∀k,(Gb r k=none/\(Xu t r xs).get k=t.get k) ∨
  (∃j x y,Gb r k=some j/\(Xu t r xs).get k=some x/\gc'.get j=some y/\Ku mu gc' x y)
 |[],[],_,k=>.inl ⟨rfl,rfl⟩
 |[],_::_,h,k=>h.elim
 |_::_,[],h,k=>h.elim
 |(i,j)::r,x::xs,h,k=>by
  obtain⟨⟨y,h1,h2⟩,h3⟩:=h;simp only[Gb,Xu,Tr.D1];cases e:keq i k with
  |true=>have:=He e;subst this;exact .inr ⟨j,x,y,rfl,Aj rfl,h1,h2⟩
  |false=>
   have:i≠k:=λhh=>by subst hh;rw[Gy] at e;cases e
   rw[Ao this];exact Zy t h3 k
def vO (n:Nat):Ew->Bool
 |[]=>true
 |(_,k)::r=>Nat.blt k.toNat n&&vO n r
theorem bQ {n:Nat}:∀{r:Ew},vO n r=true->∀j k,Gb r j=some k->k.toNat<n
 |[],_,j,k,h=>Ad
 |(a,b)::r,h,j,k,hk=>by
  simp only[vO,Au,Bs] at h;simp only[Gb] at hk;split at hk;·cases hk;exact h.1
  ·exact bQ h.2 j k hk
def zE (k:Key):(Key->Prop)->Prop:=@Key.rec (λ_=>(Key->Prop)->Prop) (λK=>K .h) (λ_ ih K=>ih λk=>K (.o k)) (λ_ ih K=>ih λk=>K (.i k)) k
def PW (v:Option B4) (K:Option B4->Prop):Prop:=
 match v with
 |none=>K none
 |some x=>K (some x)
def zF (t:Tr B4):(Tr B4->Prop)->Prop:=@Tr.rec B4 (λ_=>(Tr B4->Prop)->Prop) (λK=>K .z) (λ_ v _ il ir K=>il λl=>PW v λv=>ir λr=>K (.n l v r)) t
def Uw (g:A0) (K:A0->Prop):Prop:=zF g.mem λm=>zE g.next λk=>K ⟨m,k⟩
theorem bR:∀(k:Key) {K:Key->Prop},zE k K->K k
 |.h,_,h=>h
 |.o k,K,h=>bR k (K:=λk=>K (.o k)) h
 |.i k,K,h=>bR k (K:=λk=>K (.i k)) h
theorem V7:∀(t:Tr B4) {K:Tr B4->Prop},zF t K->K t
 |.z,_,h=>h
 |.n l v r,K,h=>by
  have h1:=V7 l (K:=λl=>PW v λv=>zF r λr=>K (.n l v r)) h;cases v with
  |none=>exact V7 r (K:=λr=>K (.n l none r)) h1
  |some x=>exact V7 r (K:=λr=>K (.n l (some x) r)) h1
theorem V8 {g:A0} {K:A0->Prop} (h:Uw g K):K g:=bR g.next (K:=λk=>K ⟨g.mem,k⟩) (V7 g.mem (K:=λm=>zE g.next λk=>K ⟨m,k⟩) h)
theorem PY {g:A0} {l:List (Key×B4)} {nx:Key} {r:Ew} (hn:Gk 0 nx.toNat l r [] []=true) (hb:Na (rho 0 r) g l):Trim 0 (rho 0 r) [] g [] (mkH l nx):=Trim.of r hn (Zl) Ae hb Ae
theorem PZ {g gc':A0} {l:List (Key×B4)} {nx nx2:Key} {r nw:Ew} {xs:List (Option B4)} {ys:List B4} (hn:Gk 0 nx.toNat l r [] []=true) (hlow:vO g.next.toNat r=true)
  (h1:Mp g.next.toNat nx.toNat nx2.toNat nw [] []=true) (h2:g.next.toNat<=nx2.toNat) (h3:Nb (muR r nw) g gc' l r xs) (h4:iZ (muR r nw) gc' nw ys):PU (rho 0 r) (muR r nw) g (mkH l nx) ⟨Uv (Xu g.mem nw ys) r xs,nx2⟩ gc':=by
 have hrho:rho 0 r=Gb r:=by
  funext k;have:Nat.blt k.toNat 0=false:=by
   cases hh:Nat.blt k.toNat 0 with
   |false=>rfl
   |true=>rw[Bs] at hh;omega
  simp only[rho,this]
 obtain⟨s1,s2⟩:=Li hn;have fl:=HC hn;obtain⟨f1,f2⟩:=Zw h1;have old:∀k j,Gb (Lj r) k=some j->k.toNat<g.next.toNat:=λk j e=>bQ hlow j k ((fl j k).2 e);have mu1:∀k j,Gb (Lj r) k=some j->muR r nw k=some j:=λk j e=>by rw[muR,bP,e]
 have mu2:∀k,Gb (Lj r) k=none->muR r nw k=Gb nw k:=λk e=>by rw[muR,bP,e]
 refine⟨?_,?_,?_,?_,?_,?_,?_,h2,?_⟩
 ·intro k j hk;rw[hrho,fl j k];cases e:Gb (Lj r) k with
  |some i=>rw[mu1 k i e]
  |none=>rw[mu2 k e];refine⟨λh=>?_,λh=>Ad⟩;have:=(f1 k j h).1;omega
 ·intro k j hk hm;cases e:Gb (Lj r) k with
  |some i=>exact absurd (old k i e) hk
  |none=>rw[mu2 k e] at hm;have:=(f1 k j hm).2.2.1;show ¬j.toNat<nx.toNat;omega
 ·intro j k e;rw[hrho] at e;exact bQ hlow j k e
 ·intro k k' j e e';cases a:Gb (Lj r) k with
  |some i=>
   rw[mu1 k i a] at e;cases e;cases a':Gb (Lj r) k' with
   |some i'=>rw[mu1 k' i' a'] at e';cases e';have b1:=(fl j k).2 a;have b2:=(fl j k').2 a';rw[b1] at b2;cases b2;rfl
   |none=>rw[mu2 k' a'] at e';have b1:=(s1 j k ((fl j k).2 a)).2.2.1;have:=(f1 k' j e').2.2.1;omega
  |none=>
   rw[mu2 k a] at e;cases a':Gb (Lj r) k' with
   |some i'=>rw[mu1 k' i' a'] at e';cases e';have b1:=(s1 j k' ((fl j k').2 a')).2.2.1;have:=(f1 k j e).2.2.1;omega
   |none=>rw[mu2 k' a'] at e';exact f2 k k' j e e'
 ·intro k j e _;cases a:Gb (Lj r) k with
  |some i=>have:=old k i a;show k.toNat<nx2.toNat;omega
  |none=>rw[mu2 k a] at e;exact(f1 k j e).2.1
 ·intro k x hx;have hx:(Uv (Xu g.mem nw ys) r xs).get k=some x:=hx;rcases Zx (Xu g.mem nw ys) h3 k with⟨a1,a2⟩|⟨j,x',y,x0,y0,a1,a2,a3,a4,_⟩|⟨j,a1,a2,a3⟩
  ·rw[a2] at hx;rcases Zy g.mem h4 k with⟨b1,b2⟩|⟨j,x',y,b1,b2,b3,b4⟩
   ·rw[b2] at hx;exact .inr ⟨by rw[mu2 k a1];exact b1,hx⟩
   ·rw[b2] at hx;cases hx;exact .inl ⟨j,y,by rw[mu2 k a1];exact b1,b3,b4⟩
  ·rw[a2] at hx;cases hx;exact .inl ⟨j,y,mu1 k j a1,a3,a4⟩
  ·rw[a2] at hx;cases hx
 ·intro k hx;have hx:(Uv (Xu g.mem nw ys) r xs).get k=none:=hx;rcases Zx (Xu g.mem nw ys) h3 k with⟨a1,a2⟩|⟨j,x',y,x0,y0,a1,a2,_⟩|⟨j,a1,a2,a3⟩
  ·rw[a2] at hx;rcases Zy g.mem h4 k with⟨b1,b2⟩|⟨j,x',y,b1,b2,_⟩
   ·rw[b2] at hx;exact⟨λj e=>(by rw[mu2 k a1,b1] at e;cases e),λ_ _=>hx⟩
   ·rw[b2] at hx;cases hx
  ·rw[a2] at hx;cases hx
  ·refine⟨λi e=>?_,λ_ e=>?_⟩;·rw[mu1 k j a1] at e;cases e;exact a3
   ·rw[mu1 k j a1] at e;cases e
 ·intro k j x x' y y' hk e hx hx' hy hy' new hl;have hx':(Uv (Xu g.mem nw ys) r xs).get k=some x':=hx';rcases Zx (Xu g.mem nw ys) h3 k with⟨a1,a2⟩|⟨j',x2,y2,x0,y0,a1,a2,a3,a4,a5,a6,a7,a8⟩|⟨j',a1,a2,a3⟩
  ·rw[a2] at hx';rw[mu2 k a1] at e;rcases Zy g.mem h4 k with⟨b1,b2⟩|⟨j',x2,y2,b1,b2,b3,b4⟩
   ·rw[b1] at e;cases e
   ·have:=(f1 k j e).1;omega
  ·rw[a2] at hx';cases hx';rw[mu1 k j' a1] at e;cases e;rw[a3] at hy';cases hy';rw[a5] at hx;cases hx;rw[Mo,a6] at hy;cases hy;rw[a7,Ay] at hl;rw[a8,hl]
  ·rw[a2] at hx';cases hx'
theorem XC.QB {f:Nat} {args argc:Ez} {g:A0} {R Rc:PA->A0->Prop} {l:List (Key×B4)} {nx:Key} (r:Ew) (h:XC F f argc (mkH l nx) Rc) (hn:Gk 0 nx.toNat l r [] []=true) (hlow:vO g.next.toNat r=true)
  (hb:Na (rho 0 r) g l) (ha:A1 (RnA (rho 0 r)) argc args)
  (hR:∀rc gc',Rc rc gc'->∃nw nx2 xs ys r2,Mp g.next.toNat nx.toNat nx2.toNat nw [] []=true/\g.next.toNat<=nx2.toNat/\Nb (muR r nw) g gc' l r xs/\iZ (muR r nw) gc' nw ys/\RnA (muR r nw) r2 rc/\Uw ⟨Uv (Xu g.mem nw ys) r xs,nx2⟩ (R r2)):XC F f args g R:=
 XC.sub (PY hn hb) ha h λrc gc' hrc=>by obtain⟨nw,nx2,xs,ys,r2,h1,h2,h3,h4,h5,h6⟩:=hR rc gc' hrc;exact⟨muR r nw,r2,_,PZ hn hlow h1 h2 h3 h4,h5,V8 h6⟩
theorem En{F:D5}{f:Nat}{args argc:Ez}{g:A0}{R Rc:PA->A0->Prop}(l:List (Key×B4))(nx:Key)(r:Ew)(h:XC F f argc (mkH l nx) Rc)(hb:Na (rho 0 r) g l)(ha:A1 (RnA (rho 0 r)) argc args)(k:∀(rc:PA)(gc':A0),Rc rc gc'->∃nw nx2 xs ys r2,Mp g.next.toNat nx.toNat nx2.toNat nw [] []=true/\g.next.toNat<=nx2.toNat/\Nb (muR r nw) g gc' l r xs/\iZ (muR r nw) gc' nw ys/\RnA (muR r nw) r2 rc/\Uw {mem:=Uv (Xu g.mem nw ys) r xs,next:=nx2} (R r2))(hn:Gk 0 nx.toNat l r [] []=true:=by exact rfl)(hw:vO g.next.toNat r=true:=by exact rfl):XC F f args g R:=XC.QB r h hn hw hb ha k
theorem Eo{F:D5}{f:Nat}{args argc:Ez}{g:A0}{R Rc:PA->A0->Prop}(h:XC F f argc (mkH [] C.k0) Rc)(ha:A1 (RnA (rho 0 [])) argc args)(k:∀(rc:PA)(gc':A0),Rc rc gc'->∃nw nx2 xs ys r2,Mp g.next.toNat C.k0.toNat nx2.toNat nw [] []=true/\g.next.toNat<=nx2.toNat/\Nb (muR [] nw) g gc' [] [] xs/\iZ (muR [] nw) gc' nw ys/\RnA (muR [] nw) r2 rc/\Uw {mem:=Uv (Xu g.mem nw ys) [] xs,next:=nx2} (R r2)):XC F f args g R:=XC.QB (l:=[]) (nx:=C.k0) [] h rfl rfl trivial ha k
end
end Go.Pv
end
section
noncomputable section
namespace Go.Pv
open Go.Vm Go.Vm.C
open Go.Vm.Key (kn)
set_option maxRecDepth 40000
set_option maxHeartbeats 0
theorem bS:∀d,(dC d).length=2:=λ_=>rfl
theorem HD (l:EF):∀v∈C9 dC l,A2 v:=λv h=>by
 simp only[C9,AY,dC,Af,Ah,AP] at h;obtain⟨d,_,rfl|rfl⟩:=h;·exact E9 _ _
 ·exact Ae
theorem HE:∀n,M8 [.A4,.int .i64 (.ofNat 0)] n=C9 dC (List.replicate n 0)
 |0=>rfl
 |n+1=>by rw[M8,HE n];rfl
def dz:Nat->Nat
 |0=>0
 |_=>15
def dsA (ph n j:Nat):EF:=List.replicate j 15++List.replicate (n-j) (dz ph)
theorem HF {ph n j:Nat} (h:j<=n):(dsA ph n j).length=n:=by simp[dsA];omega
theorem AaM {ph n j i:Nat} (h:i<j):(dsA ph n j)[i]?=some 15:=by unfold dsA;rw[Ai (by simpa using h)];simp[h]
theorem AaN {ph n j:Nat} (h:j<n):(dsA ph n j)[j]?=some (dz ph):=by unfold dsA;rw[Am Ac,CQ,Aj (by simp;omega)]
theorem VU {ph n j:Nat} (h:j<n):(dsA ph n j).set j 15=dsA ph n (j+1):=by unfold dsA;rw[CD _ _ Ac];simp only[Ck,Dl];rw[show n-j=(n-(j+1))+1 from Aa,Cx,CE,DJ,AN];rfl
theorem eR {ph n j:Nat} (h:j<=n):dsA (ph+1) n j=List.replicate n 15:=by show List.replicate j 15++List.replicate (n-j) 15=_;rw[List.replicate_append_replicate];congr 1;omega
theorem VV {ph n:Nat}:dsA ph n n=List.replicate n 15:=by simp[dsA]
theorem KY (D:Xt) {a:Al} (ha:a.ks.length<=2) {l:EF} {N:Nat} (hN:N=l.length) (hl:∀k∈a.ks,l[k]?=some 15) (hln:N<=4) :
  XC Fn 164 [.v (.agg (aC a)),.v (.s (.slice k0 0 N 2 (some N)))] (mkH [(k0,ob (C9 dC l))] k1) λr g'=>r=dA 15/\g'.get k0=some (ob (C9 dC l)):=by
 have d0:=D.con;have d1:=D.int;obtain⟨ap,ks,d⟩:=a;have lt:∀k∈ks,k<N:=λk hk=>by have:=(Gi.1 (hl k hk)).1;omega
 refine Ek pv C.f164 rfl ?_;rcases ks with _|⟨x,_|⟨y,_|⟨z,ks⟩⟩⟩
 ·refine Yz pv ?_;exact⟨rfl,rfl⟩
 ·have hx:=lt x Ac;refine Yz pv ?_;refine⟨_,_,ldn bS rfl (hl x Ac),?_⟩;refine Yz pv ?_;exact⟨rfl,rfl⟩
 ·have hx:=lt x Ac;have hy:=lt y Ac;refine Yz pv ?_;refine⟨_,_,ldn bS rfl (hl x Ac),?_⟩;refine Yz pv ?_;refine⟨_,_,ldn bS rfl (hl y Ac),?_⟩;refine Yz pv ?_;exact⟨rfl,rfl⟩
 ·simp at ha
theorem zG (D:Xt) {f:Fo} (w:WF0 f) (v:WF f):A3 Fn 90 [foA f] (bA true):=by
 have hlen:(f.ns.map nV).length=f.ns.length:=Lm ..;have hL:=w.len;have hn0:0<f.ns.length:=AS.2 w.n0;rw[E4 w.n0 w.r0];have d0:=D.con;have d1:=D.int;have d2:=D.ZL;have d3:=D.ZN;refine Ej pv C.f90 rfl ?_;refine Ek pv C.f163 rfl ?_;refine⟨_,_,Gz (n:=f.ns.length) rfl (by rw[hlen]) Aa Aa,?_⟩;rw[HE];generalize hN:f.ns.length=N at *;have tr:∀{l:EF} {L1 L2:Fm} {g1:A0} {log1:Es} {b0 b1:Key},Gk 0 k2.toNat [(k0,foB f),(k1,ob (C9 dC l))] [(k0,b0),(k1,b1)] [] []=true->g1.get b0=some (foB f)->g1.get b1=some (obl (C9 dC l) log1)->Jz (rho 0 [(k0,b0),(k1,b1)]) L1 L2->Trim 0 (rho 0 [(k0,b0),(k1,b1)]) L1 g1 L2 (mkH [(k0,foB f),(k1,ob (C9 dC l))] k2):=λh0 h1 h2 h3=>
  Trim.of _ h0 Zl Ae ⟨⟨_,_,rfl,h1,.same Yc⟩,⟨_,_,rfl,h2,.same (A2.cells (HD _))⟩,Ae⟩ h3
 refine XW.B6 (pu:=pv) (σ:=Nat) (λph=>3-ph) (λph=>[pE k1 k0,sE k3 (.slice k1 0 N 2 (some N)),(k4,.v (bA (decide (ph<2))))])
  (λph g=>g=mkH [(k0,foB f),(k1,ob (C9 dC (dsA ph N 0)))] k2/\ph<=2) 0 (tr (b0:=k0) (b1:=k2) (l:=dsA 0 N 0) rfl rfl rfl Yf) ⟨rfl,Aa⟩ ?_
 rintro ph g ⟨rfl,hph⟩;refine⟨λh=>?_,λh=>?_⟩
 ·have hph:ph<2:=BB h;refine XW.B6 (pu:=pv) (σ:=Nat) (λi=>N-i) (λi=>[pE k1 k0,sE k3 (.slice k1 0 N 2 (some N)),(k4,.v (bA (decide (ph=0/\0<i)))),(k5,.v (iA i))])
   (λi g=>g=mkH [(k0,foB f),(k1,ob (C9 dC (dsA ph N i)))] k2/\i<=N) 0 (tr (l:=dsA ph N 0) rfl rfl rfl ⟨⟨_,rfl,rfl⟩,⟨_,rfl,rfl⟩,⟨_,rfl,by simp[RnA,FE.pa,RnC,rnV]⟩,⟨_,rfl,rfl⟩,Ae⟩) ⟨rfl,Zl⟩ ?_
  rintro i g ⟨rfl,hi⟩;refine⟨λh=>?_,λh=>?_⟩
  ·have hi:i<N:=by have:=B0 h;omega
   have hn:f.ns[i]?=some f.ns[i]:=Gg Aa;generalize hnn:f.ns[i]=n at hn;have hg:=I6 hn;rw[J2 (v.as0 i n hn)] at hg;have nlen:(n.az.map aV).length=n.az.length:=Lm ..;have nL:=w.Kw i n hn;refine Yw1 ?_;have tr2:∀{l:EF} {L1 L2:Fm} {g1:A0} {log1 log2:Es} {b0 b1 b2:Key},Gk 0 k3.toNat [(k0,foB f),(k1,ob (C9 dC l)),(k2,ob (dC 15))] [(k0,b0),(k1,b1),(k2,b2)] [] []=true->g1.get b0=some (foB f)->g1.get b1=some (obl (C9 dC l) log1)->g1.get b2=some (obl (dC 15) log2)->Jz (rho 0 [(k0,b0),(k1,b1),(k2,b2)]) L1 L2->Trim 0 (rho 0 [(k0,b0),(k1,b1),(k2,b2)]) L1 g1 L2 (mkH [(k0,foB f),(k1,ob (C9 dC l)),(k2,ob (dC 15))] k3):=λh0 h1 h2 h4 h3=>
    Trim.of _ h0 Zl Ae ⟨⟨_,_,rfl,h1,.same Yc⟩,⟨_,_,rfl,h2,.same (A2.cells (HD _))⟩,⟨_,_,rfl,h4,.same Yc⟩,Ae⟩ h3
   refine XW.B6 (pu:=pv) (σ:=Nat) (λj=>n.az.length-j) (λj=>[pE k1 k0,sE k3 (.slice k1 0 N 2 (some N)),(k4,.v (bA (decide (ph=0/\0<i)))),(k5,.v (iA i)),pE k6 k2,(k7,.v (iA j))])
    (λj g=>g=mkH [(k0,foB f),(k1,ob (C9 dC (dsA ph N i))),(k2,ob (dC 15))] k3/\j<=n.az.length) 0 (tr2 (l:=dsA ph N i) rfl rfl rfl rfl Yf) ⟨rfl,Zl⟩ ?_
   rintro j g ⟨rfl,hj⟩;refine⟨_,⟨Aa,hg⟩,?_⟩;refine⟨λh=>?_,λh=>?_⟩
   ·have hj:j<n.az.length:=by have:=B0 h;omega
    have ha:n.az[j]?=some n.az[j]:=Gg hj;generalize haa:n.az[j]=a at ha;have hga:=Ii ha;obtain⟨a1,a2,a3,_⟩:=w.al i n hn a (Aq ha);have c1:=D.ZK a.d a3;have u1:=D.uni (15-a.d) Aa;obtain⟨ap,ks,d⟩:=a;have hln:=HF (ph:=ph) (Dm hi);refine Yw1 ?_;refine En [(k0,ob (C9 dC (dsA ph N i)))] k1 [(k0,k1)] (KY D a1 hln.symm (λk hk=>AaM (a2 k hk)) hL) ⟨⟨_,_,rfl,rfl,.same (A2.cells (HD _))⟩,Ae⟩ (.cons Ys (.cons rfl .nil)) ?_;rintro rc gc' ⟨rfl,hgc⟩;refine⟨[],_,[some (ob (C9 dC (dsA ph N i)))],[],dA 15,rfl,Rl,⟨⟨_,_,_,hgc,.same (A2.cells (HD _)),rfl,rfl,rfl,rfl⟩,Ae⟩,Ae,Ys,?_⟩;refine Yw1 ?_;exact⟨j+1,_,_,Aa,tr2 rfl rfl rfl rfl Yf,rfl,Aa⟩
   ·refine Yw1 ?_;refine⟨_,_,ldn bS rfl (AaN hi),?_⟩;obtain _|_|ph:=ph
    ·refine Yw1 ?_;refine⟨_,_,stn bS (y:=15) rfl (by rw[HF Aa];omega),?_⟩;rw[VU hi];refine Yw1 ?_;exact⟨i+1,_,_,Aa,tr rfl rfl rfl ⟨⟨_,rfl,rfl⟩,⟨_,rfl,rfl⟩,⟨_,rfl,by simp[RnA,FE.pa,RnC,rnV]⟩,⟨_,rfl,rfl⟩,Ae⟩,rfl,Aa⟩
    ·refine Yw1 ?_;exact⟨i+1,_,_,Aa,tr rfl rfl rfl ⟨⟨_,rfl,rfl⟩,⟨_,rfl,rfl⟩,⟨_,rfl,by simp[RnA,FE.pa,RnC,rnV]⟩,⟨_,rfl,rfl⟩,Ae⟩,(by rw[eR Aa,eR Aa]),Aa⟩
    ·omega
  ·have hii:i=N:=by have:=B5 h;omega
   subst hii;refine Yw1 ?_;refine⟨ph+1,_,_,Aa,tr (l:=dsA (ph+1) i 0) rfl rfl (by rw[eR Aa,<-VV (ph:=ph)];rfl) ⟨⟨_,rfl,rfl⟩,⟨_,rfl,rfl⟩,⟨_,rfl,?_⟩,Ae⟩,rfl,Aa⟩;show some _=some _;rw[show decide (ph+1<2)=decide (ph=0/\0<i) from decide_eq_decide.2 Aa]
 ·have hph2:ph=2:=by have:=BM h;omega
  subst hph2;rw[eR (Zl)];refine Yw1 ?_;refine XW.B6 (pu:=pv) (σ:=Nat) (λj=>N-j) (λj=>[sE k3 (.slice k1 0 N 2 (some N)),(k9,.v (iA j))])
   (λj g=>g=mkH [(k0,foB f),(k1,ob (C9 dC (List.replicate N 15)))] k2/\j<=N) 0 (tr (b0:=k0) (b1:=k1) rfl rfl rfl Yf) ⟨rfl,Zl⟩ ?_
  rintro j g ⟨rfl,hj⟩;refine⟨λh=>?_,λh=>?_⟩
  ·have hj:j<N:=by have:=B0 h;omega
   refine Yw1 ?_;refine⟨_,_,ldf (k:=1) bS rfl (show(List.replicate N 15)[j]?=some 15 by simp[hj]) Ab rfl,?_⟩;refine Yw1 ?_;exact⟨j+1,_,_,Aa,tr (b0:=k0) (b1:=k1) rfl rfl rfl Yf,rfl,Aa⟩
  ·exact Yw0
theorem Jc (D:Xt) {f:Fo} (w:WF0 f):A3 Fn 27 [foA f] (bA (f.ns.all fmB)):=by
 have hlen:(f.ns.map nV).length=f.ns.length:=Lm ..;have hL:=w.len;have hf:=E4 w.n0 w.r0;have fin:f.ns.all fmB=true->A3 Fn 88 [foA f] (bA true)/\A3 Fn 89 [foA f] (bA true)/\A3 Fn 90 [foA f] (bA true):=λh=>by have v:=w.wf (AF.1 h);exact⟨KW D w,zD w v,zG D w v⟩
 have fm:∀(i:Nat) (n:Nd),f.ns[i]?=some n->A3 Fn 87 [foA f,iA i] (bA (fmB n)):=λi n h=>zC D w h;rw[hf] at fin fm ⊢;refine Ej pv C.f27 rfl ?_;refine⟨λh=>absurd (B0 h) Aa,λh=>?_⟩;refine XW.B6 (pu:=pv) (σ:=Nat) (λi=>f.ns.length-i) (λi=>[pE k1 k0,(k3,.v (iA i))])
  (λi g=>g=mkH [(k0,foB f)] k1/\i<=f.ns.length/\∀j n,j<i->f.ns[j]?=some n->fmB n=true) 0
  (El [(k0,foB f)] k1 [(k0,k0)]) ⟨rfl,Zl,λj n h=>absurd h Aa⟩ ?_
 rintro i g ⟨rfl,hi,hc⟩;refine⟨λh=>?_,λh=>?_⟩
 ·have hi:i<f.ns.length:=by have:=B0 h;omega
  have hn:f.ns[i]?=some f.ns[i]:=Gg hi;generalize hnn:f.ns[i]=n at hn;have fmi:=fm i n hn;cases hb:fmB n with
  |false=>
   rw[hb] at fmi;have e:f.ns.all fmB=false:=by
    cases hh:f.ns.all fmB with
    |false=>rfl
    |true=>rw[AF.1 hh n (Aq hn)] at hb;cases hb
   rw[e];exact Yw0
  |true=>
   rw[hb] at fmi;refine Yw1 ?_;refine⟨i+1,_,_,Aa,El [(k0,foB f)] k1 [(k0,k0)],rfl,Aa,λj m hj hm=>?_⟩;by_cases hji:j<i;·exact hc j m hji hm
   ·rw[show j=i from Aa,hn] at hm;cases hm;exact hb
 ·have hii:i=f.ns.length:=by have:=B5 h;omega
  have e:f.ns.all fmB=true:=AF.2 λn hn=>by obtain⟨j,hj,rfl⟩:=DN hn;exact hc j _ Aa (Gg hj)
  obtain⟨h1,h2,h3⟩:=fin e;rw[e];exact Yw0
end Go.Pv
end
section
noncomputable section
namespace Go.Pv
open Go.Vm
open Go.Vm.Key (kn)
set_option maxRecDepth 40000
set_option maxHeartbeats 0
section
variable {F:D5} {pu:EH}
theorem XW.QD {lo:Nat} {cd:B7} {L:Fm} {g:A0} {Q:Fk->Fm->A0->Prop} {σ:Type} (m:σ->Nat) (I:σ->Fm) (H:σ->A0->Prop) (s:σ) {ρ:EC} {g0:A0} (t:Trim lo ρ L g (I s) g0) (hH:H s g0)
  (hr:∀s g,H s g->XW F lo cd (I s) g λx L1 g1=>match x with
   |.normal=>∃s' ρ g2,m s'<m s/\Trim lo ρ L1 g1 (I s') g2/\H s' g2
   |.exit i=>Q (.exit i) L1 g1
   |.ret=>Q .ret L1 g1):XW F lo (.loop cd) L g Q:=XW.trim t (XW.loop m I H hr (m s+1) s g0 (AI _) hH)
theorem XW.Js {lo:Nat} {cd:B7} {L:Fm} {g g':A0} {Q:Fk->Fm->A0->Prop} (b:Key) (i:Nat) {c:Ey} {own frz:Bool} {anc:ED} {log:Es} {v v':PV} (hb:lo<=b.toNat)
  (hg:g.get b=some ⟨.cells c,own,frz,anc,log⟩) (hi:c[i]?=some v) (hf:Kz deep v g=some (v',g')) (hg':g'.get b=some ⟨.cells c,own,frz,anc,log⟩)
  (h:XW F lo cd L (g'.upd b (some ⟨.cells (c.set i v'),own,frz,anc,log⟩)) Q):XW F lo cd L g Q:=by
 intro s0 s h0 hlo hs he hgs fr1 hfr;subst hgs;obtain⟨bb,y,hp,hy,hbr⟩:=hs.blk b _ hg;have hbody:=hbr.body;cases hyb:y.body with
 |cells d m=>
  rw[hyb] at hbody;obtain⟨hm,hc⟩:=hbody;obtain⟨sv,hsv,hrel⟩:=hc i v hi;obtain⟨Z',fz,q⟩:=eJ deep s hs.toGu v sv v' g' hrel hf;have g1:Good ⟨Z',s.p,g',s.h⟩:=⟨fz.sim,fz.room hs.toRoom⟩;have e1:=he.trans h0.toGu (fz.ext s0.g.next.toNat s0.h.next.toNat) Rl Rl;have get2:∀k,(g'.upd b (some ⟨.cells (c.set i v'),own,frz,anc,log⟩)).get k=if b=k then some ⟨.cells (c.set i v'),own,frz,anc,log⟩ else g'.get k:=λk=>Tr.D1 ..
  have far:∀k bk,s0.p k=some bk->b≠k:=λk bk hk e=>by have:=(h0.pk k bk hk).1;subst e;omega
  refine h s0 ⟨Z',s.p,g'.upd b (some ⟨.cells (c.set i v'),own,frz,anc,log⟩),s.h⟩ h0 hlo ⟨⟨g1.inj,?_,g1.z,?_⟩,⟨g1.pk,g1.zr,g1.top⟩⟩ ⟨e1.nx,e1.zle,e1.ple,e1.Nk,e1.Jv,e1.frame,?_,?_⟩ rfl fr1 ?_
  ·intro k x hx;simp only at hx;rw[get2] at hx;split at hx
   ·next hk=>
    subst hk;cases hx;obtain⟨b2,y2,h1,h2,h3⟩:=g1.blk b _ hg';refine⟨b2,y2,h1,h2,⟨?_,h3.own,h3.Si,h3.frz⟩⟩;rw[hp] at h1;cases h1;rw[hy] at h2;cases h2;have h4:=h3.body;rw[hyb] at h4 ⊢;obtain⟨h5,h6⟩:=h4;refine⟨by rw[Cz];exact h5,λj x hx=>?_⟩;by_cases hij:i=j;·subst hij;rw[CB (Gi.1 hi).1] at hx;cases hx;exact⟨sv,hsv,q.v⟩
    ·rw[BW hij] at hx;exact h6 j x hx
   ·exact g1.blk k x hx
  ·intro k bk hk hx;simp only at hx;rw[get2] at hx;split at hx;·cases hx
   ·exact g1.dead k bk hk hx
  ·intro k bk hk hx;simp only;rw[get2,Ao (far k bk hk)];exact e1.gone k bk hk hx
  ·intro k x x' hx hx';obtain⟨bk,_,hk,_⟩:=h0.blk k x hx;simp only at hx';rw[get2,Ao (far k bk hk)] at hx';exact e1.log k x x' hx hx'
  ·intro k v e;obtain⟨u,h1,h2⟩:=hfr k v e;exact⟨u,h1,h2.mono (fz.ext 0 0).zle (λ_ _ h=>h)⟩
 |map l=>rw[hyb] at hbody;exact hbody.elim
 |iter a b' c'=>rw[hyb] at hbody;exact hbody.elim
 |lP a b'=>rw[hyb] at hbody;exact hbody.elim
end
section
variable {F:D5} {pu:EH}
theorem XW.Mq {lo:Nat} {cd:B7} {L:Fm} {g:A0} {Q:Fk->Fm->A0->Prop} (b:Key) {x:B4} (hb:lo<=b.toNat) (hg:g.get b=some x) (hf:x.frz=false)
  (h:XW F lo cd L (g.upd b (some { x with frz:=true })) Q):XW F lo cd L g Q:=by intro s0 s h0 hlo hs he hgs fr1 hfr;subst hgs;obtain⟨bb,y,hp,hy,hbr⟩:=hs.blk b _ hg;have fz:=bK hs.toGu hp hg hy hf;have g1:Good _:=⟨fz.sim,fz.room hs.toRoom⟩;have e1:=he.trans h0.toGu (fz.ext s0.g.next.toNat s0.h.next.toNat) Rl Rl;refine h s0 _ h0 hlo g1 e1 rfl fr1 λk v e=>?_;obtain⟨u,h1,h2⟩:=hfr k v e;exact⟨u,h1,h2.mono (fz.ext 0 0).zle (λ_ _ h=>h)⟩
theorem XW.KZ {lo:Nat} {cd:B7} {L:Fm} {g:A0} {Q:Fk->Fm->A0->Prop} (b kz:Key) {x z:B4} (hb:lo<=b.toNat) (hg:g.get b=some x) (hz:g.get kz=some z) (hf:z.frz=true)
  (h:XW F lo cd L (g.upd b (some { x with anc:=[kz] })) Q):XW F lo cd L g Q:=by
 intro s0 s h0 hlo hs he hgs fr1 hfr;subst hgs;obtain⟨bb,y,hp,hy,hbr⟩:=hs.blk b _ hg;obtain⟨bz,yz,hpz,hyz,hbz⟩:=hs.blk kz _ hz;have get2:∀k,(s.g.upd b (some { x with anc:=[kz] })).get k=if b=k then some { x with anc:=[kz] } else s.g.get k:=λk=>Tr.D1 ..
 have far:∀k bk,s0.p k=some bk->b≠k:=λk bk hk e=>by have:=(h0.pk k bk hk).1;subst e;omega
 refine h s0 ⟨s.Z,s.p,s.g.upd b (some { x with anc:=[kz] }),s.h⟩ h0 hlo ⟨⟨hs.inj,?_,hs.z,?_⟩,⟨hs.pk,hs.zr,hs.top⟩⟩ ⟨he.nx,he.zle,he.ple,he.Nk,he.Jv,he.frame,?_,?_⟩ rfl fr1 hfr
 ·intro k u hu;simp only at hu;rw[get2] at hu;split at hu
  ·next hk=>
   subst hk;cases hu;refine⟨bb,y,hp,hy,⟨hbr.body,λho=>⟨(hbr.own ho).1,.inr ⟨kz,bz,.head _,hpz,?_⟩⟩,hbr.Si,hbr.frz⟩⟩;rw[hbz.frz hf];simp
  ·exact hs.blk k u hu
 ·intro k bk hk hx;simp only at hx;rw[get2] at hx;split at hx;·cases hx
  ·exact hs.dead k bk hk hx
 ·intro k bk hk hx;simp only;rw[get2,Ao (far k bk hk)];exact he.gone k bk hk hx
 ·intro k u u' hu hu';obtain⟨bk,_,hk,_⟩:=h0.blk k u hu;simp only at hu';rw[get2,Ao (far k bk hk)] at hu';exact he.log k u u' hu hu'
theorem jB {g:A0} {b:Key} {c:Ey} {frz:Bool} {anc:ED} {log:Es} {n es by' k:Nat} {x:PV} {new:Ey} (hg:g.get b=some ⟨.cells c,true,frz,anc,log⟩) (hc:c.length=n*es) (hx:Yv g es x=some (new,k)) (hk:k≠0) (hr:2*(n+k)*by'<=281474976710656) :
  opP (.append es by') [.v (.s (.slice b 0 n es none)),.v (.s x)] g=some (.v (.s (.slice g.next 0 (n+k) es none)),(g.upd b (some ⟨.cells c,false,frz,anc,log⟩)).Fu (.cells (c++new)) true (b::anc)):=by
 have h1:room (n+k) by'=true:=BT hr;have h2:g.grow b 0 (n*es) new=some (g.next,(g.upd b (some ⟨.cells c,false,frz,anc,log⟩)).Fu (.cells (c++new)) true (b::anc)):=by unfold A0.grow;rw[hg];simp only[A0.copied,hc,AO,Rm,Ak,CG];rw[Cb Aa]
 show Hu es by' [.v (.s (.slice b 0 n es none)),.v (.s x)] g=_;simp only[Hu,hx,Ng,Ak,hk,Ag,h1,h2]
abbrev fzb (c:Ey):B4:=⟨.cells c,true,true,[],[]⟩
abbrev wld (c:Ey) (k:Key):B4:=⟨.cells c,true,false,[k],[]⟩
theorem H4:∀{l:Ey},(∀v∈l,Hl v)->Ql l
 |[],_=>trivial
 |v::l,h=>⟨h v (.head _),H4 λu hu=>h u (.tail _ hu)⟩
theorem J0 {n len es:Nat} {k:Key} {c:Ey} {own frz:Bool} {anc:ED} {log:Es} {cap:Option Nat} {g:A0} (hg:g.get k=some ⟨.cells c,own,frz,anc,log⟩) (hl:len*es=c.length) (h0:len*es≠0) (hc:K4 len cap=true) (hf:Ql c) :
  Kz (n+2) (.slice k 0 len es cap) g=some (.lst es (chunk es len c) none,if frz then g else g.upd k (some ⟨.cells c,own,true,anc,log⟩)):=by have h0':¬c.length=0:=Aa;rw[Kz];simp only[hc,hg,h0',Ag,Dt,AO,hl,Rm,Ak,CG,AB,Xs n hf]
theorem mW:∀l:Ey,chunk 1 l.length l=l.map λx=>[x]
 |[]=>rfl
 |x::l=>by simp[chunk,mW l]
theorem Xv {l:Ey} {n:Nat} (h:l.length=n):chunk 1 n l=l.map λx=>[x]:=by rw[<-h];exact mW l
theorem Lk {x x':PV} {g g':A0} (h:Kz 40 x g=some (x',g')):G4 deep (.v (.s x)) g=some (.v (.s x'),g'):=by
 show(match aQ 40 (.s x) g with
  |some (l,h)=>some (PA.v l,h)
  |none=>none)=_
 simp only[aQ,h]
theorem AaO {x x':PV} {b:Bool} {g g':A0} (h:Kz 40 x g=some (x',g')):G4 deep (.tup [.s x,.s (.bool b)]) g=some (.tup [.s x',.s (.bool b)],g'):=by
 show(match Wo 40 [.s x,.s (.bool b)] g with
  |some (l,h)=>some (PA.tup l,h)
  |none=>none)=_
 simp only[Wo,aQ,h];rfl
end
end Go.Pv
end
section
noncomputable section
namespace Go.Pv
open Go.Vm Go.Vm.C
open Go.Vm.Key (kn)
set_option maxRecDepth 40000
set_option maxHeartbeats 0
abbrev cA (c:Nat):PA:=.v (.s (.int .u64 (c:Nat)))
structure Tg:Prop where
 holds:∀d,d<16->∀c,c<4->A3 Fn 59 [dA d,cA c] (bA (d.testBit c))
def Jg (al:List Bool) (c:Nat) (a:Al):Bool:=a.d.testBit c&&!a.ks.any λk=>!al.getD k false
def alT (c:Nat):List Nd->List Bool->List Bool
 |[],al=>al
 |n::ns,al=>alT c ns (al++[n.az.any (Jg al c)])
theorem HG (c:Nat) (n:Nd):∀(l:List Nd) (al:List Bool),alT c (l++[n]) al=alT c l al++[n.az.any (Jg (alT c l al) c)]
 |[],_=>rfl
 |_::l,_=>HG c n l _
theorem HH (c:Nat):∀(l:List Nd) (al:List Bool),(alT c l al).length=al.length+l.length
 |[],_=>rfl
 |n::l,al=>by rw[alT,HH c l];simp;omega
def alP (c:Nat) (ns:List Nd) (i:Nat):List Bool:=alT c (ns.take i) []
theorem QF {c:Nat} {ns:List Nd} {i:Nat} {n:Nd} (h:ns[i]?=some n):alP c ns (i+1)=alP c ns i++[n.az.any (Jg (alP c ns i) c)]:=by obtain⟨hi,rfl⟩:=Gi.1 h;rw[alP,An hi,HG];rfl
theorem qC {c:Nat} {ns:List Nd} {i:Nat} (h:i<=ns.length):(alP c ns i).length=i:=by rw[alP,HH];simp;omega
def tw:Bool->Int
 |true=>2
 |false=>1
def stL (N:Nat) (al:List Bool):Ey:=al.map (λb=>.int .i64 (tw b))++List.replicate (N-al.length) (.int .i64 0)
theorem VW {N:Nat} {al:List Bool} (h:al.length<=N):(stL N al).length=N:=by simp[stL];omega
theorem QG {N k:Nat} {al:List Bool} (h:k<al.length):(stL N al)[k]?=some (.int .i64 (tw (al.getD k false))):=by unfold stL;rw[Ai (by simpa using h)];simp[h,List.getD]
theorem AaP {N:Nat} {al:List Bool} (h:al.length<N):(stL N al)[al.length]?=some (.int .i64 0):=by unfold stL;rw[Am Ac,CQ,Aj (by simp;omega)]
theorem QH (N:Nat) (al:List Bool):∀v∈stL N al,A2 v:=λv h=>by
 rcases Av.1 h with h|h;·obtain⟨b,_,rfl⟩:=Aw.1 h;exact Ae
 ·rw[Br h];exact Ae
theorem VY {N:Nat} {al:List Bool} (h:al.length<N) (b:Bool):(stL N al).set al.length (.int .i64 (tw b))=stL N (al++[b]):=by unfold stL;rw[CD _ _ Ac];simp only[Lm,Dl,Cm,La,Bl];rw[show N-al.length=(N-(al.length+1))+1 from Aa,Cx,CE,AN];rfl
abbrev LA:PV:=.func 135 [] [(k3,0),(k0,0),(k4,0),(k1,0)]
abbrev lvL (f:Fo) (N c:Nat) (st:Ey) (l1:Es):List (Key×B4):=[(k0,foB f),(k1,ob [.int .u64 (c:Nat)]),(k2,obl st l1),(k3,ob [.slice k2 0 N 1 (some N)]),(k4,ob [LA])]
abbrev lvX (f:Fo) (N c:Nat) (st:Ey) (l1:Es):List (Option B4):=[some (foB f),some (ob [.int .u64 (c:Nat)]),some (obl st l1),some (ob [.slice k2 0 N 1 (some N)]),some (ob [LA])]
abbrev lvR:Ew:=[(k0,k0),(k1,k1),(k2,k2),(k3,k3),(k4,k4)]
def AaQ (f:Fo) (N c:Nat) (st:Ey) (g:A0):Prop:=g.get k0=some (foB f)/\g.get k1=some (ob [.int .u64 (c:Nat)])/\g.get k2=some (ob st)/\g.get k3=some (ob [.slice k2 0 N 1 (some N)])/\g.get k4=some (ob [LA])
theorem vP {f:Fo} {N c:Nat} {st:Ey} {gc':A0} (e0:gc'.get k0=some (foB f)) (e1:gc'.get k1=some (ob [.int .u64 (c:Nat)])) (e2:gc'.get k2=some (ob st)) (e3:gc'.get k3=some (ob [.slice k2 0 N 1 (some N)])) (e4:gc'.get k4=some (ob [LA])) (snk:∀v∈st,A2 v)
  {g:A0} {q0 q1 q2 q3 q4:B4} {l1:Es} (h0:g.get k0=some q0) (h1:g.get k1=some q1) (h2:g.get k2=some q2) (h3:g.get k3=some q3) (h4:g.get k4=some q4)
  (m0:q0.log=[]) (m1:q1.log=[]) (m2:q2.log=l1) (m3:q3.log=[]) (m4:q4.log=[]):Nb (muR lvR []) g gc' (lvL f N c st []) lvR (lvX f N c st l1):=
 ⟨⟨_,_,_,e0,.same Yc,h0,rfl,rfl,m0.symm⟩,⟨_,_,_,e1,.same Yc,h1,rfl,rfl,m1.symm⟩,⟨_,_,_,e2,.same Yc,h2,rfl,rfl,m2.symm⟩,⟨_,_,_,e3,.same Yc,h3,rfl,rfl,m3.symm⟩,⟨_,_,_,e4,.same Yc,h4,rfl,rfl,m4.symm⟩,Ae⟩
theorem AaR {f:Fo} {N c:Nat} {st st2:Ey} {l2:Es} {gc':A0} (e0:gc'.get k0=some (foB f)) (e1:gc'.get k1=some (ob [.int .u64 (c:Nat)])) (e2:gc'.get k2=some (obl st2 l2)) (e3:gc'.get k3=some (ob [.slice k2 0 N 1 (some N)])) (e4:gc'.get k4=some (ob [LA])) (snk:∀v∈st2,A2 v)
  {g:A0} {q0 q1 q2 q3 q4:B4} {l1:Es} (h0:g.get k0=some q0) (h1:g.get k1=some q1) (h2:g.get k2=some q2) (h3:g.get k3=some q3) (h4:g.get k4=some q4)
  (m0:q0.log=[]) (m1:q1.log=[]) (m2:q2.log=l1) (m3:q3.log=[]) (m4:q4.log=[]):Nb (muR lvR []) g gc' (lvL f N c st []) lvR (lvX f N c st2 (l2++l1)):=
 ⟨⟨_,_,_,e0,.same Yc,h0,rfl,rfl,m0.symm⟩,⟨_,_,_,e1,.same Yc,h1,rfl,rfl,m1.symm⟩,⟨_,_,_,e2,.same Yc,h2,rfl,rfl,by rw[m2]⟩,⟨_,_,_,e3,.same Yc,h3,rfl,rfl,m3.symm⟩,⟨_,_,_,e4,.same Yc,h4,rfl,rfl,m4.symm⟩,Ae⟩
theorem vQ {N k c:Nat} {f:Fo} {st:Ey} {b:Bool} (hk:k<N) (hst:st[k]?=some (.int .i64 (tw b))) :
  XC Fn 135 [iA k,.v (.s (.ptr k3 0)),.v (.s (.ptr k0 0)),.v (.s (.ptr k4 0)),.v (.s (.ptr k1 0))] (mkH (lvL f N c st []) k5) λr g'=>r=bA b/\AaQ f N c st g':=by
 cases b;all_goals
  refine Ek pv C.f135 rfl ?_
  refine Yw1 ?_
  refine⟨_,_,Te rfl hst,?_⟩
  refine Yw1 ?_
  refine⟨_,_,Te rfl hst,?_⟩
  exact⟨rfl,rfl,rfl,rfl,rfl,rfl⟩
theorem VZ {N k c:Nat} {f:Fo} {st:Ey} {b:Bool} (hk:k<N) (hst:st[k]?=some (.int .i64 (tw b))) (snk:∀v∈st,A2 v) :
  XC Fn 136 [.v (.agg (kV k)),.v (.s (.ptr k4 0))] (mkH (lvL f N c st []) k5) λr g'=>r=bA (!b)/\AaQ f N c st g':=by refine Ek pv C.f136 rfl ?_;refine Yw1 ?_;refine En (lvL f N c st []) k5 lvR (vQ hk hst) Yb Ya ?_;rintro rc gc' ⟨rfl,e0,e1,e2,e3,e4⟩;refine⟨[],_,lvX f N c st [],[],bA b,rfl,Rl,(vP e0 e1 e2 e3 e4 snk rfl rfl rfl rfl rfl rfl rfl rfl rfl rfl),Ae,rfl,?_⟩;refine Yw1 ?_;exact⟨rfl,rfl,rfl,rfl,rfl,rfl⟩
theorem vR {N c:Nat} {f:Fo} {st:Ey} {al:List Bool} {ks:EF} (h2:ks.length<=2) (hk:∀k∈ks,k<N/\st[k]?=some (.int .i64 (tw (al.getD k false)))) (snk:∀v∈st,A2 v) :
  XC Fn 137 [.v (.s (ksV ks)),.v (.s (.func 136 [] [(k4,0)]))] (mkH (lvL f N c st []) k5) λr g'=>r=bA (ks.any λk=>!al.getD k false)/\AaQ f N c st g':=by
 have dk:∀k∈ks,_:=λk h=>VZ (f:=f) (c:=c) (hk k h).1 (hk k h).2 snk;refine Ek pv C.f137 rfl ?_;rcases ks with _|⟨x,_|⟨y,_|⟨z,ks⟩⟩⟩
 ·refine Ek pv C.f193 rfl ?_;refine Yz pv ?_;exact⟨rfl,rfl,rfl,rfl,rfl,rfl⟩
 ·have dx:=dk x Ac;refine Ek pv C.f193 rfl ?_;refine Yz pv ?_;refine En (lvL f N c st []) k5 lvR dx Yb Ya ?_;rintro rc gc' ⟨rfl,e0,e1,e2,e3,e4⟩;refine⟨[],k5,lvX f N c st [],[],bA _,rfl,Rl,(vP e0 e1 e2 e3 e4 snk rfl rfl rfl rfl rfl rfl rfl rfl rfl rfl),Ae,rfl,?_⟩;generalize hbx:al.getD x false=bx;rw[show([x].any λk=>!al.getD k false)=!bx from by simp only[List.any_cons,List.any_nil,Dp,hbx]];cases bx;·refine Yw1 ?_;exact⟨rfl,rfl,rfl,rfl,rfl,rfl⟩
  ·refine Yz pv ?_;exact⟨rfl,rfl,rfl,rfl,rfl,rfl⟩
 ·have dx:=dk x Ac;have dy:=dk y Ac;refine Ek pv C.f193 rfl ?_;refine Yz pv ?_;refine En (lvL f N c st []) k5 lvR dx Yb Ya ?_;rintro rc gc' ⟨rfl,e0,e1,e2,e3,e4⟩;refine⟨[],k5,lvX f N c st [],[],bA _,rfl,Rl,(vP e0 e1 e2 e3 e4 snk rfl rfl rfl rfl rfl rfl rfl rfl rfl rfl),Ae,rfl,?_⟩;generalize hbx:al.getD x false=bx;rw[show([x,y].any λk=>!al.getD k false)=(!bx||!al.getD y false) from by simp only[List.any_cons,List.any_nil,Dp,hbx]];cases bx;·refine Yw1 ?_;exact⟨rfl,rfl,rfl,rfl,rfl,rfl⟩
  ·refine Yz pv ?_;refine En (lvL f N c st []) k5 lvR dy Yb Ya ?_;rintro rc gc' ⟨rfl,e0,e1,e2,e3,e4⟩;refine⟨[],k5,lvX f N c st [],[],bA _,rfl,Rl,(vP e0 e1 e2 e3 e4 snk rfl rfl rfl rfl rfl rfl rfl rfl rfl rfl),Ae,rfl,?_⟩;generalize hby:al.getD y false=b2;cases b2;·refine Yw1 ?_;exact⟨rfl,rfl,rfl,rfl,rfl,rfl⟩
   ·refine Yz pv ?_;exact⟨rfl,rfl,rfl,rfl,rfl,rfl⟩
 ·simp at h2
theorem LB {N i c:Nat} {f:Fo} {n:Nd} {al:List Bool} {b:Bool} (D:Tg) (hc:c<4) (hN:f.ns.length=N) (h4:N<=4) (hi:i<N) (hl:al.length=i) (hn:(f.ns.map nV)[(i:Int).toNat]?=some (nC n)) (nL:n.az.length<=3)
  (hal:∀a∈n.az,a.ks.length<=2/\(∀k∈a.ks,k<i)/\a.d<16) (hb:n.az.any (Jg al c)=b) :
  XC Fn 135 [iA i,.v (.s (.ptr k3 0)),.v (.s (.ptr k0 0)),.v (.s (.ptr k4 0)),.v (.s (.ptr k1 0))] (mkH (lvL f N c (stL N al) []) k5)
   λr g'=>r=bA b/\∃l2,g'.get k0=some (foB f)/\g'.get k1=some (ob [.int .u64 (c:Nat)])/\g'.get k2=some (obl (stL N (al++[b])) l2)/\g'.get k3=some (ob [.slice k2 0 N 1 (some N)])/\g'.get k4=some (ob [LA]):=by
 have nlen:(n.az.map aV).length=n.az.length:=Lm ..;have hlen:(f.ns.map nV).length=f.ns.length:=Lm ..;subst hl;have sat:=AaP hi;have sln:=VW (Dm hi);have slt:=λk (hk:k<al.length)=>QG (N:=N) hk;have sset:=VY hi;have snk:=QH N al;generalize hst:stL N al=st at sat sln slt sset snk ⊢;have snk1:∀v∈st.set al.length (.int .i64 1),A2 v:=λv h=>by
  rcases Ci h with h|rfl;·exact snk v h
  ·exact Ae
 have s1:(st.set al.length (.int .i64 1))[al.length]?=some (.int .i64 1):=CB Aa;have sx:∀k,k<al.length->(st.set al.length (.int .i64 1))[k]?=some (.int .i64 (tw (al.getD k false))):=λk hk=>by rw[BW Aa];exact slt k hk
 refine Ek pv C.f135 rfl ?_;refine Yw1 ?_;refine⟨_,_,Te rfl sat,?_⟩;refine Yw1 ?_;refine⟨_,_,Tf rfl Aa rfl,?_⟩;refine Yw1 ?_;refine XW.B6 (pu:=pv) (σ:=Nat) (λj=>n.az.length-j) (λj=>[(k0,.v (iA al.length)),pE k1 k3,pE k2 k0,pE k3 k4,pE k4 k1,(k23,.v (PA.lst 4 (n.az.map aV))),(k24,.v (iA (n.az.map aV).length)),(k25,.v (iA j))])
  (λj g=>g=mkH (lvL f N c (st.set al.length (.int .i64 1)) [(al.length,1)]) k5/\j<=n.az.length/\(n.az.take j).any (Jg al c)=false) 0
  (Trim.of (lo:=5) (l:=lvL f N c (st.set al.length (.int .i64 1)) [(al.length,1)]) (nx:=k5) [] rfl Rl Yl Yb Yf) ⟨rfl,Zl,rfl⟩ ?_
 rintro j g ⟨rfl,hj,hno⟩;refine⟨λh=>?_,λh=>?_⟩
 ·have hj:j<n.az.length:=by have:=B0 h;omega
  have ha:n.az[j]?=some n.az[j]:=Gg hj;have htk:n.az.take (j+1)=n.az.take j++[n.az[j]]:=An hj;have hin:n.az[j]∈n.az:=AU hj;generalize n.az[j]=a at ha htk hin;have hga:=Ii ha;obtain⟨a1,a2,a3⟩:=hal a hin;have dh:=D.holds a.d a3 c hc;have next:Jg al c a=false->(n.az.take (j+1)).any (Jg al c)=false:=λh=>by rw[htk,List.any_append,hno];simp[h]
  have yes:Jg al c a=true->b=true:=λh=>by rw[<-hb];exact BY.2 ⟨a,hin,h⟩
  have hlb:Jg al c a=(a.d.testBit c&&!a.ks.any λk=>!al.getD k false):=rfl;cases hbt:a.d.testBit c;·rw[hbt] at dh hlb;refine Yw1 ?_;exact⟨j+1,_,_,Aa,Trim.of (lo:=5) (l:=lvL f N c (st.set al.length (.int .i64 1)) [(al.length,1)]) (nx:=k5) [] rfl Rl Yl Yb Yf,rfl,Aa,next (by rw[hlb];rfl)⟩
  ·rw[hbt] at dh hlb;have co:=vR (f:=f) (c:=c) (al:=al) a1 (λk hk=>⟨DV (a2 k hk) hi,sx k (a2 k hk)⟩) snk1;refine Yw1 ?_;refine En (lvL f N c (st.set al.length (.int .i64 1)) []) k5 lvR co Yb Ya ?_;rintro rc gc' ⟨rfl,e0,e1,e2,e3,e4⟩;refine⟨[],k6,lvX f N c (st.set al.length (.int .i64 1)) [(al.length,1)],[],bA _,rfl,Rl,(vP e0 e1 e2 e3 e4 snk1 rfl rfl rfl rfl rfl rfl rfl rfl rfl rfl),Ae,rfl,?_⟩;generalize (a.ks.any λk=>!al.getD k false)=d at hlb;cases d
   ·have hbb:=yes (by rw[hlb];rfl);subst hbb;refine Yw1 ?_;refine⟨_,_,Tf (i:=al.length) rfl (by rw[Cz];omega) ((List.set_set ..).trans (sset true)),?_⟩;refine Yw1 ?_;have s2:(stL N (al++[true]))[al.length]?=some (.int .i64 2):=by rw[QG Ac];simp[List.getD,tw]
    refine⟨_,_,Te rfl s2,?_⟩;refine Yw1 ?_;exact⟨rfl,_,rfl,rfl,rfl,rfl,rfl⟩
   ·refine Yw1 ?_;exact⟨j+1,_,_,Aa,Trim.of (lo:=5) (l:=lvL f N c (st.set al.length (.int .i64 1)) [(al.length,1)]) (nx:=k5) [] rfl Rl Yl Yb Yf,rfl,Aa,next (by rw[hlb];rfl)⟩
 ·have hj:j=n.az.length:=by have:=B5 h;omega
  have hbb:b=false:=by rw[<-hb,<-hno,hj,AB]
  subst hbb;refine Yw1 ?_;refine⟨_,_,Te rfl s1,?_⟩;refine Yw1 ?_;have s3:=sset false;rw[<-s3];exact⟨rfl,_,rfl,rfl,rfl,rfl,rfl⟩
def otL (N:Nat) (al:List Bool):Ey:=al.map PV.bool++List.replicate (N-al.length) (.bool false)
theorem HI {N:Nat} {al:List Bool} (h:al.length<=N):(otL N al).length=N:=by simp[otL];omega
theorem AaS (N:Nat) (al:List Bool):∀v∈otL N al,A2 v:=λv h=>by
 rcases Av.1 h with h|h;·obtain⟨b,_,rfl⟩:=Aw.1 h;exact Ae
 ·rw[Br h];exact Ae
theorem QI (N:Nat) (al:List Bool):∀v∈otL N al,Hl v:=λv h=>by
 rcases Av.1 h with h|h;·obtain⟨b,_,rfl⟩:=Aw.1 h;exact Ae
 ·rw[Br h];exact Ae
theorem WA {N:Nat} {al:List Bool} (h:al.length<N) (b:Bool):(otL N al).set al.length (.bool b)=otL N (al++[b]):=by unfold otL;rw[CD _ _ Ac];simp only[Lm,Dl,Cm,La,Bl];rw[show N-al.length=(N-(al.length+1))+1 from Aa,Cx,CE,AN];rfl
def bL (al:List Bool):Eu:=al.map λb=>[.bool b]
theorem LC (D:Tg) {f:Fo} {c:Nat} (hc:c<4) (w:WF0 f) (v:WF f):A3 Fn 70 [foA f,cA c] (PA.lst 1 (bL (alP c f.ns f.ns.length))):=by
 have hlen:(f.ns.map nV).length=f.ns.length:=Lm ..;have hL:=w.len;have hn0:0<f.ns.length:=AS.2 w.n0;rw[E4 w.n0 w.r0];refine Ej pv C.f70 rfl ?_;refine⟨_,_,Gz (n:=f.ns.length) rfl (by rw[hlen]) Aa Aa,?_⟩;refine⟨_,_,Gz (n:=f.ns.length) rfl (by rw[hlen]) Aa Aa,?_⟩;generalize hN:f.ns.length=N at *;rw[dH,dH];have e0:List.replicate N (PV.int .i64 (.ofNat 0))=stL N (alP c f.ns 0):=by simp[stL,alP,alT]
 have e1:List.replicate N (PV.bool false)=otL N (alP c f.ns 0):=by simp[otL,alP,alT]
 rw[e0,e1];have snk:=λi=>QH N (alP c f.ns i);have onk:=λi=>AaS N (alP c f.ns i);refine XW.B6 (pu:=pv) (σ:=Nat) (λi=>N-i) (λi=>[pE k2 k0,pE k3 k1,pE k5 k3,pE k6 k4,sE k7 (.slice k5 0 N 1 (some N)),(k19,.v (iA N)),(k20,.v (iA i))])
  (λi g=>∃l1 l5,g=mkH (lvL f N c (stL N (alP c f.ns i)) l1++[(k5,obl (otL N (alP c f.ns i)) l5)]) k6/\i<=N) 0
  (Em (lvL f N c (stL N (alP c f.ns 0)) []++[(k5,obl (otL N (alP c f.ns 0)) [])]) k6 [(k0,k0),(k1,k1),(k2,k2),(k3,k3),(k4,k4),(k5,k5)] (by have:=snk 0;have:=onk 0;exact Yb) Yf) ⟨_,_,rfl,Zl⟩ ?_
 rintro i g ⟨l1,l5,rfl,hi⟩;refine⟨λh=>?_,λh=>?_⟩
 ·have hi:i<N:=by have:=B0 h;omega
  have hn:f.ns[i]?=some f.ns[i]:=Gg Aa;generalize hnn:f.ns[i]=n at hn;have hg:=I6 hn;rw[J2 (v.as0 i n hn)] at hg;have nL:=w.Kw i n hn;have hal:=w.al i n hn;have hs:=QF (c:=c) hn;have hll:=qC (c:=c) (ns:=f.ns) (i:=i) Aa;have hv:=LB (al:=alP c f.ns i) D hc hN hL hi hll hg nL (λa ha=>⟨(hal a ha).1,(hal a ha).2.1,(hal a ha).2.2.1⟩) rfl;rw[<-hs] at hv;have oset:=WA (N:=N) (al:=alP c f.ns i) Aa (n.az.any (Jg (alP c f.ns i) c));rw[<-hs] at oset;have oln:=HI (N:=N) (al:=alP c f.ns i) Aa;have sk:=snk i;have sk2:=snk (i+1);have ok:=onk i;have ok2:=onk (i+1);generalize n.az.any (Jg (alP c f.ns i) c)=b at *;rw[hll] at oset;refine Yw1 ?_;refine En (lvL f N c (stL N (alP c f.ns i)) []) k5 lvR hv Yb Ya ?_;rintro rc gc' ⟨rfl,l2,e0,e1,e2,e3,e4⟩;refine⟨[],k6,lvX f N c (stL N (alP c f.ns (i+1))) (l2++l1),[],bA b,rfl,Rl,(AaR e0 e1 e2 e3 e4 sk2 rfl rfl rfl rfl rfl rfl rfl rfl rfl rfl),Ae,rfl,?_⟩;refine Yw1 ?_;refine⟨_,_,Tf rfl Aa oset,?_⟩;refine Yw1 ?_;exact⟨i+1,_,_,Aa,El (lvL f N c (stL N (alP c f.ns (i+1))) (l2++l1)++[(k5,obl (otL N (alP c f.ns (i+1))) ((i,1)::l5))]) k6 [(k0,k0),(k1,k1),(k2,k2),(k3,k3),(k4,k4),(k5,k5)],_,_,rfl,Aa⟩
 ·have hi:i=N:=by have:=B5 h;omega
  subst hi;have hll:=qC (c:=c) (ns:=f.ns) (i:=i) Aa;have oln:=HI (N:=i) (al:=alP c f.ns i) Aa
  have hch:chunk 1 i (otL i (alP c f.ns i))=bL (alP c f.ns i):=by
   have h1:otL i (alP c f.ns i)=(alP c f.ns i).map PV.bool:=by conv=>lhs;rw[otL,hll,Dl]
                                                               simp
   rw[Xv oln,h1,DB];rfl
  rw[<-hch];exact⟨_,Lk (J0 rfl (by rw[oln,CS]) Aa (by simp[K4]) (H4 (QI _ _)))⟩
def stC (N i:Nat):Ey:=List.replicate i (.int .i64 2)++List.replicate (N-i) (.int .i64 0)
theorem WB {N i:Nat} (h:i<=N):(stC N i).length=N:=by simp[stC];omega
theorem AaT {N i k:Nat} (h:k<i):(stC N i)[k]?=some (.int .i64 2):=by unfold stC;rw[Ai (by simpa using h)];simp[h]
theorem AaU {N i:Nat} (h:i<N):(stC N i)[i]?=some (.int .i64 0):=by unfold stC;rw[Am Ac,CQ,Aj (by simp;omega)]
theorem zH (N i:Nat):∀v∈stC N i,A2 v:=λv h=>by rcases Av.1 h with h|h<;>(rw[Br h];exact Ae)
theorem WC {N i:Nat} (h:i<N) (y:Int):((stC N i).set i (.int .i64 y)).set i (.int .i64 2)=stC N (i+1):=by unfold stC;rw[List.set_set,CD _ _ Ac];simp only[Ck,Dl];rw[show N-i=(N-(i+1))+1 from Aa,Cx,CE,DJ,AN];rfl
abbrev zI:PV:=.func 190 [] [(k2,0),(k4,0),(k0,0),(k5,0),(k3,0)]
def Th (i:Nat):Ey:=(List.range i).map λ(n:Nat)=>.int .i64 n
theorem qE (i:Nat):∀v∈Th i,A2 v:=λv h=>by obtain⟨n,_,rfl⟩:=Aw.1 h;exact Ae
theorem LD (i:Nat):Th i++[.int .i64 (i:Nat)]=Th (i+1):=by simp[Th,Cy]
theorem jD (i:Nat):(Th i).length=i:=by simp[Th]
abbrev foZ (f:Fo):B4:=fzb [.lst 5 (f.ns.map nV) none,.lst 3 (f.rs.map rV) none]
def AaV:Nat->PV
 |0=>.A4
 |i+1=>.slice k6 0 (i+1) 1 none
def outB:Nat->List (Key×B4)
 |0=>[]
 |i+1=>[(k6,wld (Th (i+1)) k0)]
def outN:Nat->Key
 |0=>k6
 |_=>k7
abbrev poL (f:Fo) (N i:Nat) (st:Ey) (l1 lg:Es):List (Key×B4):=(k0,foZ f)::(k1,obl st l1)::(k2,ob [.slice k1 0 N 1 (some N)])::(k3,ob [AaV i])::(k4,obl [.bool true] lg)::(k5,ob [zI])::outB i
theorem Ux {N i k:Nat} {f:Fo} {st:Ey} (hk:k<N) (hst:st[k]?=some (.int .i64 2)) :
  XC Fn 190 [iA k,.v (.s (.ptr k2 0)),.v (.s (.ptr k4 0)),.v (.s (.ptr k0 0)),.v (.s (.ptr k5 0)),.v (.s (.ptr k3 0))]
   (mkH (poL f N (i+1) st [] []) k7)
   λr g'=>r=.unit/\∃lg,g'=((mkH (poL f N (i+1) st [] []) k7).upd k4 (some (obl [.bool true] lg))):=by refine Ek pv C.f190 rfl ?_;refine Yw1 ?_;refine⟨_,_,Te rfl hst,?_⟩;refine Yw1 ?_;refine⟨_,_,Te rfl hst,?_⟩;exact⟨rfl,_,rfl⟩
abbrev poX (f:Fo) (N i:Nat) (st:Ey) (l1 lg:Es):List (Option B4):=[some (foZ f),some (obl st l1),some (ob [.slice k1 0 N 1 (some N)]),some (ob [AaV i]),some (obl [.bool true] lg),some (ob [zI]),some (wld (Th i) k0)]
abbrev poR:Ew:=[(k0,k0),(k1,k1),(k2,k2),(k3,k3),(k4,k4),(k5,k5),(k6,k6)]
abbrev poM (f:Fo) (N i:Nat) (st:Ey) (l1 l3 lg:Es):List (Key×B4):=(k0,foZ f)::(k1,obl st l1)::(k2,ob [.slice k1 0 N 1 (some N)])::(k3,obl [AaV i] l3)::(k4,obl [.bool true] lg)::(k5,ob [zI])::outB i
abbrev visA (k:Nat):Ez:=[iA k,.v (.s (.ptr k2 0)),.v (.s (.ptr k4 0)),.v (.s (.ptr k0 0)),.v (.s (.ptr k5 0)),.v (.s (.ptr k3 0))]
theorem AaW {N:Nat} {f:Fo} {n:Nd} {st st2:Ey} (hN:f.ns.length=N) (h4:N<=4) (h0:0<N) (hn:(f.ns.map nV)[((0:Nat):Int).toNat]?=some (nC n)) (nL:n.az.length<=3) (hal:∀a∈n.az,a.ks=[])
  (sat:st[0]?=some (.int .i64 0)) (sln:st.length=N) (snk1:∀v∈st.set 0 (.int .i64 1),A2 v) (sset:(st.set 0 (.int .i64 1)).set 0 (.int .i64 2)=st2) :
  XC Fn 190 (visA 0) (mkH (poL f N 0 st [] []) k6)
   λr g'=>r=.unit/\∃l1 l3 l4,g'.get k0=some (foZ f)/\g'.get k1=some (obl st2 l1)/\g'.get k2=some (ob [.slice k1 0 N 1 (some N)])/\g'.get k3=some (obl [.slice k7 0 1 1 none] l3)/\g'.get k4=some (obl [.bool true] l4)/\g'.get k5=some (ob [zI])/\g'.get k7=some (ob (Th 1)):=by
 have nlen:(n.az.map aV).length=n.az.length:=Lm ..;have hlen:(f.ns.map nV).length=f.ns.length:=Lm ..;refine Ek pv C.f190 rfl ?_;refine Yw1 ?_;refine⟨_,_,Te rfl sat,?_⟩;refine Yw1 ?_;refine⟨_,_,Tf rfl Aa rfl,?_⟩;refine Yw1 ?_;refine XW.B6 (pu:=pv) (σ:=Nat) (λj=>n.az.length-j) (λj=>[(k0,.v (iA 0)),pE k1 k2,pE k2 k4,pE k3 k0,pE k4 k5,pE k5 k3,(k32,.v (PA.lst 4 (n.az.map aV))),(k33,.v (iA (n.az.map aV).length)),(k34,.v (iA j))])
  (λj g=>∃lg2,g=mkH (poL f N 0 (st.set 0 (.int .i64 1)) [(0,1)] lg2) k6/\j<=n.az.length) 0
  (Trim.of (lo:=6) (l:=poL f N 0 (st.set 0 (.int .i64 1)) [(0,1)] _) (nx:=k6) [] rfl Rl Yl Yb Yf) ⟨_,rfl,Zl⟩ ?_
 rintro j g ⟨lg2,rfl,hj⟩;refine⟨λh=>?_,λh=>?_⟩
 ·have hj:j<n.az.length:=by have:=B0 h;omega
  have ha:n.az[j]?=some n.az[j]:=Gg hj;generalize haa:n.az[j]=a at ha;have hga:=Ii ha;have hk:=hal a (Aq ha);obtain⟨ap,ks,d⟩:=a;subst hk;refine Yz pv ?_;exact⟨j+1,_,_,Aa,Trim.of (lo:=6) (l:=poL f N 0 (st.set 0 (.int .i64 1)) [(0,1)] _) (nx:=k6) [] rfl Rl Yl Yb Yf,⟨_,rfl,Aa⟩⟩
 ·refine Yw1 ?_;refine⟨_,_,Tf (i:=0) rfl (by rw[Cz];omega) sset,?_⟩;refine Yw1 ?_;exact⟨rfl,_,_,_,rfl,rfl,rfl,rfl,rfl,rfl,rfl⟩
theorem AaX {N i:Nat} {f:Fo} {n:Nd} {st st2:Ey} (hN:f.ns.length=N) (h4:N<=4) (h0:i+1<N) (hn:(f.ns.map nV)[((i+1:Nat):Int).toNat]?=some (nC n)) (nL:n.az.length<=3) (hal:∀a∈n.az,a.ks.length<=2/\∀k∈a.ks,k<i+1)
  (sat:st[i+1]?=some (.int .i64 0)) (slt:∀k,k<i+1->st[k]?=some (.int .i64 2)) (sln:st.length=N) (snk1:∀v∈st.set (i+1) (.int .i64 1),A2 v) (sset:(st.set (i+1) (.int .i64 1)).set (i+1) (.int .i64 2)=st2) :
  XC Fn 190 (visA (i+1)) (mkH (poL f N (i+1) st [] []) k7)
   λr g'=>r=.unit/\∃l1 l3 l4,g'.get k0=some (foZ f)/\g'.get k1=some (obl st2 l1)/\g'.get k2=some (ob [.slice k1 0 N 1 (some N)])/\g'.get k3=some (obl [.slice k8 0 (i+2) 1 none] l3)/\g'.get k4=some (obl [.bool true] l4)/\g'.get k5=some (ob [zI])/\g'.get k6=some ⟨.cells (Th (i+1)),false,false,[k0],[]⟩/\g'.get k8=some ⟨.cells (Th (i+2)),true,false,[k6,k0],[]⟩:=by
 have nlen:(n.az.map aV).length=n.az.length:=Lm ..;have hlen:(f.ns.map nV).length=f.ns.length:=Lm ..;have sx:∀k,k<i+1->(st.set (i+1) (.int .i64 1))[k]?=some (.int .i64 2):=λk hk=>by rw[BW Aa];exact slt k hk
 have onk:=qE (i+1);have oln:=jD (i+1);have osu:=LD (i+1);refine Ek pv C.f190 rfl ?_;refine Yw1 ?_;refine⟨_,_,Te rfl sat,?_⟩;refine Yw1 ?_;refine⟨_,_,Tf rfl Aa rfl,?_⟩;refine Yw1 ?_;refine XW.B6 (pu:=pv) (σ:=Nat) (λj=>n.az.length-j) (λj=>[(k0,.v (iA (i+1:Nat))),pE k1 k2,pE k2 k4,pE k3 k0,pE k4 k5,pE k5 k3,(k32,.v (PA.lst 4 (n.az.map aV))),(k33,.v (iA (n.az.map aV).length)),(k34,.v (iA j))])
  (λj g=>∃lg2,g=mkH (poL f N (i+1) (st.set (i+1) (.int .i64 1)) [(i+1,1)] lg2) k7/\j<=n.az.length) 0
  (Trim.of (lo:=7) (l:=poL f N (i+1) (st.set (i+1) (.int .i64 1)) [(i+1,1)] _) (nx:=k7) [] rfl Rl Yl Yb Yf) ⟨_,rfl,Zl⟩ ?_
 rintro j g ⟨lg2,rfl,hj⟩;refine⟨λh=>?_,λh=>?_⟩
 ·have hj:j<n.az.length:=by have:=B0 h;omega
  have ha:n.az[j]?=some n.az[j]:=Gg hj;generalize haa:n.az[j]=a at ha;have hga:=Ii ha;obtain⟨a1,a2⟩:=hal a (Aq ha);obtain⟨ap,ks,d⟩:=a;rcases ks with _|⟨x,_|⟨y,_|⟨z,ks⟩⟩⟩
  ·refine Yz pv ?_;exact⟨j+1,_,_,Aa,Trim.of (lo:=7) (l:=poL f N (i+1) (st.set (i+1) (.int .i64 1)) [(i+1,1)] _) (nx:=k7) [] rfl Rl Yl Yb Yf,⟨_,rfl,Aa⟩⟩
  ·have hx:=a2 x Ac;refine Yz pv ?_;refine En (poL f N (i+1) (st.set (i+1) (.int .i64 1)) [] []) k7 poR (Ux Aa (sx x hx)) Yb Ys ?_;rintro rc gc' ⟨rfl,lga,rfl⟩;refine⟨[],_,poX f N (i+1) (st.set (i+1) (.int .i64 1)) [(i+1,1)] (lga++lg2),[],.unit,rfl,Rl,Yo,Ae,Ys,?_⟩;refine Yz pv ?_;exact⟨j+1,_,_,Aa,Trim.of (lo:=7) (l:=poL f N (i+1) (st.set (i+1) (.int .i64 1)) [(i+1,1)] (lga++lg2)) (nx:=k7) [] rfl Rl Yl Yb Yf,⟨_,rfl,Aa⟩⟩
  ·have hx:=a2 x Ac;have hy:=a2 y Ac;refine Yz pv ?_;refine En (poL f N (i+1) (st.set (i+1) (.int .i64 1)) [] []) k7 poR (Ux Aa (sx x hx)) Yb Ys ?_;rintro rc gc' ⟨rfl,lga,rfl⟩;refine⟨[],_,poX f N (i+1) (st.set (i+1) (.int .i64 1)) [(i+1,1)] (lga++lg2),[],.unit,rfl,Rl,Yo,Ae,Ys,?_⟩;refine Yz pv ?_;refine En (poL f N (i+1) (st.set (i+1) (.int .i64 1)) [] []) k7 poR (Ux Aa (sx y hy)) Yb Ys ?_;rintro rc gc' ⟨rfl,lgb,rfl⟩;refine⟨[],_,poX f N (i+1) (st.set (i+1) (.int .i64 1)) [(i+1,1)] (lgb++(lga++lg2)),[],.unit,rfl,Rl,Yo,Ae,Ys,?_⟩;refine Yz pv ?_;exact⟨j+1,_,_,Aa,Trim.of (lo:=7) (l:=poL f N (i+1) (st.set (i+1) (.int .i64 1)) [(i+1,1)] (lgb++(lga++lg2))) (nx:=k7) [] rfl Rl Yl Yb Yf,⟨_,rfl,Aa⟩⟩
  ·simp at a1
 ·refine Yw1 ?_;refine⟨_,_,Tf (i:=i+1) rfl (by rw[Cz];omega) sset,?_⟩;refine Yw1 ?_;refine⟨_,_,jB rfl (by rw[oln,CS]) rfl Ab Aa,?_⟩;refine Yw1 ?_;exact⟨rfl,_,_,_,rfl,rfl,rfl,rfl,rfl,rfl,rfl,Bh (λc=>some (B4.mk (.cells c) true false [k6,k0] [])) osu⟩
theorem qG {f:Fo} (w:WF0 f) (v:WF f):A3 Fn 125 [foA f] (.tup [.s (.lst 1 ((Th f.ns.length).map λx=>[x]) none),.s (.bool true)]):=by
 have hlen:(f.ns.map nV).length=f.ns.length:=Lm ..;have hrlen:(f.rs.map rV).length=f.rs.length:=Lm ..;have hL:=w.len;have rL:=w.Nl;have hn0:0<f.ns.length:=AS.2 w.n0;rw[E4 w.n0 w.r0];refine Ej pv C.f125 rfl ?_;refine⟨_,_,Gz (n:=f.ns.length) rfl (by rw[hlen]) Aa Aa,?_⟩;generalize hN:f.ns.length=N at *;rw[dH];have e0:List.replicate N (PV.int .i64 (.ofNat 0))=stC N 0:=by simp[stC]
 rw[e0];have snk:=zH N;refine XW.Mq k0 Zl rfl rfl ?_;refine XW.B6 (pu:=pv) (σ:=Nat) (λi=>N-i) (λi=>[pE k1 k0,pE k4 k2,pE k5 k3,pE k6 k4,pE k7 k5,(k16,.v (PA.lst 3 (f.rs.map rV))),(k17,.v (iA (f.rs.map rV).length)),(k18,.v (iA i))])
  (λi g=>∃l1 l3 lg,g=mkH (poM f N i (stC N i) l1 l3 lg) (outN i)/\i<=N) 0
  (Em (poM f N 0 (stC N 0) [] [] []) k6 [(k0,k0),(k1,k1),(k2,k2),(k3,k3),(k4,k4),(k5,k5)] (by have:=snk 0;exact Yb) Yf) ⟨_,_,_,rfl,Zl⟩ ?_
 rintro i g ⟨l1,l3,lg,rfl,hi⟩;refine⟨λh=>?_,λh=>?_⟩
 ·have hi:i<N:=by have:=B0 h;omega
  have hr:f.rs[i]?=some f.rs[i]:=Gg Aa;generalize hrr:f.rs[i]=r at hr;have hgr:=Je hr;obtain⟨r1,r2,r3⟩:=w.rt i r hr;rw[r1] at hgr;have hn:f.ns[i]?=some f.ns[i]:=Gg Aa;generalize hnn:f.ns[i]=n at hn;have hg:=I6 hn;rw[J2 (v.as0 i n hn)] at hg;have nL:=w.Kw i n hn;have hal:=w.al i n hn;have sat:=AaU hi;have slt:=λk (hk:k<i)=>AaT (N:=N) hk;have sln:=WB (Dm hi);have sset:=WC hi 1;have snk:=zH N i;have snk2:=zH N (i+1);generalize stC N i=st at *;have snk1:∀v∈st.set i (.int .i64 1),A2 v:=λv h=>by
   rcases Ci h with h|rfl;·exact snk v h
   ·exact Ae
  obtain _|i:=i;·have hv:=AaW hN hL hn0 hg nL (λa ha=>DA.2 λk hk=>absurd ((hal a ha).2.1 k hk) (Dn _)) sat sln snk1 sset;refine Yw1 ?_;refine En (poL f N 0 st [] []) k6 [(k0,k0),(k1,k1),(k2,k2),(k3,k3),(k4,k4),(k5,k5)] hv Yb Ys ?_;rintro rc gc' ⟨rfl,m1,m3,m4,e0,e1,e2,e3,e4,e5,e7⟩;refine⟨[(k7,k7)],k8,[some (foZ f),some (obl (stC N 1) (m1++l1)),some (ob [.slice k1 0 N 1 (some N)]),some (obl [.slice k7 0 1 1 none] (m3++l3)),some (obl [.bool true] (m4++lg)),some (ob [zI])],[ob (Th 1)],.unit,rfl,(show 7<=8 from Ab),⟨⟨_,_,_,e0,(Er Ys),rfl,rfl,rfl,rfl⟩,⟨_,_,_,e1,.same Yc,rfl,rfl,rfl,rfl⟩,⟨_,_,_,e2,.same Yc,rfl,rfl,rfl,rfl⟩,⟨_,_,_,e3,.same Yc,rfl,rfl,rfl,rfl⟩,⟨_,_,_,e4,.same Yc,rfl,rfl,rfl,rfl⟩,⟨_,_,_,e5,.same Yc,rfl,rfl,rfl,rfl⟩,Ae⟩,⟨⟨_,e7,.same Yc⟩,Ae⟩,Ys,?_⟩;refine Yw1 ?_;exact⟨1,_,_,Aa,El (poM f N 1 (stC N 1) (m1++l1) (m3++l3) (m4++lg)) k7 [(k0,k0),(k1,k1),(k2,k2),(k3,k3),(k4,k4),(k5,k5),(k6,k7)],_,_,_,rfl,Aa⟩
  ·have hv:=AaX (i:=i) hN hL hi hg nL (λa ha=>⟨(hal a ha).1,(hal a ha).2.1⟩) sat slt sln snk1 sset;have onk:=qE (i+1);have onk2:=qE (i+2);refine Yw1 ?_;refine En (poL f N (i+1) st [] []) k7 poR hv Yb Ys ?_;rintro rc gc' ⟨rfl,m1,m3,m4,e0,e1,e2,e3,e4,e5,e6,e8⟩;refine⟨[(k8,k8)],k9,[some (foZ f),some (obl (stC N (i+2)) (m1++l1)),some (ob [.slice k1 0 N 1 (some N)]),some (obl [.slice k8 0 (i+2) 1 none] (m3++l3)),some (obl [.bool true] (m4++lg)),some (ob [zI]),some ⟨.cells (Th (i+1)),false,false,[k0],[]⟩],[wld (Th (i+2)) k0],.unit,rfl,(show 8<=9 from Ab),⟨⟨_,_,_,e0,(Er Ys),rfl,rfl,rfl,rfl⟩,⟨_,_,_,e1,.same Yc,rfl,rfl,rfl,rfl⟩,⟨_,_,_,e2,.same Yc,rfl,rfl,rfl,rfl⟩,⟨_,_,_,e3,.same Yc,rfl,rfl,rfl,rfl⟩,⟨_,_,_,e4,.same Yc,rfl,rfl,rfl,rfl⟩,⟨_,_,_,e5,.same Yc,rfl,rfl,rfl,rfl⟩,⟨_,_,_,e6,⟨Ys,Ep,rfl⟩,rfl,rfl,rfl,rfl⟩,Ae⟩,⟨⟨_,e8,⟨Ys,λ_=>⟨rfl,.inr ⟨_,_,_,.head _,rfl,e0,rfl⟩⟩,rfl⟩⟩,Ae⟩,Ys,?_⟩;refine Yw1 ?_;exact⟨i+2,_,_,Aa,El (poM f N (i+2) (stC N (i+2)) (m1++l1) (m3++l3) (m4++lg)) k7 [(k0,k0),(k1,k1),(k2,k2),(k3,k3),(k4,k4),(k5,k5),(k6,k8)],_,_,_,rfl,Aa⟩
 ·have hi:i=N:=by have:=B5 h;omega
  subst hi;obtain⟨n,rfl⟩:∃n,i=n+1:=⟨i-1,Aa⟩;have onk:∀v∈Th (n+1),Hl v:=λv h=>by obtain⟨m,_,rfl⟩:=Aw.1 h;exact Ae
  have oln:=jD (n+1);rw[<-Xv oln];exact⟨_,AaO (J0 rfl (by rw[oln,CS]) Aa rfl (H4 onk))⟩
abbrev ordA (n:Nat):PV:=.lst 1 ((Th n).map λx=>[x]) none
theorem QJ (D:Xt) {f:Fo} (w:WF0 f) (v:WF f):A3 Fn 69 [foA f] (.tup [.s (ordA f.ns.length),.s (.bool true)]):=by
 have hlen:(f.ns.map nV).length=f.ns.length:=Lm ..;have hol:((Th f.ns.length).map λx=>[x]).length=f.ns.length:=by rw[Lm,jD]
 have hL:=w.len;have fo:=KU D v;have po:=qG w v;rw[E4 w.n0 w.r0] at fo po ⊢;refine Ej pv C.f69 rfl ?_;exact Yw0
end Go.Pv
end
section
noncomputable section
namespace Go.Pv
open Go.Vm
open Go.Vm.Key (kn)
set_option maxRecDepth 40000
set_option maxHeartbeats 0
section
variable {F:D5} {pu:EH}
theorem Ss {α β:Type} {R:α->β->Prop}:∀{a b:List α} {x:α} {m:List β},A1 R (a++x::b) m->∃m1 y m2,m=m1++y::m2/\A1 R a m1/\R x y/\A1 R b m2
 |[],b,x,_,.cons h1 h2=>⟨[],_,_,rfl,.nil,h1,h2⟩
 |a0::a,b,x,_,.cons h1 h2=>by obtain⟨m1,y,m2,rfl,e1,e2,e3⟩:=Ss (a:=a) h2;exact⟨_::m1,y,m2,rfl,.cons h1 e1,e2,e3⟩
theorem Pl {α β:Type} {R:α->β->Prop} {a:List α} {m:List β} (h:A1 R a m) {b:List α} {x:α} {m2:List β} {y:β} (e:R x y) (h2:A1 R b m2):A1 R (a++x::b) (m++y::m2):=by
 induction h with
 |nil=>exact .cons e h2
 |cons h _ ih=>exact .cons h ih
theorem XC.LF {f:Nat} {a b:Ez} {x x':PA} {g g1:A0} {R:PA->A0->Prop} (hx:G4 deep x g=some (x',g1)) (h:XC F f (a++x'::b) g1 R):XC F f (a++x::b) g R:=by intro s hs hg vs hv;subst hg;obtain⟨m1,y,m2,rfl,e1,e2,e3⟩:=Ss hv;obtain⟨Z1,h1,h2⟩:=V0 hs.toGu e2 hx;have hg:Good ⟨Z1,s.p,g1,s.h⟩:=⟨h1.sim,h1.room hs.toRoom⟩;have hext:=h1.ext s.g.next.toNat s.h.next.toNat;obtain⟨N,u,h',Z',p',r,g',h3,h4,h5,h6,h7⟩:=h _ hg rfl _ (Pl (A9 e1 λ_ _=>AR.mono hext.zle λ_ _ h=>h) h2.a (A9 e3 λ_ _=>AR.mono hext.zle λ_ _ h=>h));exact⟨N,u,h',Z',p',r,g',h3,h4,hext.trans hs.toGu h5 hext.nx.1 Rl,h6,h7⟩
theorem St {x x':PV} {k:IntKind} {n:Int} {g g':A0} (h:Kz 40 x g=some (x',g')):G4 deep (.tup [.s x,.s (.int k n)]) g=some (.tup [.s x',.s (.int k n)],g'):=by
 show(match Wo 40 [.s x,.s (.int k n)] g with
  |some (l,h)=>some (PA.tup l,h)
  |none=>none)=_
 simp only[Wo,aQ,h];rfl
theorem XC.LG {f:Nat} {args:Ez} {g:A0} {R:PA->A0->Prop} (h:XC F f args g λr g'=>∃r' g2,G4 deep r g'=some (r',g2)/\R r' g2):XC F f args g R:=by intro s hs hg vs hv;obtain⟨N,u,h',Z',p',r,g',e1,e2,e3,e4,r',g2,hf,hR⟩:=h s hs hg vs hv;obtain⟨Z2,h1,h2⟩:=V0 e2.toGu e4 hf;have hext:=h1.ext s.g.next.toNat s.h.next.toNat;exact⟨N,u,h',Z2,p',r',g2,e1,⟨h1.sim,h1.room e2.toRoom⟩,e3.trans hs.toGu hext Rl Rl,h2.a,hR⟩
theorem AaY {es b:Nat} {zero:EB} {z:Ey} {n:Nat} {g:A0} (hz:Ny zero=some z) (hn:n<=1000000) (hb:b<=1000000):opP (.O7 es b zero) [.v (.s (.int .i64 ((0:Nat):Int))),.v (.s (.int .i64 (n:Nat)))] g=some (.v (.s (.slice g.next 0 0 es (some n))),g.new (.cells (M8 z n))):=by have h1:b*n<=1000000*1000000:=Nat.mul_le_mul hb hn;simp only[opP,Tu,hz,Bj];rw[Aj ⟨Int.le_refl _,BE n,Aa,by rw[BC];omega⟩]
theorem Ac7 {es by' k:Nat} {b:Key} {g:A0} {x:PV} {new:Ey} (hx:Yv g es x=some (new,k)) (hk:k≠0) (hr:2*k*by'<=281474976710656) :
  opP (.append es by') [.v (.s (.slice b 0 0 es (some 0))),.v (.s x)] g=some (.v (.s (.slice g.next 0 k es none)),g.new (.cells new)):=by have h1:room k by'=true:=BT hr;have h2:¬k<=0:=Aa;show Hu es by' [.v (.s (.slice b 0 0 es (some 0))),.v (.s x)] g=_;simp only[Hu,hx,Ng,Ak,hk,Ag,AO,h1,h2,Bo,A0.renew]
theorem Mc {es:Nat}:∀{l:Eu},(∀x∈l,x.length=es)->chunk es l.length l.flatten=l
 |[],_=>rfl
 |x::l,h=>by have hx:=h x (.head _);rw[Ap,chunk,Eb,List.take_left' hx,List.drop_left' hx,Mc λy hy=>h y (.tail _ hy)]
theorem Jt {es:Nat}:∀{l:Eu},(∀x∈l,x.length=es)->l.flatten.length=l.length*es
 |[],_=>Ac
 |x::l,h=>by rw[Eb,La,h x (.head _),Jt λy hy=>h y (.tail _ hy),Ap,Bg];omega
end
end Go.Pv
end
section
noncomputable section
namespace Go.Pv
open Go.Vm Go.Vm.C
open Go.Vm.Key (kn)
set_option maxRecDepth 40000
set_option maxHeartbeats 0
abbrev Tre:=EF
def B9 (T:Nat->List Tre):EF->List Tre
 |[]=>[[]]
 |k::ks=>(T k).flatMap λs=>(B9 T ks).map (s++·)
def dI (T:Nat->List Tre) (al:List Bool) (c:Nat) (az:List Al):List Tre:=az.flatMap λa=>if Jg al c a then(B9 T a.ks).map (a.p::·) else[]
def tR (t:Tre):Eu:=t.map λp=>[.int .i64 (p:Nat),.int .i64 (-1),.int .i64 0,.int .i64 0]
def tV (t:Tre):PV:=slV 4 (tR t)
def oC (o:List Tre):Ey:=o.map tV
theorem Su (t:Tre):∀x∈tR t,x.length=4:=λx h=>by obtain⟨p,_,rfl⟩:=Aw.1 h;rfl
theorem Zz (t:Tre) (p:Nat):tR t++[[.int .i64 (p:Nat),.int .i64 (-1),.int .i64 0,.int .i64 0]]=tR (t++[p]):=by simp[tR]
theorem qH (t:Tre):∀v∈(tR t).flatten,Hl v:=λv h=>by obtain⟨x,hx,hv⟩:=Dh.1 h;obtain⟨p,_,rfl⟩:=Aw.1 hx;simp only[Af,Ah,AP] at hv;rcases hv with rfl|rfl|rfl|rfl<;>exact Ae
def pt (n:Nat):Bool:=pv n||Sp [76] n
abbrev QK:PV:=.func 73 [] [(k0,0),(k1,0),(k3,0),(k5,0)]
abbrev QL:PV:=.func 71 [] [(k5,0),(k4,0)]
def kL:Nat->Key
 |0=>k8
 |1=>k10
 |_=>k12
def kM:Nat->Key
 |0=>k9
 |1=>k11
 |_=>k13
def nkT:Nat->Key
 |0=>k8
 |1=>k10
 |2=>k12
 |_=>k14
def cV:Nat->PV
 |0=>.func 75 [] [(k6,0),(k2,0)]
 |d+1=>.func 72 [] [(k5,0),(kL d,0),(kM d,0)]
def ouV (o:List Tre):PV:=
 match o with
 |[]=>.A4
 |t::o=>.slice k7 0 (o.length+1) 1 none
def ouB (o:List Tre) (bc:Ey):B4:=
 match o with
 |[]=>⟨.cells bc,false,false,[],[]⟩
 |t::o=>wld (oC (t::o)) k0
def QM:List (EF)->List (Key×B4)
 |[]=>[]
 |l::ls=>QM ls++[(kL ls.length,ob [ksV l]),(kM ls.length,ob [cV ls.length])]
structure TC where
 f:Fo
 al:List Bool
 c:Nat
 mo:Nat
abbrev hT (x:TC) (o:List Tre) (bc:Ey) (ls:List (EF)):List (Key×B4):=(k0,foZ x.f)::(k1,ob [.int .u64 (x.c:Nat)])::(k2,ob [.int .i64 (x.mo:Nat)])::(k3,ob [.lst 1 (bL x.al) none])::(k4,ob [QK])::(k5,ob [QL])::(k6,ob [ouV o])::(k7,ouB o bc)::QM ls
structure PostT (x:TC) (o:List Tre) (bc:Ey) (ls:List (EF)) (ts:List Tre) (g:A0):Prop where
 e0:g.get k0=some (foZ x.f)
 e1:g.get k1=some (ob [.int .u64 (x.c:Nat)])
 e2:g.get k2=some (ob [.int .i64 (x.mo:Nat)])
 e3:g.get k3=some (ob [.lst 1 (bL x.al) none])
 e4:g.get k4=some (ob [QK])
 e5:g.get k5=some (ob [QL])
 el:∀k b,(k,b)∈QM ls->g.get k=some b
 out:(ts=[]/\g.get k6=some (ob [ouV o])/\g.get k7=some (ouB o bc)) ∨
  (ts≠[]/\∃kN l6 c7 ba anc n cc,(nkT ls.length).toNat<=kN.toNat/\g.get k6=some (obl [.slice kN 0 n 1 none] l6)/\(∀v∈c7,A2 v)/\g.get k7=some ⟨.cells c7,false,false,ba,[]⟩/\g.get kN=some ⟨.cells cc,true,false,anc,[]⟩/\n=(o++ts).length/\cc=oC (o++ts))
def sz (i:Nat):Nat:=2 ^ (i+1)-1
def cap (ls:List (EF)):Nat:=(ls.map λl=>(l.tail.map sz).sum).sum
end Go.Pv
end
abbrev EG:=Nat->List Go.Pv.Tre
section
noncomputable section
namespace Go.Pv
open Go.Vm Go.Vm.C
open Go.Vm.Key (kn)
set_option maxRecDepth 40000
set_option maxHeartbeats 0
theorem H0:∀i,i<=3->∀k,k<i->2*sz k+1<=sz i:=Ab
theorem WD {i:Nat} (hi:i<=3):∀{ks:EF},ks.length<=2->(∀k∈ks,k<i)->(ks.map sz).sum+1<=sz i
 |[],_,_=>by have:1<=2 ^ (i+1)-1:=by{ have:=Nat.pow_le_pow_right (n:=2) Ab (show 1<=i+1 by omega);omega }
             simpa[sz] using this
 |[x],_,h=>by have:=H0 i hi x (h x Ac);simp;omega
 |[x,y],_,h=>by have:=H0 i hi x (h x Ac);have:=H0 i hi y (h y Ac);simp;omega
 |_::_::_::_,h,_=>by simp at h
theorem QN:∀i,i<=3->sz i<=15:=Ab
theorem Kd {gn nx nx2:Nat} {k j:Key} (h1:gn<=k.toNat) (h2:k.toNat<nx2) (h3:nx<=j.toNat):Mp gn nx nx2 [(k,j)] [] []=true:=by simp only[Mp,List.any_nil,CH,CY,Au];exact⟨⟨BT h1,by rw[Bs];exact h2⟩,BT h3⟩
abbrev hF1 (f:Fo) (al:List Bool):List (Key×B4):=[(k0,ob [.lst 5 (f.ns.map nV) none,.lst 3 (f.rs.map rV) none]),(k1,ob [.int .u64 (0:Nat)]),(k2,ob [.int .i64 (0:Nat)]),(k3,obl [.lst 1 (bL al) none] []),(k4,obl [QK] []),(k5,obl [QL] []),(k6,obl [.A4] [])]
theorem LH {f:Fo} (D:Xt) (D2:Tg) (w:WF0 f) (v:WF f) (h0:∀r∈f.rs,r.2.testBit 0=false):A3 Fn 21 [foA f,cA 0,iA 0] (.tup [.s .A4,.s (.bool true)]):=by
 have hrlen:(f.rs.map rV).length=f.rs.length:=Lm ..;have rL:=w.Nl;have hL:=w.len;have so:=QJ D w v;have li:=LC D2 (show 0<4 by decide) w v;generalize alP 0 f.ns f.ns.length=al at li;rw[E4 w.n0 w.r0] at so li ⊢;refine Ej pt C.f21 rfl ?_;repeat'(try conv=>whnf)<;>first|(refine⟨λh=>?_,λh=>?_⟩<;>first|exact I9 h|exact Jr h|exact absurd (B0 h) Aa|exact absurd (B5 h) Aa|replace h:=B0 h|replace h:=B5 h|skip)|refine⟨_,⟨Aa,by assumption⟩,?_⟩|refine⟨_,⟨Aa,rfl⟩,?_⟩|refine⟨_,_,_,(rfl:Fw _ _ _=_),by assumption,?_⟩|refine⟨_,_,_,Fi (by repeat' first|exact trivial|refine⟨?_,?_⟩|exact Fv _ _|(show Hl _;assumption)|fail),by assumption,?_⟩|refine⟨(by omega:_/\_),?_⟩|refine⟨(by omega:_≠_),?_⟩|refine⟨_,_,(rfl:opP _ _ _=_),?_⟩|exact⟨_,(rfl:G4 _ _ _=_)⟩|fail
 refine XW.B6 (pu:=pt) (σ:=Nat) (λi=>f.rs.length-i) (λi=>[pE k3 k0,pE k4 k1,pE k10 k3,pE k13 k6,(k34,.v (PA.lst 3 (f.rs.map rV))),(k35,.v (iA (f.rs.map rV).length)),(k36,.v (iA i))])
  (λi g=>i<=f.rs.length/\g=mkH (hF1 f al) k7) 0
  (El (hF1 f al) k7 [(k0,k0),(k1,k1),(k2,k2),(k3,k3),(k4,k4),(k5,k5),(k6,k6)]) ⟨Zl,rfl⟩ ?_
 rintro i g ⟨hi,rfl⟩;refine⟨λh=>?_,λh=>?_⟩
 ·have hi:i<f.rs.length:=by have:=B0 h;omega
  have hr:f.rs[i]?=some f.rs[i]:=Gg hi;have hb1:=h0 _ (AU hi);generalize f.rs[i]=r at hr hb1;have hgr:=Je hr;obtain⟨r1,r2,r3⟩:=w.rt i r hr;have dh:=D2.holds r.2 r2 0 Ab;rw[hb1] at dh;repeat'(try conv=>whnf)<;>first|(refine⟨λh=>?_,λh=>?_⟩<;>first|exact I9 h|exact Jr h|exact absurd (B0 h) Aa|exact absurd (B5 h) Aa|replace h:=B0 h|replace h:=B5 h|skip)|refine⟨_,⟨Aa,by assumption⟩,?_⟩|refine⟨_,⟨Aa,rfl⟩,?_⟩|refine⟨_,_,_,(rfl:Fw _ _ _=_),by assumption,?_⟩|refine⟨_,_,_,Fi (by repeat' first|exact trivial|refine⟨?_,?_⟩|exact Fv _ _|(show Hl _;assumption)|fail),by assumption,?_⟩|refine⟨(by omega:_/\_),?_⟩|refine⟨(by omega:_≠_),?_⟩|refine⟨_,_,(rfl:opP _ _ _=_),?_⟩|exact⟨_,(rfl:G4 _ _ _=_)⟩|fail
  exact⟨i+1,_,_,Aa,El (hF1 f al) k7 [(k0,k0),(k1,k1),(k2,k2),(k3,k3),(k4,k4),(k5,k5),(k6,k6)],hi,rfl⟩
 ·repeat'(try conv=>whnf)<;>first|(refine⟨λh=>?_,λh=>?_⟩<;>first|exact I9 h|exact Jr h|exact absurd (B0 h) Aa|exact absurd (B5 h) Aa|replace h:=B0 h|replace h:=B5 h|skip)|refine⟨_,⟨Aa,by assumption⟩,?_⟩|refine⟨_,⟨Aa,rfl⟩,?_⟩|refine⟨_,_,_,(rfl:Fw _ _ _=_),by assumption,?_⟩|refine⟨_,_,_,Fi (by repeat' first|exact trivial|refine⟨?_,?_⟩|exact Fv _ _|(show Hl _;assumption)|fail),by assumption,?_⟩|refine⟨(by omega:_/\_),?_⟩|refine⟨(by omega:_≠_),?_⟩|refine⟨_,_,(rfl:opP _ _ _=_),?_⟩|exact⟨_,(rfl:G4 _ _ _=_)⟩|fail
theorem Z0 {T T':EG}:∀{ks:EF},(∀k∈ks,T k=T' k)->B9 T ks=B9 T' ks
 |[],_=>rfl
 |k::ks,h=>by rw[B9,B9,h k (.head _),Z0 λj hj=>h j (.tail _ hj)]
theorem vS {T T':EG} {al al':List Bool} {c:Nat} {az:List Al} (h:∀a∈az,∀k∈a.ks,T k=T' k/\al.getD k false=al'.getD k false):dI T al c az=dI T' al' c az:=by
 unfold dI;induction az with
 |nil=>rfl
 |cons a az ih=>
  rw[Bf,Bf,ih λb hb=>h b (.tail _ hb)];have e1:Jg al c a=Jg al' c a:=by
   unfold Jg;congr 2;rw[Dw,BY,BY];constructor<;>rintro⟨k,hk,e⟩<;>refine⟨k,hk,?_⟩<;>have:=(h a (.head _) k hk).2;·rw[<-this];exact e
   ·rw[this];exact e
  rw[e1,Z0 λk hk=>(h a (.head _) k hk).1]
theorem jE {α:Type} {l m:List α} {d:α} {k:Nat} (h:k<l.length):(l++m).getD k d=l.getD k d:=by simp only[List.getD,Ai h]
theorem HJ {α:Type} {l:List α} {x d:α}:(l++[x]).getD l.length d=x:=by simp[List.getD]
def qI (al:List Bool) (c:Nat):List Nd->List (List Tre)->List (List Tre)
 |[],tab=>tab
 |n::ns,tab=>qI al c ns (tab++[dI (λk=>tab.getD k []) al c n.az])
theorem jG (al:List Bool) (c:Nat):∀(ns:List Nd) (tab:List (List Tre)) (k:Nat),k<tab.length->(qI al c ns tab).getD k []=tab.getD k []
 |[],_,_,_=>rfl
 |n::ns,tab,k,h=>by rw[qI,jG al c ns _ k (by simp;omega),jE h]
theorem HK (al:List Bool) (c:Nat):∀(ns:List Nd) (tab:List (List Tre)) (i:Nat) (n:Nd),ns[i]?=some n->∃tab':List (List Tre),tab'.length=tab.length+i/\(∀k,k<tab'.length->(qI al c ns tab).getD k []=tab'.getD k [])/\(qI al c ns tab).getD (tab.length+i) []=dI (λk=>tab'.getD k []) al c n.az
 |[],_,_,_,h=>by simp at h
 |m::ns,tab,0,n,h=>by
  simp only[Bb,Sj] at h;subst h;refine⟨tab,Ac,λk hk=>?_,?_⟩;·rw[qI,jG al c ns _ k (by simp;omega),jE hk]
  ·rw[qI,BI,jG al c ns _ _ Ac,HJ]
 |m::ns,tab,i+1,n,h=>by simp only[Bc] at h;obtain⟨tab',e1,e2,e3⟩:=HK al c ns (tab++[dI (λk=>tab.getD k []) al c m.az]) i n h;simp only[La,Bl] at e1 e3;refine⟨tab',Aa,e2,?_⟩;rw[qI,show tab.length+(i+1)=tab.length+1+i from Aa];exact e3
def TF (al:List Bool) (c:Nat) (ns:List Nd) (i:Nat):List Tre:=(qI al c ns []).getD i []
theorem ZO {al:List Bool} {c:Nat} {ns:List Nd} (hk:∀(i:Nat) (n:Nd),ns[i]?=some n->∀a∈n.az,∀k∈a.ks,k<i) (i:Nat) (n:Nd) (h:ns[i]?=some n):TF al c ns i=dI (TF al c ns) al c n.az:=by obtain⟨tab',e1,e2,e3⟩:=HK al c ns [] i n h;simp only[BO,AO] at e1 e3;unfold TF;rw[e3];exact vS λa ha k hka=>⟨(e2 k (by have:=hk i n h a ha k hka;omega)).symm,rfl⟩
theorem qJ (c:Nat):∀(ns:List Nd) (al:List Bool) (k:Nat),k<al.length->(alT c ns al).getD k false=al.getD k false
 |[],_,_,_=>rfl
 |n::ns,al,k,h=>by rw[alT,qJ c ns _ k (by simp;omega),jE h]
theorem AaZ {c:Nat} {ns:List Nd} {i:Nat} {n:Nd} (h:ns[i]?=some n):(∀k,k<i->(alP c ns ns.length).getD k false=(alP c ns i).getD k false)/\(alP c ns ns.length).getD i false=n.az.any (Jg (alP c ns i) c):=by
 obtain⟨hi,hn⟩:=Gi.1 h;have hl:(alP c ns i).length=i:=qC (Dm hi);have key:alP c ns ns.length=alT c (ns.drop i) (alP c ns i):=by
  have app:∀(a b:List Nd) (al:List Bool),alT c (a++b) al=alT c b (alT c a al):=by
   intro a;induction a with
   |nil=>intro b al;rfl
   |cons x a ih=>intro b al;exact ih b _
  unfold alP;rw[AB];conv=>lhs;rw[<-Be i ns]
  exact app _ _ _
 have hd:ns.drop i=n::ns.drop (i+1):=by rw[Ax hi,hn]
 rw[key];refine⟨λk hk=>qJ c _ _ k Aa,?_⟩;rw[hd,alT,qJ c _ _ i (by simp;omega)];have hg:=HJ (l:=alP c ns i) (x:=n.az.any (Jg (alP c ns i) c)) (d:=false);rw[hl] at hg;exact hg
theorem mX {T:EG}:∀{ks:EF},(∀k∈ks,T k≠[])->B9 T ks≠[]
 |[],_=>by simp[B9]
 |k::ks,h=>by obtain⟨s,hs⟩:=Cj _ (h k (.head _));obtain⟨u,hu⟩:=Cj _ (mX λj hj=>h j (.tail _ hj));exact List.ne_nil_of_mem (AY.2 ⟨s,hs,Aw.2 ⟨u,hu,rfl⟩⟩)
theorem jH {T:EG}:∀{ks:EF} {k:Nat},k∈ks->T k=[]->B9 T ks=[]
 |j::ks,k,h,e=>by
  rw[B9];rcases Af.1 h with rfl|h
  ·rw[e];rfl
  ·rw[jH h e];simp
theorem LI {c:Nat} {ns:List Nd} (hk:∀(i:Nat) (n:Nd),ns[i]?=some n->∀a∈n.az,∀k∈a.ks,k<i):∀i,i<ns.length->((alP c ns ns.length).getD i false=true↔TF (alP c ns ns.length) c ns i≠[]):=by
 intro i;induction i using Nat.strongRecOn with
 |ind i ih=>
  intro hi;have hn:ns[i]?=some ns[i]:=Gg hi;generalize ns[i]=n at hn;obtain⟨h1,h2⟩:=AaZ (c:=c) hn;rw[h2,ZO hk i n hn,BY];constructor
  ·rintro⟨a,ha,hl⟩;have hl2:Jg (alP c ns ns.length) c a=true:=by
    rw[<-hl];unfold Jg;congr 2;rw[Dw,BY,BY];constructor<;>rintro⟨k,hka,e⟩<;>refine⟨k,hka,?_⟩<;>have:=h1 k (hk i n hn a ha k hka);·rw[<-this];exact e
    ·rw[this];exact e
   have hks:∀k∈a.ks,TF (alP c ns ns.length) c ns k≠[]:=λk hka=>by have hki:=hk i n hn a ha k hka;refine(ih k hki Aa).1 ?_;simp only[Jg,Au,AX,Dz] at hl2;have:=hl2.2 k hka;simpa using this
   obtain⟨s,hs⟩:=Cj _ (mX hks);exact List.ne_nil_of_mem (AY.2 ⟨a,ha,by rw[Aj hl2];exact Aw.2 ⟨s,hs,rfl⟩⟩)
  ·intro hne;obtain⟨s,hs⟩:=Cj _ hne;obtain⟨a,ha,hs⟩:=AY.1 hs;refine⟨a,ha,?_⟩;by_cases hl2:Jg (alP c ns ns.length) c a=true
   ·rw[<-hl2];unfold Jg;congr 2;rw[Dw,BY,BY];constructor<;>rintro⟨k,hka,e⟩<;>refine⟨k,hka,?_⟩<;>have:=h1 k (hk i n hn a ha k hka);·rw[this];exact e
    ·rw[<-this];exact e
   ·rw[Ao hl2] at hs;cases hs
def C7 (T:EG) (c:Nat) (az:List Al):List Tre:=az.flatMap λa=>if a.d.testBit c then(B9 T a.ks).map (a.p::·) else[]
theorem qK {c:Nat} {ns:List Nd} (hk:∀(i:Nat) (n:Nd),ns[i]?=some n->∀a∈n.az,∀k∈a.ks,k<i) (i:Nat) (n:Nd) (h:ns[i]?=some n):TF (alP c ns ns.length) c ns i=C7 (TF (alP c ns ns.length) c ns) c n.az:=by
 have hi:i<ns.length:=(Gi.1 h).1;rw[ZO hk i n h,dI,C7];have key:∀a∈n.az,(if Jg (alP c ns ns.length) c a then(B9 (TF (alP c ns ns.length) c ns) a.ks).map (a.p::·) else[])=if a.d.testBit c then(B9 (TF (alP c ns ns.length) c ns) a.ks).map (a.p::·) else[]:=λa ha=>by
  unfold Jg;cases a.d.testBit c;·simp
  ·by_cases hd:(a.ks.any λk=>!(alP c ns ns.length).getD k false)=true
   ·obtain⟨k,hka,e⟩:=BY.1 hd;have hki:=hk i n h a ha k hka;have:TF (alP c ns ns.length) c ns k=[]:=CF λhne=>by rw[(LI hk k Aa).2 hne] at e;simp at e
    rw[jH hka this];simp
   ·rw[Bool.not_eq_true] at hd;simp only[hd,CH,CY]
 clear h hi;generalize n.az=az at key ⊢;induction az with
 |nil=>rfl
 |cons a az ih=>rw[Bf,Bf,key a (.head _),ih λb hb=>key b (.tail _ hb)]
theorem Sv {f:Fo} (w:WF0 f):∀(i:Nat) (n:Nd),f.ns[i]?=some n->∀a∈n.az,∀k∈a.ks,k<i:=λi n h a ha=>(w.al i n h a ha).2.1
abbrev Tr2 (f:Fo) (c:Nat):Nat->List Tre:=TF (alP c f.ns f.ns.length) c f.ns
theorem Rb (D:Xt) (D2:Tg) {f:Fo} (w:WF0 f) (v:WF f) (h0:∀r∈f.rs,r.2.testBit 0=false):A3 Fn 28 [foA f] (bA true):=by have t:=LH D D2 w v h0;rw[E4 w.n0 w.r0] at t ⊢;refine Ej pt C.f28 rfl ?_;exact Yw0
def mm (m:Et):List (PC×PC):=m.map λp=>(.s (.int .i64 (p.1:Nat)),.s p.2)
def fnd:Et->Nat->Option PV
 |[],_=>none
 |p::m,k=>if p.1=k then some p.2 else fnd m k
theorem qL (k:Nat):∀m:Et,Tt (.one .int) (.s (.int .i64 (k:Nat))) (mm m)=some ((fnd m k).map PC.s)
 |[]=>rfl
 |p::m=>by
  show Tt (.one .int) (.s (.int .i64 (k:Nat))) ((.s (.int .i64 (p.1:Nat)),.s p.2)::mm m)=_;have he:S8 (.one .int) (.s (.int .i64 (k:Nat))) (.s (.int .i64 (p.1:Nat)))=some (decide (p.1=k)):=by have:S8 (.one .int) (.s (.int .i64 (k:Nat))) (.s (.int .i64 (p.1:Nat)))=some ((k:Int)==(p.1:Int)):=rfl;rw[this];congr 1;by_cases h:p.1=k<;>simp[h];omega
  rw[Tt,he,fnd];by_cases h:p.1=k;·simp[h]
  ·simp[h,qL k m]
theorem ZP (k:Nat) (v:PV):∀m:Et,fnd m k=none->aN (.one .int) (.s (.int .i64 (k:Nat))) (.s v) (mm m)=some (mm (m++[(k,v)]))
 |[],_=>rfl
 |p::m,h=>by
  show aN (.one .int) (.s (.int .i64 (k:Nat))) (.s v) ((.s (.int .i64 (p.1:Nat)),.s p.2)::mm m)=_;have he:S8 (.one .int) (.s (.int .i64 (k:Nat))) (.s (.int .i64 (p.1:Nat)))=some (decide (p.1=k)):=by have:S8 (.one .int) (.s (.int .i64 (k:Nat))) (.s (.int .i64 (p.1:Nat)))=some ((k:Int)==(p.1:Int)):=rfl;rw[this];congr 1;by_cases h:p.1=k<;>simp[h];omega
  rw[fnd] at h;by_cases hk:p.1=k;·rw[Aj hk] at h;cases h
  ·rw[Ao hk] at h;rw[aN,he];simp only[hk,decide_false];rw[ZP k v m h];rfl
theorem lk_m {b:Key} {g:A0} {m:Et} {own frz:Bool} {anc:ED} {log:Es} {k:Nat} (hg:g.get b=some ⟨.map (mm m),own,frz,anc,log⟩) :
  opP (.lookup (.one .int) (.s .A4) true) [.v (.s (.map b)),.v (.s (.int .i64 (k:Nat)))] g=some (match fnd m k with
   |some v=>.tup [.s v,.s (.bool true)]
   |none=>.tup [.s .A4,.s (.bool false)],g):=by
 show Ik (.one .int) (.s .A4) true [.v (.s (.map b)),.v (.s (.int .i64 (k:Nat)))] g=_
 unfold Ik
 simp only[lF,Rr,hg,Io,qL]
 cases fnd m k<;>rfl
theorem ms_m {b:Key} {g:A0} {m:Et} {log:Es} {k:Nat} {v:PV} (hg:g.get b=some ⟨.map (mm m),true,false,[],log⟩) (h:fnd m k=none) :
  opP (.K1 (.one .int)) [.v (.s (.map b)),.v (.s (.int .i64 (k:Nat))),.v (.s v)] g=some (.unit,g.upd b (some ⟨.map (mm (m++[(k,v)])),true,false,[],(0,0)::log⟩)):=by show Nh (.one .int) [.v (.s (.map b)),.v (.s (.int .i64 (k:Nat))),.v (.s v)] g=_;unfold Nh;simp only[hg,Io,ZP k v m h];rfl
def Fa (T:EG) (m:Et):Prop:=∀p∈m,A6 (T p.1).length p.2
theorem Fa.fnd {T:EG}:∀{m:Et},Fa T m->∀{k:Nat} {v:PV},Go.Pv.fnd m k=some v->A6 (T k).length v
 |[],_,_,_,h=>Ad
 |p::m,hm,k,v,h=>by
  rw[Go.Pv.fnd] at h;split at h;·next e=>subst e;cases h;exact hm p (.head _)
  ·exact Fa.fnd (λq hq=>hm q (.tail _ hq)) h
theorem Fa.snoc {T:EG} {m:Et} (h:Fa T m) {k:Nat} {v:PV} (hv:A6 (T k).length v):Fa T (m++[(k,v)]):=λp hp=>by
 rcases Av.1 hp with hp|hp;·exact h p hp
 ·simp only[Ar] at hp;subst hp;exact hv
theorem A6.flat {n:Nat} {v:PV} (h:A6 n v):Hl v:=by cases h<;>trivial
theorem A6.lt {n:Nat} {v:PV} (h:A6 n v):n<4294967296:=by cases h<;>first|decide|assumption
theorem A6.nk {n:Nat} {v:PV} (h:A6 n v):A2 v:=by cases h<;>trivial
theorem Fa.rn {T:EG} {m:Et} (h:Fa T m) (ρ:EC):RnB ρ (.map (mm m)) (.map (mm m)):=by
 show A1 _ (mm m) (mm m);induction m with
 |nil=>exact .nil
 |cons p m ih=>exact .cons ⟨rfl,(h p (.head _)).nk.rn⟩ (ih λq hq=>h q (.tail _ hq))
theorem Ku.map {T:EG} {m:Et} (h:Fa T m) {ρ:EC} {K:A0} {log log':Es}:Ku ρ K ⟨.map (mm m),true,false,[],log⟩ ⟨.map (mm m),true,false,[],log'⟩:=⟨h.rn ρ,λ_=>⟨rfl,.inl .nil⟩,rfl⟩
abbrev tbC (f:Fo) (c:Nat) (tot:PV):Ey:=[.lst 5 (f.ns.map nV) none,.lst 3 (f.rs.map rV) none,.int .u64 (c:Nat),.map k1,.func 92 [(k0,0)] [],tot,.bool false]
abbrev mpB (m:Et) (l:Es):B4:=⟨.map (mm m),true,false,[],l⟩
abbrev tyL (f:Fo) (c:Nat) (tot:PV) (m:Et) (l0 l1:Es):List (Key×B4):=[(k0,obl (tbC f c tot) l0),(k1,mpB m l1)]
abbrev tyX (f:Fo) (c:Nat) (tot:PV) (m:Et) (l0 l1:Es):List (Option B4):=[some (obl (tbC f c tot) l0),some (mpB m l1)]
abbrev tyR:Ew:=[(k0,k0),(k1,k1)]
def Lg (l:Es):Prop:=∀q∈l,q=(6,1)
theorem Lg.nil:Lg []:=λ_ h=>absurd h Ah
theorem Lg.one:Lg [(6,1)]:=λ_ h=>Ar.1 h
theorem Lg.app {a b:Es} (h:Lg a) (h2:Lg b):Lg (a++b):=λq hq=>(Av.1 hq).elim (h q) (h2 q)
theorem Lg.apart {a:Es} (h:Lg a) {o n:Nat} (ho:o+n<=6):Tx o n a=true:=by
 induction a with
 |nil=>rfl
 |cons q a ih=>have:=h q (.head _);subst this;rw[Tx,ih λp hp=>h p (.tail _ hp),CY,AW];exact .inr (BT ho)
theorem Lg.take {a l:Es} (h:Lg a) {o n:Nat} (ho:o+n<=6):Tx o n ((a++l).take ((a++l).length-l.length))=true:=by rw[La,Dx,List.take_left' rfl];exact h.apart ho
theorem vT {l l':ED} {K:ED->Prop} (h:l=l') (hk:Ut l' K):Ut l K:=by subst h;exact hk
structure mY (T:EG) (f:Fo) (c:Nat) (tot:PV) (m0:Et) (bd n:Nat) (r:PA) (g:A0):Prop where
 num:∃v,r=.v (.s v)/\A6 n v
 blk:∃m l0 l1,Fa T m/\(∀k,bd<=k->fnd m k=fnd m0 k)/\Lg l0/\g.get k0=some (obl (tbC f c tot) l0)/\g.get k1=some (mpB m l1)
theorem vU {k j:Nat} {v:PV} (h:j≠k):∀m:Et,fnd (m++[(j,v)]) k=fnd m k
 |[]=>by simp[fnd,h]
 |p::m=>by simp only[AH,fnd,vU h m]
theorem Hz {T:EG} {f:Fo} {c:Nat} {tot:PV} {m:Et} {l0 l1:Es} (ht:A2 tot) (hm:Fa T m) {g:A0} (e0:g.get k0=some (obl (tbC f c tot) l0)) (e1:g.get k1=some (mpB m l1)):Na (rho 0 tyR) g (tyL f c tot m [] []):=
 ⟨⟨_,_,rfl,e0,.same Yc⟩,⟨_,_,rfl,e1,.map hm⟩,Ae⟩
theorem H9 {T:EG} {f:Fo} {c:Nat} {tot:PV} {m m':Et} {a0 a1 l0 l1:Es} {gc' g:A0} {q0 q1:B4} (ht:A2 tot) (hm:Fa T m') (e0:gc'.get k0=some (obl (tbC f c tot) a0)) (e1:gc'.get k1=some (mpB m' a1))
  (h0:g.get k0=some q0) (h1:g.get k1=some q1) (hq0:q0.log=l0) (hq1:q1.log=l1):Nb (muR tyR []) g gc' (tyL f c tot m [] []) tyR (tyX f c tot m' (a0++l0) (a1++l1)):=
 ⟨⟨_,_,_,e0,.same Yc,h0,rfl,rfl,by rw[hq0]⟩,⟨_,_,_,e1,.map hm,h1,rfl,rfl,by rw[hq1]⟩,Ae⟩
theorem Xw {T:EG} {f:Fo} {c:Nat} {tot:PV} {m:Et} (hm:Fa T m) {a b:Nat} {v w:PV} (ha:A6 a v) (hb:A6 b w) (hs:a+b<4294967296) :
  XC Fn 62 [.v (.s (.ptr k0 0)),.v (.s v),.v (.s w)] (mkH (tyL f c tot m [] []) k2) (mY T f c tot m 0 (a+b)):=by obtain⟨r,h1,h2⟩:=natAdd ha hb hs;have fv:=ha.flat;have fw:=hb.flat;refine Ek pt C.f62 rfl ?_;refine Yw1 ?_;exact⟨⟨_,rfl,h2⟩,_,_,_,hm,λ_ _=>rfl,Lg.one,rfl,rfl⟩
theorem Z4 {T:EG} {f:Fo} {c:Nat} {tot:PV} {m:Et} (hm:Fa T m) {a b:Nat} {v w:PV} (ha:A6 a v) (hb:A6 b w) (hs:a*b<4294967296) :
  XC Fn 63 [.v (.s (.ptr k0 0)),.v (.s v),.v (.s w)] (mkH (tyL f c tot m [] []) k2) (mY T f c tot m 0 (a*b)):=by obtain⟨r,h1,h2⟩:=natMul ha hb hs;have fv:=ha.flat;have fw:=hb.flat;refine Ek pt C.f63 rfl ?_;refine Yw1 ?_;exact⟨⟨_,rfl,h2⟩,_,_,_,hm,λ_ _=>rfl,Lg.one,rfl,rfl⟩
section
variable {T:EG} {f:Fo} {c:Nat} {tot:PV}
def QO (T:EG) (f:Fo) (c:Nat) (tot:PV) (i:Nat):Prop:=∀m,Fa T m->XC Fn 66 [.v (.s (.ptr k0 3)),iA i] (mkH (tyL f c tot m [] []) k2) (mY T f c tot m (i+1) (T i).length)
def ZQ (T:EG) (f:Fo) (c:Nat) (tot:PV) (i:Nat):Prop:=∀m,Fa T m->XC Fn 92 [.v (.s (.ptr k0 0)),iA i] (mkH (tyL f c tot m [] []) k2) (mY T f c tot m i (T i).length)
theorem Aba (ht:A2 tot) {i:Nat} (hG:ZQ T f c tot i):QO T f c tot i:=by
 intro m hm;have hl:=λ(g:A0) (l:Es) (hg:g.get k1=some (mpB m l))=>lk_m (k:=i) hg;refine Ek pt C.f66 rfl ?_;refine Yw1 ?_;refine⟨_,_,hl _ _ rfl,?_⟩;cases hf:fnd m i with
 |some v=>refine Yw1 ?_;exact⟨⟨v,rfl,hm.fnd hf⟩,m,_,_,hm,λ_ _=>rfl,Lg.nil,rfl,rfl⟩
 |none=>refine Yw1 ?_;refine En (tyL f c tot m [] []) k2 tyR (hG m hm) (Hz ht hm rfl rfl) Ya ?_;rintro rc gc' ⟨⟨v,rfl,hv⟩,m',l0,l1,hm',hk,lgl0,e0,e1⟩;refine⟨[],k2,tyX f c tot m' (l0++[]) (l1++[]),[],.v (.s v),rfl,Rl,H9 ht hm' e0 e1 rfl rfl rfl rfl,Ae,hv.nk.rn,?_⟩;refine Yw1 ?_;refine⟨_,_,ms_m rfl (by rw[hk i (Rl)];exact hf),?_⟩;refine Yw1 ?_;exact⟨⟨v,rfl,hv⟩,_,_,_,hm'.snoc hv,λk hk2=>by rw[vU Aa,hk k Aa],Yg,rfl,rfl⟩
def Uy (T:EG) (f:Fo) (c:Nat) (tot:PV) (k:Nat):Prop:=∀m,Fa T m->XC Fn 64 [.v (.s (.ptr k0 0)),.v (.agg (kV k))] (mkH (tyL f c tot m [] []) k2) (mY T f c tot m (k+1) (T k).length)
theorem zJ (ht:A2 tot) {i:Nat} (hG:QO T f c tot i):Uy T f c tot i:=by intro m hm;refine Ek pt C.f64 rfl ?_;refine Yw1 ?_;refine En (tyL f c tot m [] []) k2 tyR (hG m hm) (Hz ht hm rfl rfl) Ya ?_;rintro rc gc' ⟨⟨v,rfl,hv⟩,m',l0,l1,hm',hk,lgl0,e0,e1⟩;refine⟨[],k3,tyX f c tot m' (l0++[]) (l1++[]),[],.v (.s v),rfl,Rl,H9 ht hm' e0 e1 rfl rfl rfl rfl,Ae,hv.nk.rn,?_⟩;refine Yw1 ?_;exact⟨⟨v,rfl,hv⟩,_,_,_,hm',hk,Yg,rfl,rfl⟩
theorem Sw (x:Nat):(B9 T [x]).length=(T x).length:=by simp[B9,DR,Function.comp_def,List.map_const']
theorem Md (x y:Nat):(B9 T [x,y]).length=(T x).length*(T y).length:=by
 rw[B9,DR];have:(List.map (λa=>(List.map (λx=>a++x) (B9 T [y])).length) (T x))=(T x).map λ_=>(T y).length:=by congr 1;funext a;rw[Lm,Sw]
 rw[this,List.map_const',List.sum_replicate_nat]
theorem qO (ht:A2 tot) {i:Nat} {a:Al} (h2:a.ks.length<=2) (hk:∀k∈a.ks,k<i/\Uy T f c tot k) (hs:(B9 T a.ks).length<4294967296) {m:Et} (hm:Fa T m) :
  XC Fn 65 [.v (.s (.ptr k0 0)),.v (.agg (aC a))] (mkH (tyL f c tot m [] []) k2) (mY T f c tot m i (B9 T a.ks).length):=by
 obtain⟨p,ks,d⟩:=a;refine XC.LG ?_;refine Ek pt C.f65 rfl ?_;rcases ks with _|⟨x,_|⟨y,_|⟨z,ks⟩⟩⟩;·refine Yz pt ?_;refine Ek pt C.f119 rfl ?_;refine Ek pt C.f183 rfl ?_;refine Yz pt ?_;refine Yy pt ?_;exact⟨_,_,rfl,⟨_,rfl,A6.one 1 Ab Ab⟩,_,_,_,hm,λ_ _=>rfl,Lg.nil,rfl,rfl⟩
 ·obtain⟨hx,kx⟩:=hk x Ac;rw[Sw] at hs ⊢;refine Yz pt ?_;refine En (tyL f c tot m [] []) k2 tyR (kx m hm) (Hz ht hm rfl rfl) Ya ?_;rintro rc gc' ⟨⟨v,rfl,hv⟩,m',l0,l1,hm',hk1,lgl0,e0,e1⟩;refine⟨[],k5,tyX f c tot m' (l0++[]) (l1++[]),[],.v (.s v),rfl,Rl,H9 ht hm' e0 e1 rfl rfl rfl rfl,Ae,hv.nk.rn,?_⟩;have hk2:∀k,i<=k->fnd m' k=fnd m k:=λk h=>hk1 k Aa;have hmul:=λm (hm:Fa T m)=>Z4 (f:=f) (c:=c) (tot:=tot) hm (A6.one 1 Ab Ab) hv Aa;generalize hn:(T x).length=n at *;cases hv;·refine Yz pt ?_;refine Ek pt C.f119 rfl ?_;refine Ek pt C.f183 rfl ?_;refine Yz pt ?_;refine Ek pt C.f120 rfl ?_;refine Yw1 ?_;exact⟨_,_,rfl,⟨_,rfl,A6.nil⟩,_,_,_,hm',hk2,Yg,rfl,rfl⟩
  ·refine Yz pt ?_;refine Ek pt C.f119 rfl ?_;refine Ek pt C.f183 rfl ?_;refine Yz pt ?_;refine Ek pt C.f120 rfl ?_;refine Yw1 ?_;exact⟨_,_,rfl,⟨_,rfl,A6.nil⟩,_,_,_,hm',hk2,Yg,rfl,rfl⟩
  ·refine Yz pt ?_;refine Ek pt C.f119 rfl ?_;refine Ek pt C.f183 rfl ?_;refine Yz pt ?_;refine Ek pt C.f120 rfl ?_;refine Yz pt ?_;refine Yy pt ?_;refine XC.LF (a:=[.v (.s (.ptr k0 0))]) (x':=.v (.s (.lst 1 [[.int .u32 (1:Nat)]] none))) rfl ?_;refine En (tyL f c tot m' [] []) k2 tyR (hmul m' hm') (Hz ht hm' rfl rfl) Ya ?_;rintro rc gc' ⟨⟨u,rfl,hu⟩,m2,a0,a1,hm2,hj,lga0,e0,e1⟩;refine⟨[],k7,tyX f c tot m2 (a0++_) (a1++_),[],.v (.s u),rfl,Rl,H9 ht hm2 e0 e1 rfl rfl rfl rfl,Ae,hu.nk.rn,?_⟩;refine Yz pt ?_;rw[Ce] at hu;exact⟨_,_,Lk (hu.frz _),⟨_,rfl,hu⟩,_,_,_,hm2,λk h=>by rw[hj k Zl,hk2 k h],Yg,rfl,rfl⟩
 ·obtain⟨hx,kx⟩:=hk x Ac;obtain⟨hy,ky⟩:=hk y Ac;clear h2 hk;rw[Md] at hs ⊢;have hs':True->(T x).length*(T y).length<4294967296:=λ_=>hs;clear hs;refine⟨_,_,AaY (n:=2) rfl Ab Ab,?_⟩;refine Yy pt ?_;refine En (tyL f c tot m [] []) k2 tyR (kx m hm) (Hz ht hm rfl rfl) Ya ?_;rintro rc gc' ⟨⟨v,rfl,hv⟩,m',l0,l1,hm',hk1,lgl0,e0,e1⟩;refine⟨[],k5,tyX f c tot m' (l0++[]) (l1++[]),[],.v (.s v),rfl,Rl,H9 ht hm' e0 e1 rfl rfl rfl rfl,Ae,hv.nk.rn,?_⟩;refine Yz pt ?_;clear e0 e1;refine En (tyL f c tot m' [] []) k2 tyR (ky m' hm') (Hz ht hm' rfl rfl) Ya ?_;rintro rc gc' ⟨⟨w,rfl,hw⟩,m2,b0,b1,hm2,hk2,lgb0,e0,e1⟩;refine⟨[],k7,tyX f c tot m2 (b0++_) (b1++_),[],.v (.s w),rfl,Rl,H9 ht hm2 e0 e1 rfl rfl rfl rfl,Ae,hw.nk.rn,?_⟩;have hk3:∀k,i<=k->fnd m2 k=fnd m k:=λk h=>by rw[hk2 k Aa,hk1 k Aa]
  have hmul:=λm (hm:Fa T m)=>Z4 (f:=f) (c:=c) (tot:=tot) hm (A6.one 1 Ab Ab) hv (by have:=hv.lt;omega);have hmul2:=λm (hm:Fa T m) u (hu:A6 (T x).length u)=>Z4 (f:=f) (c:=c) (tot:=tot) hm hu hw (hs' Ae);clear hs';generalize hn:(T x).length=n at *;generalize hq:(T y).length=q at *;refine Yx pt ?_;cases hv;·refine Yw1 ?_;refine Ek pt C.f119 rfl ?_;refine Ek pt C.f183 rfl ?_;refine Yz pt ?_;refine Ek pt C.f120 rfl ?_;refine Yw1 ?_;exact⟨_,_,rfl,⟨_,rfl,by first|(rw[Bo];exact A6.nil)|(rw[BN];exact A6.nil)⟩,_,_,_,hm2,hk3,Yg,rfl,rfl⟩
  ·refine Yw1 ?_;refine Ek pt C.f119 rfl ?_;refine Ek pt C.f183 rfl ?_;refine Yz pt ?_;refine Ek pt C.f120 rfl ?_;refine Yw1 ?_;exact⟨_,_,rfl,⟨_,rfl,by first|(rw[Bo];exact A6.nil)|(rw[BN];exact A6.nil)⟩,_,_,_,hm2,hk3,Yg,rfl,rfl⟩
  ·refine Yw1 ?_;refine Ek pt C.f119 rfl ?_;refine Ek pt C.f183 rfl ?_;refine Yz pt ?_;refine Ek pt C.f120 rfl ?_;refine Yz pt ?_;cases hw;·refine Ek pt C.f120 rfl ?_;refine Yw1 ?_;exact⟨_,_,rfl,⟨_,rfl,by first|(rw[Bo];exact A6.nil)|(rw[BN];exact A6.nil)⟩,_,_,_,hm2,hk3,Yg,rfl,rfl⟩
   ·refine Ek pt C.f120 rfl ?_;refine Yw1 ?_;exact⟨_,_,rfl,⟨_,rfl,by first|(rw[Bo];exact A6.nil)|(rw[BN];exact A6.nil)⟩,_,_,_,hm2,hk3,Yg,rfl,rfl⟩
   ·refine Ek pt C.f120 rfl ?_;refine Yz pt ?_;refine Yy pt ?_;refine XC.LF (a:=[.v (.s (.ptr k0 0))]) (x':=.v (.s (.lst 1 [[.int .u32 (1:Nat)]] none))) rfl ?_;clear e0 e1;refine En (tyL f c tot m2 [] []) k2 tyR (hmul m2 hm2) (Hz ht hm2 rfl rfl) Ya ?_;rintro rc gc' ⟨⟨u,rfl,hu⟩,m3,a0,a1,hm3,hj,lga0,e0,e1⟩;rw[Ce] at hu;have hmul3:=hmul2 m3 hm3 u hu;have unk:=hu.nk;refine⟨[],k9,tyX f c tot m3 (a0++_) (a1++_),[],.v (.s u),rfl,Rl,H9 ht hm3 e0 e1 rfl rfl rfl rfl,Ae,hu.nk.rn,?_⟩;refine Yz pt ?_;clear e0 e1;refine En (tyL f c tot m3 [] []) k2 tyR hmul3 (Hz ht hm3 rfl rfl) Ya ?_;rintro rc gc' ⟨⟨u2,rfl,hu2⟩,m4,c0,c1,hm4,hj4,lgc0,e0,e1⟩;refine⟨[],k9,tyX f c tot m4 (c0++_) (c1++_),[],.v (.s u2),rfl,Rl,H9 ht hm4 e0 e1 rfl rfl rfl rfl,Ae,hu2.nk.rn,?_⟩;refine Yz pt ?_;exact⟨_,_,Lk (hu2.frz _),⟨_,rfl,hu2⟩,_,_,_,hm4,λk h=>by rw[hj4 k Zl,hj k Zl,hk3 k h],Yg,rfl,rfl⟩
 ·simp at h2
end
section
variable {T:EG} {f:Fo} {c:Nat} {tot:PV}
theorem Hi (T:EG) (c:Nat) (az:List Al) (a:Al):C7 T c (az++[a])=C7 T c az++(if a.d.testBit c then(B9 T a.ks).map (a.p::·) else[]):=by simp[C7]
theorem M1 (T:EG) (c:Nat) (az:List Al) (j:Nat):(C7 T c (az.take j)).length<=(C7 T c az).length:=by
 have h:C7 T c az=C7 T c (az.take j)++C7 T c (az.drop j):=by
  conv=>lhs;rw[<-Be j az]
  rw[C7,Cf];rfl
 rw[h,La];omega
theorem Sx {lo:Nat} {L1 L2:Fm} {m:Et} {l0 l1:Es} {g:A0} (hlo:lo=2) (ht:A2 tot) (hm:Fa T m) (e0:g.get k0=some (obl (tbC f c tot) l0)) (e1:g.get k1=some (mpB m l1)) (hf:Jz (rho lo []) L1 L2):Trim lo (rho lo []) L1 g L2 (mkH (tyL f c tot m l0 l1) k2):=by subst hlo;exact Trim.of (lo:=2) (l:=tyL f c tot m l0 l1) (nx:=k2) [] rfl Rl ⟨e1.symm,e0.symm,Ae⟩ ⟨⟨_,_,rfl,e0,.same Yc⟩,⟨_,_,rfl,e1,.map hm⟩,Ae⟩ hf
theorem Abb (D:Tg) (hc:c<4) (ht:A2 tot) {i:Nat} {n:Nd} (hi:i<f.ns.length) (hL:f.ns.length<=4) (hn:(f.ns.map nV)[(i:Int).toNat]?=some (nC n)) (nL:n.az.length<=3) (hal:∀a∈n.az,a.ks.length<=2/\a.d<16/\∀k∈a.ks,k<i/\Uy T f c tot k)
  (hT:T i=C7 T c n.az) (hB:(C7 T c n.az).length<4294967296):ZQ T f c tot i:=by
 intro m hm;have nlen:(n.az.map aV).length=n.az.length:=Lm ..;have hlen:(f.ns.map nV).length=f.ns.length:=Lm ..;rw[hT];refine Ek pt C.f92 rfl ?_;refine Yw1 ?_;refine XW.B6 (pu:=pt) (σ:=Nat×PV) (λq=>n.az.length-q.1) (λq=>[pE k0 k0,sE k5 q.2,(k16,.v (PA.lst 4 (n.az.map aV))),(k17,.v (iA (n.az.map aV).length)),(k18,.v (iA q.1))])
  (λq g=>q.1<=n.az.length/\A6 (C7 T c (n.az.take q.1)).length q.2/\∃m' l0 l1,Fa T m'/\(∀k,i<=k->fnd m' k=fnd m k)/\Lg l0/\g=mkH (tyL f c tot m' l0 l1) k2) (0,.A4)
  (Sx rfl ht hm rfl rfl Yf) ⟨Zl,A6.nil,m,[],[],hm,λ_ _=>rfl,Lg.nil,rfl⟩ ?_
 rintro⟨j,v⟩ g ⟨hj,hv,m',l0,l1,hm',hk,lg,rfl⟩;replace hj:j<=n.az.length:=hj;replace hv:A6 (C7 T c (n.az.take j)).length v:=hv;have vnk:=hv.nk;refine⟨λh=>?_,λh=>?_⟩
 ·have hj:j<n.az.length:=by have:=B0 h;omega
  have ha:n.az[j]?=some n.az[j]:=Gg hj;have htk:n.az.take (j+1)=n.az.take j++[n.az[j]]:=An hj;have hin:n.az[j]∈n.az:=AU hj;generalize n.az[j]=a at ha htk hin;have hga:=Ii ha;obtain⟨a1,a2,a3⟩:=hal a hin;have dh:=D.holds a.d a2 c hc;have hs:=Hi T c (n.az.take j) a;rw[<-htk] at hs;have hle:=M1 T c n.az (j+1);generalize (C7 T c n.az).length=full at hB hle;have hl:=Bh List.length hs;cases hb:a.d.testBit c;·rw[hb] at dh hs hl;simp only[Fj,Ag,Ay] at hs hl;refine Yw1 ?_;exact⟨(j+1,v),_,_,Lq,Sx rfl ht hm' rfl rfl Yf,hj,(by rw[hs];exact hv),m',_,_,hm',hk,lg,rfl⟩
  ·rw[hb] at dh hs hl;simp only[Ak,La,Lm] at hl;have alt:=qO (T:=T) (f:=f) (c:=c) ht (i:=i) (a:=a) a1 a3 Aa hm';generalize (B9 T a.ks).length=q at alt hl;refine Yw1 ?_;refine En (tyL f c tot m' [] []) k2 tyR alt (Hz ht hm' rfl rfl) Ya ?_;rintro rc gc' ⟨⟨u,rfl,hu⟩,m2,a0,a1,hm2,hk2,lga0,e0,e1⟩;refine⟨[],k3,tyX f c tot m2 (a0++l0) (a1++l1),[],.v (.s u),rfl,Rl,H9 ht hm2 e0 e1 rfl rfl rfl rfl,Ae,hu.nk.rn,?_⟩;have unk:=hu.nk;have hadd:=Xw (f:=f) (c:=c) (tot:=tot) hm2 hv hu Aa;rw[<-hl] at hadd;refine Yw1 ?_;clear e0 e1;refine En (tyL f c tot m2 [] []) k2 tyR hadd (Hz ht hm2 rfl rfl) Ya ?_;rintro rc gc' ⟨⟨w,rfl,hw⟩,m3,b0,b1,hm3,hk3,lgb0,e0,e1⟩;refine⟨[],k3,tyX f c tot m3 (b0++_) (b1++_),[],.v (.s w),rfl,Rl,H9 ht hm3 e0 e1 rfl rfl rfl rfl,Ae,hw.nk.rn,?_⟩;have wnk:=hw.nk;refine Yw1 ?_;exact⟨(j+1,w),_,_,Lq,Sx rfl ht hm3 rfl rfl Yf,hj,hw,m3,_,_,hm3,(λk h=>by rw[hk3 k Zl,hk2 k h,hk k h]),Yg,rfl⟩
 ·have hfull:n.az.take j=n.az:=by rw[show j=n.az.length from by have:=B5 h;omega];exact AB
  rw[hfull] at hv;refine Yw1 ?_;exact⟨⟨_,rfl,hv⟩,_,_,_,hm',hk,lg,rfl,rfl⟩
end
def Px:Nat->Nat
 |0=>1
 |1=>9
 |2=>729
 |_=>4782969
theorem Abc:∀i,i<=3->∀k,k<i->∀j,j<i->(3*Px k)*(3*Px j)<=Px i:=Ab
theorem Abd:∀i,i<=3->∀k,k<i->3*Px k<=Px i:=Ab
theorem Abe:∀i,i<=3->1<=Px i:=Ab
theorem Xx:∀i,i<=3->Px i<=4782969:=Ab
theorem jJ {T:EG} {i:Nat} (hi:i<=3):∀{ks:EF},ks.length<=2->(∀k∈ks,k<i/\(T k).length<=3*Px k)->(B9 T ks).length<=Px i
 |[],_,_=>by simpa[B9] using Abe i hi
 |[x],_,h=>by rw[Sw];exact AQ (h x Ac).2 (Abd i hi x (h x Ac).1)
 |[x,y],_,h=>by rw[Md];exact AQ (Nat.mul_le_mul (h x Ac).2 (h y Ac).2) (Abc i hi x (h x Ac).1 y (h y Ac).1)
 |_::_::_::_,h,_=>by simp at h
theorem mZ {T:EG} {c B:Nat}:∀{az:List Al},(∀a∈az,(B9 T a.ks).length<=B)->(C7 T c az).length<=az.length*B
 |[],_=>by simp[C7]
 |a::az,h=>by
  have ih:=mZ (c:=c) λb hb=>h b (.tail _ hb);have ha:=h a (.head _);rw[show a::az=[a]++az from rfl,C7,Cf,La,La,Bg];refine Nat.add_le_add ?_ ih;simp only[Bf,List.flatMap_nil,Ay,Bl,Ce];split;·rw[Lm];exact ha
  ·simp
theorem Ll {f:Fo} {c:Nat} (w:WF0 f):∀i,i<f.ns.length->(Tr2 f c i).length<=3*Px i:=by
 intro i;induction i using Nat.strongRecOn with
 |ind i ih=>intro hi;have hn:f.ns[i]?=some f.ns[i]:=Gg hi;generalize f.ns[i]=n at hn;have hL:=w.len;rw[Tr2,qK (Sv w) i n hn];refine AQ (mZ (B:=Px i) λa ha=>?_) (AZ _ (w.Kw i n hn));exact jJ Aa (w.al i n hn a ha).1 λk hk=>⟨(w.al i n hn a ha).2.1 k hk,ih k ((w.al i n hn a ha).2.1 k hk) (by have:=(w.al i n hn a ha).2.1 k hk;omega)⟩
theorem V9 {f:Fo} {c:Nat} {tot:PV} (D:Tg) (hc:c<4) (ht:A2 tot) (w:WF0 f) (v:WF f):∀i,i<f.ns.length->QO (Tr2 f c) f c tot i:=by
 intro i;induction i using Nat.strongRecOn with
 |ind i ih=>intro hi;have hn:f.ns[i]?=some f.ns[i]:=Gg hi;generalize f.ns[i]=n at hn;have hL:=w.len;have hg:=I6 hn;rw[J2 (v.as0 i n hn)] at hg;have hU:=qK (c:=c) (Sv w) i n hn;have hlen:=Ll (c:=c) w i hi;have hpx:=Xx i Aa;have hB:(Tr2 f c i).length<4294967296:=Aa;refine Aba ht (Abb D hc ht hi hL hg (w.Kw i n hn) (λa ha=>⟨(w.al i n hn a ha).1,(w.al i n hn a ha).2.2.1,λk hk=>?_⟩) hU (by rw[<-hU];exact hB));have hki:=(w.al i n hn a ha).2.1 k hk;exact⟨hki,zJ ht (ih k hki Aa)⟩
def B1 (T:EG) (c:Nat) (rs:Es):List Tre:=rs.flatMap λr=>if r.2.testBit c then T r.1 else[]
theorem Me (T:EG) (c:Nat) (rs:Es) (r:Nat×Nat):B1 T c (rs++[r])=B1 T c rs++(if r.2.testBit c then T r.1 else[]):=by simp[B1]
theorem Sy (T:EG) (c:Nat) (rs:Es) (j:Nat):(B1 T c (rs.take j)).length<=(B1 T c rs).length:=by
 have h:B1 T c rs=B1 T c (rs.take j)++B1 T c (rs.drop j):=by
  conv=>lhs;rw[<-Be j rs]
  rw[B1,Cf];rfl
 rw[h,La];omega
abbrev tbK (ka kb:Key) (f:Fo) (c:Nat) (tot:PV):Ey:=[.lst 5 (f.ns.map nV) none,.lst 3 (f.rs.map rV) none,.int .u64 (c:Nat),.map kb,.func 92 [(ka,0)] [],tot,.bool false]
abbrev zK:Ew:=[(k0,k1),(k1,k2)]
theorem qP {T:EG} {f:Fo} {c:Nat} {tot:PV} {m:Et} {l0 l1:Es} (ht:A2 tot) (hm:Fa T m) {g:A0} (e0:g.get k1=some (obl (tbK k1 k2 f c tot) l0)) (e1:g.get k2=some (mpB m l1)):Na (rho 0 zK) g (tyL f c tot m [] []):=
 ⟨⟨_,_,rfl,e0,(Er Ys)⟩,⟨_,_,rfl,e1,.map hm⟩,Ae⟩
abbrev QP (f:Fo) (c:Nat) (tot:PV) (m:Et) (l0 l1:Es):List (Option B4):=[some (obl (tbK k1 k2 f c tot) l0),some (mpB m l1)]
theorem QQ {T:EG} {f:Fo} {c:Nat} {tot:PV} {m m':Et} {a0 a1 l0 l1:Es} {gc' g:A0} {q0 q1:B4} (ht:A2 tot) (hm:Fa T m') (e0:gc'.get k0=some (obl (tbC f c tot) a0)) (e1:gc'.get k1=some (mpB m' a1))
  (h0:g.get k1=some q0) (h1:g.get k2=some q1) (hq0:q0.log=l0) (hq1:q1.log=l1):Nb (muR zK []) g gc' (tyL f c tot m [] []) zK (QP f c tot m' (a0++l0) (a1++l1)):=
 ⟨⟨_,_,_,e0,(Er Ys),h0,rfl,rfl,by rw[hq0]⟩,⟨_,_,_,e1,.map hm,h1,rfl,rfl,by rw[hq1]⟩,Ae⟩
theorem Z5 {f:Fo} {c:Nat} (w:WF0 f):(B1 (Tr2 f c) c f.rs).length<4294967296:=by
 have key:∀rs:Es,(∀r∈rs,r.1<f.ns.length)->(B1 (Tr2 f c) c rs).length<=rs.length*14348907:=by
  intro rs;induction rs with
  |nil=>intro _;simp[B1]
  |cons r rs ih=>
   intro h;have h1:=ih λq hq=>h q (.tail _ hq);have h2:=Ll (c:=c) w r.1 (h r (.head _));have h3:=Xx r.1 (by have:=h r (.head _);have:=w.len;omega);have h4:(B1 (Tr2 f c) c (r::rs)).length=(if r.2.testBit c then Tr2 f c r.1 else[]).length+(B1 (Tr2 f c) c rs).length:=by simp[B1]
   rw[h4,Ap,Bg];split;·have h5:(Tr2 f c r.1).length<=14348907:=Aa;omega
   ·simp only[BO];omega
 have h:=key f.rs λr hr=>by obtain⟨i,hi⟩:=BP.1 hr;have:=(w.rt i r hi).1;have:=(Gi.1 hi).1;have:=w.Nl;omega
 have:=w.len;have:=w.Nl;omega
theorem Oy {f:Fo} {c:Nat} (D:Tg) (hc:c<4) (w:WF0 f) (w1:WF f):XC Fn 29 [foA f,cA c] (mkH [] k0) λr g=>r=.tup [.s (.ptr k1 0),.s (.int .i64 ((0:Nat):Int))] /\
  ∃m l0 l1 tot,Fa (Tr2 f c) m/\A6 (B1 (Tr2 f c) c f.rs).length tot/\g.get k1=some (obl (tbK k1 k2 f c tot) l0)/\g.get k2=some (mpB m l1):=by
 have hrlen:(f.rs.map rV).length=f.rs.length:=Lm ..;have hL:=w.len;have rL:=w.Nl;rw[E4 w.n0 w.r0];refine Ek pt C.f29 rfl ?_;refine Yw1 ?_;refine XW.B6 (pu:=pt) (σ:=Nat×PV) (λq=>f.rs.length-q.1) (λq=>[(k1,.v (cA c)),pE k6 k1,(k21,.v (PA.lst 3 (f.rs.map rV))),(k22,.v (iA (f.rs.map rV).length)),(k23,.v (iA q.1))])
  (λq g=>q.1<=f.rs.length/\A6 (B1 (Tr2 f c) c (f.rs.take q.1)).length q.2/\∃m l0 l1,Fa (Tr2 f c) m/\g=mkH [(k1,obl (tbK k1 k2 f c q.2) l0),(k2,mpB m l1)] k3) (0,.A4)
  (Em [(k1,obl (tbK k1 k2 f c .A4) [(3,2)]),(k2,mpB [] [])] k3 [(k1,k1),(k2,k2)] ⟨⟨_,_,rfl,rfl,.same Yc⟩,⟨_,_,rfl,rfl,.map (T:=Tr2 f c) (λ_ h=>absurd h Ah)⟩,Ae⟩ Yf) ⟨Zl,A6.nil,[],[(3,2)],[],(λ_ h=>absurd h Ah),rfl⟩ ?_
 rintro⟨i,v⟩ g ⟨hi,hv,m,l0,l1,hm,rfl⟩;replace hi:i<=f.rs.length:=hi;replace hv:A6 (B1 (Tr2 f c) c (f.rs.take i)).length v:=hv;have vnk:=hv.nk;have hmax:(B1 (Tr2 f c) c f.rs).length<4294967296:=Z5 w;refine⟨λh=>?_,λh=>?_⟩
 ·have hi:i<f.rs.length:=by have:=B0 h;omega
  have hr:f.rs[i]?=some f.rs[i]:=Gg hi;have htk:f.rs.take (i+1)=f.rs.take i++[f.rs[i]]:=An hi;generalize f.rs[i]=r at hr htk;have hgr:=Je hr;obtain⟨r1,r2,r3⟩:=w.rt i r hr;rw[r1] at hgr;have dh:=D.holds r.2 r2 c hc;have hs:=Me (Tr2 f c) c (f.rs.take i) r;rw[<-htk,r1] at hs;have hle:=Sy (Tr2 f c) c f.rs (i+1);have hG:=V9 (tot:=v) D hc vnk w w1 i Aa m hm;generalize (B1 (Tr2 f c) c f.rs).length=full at hmax hle;have hl:=Bh List.length hs;cases hb:r.2.testBit c;·rw[hb] at dh hs hl;simp only[Fj,Ag,Ay] at hs hl;refine Yw1 ?_;exact⟨(i+1,v),_,_,Lq,Em [(k1,obl (tbK k1 k2 f c v) l0),(k2,mpB m l1)] k3 [(k1,k1),(k2,k2)] ⟨⟨_,_,rfl,rfl,.same Yc⟩,⟨_,_,rfl,rfl,.map hm⟩,Ae⟩ Yf,hi,(by rw[hs];exact hv),m,_,_,hm,rfl⟩
  ·rw[hb] at dh hs hl;simp only[Ak,La] at hl;refine Yw1 ?_;refine En (tyL f c v m [] []) k2 zK hG (qP vnk hm rfl rfl) Ya ?_;rintro rc gc' ⟨⟨u,rfl,hu⟩,m2,a0,a1,hm2,hk2,lga0,e0,e1⟩;refine⟨[],k4,QP f c v m2 (a0++l0) (a1++l1),[],.v (.s u),rfl,Rl,QQ vnk hm2 e0 e1 rfl rfl rfl rfl,Ae,hu.nk.rn,?_⟩;have unk:=hu.nk;have hadd:=Xw (f:=f) (c:=c) (tot:=v) hm2 hv hu Aa;rw[<-hl] at hadd;refine Yw1 ?_;have hap:(Tx 5 1 ((a0++l0).take ((a0++l0).length-l0.length))&&true)=true:=by rw[lga0.take Ab];rfl
   conv=>whnf
   split;case h_2 _ he=>exact absurd (hap.symm.trans he) Ab
   conv=>whnf
   refine vT (l':=[k42]) (Aj (lga0.take (l:=l0) (o:=5) (n:=1) Ab)) ?_;refine Yw1 ?_;clear e0 e1;refine En (tyL f c v m2 [] []) k2 zK hadd (qP vnk hm2 rfl rfl) Ya ?_;rintro rc gc' ⟨⟨z,rfl,hz⟩,m3,b0,b1,hm3,hk3,lgb0,e0,e1⟩;refine⟨[],k4,QP f c v m3 (b0++_) (b1++_),[],.v (.s z),rfl,Rl,QQ vnk hm3 e0 e1 rfl rfl rfl rfl,Ae,hz.nk.rn,?_⟩;have znk:=hz.nk;refine Yw1 ?_;exact⟨(i+1,z),_,_,Lq,Em [(k1,obl (tbK k1 k2 f c z) ((5,1)::(b0++(a0++l0)))),(k2,mpB m3 (b1++(a1++l1)))] k3 [(k1,k1),(k2,k2)] ⟨⟨_,_,rfl,rfl,.same Yc⟩,⟨_,_,rfl,rfl,.map hm3⟩,Ae⟩ Yf,hi,hz,m3,_,_,hm3,rfl⟩
 ·have hfull:f.rs.take i=f.rs:=by rw[show i=f.rs.length from by have:=B5 h;omega];exact AB
  rw[hfull] at hv;refine Yw1 ?_;exact⟨rfl,m,_,_,v,hm,hv,rfl,rfl⟩
section
variable {T:EG} {f:Fo} {c:Nat} {tot:PV}
theorem Uz {α β:Type} {g:α->List β} {m:Nat} (hm:0<m):∀{l:List α},(∀s∈l,(g s).length=m)->∀n,(l.flatMap g)[n]?=(l[n / m]?).bind λs=>(g s)[n % m]?
 |[],_,n=>Ac
 |s::l,h,n=>by
  have hs:=h s (.head _);rw[Bf];by_cases hn:n<m;·rw[Ai Aa,Dg hn,Bz hn];rfl
  ·rw[Am Aa,hs,Uz hm (λt ht=>h t (.tail _ ht)) (n-m)];obtain⟨k,rfl⟩:∃k,n=k+m:=⟨n-m,Aa⟩;rw[Dx,Nat.add_div_right _ hm,Nat.add_mod_right,Bc]
theorem Kx (x:Nat):B9 T [x]=T x:=by simp[B9]
theorem LJ (x y:Nat):B9 T [x,y]=(T x).flatMap λs=>(T y).map (s++·):=by rw[B9,Kx]
theorem Xy {x y n:Nat} (hy:0<(T y).length) {s u:Tre} (h1:(T x)[n / (T y).length]?=some s) (h2:(T y)[n % (T y).length]?=some u):(B9 T [x,y])[n]?=some (s++u):=by rw[LJ,Uz hy (λs _=>Lm ..),h1];simp[h2]
theorem bT {az:List Al} {j n:Nat} {a:Al} {u:Tre} (ha:az[j]?=some a) (hb:a.d.testBit c=true) (h1:(C7 T c (az.take j)).length<=n) (h2:(B9 T a.ks)[n-(C7 T c (az.take j)).length]?=some u):(C7 T c az)[n]?=some (a.p::u):=by
 obtain⟨hj,rfl⟩:=Gi.1 ha;have h:C7 T c az=C7 T c (az.take j)++((B9 T az[j].ks).map (az[j].p::·)++C7 T c (az.drop (j+1))):=by
  conv=>lhs;rw[<-Be j az,Ax hj]
  rw[C7,Cf,Bf,Aj hb];rfl
 rw[h,Am h1,Ai (by rw[Lm];exact(Gi.1 h2).1),AD,h2];rfl
theorem zM (i:Nat):1<=sz i:=by have:=Nat.pow_le_pow_right (n:=2) Ab (show 1<=i+1 by omega);unfold sz;omega
theorem Nt {a b:Nat} (h:Iq (a:Int) (b:Int)>=((0:Nat):Int)):b<=a:=by
 unfold Iq at h;split at h;·omega
 ·split at h<;>omega
theorem Rd {a b:Nat} (h:¬Iq (a:Int) (b:Int)>=((0:Nat):Int)):a<b:=by
 unfold Iq at h;split at h;·omega
 ·split at h<;>omega
structure ZR (T:EG) (f:Fo) (c:Nat) (tot:PV) (i:Nat) (t:Tre) (nx:Nat) (n:Nat) (r:PA) (g:A0):Prop where
 out:∃s kN anc cc m,(T i)[n]?=some s/\s.length<=sz i/\nx<=kN.toNat/\r=.v (.s (.slice kN 0 m 4 none))/\g.get kN=some ⟨.cells cc,true,false,anc,[]⟩/\m=(t++s).length/\cc=(tR (t++s)).flatten
 blk:∃m l0 l1,Fa T m/\Lg l0/\g.get k0=some (obl (tbC f c tot) l0)/\g.get k1=some (mpB m l1)
abbrev wrL (f:Fo) (c:Nat) (tot:PV) (m:Et) (t:Tre) (cc:Ey):List (Key×B4):=tyL f c tot m [] []++[(k2,wld (tR t).flatten k3),(k3,fzb cc)]
def QR (T:EG) (f:Fo) (c:Nat) (tot:PV) (i:Nat):Prop:=∀m t cc n v,Fa T m->t≠[]->t.length+sz i<=1000->(∀u∈cc,A2 u)->A6 n v->n<(T i).length ->
 XC Fn 110 [.v (.s (.ptr k0 0)),.v (.s (.slice k2 0 t.length 4 none)),iA i,.v (.s v)] (mkH (wrL f c tot m t cc) k4) λr g=>ZR T f c tot i t 4 n r g/\g.get k3=some (fzb cc)/\∃anc,g.get k2=some ⟨.cells (tR t).flatten,false,false,anc,[]⟩
theorem QS (D:Tg) (hc:c<4) (ht:A2 tot) {i:Nat} {nd:Nd} (hi:i<f.ns.length) (hL:f.ns.length<=4) (hn:(f.ns.map nV)[(i:Int).toNat]?=some (nC nd)) (nL:nd.az.length<=3) (hal:∀a∈nd.az,a.ks.length<=2/\a.d<16/\∀k∈a.ks,k<i/\Uy T f c tot k/\QR T f c tot k)
  (hT:T i=C7 T c nd.az) (hB:(C7 T c nd.az).length<4294967296):QR T f c tot i:=by
 intro m t cc n v hm htne htl hcc hv hnl;have nlen:(nd.az.map aV).length=nd.az.length:=Lm ..;have hlen:(f.ns.map nV).length=f.ns.length:=Lm ..;have ndk:∀u∈nC nd,A2 u:=λu hu=>by simp only[Af,Ah,AP] at hu;rcases hu with rfl|rfl|rfl|rfl|rfl<;>exact Ae
 have tfk:∀(t:Tre),∀u∈(tR t).flatten,A2 u:=λt u hu=>by obtain⟨x,hx,hu⟩:=Dh.1 hu;obtain⟨p,_,rfl⟩:=Aw.1 hx;simp only[Af,Ah,AP] at hu;rcases hu with rfl|rfl|rfl|rfl<;>exact Ae
 have tfh:∀(t:Tre) (p:Nat),∀u∈(tR t).flatten++[[PV.int .i64 (p:Nat),.int .i64 (-1),.int .i64 0,.int .i64 0]].flatten,A2 u:=λt p u hu=>by refine tfk (t++[p]) u ?_;rw[<-Zz,Cg];exact hu
 have tfk0:=tfk t;have tfl:=Jt (Su t);have trl:(tR t).length=t.length:=Lm ..;rw[hT] at hnl;have vnk:=hv.nk;refine Ek pt C.f110 rfl ?_;refine Yw1 ?_;refine XW.Mq k4 Rl rfl rfl ?_;refine XW.B6 (pu:=pt) (σ:=Nat×PV) (λq=>nd.az.length-q.1) (λq=>[pE k0 k0,sE k1 (.slice k2 0 t.length 4 none),sE k3 q.2,pE k9 k4,(k26,.v (PA.lst 4 (nd.az.map aV))),(k27,.v (iA (nd.az.map aV).length)),(k28,.v (iA q.1))])
  (λq g=>q.1<=nd.az.length/\(C7 T c (nd.az.take q.1)).length<=n/\A6 (n-(C7 T c (nd.az.take q.1)).length) q.2/\∃m l0 l1,Fa T m/\Lg l0/\g=mkH (tyL f c tot m l0 l1++[(k2,wld (tR t).flatten k3),(k3,fzb cc),(k4,⟨.cells (nC nd),true,true,[],[(0,5)]⟩)]) k5) (0,v)
  (Trim.of (lo:=4) (l:=tyL f c tot m [] []++[(k2,wld (tR t).flatten k3),(k3,fzb cc),(k4,⟨.cells (nC nd),true,true,[],[(0,5)]⟩)]) (nx:=k5) [(k4,k4)] rfl (show 4<=5 by decide) Yl ⟨⟨_,_,rfl,rfl,.same Yc⟩,⟨_,_,rfl,rfl,.map hm⟩,Yb⟩ Yf) ⟨Zl,Zl,hv,m,[],[],hm,Lg.nil,rfl⟩ ?_
 clear hv vnk hm;rintro⟨j,u⟩ g ⟨hj,hle,hu,m,l0,l1,hm,lg,rfl⟩;replace hj:j<=nd.az.length:=hj;replace hle:(C7 T c (nd.az.take j)).length<=n:=hle;replace hu:A6 (n-(C7 T c (nd.az.take j)).length) u:=hu;have unk:=hu.nk;have ufl:=hu.flat;refine⟨λh=>?_,λh=>?_⟩;case refine_2=>
  have hfull:nd.az.take j=nd.az:=by rw[show j=nd.az.length from by have:=B5 h;omega];exact AB
  rw[hfull] at hle;omega
 have hj:j<nd.az.length:=by have:=B0 h;omega
 have ha:nd.az[j]?=some nd.az[j]:=Gg hj;have htk:nd.az.take (j+1)=nd.az.take j++[nd.az[j]]:=An hj;have hin:nd.az[j]∈nd.az:=AU hj;generalize nd.az[j]=a at ha htk hin;have hga:=Ii ha;obtain⟨a1,a2,a3⟩:=hal a hin;have dh:=D.holds a.d a2 c hc;have hs:=Hi T c (nd.az.take j) a;rw[<-htk] at hs;have hle2:=M1 T c nd.az (j+1);have hget:=λu=>bT (T:=T) (c:=c) (n:=n) (u:=u) ha;rw[<-hT] at hget;generalize (C7 T c nd.az).length=full at hB hle2 hnl;have hl:=Bh List.length hs;cases hb:a.d.testBit c;·rw[hb] at dh hs hl;simp only[Fj,Ag,Ay] at hs hl;refine Yw1 ?_;exact⟨(j+1,u),_,_,Lq,Trim.of (lo:=4) (l:=tyL f c tot m l0 l1++[(k2,wld (tR t).flatten k3),(k3,fzb cc),(k4,⟨.cells (nC nd),true,true,[],[(0,5)]⟩)]) (nx:=k5) [(k4,k4)] rfl (show 4<=5 by decide) Yl ⟨⟨_,_,rfl,rfl,.same Yc⟩,⟨_,_,rfl,rfl,.map hm⟩,Yb⟩ Yf,hj,(by rw[hs];exact hle),(by rw[hs];exact hu),m,_,_,hm,lg,rfl⟩
 ·rw[hb] at dh hs hl;replace hget:=λu=>hget u hb hle;simp only[Ak,La,Lm] at hl;have alt:=qO (T:=T) (f:=f) (c:=c) ht (i:=i) (a:=a) a1 (λk hk=>⟨(a3 k hk).1,(a3 k hk).2.1⟩) Aa hm;refine Yw1 ?_;refine En (tyL f c tot m [] []) k2 tyR alt (Hz ht hm rfl rfl) Ya ?_;rintro rc gc' ⟨⟨q,rfl,hq⟩,m2,b0,b1,hm2,hk2,lgb,e0,e1⟩;refine⟨[],k6,tyX f c tot m2 (b0++l0) (b1++l1),[],.v (.s q),rfl,Rl,H9 ht hm2 e0 e1 rfl rfl rfl rfl,Ae,hq.nk.rn,?_⟩;clear e0 e1 alt;have qnk:=hq.nk;have qfl:=hq.flat;have cmp:=Xr hu hq;refine Yw2 (λh=>?_) (λh=>?_);·have hge:(B9 T a.ks).length<=n-(C7 T c (nd.az.take j)).length:=Nt h;obtain⟨z,s1,s2⟩:=pW hu hq hge;have znk:=s2.nk;refine Yw1 ?_;exact⟨(j+1,z),_,_,Lq,Trim.of (lo:=4) (l:=tyL f c tot m2 (b0++l0) (b1++l1)++[(k2,wld (tR t).flatten k3),(k3,fzb cc),(k4,⟨.cells (nC nd),true,true,[],[(0,5)]⟩)]) (nx:=k5) [(k4,k4)] rfl (show 4<=5 by decide) Yl ⟨⟨_,_,rfl,rfl,.same Yc⟩,⟨_,_,rfl,rfl,.map hm2⟩,Yb⟩ Yf,hj,(by show(C7 T c (nd.az.take (j+1))).length<=n;omega),(by show A6 (n-(C7 T c (nd.az.take (j+1))).length) z;rw[hl,Df];exact s2),m2,_,_,hm2,Yg,rfl⟩
  ·have hlt:n-(C7 T c (nd.az.take j)).length<(B9 T a.ks).length:=Rd h;clear cmp hq qnk qfl;generalize n-(C7 T c (nd.az.take j)).length=n' at *;obtain⟨p,ks,d⟩:=a;rcases ks with _|⟨x,_|⟨y,_|⟨z,ks⟩⟩⟩
   ·refine⟨_,_,Gz (n:=0) rfl rfl Ab Ab,?_⟩;refine Yz pt ?_;refine⟨_,_,jB rfl (by rw[tfl,trl]) rfl Ab Aa,?_⟩;refine Yz pt ?_;have h0:n'=0:=by simpa[B9] using hlt
    exact⟨⟨⟨p::[],k8,_,_,_,hget [] (by rw[h0];rfl),(by have:=zM i;simpa using this),(show 4<=8 by decide),rfl,rfl,Ac,by rw[<-Zz,Cg];rfl⟩,m2,_,_,hm2,Yg,rfl,rfl⟩,rfl,_,rfl⟩
   ·obtain⟨hx,kx,wx⟩:=a3 x Ac;clear a1 a3;rw[Kx] at hlt;have hkl:(List.map kV (Al.mk p [x] d).ks).length=1:=rfl;refine⟨_,_,Gz (n:=1) rfl rfl Ab Ab,?_⟩;refine Yz pt ?_;refine En (tyL f c tot m2 [] []) k2 tyR (kx m2 hm2) (Hz ht hm2 rfl rfl) Ya ?_;rintro rc gc' ⟨⟨v1,rfl,hv1⟩,m3,c0,c1,hm3,hk3,lgc,e0,e1⟩;refine⟨[],k7,tyX f c tot m3 (c0++_) (c1++_),[],.v (.s v1),rfl,Rl,H9 ht hm3 e0 e1 rfl rfl rfl rfl,Ae,hv1.nk.rn,?_⟩;clear e0 e1;obtain⟨qx,rx,d1,d2,d3⟩:=bO hu hv1 Aa;have v1f:=hv1.flat;have rnk:=d3.nk;rw[Bz hlt] at d3;refine Yz pt ?_;refine⟨_,_,jB rfl (by rw[tfl,trl]) rfl Ab Aa,?_⟩;refine Yz pt ?_;have hw:=wx m3 (t++[p]) (nC nd) _ _ hm3 Ac (by have:=H0 i Aa x hx;simp;omega) ndk d3 hlt;rw[show(t++[p]).length=t.length+1 from Ac] at hw;refine En (wrL f c tot m3 (t++[p]) (nC nd)) k4 [(k0,k0),(k1,k1),(k2,k8),(k3,k4)] hw ⟨⟨_,_,rfl,rfl,.same Yc⟩,⟨_,_,rfl,rfl,.map hm3⟩,⟨_,_,rfl,rfl,⟨(by rw[<-Zz,Cg];exact A2.cells (tfh _ _)),λ_=>⟨rfl,.inr ⟨_,_,_,.head _,rfl,rfl,rfl⟩⟩,rfl⟩⟩,⟨_,_,rfl,rfl,⟨A2.cells ndk,λ_=>⟨rfl,.inl .nil⟩,rfl⟩⟩,Ae⟩ Ya ?_;rintro rc gc' ⟨⟨⟨s,kN,ancs,ccs,ms,gs,zs,hles,rfl,eN,rfl,rfl⟩,m4,f0s,f1s,hm4,lgs,e0,e1⟩,e3,ans,e2⟩;refine⟨[(k10,kN)],k11,[some (obl (tbC f c tot) (f0s++_)),some (mpB m4 (f1s++_)),some ⟨.cells (tR (t++[p])).flatten,false,false,[],_⟩,some ⟨.cells (nC nd),true,true,[],[(0,5)]⟩],[wld (tR (t++[p]++s)).flatten k4],.v (.s (.slice k10 0 (t++[p]++s).length 4 none)),Kd Rl Ab hles,(show 10<=11 by decide),⟨⟨_,_,_,e0,.same Yc,rfl,rfl,rfl,rfl⟩,⟨_,_,_,e1,.map hm4,rfl,rfl,rfl,rfl⟩,⟨_,_,_,e2,⟨A2.cells (tfk _),Ep,rfl⟩,rfl,rfl,rfl,rfl⟩,⟨_,_,_,e3,⟨A2.cells ndk,λ_=>⟨rfl,.inl .nil⟩,rfl⟩,rfl,rfl,rfl,rfl⟩,Ae⟩,⟨⟨_,eN,⟨A2.cells (tfk _),λ_=>⟨rfl,.inr ⟨_,_,_,.head _,rfl,e3,rfl⟩⟩,rfl⟩⟩,Ae⟩,rfl,?_⟩;clear e0 e1 e2 e3 eN;refine Yz pt ?_;exact⟨⟨⟨p::s,k10,_,_,_,hget s (by rw[Kx];exact gs),(by have:=H0 i Aa x hx;simp;omega),(show 4<=10 by decide),rfl,rfl,Ac,Ac⟩,m4,_,_,hm4,Yg,rfl,rfl⟩,rfl,_,rfl⟩
   ·obtain⟨hx,kx,wx⟩:=a3 x Ac;obtain⟨hy,ky,wy⟩:=a3 y Ac;clear a1 a3;rw[Md] at hlt;have hlt':True->n'<(T x).length*(T y).length:=λ_=>hlt;clear hlt hl hs;have hkl:(List.map kV (Al.mk p [x,y] d).ks).length=2:=rfl;refine⟨_,_,Gz (n:=2) rfl rfl Ab Ab,?_⟩;refine Yz pt ?_;refine En (tyL f c tot m2 [] []) k2 tyR (ky m2 hm2) (Hz ht hm2 rfl rfl) Ya ?_;rintro rc gc' ⟨⟨vy,rfl,hvy⟩,m3,c0,c1,hm3,hkm3,lgc,e0,e1⟩;refine⟨[],k7,tyX f c tot m3 (c0++_) (c1++_),[],.v (.s vy),rfl,Rl,H9 ht hm3 e0 e1 rfl rfl rfl rfl,Ae,hvy.nk.rn,?_⟩;clear e0 e1;have hy0:0<(T y).length:=by refine Du λe=>?_;have:=hlt' Ae;rw[e] at this;simp at this
    have hq0:n' / (T y).length<(T x).length:=DL (by rw[Ct];exact hlt' Ae);have hr0:n' % (T y).length<(T y).length:=Cu _ hy0;have hpg:=λs u=>Xy (T:=T) (x:=x) (n:=n') (s:=s) (u:=u) hy0;obtain⟨qy,ry,d1,d2,d3⟩:=bO hu hvy hy0;have vyf:=hvy.flat;have rynk:=d3.nk;have qyf:=d2.flat;clear hlt';generalize n' / (T y).length=nx at *;generalize n' % (T y).length=ny at *;refine Yz pt ?_;refine En (tyL f c tot m3 [] []) k2 tyR (kx m3 hm3) (Hz ht hm3 rfl rfl) Ya ?_;rintro rc gc' ⟨⟨vx,rfl,hvx⟩,m4,b0,b1,hm4,hkm4,lgb,e0,e1⟩;refine⟨[],k7,tyX f c tot m4 (b0++_) (b1++_),[],.v (.s vx),rfl,Rl,H9 ht hm4 e0 e1 rfl rfl rfl rfl,Ae,hvx.nk.rn,?_⟩;clear e0 e1;obtain⟨qx,rx,d4,d5,d6⟩:=bO d2 hvx Aa;rw[Bz hq0] at d6;have vxf:=hvx.flat;have rxnk:=d6.nk;refine Yz pt ?_;refine⟨_,_,jB rfl (by rw[tfl,trl]) rfl Ab Aa,?_⟩;refine Yz pt ?_;have hw:=wx m4 (t++[p]) (nC nd) _ _ hm4 Ac (by have:=H0 i Aa x hx;have:=H0 i Aa y hy;simp;omega) ndk d6 hq0;rw[show(t++[p]).length=t.length+1 from Ac] at hw;refine En (wrL f c tot m4 (t++[p]) (nC nd)) k4 [(k0,k0),(k1,k1),(k2,k8),(k3,k4)] hw ⟨⟨_,_,rfl,rfl,.same Yc⟩,⟨_,_,rfl,rfl,.map hm4⟩,⟨_,_,rfl,rfl,⟨(by rw[<-Zz,Cg];exact A2.cells (tfh _ _)),λ_=>⟨rfl,.inr ⟨_,_,_,.head _,rfl,rfl,rfl⟩⟩,rfl⟩⟩,⟨_,_,rfl,rfl,⟨A2.cells ndk,λ_=>⟨rfl,.inl .nil⟩,rfl⟩⟩,Ae⟩ Ya ?_;rintro rc gc' ⟨⟨⟨s,kN,ancs,ccs,ms,gs,zs,hles,rfl,eN,rfl,rfl⟩,m5,f0s,f1s,hm5,lgs,e0,e1⟩,e3,ans,e2⟩;refine⟨[(k10,kN)],k11,[some (obl (tbC f c tot) (f0s++_)),some (mpB m5 (f1s++_)),some ⟨.cells (tR (t++[p])).flatten,false,false,[],_⟩,some ⟨.cells (nC nd),true,true,[],[(0,5)]⟩],[wld (tR (t++[p]++s)).flatten k4],.v (.s (.slice k10 0 (t++[p]++s).length 4 none)),Kd Rl Ab hles,(show 10<=11 by decide),⟨⟨_,_,_,e0,.same Yc,rfl,rfl,rfl,rfl⟩,⟨_,_,_,e1,.map hm5,rfl,rfl,rfl,rfl⟩,⟨_,_,_,e2,⟨A2.cells (tfk _),Ep,rfl⟩,rfl,rfl,rfl,rfl⟩,⟨_,_,_,e3,⟨A2.cells ndk,λ_=>⟨rfl,.inl .nil⟩,rfl⟩,rfl,rfl,rfl,rfl⟩,Ae⟩,⟨⟨_,eN,⟨A2.cells (tfk _),λ_=>⟨rfl,.inr ⟨_,_,_,.head _,rfl,e3,rfl⟩⟩,rfl⟩⟩,Ae⟩,rfl,?_⟩;clear e0 e1 e2 e3 eN;refine Yz pt ?_;have hw:=wy m5 (t++[p]++s) (nC nd) _ _ hm5 Ac (by have:=H0 i Aa x hx;have:=H0 i Aa y hy;simp;omega) ndk d3 hr0;refine En (wrL f c tot m5 (t++[p]++s) (nC nd)) k4 [(k0,k0),(k1,k1),(k2,k10),(k3,k4)] hw ⟨⟨_,_,rfl,rfl,.same Yc⟩,⟨_,_,rfl,rfl,.map hm5⟩,⟨_,_,rfl,rfl,⟨A2.cells (tfk _),λ_=>⟨rfl,.inr ⟨_,_,_,.head _,rfl,rfl,rfl⟩⟩,rfl⟩⟩,⟨_,_,rfl,rfl,⟨A2.cells ndk,λ_=>⟨rfl,.inl .nil⟩,rfl⟩⟩,Ae⟩ Ya ?_;rintro rc gc' ⟨⟨⟨s2,kN,ancs2,ccs2,ms2,gs2,zs2,hles2,rfl,eN,rfl,rfl⟩,m6,f0s2,f1s2,hm6,lgs2,e0,e1⟩,e3,ans2,e2⟩;refine⟨[(k12,kN)],k13,[some (obl (tbC f c tot) (f0s2++_)),some (mpB m6 (f1s2++_)),some ⟨.cells (tR (t++[p]++s)).flatten,false,false,[],_⟩,some ⟨.cells (nC nd),true,true,[],[(0,5)]⟩],[wld (tR (t++[p]++s++s2)).flatten k4],.v (.s (.slice k12 0 (t++[p]++s++s2).length 4 none)),Kd Rl Ab hles2,(show 12<=13 by decide),⟨⟨_,_,_,e0,.same Yc,rfl,rfl,rfl,rfl⟩,⟨_,_,_,e1,.map hm6,rfl,rfl,rfl,rfl⟩,⟨_,_,_,e2,⟨A2.cells (tfk _),Ep,rfl⟩,rfl,rfl,rfl,rfl⟩,⟨_,_,_,e3,⟨A2.cells ndk,λ_=>⟨rfl,.inl .nil⟩,rfl⟩,rfl,rfl,rfl,rfl⟩,Ae⟩,⟨⟨_,eN,⟨A2.cells (tfk _),λ_=>⟨rfl,.inr ⟨_,_,_,.head _,rfl,e3,rfl⟩⟩,rfl⟩⟩,Ae⟩,rfl,?_⟩;clear e0 e1 e2 e3 eN;refine Yz pt ?_;exact⟨⟨⟨p::(s++s2),k12,_,_,_,hget (s++s2) (hpg s s2 gs gs2),(by have:=H0 i Aa x hx;have:=H0 i Aa y hy;simp;omega),(show 4<=12 by decide),rfl,rfl,Ac,Ac⟩,m6,_,_,hm6,Yg,rfl,rfl⟩,rfl,_,rfl⟩
   ·simp at a1
end
section
variable {T:EG} {f:Fo} {c:Nat} {tot:PV}
def ZS (T:EG) (f:Fo) (c:Nat) (tot:PV) (i:Nat):Prop:=∀m n v,Fa T m->A6 n v->n<(T i).length ->
 XC Fn 110 [.v (.s (.ptr k0 0)),.v (.s .A4),iA i,.v (.s v)] (mkH (tyL f c tot m [] []) k2) (ZR T f c tot i [] 2 n)
theorem LK (D:Tg) (hc:c<4) (ht:A2 tot) {i:Nat} {nd:Nd} (hi:i<f.ns.length) (hL:f.ns.length<=4) (hn:(f.ns.map nV)[(i:Int).toNat]?=some (nC nd)) (nL:nd.az.length<=3) (hal:∀a∈nd.az,a.ks.length<=2/\a.d<16/\∀k∈a.ks,k<i/\Uy T f c tot k/\QR T f c tot k)
  (hT:T i=C7 T c nd.az) (hB:(C7 T c nd.az).length<4294967296):ZS T f c tot i:=by
 intro m n v hm hv hnl;obtain⟨t,ht0⟩:∃t:Tre,t=[]:=⟨[],rfl⟩;have htl:t.length+sz i<=1000:=by have:=QN i Aa;rw[ht0];simp;omega
 have nlen:(nd.az.map aV).length=nd.az.length:=Lm ..;have hlen:(f.ns.map nV).length=f.ns.length:=Lm ..;have ndk:∀u∈nC nd,A2 u:=λu hu=>by simp only[Af,Ah,AP] at hu;rcases hu with rfl|rfl|rfl|rfl|rfl<;>exact Ae
 have tfk:∀(t:Tre),∀u∈(tR t).flatten,A2 u:=λt u hu=>by obtain⟨x,hx,hu⟩:=Dh.1 hu;obtain⟨p,_,rfl⟩:=Aw.1 hx;simp only[Af,Ah,AP] at hu;rcases hu with rfl|rfl|rfl|rfl<;>exact Ae
 have tfh:∀(t:Tre) (p:Nat),∀u∈(tR t).flatten++[[PV.int .i64 (p:Nat),.int .i64 (-1),.int .i64 0,.int .i64 0]].flatten,A2 u:=λt p u hu=>by refine tfk (t++[p]) u ?_;rw[<-Zz,Cg];exact hu
 have tfk0:=tfk t;have tfl:=Jt (Su t);have trl:(tR t).length=t.length:=Lm ..;rw[hT] at hnl;have vnk:=hv.nk;refine Ek pt C.f110 rfl ?_;refine Yw1 ?_;refine XW.Mq k2 Rl rfl rfl ?_;refine XW.B6 (pu:=pt) (σ:=Nat×PV) (λq=>nd.az.length-q.1) (λq=>[pE k0 k0,(k1,.v (.v (.s .A4))),sE k3 q.2,pE k9 k2,(k26,.v (PA.lst 4 (nd.az.map aV))),(k27,.v (iA (nd.az.map aV).length)),(k28,.v (iA q.1))])
  (λq g=>q.1<=nd.az.length/\(C7 T c (nd.az.take q.1)).length<=n/\A6 (n-(C7 T c (nd.az.take q.1)).length) q.2/\∃m l0 l1,Fa T m/\Lg l0/\g=mkH (tyL f c tot m l0 l1++[(k2,B4.mk (.cells (nC nd)) true true [] [(0,5)])]) k3) (0,v)
  (Trim.of (lo:=2) (l:=tyL f c tot m [] []++[(k2,B4.mk (.cells (nC nd)) true true [] [(0,5)])]) (nx:=k3) [(k2,k2)] rfl (show 2<=3 by decide) Yl ⟨⟨_,_,rfl,rfl,.same Yc⟩,⟨_,_,rfl,rfl,.map hm⟩,Yb⟩ Yf) ⟨Zl,Zl,hv,m,[],[],hm,Lg.nil,rfl⟩ ?_
 clear hv vnk hm;rintro⟨j,u⟩ g ⟨hj,hle,hu,m,l0,l1,hm,lg,rfl⟩;replace hj:j<=nd.az.length:=hj;replace hle:(C7 T c (nd.az.take j)).length<=n:=hle;replace hu:A6 (n-(C7 T c (nd.az.take j)).length) u:=hu;have unk:=hu.nk;have ufl:=hu.flat;refine⟨λh=>?_,λh=>?_⟩;case refine_2=>
  have hfull:nd.az.take j=nd.az:=by rw[show j=nd.az.length from by have:=B5 h;omega];exact AB
  rw[hfull] at hle;omega
 have hj:j<nd.az.length:=by have:=B0 h;omega
 have ha:nd.az[j]?=some nd.az[j]:=Gg hj;have htk:nd.az.take (j+1)=nd.az.take j++[nd.az[j]]:=An hj;have hin:nd.az[j]∈nd.az:=AU hj;generalize nd.az[j]=a at ha htk hin;have hga:=Ii ha;obtain⟨a1,a2,a3⟩:=hal a hin;have dh:=D.holds a.d a2 c hc;have hs:=Hi T c (nd.az.take j) a;rw[<-htk] at hs;have hle2:=M1 T c nd.az (j+1);have hget:=λu=>bT (T:=T) (c:=c) (n:=n) (u:=u) ha;rw[<-hT] at hget;generalize (C7 T c nd.az).length=full at hB hle2 hnl;have hl:=Bh List.length hs;cases hb:a.d.testBit c;·rw[hb] at dh hs hl;simp only[Fj,Ag,Ay] at hs hl;refine Yw1 ?_;exact⟨(j+1,u),_,_,Lq,Trim.of (lo:=2) (l:=tyL f c tot m l0 l1++[(k2,B4.mk (.cells (nC nd)) true true [] [(0,5)])]) (nx:=k3) [(k2,k2)] rfl (show 2<=3 by decide) Yl ⟨⟨_,_,rfl,rfl,.same Yc⟩,⟨_,_,rfl,rfl,.map hm⟩,Yb⟩ Yf,hj,(by rw[hs];exact hle),(by rw[hs];exact hu),m,_,_,hm,lg,rfl⟩
 ·rw[hb] at dh hs hl;replace hget:=λu=>hget u hb hle;simp only[Ak,La,Lm] at hl;have alt:=qO (T:=T) (f:=f) (c:=c) ht (i:=i) (a:=a) a1 (λk hk=>⟨(a3 k hk).1,(a3 k hk).2.1⟩) Aa hm;refine Yw1 ?_;refine En (tyL f c tot m [] []) k2 tyR alt (Hz ht hm rfl rfl) Ya ?_;rintro rc gc' ⟨⟨q,rfl,hq⟩,m2,b0,b1,hm2,hk2,lgb,e0,e1⟩;refine⟨[],k4,tyX f c tot m2 (b0++l0) (b1++l1),[],.v (.s q),rfl,Rl,H9 ht hm2 e0 e1 rfl rfl rfl rfl,Ae,hq.nk.rn,?_⟩;clear e0 e1 alt;have qnk:=hq.nk;have qfl:=hq.flat;have cmp:=Xr hu hq;refine Yw2 (λh=>?_) (λh=>?_);·have hge:(B9 T a.ks).length<=n-(C7 T c (nd.az.take j)).length:=Nt h;obtain⟨z,s1,s2⟩:=pW hu hq hge;have znk:=s2.nk;refine Yw1 ?_;exact⟨(j+1,z),_,_,Lq,Trim.of (lo:=2) (l:=tyL f c tot m2 (b0++l0) (b1++l1)++[(k2,B4.mk (.cells (nC nd)) true true [] [(0,5)])]) (nx:=k3) [(k2,k2)] rfl (show 2<=3 by decide) Yl ⟨⟨_,_,rfl,rfl,.same Yc⟩,⟨_,_,rfl,rfl,.map hm2⟩,Yb⟩ Yf,hj,(by show(C7 T c (nd.az.take (j+1))).length<=n;omega),(by show A6 (n-(C7 T c (nd.az.take (j+1))).length) z;rw[hl,Df];exact s2),m2,_,_,hm2,Yg,rfl⟩
  ·have hlt:n-(C7 T c (nd.az.take j)).length<(B9 T a.ks).length:=Rd h;clear cmp hq qnk qfl;generalize n-(C7 T c (nd.az.take j)).length=n' at *;obtain⟨p,ks,d⟩:=a;rcases ks with _|⟨x,_|⟨y,_|⟨z,ks⟩⟩⟩
   ·refine⟨_,_,Gz (n:=0) rfl rfl Ab Ab,?_⟩;refine Yz pt ?_;refine Yy pt ?_;have h0:n'=0:=by simpa[B9] using hlt
    exact⟨⟨p::[],k6,_,_,_,hget [] (by rw[h0];rfl),(by have:=zM i;simpa using this),(show 2<=6 by decide),rfl,rfl,rfl,rfl⟩,m2,_,_,hm2,Yg,rfl,rfl⟩
   ·obtain⟨hx,kx,wx⟩:=a3 x Ac;clear a1 a3;rw[Kx] at hlt;have hkl:(List.map kV (Al.mk p [x] d).ks).length=1:=rfl;refine⟨_,_,Gz (n:=1) rfl rfl Ab Ab,?_⟩;refine Yz pt ?_;refine En (tyL f c tot m2 [] []) k2 tyR (kx m2 hm2) (Hz ht hm2 rfl rfl) Ya ?_;rintro rc gc' ⟨⟨v1,rfl,hv1⟩,m3,c0,c1,hm3,hk3,lgc,e0,e1⟩;refine⟨[],k5,tyX f c tot m3 (c0++_) (c1++_),[],.v (.s v1),rfl,Rl,H9 ht hm3 e0 e1 rfl rfl rfl rfl,Ae,hv1.nk.rn,?_⟩;clear e0 e1;obtain⟨qx,rx,d1,d2,d3⟩:=bO hu hv1 Aa;have v1f:=hv1.flat;have rnk:=d3.nk;rw[Bz hlt] at d3;refine Yz pt ?_;refine Yy pt ?_;have hw:=wx m3 (t++[p]) (nC nd) _ _ hm3 Ac (by have:=H0 i Aa x hx;simp;omega) ndk d3 hlt;rw[show(t++[p]).length=1 from by rw[ht0];rfl] at hw;refine En (wrL f c tot m3 (t++[p]) (nC nd)) k4 [(k0,k0),(k1,k1),(k2,k6),(k3,k2)] hw ⟨⟨_,_,rfl,rfl,.same Yc⟩,⟨_,_,rfl,rfl,.map hm3⟩,⟨_,_,rfl,rfl,⟨(by rw[ht0];show A1 _ _ _;exact Yc),λ_=>⟨rfl,.inr ⟨_,_,_,.head _,rfl,rfl,rfl⟩⟩,rfl⟩⟩,⟨_,_,rfl,rfl,⟨A2.cells ndk,λ_=>⟨rfl,.inl .nil⟩,rfl⟩⟩,Ae⟩ Ya ?_;rintro rc gc' ⟨⟨⟨s,kN,ancs,ccs,ms,gs,zs,hles,rfl,eN,rfl,rfl⟩,m4,f0s,f1s,hm4,lgs,e0,e1⟩,e3,ans,e2⟩;refine⟨[(k8,kN)],k9,[some (obl (tbC f c tot) (f0s++_)),some (mpB m4 (f1s++_)),some ⟨.cells (tR (t++[p])).flatten,false,false,[],_⟩,some ⟨.cells (nC nd),true,true,[],[(0,5)]⟩],[wld (tR (t++[p]++s)).flatten k2],.v (.s (.slice k8 0 (t++[p]++s).length 4 none)),Kd Rl Ab hles,(show 8<=9 by decide),⟨⟨_,_,_,e0,.same Yc,rfl,rfl,rfl,rfl⟩,⟨_,_,_,e1,.map hm4,rfl,rfl,rfl,rfl⟩,⟨_,_,_,e2,⟨A2.cells (tfk _),Ep,rfl⟩,rfl,rfl,rfl,rfl⟩,⟨_,_,_,e3,⟨A2.cells ndk,λ_=>⟨rfl,.inl .nil⟩,rfl⟩,rfl,rfl,rfl,rfl⟩,Ae⟩,⟨⟨_,eN,⟨A2.cells (tfk _),λ_=>⟨rfl,.inr ⟨_,_,_,.head _,rfl,e3,rfl⟩⟩,rfl⟩⟩,Ae⟩,rfl,?_⟩;clear e0 e1 e2 e3 eN;refine Yz pt ?_;exact⟨⟨p::s,k8,_,_,_,hget s (by rw[Kx];exact gs),(by have:=H0 i Aa x hx;simp;omega),(show 2<=8 by decide),rfl,rfl,by simp[ht0],by simp[ht0]⟩,m4,_,_,hm4,Yg,rfl,rfl⟩
   ·obtain⟨hx,kx,wx⟩:=a3 x Ac;obtain⟨hy,ky,wy⟩:=a3 y Ac;clear a1 a3;rw[Md] at hlt;have hlt':True->n'<(T x).length*(T y).length:=λ_=>hlt;clear hlt hl hs;have hkl:(List.map kV (Al.mk p [x,y] d).ks).length=2:=rfl;refine⟨_,_,Gz (n:=2) rfl rfl Ab Ab,?_⟩;refine Yz pt ?_;refine En (tyL f c tot m2 [] []) k2 tyR (ky m2 hm2) (Hz ht hm2 rfl rfl) Ya ?_;rintro rc gc' ⟨⟨vy,rfl,hvy⟩,m3,c0,c1,hm3,hkm3,lgc,e0,e1⟩;refine⟨[],k5,tyX f c tot m3 (c0++_) (c1++_),[],.v (.s vy),rfl,Rl,H9 ht hm3 e0 e1 rfl rfl rfl rfl,Ae,hvy.nk.rn,?_⟩;clear e0 e1;have hy0:0<(T y).length:=by refine Du λe=>?_;have:=hlt' Ae;rw[e] at this;simp at this
    have hq0:n' / (T y).length<(T x).length:=DL (by rw[Ct];exact hlt' Ae);have hr0:n' % (T y).length<(T y).length:=Cu _ hy0;have hpg:=λs u=>Xy (T:=T) (x:=x) (n:=n') (s:=s) (u:=u) hy0;obtain⟨qy,ry,d1,d2,d3⟩:=bO hu hvy hy0;have vyf:=hvy.flat;have rynk:=d3.nk;have qyf:=d2.flat;clear hlt';generalize n' / (T y).length=nx at *;generalize n' % (T y).length=ny at *;refine Yz pt ?_;refine En (tyL f c tot m3 [] []) k2 tyR (kx m3 hm3) (Hz ht hm3 rfl rfl) Ya ?_;rintro rc gc' ⟨⟨vx,rfl,hvx⟩,m4,b0,b1,hm4,hkm4,lgb,e0,e1⟩;refine⟨[],k5,tyX f c tot m4 (b0++_) (b1++_),[],.v (.s vx),rfl,Rl,H9 ht hm4 e0 e1 rfl rfl rfl rfl,Ae,hvx.nk.rn,?_⟩;clear e0 e1;obtain⟨qx,rx,d4,d5,d6⟩:=bO d2 hvx Aa;rw[Bz hq0] at d6;have vxf:=hvx.flat;have rxnk:=d6.nk;refine Yz pt ?_;refine Yy pt ?_;have hw:=wx m4 (t++[p]) (nC nd) _ _ hm4 Ac (by have:=H0 i Aa x hx;have:=H0 i Aa y hy;simp;omega) ndk d6 hq0;rw[show(t++[p]).length=1 from by rw[ht0];rfl] at hw;refine En (wrL f c tot m4 (t++[p]) (nC nd)) k4 [(k0,k0),(k1,k1),(k2,k6),(k3,k2)] hw ⟨⟨_,_,rfl,rfl,.same Yc⟩,⟨_,_,rfl,rfl,.map hm4⟩,⟨_,_,rfl,rfl,⟨(by rw[ht0];show A1 _ _ _;exact Yc),λ_=>⟨rfl,.inr ⟨_,_,_,.head _,rfl,rfl,rfl⟩⟩,rfl⟩⟩,⟨_,_,rfl,rfl,⟨A2.cells ndk,λ_=>⟨rfl,.inl .nil⟩,rfl⟩⟩,Ae⟩ Ya ?_;rintro rc gc' ⟨⟨⟨s,kN,ancs,ccs,ms,gs,zs,hles,rfl,eN,rfl,rfl⟩,m5,f0s,f1s,hm5,lgs,e0,e1⟩,e3,ans,e2⟩;refine⟨[(k8,kN)],k9,[some (obl (tbC f c tot) (f0s++_)),some (mpB m5 (f1s++_)),some ⟨.cells (tR (t++[p])).flatten,false,false,[],_⟩,some ⟨.cells (nC nd),true,true,[],[(0,5)]⟩],[wld (tR (t++[p]++s)).flatten k2],.v (.s (.slice k8 0 (t++[p]++s).length 4 none)),Kd Rl Ab hles,(show 8<=9 by decide),⟨⟨_,_,_,e0,.same Yc,rfl,rfl,rfl,rfl⟩,⟨_,_,_,e1,.map hm5,rfl,rfl,rfl,rfl⟩,⟨_,_,_,e2,⟨A2.cells (tfk _),Ep,rfl⟩,rfl,rfl,rfl,rfl⟩,⟨_,_,_,e3,⟨A2.cells ndk,λ_=>⟨rfl,.inl .nil⟩,rfl⟩,rfl,rfl,rfl,rfl⟩,Ae⟩,⟨⟨_,eN,⟨A2.cells (tfk _),λ_=>⟨rfl,.inr ⟨_,_,_,.head _,rfl,e3,rfl⟩⟩,rfl⟩⟩,Ae⟩,rfl,?_⟩;clear e0 e1 e2 e3 eN;refine Yz pt ?_;have hw:=wy m5 (t++[p]++s) (nC nd) _ _ hm5 Ac (by have:=H0 i Aa x hx;have:=H0 i Aa y hy;simp;omega) ndk d3 hr0;refine En (wrL f c tot m5 (t++[p]++s) (nC nd)) k4 [(k0,k0),(k1,k1),(k2,k8),(k3,k2)] hw ⟨⟨_,_,rfl,rfl,.same Yc⟩,⟨_,_,rfl,rfl,.map hm5⟩,⟨_,_,rfl,rfl,⟨A2.cells (tfk _),λ_=>⟨rfl,.inr ⟨_,_,_,.head _,rfl,rfl,rfl⟩⟩,rfl⟩⟩,⟨_,_,rfl,rfl,⟨A2.cells ndk,λ_=>⟨rfl,.inl .nil⟩,rfl⟩⟩,Ae⟩ Ya ?_;rintro rc gc' ⟨⟨⟨s2,kN,ancs2,ccs2,ms2,gs2,zs2,hles2,rfl,eN,rfl,rfl⟩,m6,f0s2,f1s2,hm6,lgs2,e0,e1⟩,e3,ans2,e2⟩;refine⟨[(k10,kN)],k11,[some (obl (tbC f c tot) (f0s2++_)),some (mpB m6 (f1s2++_)),some ⟨.cells (tR (t++[p]++s)).flatten,false,false,[],_⟩,some ⟨.cells (nC nd),true,true,[],[(0,5)]⟩],[wld (tR (t++[p]++s++s2)).flatten k2],.v (.s (.slice k10 0 (t++[p]++s++s2).length 4 none)),Kd Rl Ab hles2,(show 10<=11 by decide),⟨⟨_,_,_,e0,.same Yc,rfl,rfl,rfl,rfl⟩,⟨_,_,_,e1,.map hm6,rfl,rfl,rfl,rfl⟩,⟨_,_,_,e2,⟨A2.cells (tfk _),Ep,rfl⟩,rfl,rfl,rfl,rfl⟩,⟨_,_,_,e3,⟨A2.cells ndk,λ_=>⟨rfl,.inl .nil⟩,rfl⟩,rfl,rfl,rfl,rfl⟩,Ae⟩,⟨⟨_,eN,⟨A2.cells (tfk _),λ_=>⟨rfl,.inr ⟨_,_,_,.head _,rfl,e3,rfl⟩⟩,rfl⟩⟩,Ae⟩,rfl,?_⟩;clear e0 e1 e2 e3 eN;refine Yz pt ?_;exact⟨⟨p::(s++s2),k10,_,_,_,hget (s++s2) (hpg s s2 gs gs2),(by have:=H0 i Aa x hx;have:=H0 i Aa y hy;simp;omega),(show 2<=10 by decide),rfl,rfl,by simp[ht0],by simp[ht0]⟩,m6,_,_,hm6,Yg,rfl,rfl⟩
   ·simp at a1
end
theorem LL {f:Fo} {c:Nat} {tot:PV} (D:Tg) (hc:c<4) (ht:A2 tot) (w:WF0 f) (v:WF f):∀i,i<f.ns.length->QR (Tr2 f c) f c tot i/\ZS (Tr2 f c) f c tot i:=by
 intro i;induction i using Nat.strongRecOn with
 |ind i ih=>
  intro hi;have hn:f.ns[i]?=some f.ns[i]:=Gg hi;generalize f.ns[i]=n at hn;have hL:=w.len;have hg:=I6 hn;rw[J2 (v.as0 i n hn)] at hg;have hU:=qK (c:=c) (Sv w) i n hn;have hlen:=Ll (c:=c) w i hi;have hpx:=Xx i Aa;have hB:(Tr2 f c i).length<4294967296:=Aa;have hB2:(C7 (Tr2 f c) c n.az).length<4294967296:=by rw[<-hU];exact hB
  have hal:∀a∈n.az,a.ks.length<=2/\a.d<16/\∀k∈a.ks,k<i/\Uy (Tr2 f c) f c tot k/\QR (Tr2 f c) f c tot k:=λa ha=>⟨(w.al i n hn a ha).1,(w.al i n hn a ha).2.2.1,λk hk=>by
   have hki:=(w.al i n hn a ha).2.1 k hk
   exact⟨hki,zJ ht (V9 D hc ht w v k Aa),(ih k hki Aa).1⟩⟩
  exact⟨QS D hc ht hi hL hg (w.Kw i n hn) hal hU hB2,LK D hc ht hi hL hg (w.Kw i n hn) hal hU hB2⟩
theorem vV {T:EG} {c i n:Nat} {rs:Es} {r:Nat×Nat} {s:Tre} (hr:rs[i]?=some r) (hb:r.2.testBit c=true) (h1:(B1 T c (rs.take i)).length<=n) (h2:(T r.1)[n-(B1 T c (rs.take i)).length]?=some s):(B1 T c rs)[n]?=some s:=by
 obtain⟨hj,rfl⟩:=Gi.1 hr;have h:B1 T c rs=B1 T c (rs.take i)++(T rs[i].1++B1 T c (rs.drop (i+1))):=by
  conv=>lhs;rw[<-Be i rs,Ax hj]
  rw[B1,Cf,Bf,Aj hb];rfl
 rw[h,Am h1,Ai (Gi.1 h2).1,h2]
theorem Mr {a b:Nat} (h:Iq (a:Int) (b:Int)<((0:Nat):Int)):a<b:=by
 unfold Iq at h;split at h;·omega
 ·split at h<;>omega
theorem Ln {a b:Nat} (h:¬Iq (a:Int) (b:Int)<((0:Nat):Int)):b<=a:=by
 unfold Iq at h;split at h;·omega
 ·split at h<;>omega
theorem tRk (t:Tre):∀u∈(tR t).flatten,A2 u:=λu hu=>by obtain⟨x,hx,hu⟩:=Dh.1 hu;obtain⟨p,_,rfl⟩:=Aw.1 hx;simp only[Af,Ah,AP] at hu;rcases hu with rfl|rfl|rfl|rfl<;>exact Ae
theorem WE {f:Fo} {c i n:Nat} (w:WF0 f) (hi:i<f.rs.length) {s:Tre} (h:(Tr2 f c i)[n]?=some s):s≠[]:=by
 rintro rfl;have hi:i<f.ns.length:=by have:=w.Nl;omega
 have hn:f.ns[i]?=some f.ns[i]:=Gg hi;have hm:=Aq h;rw[Tr2,qK (Sv w) i _ hn] at hm;obtain⟨a,_,ha⟩:=AY.1 hm;split at ha;·obtain⟨u,_,hu⟩:=Aw.1 ha;cases hu
 ·cases ha
theorem WG {f:Fo} {c:Nat} {tot:PV} (D:Tg) (hc:c<4) (ht:A2 tot) (w:WF0 f) (v:WF f) {m:Et} (hm:Fa (Tr2 f c) m) {n:Nat} {nv:PV} (hnv:A6 n nv) (hnl:n<(B1 (Tr2 f c) c f.rs).length) :
  XC Fn 50 [.v (.s (.ptr k0 0)),.v (.s nv)] (mkH (tyL f c tot m [] []) k2) λr g=>(∃s kN,(B1 (Tr2 f c) c f.rs)[n]?=some s/\2<=kN.toNat/\s≠[]/\r=.tup [.s (.slice kN 0 s.length 4 none),.s (.int .i64 ((0:Nat):Int))]/\g.get kN=some ⟨.cells (tR s).flatten,false,false,[],[]⟩) /\
   ∃m l0 l1,Fa (Tr2 f c) m/\g.get k0=some (obl (tbC f c tot) l0)/\g.get k1=some (mpB m l1):=by
 have hrlen:(f.rs.map rV).length=f.rs.length:=Lm ..;have hL:=w.len;have rL:=w.Nl;have nvk:=hnv.nk;refine Ek pt C.f50 rfl ?_;refine Yw1 ?_;refine XW.B6 (pu:=pt) (σ:=Nat×PV) (λq=>f.rs.length-q.1) (λq=>[pE k0 k0,sE k1 q.2,(k13,.v (PA.lst 3 (f.rs.map rV))),(k14,.v (iA (f.rs.map rV).length)),(k15,.v (iA q.1))])
  (λq g=>q.1<=f.rs.length/\(B1 (Tr2 f c) c (f.rs.take q.1)).length<=n/\A6 (n-(B1 (Tr2 f c) c (f.rs.take q.1)).length) q.2/\∃m l0 l1,Fa (Tr2 f c) m/\g=mkH (tyL f c tot m l0 l1) k2) (0,nv)
  (Sx rfl ht hm rfl rfl Yf) ⟨Zl,Zl,hnv,m,[],[],hm,rfl⟩ ?_
 clear hm hnv nvk;rintro⟨i,u⟩ g ⟨hi,hle,hu,m,l0,l1,hm,rfl⟩;replace hi:i<=f.rs.length:=hi;replace hle:(B1 (Tr2 f c) c (f.rs.take i)).length<=n:=hle;replace hu:A6 (n-(B1 (Tr2 f c) c (f.rs.take i)).length) u:=hu;have unk:=hu.nk;have ufl:=hu.flat;refine⟨λh=>?_,λh=>?_⟩;case refine_2=>
  have hfull:f.rs.take i=f.rs:=by rw[show i=f.rs.length from by have:=B5 h;omega];exact AB
  rw[hfull] at hle;omega
 have hi:i<f.rs.length:=by have:=B0 h;omega
 have hr:f.rs[i]?=some f.rs[i]:=Gg hi;have htk:f.rs.take (i+1)=f.rs.take i++[f.rs[i]]:=An hi;generalize f.rs[i]=r at hr htk;have hgr:=Je hr;obtain⟨r1,r2,r3⟩:=w.rt i r hr;rw[r1] at hgr;have dh:=D.holds r.2 r2 c hc;have hs:=Me (Tr2 f c) c (f.rs.take i) r;rw[<-htk,r1] at hs;have hle2:=Sy (Tr2 f c) c f.rs (i+1);have hget:=λs=>vV (T:=Tr2 f c) (c:=c) (n:=n) (s:=s) hr;rw[r1] at hget;have hG:=V9 (tot:=tot) D hc ht w v i Aa m hm;have hW:=(LL (tot:=tot) D hc ht w v i Aa).2;have hTl:=Ll (c:=c) w i Aa;generalize hfl:(B1 (Tr2 f c) c f.rs).length=full at hle2 hnl;have hl:=Bh List.length hs;cases hb:r.2.testBit c;·rw[hb] at dh hs hl;simp only[Fj,Ag,Ay] at hs hl;refine Yw1 ?_;exact⟨(i+1,u),_,_,Lq,Sx rfl ht hm rfl rfl Yf,hi,(by rw[hs];exact hle),(by rw[hs];exact hu),m,_,_,hm,rfl⟩
 ·rw[hb] at dh hs hl;replace hget:=λs=>hget s hb hle;simp only[Ak,La] at hl;refine Yw1 ?_;refine En (tyL f c tot m [] []) k2 tyR hG (Hz ht hm rfl rfl) Ya ?_;rintro rc gc' ⟨⟨q,rfl,hq⟩,m2,b0,b1,hm2,hk2,lgb,e0,e1⟩;refine⟨[],k3,tyX f c tot m2 (b0++l0) (b1++l1),[],.v (.s q),rfl,Rl,H9 ht hm2 e0 e1 rfl rfl rfl rfl,Ae,hq.nk.rn,?_⟩;clear e0 e1;have qnk:=hq.nk;have qfl:=hq.flat;have cmp:=Xr hu hq;refine Yw2 (λh=>?_) (λh=>?_);·have hlt:n-(B1 (Tr2 f c) c (f.rs.take i)).length<(Tr2 f c i).length:=Mr h;have hw:=hW m2 _ u hm2 hu hlt;refine Yw1 ?_;refine En (tyL f c tot m2 [] []) k2 tyR hw (Hz ht hm2 rfl rfl) Ya ?_;rintro rc gc' ⟨⟨s,kN,anc,cc,ms,gs,zs,hle3,rfl,eN,rfl,rfl⟩,m3,c0,c1,hm3,lgc,e0,e1⟩;rw[Bw] at eN;refine⟨[(k3,kN)],k4,tyX f c tot m3 (c0++(b0++l0)) (c1++(b1++l1)),[⟨.cells (tR s).flatten,false,false,[],[]⟩],.v (.s (.slice k3 0 s.length 4 none)),Kd Rl Ab hle3,(show 3<=4 by decide),⟨⟨_,_,_,e0,.same Yc,rfl,rfl,rfl,rfl⟩,⟨_,_,_,e1,.map hm3,rfl,rfl,rfl,rfl⟩,Ae⟩,⟨⟨_,eN,⟨A2.cells (tRk s),Ep,rfl⟩⟩,Ae⟩,rfl,?_⟩;clear e0 e1 eN;refine Yw1 ?_;exact⟨⟨s,k3,hget s gs,(show 2<=3 by decide),WE w hi gs,rfl,rfl⟩,m3,_,_,hm3,rfl,rfl⟩
  ·have hge:(Tr2 f c i).length<=n-(B1 (Tr2 f c) c (f.rs.take i)).length:=Ln h;obtain⟨z,s1,s2⟩:=pW hu hq hge;have znk:=s2.nk;refine Yw1 ?_;exact⟨(i+1,z),_,_,Lq,Sx rfl ht hm2 rfl rfl Yf,hi,(by show(B1 (Tr2 f c) c (f.rs.take (i+1))).length<=n;omega),(by show A6 (n-(B1 (Tr2 f c) c (f.rs.take (i+1))).length) z;rw[hl,Df];exact s2),m2,_,_,hm2,rfl⟩
theorem LM {f:Fo} {c:Nat} (D:Xt) (D2:Tg) (hc:c<4) (w:WF0 f) (v:WF f) (h0:∀r∈f.rs,r.2.testBit 0=false) {n:Nat} {nv:PV} (hnv:A6 n nv) (hnl:n<(B1 (Tr2 f c) c f.rs).length) :
  ∃s,(B1 (Tr2 f c) c f.rs)[n]?=some s/\A3 Fn 14 [foA f,cA c,.v (.s nv)] (.tup [.s (tV s),.s (.int .i64 ((0:Nat):Int))]):=by
 refine⟨_,Gg hnl,?_⟩;have cs:=Rb D D2 w v h0;have nval:=H8 hnv;have tal:=Oy D2 hc w v;have nvk:=hnv.nk;have nvf:=hnv.flat;rw[E4 w.n0 w.r0] at cs tal ⊢;refine Ej pt C.f14 rfl ?_;refine Yw1 ?_;refine Eo tal Ya ?_;rintro rc gc' ⟨rfl,m,l0,l1,tot,hm,ht,e1,e2⟩;have htk:=ht.nk;refine⟨[(k1,k1),(k2,k2)],k3,[],[obl (tbK k1 k2 f c tot) [],mpB m []],.tup [.s (.ptr k1 0),.s (.int .i64 ((0:Nat):Int))],rfl,(show 1<=3 by decide),Ae,⟨⟨_,e1,(Er Ys)⟩,⟨_,e2,.map hm⟩,Ae⟩,.cons rfl (.cons rfl .nil),?_⟩;clear e1 e2;have tr:=WG D2 hc htk w v hm hnv hnl;refine Yw1 ?_;refine En (tyL f c tot m [] []) k2 zK tr (qP htk hm rfl rfl) Ya ?_;rintro rc gc' ⟨⟨s,kN,gs,hle,hne,rfl,eN⟩,m2,a0,a1,hm2,e0,e1⟩;rw[Gg hnl] at gs;injection gs with gs
 refine⟨[(k3,kN)],k4,QP f c tot m2 (a0++[]) (a1++[]),[⟨.cells (tR s).flatten,false,false,[],[]⟩],.tup [.s (.slice k3 0 s.length 4 none),.s (.int .i64 ((0:Nat):Int))],Kd Rl Ab hle,(show 3<=4 by decide),⟨⟨_,_,_,e0,(Er Ys),rfl,rfl,rfl,rfl⟩,⟨_,_,_,e1,.map hm2,rfl,rfl,rfl,rfl⟩,Ae⟩,⟨⟨_,eN,⟨A2.cells (tRk s),Ep,rfl⟩⟩,Ae⟩,.cons rfl (.cons rfl .nil),?_⟩;clear e0 e1 eN;have hfl:=Jt (Su s);have hrl:(tR s).length=s.length:=Lm ..;have hpos:=AS.2 hne;have e:tV s=.lst 4 (chunk 4 s.length (tR s).flatten) none:=by
  rw[<-hrl,Mc (Su s)];obtain⟨p,s,rfl⟩:∃p u,s=p::u:=by cases s with
   |nil=>exact absurd rfl hne
   |cons p u=>exact⟨p,u,rfl⟩
  rfl
 rw[gs,e];refine Yw1 ?_;exact⟨_,St (J0 rfl (by rw[hfl,hrl]) Aa rfl (H4 (qH s)))⟩
end Go.Pv
end
section
noncomputable section
namespace Go.Vm
open Key (kn)
structure It where
 b:Key
 mp:Key
 n:Nat
 seen:EF
structure LN (φ:Emb) (h:Heap) (w:World) (i:It):Prop where
 lt:i.b.toNat<h.next.toNat
 obj:∃l l',φ i.b=some l/\l.off=0/\φ i.mp=some l'/\w.heap[l.blk]?=some (.mapIter (some l'.blk) i.n i.seen.toArray i.n)/\∀b l2,φ b=some l2->l2.blk=l.blk->h.get b=none
def Qn (h h':Heap):Prop:=∀b:Key,b.toNat<h.next.toNat->h.get b=none->h'.get b=none
theorem Qn.refl (h:Heap):Qn h h:=λ_ _ h=>h
theorem Qn.trans {h h1 h2:Heap} (hn:h.next.toNat<=h1.next.toNat) (e:Qn h h1) (e':Qn h1 h2):Qn h h2:=λb hb hf=>e' b Aa (e b hb hf)
theorem LN.Zf {φ φ':Emb} {h h':Heap} {w w':World} {i:It} (s:Sim φ h.get h.next.toNat w) (e:Ext φ h.get h.next.toNat w φ' h'.get h'.next.toNat w') (hf:Qn h h') (k:LN φ h w i):LN φ' h' w' i where
 lt:=Bu k.lt e.nx
 obj:=by
  obtain⟨l,l',h1,h2,h3,h4,h5⟩:=k.obj;refine⟨l,l',e.le _ _ h1,h2,e.le _ _ h3,e.frame _ _ h4 λb x l2 hb _ hp heq=>?_,λb l2 hp heq=>?_⟩;·rw[h5 b l2 hp heq] at hb;cases hb
  have hlt:l.blk<w.heap.size:=(AE.1 h4).1;cases hφ:φ b with
  |none=>obtain⟨b0,x0,l0,e1,_,e3,e4⟩:=e.new b l2 hφ hp Aa;rw[h5 b0 l0 e3 Aa] at e1;cases e1
  |some l0=>have:=e.le _ _ hφ;rw[hp] at this;cases this;exact hf b (Nat.lt_of_not_le λhle=>by rw[s.fresh b hle] at hφ;cases hφ) (h5 b l2 hφ heq)
structure Org where
 φ:Emb
 h:Heap
 w:World
def AcA (O:Org) (φ:Emb) (i:It):Prop:=∀l,φ i.b=some l->O.w.heap.size<=l.blk
structure K0 (O:Org) (N:Nat) (φ:Emb) (fr:Fr) (h:Heap) (I:List It) (a:Act) (w:World):Prop where
 fr:Hk φ N fr a
 sim:Sim φ h.get h.next.toNat w
 clean:Clean h
 ext:Ext O.φ O.h.get O.h.next.toNat O.w φ h.get h.next.toNat w
 frs:Qn O.h h
 its:∀i∈I,LN φ h w i
 new:∀i∈I,AcA O φ i
 dis:I.Pairwise λi j=>∀l l',φ i.b=some l->φ j.b=some l'->l.blk≠l'.blk
abbrev MQ:=Fk->Fr->Heap->List It->Prop
def MX (P:Program) (N:Nat) (c:Code) (fr:Fr) (h:Heap) (I:List It) (Q:MQ):Prop:=∀O φ w a,K0 O N φ fr h I a w ->
 c.wp P (λe a' w'=>∃x fr' h' I' φ',G9 x e/\K0 O N φ' fr' h' I' a' w'/\Q x fr' h' I') a w
section
variable {P:Program} {N:Nat}
theorem MX.mono {c:Code} {fr:Fr} {h:Heap} {I:List It} {Q Q':MQ} (m:MX P N c fr h I Q) (hq:∀x fr h I,Q x fr h I->Q' x fr h I):MX P N c fr h I Q':=λO φ w a r=>
 wp_mono (m O φ w a r) λ_ _ _ ⟨x,fr',h',I',φ',e1,e2,e4⟩=>⟨x,fr',h',I',φ',e1,e2,hq _ _ _ _ e4⟩
theorem K0.step {O:Org} {φ φ':Emb} {fr fr':Fr} {h h':Heap} {I:List It} {a a':Act} {w w':World} (r:K0 O N φ fr h I a w) (f':Hk φ' N fr' a') (s':Sim φ' h'.get h'.next.toNat w') (cl:Clean h') (e:Ext φ h.get h.next.toNat w φ' h'.get h'.next.toNat w')
  (hf:Qn h h'):K0 O N φ' fr' h' I a' w' where
 fr:=f'
 sim:=s'
 clean:=cl
 ext:=r.ext.trans e
 frs:=r.frs.trans r.ext.nx hf
 its i hi:=(r.its i hi).Zf r.sim e hf
 new i hi l hl:=by obtain⟨l0,l',h1,_⟩:=(r.its i hi).obj;have:=e.le _ _ h1;rw[hl] at this;cases this;exact r.new i hi _ h1
 dis:=r.dis.imp_of_mem λ{i j} hi hj hd l l' e1 e2=>by obtain⟨l0,_,h1,_⟩:=(r.its i hi).obj;obtain⟨l1,_,h2,_⟩:=(r.its j hj).obj;have h3:=e.le _ _ h1;have h4:=e.le _ _ h2;rw[e1] at h3;rw[e2] at h4;cases h3;cases h4;exact hd _ _ h1 h2
theorem K0.world {O:Org} {φ:Emb} {fr:Fr} {h:Heap} {I:List It} {a:Act} {w w':World} (r:K0 O N φ fr h I a w) (h1:w'.heap=w.heap) (h2:w'.os=w.os) (h3:w'.output=w.output):K0 O N φ fr h I a w' where
 fr:=r.fr
 sim:=⟨by rw[h1];exact r.sim.blk,r.sim.sep,r.sim.fresh⟩
 clean:=r.clean
 ext:={ r.ext with size:=by rw[h1];exact r.ext.size,frame:=by rw[h1];exact r.ext.frame,os:=by rw[h2,h3];exact r.ext.os }
 frs:=r.frs
 its i hi:=⟨(r.its i hi).lt,by rw[h1];exact(r.its i hi).obj⟩
 new:=r.new
 dis:=r.dis
theorem MX.run (hm:P.follows .mixedOrders=true) {F:D5} (hF:∀f vf,F f=some vf->Jf P f=some vf) {Or:Iw} (hO:Ui P Or) {n:Nat} {c:Code} {vc:B7} (hc:D7 P N c=some vc) {fr fr':Fr} {h h':Heap} {x:Fk} {I:List It} {Q:MQ}
  (e:exec F Or n vc fr h=some (x,fr',h')) (hg:Qn h h') (hq:Q x fr' h' I):MX P N c fr h I Q:=λO φ w a r=>by have hE:=Q4 (F:=F) hO.nice hO.Zf;have hKC:∀m,Hh (Fh F Or (exec F Or m)):=λm=>Oo hO.Zf (hE m);have hNC:∀m,Gn (Fh F Or (exec F Or m)):=λm=>R0 hO.nice (Q0 hO.nice m);have hcall:=gS hm hF hO;refine wp_mono (Y9 (λm=>Q3 (hKC m)) hE N n (λm _=>⟨hcall m,uJ hm (hcall m) (hNC m) (hKC m)⟩) c vc hc φ fr fr' a h h' w x r.fr r.sim r.clean e) ?_;rintro ex a' w' ⟨hx,φ',s',ext,f'⟩;obtain⟨_,hn⟩:=Q0 hO.nice n vc fr h x fr' h' e;exact⟨x,fr',h',I,φ',hx,r.step f' s' (hE _ _ _ _ _ _ _ e r.clean) ext hg,hq⟩
theorem MX.seq {c1 c2:Code} {fr:Fr} {h:Heap} {I:List It} {Q:MQ} (m:MX P N c1 fr h I λx fr h I=>match x with
  |.normal=>MX P N c2 fr h I Q
  |x=>Q x fr h I):MX P N (.seq c1 c2) fr h I Q:=λO φ w a r=>by
 refine wp_seq (wp_mono (m O φ w a r) ?_)
 rintro e a1 w1 ⟨x,fr',h',I',φ',hx,r1,hq⟩
 cases e with
 |normal=>
  cases x<;>simp only[G9] at hx
  refine wp_mono (hq O φ' w1 a1 r1) ?_
  rintro e a2 w2 ⟨x,fr2,h2,I2,φ2,hx2,r2,hq2⟩
  exact⟨x,fr2,h2,I2,φ2,hx2,r2,hq2⟩
 |exit j=>
  cases x<;>simp only[G9] at hx
  exact⟨.exit _,fr',h',I',φ',hx,r1,hq⟩
 |ret=>
  cases x<;>simp only[G9] at hx
  exact⟨.ret,fr',h',I',φ',Ae,r1,hq⟩
 |_=>cases x<;>simp only[G9] at hx
theorem MX.cond {c0:Operand} {v0:VX} (h0:cX c0=some v0) {c1 c2:Code} {fr:Fr} {h:Heap} {I:List It} {Q:MQ} {b:Bool} (e0:v0.eval fr=some (.v (.s (.bool b)))) (m:MX P N (if b then c1 else c2) fr h I Q):MX P N (.cond c0 c1 c2) fr h I Q:=λO φ w a r=>
 wp_cond (GF r.fr h0 e0) (by cases b<;>exact m O φ w a r)
theorem MX.block {id:Nat} {c:Code} {fr:Fr} {h:Heap} {I:List It} {Q:MQ} (m:MX P N c fr h I λx fr h I=>match x with
  |.exit j=>if j=id then Q .normal fr h I else Q (.exit j) fr h I
  |x=>Q x fr h I):MX P N (.block id c) fr h I Q:=λO φ w a r=>by
 refine wp_block (wp_mono (m O φ w a r) ?_)
 rintro e a1 w1 ⟨x,fr',h',I',φ',hx,r1,hq⟩
 cases e with
 |normal=>
  cases x<;>simp only[G9] at hx
  exact⟨.normal,fr',h',I',φ',Ae,r1,hq⟩
 |exit j=>
  cases x<;>simp only[G9] at hx
  subst hx
  simp only[Exit.inBlock] at hq ⊢
  split at hq
  ·next hj=>rw[Aj hj];exact⟨.normal,fr',h',I',φ',Ae,r1,hq⟩
  ·next hj=>rw[Ao hj];exact⟨.exit _,fr',h',I',φ',rfl,r1,hq⟩
 |ret=>
  cases x<;>simp only[G9] at hx
  exact⟨.ret,fr',h',I',φ',Ae,r1,hq⟩
 |_=>cases x<;>simp only[G9] at hx
theorem MX.loop {σ:Type} {c:Code} {Q:MQ} (m:σ->Nat) (J:σ->Fr->Heap->List It->Prop) (hr:∀s fr h I,J s fr h I->MX P N c fr h I λx fr1 h1 I1=>match x with
  |.normal=>∃s',m s'<m s/\J s' fr1 h1 I1
  |x=>Q x fr1 h1 I1):∀(k:Nat) (s:σ),m s<k->∀fr h I,J s fr h I->MX P N (.loop c) fr h I Q:=by
 intro k s hk fr h I hJ O φ w a r
 have key:∀(k:Nat) (s:σ),m s<k->∀fr h I,J s fr h I->∀φ w a,K0 O N φ fr h I a w ->
   Code.rounds P c (λe a' w'=>∃x fr' h' I' φ',G9 x e/\K0 O N φ' fr' h' I' a' w'/\Q x fr' h' I') k a w:=by
  intro k
  induction k with
  |zero=>intro s hk;omega
  |succ k ih=>
   intro s hk fr h I hJ φ w a r
   rw[rounds_succ]
   refine wp_mono (hr s fr h I hJ O φ w a r) ?_
   rintro e a1 w1 ⟨x,fr',h',I',φ',hx,r1,hq⟩
   cases e with
   |normal=>
    cases x<;>simp only[G9] at hx
    obtain⟨s',hs,hJ'⟩:=hq
    exact ih s' Aa fr' h' I' hJ' φ' w1 a1 r1
   |exit j=>
    cases x<;>simp only[G9] at hx
    exact⟨.exit _,fr',h',I',φ',hx,r1,hq⟩
   |ret=>
    cases x<;>simp only[G9] at hx
    exact⟨.ret,fr',h',I',φ',Ae,r1,hq⟩
   |_=>cases x<;>simp only[G9] at hx
 exact wp_loop_rounds k (key k s hk fr h I hJ φ w a r)
end
theorem run_choose {P:Program} {w:World} {n:Nat}:∃j w',(choose (.mapNext n)).run P w=.ok j w'/\w'.heap=w.heap/\w'.os=w.os/\w'.output=w.output/\(0<n->j<n):=by
 by_cases hf:n<=1;·refine⟨0,w,?_,rfl,rfl,rfl,λh=>h⟩;simp[choose,Sem.run,Question.forced,hf]
 ·refine⟨(w.tape w.drawn (.mapNext n)) % n,{ w with drawn:=w.drawn+1 },?_,rfl,rfl,rfl,λh=>Cu _ h⟩;simp[choose,Sem.run,Question.forced,hf,Question.cut]
theorem QT {P:Program} {w:World} {r m n:Nat} {es:Array MapEntry} {seen:Array Nat} {ty:TypeId} (h1:w.heap[r]?=some (.mapIter (some m) n seen n)) (h2:w.heap[m]?=some (.map es es.size)) (hn:es.size=n) (hb:∀i (h:i<es.size),es[i].born=i) :
  ((∀k,k<n->k∈seen)/\∃w',(Instr.next (.pointer (some ⟨r,0,none⟩)) false ty).run P w=.ok (.tuple #[.bool false]) w'/\w'.heap=w.heap/\w'.os=w.os/\w'.output=w.output) ∨
  (∃k e w',k<n/\k∉seen/\es[k]?=some e/\(Instr.next (.pointer (some ⟨r,0,none⟩)) false ty).run P w=.ok (.tuple #[.bool true,e.key,e.val]) w'/\w'.heap=w.heap.setIfInBounds r (.mapIter (some m) n (seen.push k) n)/\w'.os=w.os/\w'.output=w.output):=by
 have hobj:=G5 (P:=P) h1 Ac;have hmap:=G5 (P:=P) h2 Ac;have hlt:∀e∈es,e.born<n:=λe he=>by obtain⟨i,hi,rfl⟩:=Array.mem_iff_getElem.1 he;rw[hb i hi];omega
 have hold:(es.filter λe=>!seen.contains e.born).filter (λe=>e.born<n)=es.filter λe=>!seen.contains e.born:=by refine Array.filter_eq_self.2 λe he=>?_;simpa using hlt e (DI.1 he).1
 have hnew:(es.filter λe=>!seen.contains e.born).filter (λe=>e.born>=n)=#[]:=by refine Array.filter_eq_empty_iff.2 λe he=>?_;have:=hlt e (DI.1 he).1;simp;omega
 have hall:(!seen.isEmpty&&!es.isEmpty&&es.all (λe=>decide (e.born>=n)))=false:=by
  by_cases he:es.isEmpty=true;·simp[he]
  ·have:es.all (λe=>decide (e.born>=n))=false:=by
    rw[Array.all_eq_false];have h0:0<es.size:=by simp at he;exact Array.size_pos_iff.2 he
    refine⟨0,h0,?_⟩;rw[hb 0 h0];simp;omega
   rw[this,Bool.and_false]
 generalize hL:(es.filter λe=>!seen.contains e.born)=left at hold hnew;by_cases hempty:left=#[]
 ·left;refine⟨λk hk=>?_,?_⟩
  ·refine CF λhns=>?_;have:es[k]'Aa∈left:=by rw[<-hL,DI];exact⟨Array.getElem_mem _,by rw[hb k Aa];simpa using hns⟩
   rw[hempty] at this;simp at this
  ·obtain⟨j,w',c1,c2,c3,c4,c5⟩:=run_choose (P:=P) (w:=w) (n:=1);have hj:j=0:=by have:=c5 Aa;omega
   subst hj;refine⟨w',?_,c2,c3,c4⟩;simp only[Instr.next,Sem.run_bind,hobj,Result.andThen_ok,hmap];rw[Ao (by rw[hall];simp)];simp only[hL,hold,hnew];rw[hempty];simp only[Array.isEmpty_empty,Ak,DX,Array.map_empty,Sem.run_bind];rw[show(#[none]:Array (Option MapEntry)).size=1 from rfl,c1];simp only[Result.andThen_ok];rfl
 ·right;have hne:left.isEmpty=false:=by
   cases h:left.isEmpty with
   |false=>rfl
   |true=>exact absurd (Array.isEmpty_iff.1 h) hempty
  have hpos:0<left.size:=Array.size_pos_iff.2 hempty;obtain⟨j,w1,c1,c2,c3,c4,c5⟩:=run_choose (P:=P) (w:=w) (n:=left.size);have hj:=c5 hpos;have hmem:left[j]∈es/\(!seen.contains left[j].born)=true:=DI.1 (by rw[hL];exact Array.getElem_mem hj);obtain⟨i,hi,he⟩:=Array.mem_iff_getElem.1 hmem.1;have hbi:left[j].born=i:=by rw[<-he];exact hb i hi
  have hset:=Ry (P:=P) (w:=w1) (r:=r) (o':=.mapIter (some m) n (seen.push left[j].born) es.size) (by rw[c2];exact h1) Ac;refine⟨i,left[j],{ w1 with heap:=w1.heap.setIfInBounds r (.mapIter (some m) n (seen.push left[j].born) es.size) },Aa,?_,by rw[<-he];simp[hi],?_,by rw[c2,hbi,hn],c3,c4⟩;·have:=hmem.2;rw[hbi] at this;simpa using this
  ·simp only[Instr.next,Sem.run_bind,hobj,Result.andThen_ok,hmap];rw[Ao (by rw[hall];simp)];simp only[hL,hold,hnew,hne,Fj,Ag,DX,Array.empty_append,Array.size_map,Sem.run_bind];rw[c1];simp only[Result.andThen_ok,Array.getElem?_map,CI hj,AK,Sem.run_bind,hset];rfl
def Pm:Ff->Bool
 |.op .Lu=>false
 |.op .Qr=>false
 |.op .Lv=>false
 |_=>true
theorem vW {α:Type} (x:Option α) (f:α->VOp) (g:α->List Operand) (h:∀y,Pm (.op (f y))=true):(x.map λy=>(Ff.op (f y),g y)).all (λp=>Pm p.1)=true:=by
 cases x with
 |none=>rfl
 |some y=>exact h y
theorem zN (x:Operand) (lo hi mx:Option Operand) (k:SlK):(Ka x lo hi mx k).all (λp=>Pm p.1)=true:=by unfold Ka;split<;>rfl
theorem nA (P:Program) (c:Call):(Qs P c).all (λp=>Pm p.1)=true:=by unfold Qs;repeat'(first|rfl|exact vW _ _ _ (λ_=>rfl)|split)
theorem U0 {P:Program} {op:Op} (h1:∀i s,op≠.next i s) (h2:∀t x,op≠.range t x) (h3:∀i,op≠.entry i):(cOp P op).all (λp=>Pm p.1)=true:=by
 cases op with
 |next i s=>exact absurd rfl (h1 i s)
 |range t x=>exact absurd rfl (h2 t x)
 |entry i=>exact absurd rfl (h3 i)
 |call c=>exact nA P c
 |_=>simp only[cOp];repeat'(first|rfl|exact vW _ _ _ (λ_=>rfl)|exact zN _ _ _ _ _|exact nA _ _|(exfalso;exact h1 _ _ (by assumption))|(exfalso;exact h2 _ _ (by assumption))|(exfalso;exact h3 _ (by assumption))|split)
theorem QU {P:Program} {op:Op} {xs:List Operand} (h:cOp P op=some (.op .Qr,xs)):∃it,op=.next it false/\xs=[it]:=by
 have key:=λh1 h2 h3=>U0 (P:=P) (op:=op) h1 h2 h3;rw[h] at key;cases op with
 |next i s=>
  cases s with
  |true=>simp[cOp] at h
  |false=>simp only[cOp,Sj,Pj] at h;exact⟨i,rfl,h.2.symm⟩
 |range t x=>exfalso;revert h;simp only[cOp];intro h;(repeat' split at h)<;>cases h
 |entry i=>simp[cOp] at h
 |_=>exact absurd (key (λ_ _ e=>by cases e) (λ_ _ e=>by cases e) (λ_ e=>by cases e)) (by simp[Pm])
theorem LO {P:Program} {op:Op} {xs:List Operand} (h:cOp P op=some (.op .Lv,xs)):∃it,op=.entry it/\xs=[it]:=by
 have key:=λh1 h2 h3=>U0 (P:=P) (op:=op) h1 h2 h3;rw[h] at key;cases op with
 |entry i=>simp only[cOp,Sj,Pj] at h;exact⟨i,rfl,h.2.symm⟩
 |range t x=>exfalso;revert h;simp only[cOp];intro h;(repeat' split at h)<;>cases h
 |next i s=>cases s<;>simp[cOp] at h
 |_=>exact absurd (key (λ_ _ e=>by cases e) (λ_ _ e=>by cases e) (λ_ e=>by cases e)) (by simp[Pm])
theorem LP {P:Program} {op:Op} {xs:List Operand} (h:cOp P op=some (.op .Lu,xs)):∃t x k e,op=.range t x/\xs=[x]/\P.underlying t=some (.map k e):=by
 have key:=λh1 h2 h3=>U0 (P:=P) (op:=op) h1 h2 h3;rw[h] at key;cases op with
 |entry i=>simp[cOp] at h
 |range t x=>
  simp only[cOp] at h;split at h;·next k e hu=>simp only[Sj,Pj] at h;exact⟨t,x,k,e,rfl,h.2.symm,hu⟩
  ·cases h
 |next i s=>cases s<;>simp[cOp] at h
 |_=>exact absurd (key (λ_ _ e=>by cases e) (λ_ _ e=>by cases e) (λ_ e=>by cases e)) (by simp[Pm])
def MXL (P:Program) (N:Nat) (ops:Array Oper) (l:List Oper) (fr:Fr) (h:Heap) (I:List It) (K:Fr->Heap->List It->Prop):Prop:=∀O φ w a (Q:Exit->Act->World->Prop),K0 O N φ fr h I a w ->
 (∀φ' fr' h' I' a' w',K0 O N φ' fr' h' I' a' w'->K fr' h' I'->Q .normal a' w')->wpList P ops Q l a w
section
variable {P:Program} {N:Nat} {ops:Array Oper}
theorem MXL.nil {fr:Fr} {h:Heap} {I:List It} {K:Fr->Heap->List It->Prop} (hk:K fr h I):MXL P N ops [] fr h I K:=λO φ w a Q r hQ=>hQ φ fr h I a w r hk
theorem MX.region {id:Nat} {fr:Fr} {h:Heap} {I:List It} {Q:MQ} (m:MXL P N ops ops.toList fr h I (Q .normal)):MX P N (.region id ops false) fr h I Q:=λO φ w a r=>
 wp_region_list (m O φ w a _ r λφ' fr' h' I' _ _ r' k=>⟨.normal,fr',h',I',φ',Ae,r',k⟩)
theorem MXL.run {call:Fg} (hcall:Iy P call) (hkeep:Oh call) (hnice:Gn call) {o:Oper} {vo:B3} (hc:M9 P N ops o=some vo) {l:List Oper} {fr fr1:Fr} {h h1:Heap} {I:List It} {K:Fr->Heap->List It->Prop}
  (e:vo.run call fr h=some (fr1,h1)) (hg:Qn h h1) (m:MXL P N ops l fr1 h1 I K):MXL P N ops (o::l) fr h I K:=λO φ w a Q r hQ=>
 aX hcall hc r.fr r.sim r.clean e λa' w' ⟨φ1,s1,e1,f1⟩=>by obtain⟨_,hn⟩:=Qz hnice vo fr h fr1 h1 e;exact m O φ1 w' a' Q (r.step f1 s1 (hkeep _ _ _ _ _ e r.clean) e1 hg) hQ
theorem U9 {o:Oper} {vo:B3} (hc:M9 P N ops o=some vo) (hg:vo.guard=none) {φ:Emb} {fr:Fr} {a:Act} {w:World} (hfr:Hk φ N fr a) {K:Act->World->Prop} {Q:Exit->Act->World->Prop} (h:o.wp P a w K Q) :
  if Region.wanted o (yielded ops a.tmps) then o.wp P a w K Q∨(o.asks P a w/\LetsOut Q) else K (a.put o.dst undef) w:=by obtain⟨_,_,⟨g,hg1,hvg⟩,_⟩:=Ie hc;have hw:Region.wanted o (yielded ops a.tmps)=true:=Qw hfr hg1 (c:=true) (by rw[<-hvg,hg];rfl);rw[hw,Aj rfl];exact .inl h
theorem It.ptr {φ:Emb} {h:Heap} {w:World} {i:It} (k:LN φ h w i) {v:Value} (e:Gr φ (.v (.s (.ptr i.b 0))) v):∃l l',φ i.b=some l/\v=.pointer (some ⟨l.blk,0,none⟩)/\φ i.mp=some l'/\w.heap[l.blk]?=some (.mapIter (some l'.blk) i.n i.seen.toArray i.n)/\∀b l2,φ b=some l2->l2.blk=l.blk->h.get b=none:=by obtain⟨lc,e0,e1⟩:=e;obtain⟨l,l',h1,h2,h3,h4,h5⟩:=k.obj;rw[e0] at h1;cases h1;exact⟨lc,l',e0,by rw[e1,h2],h3,h4,h5⟩
theorem K0.seen {O:Org} {φ:Emb} {fr:Fr} {h:Heap} {I1 I2:List It} {i:It} {a:Act} {w w':World} (r:K0 O N φ fr h (I1++i::I2) a w) {l l':Loc} (h1:φ i.b=some l) (h2:φ i.mp=some l') (h4:w.heap[l.blk]?=some (.mapIter (some l'.blk) i.n i.seen.toArray i.n)) {k:Nat}
  (hh:w'.heap=w.heap.setIfInBounds l.blk (.mapIter (some l'.blk) i.n (i.seen.toArray.push k) i.n)) (hs:w'.os=w.os) (ho:w'.output=w.output):K0 O N φ fr h (I1++{ i with seen:=i.seen++[k] }::I2) a w':=by
 have him:i∈I1++i::I2:=Ac;have hlt:l.blk<w.heap.size:=(AE.1 h4).1;have hne:∀r0,r0≠l.blk->w'.heap[r0]?=w.heap[r0]?:=λr0 hr=>by rw[hh,Bt (BL hr)]
 obtain⟨l0,l0',g1,g2,g3,g4,g5⟩:=(r.its i him).obj;rw[h1] at g1;cases g1;have hpw:=Bp.1 r.dis;have hpc:=AA.1 hpw.2.1;have old:∀j∈I1++I2,LN φ h w' j:=λj hj=>by
  have hjm:j∈I1++i::I2:=by
   rcases Av.1 hj with hj|hj;·simp[hj]
   ·simp[hj]
  obtain⟨lt,lj,lj',j1,j2,j3,j4,j5⟩:=r.its j hjm;refine⟨lt,lj,lj',j1,j2,j3,?_,j5⟩;rw[hne _ ?_];exact j4;rcases Av.1 hj with hj|hj;·exact hpw.2.2 j hj i Ac _ _ j1 h1
  ·exact λe=>hpc.1 j hj _ _ h1 j1 e.symm
 refine⟨r.fr,⟨λb x lb hb hp=>?_,r.sim.sep,r.sim.fresh⟩,r.clean,{ r.ext with size:=by rw[hh,Array.size_setIfInBounds];exact r.ext.size,frame:=λr0 o hr hn=>?_,os:=by rw[hs,ho];exact r.ext.os },r.frs,λj hj=>?_,λj hj=>?_,?_⟩;·rw[hne _ λe=>by rw[g5 b lb hp e] at hb;cases hb];exact r.sim.blk b x lb hb hp
 ·rw[hne _ ?_];exact r.ext.frame r0 o hr hn;have:=(AE.1 hr).1;have:=r.new i him l h1;omega
 ·rcases Av.1 hj with hj|hj;·exact old j (by simp[hj])
  ·rcases Af.1 hj with rfl|hj;·refine⟨(r.its i him).lt,l,l0',h1,g2,g3,?_,g5⟩;rw[h2] at g3;cases g3;rw[hh,Array.getElem?_setIfInBounds_self,Aj hlt];simp
   ·exact old j (by simp[hj])
 ·rcases Av.1 hj with hj|hj;·exact r.new j (by simp[hj])
  ·rcases Af.1 hj with rfl|hj;·exact r.new i him
   ·exact r.new j (by simp[hj])
 ·exact Bp.2 ⟨hpw.1,AA.2 ⟨hpc.1,hpc.2⟩,λx hx y hy=>by
   rcases Af.1 hy with rfl|hy
   ·exact hpw.2.2 x hx i Ac
   ·exact hpw.2.2 x hx y (by simp[hy])⟩
theorem K0.put {O:Org} {φ:Emb} {fr:Fr} {h:Heap} {I:List It} {a:Act} {w:World} (r:K0 O N φ fr h I a w) {o:Oper} (hd:sS N o=true) {v:AV} {v':Value} (hv:Gr φ v v'):K0 O N φ (Fp fr (o.dst.map kn) v) h I (a.put o.dst v') w:={ r with fr:=r.fr.put hd hv }
theorem MXL.next {o:Oper} {vo:B3} (hc:M9 P N ops o=some vo) {d:EE} {kx:Key} (hv:vo=⟨d,.op .Qr,[.t kx],none⟩) {l:List Oper} {fr:Fr} {h:Heap} {I1 I2:List It} {i:It} {K:Fr->Heap->List It->Prop} {es:List (CV×CV)} {own:Bool} {anc:ED}
  (hx:fr.get kx=some (.v (.s (.ptr i.b 0)))) (hg:h.get i.mp=some ⟨.map es,own,anc⟩) (hn:es.length=i.n)
  (hno:(∀k,k<i.n->k∈i.seen)->MXL P N ops l (Fp fr d (.tup [.s (.bool false)])) h (I1++i::I2) K)
  (hyes:∀k key val,k<i.n->k∉i.seen->es[k]?=some (key,val)->MXL P N ops l (Fp fr d (.tup [.s (.bool true),key,val])) h (I1++{ i with seen:=i.seen++[k] }::I2) K):MXL P N ops (o::l) fr h (I1++i::I2) K:=by
 intro O φ w a Q r hQ;refine U9 hc (by rw[hv]) r.fr ?_;obtain⟨hd,hdst,_,hact⟩:=Ie hc;rcases hact with⟨act,xs,ys,hop,hys,ha,hargs⟩|⟨ha,_⟩
 ·rw[hv] at ha hargs hdst;simp only at ha hargs hdst;subst ha;obtain⟨it,ho,rfl⟩:=QU hop;have hrel:=Qv (args:=[.v (.s (.ptr i.b 0))]) r.fr hys (by rw[<-hargs];simp only[G7,VX.eval,hx]);obtain⟨lc,l',h1,h2,h3,h4,h5⟩:=It.ptr (r.its i Ac) (O5 hrel);obtain⟨arr,f2,f3,f4⟩:=r.sim.map h3 hg;have hlen:arr.size=i.n:=by rw[<-hn,A5 f4];simp
  obtain⟨dst,op,type,pos,after,guard⟩:=o;simp only at ho hdst;subst ho;unfold Oper.wp;rcases QT (P:=P) (ty:=type) h4 f2 hlen f3 with⟨hall,w',n1,n2,n3,n4⟩|⟨k,e,w',k1,k2,k3,n1,n2,n3,n4⟩
  ·have hx:(execOp a.eval ⟨dst,.next it false,type,pos,after,guard⟩).run P w=.ok (.value (.tuple #[.bool false])) w':=by simp only[execOp,h2,Sem.run_bind,n1,Result.andThen_ok,Sem.run_pure]
   rw[hx,Oper.upon_value];rw[hdst] at hno;exact hno (λk hk=>by have:=hall k hk;simpa using this) O φ w' _ Q ((r.world n2 n3 n4).put hd ⟨[.bool false],rfl,.cons rfl .nil⟩) hQ
  ·have hx:(execOp a.eval ⟨dst,.next it false,type,pos,after,guard⟩).run P w=.ok (.value (.tuple #[.bool true,e.key,e.val])) w':=by simp only[execOp,h2,Sem.run_bind,n1,Result.andThen_ok,Sem.run_pure]
   rw[hx,Oper.upon_value];rw[hdst] at hyes;have hk:k<es.length:=Aa;obtain⟨e',he',h6,h7⟩:=D3 f4 k (a:=es[k]) (by simp[hk]);have:arr.toList[k]?=some e:=by simpa using k3
   rw[this] at he';cases he';exact hyes k es[k].1 es[k].2 k1 (by simpa using k2) (by simp[hk]) O φ w' _ Q ((r.seen h1 h3 h4 n2 n3 n4).put hd ⟨[.bool true,e.key,e.val],rfl,.cons rfl (.cons h6 (.cons h7 .nil))⟩) hQ
 ·rw[hv] at ha;cases ha
theorem MXL.entry {o:Oper} {vo:B3} (hc:M9 P N ops o=some vo) {d:EE} {kx:Key} (hv:vo=⟨d,.op .Lv,[.t kx],none⟩) {l:List Oper} {fr:Fr} {h:Heap} {I:List It} {i:It} {K:Fr->Heap->List It->Prop} {es:List (CV×CV)} {own:Bool} {anc:ED}
  (hi:i∈I) (hx:fr.get kx=some (.v (.s (.ptr i.b 0)))) (hg:h.get i.mp=some ⟨.map es,own,anc⟩) (hn:es.length=i.n) {s:EF} {k:Nat} (hs:i.seen=s++[k]) {key val:CV} (hk:es[k]?=some (key,val))
  (m:MXL P N ops l (Fp fr d (.tup [key,val])) h I K):MXL P N ops (o::l) fr h I K:=by
 intro O φ w a Q r hQ;refine U9 hc (by rw[hv]) r.fr ?_;obtain⟨hd,hdst,_,hact⟩:=Ie hc;rcases hact with⟨act,xs,ys,hop,hys,ha,hargs⟩|⟨ha,_⟩
 ·rw[hv] at ha hargs hdst;simp only at ha hargs hdst;subst ha;obtain⟨it,ho,rfl⟩:=LO hop;have hrel:=Qv (args:=[.v (.s (.ptr i.b 0))]) r.fr hys (by rw[<-hargs];simp only[G7,VX.eval,hx]);obtain⟨lc,l',h1,h2,h3,h4,h5⟩:=It.ptr (r.its i hi) (O5 hrel);obtain⟨arr,f2,f3,f4⟩:=r.sim.map h3 hg;have hlen:arr.size=i.n:=by rw[<-hn,A5 f4];simp
  obtain⟨dst,op,type,pos,after,guard⟩:=o;simp only at ho hdst;subst ho;unfold Oper.wp;obtain⟨e,he,h6,h7⟩:=D3 f4 k hk;have hka:k<arr.size:=by have:=(Gi.1 he).1;simpa using this
  have he':arr[k]?=some e:=by simpa using he
  have hobj:=G5 (P:=P) h4 Ac;have hmap:=G5 (P:=P) f2 Ac;have hback:i.seen.toArray.back?=some k:=by rw[hs];simp
  have hfind:arr.find? (λe=>e.born==k)=some e:=by
   have hek:arr[k]=e:=by have:=he';rw[CI hka] at this;exact Cw this
   rw[Array.find?_eq_some_iff_getElem];refine⟨by rw[<-hek,f3 k hka];simp,k,hka,hek,λj hj=>?_⟩;rw[f3 j Aa];simp;omega
  have hx:(execOp a.eval ⟨dst,.entry it,type,pos,after,guard⟩).run P w=.ok (.value (.tuple #[e.key,e.val])) w:=by simp[execOp,h2,Instr.entry,hobj,hmap,hback,hlen,hfind]
  rw[hx,Oper.upon_value];rw[hdst] at m;exact m O φ w _ Q (r.put hd ⟨[e.key,e.val],rfl,.cons h6 (.cons h7 .nil)⟩) hQ
 ·rw[hv] at ha;cases ha
theorem Ext.less {φ:Emb} {g:Mem} {lo:Nat} {w:World} {φ':Emb} {g' g2:Mem} {hi:Nat} {w':World} (e:Ext φ g lo w φ' g' hi w') (h:∀b x,g2 b=some x->g' b=some x):Ext φ g lo w φ' g2 hi w':=
 { e with own:=λb x l hb=>e.own b x l (h b x hb) }
theorem MXL.range {o:Oper} {vo:B3} (hc:M9 P N ops o=some vo) {d:EE} {kx:Key} (hv:vo=⟨d,.op .Lu,[.t kx],none⟩) {l:List Oper} {fr:Fr} {h:Heap} {I:List It} {K:Fr->Heap->List It->Prop} {mp:Key} {es:List (CV×CV)} {own:Bool} {anc:ED}
  (hx:fr.get kx=some (.v (.s (.map mp)))) (hg:h.get mp=some ⟨.map es,own,anc⟩)
  (m:MXL P N ops l (Fp fr d (.v (.s (.ptr h.next 0)))) { h with next:=h.next.succ } (I++[⟨h.next,mp,es.length,[]⟩]) K):MXL P N ops (o::l) fr h I K:=by
 intro O φ w a Q r hQ;refine U9 hc (by rw[hv]) r.fr ?_;obtain⟨hd,hdst,_,hact⟩:=Ie hc;rcases hact with⟨act,xs,ys,hop,hys,ha,hargs⟩|⟨ha,_⟩
 ·rw[hv] at ha hargs hdst;simp only at ha hargs hdst;subst ha;obtain⟨t,x,kt,et,ho,rfl,hu⟩:=LP hop;have hrel:=Qv (args:=[.v (.s (.map mp))]) r.fr hys (by rw[<-hargs];simp only[G7,VX.eval,hx]);obtain⟨lc,e0,e1⟩:=O5 hrel;obtain⟨arr,f1,f2,f3⟩:=r.sim.map e0 hg;have hlen:es.length=arr.size:=by rw[A5 f3];simp
  have hobj:=G5 (P:=P) f1 Ac;have hb:φ h.next=none:=r.sim.fresh _ Rl;have hlc:(φ.set h.next ⟨w.heap.size,0,0⟩) mp=some lc:=Emb.T2 _ hb _ _ e0;obtain⟨dst,op,type,pos,after,guard⟩:=o;simp only at ho hdst;subst ho;obtain⟨g1,g2⟩:=T4 (w':=w.alloc (.mapIter (some lc.blk) arr.size #[] arr.size)) (o:=.mapIter (some lc.blk) arr.size #[] arr.size) r.sim hb ⟨.iter mp es.length 0,true,[]⟩ ⟨w.heap.size,0,0⟩ rfl rfl
   ⟨rfl,lc,hlc,by rw[hlen];rfl⟩
  have hnx:(h.Fu ⟨.iter mp es.length 0,true,[]⟩).next.toNat=h.next.toNat+1:=Key.toNat_succ _;have hnone:h.get h.next=none:=(r.clean h.next Rl).1;have hless:∀b x,h.get b=some x->(h.Fu ⟨.iter mp es.length 0,true,[]⟩).get b=some x:=λb x hbx=>by rw[Gt];show(if h.next=b then _ else h.get b)=some x;rw[Ao λe=>by rw[<-e,hnone] at hbx;cases hbx];exact hbx
  have s1:=g1 (h.next.toNat+1) Aa Aa;rw[hnx] at g2;unfold Oper.wp;have hx:(execOp a.eval ⟨dst,.range t x,type,pos,after,guard⟩).run P w=.ok (.value (.pointer (some ⟨w.heap.size,0,none⟩))) (w.alloc (.mapIter (some lc.blk) arr.size #[] arr.size)):=by simp[execOp,Instr.range,run_underlying hu,e1,hobj]
  rw[hx,Oper.upon_value];rw[hdst] at m;have hsn:({ h with next:=h.next.succ }:Heap).next.toNat=h.next.toNat+1:=Key.toNat_succ _;have hget:({ h with next:=h.next.succ }:Heap).get=h.get:=rfl;have hgone:Qn h { h with next:=h.next.succ }:=λ_ _ e=>e;have r1:K0 O N (φ.set h.next ⟨w.heap.size,0,0⟩) fr { h with next:=h.next.succ } I a (w.alloc (.mapIter (some lc.blk) arr.size #[] arr.size)):=by
   refine r.step (r.fr.mono g2.le) ?_ (λb hb'=>r.clean b (by rw[hsn] at hb';omega)) ?_ hgone;·rw[hsn];exact s1.less λb x hb'=>⟨x,hless b x hb',rfl,rfl,id⟩
   ·rw[hsn];exact g2.less hless
  have hset:(φ.set h.next ⟨w.heap.size,0,0⟩) h.next=some ⟨w.heap.size,0,0⟩:=Emb.D6 _ _ _;have hdead:∀b l2,(φ.set h.next ⟨w.heap.size,0,0⟩) b=some l2->l2.blk=w.heap.size->h.get b=none:=λb l2 hp he=>by
   cases hgb:h.get b with
   |none=>rfl
   |some y=>
    obtain⟨ob,hob,_⟩:=s1.blk b y l2 (hless b y hgb) hp;exfalso;cases hφ:φ b with
    |none=>
     have hne:h.next≠b:=λe=>by rw[<-e,hnone] at hgb;cases hgb
     rw[Emb.Gm _ _ hne,hφ] at hp;cases hp
    |some l0=>have h2:=g2.le _ _ hφ;rw[hp] at h2;cases h2;obtain⟨ob',hob',_⟩:=r.sim.blk b y l2 hgb hφ;have:=(AE.1 hob').1;omega
  refine m O _ _ _ Q (K0.put ⟨r1.fr,r1.sim,r1.clean,r1.ext,r1.frs,λj hj=>?_,λj hj=>?_,?_⟩ hd ⟨_,hset,rfl⟩) hQ
  ·rcases Av.1 hj with hj|hj;·exact r1.its j hj
   ·rw[Ar] at hj;subst hj;refine⟨Nat.lt_of_lt_of_eq (AI _) hsn.symm,_,lc,hset,rfl,hlc,?_,hdead⟩;show(w.heap.push (.mapIter (some lc.blk) arr.size #[] arr.size))[w.heap.size]?=some (.mapIter (some lc.blk) es.length #[] es.length);rw[hlen];simp
  ·rcases Av.1 hj with hj|hj;·exact r1.new j hj
   ·rw[Ar] at hj;subst hj;intro l2 hl2;rw[hset] at hl2;cases hl2;exact r.ext.size
  ·refine Bp.2 ⟨r1.dis,CT _ _,λx hx y hy l1 l2 e1 e2=>?_⟩;rw[Ar] at hy;subst hy;rw[hset] at e2;cases e2;obtain⟨_,l3,_,h3,_,_,h4,_⟩:=r.its x hx;have h5:=g2.le _ _ h3;rw[e1] at h5;cases h5;have:=(AE.1 h4).1;simp only;omega
 ·rw[hv] at ha;cases ha
end
section
open Classical in
def Z6 (f:Nat) (vs:EA):Fg:=λf' az h=>if f'=f/\az=vs then some (.unit,h) else none
theorem vX {f:Nat} {vs:EA} {f':Nat} {az:EA} {h:Heap} {r:AV×Heap} (e:Z6 f vs f' az h=some r):f'=f/\az=vs:=by
 unfold Z6 at e;split at e;·assumption
 ·cases e
theorem Xz (f:Nat) (vs:EA) (h:Heap):Z6 f vs f vs h=some (.unit,h):=by simp[Z6]
structure MC (P:Program) (f:Nat) (vs:EA) (h:Heap) (R:AV->Heap->Prop):Prop where
 dom : ∃ fn, P.funcs[f]? = some fn ∧ (fn.name == "runtime.NumGoroutine") = false ∧ fn.body.isNone = false
 run:Clean h->∀φ w us,Sim φ h.get h.next.toNat w->A1 (Gr φ) vs us ->
  Calls P f us.toArray w λe w'=>∃v' v h' φ',e=.returned v'/\Sim φ' h'.get h'.next.toNat w'/\Ext φ h.get h.next.toNat w φ' h'.get h'.next.toNat w'/\Clean h'/\Qn h h'/\Gr φ' v v'/\R v h'
section
variable {P:Program} {N:Nat} {ops:Array Oper}
theorem MC.mono {f:Nat} {vs:EA} {h:Heap} {R R':AV->Heap->Prop} (m:MC P f vs h R) (hr:∀v h',R v h'->R' v h'):MC P f vs h R':=
 ⟨m.dom,λhc φ w us s ha=>Calls.mono (m.run hc φ w us s ha) λ_ _ ⟨v',v,h',φ',e1,e2,e3,e4,e5,e6,e7⟩=>⟨v',v,h',φ',e1,e2,e3,e4,e5,e6,hr _ _ e7⟩⟩
theorem HL {o:Oper} {vo:B3} (hc:M9 P N ops o=some vo) (hop:∀p,vo.act≠.op p) {φ:Emb} {fr:Fr} {a:Act} {w:World} {h:Heap} (hfr:Hk φ N fr a) (s:Sim φ h.get h.next.toNat w) (hcl:Clean h) {args:EA} (hf:G7 fr vo.args=some args)
  {f:Nat} {vs:EA} (hr:vo.act.run (Z6 f vs) args h=some (.unit,h)) {R:AV->Heap->Prop} (m:MC P f vs h R) {K:Act->World->Prop} {Q:Exit->Act->World->Prop}
  (hK:∀v v' h' φ' w',Sim φ' h'.get h'.next.toNat w'->Ext φ h.get h.next.toNat w φ' h'.get h'.next.toNat w'->Clean h'->Qn h h'->Gr φ' v v'->R v h'->K (a.put o.dst v') w'):o.wp P a w K Q:=by
 obtain⟨_,_,_,hact⟩:=Ie hc;rcases hact with⟨act,xs,ys,hop',hys,ha,hargs⟩|⟨ha,_⟩;·rw[ha] at hr hop;rw[hargs] at hf;have hrel:=Qv hfr hys hf;obtain⟨c,hoc,hcc⟩:=tS hop' hop;obtain⟨dst,op,type,pos,after,guard⟩:=o;simp only at hoc;subst hoc;obtain⟨f',az,us,e1,e2,e3⟩:=gG (P:=P) (λf' az h r e=>by obtain⟨rfl,_⟩:=vX e;exact m.dom) hcc hop hrel hr dst type pos after guard (w:=w);obtain⟨rfl,rfl⟩:=vX e2;unfold Oper.wp;rw[e1];refine Calls.mono (m.run hcl φ w us s e3) ?_;rintro e w' ⟨v',v,h',φ',rfl,g1,g2,g3,g4,g5,g6⟩;exact hK v v' h' φ' w' g1 g2 g3 g4 g5 g6
 ·exact absurd ha (hop _)
theorem MXL.call {o:Oper} {vo:B3} (hc:M9 P N ops o=some vo) (hg:vo.guard=none) (hop:∀p,vo.act≠.op p) {l:List Oper} {fr:Fr} {h:Heap} {I:List It} {K:Fr->Heap->List It->Prop} {args:EA} (hf:G7 fr vo.args=some args)
  {f:Nat} {vs:EA} (hr:vo.act.run (Z6 f vs) args h=some (.unit,h)) {R:AV->Heap->Prop} (m:MC P f vs h R) (hk:∀v h',R v h'->MXL P N ops l (Fp fr vo.dst v) h' I K):MXL P N ops (o::l) fr h I K:=λO φ w a Q r hQ=>by obtain⟨hd,hdst,_⟩:=Ie hc;refine U9 hc hg r.fr (HL hc hop r.fr r.sim r.clean hf hr m λv v' h' φ' w' g1 g2 g3 g4 g5 g6=>?_);refine hk v h' g6 O φ' w' _ Q ?_ hQ;refine(r.step (r.fr.mono g2.le) g1 g3 g2 g4).put hd g5 |> λr2=>?_;rw[hdst];exact r2
theorem MC.of {F:D5} (hF:∀f vf,F f=some vf->Jf P f=some vf) {f:Nat} {vf:Gq} (hf:F f=some vf) {vs:EA} {h:Heap} {R:AV->Heap->Prop}
  (m:∀N c,D7 P N c=some vf.body->MX P N c (Tr.z.G8 0 vs) h [] λx fr h' _=>(∀i,x≠.exit i)/\∃l,Im fr h' vf.results=some l/\R (J9 l) h'):MC P f vs h R:=by
 have hf:=hF _ _ hf;unfold Jf at hf;cases hfn:P.funcs[f]? with
 |none=>simp[hfn] at hf
 |some fn=>
  simp[hfn] at hf;obtain⟨h1,c,hb,hcode,hres⟩:=Xj hf;refine⟨⟨fn,hfn,h1,by simp[hb]⟩,λhcl φ w us s ha=>?_⟩;refine calls_of_wp hfn hb (wp_mono (m fn.ntmps c hcode ⟨φ,h,w⟩ φ w _ ⟨mC ha fn.ntmps,s,hcl,Ext.refl _ _ _ _,Qn.refl h,Ac,Ac,.nil⟩) ?_);rintro e a w' ⟨x,fr,h',I',φ',hx,r,hne,l,hl,hR⟩;obtain⟨v',e1,e2⟩:=gH (P:=P) r.fr r.sim hres hl;have hgoal:bodyPost P fn (λe w'=>∃v' v h' φ',e=.returned v'/\Sim φ' h'.get h'.next.toNat w'/\Ext φ h.get h.next.toNat w φ' h'.get h'.next.toNat w'/\Clean h'/\Qn h h'/\Gr φ' v v'/\R v h') .ret a w':=
   ⟨r.fr.defers,v',e1,v',J9 l,h',φ',rfl,r.sim,r.ext,r.clean,r.frs,e2,hR⟩
  cases e with
  |normal=>exact hgoal
  |ret=>exact hgoal
  |exit i=>
   cases x with
   |exit j=>exact(hne j rfl).elim
   |_=>exact hx.elim
  |_=>cases x<;>exact hx.elim
theorem jL {call:Fg} (hcall:Iy P call) (hkeep:Oh call) {l2:List Oper} {Q:Exit->Act->World->Prop}:∀(l:List Oper) (vs:List B3),Gw P N ops l=some vs->∀{φ:Emb} {fr fr':Fr} {a:Act} {h h':Heap} {w:World},Hk φ N fr a ->
  Sim φ h.get h.next.toNat w->Clean h->G0 call vs fr h=some (fr',h')->(∀a' w',Clean h'->(dX φ h w h' w' λφ'=>Hk φ' N fr' a')->wpList P ops Q l2 a' w')->wpList P ops Q (l++l2) a w
 |[],vs,hc,φ,fr,fr',a,h,h',w,hfr,s,hcl,hr,hQ=>by simp[Gw] at hc;subst hc;simp[G0] at hr;obtain⟨rfl,rfl⟩:=hr;exact hQ _ _ hcl ⟨φ,s,Ext.refl _ _ _ _,hfr⟩
 |o::l,vs,hc,φ,fr,fr',a,h,h',w,hfr,s,hcl,hr,hQ=>by
  unfold Gw at hc;split at hc
  ·next vo hvo=>
   split at hc
   ·next vl hvl=>
    cases hc;unfold G0 at hr;split at hr
    ·next fr1 h1 h1r=>
     exact aX hcall hvo hfr s hcl h1r λa' w' ⟨φ1,s1,e1,f1⟩=>
      jL hcall hkeep l vl hvl f1 s1 (hkeep _ _ _ _ _ h1r hcl) hr λa2 w2 c2 p2=>hQ a2 w2 c2 (p2.trans e1)
    ·cases hr
   ·cases hc
  ·cases hc
theorem jM:∀{l1:List B3} {l:List Oper} {l2:List B3},Gw P N ops l=some (l1++l2)->∃a b,l=a++b/\Gw P N ops a=some l1/\Gw P N ops b=some l2
 |[],l,l2,h=>⟨[],l,rfl,rfl,h⟩
 |o::l1,[],l2,h=>by simp[Gw] at h
 |o::l1,x::l,l2,h=>by
  unfold Gw at h;split at h
  ·next vo hvo=>
   split at h
   ·next vl hvl=>
    simp only[Sj,AH,BG] at h;obtain⟨rfl,rfl⟩:=h;obtain⟨a,b,e1,e2,e3⟩:=jM hvl;exact⟨x::a,b,by rw[e1];rfl,by simp only[Gw,hvo,e2],e3⟩
   ·cases h
  ·cases h
theorem Pn {o:B3} {l:List Oper} {l2:List B3} (h:Gw P N ops l=some (o::l2)):∃a b,l=a::b/\M9 P N ops a=some o/\Gw P N ops b=some l2:=by
 cases l with
 |nil=>simp[Gw] at h
 |cons x l=>
  unfold Gw at h;split at h
  ·next vo hvo=>
   split at h
   ·next vl hvl=>
    simp only[Sj,BG] at h;obtain⟨rfl,rfl⟩:=h;exact⟨x,l,rfl,hvo,hvl⟩
   ·cases h
  ·cases h
theorem MXL.runs {call:Fg} (hcall:Iy P call) (hkeep:Oh call) {l l2:List Oper} {vs:List B3} (hc:Gw P N ops l=some vs) {fr fr1:Fr} {h h1:Heap} {I:List It} {K:Fr->Heap->List It->Prop}
  (e:G0 call vs fr h=some (fr1,h1)) (hg:Qn h h1) (m:MXL P N ops l2 fr1 h1 I K):MXL P N ops (l++l2) fr h I K:=λO φ w a Q r hQ=>
 jL hcall hkeep l vs hc r.fr r.sim r.clean e λa' w' c2 ⟨φ1,s1,e1,f1⟩=>m O φ1 w' a' Q (r.step f1 s1 c2 e1 hg) hQ
theorem MX.drop {c:Code} {fr:Fr} {h:Heap} {I I':List It} {Q:MQ} (hs:I'.Sublist I) (m:MX P N c fr h I' Q):MX P N c fr h I Q:=λO φ w a r=>
 m O φ w a { r with its:=λi hi=>r.its i (hs.subset hi),new:=λi hi=>r.new i (hs.subset hi),dis:=r.dis.sublist hs }
theorem QV {c:Code} {x y:B7} (h:D7 P N c=some (.seq x y)):∃a b,c=.seq a b/\D7 P N a=some x/\D7 P N b=some y:=by
 cases c with
 |seq a b=>
  simp only[D7] at h;split at h;·next h1 h2=>cases h;exact⟨a,b,rfl,h1,h2⟩
  ·cases h
 |region id ops d=>cases d with
  |false=>obtain⟨_,_,e⟩:=Ig h;cases e
  |true=>obtain⟨_,e⟩:=Jy h;cases e
 |cond a b c=>simp only[D7] at h;split at h<;>cases h
 |block id a=>simp only[D7] at h;cases hh:D7 P N a<;>simp[hh] at h
 |loop a=>simp only[D7] at h;cases hh:D7 P N a<;>simp[hh] at h
 |_=>simp[D7] at h
theorem LQ {c:Code} {v:VX} {x y:B7} (h:D7 P N c=some (.cond v x y)):∃o a b,c=.cond o a b/\cX o=some v/\D7 P N a=some x/\D7 P N b=some y:=by
 cases c with
 |cond o a b=>
  simp only[D7] at h;split at h;·next h0 h1 h2=>cases h;exact⟨o,a,b,rfl,h0,h1,h2⟩
  ·cases h
 |seq a b=>simp only[D7] at h;split at h<;>cases h
 |region id ops d=>cases d with
  |false=>obtain⟨_,_,e⟩:=Ig h;cases e
  |true=>obtain⟨_,e⟩:=Jy h;cases e
 |block id a=>simp only[D7] at h;cases hh:D7 P N a<;>simp[hh] at h
 |loop a=>simp only[D7] at h;cases hh:D7 P N a<;>simp[hh] at h
 |_=>simp[D7] at h
theorem zO {c:Code} {id:Nat} {x:B7} (h:D7 P N c=some (.block id x)):∃a,c=.block id a/\D7 P N a=some x:=by
 cases c with
 |block id a=>simp only[D7] at h;cases hh:D7 P N a<;>simp[hh] at h;obtain⟨rfl,rfl⟩:=h;exact⟨a,rfl,hh⟩
 |seq a b=>simp only[D7] at h;split at h<;>cases h
 |region id ops d=>cases d with
  |false=>obtain⟨_,_,e⟩:=Ig h;cases e
  |true=>obtain⟨_,e⟩:=Jy h;cases e
 |cond a b c=>simp only[D7] at h;split at h<;>cases h
 |loop a=>simp only[D7] at h;cases hh:D7 P N a<;>simp[hh] at h
 |_=>simp[D7] at h
theorem LR {c:Code} {x:B7} (h:D7 P N c=some (.loop x)):∃a,c=.loop a/\D7 P N a=some x:=by
 cases c with
 |loop a=>simp only[D7] at h;cases hh:D7 P N a<;>simp[hh] at h;subst h;exact⟨a,rfl,hh⟩
 |seq a b=>simp only[D7] at h;split at h<;>cases h
 |region id ops d=>cases d with
  |false=>obtain⟨_,_,e⟩:=Ig h;cases e
  |true=>obtain⟨_,e⟩:=Jy h;cases e
 |cond a b c=>simp only[D7] at h;split at h<;>cases h
 |block id a=>simp only[D7] at h;cases hh:D7 P N a<;>simp[hh] at h
 |_=>simp[D7] at h
theorem vY {c:Code} {l:List B3} (h:D7 P N c=some (.region l)):∃id ops,c=.region id ops false/\Gw P N ops ops.toList=some l:=by
 cases c with
 |region id ops d=>cases d with
  |false=>obtain⟨vs,e1,e⟩:=Ig h;cases e;exact⟨id,ops,rfl,e1⟩
  |true=>obtain⟨_,e⟩:=Jy h;cases e
 |seq a b=>simp only[D7] at h;split at h<;>cases h
 |cond a b c=>simp only[D7] at h;split at h<;>cases h
 |block id a=>simp only[D7] at h;cases hh:D7 P N a<;>simp[hh] at h
 |loop a=>simp only[D7] at h;cases hh:D7 P N a<;>simp[hh] at h
 |_=>simp[D7] at h
theorem zP {c:Code} {l:List DOp} (h:D7 P N c=some (.drawn l)):∃id ops,c=.region id ops true/\Mh P N ops true=some (.drawn l):=by
 cases c with
 |region id ops d=>cases d with
  |false=>obtain⟨vs,e1,e⟩:=Ig h;cases e
  |true=>exact⟨id,ops,rfl,h⟩
 |seq a b=>simp only[D7] at h;split at h<;>cases h
 |cond a b c=>simp only[D7] at h;split at h<;>cases h
 |block id a=>simp only[D7] at h;cases hh:D7 P N a<;>simp[hh] at h
 |loop a=>simp only[D7] at h;cases hh:D7 P N a<;>simp[hh] at h
 |_=>simp[D7] at h
end
end
def Z7 (h:Heap) (d:DOp) (fr:Fr) (v:AV):Prop:=∃o args,d.o.act=.op o/\o.kind=.quiet/\d.o.guard=none/\G7 fr d.o.args=some args/\o.run args h=some (v,h)
def Wn (h:Heap):List DOp->Fr->EA->Fr->Prop
 |[],fr,[],fr'=>fr=fr'
 |d::l,fr,v::vs,fr'=>Z7 h d fr v/\Wn h l (Fp fr d.o.dst v) vs fr'
 |_,_,_,_=>False
def QE (h:Heap):List DOp->Fr->EA->Prop
 |[],_,[]=>True
 |d::l,fr,v::vs=>(d.chk=0->Z7 h d fr v)/\(∃o,d.o.act=.op o/\o.kind=.quiet)/\QE h l (Fp fr d.o.dst v) vs
 |_,_,_=>False
def Re (h h1:Heap):List DOp->EA->Fr->EA->Fr->Prop
 |[],[],fr,[],fr'=>fr=fr'
 |d::l,v0::v0s,fr,v::vs,fr'=>Z7 h1 d fr v/\(d.chk=0->v=v0/\Z7 h d fr v)/\Re h h1 l v0s (Fp fr d.o.dst v) vs fr'
 |_,_,_,_,_=>False
def mkE:EF->List DOp->EA->List Ev
 |i::is,d::ds,v::vs=>⟨i,d,v,none⟩::mkE is ds vs
 |_,_,_=>[]
theorem HM:∀(o1:EF) (pre:List DOp) (vp:EA) {j:Nat} {o2:EF} {X:DOp} {post:List DOp} {u:AV} {v0:EA},o1.length=pre.length->vp.length=pre.length ->
  mkE (o1++j::o2) (pre++X::post) (vp++u::v0)=mkE o1 pre vp++⟨j,X,u,none⟩::mkE o2 post v0
 |[],[],[],_,_,_,_,_,_,_,_=>rfl
 |i::is,d::ds,v::vs,j,o2,X,post,u,v0,h1,h2=>by simp only[Ap,BS] at h1 h2;simp only[AH,mkE,HM is ds vs h1 h2]
 |[],_::_,_,_,_,_,_,_,_,h,_=>by simp at h
 |_::_,[],_,_,_,_,_,_,_,h,_=>by simp at h
 |_,[],_::_,_,_,_,_,_,_,_,h=>by simp at h
 |_,_::_,[],_,_,_,_,_,_,_,h=>by simp at h
theorem Z8:∀(is:EF) (ds:List DOp) (vs:EA),is.length=ds.length->vs.length=ds.length->(mkE is ds vs).map (·.i)=is/\(mkE is ds vs).map (·.d)=ds/\∀x∈mkE is ds vs,x.al=none
 |[],[],[],_,_=>⟨rfl,rfl,by simp[mkE]⟩
 |i::is,d::ds,v::vs,h1,h2=>by
  simp only[Ap,BS] at h1 h2;obtain⟨e1,e2,e3⟩:=Z8 is ds vs h1 h2;refine⟨by simp[mkE,e1],by simp[mkE,e2],λx hx=>?_⟩;rcases Af.1 hx with rfl|hx
  ·rfl
  ·exact e3 x hx
 |[],_::_,_,h,_=>by simp at h
 |_::_,[],_,h,_=>by simp at h
 |_,[],_::_,_,h=>by simp at h
 |_,_::_,[],_,h=>by simp at h
theorem Wn.len {h:Heap}:∀{l:List DOp} {fr:Fr} {vs:EA} {fr':Fr},Wn h l fr vs fr'->vs.length=l.length
 |[],_,[],_,_=>rfl
 |_::_,_,_::_,_,e=>by simp[e.2.len]
 |[],_,_::_,_,e=>e.elim
 |_::_,_,[],_,e=>e.elim
theorem QE.len {h:Heap}:∀{l:List DOp} {fr:Fr} {vs:EA},QE h l fr vs->vs.length=l.length
 |[],_,[],_=>rfl
 |_::_,_,_::_,e=>by simp[e.2.2.len]
 |[],_,_::_,e=>e.elim
 |_::_,_,[],e=>e.elim
theorem Re.len {h h1:Heap}:∀{l:List DOp} {v0:EA} {fr:Fr} {vs:EA} {fr':Fr},Re h h1 l v0 fr vs fr'->vs.length=l.length/\v0.length=l.length
 |[],[],_,[],_,_=>⟨rfl,rfl⟩
 |_::_,_::_,_,_::_,_,e=>by have:=e.2.2.len;simp[this.1,this.2]
 |[],[],_,_::_,_,e=>e.elim
 |[],_::_,_,_,_,e=>e.elim
 |_::_,[],_,_,_,e=>e.elim
 |_::_,_::_,_,[],_,e=>e.elim
theorem Wn.at {h:Heap}:∀{is:EF} {l:List DOp} {fr:Fr} {vs:EA} {fr':Fr},is.length=l.length->Wn h l fr vs fr'->pFr (mkE is l vs) fr=fr'/\∀p x q,mkE is l vs=p++x::q->Z7 h x.d (pFr p fr) x.v
 |[],[],_,[],_,_,e=>⟨e,λp x q hh=>by simp[mkE] at hh⟩
 |i::is,d::l,fr,v::vs,fr',hl,e=>by
  obtain⟨e1,e2⟩:=e;simp only[Ap,BS] at hl;obtain⟨i1,i2⟩:=e2.at hl;refine⟨i1,λp x q hh=>?_⟩;cases p with
  |nil=>simp only[mkE,Bw,BG] at hh;rw[<-hh.1];exact e1
  |cons y p=>simp only[mkE,AH,BG] at hh;rw[<-hh.1];exact i2 p x q hh.2
 |_,[],_,_::_,_,_,e=>e.elim
 |_,_::_,_,[],_,_,e=>e.elim
 |_::_,[],_,[],_,h,_=>by simp at h
 |[],_::_,_,_::_,_,h,_=>by simp at h
theorem QE.at {h:Heap}:∀{is:EF} {l:List DOp} {fr:Fr} {vs:EA},is.length=l.length->QE h l fr vs->∀p x q,mkE is l vs=p++x::q->(∃o,x.d.o.act=.op o/\o.kind=.quiet)/\(x.d.chk=0->Z7 h x.d (pFr p fr) x.v)
 |[],[],_,[],_,e=>λp x q hh=>by simp[mkE] at hh
 |i::is,d::l,fr,v::vs,hl,e=>by
  obtain⟨e1,e3,e2⟩:=e;simp only[Ap,BS] at hl;intro p x q hh;cases p with
  |nil=>simp only[mkE,Bw,BG] at hh;rw[<-hh.1];exact⟨e3,e1⟩
  |cons y p=>simp only[mkE,AH,BG] at hh;rw[<-hh.1];exact e2.at hl p x q hh.2
 |_,[],_,_::_,_,e=>e.elim
 |_,_::_,_,[],_,e=>e.elim
 |_::_,[],_,[],h,_=>by simp at h
 |[],_::_,_,_::_,h,_=>by simp at h
theorem Re.run {h h1:Heap}:∀{is:EF} {l:List DOp} {v0:EA} {fr:Fr} {vs:EA} {fr':Fr} {r:Key},is.length=l.length->(∀d∈l,d.chk<=1)->Re h h1 l v0 fr vs fr'->Run (λ_ _ _=>none) h1.next h1.next (mkE is l vs) r [h] fr h1 fr' h1
 |[],[],[],_,[],_,_,_,_,e=>⟨e,rfl⟩
 |i::is,d::l,v0::v0s,fr,v::vs,fr',r,hl,hd,e=>by
  obtain⟨⟨o,args,e1,e2,e3,e4,e5⟩,e6,e7⟩:=e;simp only[Ap,BS] at hl;have hk:d.o.act.kind=.quiet:=by rw[e1];exact e2
  refine⟨h1,.inl ⟨by simp only[e3];rfl,args,e4,?_⟩,?_⟩
  ·simp only[hk];refine⟨o,e1,Ae,e5,?_,?_,Ae⟩
   ·unfold outside;split
    ·next b _=>
     by_cases hb:b.toNat<h1.next.toNat;·simp[Bs,hb]
     ·simp[BC,Nat.le_of_not_lt hb]
    ·rfl
   ·by_cases hc:d.chk=0;·obtain⟨_,o',args',f1,_,_,f4,f5⟩:=e6 hc;rw[e1] at f1;cases f1;rw[e4] at f4;cases f4;simp[hc,Lw,f5,AV.beq]
    ·have:=hd d Ac;have:d.chk=1:=Aa;simp[this,Lw]
  ·have:=Re.run (r:=Kh ⟨i,d,v,none⟩ r) hl (λd hd'=>hd d (by simp[hd'])) e7;simpa[H3,hk] using this
 |[],[],[],_,_::_,_,_,_,_,e=>e.elim
 |_,[],_::_,_,_,_,_,_,_,e=>e.elim
 |_,_::_,[],_,_,_,_,_,_,e=>e.elim
 |_,_::_,_::_,_,[],_,_,_,_,e=>e.elim
 |_::_,[],[],_,[],_,_,h,_,_=>by simp at h
 |[],_::_,_,_,_::_,_,_,h,_,_=>by simp at h
theorem Re.early {h h1:Heap} {L L':EH}:∀{is:EF} {l:List DOp} {v0:EA} {fr:Fr} {vs:EA} {fr':Fr},is.length=l.length->Re h h1 l v0 fr vs fr'->(∀x∈mkE is l v0,L x.i=true->x.d.chk=0)->(∀i∈is,L' i=L i)->∀g,eFr L' (mkE is l vs) g=eFr L (mkE is l v0) g
 |[],[],[],_,[],_,_,_,_,_,g=>rfl
 |i::is,d::l,v0::v0s,fr,v::vs,fr',hl,e,hc,hL,g=>by
  obtain⟨_,e6,e7⟩:=e;simp only[Ap,BS] at hl;simp only[mkE,eFr,hL i Ac];rw[Re.early hl e7 (λx hx=>hc x (by simp[mkE,hx])) (λi hi=>hL i (by simp[hi]))];cases hi:L i with
  |false=>rfl
  |true=>rw[(e6 (hc ⟨i,d,v0,none⟩ (by simp[mkE]) hi)).1]
 |[],[],[],_,_::_,_,_,e,_,_,_=>e.elim
 |_,[],_::_,_,_,_,_,e,_,_,_=>e.elim
 |_,_::_,[],_,_,_,_,e,_,_,_=>e.elim
 |_,_::_,_::_,_,[],_,_,e,_,_,_=>e.elim
 |_::_,[],[],_,[],_,h,_,_,_,_=>by simp at h
 |[],_::_,_,_,_::_,_,h,_,_,_,_=>by simp at h
section
variable {P:Program} {N:Nat} {ops:Array Oper} {vs:List B3}
theorem HN:Iy P λ_ _ _=>none:=⟨λ_ _ _ _ h=>Ad,λ_ _ _ _ _ _ h=>Ad⟩
theorem LS:Gn λ_ _ _=>none:=λ_ _ _ _ _ h=>Ad
theorem LU:Hh λ_ _ _=>none:=λ_ _ _ _ _ h=>Ad
structure Z9 (P:Program) (N:Nat) (ops:Array Oper) (vs:List B3) (e1 e2:List Ev) (x0:Ev) (fr fr1:Fr) (h:Heap):Prop where
 reg:Reg P N ops vs
 idx:∀x∈e1++x0::e2,vs[x.i]?=some x.d.o/\x.d.chk=fO (Gl ops.toList) (Hn vs) x.i
 pw:(e1++x0::e2).Pairwise λx y=>x.i≠y.i/\before (Gl ops.toList) y.i x.i=false/\(y.d.o.act.kind=.effect->before (Gl ops.toList) x.i y.i=true)
 all:∀i,i<vs.length->∃x∈e1++x0::e2,x.i=i
 al:∀x∈e1++x0::e2,x.al=none
 eff:x0.d.o.act.kind=.effect
 quiet:∀x∈e1++e2,x.d.o.act.kind≠.effect
 fr1:pFr e1 fr=fr1
 run:∀p x q,e1++x0::e2=p++x::q->x.i≠x0.i->x.d.chk=0->Z7 h x.d (pFr p fr) x.v
section
variable {e1 e2:List Ev} {x0:Ev} {fr fr1:Fr} {h:Heap}
theorem Z9.QW (R:Z9 P N ops vs e1 e2 x0 fr fr1 h):∀j∈Hn vs,j=x0.i:=λj hj=>by
 obtain⟨o,ho,hk⟩:=Se.1 hj;obtain⟨x,hx,rfl⟩:=R.all j (Gi.1 ho).1;rw[(R.idx x hx).1] at ho;cases ho;rcases Av.1 hx with hx|hx;·exact absurd hk (R.quiet x (by simp[hx]))
 ·rcases Af.1 hx with rfl|hx;·rfl
  ·exact absurd hk (R.quiet x (by simp[hx]))
theorem Z9.rest (R:Z9 P N ops vs e1 e2 x0 fr fr1 h) (hcl:Clean h):Rest ops vs h.next h.next (e1++x0::e2) [] h where
 idx:=R.idx
 pw:=R.pw
 A7:=by
  have:(Hn vs).filter (λj=>decide (∀x∈e1++x0::e2,x.i≠j))=[]:=by refine Cc.2 λj hj=>?_;simp only[Bk];exact λhh=>hh x0 Ac (R.QW j hj).symm
  rw[this];simp
 kpw:=Dy λx hx y hy k b k' b' ha=>by rw[R.al x hx] at ha;cases ha
 key x hx k b ha:=by rw[R.al x hx] at ha;cases ha
 hi:=Rl
 clean:=hcl
theorem Z9.chk0 (R:Z9 P N ops vs e1 e2 x0 fr fr1 h) {L:EH} (hu:Up ops vs (e1++x0::e2) L) (hL:L x0.i=false) {x:Ev} (hx:x∈e1++x0::e2) {o:Oper} (ho:ops[x.i]?=some o) (hd:∀k∈direct o,L k=true):x.d.chk=0:=by
 rw[(R.idx x hx).2];unfold fO;have:(Hn vs).filter (λj=>before (Gl ops.toList) j x.i)=[]:=by refine Cc.2 λj hj hb=>?_;have:=hu.closed.ready R.reg.down (o:=o) (by simpa using ho) hd hb;rw[R.QW j hj,hL] at this;cases this
 rw[this];rfl
theorem zQ (R:Z9 P N ops vs e1 e2 x0 fr fr1 h) {L:EH} (hu:Up ops vs (e1++x0::e2) L) (hL:L x0.i=false) {x:Ev} (hx:x∈e1++x0::e2) (hl:L x.i=true):x.d.chk=0:=by
 rw[(R.idx x hx).2];unfold fO;have:(Hn vs).filter (λj=>before (Gl ops.toList) j x.i)=[]:=by refine Cc.2 λj hj hb=>?_;have:=hu.closed.anc R.reg.down (x.i+1) x.i Aa hb hl;rw[R.QW j hj,hL] at this;cases this
 rw[this];rfl
theorem QX (R:Z9 P N ops vs e1 e2 x0 fr fr1 h) (hop:∀p,x0.d.o.act≠.op p) (hgd:x0.d.o.guard=none) {args:EA} (hargs:G7 fr1 x0.d.o.args=some args) {f:Nat} {us:EA} (hr:x0.d.o.act.run (Z6 f us) args h=some (.unit,h)) {RR:AV->Heap->Prop} (m:MC P f us h RR)
  {K:Fr->Heap->Prop} {is:EF} {post:List DOp} {v0:EA} (he2:e2=mkE is post v0) (hlen:is.length=post.length)
  (hR:∀v h1,RR v h1->∃ws fr',Re h h1 post v0 (Fp fr1 x0.d.o.dst v) ws fr'/\K fr' h1) {O:Org} {I:List It} {Q:Exit->Act->World->Prop} (hQ:∀φ' fr' h' a' w',K0 O N φ' fr' h' I a' w'->K fr' h'->Q .normal a' w') :
  ∀(fuel:Nat) (listed:Array Bool) (φ:Emb) (a:Act) (w:World),listed.size=ops.size->Up ops vs (e1++x0::e2) (λi=>listed.getD i true)->listed.getD x0.i true=false->K0 O N φ (eFr (λi=>listed.getD i true) (e1++x0::e2) fr) h I a w ->
   todo (λi=>listed.getD i true) (e1++x0::e2)<=fuel->wpAny P .any ops Q fuel listed a w:=by
 have some_ready:∀(listed:Array Bool),listed.size=ops.size->Up ops vs (e1++x0::e2) (λi=>listed.getD i true)->listed.getD x0.i true=false->Region.ready .any ops listed≠[]:=by
  intro listed hsz hu hL hnil;have find:∀(l p:List Ev),p++l=e1++x0::e2->(∀y∈p,listed.getD y.i true=true)->False:=by
   intro l;induction l with
   |nil=>intro p hp hall;have:=hall x0 (by simp only[Ay] at hp;rw[hp];simp);rw[hL] at this;cases this
   |cons x q ih=>
    intro p hp hall;cases hx:listed.getD x.i true with
    |true=>
     refine ih (p++[x]) (by simpa using hp) λy hy=>?_;rcases Av.1 hy with hy|hy
     ·exact hall y hy
     ·rw[Ar] at hy;rw[hy];exact hx
    |false=>
     have hxm:x∈e1++x0::e2:=by rw[<-hp];simp
     have hix:=(R.idx x hxm).1;have hlt:x.i<ops.size:=by rw[<-R.reg.len];exact(Gi.1 hix).1
     have hmem:x.i∈Region.ready .any ops listed:=by
      rw[mem_ready];refine⟨hx,ops[x.i],by simp[hlt],λe he hb=>?_⟩;have hdir:=gL he hb;have hk:e.on<x.i:=R.reg.down x.i _ Ac e.on hdir;have hl:listed.getD e.on true=true:=by
       obtain⟨y,hy,hyi⟩:=R.all e.on (by rw[R.reg.len];omega);rw[<-hp] at hy;rcases Av.1 hy with hy|hy;·rw[<-hyi];exact hall y hy
       ·rcases Af.1 hy with rfl|hy;·omega
        ·have hpw:=R.pw;rw[<-hp] at hpw;obtain⟨_,hb',_⟩:=(AA.1 (Bp.1 hpw).2.1).1 y hy;have:before (Gl ops.toList) y.i x.i=true:=(Sa R.reg.down (o:=ops[x.i]) Ac).2 ⟨e.on,hdir,.inl hyi.symm⟩;rw[hb'] at this;cases this
      have hlt':e.on<listed.size:=Aa;simp only[Array.getD,hlt',dif_pos] at hl ⊢;exact hl
     rw[hnil] at hmem;cases hmem
  exact find (e1++x0::e2) [] rfl Ac
 intro fuel;induction fuel with
 |zero=>intro listed φ a w hsz hu hL r hf;exfalso;have:x0∈(e1++x0::e2).filter λx=>!(λi=>listed.getD i true) x.i:=Co.2 ⟨Ac,by simp only[hL];rfl⟩;rw[Bm.1 (Nat.le_zero.1 hf)] at this;cases this
 |succ fuel ih=>
  intro listed φ a w hsz hu hL r hf;refine⟨λhnil=>absurd hnil (some_ready listed hsz hu hL),λi hi=>?_⟩;obtain⟨h1,o,ho,hall⟩:=mem_ready.1 hi;have hlt:i<ops.size:=(AE.1 ho).1;obtain⟨x,hxm,rfl⟩:=R.all i (by rw[R.reg.len];exact hlt);have hd:∀k∈direct o,(λi=>listed.getD i true) k=true:=λk hk=>by
   obtain⟨e,he,hb,rfl⟩:=Wt hk;have:=hall e he hb;rcases DT e.on listed.size with h'|h';·simpa[h'] using this
   ·simp[Array.getElem?_eq_none h'] at this
  have hLu:(λi=>(listed.setIfInBounds x.i true).getD i true)=upL (λi=>listed.getD i true) x.i:=by
   funext j;unfold upL;by_cases hj:j=x.i;·subst hj;simp[hsz,hlt]
   ·rw[Ao hj,getD_set_ne true (BL hj)]
  have hsz':(listed.setIfInBounds x.i true).size=ops.size:=by simpa using hsz
  have hrest:=R.rest r.clean;have htd:=todo_up (L:=λi=>listed.getD i true) h1 (e1++x0::e2) hxm;have hpw:=R.pw;have hpa:=Bp.1 hpw;have hpc:=AA.1 hpa.2.1;obtain⟨vo,hvo,hc⟩:=R.reg.ok x.i o ho;rw[(R.idx x hxm).1] at hvo;cases hvo;by_cases hxe:x.i=x0.i
  ·-- the call
   have hx0:x=x0:=by
    rcases Av.1 hxm with hx|hx
    ·exact absurd hxe (hpa.2.2 x hx x0 Ac).1
    ·rcases Af.1 hx with rfl|hx
     ·rfl
     ·exact absurd hxe.symm (hpc.1 x hx).1
   subst hx0
   have hpre:∀y∈e1,listed.getD y.i true=true:=λy hy=>hu.closed.ready R.reg.down (o:=o) (by simpa using ho) hd ((hpa.2.2 y hy x Ac).2.2 R.eff)
   have hop':=operands R.reg hrest hu h1 ho hd fr
   have hfetch:G7 (eFr (λi=>listed.getD i true) (e1++x::e2) fr) x.d.o.args=some args:=by
    rw[My _ λk hk=>hop' k (Sd hk),R.fr1];exact hargs
   unfold wpOp
   simp only[ho]
   refine U9 hc hgd r.fr (HL hc hop r.fr r.sim r.clean hfetch hr m λv v' h2 φ' w' g1 g2 g3 g4 g5 g6=>?_)
   obtain⟨ws,fr',hpost,hK⟩:=hR v h2 g6
   obtain⟨hd1,hdst,_⟩:=Ie hc
   have r2:K0 O N φ' (Fp (eFr (λi=>listed.getD i true) (e1++x::e2) fr) x.d.o.dst v) h2 I (a.put o.dst v') w':=by
    rw[hdst];exact(r.step (r.fr.mono g2.le) g1 g3 g2 g4).put hd1 g5
   have hne:∀y∈e2,y.i≠x.i:=λy hy=>BL (hpc.1 y hy).1
   have his:∀i∈is,i≠x.i:=λi hi=>by
    have:=(Z8 is post v0 hlen hpost.len.2).1
    rw[<-he2] at this
    rw[<-this] at hi
    obtain⟨y,hy,rfl⟩:=Aw.1 hi
    exact hne y hy
   obtain⟨m1,m2,m3⟩:=Z8 is post ws hlen hpost.len.1
   obtain⟨n1,n2,n3⟩:=Z8 is post v0 hlen hpost.len.2
   rw[<-he2] at n1 n2
   have hfr:eFr (upL (λi=>listed.getD i true) x.i) (mkE is post ws) (Fp fr1 x.d.o.dst v)=Fp (eFr (λi=>listed.getD i true) (e1++x::e2) fr) x.d.o.dst v:=by
    rw[hpost.early (L:=λi=>listed.getD i true) hlen (λy hy hl=>?_) (λi hi=>by simp[upL,his i hi]),<-he2,Zc]
    ·congr 1
     rw[Oq]
     simp only[eFr,h1,Fj,Ag]
     congr 1
     rw[<-R.fr1]
     clear hr hpost hR r r2 hop' hfetch
     have:∀(l:List Ev) (g:Fr),(∀y∈l,listed.getD y.i true=true)->eFr (λi=>listed.getD i true) l g=pFr l g:=by
      intro l
      induction l with
      |nil=>intro g _;rfl
      |cons y l ih=>intro g hl;rw[eFr,pFr,Aj (hl y Ac)];exact ih _ λz hz=>hl z (by simp[hz])
     exact(this e1 fr hpre).symm
    ·exact λy hy _ k e=>R.reg.dst x.i y.i _ _ k (R.idx x hxm).1 (R.idx y (by simp[hy])).1 (BL (hne y hy)) e
    ·rw[<-he2] at hy
     exact zQ R hu h1 (by simp[hy]) hl
   have tr:∀y∈mkE is post ws,∃z∈e2,z.i=y.i/\z.d=y.d:=by
    intro y hy
    obtain⟨k,hk,rfl⟩:=List.mem_iff_getElem.1 hy
    have hk2:k<e2.length:=by
     have a1:=Bh List.length m1
     have a2:=Bh List.length n1
     simp only[Lm] at a1 a2
     omega
    refine⟨e2[k],AU _,?_,?_⟩
    ·have a1:(List.map (·.i) e2)[k]?=(List.map (·.i) (mkE is post ws))[k]?:=by rw[m1,n1]
     simpa[AD,hk,hk2] using a1
    ·have a1:(List.map (·.d) e2)[k]?=(List.map (·.d) (mkE is post ws))[k]?:=by rw[m2,n2]
     simpa[AD,hk,hk2] using a1
   have hrel:(mkE is post ws).Pairwise λx y=>x.i≠y.i/\before (Gl ops.toList) y.i x.i=false/\(y.d.o.act.kind=.effect->before (Gl ops.toList) x.i y.i=true):=by
    have a1:=hpc.2
    have key:∀(l:List Ev),l.Pairwise (λx y=>x.i≠y.i/\before (Gl ops.toList) y.i x.i=false/\(y.d.o.act.kind=.effect->before (Gl ops.toList) x.i y.i=true)) ↔
      (List.zip (l.map (·.i)) (l.map (·.d))).Pairwise (λx y=>x.1≠y.1/\before (Gl ops.toList) y.1 x.1=false/\(y.2.o.act.kind=.effect->before (Gl ops.toList) x.1 y.1=true)):=by
     intro l
     rw[List.zip_map',CZ]
    rw[key,m1,m2]
    rw[key,n1,n2] at a1
    exact a1
   refine mG (lo:=h2.next) (hi:=h2.next) (φ0:=φ') (g0:=h2.get) (w0:=w') (call:=λ_ _ _=>none) HN LS LU R.reg (fr':=fr') (h':=h2) (λa2 w2 φ2 f2 s2 x2=>hQ φ2 fr' h2 a2 w2 (r2.step f2 s2 r2.clean x2 (Qn.refl _)) hK)
    fuel _ (mkE is post ws) h2.next [h] (Fp fr1 x.d.o.dst v) h2 φ' _ w' hsz' ?_ ?_ (hpost.run hlen ?_) ?_ ?_
   ·refine⟨λy hy=>?_,hrel,?_,Dy λy hy z hz k b k' b' ha=>(by rw[m3 y hy] at ha;cases ha),λy hy k b ha=>(by rw[m3 y hy] at ha;cases ha),Rl,r2.clean⟩
    ·obtain⟨z,hz,z1,z2⟩:=tr y hy
     have:=R.idx z (by simp[hz])
     rw[z1,z2] at this;exact this
    ·have:=Mk (p:=λj=>decide (∀y∈mkE is post ws,y.i≠j)) (q:=λ_=>false) (c:=x.i) (Hn vs) (Sf vs) λj hj _ hjc=>absurd (R.QW j hj) hjc
     rw[show(Hn vs).filter (λ_=>false)=[] from Cc.2 Ac] at this
     exact this
   ·rw[hLu]
    refine⟨λi hi hn=>?_,λy hy _=>?_,bB hu.closed ho hd⟩
    ·obtain⟨z,hz,rfl⟩:=R.all i hi
     unfold upL
     split
     ·rfl
     ·next hzx=>
      rcases Av.1 hz with hz|hz
      ·exact hpre z hz
      ·rcases Af.1 hz with rfl|hz
       ·exact absurd rfl hzx
       ·exfalso
        have:z.i∈(mkE is post ws).map (·.i):=by rw[m1,<-n1];exact Aw.2 ⟨z,hz,rfl⟩
        obtain⟨y,hy,hyi⟩:=Aw.1 this
        exact hn y hy hyi
    ·obtain⟨z,hz,_,z2⟩:=tr y hy
     rw[<-z2];exact R.quiet z (by simp[hz])
   ·intro d hd'
    have:d∈e2.map (·.d):=by rw[n2];exact hd'
    obtain⟨z,hz,rfl⟩:=Aw.1 this
    rw[(R.idx z (by simp[hz])).2]
    unfold fO
    have t1:=Mk (p:=λj=>before (Gl ops.toList) j z.i) (q:=λ_=>false) (c:=x.i) (Hn vs) (Sf vs) λj hj _ hjc=>absurd (R.QW j hj) hjc
    rw[show(Hn vs).filter (λ_=>false)=[] from Cc.2 Ac] at t1
    exact t1
   ·rw[hLu]
    have hall:∀l:List Ev,(∀y∈l,y.al=none)->∀(L:EH) (g:Heap),E0 L l g=g:=by
     intro l
     induction l with
     |nil=>intro _ L g;rfl
     |cons y l ih=>
      intro hl L g
      rw[E0]
      have:y.put g=g:=by simp only[Ev.put,hl y Ac]
      rw[this]
      split<;>exact ih (λz hz=>hl z (by simp[hz])) L g
    refine⟨by rw[hfr];exact r2.fr,?_,?_,λy hy _ k b ha=>by rw[m3 y hy] at ha;cases ha⟩
    ·rw[hall _ m3];exact r2.sim
    ·rw[hall _ m3];exact Ext.refl _ _ _ _
   ·rw[hLu]
    have a1:todo (upL (λi=>listed.getD i true) x.i) (mkE is post ws)<=todo (upL (λi=>listed.getD i true) x.i) (e1++x::e2):=by
     unfold todo
     have:∀l:List Ev,(l.filter λy=>!upL (λi=>listed.getD i true) x.i y.i).length=((l.map (·.i)).filter λi=>!upL (λi=>listed.getD i true) x.i i).length:=by
      intro l
      rw[List.filter_map,Lm];rfl
     rw[this (mkE is post ws),m1,<-n1,<-this e2,List.filter_append,BZ,La]
     split<;>simp<;>omega
    omega
  ·-- one that looks
   obtain⟨p,q,hpq⟩:=Dr hxm
   have hck:=R.chk0 hu hL hxm ho hd
   obtain⟨op,az,b1,b2,b3,b4,b5⟩:=R.run p x q hpq hxe hck
   have hkx:x.d.o.act.kind≠.effect:=by rw[b1];show op.kind≠.effect;rw[b2];simp
   have hop':=by
    have:=operands (pre:=p) (post:=q) (x:=x) R.reg (by rw[<-hpq];exact hrest) (by rw[<-hpq];exact hu) h1 ho hd fr
    exact this
   rw[<-hpq] at hop'
   have hfetch:G7 (eFr (λi=>listed.getD i true) (e1++x0::e2) fr) x.d.o.args=some az:=by
    rw[My _ λk hk=>hop' k (Sd hk)];exact b4
   unfold wpOp
   simp only[ho]
   refine Ze (ops:=ops) (call:=λ_ _ _=>none) HN hc (φ:=φ) (h:=h) (h':=h) (nx:=h.next.toNat) (v:=x.v) r.fr r.sim (r.sim.fresh _ Rl) (λhn=>absurd b1 (hn op)) (.inl ⟨by rw[b3];rfl,az,hfetch,by rw[b1];exact b5⟩) ?_
   intro a' w' φ' s1 x1 f1
   have hFr:eFr (upL (λi=>listed.getD i true) x.i) (e1++x0::e2) fr=Fp (eFr (λi=>listed.getD i true) (e1++x0::e2) fr) x.d.o.dst x.v:=by
    rw[hpq] at hpw ⊢
    have hpa:=Bp.1 hpw
    have hpc:=AA.1 hpa.2.1
    have hne:∀y∈p++q,y.i≠x.i:=by
     intro y hy
     rcases Av.1 hy with hy|hy
     ·exact(hpa.2.2 y hy x Ac).1
     ·exact BL (hpc.1 y hy).1
    exact GG h1 hne λy hy k e=>R.reg.dst x.i y.i _ _ k (R.idx x hxm).1 (R.idx y (by rw[hpq];simp[hy])).1 (BL (hne y (by simp[hy]))) e
   refine ih _ φ' a' w' hsz' (by rw[hLu];exact hu.up hrest hxm hkx ho hd) ?_ ?_ (by rw[hLu];omega)
   ·rw[getD_set_ne true hxe];exact hL
   ·rw[hLu,hFr]
    exact r.step f1 (s1 _ Rl Rl) r.clean x1 (Qn.refl _)
end
theorem MX.open (hm:P.follows .mixedOrders=true) {id:Nat} {pre post:List DOp} {X:DOp} (hds:Mh P N ops true=some (.drawn (pre++X::post))) (hk:X.o.act.kind=.effect) (hop:∀p,X.o.act≠.op p) (hgd:X.o.guard=none)
  {fr fr1:Fr} {h:Heap} {vp:EA} (h1:Wn h pre fr vp fr1) {args:EA} (hargs:G7 fr1 X.o.args=some args) {f:Nat} {us:EA} (hr:X.o.act.run (Z6 f us) args h=some (.unit,h)) {RR:AV->Heap->Prop} (m:MC P f us h RR)
  {v0:EA} (hE:QE h post (Fp fr1 X.o.dst .unit) v0) {K:Fr->Heap->Prop} (hR:∀v h1,RR v h1->∃ws fr',Re h h1 post v0 (Fp fr1 X.o.dst v) ws fr'/\K fr' h1) {I:List It} {Q:MQ} (hQ:∀fr' h',K fr' h'->Q .normal fr' h' I) :
  MX P N (.region id ops true) fr h I Q:=λO φ w a r=>by
 obtain⟨vs,ord,hv,hok,hd⟩:=Wv hds;obtain⟨hreg,hall,hpw⟩:=OA hv hok;obtain⟨hlen,hspec⟩:=Uh ord hd;obtain⟨o1,j,o2,rfl,hl1,hl2⟩:∃o1 j o2,ord=o1++j::o2/\o1.length=pre.length/\o2.length=post.length:=by
  simp only[La,Ap] at hlen;have hdl:(ord.drop pre.length).length=post.length+1:=by simp;omega
  cases hdr:ord.drop pre.length with
  |nil=>rw[hdr] at hdl;simp at hdl
  |cons j o2=>
   refine⟨ord.take pre.length,j,o2,?_,by simp;omega,?_⟩;·rw[<-hdr];simp
   ·rw[hdr] at hdl;simpa using hdl
 have hevs:=HM o1 pre vp (j:=j) (o2:=o2) (X:=X) (post:=post) (u:=.unit) (v0:=v0) hl1 h1.len;obtain⟨m1,m2,m3⟩:=Z8 (o1++j::o2) (pre++X::post) (vp++.unit::v0) hlen (by simp[h1.len,hE.len]);rw[hevs] at m1 m2 m3;obtain⟨q1,q2⟩:=h1.at hl1;have q3:=hE.at (is:=o2) hl2;have papp:∀(x y:List Ev) (g:Fr),pFr (x++y) g=pFr y (pFr x g):=by
  intro x;induction x with
  |nil=>intro y g;rfl
  |cons z x ih=>intro y g;exact ih y _
 have R:Z9 P N ops vs (mkE o1 pre vp) (mkE o2 post v0) ⟨j,X,.unit,none⟩ fr fr1 h:=by
  refine⟨hreg,hspec _ m1 m2,?_,λi hi=>?_,m3,hk,λx hx=>?_,q1,λp x q hpq hne hc=>?_⟩;·rw[<-m1,CZ] at hpw;refine List.Pairwise.imp_of_mem (λ{x y} hx hy hxy=>?_) hpw;refine⟨hxy.1,hxy.2.1,λhe=>hxy.2.2 ?_⟩;unfold sT;rw[(hspec _ m1 m2 y hy).1];simpa using he
  ·have:=hall i hi;rw[<-m1] at this;obtain⟨x,hx,e⟩:=Aw.1 this;exact⟨x,hx,e⟩
  ·rcases Av.1 hx with hx|hx;·obtain⟨p,q,hpq⟩:=Dr hx;obtain⟨o,_,e1,e2,_⟩:=q2 p x q hpq;rw[e1];show o.kind≠.effect;rw[e2];simp
   ·obtain⟨p,q,hpq⟩:=Dr hx;obtain⟨⟨o,e1,e2⟩,_⟩:=q3 p x q hpq;rw[e1];show o.kind≠.effect;rw[e2];simp
  ·rcases List.append_eq_append_iff.1 hpq with⟨c,hc1,hc2⟩|⟨c,hc1,hc2⟩
   ·cases c with
    |nil=>simp only[Bw,BG] at hc2;rw[<-hc2.1] at hne;exact absurd rfl hne
    |cons y c=>simp only[AH,BG] at hc2;obtain⟨rfl,hc2⟩:=hc2;rw[hc1,papp,q1];exact(q3 c x q hc2).2 hc
   ·cases c with
    |nil=>simp only[Bw,BG] at hc2;rw[hc2.1] at hne;exact absurd rfl hne
    |cons y c=>simp only[AH,BG] at hc2;obtain⟨rfl,_⟩:=hc2;exact q2 p _ c hc1
 refine wp_region_any hm ?_;have hno:∀x∈mkE o1 pre vp++⟨j,X,.unit,none⟩::mkE o2 post v0,(Array.replicate ops.size false).getD x.i true=false:=λx hx=>by have:x.i<vs.length:=(Gi.1 (hspec _ m1 m2 x hx).1).1;rw[hreg.len] at this;simp[this]
 refine QX R hop hgd hargs hr m rfl hl2 hR (O:=O) (I:=I) (λφ' fr' h' a' w' r' k=>⟨.normal,fr',h',I,φ',Ae,r',hQ fr' h' k⟩) ops.size _ φ a _ Ac ⟨λi hi hn=>?_,λx hx hl=>?_,λk o ho hl=>?_⟩ (hno ⟨j,X,.unit,none⟩ Ac) ?_ ?_;·obtain⟨x,hx,hxi⟩:=R.all i hi;exact absurd hxi (hn x hx)
 ·rw[hno x hx] at hl;cases hl
 ·have hlt:k<ops.size:=by simpa using(Gi.1 ho).1
  simp[hlt] at hl
 ·rw[gN _ _ hno];exact r.world rfl rfl rfl
 ·unfold todo;refine AQ (DD _ _) ?_;have g1:(mkE o1 pre vp++⟨j,X,.unit,none⟩::mkE o2 post v0).length=(o1++j::o2).length:=by rw[<-m1];simp
  rw[g1];refine Hc ops.size _ (hpw.imp λh=>h.1) λi hi=>?_;rw[<-m1] at hi;obtain⟨x,hx,rfl⟩:=Aw.1 hi;rw[<-hreg.len];exact(Gi.1 (hspec _ m1 m2 x hx).1).1
end
end Go.Vm
end
section
noncomputable section
namespace Go.Pv
open Go.Vm
open Go.Vm.Key (kn)
set_option maxRecDepth 40000
set_option maxHeartbeats 0
structure PF (P:Program) (F:D5):Prop where
 mix:P.follows .mixedOrders=true
 fs:∀f vf,F f=some vf->Jf P f=some vf
 ora:Ui P noO
structure PIt where
 k:Key
 ks:Ey
 vs:Ey
 seen:EF
structure ItR (Z:ZM) (p:Ren) (x:PIt) (i:It):Prop where
 k:p x.k=some i.b
 m:A8 Z (.mp x.ks x.vs) (.map i.mp)
 n:i.n=x.ks.length
 s:i.seen=x.seen
theorem ItR.mono {Z Z':ZM} {p p':Ren} (hz:ZLe Z Z') (hp:PLe p p') {x:PIt} {i:It} (h:ItR Z p x i):ItR Z' p' x i:=⟨hp _ _ h.k,h.m.mono hz,h.n,h.s⟩
theorem qQ {s s':Sta} (hs:Good s) (hs':Good s') (e:E1 s.g.next.toNat s.h.next.toNat s s'):Qn s.h s'.h:=λb hb hn=>by
 by_cases hp:∃k,s.p k=some b
 ·obtain⟨k,hk⟩:=hp;cases hg:s.g.get k with
  |some x=>obtain⟨b',y,h1,h2,_⟩:=hs.blk k x hg;rw[hk] at h1;cases h1;rw[hn] at h2;cases h2
  |none=>exact hs'.dead k b (e.ple k b hk) (e.gone k b hk hg)
 ·rw[e.frame b hb λk hk=>hp ⟨k,hk⟩];exact hn
abbrev PQT:=Fk->Fm->A0->List PIt->Prop
def PQ (s0:Sta) (Q:PQT):MQ:=λx fr' h' IV'=>∃Z' p' g' L' I',Good ⟨Z',p',g',h'⟩/\E1 s0.g.next.toNat s0.h.next.toNat s0 ⟨Z',p',g',h'⟩/\FRL Z' p' L' fr'/\A1 (ItR Z' p') I' IV'/\Q x L' g' I'
def PX (P:Program) (lo:Nat) (cd:B7) (L:Fm) (g:A0) (I:List PIt) (Q:PQT):Prop:=∀N c,D7 P N c=some cd->∀s0 s:Sta,Good s0->s0.g.next.toNat<=lo->Good s->E1 s0.g.next.toNat s0.h.next.toNat s0 s->s.g=g ->
 ∀fr1:Fr,FRL s.Z s.p L fr1->∀IV,A1 (ItR s.Z s.p) I IV->MX P N c fr1 s.h IV (PQ s0 Q)
def PXL (P:Program) (lo:Nat) (l:List B3) (L:Fm) (g:A0) (I:List PIt) (K:Fm->A0->List PIt->Prop):Prop:=∀N ops l',Gw P N ops l'=some l->∀s0 s:Sta,Good s0->s0.g.next.toNat<=lo->Good s->E1 s0.g.next.toNat s0.h.next.toNat s0 s->s.g=g ->
 ∀fr1:Fr,FRL s.Z s.p L fr1->∀IV,A1 (ItR s.Z s.p) I IV->MXL P N ops l' fr1 s.h IV (PQ s0 (λ_=>K) .normal)
def PXC (P:Program) (f:Nat) (args:Ez) (g:A0) (R:PA->A0->Prop):Prop:=∀s:Sta,Good s->s.g=g->∀vs:EA,A1 (AR s.Z s.p) args vs ->
 MC P f vs s.h λu h'=>∃Z' p' r g',Good ⟨Z',p',g',h'⟩/\E1 s.g.next.toNat s.h.next.toNat s ⟨Z',p',g',h'⟩/\AR Z' p' r u/\R r g'
section
variable {P:Program} {F:D5} {pu:EH} {lo:Nat} {L:Fm} {g:A0} {I:List PIt}
theorem PX.mono {cd:B7} {Q Q':PQT} (m:PX P lo cd L g I Q) (hq:∀x L g I,Q x L g I->Q' x L g I):PX P lo cd L g I Q':=λN c hc s0 s h0 hlo hs he hg fr1 hf IV hI=>
 (m N c hc s0 s h0 hlo hs he hg fr1 hf IV hI).mono λ_ _ _ _ ⟨Z',p',g',L',I',h1,h2,h3,h4,h5⟩=>⟨Z',p',g',L',I',h1,h2,h3,h4,hq _ _ _ _ h5⟩
theorem PXC.mono {f:Nat} {args:Ez} {R R':PA->A0->Prop} (m:PXC P f args g R) (hr:∀r g',R r g'->R' r g'):PXC P f args g R':=λs hs hg vs hv=>
 (m s hs hg vs hv).mono λ_ _ ⟨Z',p',r,g',h1,h2,h3,h4⟩=>⟨Z',p',r,g',h1,h2,h3,hr _ _ h4⟩
theorem PX.AcB (pf:PF P F) {cd:B7} {Q:PQT} (h:XW F g.next.toNat cd L g λx L' g'=>Q x L' g' I):PX P lo cd L g I Q:=by intro N c hc s0 s h0 hlo hs he hg fr1 hf IV hI;subst hg;obtain⟨n,x,fr1',h',Z',p',g',L',e,h2,h3,h4,h5⟩:=h s s hs (Rl) hs (E1.refl _ _ _) rfl fr1 hf;exact MX.run pf.mix pf.fs pf.ora hc e (qQ hs h2 h3) ⟨Z',p',g',L',I,h2,he.trans h0.toGu h3 he.nx.1 he.nx.2,h4,A9 hI λ_ _ hi=>hi.mono h3.zle h3.ple,h5⟩
theorem PX.wp (pf:PF P F) {cd:B7} {Q:PQT} (h:wp F pu g.next.toNat cd L g λx L' g'=>Q x L' g' I):PX P lo cd L g I Q:=PX.AcB pf (Q9 cd h)
theorem PX.seq {a b:B7} {Q:PQT} (m:PX P lo a L g I λx L g I=>match x with
  |.normal=>PX P lo b L g I Q
  |.exit i=>Q (.exit i) L g I
  |.ret=>Q .ret L g I):PX P lo (.seq a b) L g I Q:=by
 intro N c hc s0 s h0 hlo hs he hg fr1 hf IV hI
 obtain⟨c1,c2,rfl,e1,e2⟩:=QV hc
 refine MX.seq ((m N c1 e1 s0 s h0 hlo hs he hg fr1 hf IV hI).mono ?_)
 rintro x fr h IV' ⟨Z',p',g',L',I',h1,h2,h3,h4,h5⟩
 cases x with
 |normal=>exact h5 N c2 e2 s0 ⟨Z',p',g',h⟩ h0 hlo h1 h2 rfl fr h3 IV' h4
 |exit i=>exact⟨Z',p',g',L',I',h1,h2,h3,h4,h5⟩
 |ret=>exact⟨Z',p',g',L',I',h1,h2,h3,h4,h5⟩
theorem PX.cond {v:VX} {a b:B7} {Q:PQT} {y:FE} {d:Bool} (hy:cZ L v=some y) (hp:y.pa=.v (.s (.bool d))) (ha:d=true->PX P lo a L g I Q) (hb:d=false->PX P lo b L g I Q):PX P lo (.cond v a b) L g I Q:=by
 intro N c hc s0 s h0 hlo hs he hg fr1 hf IV hI;obtain⟨o,c1,c2,rfl,e0,e1,e2⟩:=LQ hc;have ev:v.eval fr1=some (.v (.s (.bool d))):=by obtain⟨u,h1,hu⟩:=Uo hf (iO (Ha L) hy);rw[hp] at hu;obtain⟨z,rfl,hz⟩:=hu.s;cases A8.Zg hz;exact h1
 refine MX.cond e0 ev ?_;cases d with
 |true=>exact ha rfl N c1 e1 s0 s h0 hlo hs he hg fr1 hf IV hI
 |false=>exact hb rfl N c2 e2 s0 s h0 hlo hs he hg fr1 hf IV hI
theorem PX.block {id:Nat} {a:B7} {Q:PQT} (m:PX P lo a L g I λx L g I=>match x with
  |.exit j=>match Nat.beq j id with
   |true=>Q .normal L g I
   |false=>Q (.exit j) L g I
  |.normal=>Q .normal L g I
  |.ret=>Q .ret L g I):PX P lo (.block id a) L g I Q:=by
 intro N c hc s0 s h0 hlo hs he hg fr1 hf IV hI
 obtain⟨c1,rfl,e1⟩:=zO hc
 refine MX.block ((m N c1 e1 s0 s h0 hlo hs he hg fr1 hf IV hI).mono ?_)
 rintro x fr h IV' ⟨Z',p',g',L',I',h1,h2,h3,h4,h5⟩
 cases x with
 |normal=>exact⟨Z',p',g',L',I',h1,h2,h3,h4,h5⟩
 |exit i=>
  simp only at h5 ⊢
  split at h5
  ·next hb=>rw[Aj (CX hb)];exact⟨Z',p',g',L',I',h1,h2,h3,h4,h5⟩
  ·next hb=>rw[Ao λe=>by subst e;rw[Nat.beq_refl] at hb;cases hb];exact⟨Z',p',g',L',I',h1,h2,h3,h4,h5⟩
 |ret=>exact⟨Z',p',g',L',I',h1,h2,h3,h4,h5⟩
def ItN (ρ:EC) (x y:PIt):Prop:=ρ x.k=some y.k/\x.ks=y.ks/\x.vs=y.vs/\x.seen=y.seen
theorem ItN.rel {ρ:EC} {Z:ZM} {p:Ren}:∀{I2 I1:List PIt} {IV:List It},A1 (ItN ρ) I2 I1->A1 (ItR Z p) I1 IV->A1 (ItR Z (Ren.via ρ p)) I2 IV
 |[],[],[],.nil,.nil=>.nil
 |x::_,y::_,_::_,.cons h1 h2,.cons e1 e2=>by obtain⟨a1,a2,a3,a4⟩:=h1;exact .cons ⟨by rw[Qk a1];exact e1.k,by rw[a2,a3];exact e1.m,by rw[a2];exact e1.n,by rw[a4];exact e1.s⟩ (ItN.rel h2 e2)
theorem PX.trim {cd:B7} {L2:Fm} {g2:A0} {I2:List PIt} {Q:PQT} {ρ:EC} (t:Trim lo ρ L g L2 g2) (ti:A1 (ItN ρ) I2 I) (h:PX P lo cd L2 g2 I2 Q):PX P lo cd L g I Q:=by intro N c hc s0 s h0 hlo hs he hg fr1 hf IV hI;subst hg;exact h N c hc s0 ⟨s.Z,Ren.via ρ s.p,g2,s.h⟩ h0 hlo (t.Ij hs) (t.ext hs h0 hlo he) rfl fr1 (t.frl hf) IV (ItN.rel ti hI)
theorem qR {Z:ZM} {p:Ren}:∀{a b:List PIt} {m:List It},A1 (ItR Z p) (a++b) m->∃m1 m2,m=m1++m2/\A1 (ItR Z p) a m1
 |[],_,m,_=>⟨[],m,rfl,.nil⟩
 |x::a,b,_,.cons h1 h2=>by obtain⟨m1,m2,e,h3⟩:=qR h2;exact⟨_::m1,m2,by rw[e];rfl,.cons h1 h3⟩
theorem PX.drop {cd:B7} {I2:List PIt} {Q:PQT} (h:PX P lo cd L g I Q):PX P lo cd L g (I++I2) Q:=by intro N c hc s0 s h0 hlo hs he hg fr1 hf IV hI;obtain⟨m1,m2,rfl,h1⟩:=qR hI;exact MX.drop (List.sublist_append_left ..) (h N c hc s0 s h0 hlo hs he hg fr1 hf m1 h1)
theorem PX.B6 {cd:B7} {Q:PQT} {σ:Type} (m:σ->Nat) (J:σ->Fm) (H:σ->A0->Prop) (T:σ->List PIt) (s:σ) {ρ:EC} {g0:A0} (t:Trim lo ρ L g (J s) g0) (ti:A1 (ItN ρ) (T s) I) (hH:H s g0)
  (hr:∀s g,H s g->PX P lo cd (J s) g (T s) λx L1 g1 I1=>match x with
   |.normal=>∃s' ρ g2 Ia Ib,m s'<m s/\Trim lo ρ L1 g1 (J s') g2/\I1=Ia++Ib/\A1 (ItN ρ) (T s') Ia/\H s' g2
   |.exit i=>Q (.exit i) L1 g1 I1
   |.ret=>Q .ret L1 g1 I1):PX P lo (.loop cd) L g I Q:=by
 refine PX.trim t ti ?_
 intro N c hc s0 s1 h0 hlo hs he hg fr1 hf IV hI
 obtain⟨c1,rfl,e1⟩:=LR hc
 subst hg
 refine MX.loop m (λa fr h IV=>∃Z p g,Good ⟨Z,p,g,h⟩/\E1 s0.g.next.toNat s0.h.next.toNat s0 ⟨Z,p,g,h⟩/\FRL Z p (J a) fr/\(∃Va Vb,IV=Va++Vb/\A1 (ItR Z p) (T a) Va)/\H a g) ?_ (m s+1) s (AI _) fr1 s1.h IV ⟨s1.Z,s1.p,s1.g,hs,he,hf,⟨IV,[],Ac,hI⟩,hH⟩
 rintro a fr h IV ⟨Z,p,g,k1,k2,k3,⟨Va,Vb,rfl,k4⟩,k5⟩
 refine MX.drop (List.sublist_append_left Va Vb) ?_
 refine(hr a g k5 N c1 e1 s0 ⟨Z,p,g,h⟩ h0 hlo k1 k2 rfl fr k3 Va k4).mono ?_
 rintro x fr' h' IV' ⟨Z',p',g',L',I',h1,h2,h3,h4,h5⟩
 cases x with
 |normal=>
  obtain⟨s',ρ,g2,Ia,Ib,a1,a2,rfl,a3,a4⟩:=h5
  obtain⟨m1,m2,rfl,h6⟩:=qR h4
  exact⟨s',a1,Z',Ren.via ρ p',g2,a2.Ij h1,a2.ext h1 h0 hlo h2,a2.frl h3,⟨m1,m2,rfl,ItN.rel a3 h6⟩,a4⟩
 |exit i=>exact⟨Z',p',g',L',I',h1,h2,h3,h4,h5⟩
 |ret=>exact⟨Z',p',g',L',I',h1,h2,h3,h4,h5⟩
theorem PX.region {l:List B3} {Q:PQT} (m:PXL P lo l L g I (Q .normal)):PX P lo (.region l) L g I Q:=by intro N c hc s0 s h0 hlo hs he hg fr1 hf IV hI;obtain⟨id,ops,rfl,e⟩:=vY hc;exact MX.region (m N ops _ e s0 s h0 hlo hs he hg fr1 hf IV hI)
theorem PXL.nil {K:Fm->A0->List PIt->Prop} (hk:K L g I):PXL P lo [] L g I K:=by
 intro N ops l' hl s0 s h0 hlo hs he hg fr1 hf IV hI;cases l' with
 |nil=>subst hg;exact MXL.nil ⟨s.Z,s.p,s.g,L,I,hs,he,hf,hI,hk⟩
 |cons o l'=>
  unfold Gw at hl;split at hl;·split at hl<;>cases hl
  ·cases hl
theorem PXL.run (pf:PF P F) {l1 l2:List B3} {K:Fm->A0->List PIt->Prop} (h:wpOps F pu l1 L g λL' g'=>PXL P lo l2 L' g' I K):PXL P lo (l1++l2) L g I K:=by
 intro N ops l' hl s0 s h0 hlo hs he hg fr1 hf IV hI;subst hg;obtain⟨a,b,rfl,e1,e2⟩:=jM hl;obtain⟨n,fr1',h',Z',p',g',L',e,h2,h3,h4,h5⟩:=Ox l1 h hs rfl hf;have hE:=Q4 (F:=F) pf.ora.nice pf.ora.Zf;exact MXL.runs (gS pf.mix pf.fs pf.ora n) (Q3 (Oo pf.ora.Zf (hE n))) e1 e (qQ hs h2 h3)
  (h5 N ops b e2 s0 ⟨Z',p',g',h'⟩ h0 hlo h2 (he.trans h0.toGu h3 he.nx.1 he.nx.2) rfl fr1' h4 IV (A9 hI λ_ _ hi=>hi.mono h3.zle h3.ple))
theorem PXL.split (n:Nat) (pf:PF P F) {l:List B3} {K:Fm->A0->List PIt->Prop} (h:wpOps F pu (l.take n) L g λL' g'=>PXL P lo (l.drop n) L' g' I K):PXL P lo l L g I K:=by
 have:=PXL.run pf h
 rwa [Be] at this
end
abbrev Ei{P F}(pu){lo L g I}:=@PX.wp P F pu lo L g I
theorem Eh{P:Program}{F:D5}(pu:EH){lo:Nat}{L:Fm}{g:A0}{I:List PIt}(pf:PF P F){a b:B7}{Q:PQT}(h:wp F pu g.next.toNat a L g λx L g=>match x with
  |.normal=>PX P lo b L g I Q
  |.exit i=>Q (.exit i) L g I
  |.ret=>Q .ret L g I):PX P lo (.seq a b) L g I Q:=PX.seq (PX.wp (pu:=pu) pf h)
theorem Yp{P:Program}{F:D5}(pu:EH){lo:Nat}{L:Fm}{g:A0}{I:List PIt}(pf:PF P F){cd:B7}{Q:PQT}{A:Prop}(c:A)(h:Bx A->wp F pu g.next.toNat cd L g λx L g=>Q x L g I:=by (intro c;(repeat' (try conv => whnf) <;> first | (refine ⟨λh => ?_, λh => ?_⟩ <;> first | exact I9 h | exact Jr h | exact absurd (B0 h) (by omega) | exact absurd (B5 h) (by omega) | replace h := B0 h | replace h := B5 h | skip) | refine ⟨(by omega : _ /\ _), ?_⟩ | refine ⟨_, ⟨by omega, by assumption⟩, ?_⟩ | refine ⟨_, ⟨by omega, rfl⟩, ?_⟩ | refine ⟨_, _, _, (rfl : Fw _ _ _ = _), by assumption, ?_⟩ | refine ⟨_, _, _, Fi (by repeat' first | exact trivial | refine ⟨?_, ?_⟩ | exact Fv _ _ | (show Hl _; assumption) | fail), by assumption, ?_⟩ | refine ⟨(by omega : _ ≠ _), ?_⟩ | refine ⟨_, _, (rfl : opP _ _ _ = _), ?_⟩ | exact ⟨_, (rfl : G4 _ _ _ = _)⟩ | fail);exact c.o)):PX P lo cd L g I Q:=PX.wp (pu:=pu) pf (h ⟨c⟩)
theorem Yq{P:Program}{F:D5}(pu:EH){lo:Nat}{L:Fm}{g:A0}{I:List PIt}(pf:PF P F){a b:B7}{Q:PQT}{A:Prop}(c:A)(h:Bx A->wp F pu g.next.toNat a L g λx L g=>match x with
  |.normal=>PX P lo b L g I Q
  |.exit i=>Q (.exit i) L g I
  |.ret=>Q .ret L g I:=by (intro c;(repeat' (try conv => whnf) <;> first | (refine ⟨λh => ?_, λh => ?_⟩ <;> first | exact I9 h | exact Jr h | exact absurd (B0 h) (by omega) | exact absurd (B5 h) (by omega) | replace h := B0 h | replace h := B5 h | skip) | refine ⟨(by omega : _ /\ _), ?_⟩ | refine ⟨_, ⟨by omega, by assumption⟩, ?_⟩ | refine ⟨_, ⟨by omega, rfl⟩, ?_⟩ | refine ⟨_, _, _, (rfl : Fw _ _ _ = _), by assumption, ?_⟩ | refine ⟨_, _, _, Fi (by repeat' first | exact trivial | refine ⟨?_, ?_⟩ | exact Fv _ _ | (show Hl _; assumption) | fail), by assumption, ?_⟩ | refine ⟨(by omega : _ ≠ _), ?_⟩ | refine ⟨_, _, (rfl : opP _ _ _ = _), ?_⟩ | exact ⟨_, (rfl : G4 _ _ _ = _)⟩ | fail);exact c.o)):PX P lo (.seq a b) L g I Q:=PX.seq (PX.wp (pu:=pu) pf (h ⟨c⟩))
end Go.Pv
end
