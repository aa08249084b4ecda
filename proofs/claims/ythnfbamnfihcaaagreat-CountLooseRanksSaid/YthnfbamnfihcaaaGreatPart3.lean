/- A part of the proof that the law CountLooseRanks answers true. No condition. -/
import Derived.Test.YthnfbamnfihcaaaGreatPart1
import Derived.Test.YthnfbamnfihcaaaGreatPart2
import Derived.Test.YthnfbamnfihcaaaGreatMade
set_option linter.unusedVariables false
set_option linter.unusedSimpArgs false
set_option linter.unusedSectionVars false
set_option linter.unnecessarySimpa false
section
noncomputable section
namespace Go.Pv
open Go.Vm Go.Vm.C
open Go.Vm.Key (kn)
set_option maxRecDepth 10000
set_option maxHeartbeats 0
def UJ:Nat→Key
 |0=>k7
 |1=>k15
 |2=>k20
 |_=>k25
def XG:Nat→Key
 |0=>k11
 |1=>k16
 |2=>k21
 |_=>k26
theorem node1 (x:TC) (T:Nat→List Tre) {i:Nat} {n:Nd} {l1:List Nat} (D:I8) (hc:x.c<4) (hlf:x.f.ns.length≤4) (hi:i<x.f.ns.length) (hla:x.al.length=x.f.ns.length) (hn:(x.f.ns.map nV)[(i:Int).toNat]?=some (nC n)) (nL:n.az.length≤3) (hal:∀a∈n.az,a.ks.length≤2∧(∀k∈a.ks,k<i)∧a.d<16)
  (o:List Tre) (bc:List PV) (t:Tre) (htl:t.length<100000) (ht:t≠[]) (hbc:∀v∈bc,Ae v) (hB:∀a∈n.az,t.length+1+(a.ks.map sz).sum+cap [l1]≤1000) (hlen:o.length+(Cd x T [l1] t n.az).length≤x.mo) (hk:∀a∈n.az,Oa x T [l1] a.ks) :
  XC Fn 73 [iA i,.v (.s (tV t)),.v (.s (cV 1)),.v (.s (.ptr k0 0)),.v (.s (.ptr k1 0)),.v (.s (.ptr k3 0)),.v (.s (.ptr k5 0))] (mkH (hT x o bc [l1]) k10) fun r g=>r=bA true∧cS x o bc [l1] (Cd x T [l1] t n.az) g:=by
 have nlen:(n.az.map aV).length=n.az.length:=Lm ..
 have hlen0:(x.f.ns.map nV).length=x.f.ns.length:=Lm ..
 have ocn1:=Bh o
 have ocn:=fun u=>Bh (o++u)
 have tnk:Ae (tV t):=Ar _ _
 refine XC.of (pu:=pt) (vf:=C.f73) rfl ?_
 refine Yw1 ?_
 refine XW.A7 (pu:=pt) (σ:=Nat×Nat) (fun q=>n.az.length-q.1) (fun q=>[(k0,.v (iA i)),(k1,.v (.v (.s (tV t)))),(k2,.v (.v (.s (cV 1)))),(k3,.v (.v (.s (.ptr k0 0)))),(k4,.v (.v (.s (.ptr k1 0)))),(k5,.v (.v (.s (.ptr k3 0)))),(k6,.v (.v (.s (.ptr k5 0)))),(k11,.v (.v (.s (.ptr k10 0)))),(k21,.v (PA.lst 4 (n.az.map aV))),(k22,.v (iA (n.az.map aV).length)),(k23,.v (iA q.1))])
  (fun q g=>q.1≤n.az.length∧q.2≤q.1∧((q.2=0∧Cd x T [l1] t (n.az.take q.1)=[]∧g=mkH (hG x (ob [ouV o]) (ouB o bc) [l1] [(k10,obl (nC n) [(0,5)])]) k11)∨(q.2≠0∧Cd x T [l1] t (n.az.take q.1)≠[]∧∃l6 c7,(∀v∈c7,Ae v)∧g=mkH (hG x (obl [.slice (UJ q.2) 0 (o++Cd x T [l1] t (n.az.take q.1)).length 1 none] l6) ⟨.cells c7,false,false,[],[]⟩ [l1] [(k10,obl (nC n) [(0,5)]),((UJ q.2),wld (oC (o++Cd x T [l1] t (n.az.take q.1))) k0)]) (XG q.2)))) (0,0)
  (Trim.of (lo:=10) (l:=hG x (ob [ouV o]) (ouB o bc) [l1] [(k10,obl (nC n) [(0,5)])]) (nx:=k11) [(k10,k10)] rfl (show 10≤11 by decide) Yl (by obtain _|⟨t0,o⟩:=o<;>exact Yb) Yf) ⟨Zl,Rl,.inl ⟨rfl,rfl,rfl⟩⟩ ?_
 rintro⟨j,m⟩ g ⟨hj,hm,hg⟩
 replace hj:j≤n.az.length:=hj
 replace hm:m≤j:=hm
 obtain⟨rfl,hts0,rfl⟩|⟨hm0,hts0,l6,c7,n7,rfl⟩:=hg
 ·replace hts0:Cd x T [l1] t (n.az.take j)=[]:=hts0
  refine⟨fun h=>?_,fun h=>?_⟩
  ·have hj:j<n.az.length:=by have:=Ao h;omega
   have ha:n.az[j]?=some n.az[j]:=Gg hj
   have htk:n.az.take (j+1)=n.az.take j++[n.az[j]]:=List.take_succ_eq_append_getElem hj
   have hin:n.az[j]∈n.az:=List.getElem_mem hj
   generalize n.az[j]=a at ha htk hin
   have hga:=Ct ha
   obtain⟨a1,a2,a3⟩:=hal a hin
   have us:=Dn (al:=x.al) D hc a3 a1 (fun k hk=>by have:=a2 k hk;omega)
   have hs:=Dp x T [l1] t (n.az.take j) a
   rw[←htk] at hs
   have hle:=Fw x T [l1] t n.az (j+1)
   have hka:=hk a hin
   generalize Cd x T [l1] t n.az=full at hlen hle
   cases hbt:Cc x.al x.c a
   ·rw[hbt] at us hs
    simp only[Fj,if_false] at hs
    refine Yw1 ?_
    exact⟨(j+1,0),_,_,(show _-_<_-_ by omega),Trim.of (lo:=10) (l:=hG x (ob [ouV o]) (ouB o bc) [l1] [(k10,obl (nC n) [(0,5)])]) (nx:=k11) [(k10,k10)] rfl (show 10≤11 by decide) Yl (by obtain _|⟨t0,o⟩:=o<;>exact Yb) Yf,hj,(show 0≤j+1 by omega),.inl ⟨rfl,by rw[hs,hts0];rfl,rfl⟩⟩
   ·rw[hbt] at us hs
    simp only[if_true] at hs
    obtain⟨p0,t,rfl⟩:∃p u,t=p::u:=by cases t with
    |nil=>exact absurd rfl ht
    |cons p u=>exact⟨p,u,rfl⟩
    ·refine Yw1 ?_
     refine⟨_,_,Iw (es:=4) (l:=tR (p0::t)),?_⟩
     refine Yw1 ?_
     refine⟨_,_,Fv rfl (by decide) (by have e:(tR (p0::t)).length=(p0::t).length:=Lm ..;omega),?_⟩
     refine Yw1 ?_
     refine XC.P8 (a:=[.v (.s (ksV a.ks))]) (Kg (p0::t) a.p rfl) ?_
     have hkc:=hka o bc (p0::t++[a.p]) _ hbc (by simp) (.inl rfl) (by have:=hB a hin;simp at this ⊢;omega) (by have e:=congrArg List.length hs;simp only[La] at e;omega)
     generalize D8 T [l1] a.ks (p0::t++[a.p])=ts2 at *
     refine XC.Be (l:=hT x o bc [l1]) (nx:=k10) (rU 1 k7) hkc rfl rfl (by obtain _|⟨t0,o⟩:=o<;>exact Yb) Ya ?_
     rintro rc gc' ⟨rfl,hp⟩
     obtain⟨rfl,e6,e7⟩|⟨hn2,kN,m6,m7,ba,anc,m,cc,hle2,e6,nm7,e7,e8,rfl,rfl⟩:=hp.out
     ·refine⟨[],k15,xT x [] [] [] (ob [ouV o]) (ouB o bc) [l1],[],bA true,rfl,Rl,(by
       obtain _|⟨t0,o⟩:=o
       all_goals
        exact Yj0),trivial,rfl,?_⟩
      refine Yw1 ?_
      exact⟨(j+1,0),_,_,(show _-_<_-_ by omega),Trim.of (lo:=10) (l:=hG x (ob [ouV o]) (ouB o bc) [l1] [(k10,obl (nC n) [(0,5)])]) (nx:=k11) [(k10,k10)] rfl (show 10≤11 by decide) Yl (by obtain _|⟨t0,o⟩:=o<;>exact Yb) Yf,hj,Zl,.inl ⟨rfl,by rw[hs,hts0];rfl,rfl⟩⟩
     ·have ocn2:=Bh (o++ts2)
      refine⟨[(k15,kN)],k16,xT x [] [] [] (obl [.slice k15 0 (o++ts2).length 1 none] (m6++[])) ⟨.cells m7,false,false,[],[]⟩ [l1],[wld (oC (o++ts2)) k0],bA true,A9 (Rl) (by decide) hle2,(show 15≤16 by decide),(by
       obtain _|⟨t0,o⟩:=o
       all_goals
        exact Yj1),⟨⟨_,e8,⟨Ae.cells (by assumption),fun _=>⟨rfl,.inr ⟨_,_,_,.head _,rfl,hp.e0,rfl⟩⟩,rfl⟩⟩,trivial⟩,rfl,?_⟩
      refine Yw1 ?_
      exact⟨(j+1,1),_,_,(show _-_<_-_ by omega),Trim.of (lo:=10) (l:=hG x (obl [.slice k15 0 (o++ts2).length 1 none] (m6++[])) ⟨.cells m7,false,false,[],[]⟩ [l1] [(k10,obl (nC n) [(0,5)]),(k15,wld (oC (o++ts2)) k0)]) (nx:=k16) [(k10,k10),(k15,k15)] rfl (show 10≤16 by decide) Yl Yb Yf,hj,(show 1≤j+1 by omega),.inr ⟨by simp,by rw[hs,hts0];exact hn2,_,m7,nm7,by rw[hs,hts0];rfl⟩⟩
  ·have hfull:n.az.take j=n.az:=by rw[show j=n.az.length from by have:=A1 h;omega];exact List.take_length
   rw[hfull] at hts0
   rw[hts0]
   refine Yw1 ?_
   exact⟨rfl,rfl,rfl,rfl,rfl,rfl,rfl,Yk,.inl ⟨rfl,rfl,rfl⟩⟩
 ·replace hts0:Cd x T [l1] t (n.az.take j)≠[]:=hts0
  obtain _|_|_|_|m:=m
  ·exact absurd rfl hm0
  ·refine⟨fun h=>?_,fun h=>?_⟩
   ·have hj:j<n.az.length:=by have:=Ao h;omega
    have ha:n.az[j]?=some n.az[j]:=Gg hj
    have htk:n.az.take (j+1)=n.az.take j++[n.az[j]]:=List.take_succ_eq_append_getElem hj
    have hin:n.az[j]∈n.az:=List.getElem_mem hj
    generalize n.az[j]=a at ha htk hin
    have hga:=Ct ha
    obtain⟨a1,a2,a3⟩:=hal a hin
    have us:=Dn (al:=x.al) D hc a3 a1 (fun k hk=>by have:=a2 k hk;omega)
    have hs:=Dp x T [l1] t (n.az.take j) a
    rw[←htk] at hs
    have hle:=Fw x T [l1] t n.az (j+1)
    have hka:=hk a hin
    generalize Cd x T [l1] t n.az=full at hlen hle
    generalize hts:Cd x T [l1] t (n.az.take j)=ts at *
    generalize ho:o++ts=w at *
    obtain⟨t0,w,rfl⟩:∃p u,w=p::u:=by cases w with
     |nil=>exact absurd (List.append_eq_nil_iff.1 ho).2 hts0
     |cons p u=>exact⟨p,u,rfl⟩
    cases hbt:Cc x.al x.c a
    ·rw[hbt] at us hs
     simp only[Fj,if_false] at hs
     refine Yw1 ?_
     exact⟨(j+1,1),_,_,(show _-_<_-_ by omega),Trim.of (lo:=10) (l:=hG x (obl [.slice k15 0 (t0::w).length 1 none] l6) ⟨.cells c7,false,false,[],[]⟩ [l1] [(k10,obl (nC n) [(0,5)]),(k15,wld (oC (t0::w)) k0)]) (nx:=k16) [(k10,k10),(k15,k15)] rfl (show 10≤16 by decide) Yl (by have ocn1:=Bh (t0::w);exact Yb) Yf,hj,(show 1≤j+1 by omega),.inr ⟨by simp,by rw[hs];simpa using hts0,l6,c7,n7,by rw[hs,List.append_nil,ho];rfl⟩⟩
    ·rw[hbt] at us hs
     simp only[if_true] at hs
     obtain⟨p0,t,rfl⟩:∃p u,t=p::u:=by cases t with
     |nil=>exact absurd rfl ht
     |cons p u=>exact⟨p,u,rfl⟩
     ·refine Yw1 ?_
      refine⟨_,_,Iw (es:=4) (l:=tR (p0::t)),?_⟩
      refine Yw1 ?_
      refine⟨_,_,Fv rfl (by decide) (by have e:(tR (p0::t)).length=(p0::t).length:=Lm ..;omega),?_⟩
      refine Yw1 ?_
      refine XC.P8 (a:=[.v (.s (ksV a.ks))]) (Kg (p0::t) a.p rfl) ?_
      have hkc:=hka (t0::w) c7 (p0::t++[a.p]) _ n7 (by simp) (.inl rfl) (by have:=hB a hin;simp at this ⊢;omega) (by have e:=congrArg List.length hs;have e2:=congrArg List.length ho;simp only[La] at e e2;omega)
      generalize D8 T [l1] a.ks (p0::t++[a.p])=ts2 at *
      have ocn1:=Bh (t0::w)
      refine XC.Be (l:=hT x (t0::w) c7 [l1]) (nx:=k10) (rU 1 k15) hkc rfl rfl Yb Ya ?_
      rintro rc gc' ⟨rfl,hp⟩
      obtain⟨rfl,e6,e7⟩|⟨hn2,kN,m6,m7,ba,anc,m,cc,hle2,e6,nm7,e7,e8,rfl,rfl⟩:=hp.out
      ·refine⟨[],k20,xT x [] [] [] (obl [.slice k15 0 (t0::w).length 1 none] l6) (wld (oC (t0::w)) k0) [l1],[],bA true,rfl,Rl,(by
        exact Yj2),trivial,rfl,?_⟩
       refine Yw1 ?_
       exact⟨(j+1,1),_,_,(show _-_<_-_ by omega),Trim.of (lo:=10) (l:=hG x (obl [.slice k15 0 (t0::w).length 1 none] l6) ⟨.cells c7,false,false,[],[]⟩ [l1] [(k10,obl (nC n) [(0,5)]),(k15,wld (oC (t0::w)) k0)]) (nx:=k16) [(k10,k10),(k15,k15)] rfl (show 10≤16 by decide) Yl Yb Yf,hj,(show 1≤j+1 by omega),.inr ⟨by simp,by rw[hs];simpa using hts0,_,c7,n7,by rw[hs,List.append_nil,ho];rfl⟩⟩
      ·have ocn2:=Bh (t0::w++ts2)
       refine⟨[(k20,kN)],k21,xT x [] [] [] (obl [.slice k20 0 (t0::w++ts2).length 1 none] (m6++l6)) ⟨.cells m7,false,false,[],[]⟩ [l1],[wld (oC (t0::w++ts2)) k0],bA true,A9 (Rl) (by decide) hle2,(show 20≤21 by decide),(by
        exact Yj1),⟨⟨_,e8,⟨Ae.cells (by assumption),fun _=>⟨rfl,.inr ⟨_,_,_,.head _,rfl,hp.e0,rfl⟩⟩,rfl⟩⟩,trivial⟩,rfl,?_⟩
       refine Yw1 ?_
       exact⟨(j+1,2),_,_,(show _-_<_-_ by omega),Trim.of (lo:=10) (l:=hG x (obl [.slice k20 0 (t0::w++ts2).length 1 none] (m6++l6)) ⟨.cells c7,false,false,[],[]⟩ [l1] [(k10,obl (nC n) [(0,5)]),(k20,wld (oC (t0::w++ts2)) k0)]) (nx:=k21) [(k10,k10),(k20,k20)] rfl (show 10≤21 by decide) Yl Yb Yf,hj,(show 2≤j+1 by omega),.inr ⟨by simp,by rw[hs];simpa using fun h=>absurd h hts0,_,c7,n7,by rw[hs,←List.append_assoc,ho];rfl⟩⟩
   ·have hfull:n.az.take j=n.az:=by rw[show j=n.az.length from by have:=A1 h;omega];exact List.take_length
    simp only[hfull] at hts0 ⊢
    refine Yw1 ?_
    exact⟨rfl,rfl,rfl,rfl,rfl,rfl,rfl,Yk,.inr ⟨hts0,k15,_,c7,_,_,_,_,(show 10≤15 by decide),rfl,n7,rfl,rfl,rfl,rfl⟩⟩
  ·refine⟨fun h=>?_,fun h=>?_⟩
   ·have hj:j<n.az.length:=by have:=Ao h;omega
    have ha:n.az[j]?=some n.az[j]:=Gg hj
    have htk:n.az.take (j+1)=n.az.take j++[n.az[j]]:=List.take_succ_eq_append_getElem hj
    have hin:n.az[j]∈n.az:=List.getElem_mem hj
    generalize n.az[j]=a at ha htk hin
    have hga:=Ct ha
    obtain⟨a1,a2,a3⟩:=hal a hin
    have us:=Dn (al:=x.al) D hc a3 a1 (fun k hk=>by have:=a2 k hk;omega)
    have hs:=Dp x T [l1] t (n.az.take j) a
    rw[←htk] at hs
    have hle:=Fw x T [l1] t n.az (j+1)
    have hka:=hk a hin
    generalize Cd x T [l1] t n.az=full at hlen hle
    generalize hts:Cd x T [l1] t (n.az.take j)=ts at *
    generalize ho:o++ts=w at *
    obtain⟨t0,w,rfl⟩:∃p u,w=p::u:=by cases w with
     |nil=>exact absurd (List.append_eq_nil_iff.1 ho).2 hts0
     |cons p u=>exact⟨p,u,rfl⟩
    cases hbt:Cc x.al x.c a
    ·rw[hbt] at us hs
     simp only[Fj,if_false] at hs
     refine Yw1 ?_
     exact⟨(j+1,2),_,_,(show _-_<_-_ by omega),Trim.of (lo:=10) (l:=hG x (obl [.slice k20 0 (t0::w).length 1 none] l6) ⟨.cells c7,false,false,[],[]⟩ [l1] [(k10,obl (nC n) [(0,5)]),(k20,wld (oC (t0::w)) k0)]) (nx:=k21) [(k10,k10),(k20,k20)] rfl (show 10≤21 by decide) Yl (by have ocn1:=Bh (t0::w);exact Yb) Yf,hj,(show 2≤j+1 by omega),.inr ⟨by simp,by rw[hs];simpa using hts0,l6,c7,n7,by rw[hs,List.append_nil,ho];rfl⟩⟩
    ·rw[hbt] at us hs
     simp only[if_true] at hs
     obtain⟨p0,t,rfl⟩:∃p u,t=p::u:=by cases t with
     |nil=>exact absurd rfl ht
     |cons p u=>exact⟨p,u,rfl⟩
     ·refine Yw1 ?_
      refine⟨_,_,Iw (es:=4) (l:=tR (p0::t)),?_⟩
      refine Yw1 ?_
      refine⟨_,_,Fv rfl (by decide) (by have e:(tR (p0::t)).length=(p0::t).length:=Lm ..;omega),?_⟩
      refine Yw1 ?_
      refine XC.P8 (a:=[.v (.s (ksV a.ks))]) (Kg (p0::t) a.p rfl) ?_
      have hkc:=hka (t0::w) c7 (p0::t++[a.p]) _ n7 (by simp) (.inl rfl) (by have:=hB a hin;simp at this ⊢;omega) (by have e:=congrArg List.length hs;have e2:=congrArg List.length ho;simp only[La] at e e2;omega)
      generalize D8 T [l1] a.ks (p0::t++[a.p])=ts2 at *
      have ocn1:=Bh (t0::w)
      refine XC.Be (l:=hT x (t0::w) c7 [l1]) (nx:=k10) (rU 1 k20) hkc rfl rfl Yb Ya ?_
      rintro rc gc' ⟨rfl,hp⟩
      obtain⟨rfl,e6,e7⟩|⟨hn2,kN,m6,m7,ba,anc,m,cc,hle2,e6,nm7,e7,e8,rfl,rfl⟩:=hp.out
      ·refine⟨[],k25,xT x [] [] [] (obl [.slice k20 0 (t0::w).length 1 none] l6) (wld (oC (t0::w)) k0) [l1],[],bA true,rfl,Rl,(by
        exact Yj2),trivial,rfl,?_⟩
       refine Yw1 ?_
       exact⟨(j+1,2),_,_,(show _-_<_-_ by omega),Trim.of (lo:=10) (l:=hG x (obl [.slice k20 0 (t0::w).length 1 none] l6) ⟨.cells c7,false,false,[],[]⟩ [l1] [(k10,obl (nC n) [(0,5)]),(k20,wld (oC (t0::w)) k0)]) (nx:=k21) [(k10,k10),(k20,k20)] rfl (show 10≤21 by decide) Yl Yb Yf,hj,(show 2≤j+1 by omega),.inr ⟨by simp,by rw[hs];simpa using hts0,_,c7,n7,by rw[hs,List.append_nil,ho];rfl⟩⟩
      ·have ocn2:=Bh (t0::w++ts2)
       refine⟨[(k25,kN)],k26,xT x [] [] [] (obl [.slice k25 0 (t0::w++ts2).length 1 none] (m6++l6)) ⟨.cells m7,false,false,[],[]⟩ [l1],[wld (oC (t0::w++ts2)) k0],bA true,A9 (Rl) (by decide) hle2,(show 25≤26 by decide),(by
        exact Yj1),⟨⟨_,e8,⟨Ae.cells (by assumption),fun _=>⟨rfl,.inr ⟨_,_,_,.head _,rfl,hp.e0,rfl⟩⟩,rfl⟩⟩,trivial⟩,rfl,?_⟩
       refine Yw1 ?_
       exact⟨(j+1,3),_,_,(show _-_<_-_ by omega),Trim.of (lo:=10) (l:=hG x (obl [.slice k25 0 (t0::w++ts2).length 1 none] (m6++l6)) ⟨.cells c7,false,false,[],[]⟩ [l1] [(k10,obl (nC n) [(0,5)]),(k25,wld (oC (t0::w++ts2)) k0)]) (nx:=k26) [(k10,k10),(k25,k25)] rfl (show 10≤26 by decide) Yl Yb Yf,hj,(show 3≤j+1 by omega),.inr ⟨by simp,by rw[hs];simpa using fun h=>absurd h hts0,_,c7,n7,by rw[hs,←List.append_assoc,ho];rfl⟩⟩
   ·have hfull:n.az.take j=n.az:=by rw[show j=n.az.length from by have:=A1 h;omega];exact List.take_length
    simp only[hfull] at hts0 ⊢
    refine Yw1 ?_
    exact⟨rfl,rfl,rfl,rfl,rfl,rfl,rfl,Yk,.inr ⟨hts0,k20,_,c7,_,_,_,_,(show 10≤20 by decide),rfl,n7,rfl,rfl,rfl,rfl⟩⟩
  ·refine⟨fun h=>?_,fun h=>?_⟩
   ·have:=Ao h;omega
   ·have hfull:n.az.take j=n.az:=by rw[show j=n.az.length from by have:=A1 h;omega];exact List.take_length
    simp only[hfull] at hts0 ⊢
    refine Yw1 ?_
    exact⟨rfl,rfl,rfl,rfl,rfl,rfl,rfl,Yk,.inr ⟨hts0,k25,_,c7,_,_,_,_,(show 10≤25 by decide),rfl,n7,rfl,rfl,rfl,rfl⟩⟩
  ·omega
def UK:Nat→Key
 |0=>k7
 |1=>k17
 |2=>k22
 |_=>k27
def XH:Nat→Key
 |0=>k13
 |1=>k18
 |2=>k23
 |_=>k28
theorem node2 (x:TC) (T:Nat→List Tre) {i:Nat} {n:Nd} {l1 l2:List Nat} (D:I8) (hc:x.c<4) (hlf:x.f.ns.length≤4) (hi:i<x.f.ns.length) (hla:x.al.length=x.f.ns.length) (hn:(x.f.ns.map nV)[(i:Int).toNat]?=some (nC n)) (nL:n.az.length≤3) (hal:∀a∈n.az,a.ks.length≤2∧(∀k∈a.ks,k<i)∧a.d<16)
  (o:List Tre) (bc:List PV) (t:Tre) (htl:t.length<100000) (ht:t≠[]) (hbc:∀v∈bc,Ae v) (hB:∀a∈n.az,t.length+1+(a.ks.map sz).sum+cap [l1,l2]≤1000) (hlen:o.length+(Cd x T [l1,l2] t n.az).length≤x.mo) (hk:∀a∈n.az,Oa x T [l1,l2] a.ks) :
  XC Fn 73 [iA i,.v (.s (tV t)),.v (.s (cV 2)),.v (.s (.ptr k0 0)),.v (.s (.ptr k1 0)),.v (.s (.ptr k3 0)),.v (.s (.ptr k5 0))] (mkH (hT x o bc [l1,l2]) k12) fun r g=>r=bA true∧cS x o bc [l1,l2] (Cd x T [l1,l2] t n.az) g:=by
 have nlen:(n.az.map aV).length=n.az.length:=Lm ..
 have hlen0:(x.f.ns.map nV).length=x.f.ns.length:=Lm ..
 have ocn1:=Bh o
 have ocn:=fun u=>Bh (o++u)
 have tnk:Ae (tV t):=Ar _ _
 refine XC.of (pu:=pt) (vf:=C.f73) rfl ?_
 refine Yw1 ?_
 refine XW.A7 (pu:=pt) (σ:=Nat×Nat) (fun q=>n.az.length-q.1) (fun q=>[(k0,.v (iA i)),(k1,.v (.v (.s (tV t)))),(k2,.v (.v (.s (cV 2)))),(k3,.v (.v (.s (.ptr k0 0)))),(k4,.v (.v (.s (.ptr k1 0)))),(k5,.v (.v (.s (.ptr k3 0)))),(k6,.v (.v (.s (.ptr k5 0)))),(k11,.v (.v (.s (.ptr k12 0)))),(k21,.v (PA.lst 4 (n.az.map aV))),(k22,.v (iA (n.az.map aV).length)),(k23,.v (iA q.1))])
  (fun q g=>q.1≤n.az.length∧q.2≤q.1∧((q.2=0∧Cd x T [l1,l2] t (n.az.take q.1)=[]∧g=mkH (hG x (ob [ouV o]) (ouB o bc) [l1,l2] [(k12,obl (nC n) [(0,5)])]) k13)∨(q.2≠0∧Cd x T [l1,l2] t (n.az.take q.1)≠[]∧∃l6 c7,(∀v∈c7,Ae v)∧g=mkH (hG x (obl [.slice (UK q.2) 0 (o++Cd x T [l1,l2] t (n.az.take q.1)).length 1 none] l6) ⟨.cells c7,false,false,[],[]⟩ [l1,l2] [(k12,obl (nC n) [(0,5)]),((UK q.2),wld (oC (o++Cd x T [l1,l2] t (n.az.take q.1))) k0)]) (XH q.2)))) (0,0)
  (Trim.of (lo:=12) (l:=hG x (ob [ouV o]) (ouB o bc) [l1,l2] [(k12,obl (nC n) [(0,5)])]) (nx:=k13) [(k12,k12)] rfl (show 12≤13 by decide) Yl (by obtain _|⟨t0,o⟩:=o<;>exact Yb) Yf) ⟨Zl,Rl,.inl ⟨rfl,rfl,rfl⟩⟩ ?_
 rintro⟨j,m⟩ g ⟨hj,hm,hg⟩
 replace hj:j≤n.az.length:=hj
 replace hm:m≤j:=hm
 obtain⟨rfl,hts0,rfl⟩|⟨hm0,hts0,l6,c7,n7,rfl⟩:=hg
 ·replace hts0:Cd x T [l1,l2] t (n.az.take j)=[]:=hts0
  refine⟨fun h=>?_,fun h=>?_⟩
  ·have hj:j<n.az.length:=by have:=Ao h;omega
   have ha:n.az[j]?=some n.az[j]:=Gg hj
   have htk:n.az.take (j+1)=n.az.take j++[n.az[j]]:=List.take_succ_eq_append_getElem hj
   have hin:n.az[j]∈n.az:=List.getElem_mem hj
   generalize n.az[j]=a at ha htk hin
   have hga:=Ct ha
   obtain⟨a1,a2,a3⟩:=hal a hin
   have us:=Dn (al:=x.al) D hc a3 a1 (fun k hk=>by have:=a2 k hk;omega)
   have hs:=Dp x T [l1,l2] t (n.az.take j) a
   rw[←htk] at hs
   have hle:=Fw x T [l1,l2] t n.az (j+1)
   have hka:=hk a hin
   generalize Cd x T [l1,l2] t n.az=full at hlen hle
   cases hbt:Cc x.al x.c a
   ·rw[hbt] at us hs
    simp only[Fj,if_false] at hs
    refine Yw1 ?_
    exact⟨(j+1,0),_,_,(show _-_<_-_ by omega),Trim.of (lo:=12) (l:=hG x (ob [ouV o]) (ouB o bc) [l1,l2] [(k12,obl (nC n) [(0,5)])]) (nx:=k13) [(k12,k12)] rfl (show 12≤13 by decide) Yl (by obtain _|⟨t0,o⟩:=o<;>exact Yb) Yf,hj,(show 0≤j+1 by omega),.inl ⟨rfl,by rw[hs,hts0];rfl,rfl⟩⟩
   ·rw[hbt] at us hs
    simp only[if_true] at hs
    obtain⟨p0,t,rfl⟩:∃p u,t=p::u:=by cases t with
    |nil=>exact absurd rfl ht
    |cons p u=>exact⟨p,u,rfl⟩
    ·refine Yw1 ?_
     refine⟨_,_,Iw (es:=4) (l:=tR (p0::t)),?_⟩
     refine Yw1 ?_
     refine⟨_,_,Fv rfl (by decide) (by have e:(tR (p0::t)).length=(p0::t).length:=Lm ..;omega),?_⟩
     refine Yw1 ?_
     refine XC.P8 (a:=[.v (.s (ksV a.ks))]) (Kg (p0::t) a.p rfl) ?_
     have hkc:=hka o bc (p0::t++[a.p]) _ hbc (by simp) (.inl rfl) (by have:=hB a hin;simp at this ⊢;omega) (by have e:=congrArg List.length hs;simp only[La] at e;omega)
     generalize D8 T [l1,l2] a.ks (p0::t++[a.p])=ts2 at *
     refine XC.Be (l:=hT x o bc [l1,l2]) (nx:=k12) (rU 2 k7) hkc rfl rfl (by obtain _|⟨t0,o⟩:=o<;>exact Yb) Ya ?_
     rintro rc gc' ⟨rfl,hp⟩
     obtain⟨rfl,e6,e7⟩|⟨hn2,kN,m6,m7,ba,anc,m,cc,hle2,e6,nm7,e7,e8,rfl,rfl⟩:=hp.out
     ·refine⟨[],k17,xT x [] [] [] (ob [ouV o]) (ouB o bc) [l1,l2],[],bA true,rfl,Rl,(by
       obtain _|⟨t0,o⟩:=o
       all_goals
        exact Yj0),trivial,rfl,?_⟩
      refine Yw1 ?_
      exact⟨(j+1,0),_,_,(show _-_<_-_ by omega),Trim.of (lo:=12) (l:=hG x (ob [ouV o]) (ouB o bc) [l1,l2] [(k12,obl (nC n) [(0,5)])]) (nx:=k13) [(k12,k12)] rfl (show 12≤13 by decide) Yl (by obtain _|⟨t0,o⟩:=o<;>exact Yb) Yf,hj,Zl,.inl ⟨rfl,by rw[hs,hts0];rfl,rfl⟩⟩
     ·have ocn2:=Bh (o++ts2)
      refine⟨[(k17,kN)],k18,xT x [] [] [] (obl [.slice k17 0 (o++ts2).length 1 none] (m6++[])) ⟨.cells m7,false,false,[],[]⟩ [l1,l2],[wld (oC (o++ts2)) k0],bA true,A9 (Rl) (by decide) hle2,(show 17≤18 by decide),(by
       obtain _|⟨t0,o⟩:=o
       all_goals
        exact Yj1),⟨⟨_,e8,⟨Ae.cells (by assumption),fun _=>⟨rfl,.inr ⟨_,_,_,.head _,rfl,hp.e0,rfl⟩⟩,rfl⟩⟩,trivial⟩,rfl,?_⟩
      refine Yw1 ?_
      exact⟨(j+1,1),_,_,(show _-_<_-_ by omega),Trim.of (lo:=12) (l:=hG x (obl [.slice k17 0 (o++ts2).length 1 none] (m6++[])) ⟨.cells m7,false,false,[],[]⟩ [l1,l2] [(k12,obl (nC n) [(0,5)]),(k17,wld (oC (o++ts2)) k0)]) (nx:=k18) [(k12,k12),(k17,k17)] rfl (show 12≤18 by decide) Yl Yb Yf,hj,(show 1≤j+1 by omega),.inr ⟨by simp,by rw[hs,hts0];exact hn2,_,m7,nm7,by rw[hs,hts0];rfl⟩⟩
  ·have hfull:n.az.take j=n.az:=by rw[show j=n.az.length from by have:=A1 h;omega];exact List.take_length
   rw[hfull] at hts0
   rw[hts0]
   refine Yw1 ?_
   exact⟨rfl,rfl,rfl,rfl,rfl,rfl,rfl,Yk,.inl ⟨rfl,rfl,rfl⟩⟩
 ·replace hts0:Cd x T [l1,l2] t (n.az.take j)≠[]:=hts0
  obtain _|_|_|_|m:=m
  ·exact absurd rfl hm0
  ·refine⟨fun h=>?_,fun h=>?_⟩
   ·have hj:j<n.az.length:=by have:=Ao h;omega
    have ha:n.az[j]?=some n.az[j]:=Gg hj
    have htk:n.az.take (j+1)=n.az.take j++[n.az[j]]:=List.take_succ_eq_append_getElem hj
    have hin:n.az[j]∈n.az:=List.getElem_mem hj
    generalize n.az[j]=a at ha htk hin
    have hga:=Ct ha
    obtain⟨a1,a2,a3⟩:=hal a hin
    have us:=Dn (al:=x.al) D hc a3 a1 (fun k hk=>by have:=a2 k hk;omega)
    have hs:=Dp x T [l1,l2] t (n.az.take j) a
    rw[←htk] at hs
    have hle:=Fw x T [l1,l2] t n.az (j+1)
    have hka:=hk a hin
    generalize Cd x T [l1,l2] t n.az=full at hlen hle
    generalize hts:Cd x T [l1,l2] t (n.az.take j)=ts at *
    generalize ho:o++ts=w at *
    obtain⟨t0,w,rfl⟩:∃p u,w=p::u:=by cases w with
     |nil=>exact absurd (List.append_eq_nil_iff.1 ho).2 hts0
     |cons p u=>exact⟨p,u,rfl⟩
    cases hbt:Cc x.al x.c a
    ·rw[hbt] at us hs
     simp only[Fj,if_false] at hs
     refine Yw1 ?_
     exact⟨(j+1,1),_,_,(show _-_<_-_ by omega),Trim.of (lo:=12) (l:=hG x (obl [.slice k17 0 (t0::w).length 1 none] l6) ⟨.cells c7,false,false,[],[]⟩ [l1,l2] [(k12,obl (nC n) [(0,5)]),(k17,wld (oC (t0::w)) k0)]) (nx:=k18) [(k12,k12),(k17,k17)] rfl (show 12≤18 by decide) Yl (by have ocn1:=Bh (t0::w);exact Yb) Yf,hj,(show 1≤j+1 by omega),.inr ⟨by simp,by rw[hs];simpa using hts0,l6,c7,n7,by rw[hs,List.append_nil,ho];rfl⟩⟩
    ·rw[hbt] at us hs
     simp only[if_true] at hs
     obtain⟨p0,t,rfl⟩:∃p u,t=p::u:=by cases t with
     |nil=>exact absurd rfl ht
     |cons p u=>exact⟨p,u,rfl⟩
     ·refine Yw1 ?_
      refine⟨_,_,Iw (es:=4) (l:=tR (p0::t)),?_⟩
      refine Yw1 ?_
      refine⟨_,_,Fv rfl (by decide) (by have e:(tR (p0::t)).length=(p0::t).length:=Lm ..;omega),?_⟩
      refine Yw1 ?_
      refine XC.P8 (a:=[.v (.s (ksV a.ks))]) (Kg (p0::t) a.p rfl) ?_
      have hkc:=hka (t0::w) c7 (p0::t++[a.p]) _ n7 (by simp) (.inl rfl) (by have:=hB a hin;simp at this ⊢;omega) (by have e:=congrArg List.length hs;have e2:=congrArg List.length ho;simp only[La] at e e2;omega)
      generalize D8 T [l1,l2] a.ks (p0::t++[a.p])=ts2 at *
      have ocn1:=Bh (t0::w)
      refine XC.Be (l:=hT x (t0::w) c7 [l1,l2]) (nx:=k12) (rU 2 k17) hkc rfl rfl Yb Ya ?_
      rintro rc gc' ⟨rfl,hp⟩
      obtain⟨rfl,e6,e7⟩|⟨hn2,kN,m6,m7,ba,anc,m,cc,hle2,e6,nm7,e7,e8,rfl,rfl⟩:=hp.out
      ·refine⟨[],k22,xT x [] [] [] (obl [.slice k17 0 (t0::w).length 1 none] l6) (wld (oC (t0::w)) k0) [l1,l2],[],bA true,rfl,Rl,(by
        exact Yj2),trivial,rfl,?_⟩
       refine Yw1 ?_
       exact⟨(j+1,1),_,_,(show _-_<_-_ by omega),Trim.of (lo:=12) (l:=hG x (obl [.slice k17 0 (t0::w).length 1 none] l6) ⟨.cells c7,false,false,[],[]⟩ [l1,l2] [(k12,obl (nC n) [(0,5)]),(k17,wld (oC (t0::w)) k0)]) (nx:=k18) [(k12,k12),(k17,k17)] rfl (show 12≤18 by decide) Yl Yb Yf,hj,(show 1≤j+1 by omega),.inr ⟨by simp,by rw[hs];simpa using hts0,_,c7,n7,by rw[hs,List.append_nil,ho];rfl⟩⟩
      ·have ocn2:=Bh (t0::w++ts2)
       refine⟨[(k22,kN)],k23,xT x [] [] [] (obl [.slice k22 0 (t0::w++ts2).length 1 none] (m6++l6)) ⟨.cells m7,false,false,[],[]⟩ [l1,l2],[wld (oC (t0::w++ts2)) k0],bA true,A9 (Rl) (by decide) hle2,(show 22≤23 by decide),(by
        exact Yj1),⟨⟨_,e8,⟨Ae.cells (by assumption),fun _=>⟨rfl,.inr ⟨_,_,_,.head _,rfl,hp.e0,rfl⟩⟩,rfl⟩⟩,trivial⟩,rfl,?_⟩
       refine Yw1 ?_
       exact⟨(j+1,2),_,_,(show _-_<_-_ by omega),Trim.of (lo:=12) (l:=hG x (obl [.slice k22 0 (t0::w++ts2).length 1 none] (m6++l6)) ⟨.cells c7,false,false,[],[]⟩ [l1,l2] [(k12,obl (nC n) [(0,5)]),(k22,wld (oC (t0::w++ts2)) k0)]) (nx:=k23) [(k12,k12),(k22,k22)] rfl (show 12≤23 by decide) Yl Yb Yf,hj,(show 2≤j+1 by omega),.inr ⟨by simp,by rw[hs];simpa using fun h=>absurd h hts0,_,c7,n7,by rw[hs,←List.append_assoc,ho];rfl⟩⟩
   ·have hfull:n.az.take j=n.az:=by rw[show j=n.az.length from by have:=A1 h;omega];exact List.take_length
    simp only[hfull] at hts0 ⊢
    refine Yw1 ?_
    exact⟨rfl,rfl,rfl,rfl,rfl,rfl,rfl,Yk,.inr ⟨hts0,k17,_,c7,_,_,_,_,(show 12≤17 by decide),rfl,n7,rfl,rfl,rfl,rfl⟩⟩
  ·refine⟨fun h=>?_,fun h=>?_⟩
   ·have hj:j<n.az.length:=by have:=Ao h;omega
    have ha:n.az[j]?=some n.az[j]:=Gg hj
    have htk:n.az.take (j+1)=n.az.take j++[n.az[j]]:=List.take_succ_eq_append_getElem hj
    have hin:n.az[j]∈n.az:=List.getElem_mem hj
    generalize n.az[j]=a at ha htk hin
    have hga:=Ct ha
    obtain⟨a1,a2,a3⟩:=hal a hin
    have us:=Dn (al:=x.al) D hc a3 a1 (fun k hk=>by have:=a2 k hk;omega)
    have hs:=Dp x T [l1,l2] t (n.az.take j) a
    rw[←htk] at hs
    have hle:=Fw x T [l1,l2] t n.az (j+1)
    have hka:=hk a hin
    generalize Cd x T [l1,l2] t n.az=full at hlen hle
    generalize hts:Cd x T [l1,l2] t (n.az.take j)=ts at *
    generalize ho:o++ts=w at *
    obtain⟨t0,w,rfl⟩:∃p u,w=p::u:=by cases w with
     |nil=>exact absurd (List.append_eq_nil_iff.1 ho).2 hts0
     |cons p u=>exact⟨p,u,rfl⟩
    cases hbt:Cc x.al x.c a
    ·rw[hbt] at us hs
     simp only[Fj,if_false] at hs
     refine Yw1 ?_
     exact⟨(j+1,2),_,_,(show _-_<_-_ by omega),Trim.of (lo:=12) (l:=hG x (obl [.slice k22 0 (t0::w).length 1 none] l6) ⟨.cells c7,false,false,[],[]⟩ [l1,l2] [(k12,obl (nC n) [(0,5)]),(k22,wld (oC (t0::w)) k0)]) (nx:=k23) [(k12,k12),(k22,k22)] rfl (show 12≤23 by decide) Yl (by have ocn1:=Bh (t0::w);exact Yb) Yf,hj,(show 2≤j+1 by omega),.inr ⟨by simp,by rw[hs];simpa using hts0,l6,c7,n7,by rw[hs,List.append_nil,ho];rfl⟩⟩
    ·rw[hbt] at us hs
     simp only[if_true] at hs
     obtain⟨p0,t,rfl⟩:∃p u,t=p::u:=by cases t with
     |nil=>exact absurd rfl ht
     |cons p u=>exact⟨p,u,rfl⟩
     ·refine Yw1 ?_
      refine⟨_,_,Iw (es:=4) (l:=tR (p0::t)),?_⟩
      refine Yw1 ?_
      refine⟨_,_,Fv rfl (by decide) (by have e:(tR (p0::t)).length=(p0::t).length:=Lm ..;omega),?_⟩
      refine Yw1 ?_
      refine XC.P8 (a:=[.v (.s (ksV a.ks))]) (Kg (p0::t) a.p rfl) ?_
      have hkc:=hka (t0::w) c7 (p0::t++[a.p]) _ n7 (by simp) (.inl rfl) (by have:=hB a hin;simp at this ⊢;omega) (by have e:=congrArg List.length hs;have e2:=congrArg List.length ho;simp only[La] at e e2;omega)
      generalize D8 T [l1,l2] a.ks (p0::t++[a.p])=ts2 at *
      have ocn1:=Bh (t0::w)
      refine XC.Be (l:=hT x (t0::w) c7 [l1,l2]) (nx:=k12) (rU 2 k22) hkc rfl rfl Yb Ya ?_
      rintro rc gc' ⟨rfl,hp⟩
      obtain⟨rfl,e6,e7⟩|⟨hn2,kN,m6,m7,ba,anc,m,cc,hle2,e6,nm7,e7,e8,rfl,rfl⟩:=hp.out
      ·refine⟨[],k27,xT x [] [] [] (obl [.slice k22 0 (t0::w).length 1 none] l6) (wld (oC (t0::w)) k0) [l1,l2],[],bA true,rfl,Rl,(by
        exact Yj2),trivial,rfl,?_⟩
       refine Yw1 ?_
       exact⟨(j+1,2),_,_,(show _-_<_-_ by omega),Trim.of (lo:=12) (l:=hG x (obl [.slice k22 0 (t0::w).length 1 none] l6) ⟨.cells c7,false,false,[],[]⟩ [l1,l2] [(k12,obl (nC n) [(0,5)]),(k22,wld (oC (t0::w)) k0)]) (nx:=k23) [(k12,k12),(k22,k22)] rfl (show 12≤23 by decide) Yl Yb Yf,hj,(show 2≤j+1 by omega),.inr ⟨by simp,by rw[hs];simpa using hts0,_,c7,n7,by rw[hs,List.append_nil,ho];rfl⟩⟩
      ·have ocn2:=Bh (t0::w++ts2)
       refine⟨[(k27,kN)],k28,xT x [] [] [] (obl [.slice k27 0 (t0::w++ts2).length 1 none] (m6++l6)) ⟨.cells m7,false,false,[],[]⟩ [l1,l2],[wld (oC (t0::w++ts2)) k0],bA true,A9 (Rl) (by decide) hle2,(show 27≤28 by decide),(by
        exact Yj1),⟨⟨_,e8,⟨Ae.cells (by assumption),fun _=>⟨rfl,.inr ⟨_,_,_,.head _,rfl,hp.e0,rfl⟩⟩,rfl⟩⟩,trivial⟩,rfl,?_⟩
       refine Yw1 ?_
       exact⟨(j+1,3),_,_,(show _-_<_-_ by omega),Trim.of (lo:=12) (l:=hG x (obl [.slice k27 0 (t0::w++ts2).length 1 none] (m6++l6)) ⟨.cells c7,false,false,[],[]⟩ [l1,l2] [(k12,obl (nC n) [(0,5)]),(k27,wld (oC (t0::w++ts2)) k0)]) (nx:=k28) [(k12,k12),(k27,k27)] rfl (show 12≤28 by decide) Yl Yb Yf,hj,(show 3≤j+1 by omega),.inr ⟨by simp,by rw[hs];simpa using fun h=>absurd h hts0,_,c7,n7,by rw[hs,←List.append_assoc,ho];rfl⟩⟩
   ·have hfull:n.az.take j=n.az:=by rw[show j=n.az.length from by have:=A1 h;omega];exact List.take_length
    simp only[hfull] at hts0 ⊢
    refine Yw1 ?_
    exact⟨rfl,rfl,rfl,rfl,rfl,rfl,rfl,Yk,.inr ⟨hts0,k22,_,c7,_,_,_,_,(show 12≤22 by decide),rfl,n7,rfl,rfl,rfl,rfl⟩⟩
  ·refine⟨fun h=>?_,fun h=>?_⟩
   ·have:=Ao h;omega
   ·have hfull:n.az.take j=n.az:=by rw[show j=n.az.length from by have:=A1 h;omega];exact List.take_length
    simp only[hfull] at hts0 ⊢
    refine Yw1 ?_
    exact⟨rfl,rfl,rfl,rfl,rfl,rfl,rfl,Yk,.inr ⟨hts0,k27,_,c7,_,_,_,_,(show 12≤27 by decide),rfl,n7,rfl,rfl,rfl,rfl⟩⟩
  ·omega
def UL:Nat→Key
 |0=>k7
 |1=>k19
 |2=>k24
 |_=>k29
def XI:Nat→Key
 |0=>k15
 |1=>k20
 |2=>k25
 |_=>k30
theorem node3 (x:TC) (T:Nat→List Tre) {i:Nat} {n:Nd} {l1 l2 l3:List Nat} (D:I8) (hc:x.c<4) (hlf:x.f.ns.length≤4) (hi:i<x.f.ns.length) (hla:x.al.length=x.f.ns.length) (hn:(x.f.ns.map nV)[(i:Int).toNat]?=some (nC n)) (nL:n.az.length≤3) (hal:∀a∈n.az,a.ks.length≤2∧(∀k∈a.ks,k<i)∧a.d<16)
  (o:List Tre) (bc:List PV) (t:Tre) (htl:t.length<100000) (ht:t≠[]) (hbc:∀v∈bc,Ae v) (hB:∀a∈n.az,t.length+1+(a.ks.map sz).sum+cap [l1,l2,l3]≤1000) (hlen:o.length+(Cd x T [l1,l2,l3] t n.az).length≤x.mo) (hk:∀a∈n.az,Oa x T [l1,l2,l3] a.ks) :
  XC Fn 73 [iA i,.v (.s (tV t)),.v (.s (cV 3)),.v (.s (.ptr k0 0)),.v (.s (.ptr k1 0)),.v (.s (.ptr k3 0)),.v (.s (.ptr k5 0))] (mkH (hT x o bc [l1,l2,l3]) k14) fun r g=>r=bA true∧cS x o bc [l1,l2,l3] (Cd x T [l1,l2,l3] t n.az) g:=by
 have nlen:(n.az.map aV).length=n.az.length:=Lm ..
 have hlen0:(x.f.ns.map nV).length=x.f.ns.length:=Lm ..
 have ocn1:=Bh o
 have ocn:=fun u=>Bh (o++u)
 have tnk:Ae (tV t):=Ar _ _
 refine XC.of (pu:=pt) (vf:=C.f73) rfl ?_
 refine Yw1 ?_
 refine XW.A7 (pu:=pt) (σ:=Nat×Nat) (fun q=>n.az.length-q.1) (fun q=>[(k0,.v (iA i)),(k1,.v (.v (.s (tV t)))),(k2,.v (.v (.s (cV 3)))),(k3,.v (.v (.s (.ptr k0 0)))),(k4,.v (.v (.s (.ptr k1 0)))),(k5,.v (.v (.s (.ptr k3 0)))),(k6,.v (.v (.s (.ptr k5 0)))),(k11,.v (.v (.s (.ptr k14 0)))),(k21,.v (PA.lst 4 (n.az.map aV))),(k22,.v (iA (n.az.map aV).length)),(k23,.v (iA q.1))])
  (fun q g=>q.1≤n.az.length∧q.2≤q.1∧((q.2=0∧Cd x T [l1,l2,l3] t (n.az.take q.1)=[]∧g=mkH (hG x (ob [ouV o]) (ouB o bc) [l1,l2,l3] [(k14,obl (nC n) [(0,5)])]) k15)∨(q.2≠0∧Cd x T [l1,l2,l3] t (n.az.take q.1)≠[]∧∃l6 c7,(∀v∈c7,Ae v)∧g=mkH (hG x (obl [.slice (UL q.2) 0 (o++Cd x T [l1,l2,l3] t (n.az.take q.1)).length 1 none] l6) ⟨.cells c7,false,false,[],[]⟩ [l1,l2,l3] [(k14,obl (nC n) [(0,5)]),((UL q.2),wld (oC (o++Cd x T [l1,l2,l3] t (n.az.take q.1))) k0)]) (XI q.2)))) (0,0)
  (Trim.of (lo:=14) (l:=hG x (ob [ouV o]) (ouB o bc) [l1,l2,l3] [(k14,obl (nC n) [(0,5)])]) (nx:=k15) [(k14,k14)] rfl (show 14≤15 by decide) Yl (by obtain _|⟨t0,o⟩:=o<;>exact Yb) Yf) ⟨Zl,Rl,.inl ⟨rfl,rfl,rfl⟩⟩ ?_
 rintro⟨j,m⟩ g ⟨hj,hm,hg⟩
 replace hj:j≤n.az.length:=hj
 replace hm:m≤j:=hm
 obtain⟨rfl,hts0,rfl⟩|⟨hm0,hts0,l6,c7,n7,rfl⟩:=hg
 ·replace hts0:Cd x T [l1,l2,l3] t (n.az.take j)=[]:=hts0
  refine⟨fun h=>?_,fun h=>?_⟩
  ·have hj:j<n.az.length:=by have:=Ao h;omega
   have ha:n.az[j]?=some n.az[j]:=Gg hj
   have htk:n.az.take (j+1)=n.az.take j++[n.az[j]]:=List.take_succ_eq_append_getElem hj
   have hin:n.az[j]∈n.az:=List.getElem_mem hj
   generalize n.az[j]=a at ha htk hin
   have hga:=Ct ha
   obtain⟨a1,a2,a3⟩:=hal a hin
   have us:=Dn (al:=x.al) D hc a3 a1 (fun k hk=>by have:=a2 k hk;omega)
   have hs:=Dp x T [l1,l2,l3] t (n.az.take j) a
   rw[←htk] at hs
   have hle:=Fw x T [l1,l2,l3] t n.az (j+1)
   have hka:=hk a hin
   generalize Cd x T [l1,l2,l3] t n.az=full at hlen hle
   cases hbt:Cc x.al x.c a
   ·rw[hbt] at us hs
    simp only[Fj,if_false] at hs
    refine Yw1 ?_
    exact⟨(j+1,0),_,_,(show _-_<_-_ by omega),Trim.of (lo:=14) (l:=hG x (ob [ouV o]) (ouB o bc) [l1,l2,l3] [(k14,obl (nC n) [(0,5)])]) (nx:=k15) [(k14,k14)] rfl (show 14≤15 by decide) Yl (by obtain _|⟨t0,o⟩:=o<;>exact Yb) Yf,hj,(show 0≤j+1 by omega),.inl ⟨rfl,by rw[hs,hts0];rfl,rfl⟩⟩
   ·rw[hbt] at us hs
    simp only[if_true] at hs
    obtain⟨p0,t,rfl⟩:∃p u,t=p::u:=by cases t with
    |nil=>exact absurd rfl ht
    |cons p u=>exact⟨p,u,rfl⟩
    ·refine Yw1 ?_
     refine⟨_,_,Iw (es:=4) (l:=tR (p0::t)),?_⟩
     refine Yw1 ?_
     refine⟨_,_,Fv rfl (by decide) (by have e:(tR (p0::t)).length=(p0::t).length:=Lm ..;omega),?_⟩
     refine Yw1 ?_
     refine XC.P8 (a:=[.v (.s (ksV a.ks))]) (Kg (p0::t) a.p rfl) ?_
     have hkc:=hka o bc (p0::t++[a.p]) _ hbc (by simp) (.inl rfl) (by have:=hB a hin;simp at this ⊢;omega) (by have e:=congrArg List.length hs;simp only[La] at e;omega)
     generalize D8 T [l1,l2,l3] a.ks (p0::t++[a.p])=ts2 at *
     refine XC.Be (l:=hT x o bc [l1,l2,l3]) (nx:=k14) (rU 3 k7) hkc rfl rfl (by obtain _|⟨t0,o⟩:=o<;>exact Yb) Ya ?_
     rintro rc gc' ⟨rfl,hp⟩
     obtain⟨rfl,e6,e7⟩|⟨hn2,kN,m6,m7,ba,anc,m,cc,hle2,e6,nm7,e7,e8,rfl,rfl⟩:=hp.out
     ·refine⟨[],k19,xT x [] [] [] (ob [ouV o]) (ouB o bc) [l1,l2,l3],[],bA true,rfl,Rl,(by
       obtain _|⟨t0,o⟩:=o
       all_goals
        exact Yj0),trivial,rfl,?_⟩
      refine Yw1 ?_
      exact⟨(j+1,0),_,_,(show _-_<_-_ by omega),Trim.of (lo:=14) (l:=hG x (ob [ouV o]) (ouB o bc) [l1,l2,l3] [(k14,obl (nC n) [(0,5)])]) (nx:=k15) [(k14,k14)] rfl (show 14≤15 by decide) Yl (by obtain _|⟨t0,o⟩:=o<;>exact Yb) Yf,hj,Zl,.inl ⟨rfl,by rw[hs,hts0];rfl,rfl⟩⟩
     ·have ocn2:=Bh (o++ts2)
      refine⟨[(k19,kN)],k20,xT x [] [] [] (obl [.slice k19 0 (o++ts2).length 1 none] (m6++[])) ⟨.cells m7,false,false,[],[]⟩ [l1,l2,l3],[wld (oC (o++ts2)) k0],bA true,A9 (Rl) (by decide) hle2,(show 19≤20 by decide),(by
       obtain _|⟨t0,o⟩:=o
       all_goals
        exact Yj1),⟨⟨_,e8,⟨Ae.cells (by assumption),fun _=>⟨rfl,.inr ⟨_,_,_,.head _,rfl,hp.e0,rfl⟩⟩,rfl⟩⟩,trivial⟩,rfl,?_⟩
      refine Yw1 ?_
      exact⟨(j+1,1),_,_,(show _-_<_-_ by omega),Trim.of (lo:=14) (l:=hG x (obl [.slice k19 0 (o++ts2).length 1 none] (m6++[])) ⟨.cells m7,false,false,[],[]⟩ [l1,l2,l3] [(k14,obl (nC n) [(0,5)]),(k19,wld (oC (o++ts2)) k0)]) (nx:=k20) [(k14,k14),(k19,k19)] rfl (show 14≤20 by decide) Yl Yb Yf,hj,(show 1≤j+1 by omega),.inr ⟨by simp,by rw[hs,hts0];exact hn2,_,m7,nm7,by rw[hs,hts0];rfl⟩⟩
  ·have hfull:n.az.take j=n.az:=by rw[show j=n.az.length from by have:=A1 h;omega];exact List.take_length
   rw[hfull] at hts0
   rw[hts0]
   refine Yw1 ?_
   exact⟨rfl,rfl,rfl,rfl,rfl,rfl,rfl,Yk,.inl ⟨rfl,rfl,rfl⟩⟩
 ·replace hts0:Cd x T [l1,l2,l3] t (n.az.take j)≠[]:=hts0
  obtain _|_|_|_|m:=m
  ·exact absurd rfl hm0
  ·refine⟨fun h=>?_,fun h=>?_⟩
   ·have hj:j<n.az.length:=by have:=Ao h;omega
    have ha:n.az[j]?=some n.az[j]:=Gg hj
    have htk:n.az.take (j+1)=n.az.take j++[n.az[j]]:=List.take_succ_eq_append_getElem hj
    have hin:n.az[j]∈n.az:=List.getElem_mem hj
    generalize n.az[j]=a at ha htk hin
    have hga:=Ct ha
    obtain⟨a1,a2,a3⟩:=hal a hin
    have us:=Dn (al:=x.al) D hc a3 a1 (fun k hk=>by have:=a2 k hk;omega)
    have hs:=Dp x T [l1,l2,l3] t (n.az.take j) a
    rw[←htk] at hs
    have hle:=Fw x T [l1,l2,l3] t n.az (j+1)
    have hka:=hk a hin
    generalize Cd x T [l1,l2,l3] t n.az=full at hlen hle
    generalize hts:Cd x T [l1,l2,l3] t (n.az.take j)=ts at *
    generalize ho:o++ts=w at *
    obtain⟨t0,w,rfl⟩:∃p u,w=p::u:=by cases w with
     |nil=>exact absurd (List.append_eq_nil_iff.1 ho).2 hts0
     |cons p u=>exact⟨p,u,rfl⟩
    cases hbt:Cc x.al x.c a
    ·rw[hbt] at us hs
     simp only[Fj,if_false] at hs
     refine Yw1 ?_
     exact⟨(j+1,1),_,_,(show _-_<_-_ by omega),Trim.of (lo:=14) (l:=hG x (obl [.slice k19 0 (t0::w).length 1 none] l6) ⟨.cells c7,false,false,[],[]⟩ [l1,l2,l3] [(k14,obl (nC n) [(0,5)]),(k19,wld (oC (t0::w)) k0)]) (nx:=k20) [(k14,k14),(k19,k19)] rfl (show 14≤20 by decide) Yl (by have ocn1:=Bh (t0::w);exact Yb) Yf,hj,(show 1≤j+1 by omega),.inr ⟨by simp,by rw[hs];simpa using hts0,l6,c7,n7,by rw[hs,List.append_nil,ho];rfl⟩⟩
    ·rw[hbt] at us hs
     simp only[if_true] at hs
     obtain⟨p0,t,rfl⟩:∃p u,t=p::u:=by cases t with
     |nil=>exact absurd rfl ht
     |cons p u=>exact⟨p,u,rfl⟩
     ·refine Yw1 ?_
      refine⟨_,_,Iw (es:=4) (l:=tR (p0::t)),?_⟩
      refine Yw1 ?_
      refine⟨_,_,Fv rfl (by decide) (by have e:(tR (p0::t)).length=(p0::t).length:=Lm ..;omega),?_⟩
      refine Yw1 ?_
      refine XC.P8 (a:=[.v (.s (ksV a.ks))]) (Kg (p0::t) a.p rfl) ?_
      have hkc:=hka (t0::w) c7 (p0::t++[a.p]) _ n7 (by simp) (.inl rfl) (by have:=hB a hin;simp at this ⊢;omega) (by have e:=congrArg List.length hs;have e2:=congrArg List.length ho;simp only[La] at e e2;omega)
      generalize D8 T [l1,l2,l3] a.ks (p0::t++[a.p])=ts2 at *
      have ocn1:=Bh (t0::w)
      refine XC.Be (l:=hT x (t0::w) c7 [l1,l2,l3]) (nx:=k14) (rU 3 k19) hkc rfl rfl Yb Ya ?_
      rintro rc gc' ⟨rfl,hp⟩
      obtain⟨rfl,e6,e7⟩|⟨hn2,kN,m6,m7,ba,anc,m,cc,hle2,e6,nm7,e7,e8,rfl,rfl⟩:=hp.out
      ·refine⟨[],k24,xT x [] [] [] (obl [.slice k19 0 (t0::w).length 1 none] l6) (wld (oC (t0::w)) k0) [l1,l2,l3],[],bA true,rfl,Rl,(by
        exact Yj2),trivial,rfl,?_⟩
       refine Yw1 ?_
       exact⟨(j+1,1),_,_,(show _-_<_-_ by omega),Trim.of (lo:=14) (l:=hG x (obl [.slice k19 0 (t0::w).length 1 none] l6) ⟨.cells c7,false,false,[],[]⟩ [l1,l2,l3] [(k14,obl (nC n) [(0,5)]),(k19,wld (oC (t0::w)) k0)]) (nx:=k20) [(k14,k14),(k19,k19)] rfl (show 14≤20 by decide) Yl Yb Yf,hj,(show 1≤j+1 by omega),.inr ⟨by simp,by rw[hs];simpa using hts0,_,c7,n7,by rw[hs,List.append_nil,ho];rfl⟩⟩
      ·have ocn2:=Bh (t0::w++ts2)
       refine⟨[(k24,kN)],k25,xT x [] [] [] (obl [.slice k24 0 (t0::w++ts2).length 1 none] (m6++l6)) ⟨.cells m7,false,false,[],[]⟩ [l1,l2,l3],[wld (oC (t0::w++ts2)) k0],bA true,A9 (Rl) (by decide) hle2,(show 24≤25 by decide),(by
        exact Yj1),⟨⟨_,e8,⟨Ae.cells (by assumption),fun _=>⟨rfl,.inr ⟨_,_,_,.head _,rfl,hp.e0,rfl⟩⟩,rfl⟩⟩,trivial⟩,rfl,?_⟩
       refine Yw1 ?_
       exact⟨(j+1,2),_,_,(show _-_<_-_ by omega),Trim.of (lo:=14) (l:=hG x (obl [.slice k24 0 (t0::w++ts2).length 1 none] (m6++l6)) ⟨.cells c7,false,false,[],[]⟩ [l1,l2,l3] [(k14,obl (nC n) [(0,5)]),(k24,wld (oC (t0::w++ts2)) k0)]) (nx:=k25) [(k14,k14),(k24,k24)] rfl (show 14≤25 by decide) Yl Yb Yf,hj,(show 2≤j+1 by omega),.inr ⟨by simp,by rw[hs];simpa using fun h=>absurd h hts0,_,c7,n7,by rw[hs,←List.append_assoc,ho];rfl⟩⟩
   ·have hfull:n.az.take j=n.az:=by rw[show j=n.az.length from by have:=A1 h;omega];exact List.take_length
    simp only[hfull] at hts0 ⊢
    refine Yw1 ?_
    exact⟨rfl,rfl,rfl,rfl,rfl,rfl,rfl,Yk,.inr ⟨hts0,k19,_,c7,_,_,_,_,(show 14≤19 by decide),rfl,n7,rfl,rfl,rfl,rfl⟩⟩
  ·refine⟨fun h=>?_,fun h=>?_⟩
   ·have hj:j<n.az.length:=by have:=Ao h;omega
    have ha:n.az[j]?=some n.az[j]:=Gg hj
    have htk:n.az.take (j+1)=n.az.take j++[n.az[j]]:=List.take_succ_eq_append_getElem hj
    have hin:n.az[j]∈n.az:=List.getElem_mem hj
    generalize n.az[j]=a at ha htk hin
    have hga:=Ct ha
    obtain⟨a1,a2,a3⟩:=hal a hin
    have us:=Dn (al:=x.al) D hc a3 a1 (fun k hk=>by have:=a2 k hk;omega)
    have hs:=Dp x T [l1,l2,l3] t (n.az.take j) a
    rw[←htk] at hs
    have hle:=Fw x T [l1,l2,l3] t n.az (j+1)
    have hka:=hk a hin
    generalize Cd x T [l1,l2,l3] t n.az=full at hlen hle
    generalize hts:Cd x T [l1,l2,l3] t (n.az.take j)=ts at *
    generalize ho:o++ts=w at *
    obtain⟨t0,w,rfl⟩:∃p u,w=p::u:=by cases w with
     |nil=>exact absurd (List.append_eq_nil_iff.1 ho).2 hts0
     |cons p u=>exact⟨p,u,rfl⟩
    cases hbt:Cc x.al x.c a
    ·rw[hbt] at us hs
     simp only[Fj,if_false] at hs
     refine Yw1 ?_
     exact⟨(j+1,2),_,_,(show _-_<_-_ by omega),Trim.of (lo:=14) (l:=hG x (obl [.slice k24 0 (t0::w).length 1 none] l6) ⟨.cells c7,false,false,[],[]⟩ [l1,l2,l3] [(k14,obl (nC n) [(0,5)]),(k24,wld (oC (t0::w)) k0)]) (nx:=k25) [(k14,k14),(k24,k24)] rfl (show 14≤25 by decide) Yl (by have ocn1:=Bh (t0::w);exact Yb) Yf,hj,(show 2≤j+1 by omega),.inr ⟨by simp,by rw[hs];simpa using hts0,l6,c7,n7,by rw[hs,List.append_nil,ho];rfl⟩⟩
    ·rw[hbt] at us hs
     simp only[if_true] at hs
     obtain⟨p0,t,rfl⟩:∃p u,t=p::u:=by cases t with
     |nil=>exact absurd rfl ht
     |cons p u=>exact⟨p,u,rfl⟩
     ·refine Yw1 ?_
      refine⟨_,_,Iw (es:=4) (l:=tR (p0::t)),?_⟩
      refine Yw1 ?_
      refine⟨_,_,Fv rfl (by decide) (by have e:(tR (p0::t)).length=(p0::t).length:=Lm ..;omega),?_⟩
      refine Yw1 ?_
      refine XC.P8 (a:=[.v (.s (ksV a.ks))]) (Kg (p0::t) a.p rfl) ?_
      have hkc:=hka (t0::w) c7 (p0::t++[a.p]) _ n7 (by simp) (.inl rfl) (by have:=hB a hin;simp at this ⊢;omega) (by have e:=congrArg List.length hs;have e2:=congrArg List.length ho;simp only[La] at e e2;omega)
      generalize D8 T [l1,l2,l3] a.ks (p0::t++[a.p])=ts2 at *
      have ocn1:=Bh (t0::w)
      refine XC.Be (l:=hT x (t0::w) c7 [l1,l2,l3]) (nx:=k14) (rU 3 k24) hkc rfl rfl Yb Ya ?_
      rintro rc gc' ⟨rfl,hp⟩
      obtain⟨rfl,e6,e7⟩|⟨hn2,kN,m6,m7,ba,anc,m,cc,hle2,e6,nm7,e7,e8,rfl,rfl⟩:=hp.out
      ·refine⟨[],k29,xT x [] [] [] (obl [.slice k24 0 (t0::w).length 1 none] l6) (wld (oC (t0::w)) k0) [l1,l2,l3],[],bA true,rfl,Rl,(by
        exact Yj2),trivial,rfl,?_⟩
       refine Yw1 ?_
       exact⟨(j+1,2),_,_,(show _-_<_-_ by omega),Trim.of (lo:=14) (l:=hG x (obl [.slice k24 0 (t0::w).length 1 none] l6) ⟨.cells c7,false,false,[],[]⟩ [l1,l2,l3] [(k14,obl (nC n) [(0,5)]),(k24,wld (oC (t0::w)) k0)]) (nx:=k25) [(k14,k14),(k24,k24)] rfl (show 14≤25 by decide) Yl Yb Yf,hj,(show 2≤j+1 by omega),.inr ⟨by simp,by rw[hs];simpa using hts0,_,c7,n7,by rw[hs,List.append_nil,ho];rfl⟩⟩
      ·have ocn2:=Bh (t0::w++ts2)
       refine⟨[(k29,kN)],k30,xT x [] [] [] (obl [.slice k29 0 (t0::w++ts2).length 1 none] (m6++l6)) ⟨.cells m7,false,false,[],[]⟩ [l1,l2,l3],[wld (oC (t0::w++ts2)) k0],bA true,A9 (Rl) (by decide) hle2,(show 29≤30 by decide),(by
        exact Yj1),⟨⟨_,e8,⟨Ae.cells (by assumption),fun _=>⟨rfl,.inr ⟨_,_,_,.head _,rfl,hp.e0,rfl⟩⟩,rfl⟩⟩,trivial⟩,rfl,?_⟩
       refine Yw1 ?_
       exact⟨(j+1,3),_,_,(show _-_<_-_ by omega),Trim.of (lo:=14) (l:=hG x (obl [.slice k29 0 (t0::w++ts2).length 1 none] (m6++l6)) ⟨.cells c7,false,false,[],[]⟩ [l1,l2,l3] [(k14,obl (nC n) [(0,5)]),(k29,wld (oC (t0::w++ts2)) k0)]) (nx:=k30) [(k14,k14),(k29,k29)] rfl (show 14≤30 by decide) Yl Yb Yf,hj,(show 3≤j+1 by omega),.inr ⟨by simp,by rw[hs];simpa using fun h=>absurd h hts0,_,c7,n7,by rw[hs,←List.append_assoc,ho];rfl⟩⟩
   ·have hfull:n.az.take j=n.az:=by rw[show j=n.az.length from by have:=A1 h;omega];exact List.take_length
    simp only[hfull] at hts0 ⊢
    refine Yw1 ?_
    exact⟨rfl,rfl,rfl,rfl,rfl,rfl,rfl,Yk,.inr ⟨hts0,k24,_,c7,_,_,_,_,(show 14≤24 by decide),rfl,n7,rfl,rfl,rfl,rfl⟩⟩
  ·refine⟨fun h=>?_,fun h=>?_⟩
   ·have:=Ao h;omega
   ·have hfull:n.az.take j=n.az:=by rw[show j=n.az.length from by have:=A1 h;omega];exact List.take_length
    simp only[hfull] at hts0 ⊢
    refine Yw1 ?_
    exact⟨rfl,rfl,rfl,rfl,rfl,rfl,rfl,Yk,.inr ⟨hts0,k29,_,c7,_,_,_,_,(show 14≤29 by decide),rfl,n7,rfl,rfl,rfl,rfl⟩⟩
  ·omega
theorem Ej:∀i,i≤3→∀k,k<i→2*sz k+1≤sz i:=by decide
theorem wB {i:Nat} (hi:i≤3):∀{ks:List Nat},ks.length≤2→(∀k∈ks,k<i)→(ks.map sz).sum+1≤sz i
 |[],_,_=>by have:1≤2 ^ (i+1)-1:=by{ have:=Nat.pow_le_pow_right (n:=2) (by decide) (show 1≤i+1 by omega);omega }
             simpa[sz] using this
 |[x],_,h=>by have:=Ej i hi x (h x (by simp));simp;omega
 |[x,y],_,h=>by have:=Ej i hi x (h x (by simp));have:=Ej i hi y (h y (by simp));simp;omega
 |_::_::_::_,h,_=>by simp at h
theorem oS (x:TC) (T:Nat→List Tre) (D:I8) (hc:x.c<4) (w:WF0 x.f) (v:WF x.f) (hla:x.al.length=x.f.ns.length) (hT:∀i n,x.f.ns[i]?=some n→T i=Ov T x.al x.c n.az) :
  ∀i,i<x.f.ns.length→∀ls:List (List Nat),ls.length+i≤3→kQ x T ls→ER x T ls i:=by
 intro i
 induction i using Nat.strongRecOn with
 |ind i ih=>
  intro hi ls hls hleaf
  have hn:x.f.ns[i]?=some x.f.ns[i]:=Gg hi
  generalize x.f.ns[i]=n at hn
  have hg:=G0 hn
  rw[Ke (v.as0 i n hn)] at hg
  have nL:=w.Iy i n hn
  have hal:=w.al i n hn
  have hL:=w.len
  have kids:∀l:List Nat,l.length≤2→(∀k∈l,k<i)→Oa x T ls l:=by
   intro l
   induction l with
   |nil=>intro _ _;exact ES x T (by omega) hleaf
   |cons k l ihl=>
    intro h2 hk
    have hki:=hk k (by simp)
    have hl:=ihl (by simp at h2;omega) fun k h=>hk k (by simp[h])
    exact yZ x T (by omega) (ih k hki (by omega) _ (by simp;omega) (KN x T (by omega) (by simp) h2 hl))
  have hk:∀a∈n.az,Oa x T ls a.ks:=fun a ha=>kids a.ks (hal a ha).1 (hal a ha).2.1
  have hal':∀a∈n.az,a.ks.length≤2∧(∀k∈a.ks,k<i)∧a.d<16:=fun a ha=>⟨(hal a ha).1,(hal a ha).2.1,(hal a ha).2.2.1⟩
  intro o bc t hbc ht hB hlen
  have hB':∀a∈n.az,t.length+1+(a.ks.map sz).sum+cap ls≤1000:=fun a ha=>by
   have:=wB (i:=i) (by omega) (hal a ha).1 (hal a ha).2.1
   omega
  have he:eE T ls i t=Cd x T ls t n.az:=KJ (hT i n hn) ls t
  rw[he] at hlen ⊢
  have hm:x.mo=x.mo:=rfl
  obtain _|⟨l1,_|⟨l2,_|⟨l3,_|⟨l4,ls⟩⟩⟩⟩:=ls
  ·exact UI x T D hc hL hi hla hg nL hal' o bc t (by omega) hbc hB' hlen hk
  ·exact node1 x T D hc hL hi hla hg nL hal' o bc t (by omega) (ht (by simp)) hbc hB' hlen hk
  ·exact node2 x T D hc hL hi hla hg nL hal' o bc t (by omega) (ht (by simp)) hbc hB' hlen hk
  ·exact node3 x T D hc hL hi hla hg nL hal' o bc t (by omega) (ht (by simp)) hbc hB' hlen hk
  ·simp at hls;omega
def C4 (T:Nat→List Tre) (al:List Bool) (c:Nat) (rs:List (Nat×Nat)):List Tre:=rs.flatMap fun r=>if r.2.testBit c&&al.getD r.1 false then T r.1 else[]
theorem Xy (T:Nat→List Tre) (al:List Bool) (c:Nat) (rs:List (Nat×Nat)) (r:Nat×Nat):C4 T al c (rs++[r])=C4 T al c rs++(if r.2.testBit c&&al.getD r.1 false then T r.1 else[]):=by simp[C4]
theorem fY (T:Nat→List Tre) (al:List Bool) (c:Nat) (rs:List (Nat×Nat)) (j:Nat):(C4 T al c (rs.take j)).length≤(C4 T al c rs).length:=by
 have h:C4 T al c rs=C4 T al c (rs.take j)++C4 T al c (rs.drop j):=by
  conv=>lhs;rw[←List.take_append_drop j rs]
  rw[C4,List.flatMap_append];rfl
 rw[h,La];omega
theorem Uu (T:Nat→List Tre) (i:Nat):eE T [] i []=T i:=by simp[eE,M5]
abbrev hF0 (x:TC) (l6:List (Nat×Nat)):List (Key×Ap):=[(k0,foZ x.f),(k1,ob [.int .u64 (x.c:Nat)]),(k2,ob [.int .i64 (x.mo:Nat)]),(k3,obl [.lst 1 (bL x.al) none] [(0,1)]),(k4,obl [fW] [(0,1)]),(k5,obl [fX] [(0,1)]),(k6,obl [.Af] l6)]
abbrev hF1 (x:TC) (o:List Tre) (l6:List (Nat×Nat)):List (Key×Ap):=[(k0,foZ x.f),(k1,ob [.int .u64 (x.c:Nat)]),(k2,ob [.int .i64 (x.mo:Nat)]),(k3,obl [.lst 1 (bL x.al) none] [(0,1)]),(k4,obl [fW] [(0,1)]),(k5,obl [fX] [(0,1)]),(k6,obl [.slice k7 0 o.length 1 none] l6),(k7,wld (oC o) k0)]
theorem wC:∀i,i≤3→sz i≤15:=by decide
def osV (o:List Tre):PV:=slV 1 (o.map fun t=>[tV t])
theorem ET (x:TC) (T:Nat→List Tre) (D:S6) (D2:I8) (hc:x.c<4) (w:WF0 x.f) (v:WF x.f) (hal:x.al=alP x.c x.f.ns x.f.ns.length) (hTT:∀i n,x.f.ns[i]?=some n→T i=Ov T x.al x.c n.az)
  (hne:∀i,x.al.getD i false=true→T i≠[]) (hm:x.mo≤2000) (hlen:(C4 T x.al x.c x.f.rs).length≤x.mo):Ag Fn 21 [foA x.f,cA x.c,iA x.mo] (.tup [.s (osV (C4 T x.al x.c x.f.rs)),.s (.bool true)]):=by
 have hrlen:(x.f.rs.map rV).length=x.f.rs.length:=Lm ..
 have hL:=w.len
 have rL:=w.Oy
 have hla:x.al.length=x.f.ns.length:=by rw[hal,Ut (Rl)]
 have hbl:(bL x.al).length=x.al.length:=Lm ..
 have hget:∀k,k<x.al.length→(bL x.al)[(k:Int).toNat]?=some [.bool (x.al.getD k false)]:=fun k h=>by simp[bL,h,List.getD]
 have so:=EN D w v
 have li:=yW D2 hc w v
 rw[←hal] at li
 rw[Da w.n0 w.r0] at so li ⊢
 refine Am (pu:=pt) (vf:=C.f21) rfl ?_
 refine Yw1 ?_
 refine XW.N8 k0 (Zl) rfl rfl ?_
 refine XW.A7 (pu:=pt) (σ:=Nat) (fun i=>x.f.rs.length-i) (fun i=>[(k3,.v (.v (.s (.ptr k0 0)))),(k4,.v (.v (.s (.ptr k1 0)))),(k5,.v (.v (.s (.ptr k2 0)))),(k10,.v (.v (.s (.ptr k3 0)))),(k11,.v (.v (.s (.ptr k4 0)))),(k12,.v (.v (.s (.ptr k5 0)))),(k13,.v (.v (.s (.ptr k6 0)))),(k34,.v (PA.lst 3 (x.f.rs.map rV))),(k35,.v (iA (x.f.rs.map rV).length)),(k36,.v (iA i))])
  (fun i g=>i≤x.f.rs.length∧∃l6,(C4 T x.al x.c (x.f.rs.take i)=[]∧g=mkH (hF0 x l6) k7)∨(C4 T x.al x.c (x.f.rs.take i)≠[]∧g=mkH (hF1 x (C4 T x.al x.c (x.f.rs.take i)) l6) k8)) 0
  (Trim.of (l:=hF0 x []) (nx:=k7) [(k0,k0),(k1,k1),(k2,k2),(k3,k3),(k4,k4),(k5,k5),(k6,k6)] rfl (Zl) trivial Yb Yf) ⟨Zl,[],.inl ⟨rfl,rfl⟩⟩ ?_
 have w0:=w
 clear w
 rintro i g ⟨hi,l6,⟨hts,rfl⟩|⟨hts,rfl⟩⟩
 ·refine⟨fun h=>?_,fun h=>?_⟩
  ·have hi:i<x.f.rs.length:=by have:=Ao h;omega
   have hr:x.f.rs[i]?=some x.f.rs[i]:=Gg hi
   have htk:x.f.rs.take (i+1)=x.f.rs.take i++[x.f.rs[i]]:=List.take_succ_eq_append_getElem hi
   generalize x.f.rs[i]=r at hr htk
   have hgr:=Iv hr
   obtain⟨r1,r2,r3⟩:=w0.rt i r hr
   rw[r1] at hgr
   have dh:=D2.holds r.2 r2 x.c hc
   have ga:=hget i (by omega)
   have hs:=Xy T x.al x.c (x.f.rs.take i) r
   rw[←htk,r1] at hs
   have hle:=fY T x.al x.c x.f.rs (i+1)
   have hni:=hne i
   have hN:=oS x T D2 hc w0 v hla hTT i (by omega) [] (by simp;omega) (NJ x T hm)
   generalize C4 T x.al x.c x.f.rs=full at hlen hle
   cases hb1:r.2.testBit x.c
   ·rw[hb1] at dh hs
    simp only[Bool.and_true,Bool.and_false,Bool.false_and,Bool.true_and,Fj,if_false,if_true] at hs
    refine Yw1 ?_
    exact⟨i+1,_,_,by omega,Trim.of (l:=hF0 x l6) (nx:=k7) [(k0,k0),(k1,k1),(k2,k2),(k3,k3),(k4,k4),(k5,k5),(k6,k6)] rfl (Zl) trivial Yb Yf,hi,_,.inl ⟨by rw[hs,hts];rfl,rfl⟩⟩
   cases hb2:x.al.getD i false
   ·rw[hb1] at dh hs
    rw[hb2] at ga hs
    simp only[Bool.and_true,Bool.and_false,Bool.false_and,Bool.true_and,Fj,if_false,if_true] at hs
    refine Yw1 ?_
    exact⟨i+1,_,_,by omega,Trim.of (l:=hF0 x l6) (nx:=k7) [(k0,k0),(k1,k1),(k2,k2),(k3,k3),(k4,k4),(k5,k5),(k6,k6)] rfl (Zl) trivial Yb Yf,hi,_,.inl ⟨by rw[hs,hts];rfl,rfl⟩⟩
   rw[hb1] at dh hs
   rw[hb2] at ga hs
   replace hni:=hni hb2
   simp only[Bool.and_true,Bool.true_and,if_true] at hs
   have hbk:∀u∈([.int .i64 (i:Nat),dN r.2,.int .i64 (dR r.2)]:List PV),Ae u:=by
    intro u hu
    simp only[List.mem_cons,List.not_mem_nil,or_false] at hu
    rcases hu with rfl|rfl|rfl
    ·exact trivial
    ·exact Ar _ _
    ·exact trivial
   have hk:=hN [] [.int .i64 (i:Nat),dN r.2,.int .i64 (dR r.2)] [] hbk (fun h=>absurd rfl h) (by have:=wC i (by omega);simp[cap];omega) (by rw[Uu];have e:=congrArg List.length hs;simp only[La,hts,List.length_nil] at e;simp only[List.length_nil];omega)
   rw[Uu] at hk
   have hlt:=congrArg List.length hs
   simp only[La,hts,List.length_nil] at hlt
   generalize T i=ts at hk hs hni hlt
   have hpos:=List.length_pos_iff.2 hni
   refine Yw1 ?_
   refine XC.Be (l:=hT x [] [.int .i64 (i:Nat),dN r.2,.int .i64 (dR r.2)] []) (nx:=k8) (rT 0) hk rfl rfl Yb Ya ?_
   rintro rc gc' ⟨rfl,hp⟩
   obtain⟨rfl,e6,e7⟩|⟨hn2,kN,m6,m7,ba,anc,m,cc,hle2,e6,nm7,e7,e8,rfl,rfl⟩:=hp.out
   ·exact absurd rfl hni
   have ocn2:=Bh ts
   refine⟨[(k8,kN)],k9,xT x [(0,1)] [(0,1)] [(0,1)] (obl [.slice k8 0 ts.length 1 none] (m6++l6)) ⟨.cells m7,false,false,[],[(0,3)]⟩ [],[wld (oC ts) k0],bA true,A9 (Rl) (by decide) hle2,(show 8≤9 by decide),(by
    exact Yj1),⟨⟨_,e8,⟨Ae.cells (by assumption),fun _=>⟨rfl,.inr ⟨_,_,_,.head _,rfl,hp.e0,rfl⟩⟩,rfl⟩⟩,trivial⟩,rfl,?_⟩
   refine Yw1 ?_
   exact⟨i+1,_,_,by omega,Trim.of (l:=hF1 x ts (m6++l6)) (nx:=k8) [(k0,k0),(k1,k1),(k2,k2),(k3,k3),(k4,k4),(k5,k5),(k6,k6),(k7,k8)] rfl (Zl) trivial Yb Yf,hi,_,.inr ⟨by rw[hs,hts];exact hni,by rw[hs,hts];rfl⟩⟩
  ·have hfull:x.f.rs.take i=x.f.rs:=by rw[show i=x.f.rs.length from by have:=A1 h;omega];exact List.take_length
   rw[hfull] at hts
   rw[hts]
   exact Yw0
 ·refine⟨fun h=>?_,fun h=>?_⟩
  ·have hi:i<x.f.rs.length:=by have:=Ao h;omega
   have hr:x.f.rs[i]?=some x.f.rs[i]:=Gg hi
   have htk:x.f.rs.take (i+1)=x.f.rs.take i++[x.f.rs[i]]:=List.take_succ_eq_append_getElem hi
   generalize x.f.rs[i]=r at hr htk
   have hgr:=Iv hr
   obtain⟨r1,r2,r3⟩:=w0.rt i r hr
   rw[r1] at hgr
   have dh:=D2.holds r.2 r2 x.c hc
   have ga:=hget i (by omega)
   have hs:=Xy T x.al x.c (x.f.rs.take i) r
   rw[←htk,r1] at hs
   have hle:=fY T x.al x.c x.f.rs (i+1)
   have hni:=hne i
   have hN:=oS x T D2 hc w0 v hla hTT i (by omega) [] (by simp;omega) (NJ x T hm)
   generalize C4 T x.al x.c x.f.rs=full at hlen hle
   generalize C4 T x.al x.c (x.f.rs.take i)=w at *
   obtain⟨t0,w,rfl⟩:∃p u,w=p::u:=by cases w with
    |nil=>exact absurd rfl hts
    |cons p u=>exact⟨p,u,rfl⟩
   cases hb1:r.2.testBit x.c
   ·rw[hb1] at dh hs
    simp only[Bool.and_true,Bool.and_false,Bool.false_and,Bool.true_and,Fj,if_false,if_true] at hs
    refine Yw1 ?_
    exact⟨i+1,_,_,by omega,Trim.of (l:=hF1 x (t0::w) l6) (nx:=k8) [(k0,k0),(k1,k1),(k2,k2),(k3,k3),(k4,k4),(k5,k5),(k6,k6),(k7,k7)] rfl (Zl) trivial (by have ocn1:=Bh (t0::w);exact Yb) Yf,hi,_,.inr ⟨by rw[hs];simpa using hts,by rw[hs,List.append_nil]⟩⟩
   cases hb2:x.al.getD i false
   ·rw[hb1] at dh hs
    rw[hb2] at ga hs
    simp only[Bool.and_true,Bool.and_false,Bool.false_and,Bool.true_and,Fj,if_false,if_true] at hs
    refine Yw1 ?_
    exact⟨i+1,_,_,by omega,Trim.of (l:=hF1 x (t0::w) l6) (nx:=k8) [(k0,k0),(k1,k1),(k2,k2),(k3,k3),(k4,k4),(k5,k5),(k6,k6),(k7,k7)] rfl (Zl) trivial (by have ocn1:=Bh (t0::w);exact Yb) Yf,hi,_,.inr ⟨by rw[hs];simpa using hts,by rw[hs,List.append_nil]⟩⟩
   rw[hb1] at dh hs
   rw[hb2] at ga hs
   replace hni:=hni hb2
   simp only[Bool.and_true,Bool.true_and,if_true] at hs
   have hbk:∀u∈([]:List PV),Ae u:=fun _ h=>(by cases h)
   have hk:=hN (t0::w) [] [] hbk (fun h=>absurd rfl h) (by have:=wC i (by omega);simp[cap];omega) (by rw[Uu];have e:=congrArg List.length hs;simp only[La] at e;omega)
   rw[Uu] at hk
   have hlt:=congrArg List.length hs
   simp only[La] at hlt
   generalize T i=ts at hk hs hni hlt
   have hpos:=List.length_pos_iff.2 hni
   have ocn1:=Bh (t0::w)
   refine Yw1 ?_
   refine XC.Be (l:=hT x (t0::w) [] []) (nx:=k8) (rT 0) hk rfl rfl Yb Ya ?_
   rintro rc gc' ⟨rfl,hp⟩
   obtain⟨rfl,e6,e7⟩|⟨hn2,kN,m6,m7,ba,anc,m,cc,hle2,e6,nm7,e7,e8,rfl,rfl⟩:=hp.out
   ·exact absurd rfl hni
   have ocn2:=Bh (t0::w++ts)
   refine⟨[(k9,kN)],k10,xT x [(0,1)] [(0,1)] [(0,1)] (obl [.slice k9 0 (t0::w++ts).length 1 none] (m6++l6)) ⟨.cells m7,false,false,[],[]⟩ [],[wld (oC (t0::w++ts)) k0],bA true,A9 (Rl) (by decide) hle2,(show 9≤10 by decide),(by
    exact Yj1),⟨⟨_,e8,⟨Ae.cells (by assumption),fun _=>⟨rfl,.inr ⟨_,_,_,.head _,rfl,hp.e0,rfl⟩⟩,rfl⟩⟩,trivial⟩,rfl,?_⟩
   refine Yw1 ?_
   exact⟨i+1,_,_,by omega,Trim.of (l:=hF1 x (t0::w++ts) (m6++l6)) (nx:=k8) [(k0,k0),(k1,k1),(k2,k2),(k3,k3),(k4,k4),(k5,k5),(k6,k6),(k7,k9)] rfl (Zl) trivial Yb Yf,hi,_,.inr ⟨by rw[hs];simp,by rw[hs]⟩⟩
  ·have hfull:x.f.rs.take i=x.f.rs:=by rw[show i=x.f.rs.length from by have:=A1 h;omega];exact List.take_length
   rw[hfull] at hts ⊢
   generalize C4 T x.al x.c x.f.rs=w at *
   obtain⟨t0,w,rfl⟩:∃p u,w=p::u:=by cases w with
    |nil=>exact absurd rfl hts
    |cons p u=>exact⟨p,u,rfl⟩
   have oln:=EO (t0::w)
   have onf:∀u∈oC (t0::w),Et u:=fun u hu=>by obtain⟨t,_,rfl⟩:=List.mem_map.1 hu;exact Dj _ _
   have e:osV (t0::w)=.lst 1 (chunk 1 (t0::w).length (oC (t0::w))) none:=by rw[S8 oln,oC,List.map_map];rfl
   rw[e]
   refine Yw1 ?_
   exact⟨_,EI (Ho rfl (by rw[oln,Nat.mul_one]) (by simp) rfl (Ep onf))⟩
theorem Uv {T T':Nat→List Tre}:∀{ks:List Nat},(∀k∈ks,T k=T' k)→Au T ks=Au T' ks
 |[],_=>rfl
 |k::ks,h=>by rw[Au,Au,h k (.head _),Uv fun j hj=>h j (.tail _ hj)]
theorem oT {T T':Nat→List Tre} {al al':List Bool} {c:Nat} {az:List Al} (h:∀a∈az,∀k∈a.ks,T k=T' k∧al.getD k false=al'.getD k false):Ov T al c az=Ov T' al' c az:=by
 unfold Ov
 induction az with
 |nil=>rfl
 |cons a az ih=>
  rw[List.flatMap_cons,List.flatMap_cons,ih fun b hb=>h b (.tail _ hb)]
  have e1:Cc al c a=Cc al' c a:=by
   unfold Cc
   congr 2
   rw[Bool.eq_iff_iff,List.any_eq_true,List.any_eq_true]
   constructor<;>rintro⟨k,hk,e⟩<;>refine⟨k,hk,?_⟩<;>have:=(h a (.head _) k hk).2
   ·rw[←this];exact e
   ·rw[this];exact e
  rw[e1,Uv fun k hk=>(h a (.head _) k hk).1]
theorem cT {α:Type} {l m:List α} {d:α} {k:Nat} (h:k<l.length):(l++m).getD k d=l.getD k d:=by
 simp only[List.getD,List.getElem?_append_left h]
theorem wD {α:Type} {l:List α} {x d:α}:(l++[x]).getD l.length d=x:=by simp[List.getD]
def kR (al:List Bool) (c:Nat):List Nd→List (List Tre)→List (List Tre)
 |[],tab=>tab
 |n::ns,tab=>kR al c ns (tab++[Ov (fun k=>tab.getD k []) al c n.az])
theorem cU (al:List Bool) (c:Nat):∀(ns:List Nd) (tab:List (List Tre)) (k:Nat),k<tab.length→(kR al c ns tab).getD k []=tab.getD k []
 |[],_,_,_=>rfl
 |n::ns,tab,k,h=>by
  rw[kR,cU al c ns _ k (by simp;omega),cT h]
theorem wE (al:List Bool) (c:Nat):∀(ns:List Nd) (tab:List (List Tre)) (i:Nat) (n:Nd),ns[i]?=some n→∃tab':List (List Tre),tab'.length=tab.length+i∧(∀k,k<tab'.length→(kR al c ns tab).getD k []=tab'.getD k [])∧(kR al c ns tab).getD (tab.length+i) []=Ov (fun k=>tab'.getD k []) al c n.az
 |[],_,_,_,h=>by simp at h
 |m::ns,tab,0,n,h=>by
  simp only[List.getElem?_cons_zero,Sj] at h
  subst h
  refine⟨tab,by simp,fun k hk=>?_,?_⟩
  ·rw[kR,cU al c ns _ k (by simp;omega),cT hk]
  ·rw[kR,Nat.add_zero,cU al c ns _ _ (by simp),wD]
 |m::ns,tab,i+1,n,h=>by
  simp only[List.getElem?_cons_succ] at h
  obtain⟨tab',e1,e2,e3⟩:=wE al c ns (tab++[Ov (fun k=>tab.getD k []) al c m.az]) i n h
  simp only[La,List.length_singleton] at e1 e3
  refine⟨tab',by omega,e2,?_⟩
  rw[kR,show tab.length+(i+1)=tab.length+1+i from by omega]
  exact e3
def TF (al:List Bool) (c:Nat) (ns:List Nd) (i:Nat):List Tre:=(kR al c ns []).getD i []
theorem EU {al:List Bool} {c:Nat} {ns:List Nd} (hk:∀(i:Nat) (n:Nd),ns[i]?=some n→∀a∈n.az,∀k∈a.ks,k<i) (i:Nat) (n:Nd) (h:ns[i]?=some n):TF al c ns i=Ov (TF al c ns) al c n.az:=by
 obtain⟨tab',e1,e2,e3⟩:=wE al c ns [] i n h
 simp only[List.length_nil,Nat.zero_add] at e1 e3
 unfold TF
 rw[e3]
 exact oT fun a ha k hka=>⟨(e2 k (by have:=hk i n h a ha k hka;omega)).symm,rfl⟩
theorem kS (c:Nat):∀(ns:List Nd) (al:List Bool) (k:Nat),k<al.length→(alT c ns al).getD k false=al.getD k false
 |[],_,_,_=>rfl
 |n::ns,al,k,h=>by
  rw[alT,kS c ns _ k (by simp;omega),cT h]
theorem QS {c:Nat} {ns:List Nd} {i:Nat} {n:Nd} (h:ns[i]?=some n):(∀k,k<i→(alP c ns ns.length).getD k false=(alP c ns i).getD k false)∧(alP c ns ns.length).getD i false=n.az.any (Cc (alP c ns i) c):=by
 obtain⟨hi,hn⟩:=Gi.1 h
 have hl:(alP c ns i).length=i:=Ut (Nat.le_of_lt hi)
 have key:alP c ns ns.length=alT c (ns.drop i) (alP c ns i):=by
  have app:∀(a b:List Nd) (al:List Bool),alT c (a++b) al=alT c b (alT c a al):=by
   intro a
   induction a with
   |nil=>intro b al;rfl
   |cons x a ih=>intro b al;exact ih b _
  unfold alP
  rw[List.take_length]
  conv=>lhs;rw[←List.take_append_drop i ns]
  exact app _ _ _
 have hd:ns.drop i=n::ns.drop (i+1):=by rw[List.drop_eq_getElem_cons hi,hn]
 rw[key]
 refine⟨fun k hk=>kS c _ _ k (by omega),?_⟩
 rw[hd,alT,kS c _ _ i (by simp;omega)]
 have hg:=wD (l:=alP c ns i) (x:=n.az.any (Cc (alP c ns i) c)) (d:=false)
 rw[hl] at hg
 exact hg
theorem fZ {T:Nat→List Tre}:∀{ks:List Nat},(∀k∈ks,T k≠[])→Au T ks≠[]
 |[],_=>by simp[Au]
 |k::ks,h=>by
  obtain⟨s,hs⟩:=List.exists_mem_of_ne_nil _ (h k (.head _))
  obtain⟨u,hu⟩:=List.exists_mem_of_ne_nil _ (fZ fun j hj=>h j (.tail _ hj))
  exact List.ne_nil_of_mem (List.mem_flatMap.2 ⟨s,hs,List.mem_map.2 ⟨u,hu,rfl⟩⟩)
theorem cW {T:Nat→List Tre}:∀{ks:List Nat} {k:Nat},k∈ks→T k=[]→Au T ks=[]
 |j::ks,k,h,e=>by
  rw[Au]
  rcases List.mem_cons.1 h with rfl|h
  ·rw[e];rfl
  ·rw[cW h e];simp
theorem Wo {c:Nat} {ns:List Nd} (hk:∀(i:Nat) (n:Nd),ns[i]?=some n→∀a∈n.az,∀k∈a.ks,k<i):∀i,i<ns.length→((alP c ns ns.length).getD i false=true↔TF (alP c ns ns.length) c ns i≠[]):=by
 intro i
 induction i using Nat.strongRecOn with
 |ind i ih=>
  intro hi
  have hn:ns[i]?=some ns[i]:=Gg hi
  generalize ns[i]=n at hn
  obtain⟨h1,h2⟩:=QS (c:=c) hn
  rw[h2,EU hk i n hn,List.any_eq_true]
  constructor
  ·rintro⟨a,ha,hl⟩
   have hl2:Cc (alP c ns ns.length) c a=true:=by
    rw[←hl];unfold Cc;congr 2
    rw[Bool.eq_iff_iff,List.any_eq_true,List.any_eq_true]
    constructor<;>rintro⟨k,hka,e⟩<;>refine⟨k,hka,?_⟩<;>have:=h1 k (hk i n hn a ha k hka)
    ·rw[←this];exact e
    ·rw[this];exact e
   have hks:∀k∈a.ks,TF (alP c ns ns.length) c ns k≠[]:=fun k hka=>by
    have hki:=hk i n hn a ha k hka
    refine(ih k hki (by omega)).1 ?_
    simp only[Cc,Bool.and_eq_true,Bool.not_eq_true',List.any_eq_false] at hl2
    have:=hl2.2 k hka
    simpa using this
   obtain⟨s,hs⟩:=List.exists_mem_of_ne_nil _ (fZ hks)
   exact List.ne_nil_of_mem (List.mem_flatMap.2 ⟨a,ha,by rw[if_pos hl2];exact List.mem_map.2 ⟨s,hs,rfl⟩⟩)
  ·intro hne
   obtain⟨s,hs⟩:=List.exists_mem_of_ne_nil _ hne
   obtain⟨a,ha,hs⟩:=List.mem_flatMap.1 hs
   refine⟨a,ha,?_⟩
   by_cases hl2:Cc (alP c ns ns.length) c a=true
   ·rw[←hl2];unfold Cc;congr 2
    rw[Bool.eq_iff_iff,List.any_eq_true,List.any_eq_true]
    constructor<;>rintro⟨k,hka,e⟩<;>refine⟨k,hka,?_⟩<;>have:=h1 k (hk i n hn a ha k hka)
    ·rw[this];exact e
    ·rw[←this];exact e
   ·rw[if_neg hl2] at hs;cases hs
def A5 (T:Nat→List Tre) (c:Nat) (az:List Al):List Tre:=az.flatMap fun a=>if a.d.testBit c then(Au T a.ks).map (a.p::·) else[]
theorem sX {c:Nat} {ns:List Nd} (hk:∀(i:Nat) (n:Nd),ns[i]?=some n→∀a∈n.az,∀k∈a.ks,k<i) (i:Nat) (n:Nd) (h:ns[i]?=some n):TF (alP c ns ns.length) c ns i=A5 (TF (alP c ns ns.length) c ns) c n.az:=by
 have hi:i<ns.length:=(Gi.1 h).1
 rw[EU hk i n h,Ov,A5]
 have key:∀a∈n.az,(if Cc (alP c ns ns.length) c a then(Au (TF (alP c ns ns.length) c ns) a.ks).map (a.p::·) else[])=if a.d.testBit c then(Au (TF (alP c ns ns.length) c ns) a.ks).map (a.p::·) else[]:=fun a ha=>by
  unfold Cc
  cases a.d.testBit c
  ·simp
  ·by_cases hd:(a.ks.any fun k=>!(alP c ns ns.length).getD k false)=true
   ·obtain⟨k,hka,e⟩:=List.any_eq_true.1 hd
    have hki:=hk i n h a ha k hka
    have:TF (alP c ns ns.length) c ns k=[]:=Classical.byContradiction fun hne=>by
     rw[(Wo hk k (by omega)).2 hne] at e;simp at e
    rw[cW hka this];simp
   ·rw[Bool.not_eq_true] at hd;simp only[hd,Bool.not_false,Bool.and_true]
 clear h hi
 generalize n.az=az at key ⊢
 induction az with
 |nil=>rfl
 |cons a az ih=>
  rw[List.flatMap_cons,List.flatMap_cons,key a (.head _),ih fun b hb=>key b (.tail _ hb)]
theorem Lt {f:Fo} (w:WF0 f):∀(i:Nat) (n:Nd),f.ns[i]?=some n→∀a∈n.az,∀k∈a.ks,k<i:=fun i n h a ha=>(w.al i n h a ha).2.1
abbrev Tr2 (f:Fo) (c:Nat):Nat→List Tre:=TF (alP c f.ns f.ns.length) c f.ns
theorem gA (D:S6) (D2:I8) {f:Fo} {c mo:Nat} (hc:c<4) (w:WF0 f) (v:WF f) (hm:mo≤2000) (hlen:(C4 (Tr2 f c) (alP c f.ns f.ns.length) c f.rs).length≤mo) :
  Ag Fn 21 [foA f,cA c,iA mo] (.tup [.s (osV (C4 (Tr2 f c) (alP c f.ns f.ns.length) c f.rs)),.s (.bool true)]):=by
 refine ET ⟨f,alP c f.ns f.ns.length,c,mo⟩ (Tr2 f c) D D2 hc w v rfl (EU (Lt w)) (fun i h=>?_) hm hlen
 have hi:i<f.ns.length:=by
  refine Classical.byContradiction fun hn=>?_
  have hl:=Ut (c:=c) (ns:=f.ns) (Rl)
  have:(alP c f.ns f.ns.length).getD i false=false:=by simp only[List.getD,List.getElem?_eq_none (by omega:(alP c f.ns f.ns.length).length≤i)];rfl
  rw[this] at h;cases h
 exact(Wo (Lt w) i hi).1 h
theorem gB (D:S6) (D2:I8) {f:Fo} (w:WF0 f) (v:WF f) (h0:∀r∈f.rs,r.2.testBit 0=false):Ag Fn 28 [foA f] (bA true):=by
 have e:C4 (Tr2 f 0) (alP 0 f.ns f.ns.length) 0 f.rs=[]:=by
  unfold C4
  refine List.flatMap_eq_nil_iff.2 fun r hr=>?_
  rw[h0 r hr];simp
 have t:=gA (c:=0) (mo:=0) D D2 (by decide) w v (by decide) (by rw[e];exact Rl)
 rw[e] at t
 rw[Da w.n0 w.r0] at t ⊢
 refine Am (pu:=pt) (vf:=C.f28) rfl ?_
 exact Yw0
def mm (m:List (Nat×PV)):List (PC×PC):=m.map fun p=>(.s (.int .i64 (p.1:Nat)),.s p.2)
def fnd:List (Nat×PV)→Nat→Option PV
 |[],_=>none
 |p::m,k=>if p.1=k then some p.2 else fnd m k
theorem sY (k:Nat):∀m:List (Nat×PV),O8 (.one .int) (.s (.int .i64 (k:Nat))) (mm m)=some ((fnd m k).map PC.s)
 |[]=>rfl
 |p::m=>by
  show O8 (.one .int) (.s (.int .i64 (k:Nat))) ((.s (.int .i64 (p.1:Nat)),.s p.2)::mm m)=_
  have he:Ol (.one .int) (.s (.int .i64 (k:Nat))) (.s (.int .i64 (p.1:Nat)))=some (decide (p.1=k)):=by
   have:Ol (.one .int) (.s (.int .i64 (k:Nat))) (.s (.int .i64 (p.1:Nat)))=some ((k:Int)==(p.1:Int)):=rfl
   rw[this];congr 1;by_cases h:p.1=k<;>simp[h];omega
  rw[O8,he,fnd]
  by_cases h:p.1=k
  ·simp[h]
  ·simp[h,sY k m]
theorem NK (k:Nat) (v:PV):∀m:List (Nat×PV),fnd m k=none→Vj (.one .int) (.s (.int .i64 (k:Nat))) (.s v) (mm m)=some (mm (m++[(k,v)]))
 |[],_=>rfl
 |p::m,h=>by
  show Vj (.one .int) (.s (.int .i64 (k:Nat))) (.s v) ((.s (.int .i64 (p.1:Nat)),.s p.2)::mm m)=_
  have he:Ol (.one .int) (.s (.int .i64 (k:Nat))) (.s (.int .i64 (p.1:Nat)))=some (decide (p.1=k)):=by
   have:Ol (.one .int) (.s (.int .i64 (k:Nat))) (.s (.int .i64 (p.1:Nat)))=some ((k:Int)==(p.1:Int)):=rfl
   rw[this];congr 1;by_cases h:p.1=k<;>simp[h];omega
  rw[fnd] at h
  by_cases hk:p.1=k
  ·rw[if_pos hk] at h;cases h
  ·rw[if_neg hk] at h
   rw[Vj,he]
   simp only[hk,decide_false]
   rw[NK k v m h];rfl
theorem UM {b:Key} {g:Ab} {m:List (Nat×PV)} {own frz:Bool} {anc:List Key} {log:List (Nat×Nat)} {k:Nat} (hg:g.get b=some ⟨.map (mm m),own,frz,anc,log⟩) :
  opP (.lookup (.one .int) (.s .Af) true) [.v (.s (.map b)),.v (.s (.int .i64 (k:Nat)))] g=some (match fnd m k with
   |some v=>.tup [.s v,.s (.bool true)]
   |none=>.tup [.s .Af,.s (.bool false)],g):=by
 show Es (.one .int) (.s .Af) true [.v (.s (.map b)),.v (.s (.int .i64 (k:Nat)))] g=_
 unfold Es
 simp only[gU,Ow,hg,Em,sY]
 cases fnd m k<;>rfl
theorem XJ {b:Key} {g:Ab} {m:List (Nat×PV)} {log:List (Nat×Nat)} {k:Nat} {v:PV} (hg:g.get b=some ⟨.map (mm m),true,false,[],log⟩) (h:fnd m k=none) :
  opP (.Gq (.one .int)) [.v (.s (.map b)),.v (.s (.int .i64 (k:Nat))),.v (.s v)] g=some (.unit,g.upd b (some ⟨.map (mm (m++[(k,v)])),true,false,[],(0,0)::log⟩)):=by
 show I4 (.one .int) [.v (.s (.map b)),.v (.s (.int .i64 (k:Nat))),.v (.s v)] g=_
 unfold I4
 simp only[hg,Em,NK k v m h]
 rfl
def Bk (T:Nat→List Tre) (m:List (Nat×PV)):Prop:=∀p∈m,Aq (T p.1).length p.2
theorem Bk.fnd {T:Nat→List Tre}:∀{m:List (Nat×PV)},Bk T m→∀{k:Nat} {v:PV},Go.Pv.fnd m k=some v→Aq (T k).length v
 |[],_,_,_,h=>by cases h
 |p::m,hm,k,v,h=>by
  rw[Go.Pv.fnd] at h
  split at h
  ·next e=>subst e;cases h;exact hm p (.head _)
  ·exact Bk.fnd (fun q hq=>hm q (.tail _ hq)) h
theorem Bk.snoc {T:Nat→List Tre} {m:List (Nat×PV)} (h:Bk T m) {k:Nat} {v:PV} (hv:Aq (T k).length v):Bk T (m++[(k,v)]):=fun p hp=>by
 rcases List.mem_append.1 hp with hp|hp
 ·exact h p hp
 ·simp only[List.mem_singleton] at hp;subst hp;exact hv
theorem Aq.flat {n:Nat} {v:PV} (h:Aq n v):Et v:=by cases h<;>trivial
theorem Aq.lt {n:Nat} {v:PV} (h:Aq n v):n<4294967296:=by cases h<;>first|decide|assumption
theorem Aq.nk {n:Nat} {v:PV} (h:Aq n v):Ae v:=by cases h<;>trivial
theorem Bk.rn {T:Nat→List Tre} {m:List (Nat×PV)} (h:Bk T m) (ρ:Key→Option Key):RnB ρ (.map (mm m)) (.map (mm m)):=by
 show Aa _ (mm m) (mm m)
 induction m with
 |nil=>exact .nil
 |cons p m ih=>exact .cons ⟨rfl,(h p (.head _)).nk.rn⟩ (ih fun q hq=>h q (.tail _ hq))
theorem G8.map {T:Nat→List Tre} {m:List (Nat×PV)} (h:Bk T m) {ρ:Key→Option Key} {K:Ab} {log log':List (Nat×Nat)}:G8 ρ K ⟨.map (mm m),true,false,[],log⟩ ⟨.map (mm m),true,false,[],log'⟩:=⟨h.rn ρ,fun _=>⟨rfl,.inl .nil⟩,rfl⟩
abbrev tbC (f:Fo) (c:Nat) (tot:PV):List PV:=[.lst 5 (f.ns.map nV) none,.lst 3 (f.rs.map rV) none,.int .u64 (c:Nat),.map k1,.func 92 [(k0,0)] [],tot,.bool false]
abbrev mpB (m:List (Nat×PV)) (l:List (Nat×Nat)):Ap:=⟨.map (mm m),true,false,[],l⟩
abbrev tyL (f:Fo) (c:Nat) (tot:PV) (m:List (Nat×PV)) (l0 l1:List (Nat×Nat)):List (Key×Ap):=[(k0,obl (tbC f c tot) l0),(k1,mpB m l1)]
abbrev tyX (f:Fo) (c:Nat) (tot:PV) (m:List (Nat×PV)) (l0 l1:List (Nat×Nat)):List (Option Ap):=[some (obl (tbC f c tot) l0),some (mpB m l1)]
abbrev tyR:List (Key×Key):=[(k0,k0),(k1,k1)]
def Lg (l:List (Nat×Nat)):Prop:=∀q∈l,q=(6,1)
theorem Lg.nil:Lg []:=fun _ h=>absurd h List.not_mem_nil
theorem Lg.one:Lg [(6,1)]:=fun _ h=>List.mem_singleton.1 h
theorem Lg.app {a b:List (Nat×Nat)} (h:Lg a) (h2:Lg b):Lg (a++b):=fun q hq=>(List.mem_append.1 hq).elim (h q) (h2 q)
theorem Lg.apart {a:List (Nat×Nat)} (h:Lg a) {o n:Nat} (ho:o+n≤6):Pb o n a=true:=by
 induction a with
 |nil=>rfl
 |cons q a ih=>
  have:=h q (.head _)
  subst this
  rw[Pb,ih fun p hp=>h p (.tail _ hp),Bool.and_true,Bool.or_eq_true]
  exact .inr (Nat.ble_eq_true_of_le ho)
theorem Lg.take {a l:List (Nat×Nat)} (h:Lg a) {o n:Nat} (ho:o+n≤6):Pb o n ((a++l).take ((a++l).length-l.length))=true:=by
 rw[La,Nat.add_sub_cancel,List.take_left' rfl];exact h.apart ho
theorem oU {l l':List Key} {K:List Key→Prop} (h:l=l') (hk:P5 l' K):P5 l K:=by subst h;exact hk
structure gC (T:Nat→List Tre) (f:Fo) (c:Nat) (tot:PV) (m0:List (Nat×PV)) (bd n:Nat) (r:PA) (g:Ab):Prop where
 num:∃v,r=.v (.s v)∧Aq n v
 blk:∃m l0 l1,Bk T m∧(∀k,bd≤k→fnd m k=fnd m0 k)∧Lg l0∧g.get k0=some (obl (tbC f c tot) l0)∧g.get k1=some (mpB m l1)
theorem oV {k j:Nat} {v:PV} (h:j≠k):∀m:List (Nat×PV),fnd (m++[(j,v)]) k=fnd m k
 |[]=>by simp[fnd,h]
 |p::m=>by simp only[List.cons_append,fnd,oV h m]
theorem Du {T:Nat→List Tre} {f:Fo} {c:Nat} {tot:PV} {m:List (Nat×PV)} {l0 l1:List (Nat×Nat)} (ht:Ae tot) (hm:Bk T m) {g:Ab} (e0:g.get k0=some (obl (tbC f c tot) l0)) (e1:g.get k1=some (mpB m l1)):Ou (rho 0 tyR) g (tyL f c tot m [] []):=
 ⟨⟨_,_,rfl,e0,.same Yc⟩,⟨_,_,rfl,e1,.map hm⟩,trivial⟩
theorem Dz {T:Nat→List Tre} {f:Fo} {c:Nat} {tot:PV} {m m':List (Nat×PV)} {a0 a1 l0 l1:List (Nat×Nat)} {gc' g:Ab} {q0 q1:Ap} (ht:Ae tot) (hm:Bk T m') (e0:gc'.get k0=some (obl (tbC f c tot) a0)) (e1:gc'.get k1=some (mpB m' a1))
  (h0:g.get k0=some q0) (h1:g.get k1=some q1) (hq0:q0.log=l0) (hq1:q1.log=l1):M4 (muR tyR []) g gc' (tyL f c tot m [] []) tyR (tyX f c tot m' (a0++l0) (a1++l1)):=
 ⟨⟨_,_,_,e0,.same Yc,h0,rfl,rfl,by rw[hq0]⟩,⟨_,_,_,e1,.map hm,h1,rfl,rfl,by rw[hq1]⟩,trivial⟩
theorem S9 {T:Nat→List Tre} {f:Fo} {c:Nat} {tot:PV} {m:List (Nat×PV)} (hm:Bk T m) {a b:Nat} {v w:PV} (ha:Aq a v) (hb:Aq b w) (hs:a+b<4294967296) :
  XC Fn 62 [.v (.s (.ptr k0 0)),.v (.s v),.v (.s w)] (mkH (tyL f c tot m [] []) k2) (gC T f c tot m 0 (a+b)):=by
 obtain⟨r,h1,h2⟩:=natAdd ha hb hs
 have fv:=ha.flat
 have fw:=hb.flat
 refine XC.of (pu:=pt) (vf:=C.f62) rfl ?_
 refine Yw1 ?_
 exact⟨⟨_,rfl,h2⟩,_,_,_,hm,fun _ _=>rfl,Lg.one,rfl,rfl⟩
theorem Uw {T:Nat→List Tre} {f:Fo} {c:Nat} {tot:PV} {m:List (Nat×PV)} (hm:Bk T m) {a b:Nat} {v w:PV} (ha:Aq a v) (hb:Aq b w) (hs:a*b<4294967296) :
  XC Fn 63 [.v (.s (.ptr k0 0)),.v (.s v),.v (.s w)] (mkH (tyL f c tot m [] []) k2) (gC T f c tot m 0 (a*b)):=by
 obtain⟨r,h1,h2⟩:=natMul ha hb hs
 have fv:=ha.flat
 have fw:=hb.flat
 refine XC.of (pu:=pt) (vf:=C.f63) rfl ?_
 refine Yw1 ?_
 exact⟨⟨_,rfl,h2⟩,_,_,_,hm,fun _ _=>rfl,Lg.one,rfl,rfl⟩
end Go.Pv
end
section
noncomputable section
namespace Go.Pv
open Go.Vm Go.Vm.C
open Go.Vm.Key (kn)
set_option maxRecDepth 40000
set_option maxHeartbeats 0
variable {T:Nat→List Tre} {f:Fo} {c:Nat} {tot:PV}
def EV (T:Nat→List Tre) (f:Fo) (c:Nat) (tot:PV) (i:Nat):Prop:=∀m,Bk T m→XC Fn 66 [.v (.s (.ptr k0 3)),iA i] (mkH (tyL f c tot m [] []) k2) (gC T f c tot m (i+1) (T i).length)
def NL (T:Nat→List Tre) (f:Fo) (c:Nat) (tot:PV) (i:Nat):Prop:=∀m,Bk T m→XC Fn 92 [.v (.s (.ptr k0 0)),iA i] (mkH (tyL f c tot m [] []) k2) (gC T f c tot m i (T i).length)
theorem QT (ht:Ae tot) {i:Nat} (hG:NL T f c tot i):EV T f c tot i:=by
 intro m hm
 have hl:=fun(g:Ab) (l:List (Nat×Nat)) (hg:g.get k1=some (mpB m l))=>UM (k:=i) hg
 refine XC.of (pu:=pt) (vf:=C.f66) rfl ?_
 refine Yw1 ?_
 refine⟨_,_,hl _ _ rfl,?_⟩
 cases hf:fnd m i with
 |some v=>
  refine Yw1 ?_
  exact⟨⟨v,rfl,hm.fnd hf⟩,m,_,_,hm,fun _ _=>rfl,Lg.nil,rfl,rfl⟩
 |none=>
  refine Yw1 ?_
  refine XC.Be (l:=tyL f c tot m [] []) (nx:=k2) tyR (hG m hm) rfl rfl (Du ht hm rfl rfl) Ya ?_
  rintro rc gc' ⟨⟨v,rfl,hv⟩,m',l0,l1,hm',hk,lgl0,e0,e1⟩
  refine⟨[],k2,tyX f c tot m' (l0++[]) (l1++[]),[],.v (.s v),rfl,Rl,Dz ht hm' e0 e1 rfl rfl rfl rfl,trivial,hv.nk.rn,?_⟩
  refine Yw1 ?_
  refine⟨_,_,XJ rfl (by rw[hk i (Rl)];exact hf),?_⟩
  refine Yw1 ?_
  exact⟨⟨v,rfl,hv⟩,_,_,_,hm'.snoc hv,fun k hk2=>by rw[oV (by omega),hk k (by omega)],Yg,rfl,rfl⟩
def Qa (T:Nat→List Tre) (f:Fo) (c:Nat) (tot:PV) (k:Nat):Prop:=∀m,Bk T m→XC Fn 64 [.v (.s (.ptr k0 0)),.v (.agg (kV k))] (mkH (tyL f c tot m [] []) k2) (gC T f c tot m (k+1) (T k).length)
theorem sZ (ht:Ae tot) {i:Nat} (hG:EV T f c tot i):Qa T f c tot i:=by
 intro m hm
 refine XC.of (pu:=pt) (vf:=C.f64) rfl ?_
 refine Yw1 ?_
 refine XC.Be (l:=tyL f c tot m [] []) (nx:=k2) tyR (hG m hm) rfl rfl (Du ht hm rfl rfl) Ya ?_
 rintro rc gc' ⟨⟨v,rfl,hv⟩,m',l0,l1,hm',hk,lgl0,e0,e1⟩
 refine⟨[],k3,tyX f c tot m' (l0++[]) (l1++[]),[],.v (.s v),rfl,Rl,Dz ht hm' e0 e1 rfl rfl rfl rfl,trivial,hv.nk.rn,?_⟩
 refine Yw1 ?_
 exact⟨⟨v,rfl,hv⟩,_,_,_,hm',hk,Yg,rfl,rfl⟩
theorem Ob (x:Nat):(Au T [x]).length=(T x).length:=by
 simp[Au,List.length_flatMap,Function.comp_def,List.map_const']
theorem Kh (x y:Nat):(Au T [x,y]).length=(T x).length*(T y).length:=by
 rw[Au,List.length_flatMap]
 have:(List.map (fun a=>(List.map (fun x=>a++x) (Au T [y])).length) (T x))=(T x).map fun _=>(T y).length:=by
  congr 1;funext a;rw[Lm,Ob]
 rw[this,List.map_const',List.sum_replicate_nat]
theorem kT (ht:Ae tot) {i:Nat} {a:Al} (h2:a.ks.length≤2) (hk:∀k∈a.ks,k<i∧Qa T f c tot k) (hs:(Au T a.ks).length<4294967296) {m:List (Nat×PV)} (hm:Bk T m) :
  XC Fn 65 [.v (.s (.ptr k0 0)),.v (.agg (aC a))] (mkH (tyL f c tot m [] []) k2) (gC T f c tot m i (Au T a.ks).length):=by
 obtain⟨p,ks,d⟩:=a
 refine XC.XE ?_
 refine XC.of (pu:=pt) (vf:=C.f65) rfl ?_
 rcases ks with _|⟨x,_|⟨y,_|⟨z,ks⟩⟩⟩
 ·refine Yw1 ?_
  refine XW.Ad (pu:=pt) ?_
  refine Yw1 ?_
  refine XC.of (pu:=pt) (vf:=C.f119) rfl ?_
  refine XC.of (pu:=pt) (vf:=C.f183) rfl ?_
  refine Yw1 ?_
  refine XW.Ad (pu:=pt) ?_
  refine Yw1 ?_
  refine XW.Ad (pu:=pt) ?_
  refine Yw1 ?_
  exact⟨_,_,rfl,⟨_,rfl,Aq.one 1 (by decide) (by decide)⟩,_,_,_,hm,fun _ _=>rfl,Lg.nil,rfl,rfl⟩
 ·obtain⟨hx,kx⟩:=hk x (by simp)
  rw[Ob] at hs ⊢
  refine Yw1 ?_
  refine XW.Ad (pu:=pt) ?_
  refine Yw1 ?_
  refine XC.Be (l:=tyL f c tot m [] []) (nx:=k2) tyR (kx m hm) rfl rfl (Du ht hm rfl rfl) Ya ?_
  rintro rc gc' ⟨⟨v,rfl,hv⟩,m',l0,l1,hm',hk1,lgl0,e0,e1⟩
  refine⟨[],k5,tyX f c tot m' (l0++[]) (l1++[]),[],.v (.s v),rfl,Rl,Dz ht hm' e0 e1 rfl rfl rfl rfl,trivial,hv.nk.rn,?_⟩
  have hk2:∀k,i≤k→fnd m' k=fnd m k:=fun k h=>hk1 k (by omega)
  have hmul:=fun m (hm:Bk T m)=>Uw (f:=f) (c:=c) (tot:=tot) hm (Aq.one 1 (by decide) (by decide)) hv (by omega)
  generalize hn:(T x).length=n at *
  cases hv
  ·refine Yw1 ?_
   refine XW.Ad (pu:=pt) ?_
   refine Yw1 ?_
   refine XC.of (pu:=pt) (vf:=C.f119) rfl ?_
   refine XC.of (pu:=pt) (vf:=C.f183) rfl ?_
   refine Yw1 ?_
   refine XW.Ad (pu:=pt) ?_
   refine Yw1 ?_
   refine XC.of (pu:=pt) (vf:=C.f120) rfl ?_
   refine Yw1 ?_
   exact⟨_,_,rfl,⟨_,rfl,Aq.nil⟩,_,_,_,hm',hk2,Yg,rfl,rfl⟩
  ·refine Yw1 ?_
   refine XW.Ad (pu:=pt) ?_
   refine Yw1 ?_
   refine XC.of (pu:=pt) (vf:=C.f119) rfl ?_
   refine XC.of (pu:=pt) (vf:=C.f183) rfl ?_
   refine Yw1 ?_
   refine XW.Ad (pu:=pt) ?_
   refine Yw1 ?_
   refine XC.of (pu:=pt) (vf:=C.f120) rfl ?_
   refine Yw1 ?_
   exact⟨_,_,rfl,⟨_,rfl,Aq.nil⟩,_,_,_,hm',hk2,Yg,rfl,rfl⟩
  ·refine Yw1 ?_
   refine XW.Ad (pu:=pt) ?_
   refine Yw1 ?_
   refine XC.of (pu:=pt) (vf:=C.f119) rfl ?_
   refine XC.of (pu:=pt) (vf:=C.f183) rfl ?_
   refine Yw1 ?_
   refine XW.Ad (pu:=pt) ?_
   refine Yw1 ?_
   refine XC.of (pu:=pt) (vf:=C.f120) rfl ?_
   refine Yw1 ?_
   refine XW.Ad (pu:=pt) ?_
   refine Yw1 ?_
   refine XW.Ad (pu:=pt) ?_
   refine Yw1 ?_
   refine XC.P8 (a:=[.v (.s (.ptr k0 0))]) (x':=.v (.s (.lst 1 [[.int .u32 (1:Nat)]] none))) rfl ?_
   refine XC.Be (l:=tyL f c tot m' [] []) (nx:=k2) tyR (hmul m' hm') rfl rfl (Du ht hm' rfl rfl) Ya ?_
   rintro rc gc' ⟨⟨u,rfl,hu⟩,m2,a0,a1,hm2,hj,lga0,e0,e1⟩
   refine⟨[],k7,tyX f c tot m2 (a0++_) (a1++_),[],.v (.s u),rfl,Rl,Dz ht hm2 e0 e1 rfl rfl rfl rfl,trivial,hu.nk.rn,?_⟩
   refine Yw1 ?_
   refine XW.Ad (pu:=pt) ?_
   refine Yw1 ?_
   rw[Nat.one_mul] at hu
   exact⟨_,_,Wn (hu.frz _),⟨_,rfl,hu⟩,_,_,_,hm2,fun k h=>by rw[hj k (Zl),hk2 k h],Yg,rfl,rfl⟩
 ·obtain⟨hx,kx⟩:=hk x (by simp)
  obtain⟨hy,ky⟩:=hk y (by simp)
  clear h2 hk
  rw[Kh] at hs ⊢
  have hs':True→(T x).length*(T y).length<4294967296:=fun _=>hs
  clear hs
  refine⟨_,_,QR (n:=2) rfl (by decide) (by decide),?_⟩
  refine XW.Ad (pu:=pt) ?_
  refine Yw1 ?_
  refine XC.Be (l:=tyL f c tot m [] []) (nx:=k2) tyR (kx m hm) rfl rfl (Du ht hm rfl rfl) Ya ?_
  rintro rc gc' ⟨⟨v,rfl,hv⟩,m',l0,l1,hm',hk1,lgl0,e0,e1⟩
  refine⟨[],k5,tyX f c tot m' (l0++[]) (l1++[]),[],.v (.s v),rfl,Rl,Dz ht hm' e0 e1 rfl rfl rfl rfl,trivial,hv.nk.rn,?_⟩
  refine Yw1 ?_
  refine XW.Ad (pu:=pt) ?_
  refine Yw1 ?_
  clear e0 e1
  refine XC.Be (l:=tyL f c tot m' [] []) (nx:=k2) tyR (ky m' hm') rfl rfl (Du ht hm' rfl rfl) Ya ?_
  rintro rc gc' ⟨⟨w,rfl,hw⟩,m2,b0,b1,hm2,hk2,lgb0,e0,e1⟩
  refine⟨[],k7,tyX f c tot m2 (b0++_) (b1++_),[],.v (.s w),rfl,Rl,Dz ht hm2 e0 e1 rfl rfl rfl rfl,trivial,hw.nk.rn,?_⟩
  have hk3:∀k,i≤k→fnd m2 k=fnd m k:=fun k h=>by rw[hk2 k (by omega),hk1 k (by omega)]
  have hmul:=fun m (hm:Bk T m)=>Uw (f:=f) (c:=c) (tot:=tot) hm (Aq.one 1 (by decide) (by decide)) hv (by have:=hv.lt;omega)
  have hmul2:=fun m (hm:Bk T m) u (hu:Aq (T x).length u)=>Uw (f:=f) (c:=c) (tot:=tot) hm hu hw (hs' trivial)
  clear hs'
  generalize hn:(T x).length=n at *
  generalize hq:(T y).length=q at *
  refine Yw1 ?_
  refine XW.Ad (pu:=pt) ?_
  cases hv
  ·refine Yw1 ?_
   refine XC.of (pu:=pt) (vf:=C.f119) rfl ?_
   refine XC.of (pu:=pt) (vf:=C.f183) rfl ?_
   refine Yw1 ?_
   refine XW.Ad (pu:=pt) ?_
   refine Yw1 ?_
   refine XC.of (pu:=pt) (vf:=C.f120) rfl ?_
   refine Yw1 ?_
   exact⟨_,_,rfl,⟨_,rfl,by first|(rw[Nat.zero_mul];exact Aq.nil)|(rw[Nat.mul_zero];exact Aq.nil)⟩,_,_,_,hm2,hk3,Yg,rfl,rfl⟩
  ·refine Yw1 ?_
   refine XC.of (pu:=pt) (vf:=C.f119) rfl ?_
   refine XC.of (pu:=pt) (vf:=C.f183) rfl ?_
   refine Yw1 ?_
   refine XW.Ad (pu:=pt) ?_
   refine Yw1 ?_
   refine XC.of (pu:=pt) (vf:=C.f120) rfl ?_
   refine Yw1 ?_
   exact⟨_,_,rfl,⟨_,rfl,by first|(rw[Nat.zero_mul];exact Aq.nil)|(rw[Nat.mul_zero];exact Aq.nil)⟩,_,_,_,hm2,hk3,Yg,rfl,rfl⟩
  ·refine Yw1 ?_
   refine XC.of (pu:=pt) (vf:=C.f119) rfl ?_
   refine XC.of (pu:=pt) (vf:=C.f183) rfl ?_
   refine Yw1 ?_
   refine XW.Ad (pu:=pt) ?_
   refine Yw1 ?_
   refine XC.of (pu:=pt) (vf:=C.f120) rfl ?_
   refine Yw1 ?_
   refine XW.Ad (pu:=pt) ?_
   refine Yw1 ?_
   cases hw
   ·refine XC.of (pu:=pt) (vf:=C.f120) rfl ?_
    refine Yw1 ?_
    exact⟨_,_,rfl,⟨_,rfl,by first|(rw[Nat.zero_mul];exact Aq.nil)|(rw[Nat.mul_zero];exact Aq.nil)⟩,_,_,_,hm2,hk3,Yg,rfl,rfl⟩
   ·refine XC.of (pu:=pt) (vf:=C.f120) rfl ?_
    refine Yw1 ?_
    exact⟨_,_,rfl,⟨_,rfl,by first|(rw[Nat.zero_mul];exact Aq.nil)|(rw[Nat.mul_zero];exact Aq.nil)⟩,_,_,_,hm2,hk3,Yg,rfl,rfl⟩
   ·refine XC.of (pu:=pt) (vf:=C.f120) rfl ?_
    refine Yw1 ?_
    refine XW.Ad (pu:=pt) ?_
    refine Yw1 ?_
    refine XW.Ad (pu:=pt) ?_
    refine Yw1 ?_
    refine XC.P8 (a:=[.v (.s (.ptr k0 0))]) (x':=.v (.s (.lst 1 [[.int .u32 (1:Nat)]] none))) rfl ?_
    clear e0 e1
    refine XC.Be (l:=tyL f c tot m2 [] []) (nx:=k2) tyR (hmul m2 hm2) rfl rfl (Du ht hm2 rfl rfl) Ya ?_
    rintro rc gc' ⟨⟨u,rfl,hu⟩,m3,a0,a1,hm3,hj,lga0,e0,e1⟩
    rw[Nat.one_mul] at hu
    have hmul3:=hmul2 m3 hm3 u hu
    have unk:=hu.nk
    refine⟨[],k9,tyX f c tot m3 (a0++_) (a1++_),[],.v (.s u),rfl,Rl,Dz ht hm3 e0 e1 rfl rfl rfl rfl,trivial,hu.nk.rn,?_⟩
    refine Yw1 ?_
    refine XW.Ad (pu:=pt) ?_
    refine Yw1 ?_
    clear e0 e1
    refine XC.Be (l:=tyL f c tot m3 [] []) (nx:=k2) tyR hmul3 rfl rfl (Du ht hm3 rfl rfl) Ya ?_
    rintro rc gc' ⟨⟨u2,rfl,hu2⟩,m4,c0,c1,hm4,hj4,lgc0,e0,e1⟩
    refine⟨[],k9,tyX f c tot m4 (c0++_) (c1++_),[],.v (.s u2),rfl,Rl,Dz ht hm4 e0 e1 rfl rfl rfl rfl,trivial,hu2.nk.rn,?_⟩
    refine Yw1 ?_
    refine XW.Ad (pu:=pt) ?_
    refine Yw1 ?_
    exact⟨_,_,Wn (hu2.frz _),⟨_,rfl,hu2⟩,_,_,_,hm4,fun k h=>by rw[hj4 k (Zl),hj k (Zl),hk3 k h],Yg,rfl,rfl⟩
 ·simp at h2
end Go.Pv
end
section
noncomputable section
namespace Go.Pv
open Go.Vm Go.Vm.C
open Go.Vm.Key (kn)
set_option maxRecDepth 10000
set_option maxHeartbeats 0
variable {T:Nat→List Tre} {f:Fo} {c:Nat} {tot:PV}
theorem Ek (T:Nat→List Tre) (c:Nat) (az:List Al) (a:Al):A5 T c (az++[a])=A5 T c az++(if a.d.testBit c then(Au T a.ks).map (a.p::·) else[]):=by simp[A5]
theorem Qb (T:Nat→List Tre) (c:Nat) (az:List Al) (j:Nat):(A5 T c (az.take j)).length≤(A5 T c az).length:=by
 have h:A5 T c az=A5 T c (az.take j)++A5 T c (az.drop j):=by
  conv=>lhs;rw[←List.take_append_drop j az]
  rw[A5,List.flatMap_append];rfl
 rw[h,La];omega
theorem Wp {lo:Nat} {L1 L2:Fm} {m:List (Nat×PV)} {l0 l1:List (Nat×Nat)} {g:Ab} (hlo:lo=2) (ht:Ae tot) (hm:Bk T m) (e0:g.get k0=some (obl (tbC f c tot) l0)) (e1:g.get k1=some (mpB m l1)) (hf:M1 (rho lo []) L1 L2):Trim lo (rho lo []) L1 g L2 (mkH (tyL f c tot m l0 l1) k2):=by
 subst hlo
 exact Trim.of (lo:=2) (l:=tyL f c tot m l0 l1) (nx:=k2) [] rfl (Rl) ⟨e1.symm,e0.symm,trivial⟩ ⟨⟨_,_,rfl,e0,.same Yc⟩,⟨_,_,rfl,e1,.map hm⟩,trivial⟩ hf
theorem QU (D:I8) (hc:c<4) (ht:Ae tot) {i:Nat} {n:Nd} (hi:i<f.ns.length) (hL:f.ns.length≤4) (hn:(f.ns.map nV)[(i:Int).toNat]?=some (nC n)) (nL:n.az.length≤3) (hal:∀a∈n.az,a.ks.length≤2∧a.d<16∧∀k∈a.ks,k<i∧Qa T f c tot k)
  (hT:T i=A5 T c n.az) (hB:(A5 T c n.az).length<4294967296):NL T f c tot i:=by
 intro m hm
 have nlen:(n.az.map aV).length=n.az.length:=Lm ..
 have hlen:(f.ns.map nV).length=f.ns.length:=Lm ..
 rw[hT]
 refine XC.of (pu:=pt) (vf:=C.f92) rfl ?_
 refine Yw1 ?_
 refine XW.A7 (pu:=pt) (σ:=Nat×PV) (fun q=>n.az.length-q.1) (fun q=>[(k0,.v (.v (.s (.ptr k0 0)))),(k5,.v (.v (.s q.2))),(k16,.v (PA.lst 4 (n.az.map aV))),(k17,.v (iA (n.az.map aV).length)),(k18,.v (iA q.1))])
  (fun q g=>q.1≤n.az.length∧Aq (A5 T c (n.az.take q.1)).length q.2∧∃m' l0 l1,Bk T m'∧(∀k,i≤k→fnd m' k=fnd m k)∧Lg l0∧g=mkH (tyL f c tot m' l0 l1) k2) (0,.Af)
  (Wp rfl ht hm rfl rfl Yf) ⟨Zl,Aq.nil,m,[],[],hm,fun _ _=>rfl,Lg.nil,rfl⟩ ?_
 rintro⟨j,v⟩ g ⟨hj,hv,m',l0,l1,hm',hk,lg,rfl⟩
 replace hj:j≤n.az.length:=hj
 replace hv:Aq (A5 T c (n.az.take j)).length v:=hv
 have vnk:=hv.nk
 refine⟨fun h=>?_,fun h=>?_⟩
 ·have hj:j<n.az.length:=by have:=Ao h;omega
  have ha:n.az[j]?=some n.az[j]:=Gg hj
  have htk:n.az.take (j+1)=n.az.take j++[n.az[j]]:=List.take_succ_eq_append_getElem hj
  have hin:n.az[j]∈n.az:=List.getElem_mem hj
  generalize n.az[j]=a at ha htk hin
  have hga:=Ct ha
  obtain⟨a1,a2,a3⟩:=hal a hin
  have dh:=D.holds a.d a2 c hc
  have hs:=Ek T c (n.az.take j) a
  rw[←htk] at hs
  have hle:=Qb T c n.az (j+1)
  generalize (A5 T c n.az).length=full at hB hle
  have hl:=congrArg List.length hs
  cases hb:a.d.testBit c
  ·rw[hb] at dh hs hl
   simp only[Fj,if_false,List.append_nil] at hs hl
   refine Yw1 ?_
   exact⟨(j+1,v),_,_,(show _-_<_-_ by omega),Wp rfl ht hm' rfl rfl Yf,hj,(by rw[hs];exact hv),m',_,_,hm',hk,lg,rfl⟩
  ·rw[hb] at dh hs hl
   simp only[if_true,La,Lm] at hl
   have alt:=kT (T:=T) (f:=f) (c:=c) ht (i:=i) (a:=a) a1 a3 (by omega) hm'
   generalize (Au T a.ks).length=q at alt hl
   refine Yw1 ?_
   refine XC.Be (l:=tyL f c tot m' [] []) (nx:=k2) tyR alt rfl rfl (Du ht hm' rfl rfl) Ya ?_
   rintro rc gc' ⟨⟨u,rfl,hu⟩,m2,a0,a1,hm2,hk2,lga0,e0,e1⟩
   refine⟨[],k3,tyX f c tot m2 (a0++l0) (a1++l1),[],.v (.s u),rfl,Rl,Dz ht hm2 e0 e1 rfl rfl rfl rfl,trivial,hu.nk.rn,?_⟩
   have unk:=hu.nk
   have hadd:=S9 (f:=f) (c:=c) (tot:=tot) hm2 hv hu (by omega)
   rw[←hl] at hadd
   refine Yw1 ?_
   clear e0 e1
   refine XC.Be (l:=tyL f c tot m2 [] []) (nx:=k2) tyR hadd rfl rfl (Du ht hm2 rfl rfl) Ya ?_
   rintro rc gc' ⟨⟨w,rfl,hw⟩,m3,b0,b1,hm3,hk3,lgb0,e0,e1⟩
   refine⟨[],k3,tyX f c tot m3 (b0++_) (b1++_),[],.v (.s w),rfl,Rl,Dz ht hm3 e0 e1 rfl rfl rfl rfl,trivial,hw.nk.rn,?_⟩
   have wnk:=hw.nk
   refine Yw1 ?_
   exact⟨(j+1,w),_,_,(show _-_<_-_ by omega),Wp rfl ht hm3 rfl rfl Yf,hj,hw,m3,_,_,hm3,(fun k h=>by rw[hk3 k (Zl),hk2 k h,hk k h]),Yg,rfl⟩
 ·have hfull:n.az.take j=n.az:=by rw[show j=n.az.length from by have:=A1 h;omega];exact List.take_length
  rw[hfull] at hv
  refine Yw1 ?_
  exact⟨⟨_,rfl,hv⟩,_,_,_,hm',hk,lg,rfl,rfl⟩
end Go.Pv
end
section
noncomputable section
namespace Go.Pv
open Go.Vm Go.Vm.C
open Go.Vm.Key (kn)
set_option maxRecDepth 10000
set_option maxHeartbeats 0
def Px:Nat→Nat
 |0=>1
 |1=>9
 |2=>729
 |_=>4782969
theorem QV:∀i,i≤3→∀k,k<i→∀j,j<i→(3*Px k)*(3*Px j)≤Px i:=by decide
theorem QW:∀i,i≤3→∀k,k<i→3*Px k≤Px i:=by decide
theorem QX:∀i,i≤3→1≤Px i:=by decide
theorem cY:∀i,i≤3→Px i≤4782969:=by decide
theorem oW {T:Nat→List Tre} {i:Nat} (hi:i≤3):∀{ks:List Nat},ks.length≤2→(∀k∈ks,k<i∧(T k).length≤3*Px k)→(Au T ks).length≤Px i
 |[],_,_=>by simpa[Au] using QX i hi
 |[x],_,h=>by rw[Ob];exact Nat.le_trans (h x (by simp)).2 (QW i hi x (h x (by simp)).1)
 |[x,y],_,h=>by
  rw[Kh]
  exact Nat.le_trans (Nat.mul_le_mul (h x (by simp)).2 (h y (by simp)).2) (QV i hi x (h x (by simp)).1 y (h y (by simp)).1)
 |_::_::_::_,h,_=>by simp at h
theorem gD {T:Nat→List Tre} {c B:Nat}:∀{az:List Al},(∀a∈az,(Au T a.ks).length≤B)→(A5 T c az).length≤az.length*B
 |[],_=>by simp[A5]
 |a::az,h=>by
  have ih:=gD (c:=c) fun b hb=>h b (.tail _ hb)
  have ha:=h a (.head _)
  rw[show a::az=[a]++az from rfl,A5,List.flatMap_append,La,La,Nat.add_mul]
  refine Nat.add_le_add ?_ ih
  simp only[List.flatMap_cons,List.flatMap_nil,List.append_nil,List.length_singleton,Nat.one_mul]
  split
  ·rw[Lm];exact ha
  ·simp
theorem Oc {f:Fo} {c:Nat} (w:WF0 f):∀i,i<f.ns.length→(Tr2 f c i).length≤3*Px i:=by
 intro i
 induction i using Nat.strongRecOn with
 |ind i ih=>
  intro hi
  have hn:f.ns[i]?=some f.ns[i]:=Gg hi
  generalize f.ns[i]=n at hn
  have hL:=w.len
  rw[Tr2,sX (Lt w) i n hn]
  refine Nat.le_trans (gD (B:=Px i) fun a ha=>?_) (Nat.mul_le_mul_right _ (w.Iy i n hn))
  exact oW (by omega) (w.al i n hn a ha).1 fun k hk=>⟨(w.al i n hn a ha).2.1 k hk,ih k ((w.al i n hn a ha).2.1 k hk) (by have:=(w.al i n hn a ha).2.1 k hk;omega)⟩
theorem Ux {f:Fo} {c:Nat} {tot:PV} (D:I8) (hc:c<4) (ht:Ae tot) (w:WF0 f) (v:WF f):∀i,i<f.ns.length→EV (Tr2 f c) f c tot i:=by
 intro i
 induction i using Nat.strongRecOn with
 |ind i ih=>
  intro hi
  have hn:f.ns[i]?=some f.ns[i]:=Gg hi
  generalize f.ns[i]=n at hn
  have hL:=w.len
  have hg:=G0 hn
  rw[Ke (v.as0 i n hn)] at hg
  have hU:=sX (c:=c) (Lt w) i n hn
  have hlen:=Oc (c:=c) w i hi
  have hpx:=cY i (by omega)
  have hB:(Tr2 f c i).length<4294967296:=by omega
  refine QT ht (QU D hc ht hi hL hg (w.Iy i n hn) (fun a ha=>⟨(w.al i n hn a ha).1,(w.al i n hn a ha).2.2.1,fun k hk=>?_⟩) hU (by rw[←hU];exact hB))
  have hki:=(w.al i n hn a ha).2.1 k hk
  exact⟨hki,sZ ht (ih k hki (by omega))⟩
def Bq (T:Nat→List Tre) (c:Nat) (rs:List (Nat×Nat)):List Tre:=rs.flatMap fun r=>if r.2.testBit c then T r.1 else[]
theorem Rf (T:Nat→List Tre) (c:Nat) (rs:List (Nat×Nat)) (r:Nat×Nat):Bq T c (rs++[r])=Bq T c rs++(if r.2.testBit c then T r.1 else[]):=by simp[Bq]
theorem Zc (T:Nat→List Tre) (c:Nat) (rs:List (Nat×Nat)) (j:Nat):(Bq T c (rs.take j)).length≤(Bq T c rs).length:=by
 have h:Bq T c rs=Bq T c (rs.take j)++Bq T c (rs.drop j):=by
  conv=>lhs;rw[←List.take_append_drop j rs]
  rw[Bq,List.flatMap_append];rfl
 rw[h,La];omega
abbrev tbK (ka kb:Key) (f:Fo) (c:Nat) (tot:PV):List PV:=[.lst 5 (f.ns.map nV) none,.lst 3 (f.rs.map rV) none,.int .u64 (c:Nat),.map kb,.func 92 [(ka,0)] [],tot,.bool false]
abbrev zA:List (Key×Key):=[(k0,k1),(k1,k2)]
theorem tB {T:Nat→List Tre} {f:Fo} {c:Nat} {tot:PV} {m:List (Nat×PV)} {l0 l1:List (Nat×Nat)} (ht:Ae tot) (hm:Bk T m) {g:Ab} (e0:g.get k1=some (obl (tbK k1 k2 f c tot) l0)) (e1:g.get k2=some (mpB m l1)):Ou (rho 0 zA) g (tyL f c tot m [] []):=
 ⟨⟨_,_,rfl,e0,⟨Ys,fun _=>⟨rfl,.inl .nil⟩,rfl⟩⟩,⟨_,_,rfl,e1,.map hm⟩,trivial⟩
abbrev KP (f:Fo) (c:Nat) (tot:PV) (m:List (Nat×PV)) (l0 l1:List (Nat×Nat)):List (Option Ap):=[some (obl (tbK k1 k2 f c tot) l0),some (mpB m l1)]
theorem EW {T:Nat→List Tre} {f:Fo} {c:Nat} {tot:PV} {m m':List (Nat×PV)} {a0 a1 l0 l1:List (Nat×Nat)} {gc' g:Ab} {q0 q1:Ap} (ht:Ae tot) (hm:Bk T m') (e0:gc'.get k0=some (obl (tbC f c tot) a0)) (e1:gc'.get k1=some (mpB m' a1))
  (h0:g.get k1=some q0) (h1:g.get k2=some q1) (hq0:q0.log=l0) (hq1:q1.log=l1):M4 (muR zA []) g gc' (tyL f c tot m [] []) zA (KP f c tot m' (a0++l0) (a1++l1)):=
 ⟨⟨_,_,_,e0,⟨Ys,fun _=>⟨rfl,.inl .nil⟩,rfl⟩,h0,rfl,rfl,by rw[hq0]⟩,⟨_,_,_,e1,.map hm,h1,rfl,rfl,by rw[hq1]⟩,trivial⟩
theorem cZ {f:Fo} {c:Nat} (w:WF0 f):(Bq (Tr2 f c) c f.rs).length<4294967296:=by
 have key:∀rs:List (Nat×Nat),(∀r∈rs,r.1<f.ns.length)→(Bq (Tr2 f c) c rs).length≤rs.length*14348907:=by
  intro rs
  induction rs with
  |nil=>intro _;simp[Bq]
  |cons r rs ih=>
   intro h
   have h1:=ih fun q hq=>h q (.tail _ hq)
   have h2:=Oc (c:=c) w r.1 (h r (.head _))
   have h3:=cY r.1 (by have:=h r (.head _);have:=w.len;omega)
   have h4:(Bq (Tr2 f c) c (r::rs)).length=(if r.2.testBit c then Tr2 f c r.1 else[]).length+(Bq (Tr2 f c) c rs).length:=by simp[Bq]
   rw[h4,List.length_cons,Nat.add_mul]
   split
   ·have h5:(Tr2 f c r.1).length≤14348907:=by omega
    omega
   ·simp only[List.length_nil];omega
 have h:=key f.rs fun r hr=>by
  obtain⟨i,hi⟩:=List.mem_iff_getElem?.1 hr
  have:=(w.rt i r hi).1
  have:=(Gi.1 hi).1
  have:=w.Oy
  omega
 have:=w.len
 have:=w.Oy
 omega
theorem dB {f:Fo} {c:Nat} (D:I8) (hc:c<4) (w:WF0 f) (w1:WF f):XC Fn 29 [foA f,cA c] (mkH [] k0) fun r g=>r=.tup [.s (.ptr k1 0),.s (.int .i64 ((0:Nat):Int))] ∧
  ∃m l0 l1 tot,Bk (Tr2 f c) m∧Aq (Bq (Tr2 f c) c f.rs).length tot∧g.get k1=some (obl (tbK k1 k2 f c tot) l0)∧g.get k2=some (mpB m l1):=by
 have hrlen:(f.rs.map rV).length=f.rs.length:=Lm ..
 have hL:=w.len
 have rL:=w.Oy
 rw[Da w.n0 w.r0]
 refine XC.of (pu:=pt) (vf:=C.f29) rfl ?_
 refine Yw1 ?_
 refine XW.A7 (pu:=pt) (σ:=Nat×PV) (fun q=>f.rs.length-q.1) (fun q=>[(k1,.v (cA c)),(k6,.v (.v (.s (.ptr k1 0)))),(k21,.v (PA.lst 3 (f.rs.map rV))),(k22,.v (iA (f.rs.map rV).length)),(k23,.v (iA q.1))])
  (fun q g=>q.1≤f.rs.length∧Aq (Bq (Tr2 f c) c (f.rs.take q.1)).length q.2∧∃m l0 l1,Bk (Tr2 f c) m∧g=mkH [(k1,obl (tbK k1 k2 f c q.2) l0),(k2,mpB m l1)] k3) (0,.Af)
  (Trim.of (l:=[(k1,obl (tbK k1 k2 f c .Af) [(3,2)]),(k2,mpB [] [])]) (nx:=k3) [(k1,k1),(k2,k2)] rfl (Zl) trivial ⟨⟨_,_,rfl,rfl,.same Yc⟩,⟨_,_,rfl,rfl,.map (T:=Tr2 f c) (fun _ h=>absurd h List.not_mem_nil)⟩,trivial⟩ Yf) ⟨Zl,Aq.nil,[],[(3,2)],[],(fun _ h=>absurd h List.not_mem_nil),rfl⟩ ?_
 rintro⟨i,v⟩ g ⟨hi,hv,m,l0,l1,hm,rfl⟩
 replace hi:i≤f.rs.length:=hi
 replace hv:Aq (Bq (Tr2 f c) c (f.rs.take i)).length v:=hv
 have vnk:=hv.nk
 have hmax:(Bq (Tr2 f c) c f.rs).length<4294967296:=cZ w
 refine⟨fun h=>?_,fun h=>?_⟩
 ·have hi:i<f.rs.length:=by have:=Ao h;omega
  have hr:f.rs[i]?=some f.rs[i]:=Gg hi
  have htk:f.rs.take (i+1)=f.rs.take i++[f.rs[i]]:=List.take_succ_eq_append_getElem hi
  generalize f.rs[i]=r at hr htk
  have hgr:=Iv hr
  obtain⟨r1,r2,r3⟩:=w.rt i r hr
  rw[r1] at hgr
  have dh:=D.holds r.2 r2 c hc
  have hs:=Rf (Tr2 f c) c (f.rs.take i) r
  rw[←htk,r1] at hs
  have hle:=Zc (Tr2 f c) c f.rs (i+1)
  have hG:=Ux (tot:=v) D hc vnk w w1 i (by omega) m hm
  generalize (Bq (Tr2 f c) c f.rs).length=full at hmax hle
  have hl:=congrArg List.length hs
  cases hb:r.2.testBit c
  ·rw[hb] at dh hs hl
   simp only[Fj,if_false,List.append_nil] at hs hl
   refine Yw1 ?_
   exact⟨(i+1,v),_,_,(show _-_<_-_ by omega),Trim.of (l:=[(k1,obl (tbK k1 k2 f c v) l0),(k2,mpB m l1)]) (nx:=k3) [(k1,k1),(k2,k2)] rfl (Zl) trivial ⟨⟨_,_,rfl,rfl,.same Yc⟩,⟨_,_,rfl,rfl,.map hm⟩,trivial⟩ Yf,hi,(by rw[hs];exact hv),m,_,_,hm,rfl⟩
  ·rw[hb] at dh hs hl
   simp only[if_true,La] at hl
   refine Yw1 ?_
   refine XC.Be (l:=tyL f c v m [] []) (nx:=k2) zA hG rfl rfl (tB vnk hm rfl rfl) Ya ?_
   rintro rc gc' ⟨⟨u,rfl,hu⟩,m2,a0,a1,hm2,hk2,lga0,e0,e1⟩
   refine⟨[],k4,KP f c v m2 (a0++l0) (a1++l1),[],.v (.s u),rfl,Rl,EW vnk hm2 e0 e1 rfl rfl rfl rfl,trivial,hu.nk.rn,?_⟩
   have unk:=hu.nk
   have hadd:=S9 (f:=f) (c:=c) (tot:=v) hm2 hv hu (by omega)
   rw[←hl] at hadd
   refine Yw1 ?_
   have hap:(Pb 5 1 ((a0++l0).take ((a0++l0).length-l0.length))&&true)=true:=by rw[lga0.take (by decide)];rfl
   conv=>whnf
   split
   case h_2 _ he=>exact absurd (hap.symm.trans he) (by decide)
   conv=>whnf
   refine oU (l':=[k42]) (if_pos (lga0.take (l:=l0) (o:=5) (n:=1) (by decide))) ?_
   refine Yw1 ?_
   clear e0 e1
   refine XC.Be (l:=tyL f c v m2 [] []) (nx:=k2) zA hadd rfl rfl (tB vnk hm2 rfl rfl) Ya ?_
   rintro rc gc' ⟨⟨z,rfl,hz⟩,m3,b0,b1,hm3,hk3,lgb0,e0,e1⟩
   refine⟨[],k4,KP f c v m3 (b0++_) (b1++_),[],.v (.s z),rfl,Rl,EW vnk hm3 e0 e1 rfl rfl rfl rfl,trivial,hz.nk.rn,?_⟩
   have znk:=hz.nk
   refine Yw1 ?_
   exact⟨(i+1,z),_,_,(show _-_<_-_ by omega),Trim.of (l:=[(k1,obl (tbK k1 k2 f c z) ((5,1)::(b0++(a0++l0)))),(k2,mpB m3 (b1++(a1++l1)))]) (nx:=k3) [(k1,k1),(k2,k2)] rfl (Zl) trivial ⟨⟨_,_,rfl,rfl,.same Yc⟩,⟨_,_,rfl,rfl,.map hm3⟩,trivial⟩ Yf,hi,hz,m3,_,_,hm3,rfl⟩
 ·have hfull:f.rs.take i=f.rs:=by rw[show i=f.rs.length from by have:=A1 h;omega];exact List.take_length
  rw[hfull] at hv
  refine Yw1 ?_
  exact⟨rfl,m,_,_,v,hm,hv,rfl,rfl⟩
end Go.Pv
end
section
noncomputable section
namespace Go.Pv
open Go.Vm Go.Vm.C
open Go.Vm.Key (kn)
set_option maxRecDepth 10000
set_option maxHeartbeats 0
variable {T:Nat→List Tre} {f:Fo} {c N:Nat}
structure EX:Prop where
 inn:∀d,d<16→∀c,c<4→Ag Fn 54 [dA d,cA c] (bA (d.testBit c))
abbrev cnC (f:Fo) (c N:Nat):List PV:=[.lst 5 (f.ns.map nV) none,.lst 3 (f.rs.map rV) none,.int .u64 (c:Nat),.slice k1 0 N 1 (some N),.slice k2 0 N 1 (some N),.bool false]
abbrev cnL (f:Fo) (c N:Nat) (ks ds:List PV) (l0 l1 l2:List (Nat×Nat)):List (Key×Ap):=[(k0,obl (cnC f c N) l0),(k1,obl ks l1),(k2,obl ds l2)]
abbrev cnX (f:Fo) (c N:Nat) (ks ds:List PV) (l0 l1 l2:List (Nat×Nat)):List (Option Ap):=[some (obl (cnC f c N) l0),some (obl ks l1),some (obl ds l2)]
abbrev cnR:List (Key×Key):=[(k0,k0),(k1,k1),(k2,k2)]
structure Rq (T:Nat→List Tre) (N:Nat) (ks ds:List PV):Prop where
 kl:ks.length=N
 dl:ds.length=N
 knk:∀v∈ks,Ae v
 dnk:∀v∈ds,Ae v
 kf:∀i,i<N→∃v,ks[i]?=some v
 df:∀i,i<N→∃b,ds[i]?=some (.bool b)∧(b=true→∃v,ks[i]?=some v∧Aq (T i).length v)
structure wF (T:Nat→List Tre) (f:Fo) (c N:Nat) (n:Nat) (r:PA) (g:Ab):Prop where
 num:∃v,r=.v (.s v)∧Aq n v
 blk:∃ks ds l0 l1 l2,Rq T N ks ds∧g.get k0=some (obl (cnC f c N) l0)∧g.get k1=some (obl ks l1)∧g.get k2=some (obl ds l2)
theorem Xz {ks ds:List PV} {l0 l1 l2:List (Nat×Nat)} (hm:Rq T N ks ds) {g:Ab} (e0:g.get k0=some (obl (cnC f c N) l0)) (e1:g.get k1=some (obl ks l1)) (e2:g.get k2=some (obl ds l2)):Ou (rho 0 cnR) g (cnL f c N ks ds [] [] []):=
 ⟨⟨_,_,rfl,e0,.same Yc⟩,⟨_,_,rfl,e1,.same (Ae.cells hm.knk)⟩,⟨_,_,rfl,e2,.same (Ae.cells hm.dnk)⟩,trivial⟩
theorem Yd {ks ds ks' ds':List PV} {a0 a1 a2 l0 l1 l2:List (Nat×Nat)} {gc' g:Ab} {q0 q1 q2:Ap} (hm:Rq T N ks' ds') (e0:gc'.get k0=some (obl (cnC f c N) a0)) (e1:gc'.get k1=some (obl ks' a1)) (e2:gc'.get k2=some (obl ds' a2))
  (h0:g.get k0=some q0) (h1:g.get k1=some q1) (h2:g.get k2=some q2) (hq0:q0.log=l0) (hq1:q1.log=l1) (hq2:q2.log=l2):M4 (muR cnR []) g gc' (cnL f c N ks ds [] [] []) cnR (cnX f c N ks' ds' (a0++l0) (a1++l1) (a2++l2)):=
 ⟨⟨_,_,_,e0,.same Yc,h0,rfl,rfl,by rw[hq0]⟩,⟨_,_,_,e1,.same (Ae.cells hm.knk),h1,rfl,rfl,by rw[hq1]⟩,⟨_,_,_,e2,.same (Ae.cells hm.dnk),h2,rfl,rfl,by rw[hq2]⟩,trivial⟩
theorem wG {ks ds:List PV} (hm:Rq T N ks ds) {a b:Nat} {v w:PV} (ha:Aq a v) (hb:Aq b w) (hs:a+b<4294967296) :
  XC Fn 68 [.v (.s (.ptr k0 0)),.v (.s v),.v (.s w)] (mkH (cnL f c N ks ds [] [] []) k3) (wF T f c N (a+b)):=by
 obtain⟨r,h1,h2⟩:=JU ha hb hs
 have fv:=ha.flat
 have fw:=hb.flat
 refine XC.of (pu:=pt) (vf:=C.f68) rfl ?_
 refine Yw1 ?_
 exact⟨⟨_,rfl,h2⟩,_,_,_,_,_,hm,rfl,rfl,rfl⟩
def QY (T:Nat→List Tre) (f:Fo) (c N i:Nat):Prop:=∀ks ds,Rq T N ks ds→XC Fn 55 [.v (.s (.ptr k0 0)),iA i] (mkH (cnL f c N ks ds [] [] []) k3) (wF T f c N (T i).length)
def QZ (T:Nat→List Tre) (f:Fo) (c N k:Nat):Prop:=∀ks ds,Rq T N ks ds→XC Fn 114 [.v (.s (.ptr k0 0)),.v (.agg (kV k))] (mkH (cnL f c N ks ds [] [] []) k3) (wF T f c N (T k).length)
theorem KQ {i:Nat} (hG:QY T f c N i):QZ T f c N i:=by
 intro ks ds hm
 refine XC.of (pu:=pt) (vf:=C.f114) rfl ?_
 refine Yw1 ?_
 refine XC.Be (l:=cnL f c N ks ds [] [] []) (nx:=k3) cnR (hG ks ds hm) rfl rfl (Xz hm rfl rfl rfl) Ya ?_
 rintro rc gc' ⟨⟨v,rfl,hv⟩,ks',ds',l0,l1,l2,hm',e0,e1,e2⟩
 refine⟨[],k4,cnX f c N ks' ds' (l0++[]) (l1++[]) (l2++[]),[],.v (.s v),rfl,Rl,Yd hm' e0 e1 e2 rfl rfl rfl rfl rfl rfl,trivial,hv.nk.rn,?_⟩
 refine Yw1 ?_
 exact⟨⟨v,rfl,hv⟩,_,_,_,_,_,hm',rfl,rfl,rfl⟩
theorem KR {a:Al} (h2:a.ks.length≤2) (hk:∀k∈a.ks,QZ T f c N k) (hs:(Au T a.ks).length<4294967296) {ks ds:List PV} (hm:Rq T N ks ds) :
  XC Fn 112 [.v (.s (.ptr k0 0)),.v (.agg (aC a))] (mkH (cnL f c N ks ds [] [] []) k3) (wF T f c N (Au T a.ks).length):=by
 obtain⟨p,l,d⟩:=a
 obtain⟨r1,o1,o2⟩:=sL (n:=1) (by decide)
 have fr1:=o2.flat
 refine XC.of (pu:=pt) (vf:=C.f112) rfl ?_
 rcases l with _|⟨x,_|⟨y,_|⟨z,l⟩⟩⟩
 ·refine Yw1 ?_
  refine XW.Ad (pu:=pt) ?_
  refine Yw1 ?_
  refine XC.of (pu:=pt) (vf:=C.f180) rfl ?_
  refine Yw1 ?_
  refine XW.Ad (pu:=pt) ?_
  refine Yw1 ?_
  refine XW.Ad (pu:=pt) ?_
  refine Yw1 ?_
  exact⟨⟨_,rfl,o2⟩,_,_,_,_,_,hm,rfl,rfl,rfl⟩
 ·have kx:=hk x (by simp)
  clear hk h2
  rw[Ob] at hs ⊢
  refine Yw1 ?_
  refine XW.Ad (pu:=pt) ?_
  refine Yw1 ?_
  refine XC.Be (l:=cnL f c N ks ds [] [] []) (nx:=k3) cnR (kx ks ds hm) rfl rfl (Xz hm rfl rfl rfl) Ya ?_
  rintro rc gc' ⟨⟨v,rfl,hv⟩,ks1,ds1,p0,p1,p2,hm1,e0,e1,e2⟩
  refine⟨[],k4,cnX f c N ks1 ds1 (p0++[]) (p1++[]) (p2++[]),[],.v (.s v),rfl,Rl,Yd hm1 e0 e1 e2 rfl rfl rfl rfl rfl rfl,trivial,hv.nk.rn,?_⟩
  clear e0 e1 e2
  obtain⟨r2,p1,p2⟩:=kG o2 hv (by rw[Nat.one_mul];exact hs)
  rw[Nat.one_mul] at p2
  have fv:=hv.flat
  have fr2:=p2.flat
  clear hs
  generalize hn:(T x).length=n at *
  refine Yw1 ?_
  refine XW.Ad (pu:=pt) ?_
  refine Yw1 ?_
  refine XC.of (pu:=pt) (vf:=C.f180) rfl ?_
  refine Yw1 ?_
  refine XW.Ad (pu:=pt) ?_
  cases hv
  ·refine Yw1 ?_
   exact⟨⟨_,rfl,by first|(rw[Nat.zero_mul];exact Aq.nil)|(rw[Nat.mul_zero];exact Aq.nil)|exact Aq.nil⟩,_,_,_,_,_,hm1,rfl,rfl,rfl⟩
  ·refine Yw1 ?_
   exact⟨⟨_,rfl,by first|(rw[Nat.zero_mul];exact Aq.nil)|(rw[Nat.mul_zero];exact Aq.nil)|exact Aq.nil⟩,_,_,_,_,_,hm1,rfl,rfl,rfl⟩
  ·refine Yw1 ?_
   refine XW.Ad (pu:=pt) ?_
   refine Yw1 ?_
   refine XW.Ad (pu:=pt) ?_
   refine Yw1 ?_
   refine XW.Ad (pu:=pt) ?_
   refine Yw1 ?_
   exact⟨⟨_,rfl,p2⟩,_,_,_,_,_,hm1,rfl,rfl,rfl⟩
 ·have kx:=hk x (by simp)
  have ky:=hk y (by simp)
  clear hk h2
  rw[Kh] at hs ⊢
  have hs':True→(T x).length*(T y).length<4294967296:=fun _=>hs
  clear hs
  refine Yw1 ?_
  refine XW.Ad (pu:=pt) ?_
  refine Yw1 ?_
  refine XC.Be (l:=cnL f c N ks ds [] [] []) (nx:=k3) cnR (kx ks ds hm) rfl rfl (Xz hm rfl rfl rfl) Ya ?_
  rintro rc gc' ⟨⟨v,rfl,hv⟩,ks1,ds1,p0,p1,p2,hm1,e0,e1,e2⟩
  refine⟨[],k4,cnX f c N ks1 ds1 (p0++[]) (p1++[]) (p2++[]),[],.v (.s v),rfl,Rl,Yd hm1 e0 e1 e2 rfl rfl rfl rfl rfl rfl,trivial,hv.nk.rn,?_⟩
  clear e0 e1 e2
  refine Yw1 ?_
  refine XW.Ad (pu:=pt) ?_
  refine Yw1 ?_
  refine XC.Be (l:=cnL f c N ks1 ds1 [] [] []) (nx:=k3) cnR (ky ks1 ds1 hm1) rfl rfl (Xz hm1 rfl rfl rfl) Ya ?_
  rintro rc gc' ⟨⟨w,rfl,hw⟩,ks2,ds2,q0,q1,q2,hm2,e0,e1,e2⟩
  refine⟨[],k6,cnX f c N ks2 ds2 (q0++_) (q1++_) (q2++_),[],.v (.s w),rfl,Rl,Yd hm2 e0 e1 e2 rfl rfl rfl rfl rfl rfl,trivial,hw.nk.rn,?_⟩
  clear e0 e1 e2
  obtain⟨r2,p1,p2⟩:=kG o2 hv (by rw[Nat.one_mul];exact hv.lt)
  rw[Nat.one_mul] at p2
  obtain⟨r3,q1,q2⟩:=kG p2 hw (hs' trivial)
  have fv:=hv.flat
  have fw:=hw.flat
  have fr2:=p2.flat
  have fr3:=q2.flat
  clear hs'
  generalize hn:(T x).length=n at *
  generalize hj:(T y).length=q at *
  refine Yw1 ?_
  refine XW.Ad (pu:=pt) ?_
  refine Yw1 ?_
  refine XC.of (pu:=pt) (vf:=C.f180) rfl ?_
  refine Yw1 ?_
  refine XW.Ad (pu:=pt) ?_
  cases hv
  ·refine Yw1 ?_
   exact⟨⟨_,rfl,by first|(rw[Nat.zero_mul];exact Aq.nil)|(rw[Nat.mul_zero];exact Aq.nil)|exact Aq.nil⟩,_,_,_,_,_,hm2,rfl,rfl,rfl⟩
  ·refine Yw1 ?_
   exact⟨⟨_,rfl,by first|(rw[Nat.zero_mul];exact Aq.nil)|(rw[Nat.mul_zero];exact Aq.nil)|exact Aq.nil⟩,_,_,_,_,_,hm2,rfl,rfl,rfl⟩
  ·refine Yw1 ?_
   refine XW.Ad (pu:=pt) ?_
   cases hw
   ·refine Yw1 ?_
    exact⟨⟨_,rfl,by first|(rw[Nat.zero_mul];exact Aq.nil)|(rw[Nat.mul_zero];exact Aq.nil)|exact Aq.nil⟩,_,_,_,_,_,hm2,rfl,rfl,rfl⟩
   ·refine Yw1 ?_
    exact⟨⟨_,rfl,by first|(rw[Nat.zero_mul];exact Aq.nil)|(rw[Nat.mul_zero];exact Aq.nil)|exact Aq.nil⟩,_,_,_,_,_,hm2,rfl,rfl,rfl⟩
   ·refine Yw1 ?_
    refine XW.Ad (pu:=pt) ?_
    refine Yw1 ?_
    refine XW.Ad (pu:=pt) ?_
    refine Yw1 ?_
    refine XW.Ad (pu:=pt) ?_
    refine Yw1 ?_
    refine XW.Ad (pu:=pt) ?_
    refine Yw1 ?_
    exact⟨⟨_,rfl,q2⟩,_,_,_,_,_,hm2,rfl,rfl,rfl⟩
 ·simp at h2
end Go.Pv
end
section
noncomputable section
namespace Go.Pv
open Go.Vm Go.Vm.C
open Go.Vm.Key (kn)
set_option maxRecDepth 10000
set_option maxHeartbeats 0
variable {T:Nat→List Tre} {f:Fo} {c N:Nat}
theorem Rq.set {ks ds:List PV} (h:Rq T N ks ds) {i:Nat} {v:PV} (hv:Aq (T i).length v):Rq T N (ks.set i v) (ds.set i (.bool true)) where
 kl:=by rw[List.length_set];exact h.kl
 dl:=by rw[List.length_set];exact h.dl
 knk u hu:=by
  rcases List.mem_or_eq_of_mem_set hu with hu|rfl
  ·exact h.knk u hu
  ·exact hv.nk
 dnk u hu:=by
  rcases List.mem_or_eq_of_mem_set hu with hu|rfl
  ·exact h.dnk u hu
  ·exact trivial
 kf j hj:=by
  by_cases e:i=j
  ·subst e;exact⟨v,List.getElem?_set_self (by rw[h.kl];exact hj)⟩
  ·rw[List.getElem?_set_ne e];exact h.kf j hj
 df j hj:=by
  by_cases e:i=j
  ·subst e;exact⟨true,List.getElem?_set_self (by rw[h.dl];exact hj),fun _=>⟨v,List.getElem?_set_self (by rw[h.kl];exact hj),hv⟩⟩
  ·rw[List.getElem?_set_ne e,List.getElem?_set_ne e];exact h.df j hj
theorem Wq {lo:Nat} {L1 L2:Fm} {ks ds:List PV} {l0 l1 l2:List (Nat×Nat)} {g:Ab} (hlo:lo=3) (hm:Rq T N ks ds) (e0:g.get k0=some (obl (cnC f c N) l0)) (e1:g.get k1=some (obl ks l1)) (e2:g.get k2=some (obl ds l2)) (hf:M1 (rho lo []) L1 L2):Trim lo (rho lo []) L1 g L2 (mkH (cnL f c N ks ds l0 l1 l2) k3):=by
 subst hlo
 exact Trim.of (lo:=3) (l:=cnL f c N ks ds l0 l1 l2) (nx:=k3) [] rfl (Rl) ⟨e2.symm,e1.symm,e0.symm,trivial⟩ ⟨⟨_,_,rfl,e0,.same Yc⟩,⟨_,_,rfl,e1,.same (Ae.cells hm.knk)⟩,⟨_,_,rfl,e2,.same (Ae.cells hm.dnk)⟩,trivial⟩ hf
theorem KS (D:EX) (hc:c<4) (hN:f.ns.length=N) {i:Nat} {n:Nd} (hi:i<N) (hL:N≤4) (hn:(f.ns.map nV)[(i:Int).toNat]?=some (nC n)) (nL:n.az.length≤3) (hal:∀a∈n.az,a.ks.length≤2∧a.d<16∧∀k∈a.ks,QZ T f c N k)
  (hT:T i=A5 T c n.az) (hB:(A5 T c n.az).length<4294967296):QY T f c N i:=by
 intro ks ds hm
 have nlen:(n.az.map aV).length=n.az.length:=Lm ..
 have hlen:(f.ns.map nV).length=f.ns.length:=Lm ..
 obtain⟨b,hd,hdb⟩:=hm.df i hi
 refine XC.of (pu:=pt) (vf:=C.f55) rfl ?_
 refine Yw1 ?_
 refine⟨_,_,Wf rfl hd,?_⟩
 cases b
 ·refine Yw1 ?_
  refine XW.A7 (pu:=pt) (σ:=Nat×PV) (fun q=>n.az.length-q.1) (fun q=>[(k0,.v (.v (.s (.ptr k0 0)))),(k1,.v (iA i)),(k5,.v (.v (.s q.2))),(k6,.v (PA.lst 4 (n.az.map aV))),(k7,.v (iA q.1))])
   (fun q g=>q.1≤n.az.length∧Aq (A5 T c (n.az.take q.1)).length q.2∧∃ks ds l0 l1 l2,Rq T N ks ds∧g=mkH (cnL f c N ks ds l0 l1 l2) k3) (0,.Af)
   (Wq rfl hm rfl rfl rfl Yf) ⟨Zl,Aq.nil,ks,ds,[],[],[],hm,rfl⟩ ?_
  clear hm hd hdb
  rintro⟨j,v⟩ g ⟨hj,hv,ks,ds,l0,l1,l2,hm,rfl⟩
  replace hj:j≤n.az.length:=hj
  replace hv:Aq (A5 T c (n.az.take j)).length v:=hv
  have vnk:=hv.nk
  refine⟨fun h=>?_,fun h=>?_⟩
  ·have hj:j<n.az.length:=by have:=Ao h;omega
   have ha:n.az[j]?=some n.az[j]:=Gg hj
   have htk:n.az.take (j+1)=n.az.take j++[n.az[j]]:=List.take_succ_eq_append_getElem hj
   have hin:n.az[j]∈n.az:=List.getElem_mem hj
   generalize n.az[j]=a at ha htk hin
   have hga:=Ct ha
   obtain⟨a1,a2,a3⟩:=hal a hin
   have dh:=D.inn a.d a2 c hc
   have hs:=Ek T c (n.az.take j) a
   rw[←htk] at hs
   have hle:=Qb T c n.az (j+1)
   generalize (A5 T c n.az).length=full at hB hle
   have hl:=congrArg List.length hs
   cases hb:a.d.testBit c
   ·rw[hb] at dh hs hl
    simp only[Fj,if_false,List.append_nil] at hs hl
    refine Yw1 ?_
    exact⟨(j+1,v),_,_,(show _-_<_-_ by omega),Wq rfl hm rfl rfl rfl Yf,hj,(by rw[hs];exact hv),ks,ds,_,_,_,hm,rfl⟩
   ·rw[hb] at dh hs hl
    simp only[if_true,La,Lm] at hl
    have alt:=KR (T:=T) (f:=f) (c:=c) (N:=N) (a:=a) a1 a3 (by omega) hm
    generalize (Au T a.ks).length=q at alt hl
    refine Yw1 ?_
    refine XC.Be (l:=cnL f c N ks ds [] [] []) (nx:=k3) cnR alt rfl rfl (Xz hm rfl rfl rfl) Ya ?_
    rintro rc gc' ⟨⟨u,rfl,hu⟩,ks2,ds2,a0,b0,c0,hm2,e0,e1,e2⟩
    refine⟨[],k3,cnX f c N ks2 ds2 (a0++l0) (b0++l1) (c0++l2),[],.v (.s u),rfl,Rl,Yd hm2 e0 e1 e2 rfl rfl rfl rfl rfl rfl,trivial,hu.nk.rn,?_⟩
    have unk:=hu.nk
    have hadd:=wG (f:=f) (c:=c) hm2 hv hu (by omega)
    rw[←hl] at hadd
    refine Yw1 ?_
    clear e0 e1 e2
    refine XC.Be (l:=cnL f c N ks2 ds2 [] [] []) (nx:=k3) cnR hadd rfl rfl (Xz hm2 rfl rfl rfl) Ya ?_
    rintro rc gc' ⟨⟨w,rfl,hw⟩,ks3,ds3,a1,b1,c1,hm3,e0,e1,e2⟩
    refine⟨[],k3,cnX f c N ks3 ds3 (a1++_) (b1++_) (c1++_),[],.v (.s w),rfl,Rl,Yd hm3 e0 e1 e2 rfl rfl rfl rfl rfl rfl,trivial,hw.nk.rn,?_⟩
    have wnk:=hw.nk
    refine Yw1 ?_
    exact⟨(j+1,w),_,_,(show _-_<_-_ by omega),Wq rfl hm3 rfl rfl rfl Yf,hj,hw,ks3,ds3,_,_,_,hm3,rfl⟩
  ·have hfull:n.az.take j=n.az:=by rw[show j=n.az.length from by have:=A1 h;omega];exact List.take_length
   rw[hfull,←hT] at hv
   have hm2:=hm.set (i:=i) hv
   refine Yw1 ?_
   refine⟨_,_,Wg rfl (by rw[hm.kl];exact hi) rfl,?_⟩
   refine Yw1 ?_
   refine⟨_,_,Wg rfl (by rw[hm.dl];exact hi) rfl,?_⟩
   refine Yw1 ?_
   exact⟨⟨_,rfl,hv⟩,_,_,_,_,_,hm2,rfl,rfl,rfl⟩
 ·obtain⟨v,hk,hv⟩:=hdb rfl
  refine Yw1 ?_
  refine⟨_,_,Wf rfl hk,?_⟩
  refine Yw1 ?_
  exact⟨⟨_,rfl,hv⟩,_,_,_,_,_,hm,rfl,rfl,rfl⟩
theorem EY {f:Fo} {c:Nat} (D:EX) (hc:c<4) (w:WF0 f) (v:WF f):∀i,i<f.ns.length→QY (Tr2 f c) f c f.ns.length i:=by
 intro i
 induction i using Nat.strongRecOn with
 |ind i ih=>
  intro hi
  have hn:f.ns[i]?=some f.ns[i]:=Gg hi
  generalize f.ns[i]=n at hn
  have hL:=w.len
  have hg:=G0 hn
  rw[Ke (v.as0 i n hn)] at hg
  have hU:=sX (c:=c) (Lt w) i n hn
  have hlen:=Oc (c:=c) w i hi
  have hpx:=cY i (by omega)
  have hB:(Tr2 f c i).length<4294967296:=by omega
  refine KS D hc rfl hi hL hg (w.Iy i n hn) (fun a ha=>⟨(w.al i n hn a ha).1,(w.al i n hn a ha).2.2.1,fun k hk=>?_⟩) hU (by rw[←hU];exact hB)
  have hki:=(w.al i n hn a ha).2.1 k hk
  exact KQ (ih k hki (by omega))
end Go.Pv
end
section
noncomputable section
namespace Go.Pv
open Go.Vm Go.Vm.C
open Go.Vm.Key (kn)
set_option maxRecDepth 10000
set_option maxHeartbeats 0
theorem total_ok {f:Fo} {c:Nat} (D:EX) (hc:c<4) (w:WF0 f) (w1:WF f) {ks ds:List PV} (hm:Rq (Tr2 f c) f.ns.length ks ds) :
  XC Fn 32 [.v (.s (.ptr k0 0))] (mkH (cnL f c f.ns.length ks ds [] [] []) k3) fun r g=>(∃v,r=.tup [.s v,.s (.int .i64 ((0:Nat):Int))]∧Aq (Bq (Tr2 f c) c f.rs).length v) ∧
   ∃ks ds l0 l1 l2,Rq (Tr2 f c) f.ns.length ks ds∧g.get k0=some (obl (cnC f c f.ns.length) l0)∧g.get k1=some (obl ks l1)∧g.get k2=some (obl ds l2):=by
 have hrlen:(f.rs.map rV).length=f.rs.length:=Lm ..
 have hL:=w.len
 have rL:=w.Oy
 refine XC.of (pu:=pt) (vf:=C.f32) rfl ?_
 refine Yw1 ?_
 refine XW.A7 (pu:=pt) (σ:=Nat×PV) (fun q=>f.rs.length-q.1) (fun q=>[(k0,.v (.v (.s (.ptr k0 0)))),(k4,.v (.v (.s q.2))),(k5,.v (iA q.1))])
  (fun q g=>q.1≤f.rs.length∧Aq (Bq (Tr2 f c) c (f.rs.take q.1)).length q.2∧∃ks ds l0 l1 l2,Rq (Tr2 f c) f.ns.length ks ds∧g=mkH (cnL f c f.ns.length ks ds l0 l1 l2) k3) (0,.Af)
  (Wq rfl hm rfl rfl rfl Yf) ⟨Zl,Aq.nil,ks,ds,[],[],[],hm,rfl⟩ ?_
 clear hm
 rintro⟨i,v⟩ g ⟨hi,hv,ks,ds,l0,l1,l2,hm,rfl⟩
 replace hi:i≤f.rs.length:=hi
 replace hv:Aq (Bq (Tr2 f c) c (f.rs.take i)).length v:=hv
 have vnk:=hv.nk
 have hmax:(Bq (Tr2 f c) c f.rs).length<4294967296:=cZ w
 refine⟨fun h=>?_,fun h=>?_⟩
 ·have hi:i<f.rs.length:=by have:=Ao h;omega
  have hr:f.rs[i]?=some f.rs[i]:=Gg hi
  have htk:f.rs.take (i+1)=f.rs.take i++[f.rs[i]]:=List.take_succ_eq_append_getElem hi
  generalize f.rs[i]=r at hr htk
  have hgr:=Iv hr
  obtain⟨r1,r2,r3⟩:=w.rt i r hr
  rw[r1] at hgr
  have dh:=D.inn r.2 r2 c hc
  have hs:=Rf (Tr2 f c) c (f.rs.take i) r
  rw[←htk,r1] at hs
  have hle:=Zc (Tr2 f c) c f.rs (i+1)
  have hG:=EY D hc w w1 i (by omega) ks ds hm
  generalize (Bq (Tr2 f c) c f.rs).length=full at hmax hle
  have hl:=congrArg List.length hs
  cases hb:r.2.testBit c
  ·rw[hb] at dh hs hl
   simp only[Fj,if_false,List.append_nil] at hs hl
   refine Yw1 ?_
   exact⟨(i+1,v),_,_,(show _-_<_-_ by omega),Wq rfl hm rfl rfl rfl Yf,hi,(by rw[hs];exact hv),ks,ds,_,_,_,hm,rfl⟩
  ·rw[hb] at dh hs hl
   simp only[if_true,La] at hl
   refine Yw1 ?_
   refine XC.Be (l:=cnL f c f.ns.length ks ds [] [] []) (nx:=k3) cnR hG rfl rfl (Xz hm rfl rfl rfl) Ya ?_
   rintro rc gc' ⟨⟨u,rfl,hu⟩,ks2,ds2,a0,b0,c0,hm2,e0,e1,e2⟩
   refine⟨[],k3,cnX f c f.ns.length ks2 ds2 (a0++l0) (b0++l1) (c0++l2),[],.v (.s u),rfl,Rl,Yd hm2 e0 e1 e2 rfl rfl rfl rfl rfl rfl,trivial,hu.nk.rn,?_⟩
   have unk:=hu.nk
   have hadd:=wG (f:=f) (c:=c) hm2 hv hu (by omega)
   rw[←hl] at hadd
   refine Yw1 ?_
   clear e0 e1 e2
   refine XC.Be (l:=cnL f c f.ns.length ks2 ds2 [] [] []) (nx:=k3) cnR hadd rfl rfl (Xz hm2 rfl rfl rfl) Ya ?_
   rintro rc gc' ⟨⟨z,rfl,hz⟩,ks3,ds3,a1,b1,c1,hm3,e0,e1,e2⟩
   refine⟨[],k3,cnX f c f.ns.length ks3 ds3 (a1++_) (b1++_) (c1++_),[],.v (.s z),rfl,Rl,Yd hm3 e0 e1 e2 rfl rfl rfl rfl rfl rfl,trivial,hz.nk.rn,?_⟩
   have znk:=hz.nk
   refine Yw1 ?_
   exact⟨(i+1,z),_,_,(show _-_<_-_ by omega),Wq rfl hm3 rfl rfl rfl Yf,hi,hz,ks3,ds3,_,_,_,hm3,rfl⟩
 ·have hfull:f.rs.take i=f.rs:=by rw[show i=f.rs.length from by have:=A1 h;omega];exact List.take_length
  rw[hfull] at hv
  refine Yw1 ?_
  exact⟨⟨v,rfl,hv⟩,ks,ds,_,_,_,hm,rfl,rfl,rfl⟩
theorem KU {f:Fo} {c:Nat} (w:WF0 f):XC Fn 31 [foA f,cA c] (mkH [] k0) fun r g=>r=.v (.s (.ptr k3 0))∧g.get k1=some (ob (List.replicate f.ns.length .Af))∧g.get k2=some (ob (List.replicate f.ns.length (.bool false))) ∧
  g.get k3=some (ob [.lst 5 (f.ns.map nV) none,.lst 3 (f.rs.map rV) none,.int .u64 (c:Nat),.slice k1 0 f.ns.length 1 (some f.ns.length),.slice k2 0 f.ns.length 1 (some f.ns.length),.bool false]):=by
 have hL:=w.len
 have hlen:(f.ns.map nV).length=f.ns.length:=Lm ..
 rw[Da w.n0 w.r0]
 refine XC.of (pu:=pt) (vf:=C.f31) rfl ?_
 refine Yw1 ?_
 conv=>whnf
 split
 case h_2 he=>exact absurd ((Dc (n:=f.ns.length) rfl (by rw[hlen]) (by omega) (by omega)).symm.trans he) (by simp)
 next v g' he=>
 cases he.symm.trans (Dc (n:=f.ns.length) rfl (by rw[hlen]) (by omega) (by omega))
 conv=>whnf
 split
 case h_2 he=>exact absurd ((Dc (n:=f.ns.length) rfl (by rw[hlen]) (by omega) (by omega)).symm.trans he) (by simp)
 next v g' he=>
 cases he.symm.trans (Dc (n:=f.ns.length) rfl (by rw[hlen]) (by omega) (by omega))
 rw[cN,cN]
 refine Yw1 ?_
 exact⟨rfl,rfl,rfl,rfl⟩
theorem KV (T:Nat→List Tre) (N:Nat):Rq T N (List.replicate N .Af) (List.replicate N (.bool false)) where
 kl:=List.length_replicate
 dl:=List.length_replicate
 knk v h:=by rw[List.eq_of_mem_replicate h];exact trivial
 dnk v h:=by rw[List.eq_of_mem_replicate h];exact trivial
 kf i hi:=⟨.Af,by simp[hi]⟩
 df i hi:=⟨false,by simp[hi],fun h=>(by cases h)⟩
theorem EZ {a b:Nat} (h:Eu (a:Int) (b:Int)>((0:Nat):Int)):b<a:=by
 unfold Eu at h
 split at h
 ·omega
 ·split at h<;>omega
theorem zB {a b:Nat} (h:¬Eu (a:Int) (b:Int)>((0:Nat):Int)):a≤b:=by
 unfold Eu at h
 split at h
 ·omega
 ·split at h<;>omega
theorem RA {f:Fo} {c:Nat} (D:EX) (hc:c<4) (w:WF0 f) (w1:WF f):Ag Fn 20 [foA f,PA.lst 1 [[.int .u64 (c:Nat)]]] (bA (decide ((Bq (Tr2 f c) c f.rs).length≤2000))):=by
 have hm:=KV (Tr2 f c) f.ns.length
 have hnew:=KU (c:=c) w
 have htot:=total_ok (c:=c) D hc w w1 hm
 obtain⟨r,o1,o2⟩:=sL (n:=2000) (by decide)
 have fr:=o2.flat
 rw[Da w.n0 w.r0] at hnew ⊢
 refine Am (pu:=pt) (vf:=C.f20) rfl ?_
 refine Yw1 ?_
 refine XW.Ad (pu:=pt) ?_
 refine Yw1 ?_
 refine XC.Be (l:=[]) (nx:=k0) [] hnew rfl rfl trivial Ya ?_
 rintro rc gc' ⟨rfl,e1,e2,e3⟩
 refine⟨[(k1,k1),(k2,k2),(k3,k3)],k4,[],[ob (List.replicate f.ns.length .Af),ob (List.replicate f.ns.length (.bool false)),ob (cnC f c f.ns.length)],.v (.s (.ptr k3 0)),rfl,(show 1≤4 by decide),trivial,⟨⟨_,e1,.same (Ae.cells hm.knk)⟩,⟨_,e2,.same (Ae.cells hm.dnk)⟩,⟨_,e3,.same Yc⟩,trivial⟩,rfl,?_⟩
 clear e1 e2 e3
 refine Yw1 ?_
 refine XC.Be (l:=cnL f c f.ns.length (List.replicate f.ns.length .Af) (List.replicate f.ns.length (.bool false)) [] [] []) (nx:=k3) [(k0,k3),(k1,k1),(k2,k2)] htot rfl rfl ⟨⟨_,_,rfl,rfl,.same Yc⟩,⟨_,_,rfl,rfl,.same (Ae.cells hm.knk)⟩,⟨_,_,rfl,rfl,.same (Ae.cells hm.dnk)⟩,trivial⟩ Ya ?_
 rintro rc gc' ⟨⟨v,rfl,hv⟩,ks,ds,l0,l1,l2,hm2,e0,e1,e2⟩
 refine⟨[],k4,[some (obl (cnC f c f.ns.length) (l0++[])),some (obl ks (l1++[])),some (obl ds (l2++[]))],[],.tup [.s v,.s (.int .i64 ((0:Nat):Int))],rfl,Rl,⟨⟨_,_,_,e0,.same Yc,rfl,rfl,rfl,rfl⟩,⟨_,_,_,e1,.same (Ae.cells hm2.knk),rfl,rfl,rfl,rfl⟩,⟨_,_,_,e2,.same (Ae.cells hm2.dnk),rfl,rfl,rfl,rfl⟩,trivial⟩,trivial,.cons hv.nk.rn (.cons rfl .nil),?_⟩
 have fv:=hv.flat
 have hcmp:=JV hv o2
 generalize (Bq (Tr2 f c) c f.rs).length=n at *
 repeat'(try conv=>whnf)<;>first|(refine⟨fun h=>?_,fun h=>?_⟩<;>first|exact J8 h|exact Mx h|exact absurd (Ao h) (by omega)|exact absurd (A1 h) (by omega)|replace h:=Ao h|replace h:=A1 h|skip)|refine⟨_,⟨by omega,by assumption⟩,?_⟩|refine⟨_,⟨by omega,rfl⟩,?_⟩|refine⟨_,_,_,(rfl:Dk _ _ _=_),by assumption,?_⟩|refine⟨_,_,_,Dg (by repeat' first|exact trivial|refine⟨?_,?_⟩|exact Dj _ _|(show Et _;assumption)|fail),by assumption,?_⟩|refine⟨(by omega:_∧_),?_⟩|refine⟨(by omega:_≠_),?_⟩|refine⟨_,_,(rfl:opP _ _ _=_),?_⟩|exact⟨_,(rfl:E8 _ _ _=_)⟩|fail
 ·have hn:2000<n:=EZ h
  rw[show decide (n≤2000)=false from by simp;omega]
  exact Yw0
 ·have hn:n≤2000:=zB h
  rw[show decide (n≤2000)=true from by simp;omega]
  refine Yw1 ?_
  refine XW.Ad (pu:=pt) ?_
  exact Yw0
end Go.Pv
end
section
noncomputable section
namespace Go.Pv
open Go.Vm Go.Vm.C
open Go.Vm.Key (kn)
set_option maxRecDepth 10000
set_option maxHeartbeats 0
variable {T:Nat→List Tre} {f:Fo} {c:Nat} {tot:PV}
theorem Qc {α β:Type} {g:α→List β} {m:Nat} (hm:0<m):∀{l:List α},(∀s∈l,(g s).length=m)→∀n,(l.flatMap g)[n]?=(l[n / m]?).bind fun s=>(g s)[n % m]?
 |[],_,n=>by simp
 |s::l,h,n=>by
  have hs:=h s (.head _)
  rw[List.flatMap_cons]
  by_cases hn:n<m
  ·rw[List.getElem?_append_left (by omega),Nat.div_eq_of_lt hn,Nat.mod_eq_of_lt hn];rfl
  ·rw[List.getElem?_append_right (by omega),hs,Qc hm (fun t ht=>h t (.tail _ ht)) (n-m)]
   obtain⟨k,rfl⟩:∃k,n=k+m:=⟨n-m,by omega⟩
   rw[Nat.add_sub_cancel,Nat.add_div_right _ hm,Nat.add_mod_right,List.getElem?_cons_succ]
theorem Jf (x:Nat):Au T [x]=T x:=by simp[Au]
theorem zC (x y:Nat):Au T [x,y]=(T x).flatMap fun s=>(T y).map (s++·):=by rw[Au,Jf]
theorem dD {x y n:Nat} (hy:0<(T y).length) {s u:Tre} (h1:(T x)[n / (T y).length]?=some s) (h2:(T y)[n % (T y).length]?=some u):(Au T [x,y])[n]?=some (s++u):=by
 rw[zC,Qc hy (fun s _=>Lm ..),h1]
 simp[h2]
theorem gE {az:List Al} {j n:Nat} {a:Al} {u:Tre} (ha:az[j]?=some a) (hb:a.d.testBit c=true) (h1:(A5 T c (az.take j)).length≤n) (h2:(Au T a.ks)[n-(A5 T c (az.take j)).length]?=some u):(A5 T c az)[n]?=some (a.p::u):=by
 obtain⟨hj,rfl⟩:=Gi.1 ha
 have h:A5 T c az=A5 T c (az.take j)++((Au T az[j].ks).map (az[j].p::·)++A5 T c (az.drop (j+1))):=by
  conv=>lhs;rw[←List.take_append_drop j az,List.drop_eq_getElem_cons hj]
  rw[A5,List.flatMap_append,List.flatMap_cons,if_pos hb];rfl
 rw[h,List.getElem?_append_right h1,List.getElem?_append_left (by rw[Lm];exact(Gi.1 h2).1),List.getElem?_map,h2];rfl
theorem FA (i:Nat):1≤sz i:=by
 have:=Nat.pow_le_pow_right (n:=2) (by decide) (show 1≤i+1 by omega)
 unfold sz;omega
theorem gF {a b:Nat} (h:Eu (a:Int) (b:Int)≥((0:Nat):Int)):b≤a:=by
 unfold Eu at h
 split at h
 ·omega
 ·split at h<;>omega
theorem oX {a b:Nat} (h:¬Eu (a:Int) (b:Int)≥((0:Nat):Int)):a<b:=by
 unfold Eu at h
 split at h
 ·omega
 ·split at h<;>omega
structure NM (T:Nat→List Tre) (f:Fo) (c:Nat) (tot:PV) (i:Nat) (t:Tre) (nx:Nat) (n:Nat) (r:PA) (g:Ab):Prop where
 out:∃s kN anc cc m,(T i)[n]?=some s∧s.length≤sz i∧nx≤kN.toNat∧r=.v (.s (.slice kN 0 m 4 none))∧g.get kN=some ⟨.cells cc,true,false,anc,[]⟩∧m=(t++s).length∧cc=(tR (t++s)).flatten
 blk:∃m l0 l1,Bk T m∧Lg l0∧g.get k0=some (obl (tbC f c tot) l0)∧g.get k1=some (mpB m l1)
abbrev wrL (f:Fo) (c:Nat) (tot:PV) (m:List (Nat×PV)) (t:Tre) (cc:List PV):List (Key×Ap):=tyL f c tot m [] []++[(k2,wld (tR t).flatten k3),(k3,fzb cc)]
def FB (T:Nat→List Tre) (f:Fo) (c:Nat) (tot:PV) (i:Nat):Prop:=∀m t cc n v,Bk T m→t≠[]→t.length+sz i≤1000→(∀u∈cc,Ae u)→Aq n v→n<(T i).length →
 XC Fn 110 [.v (.s (.ptr k0 0)),.v (.s (.slice k2 0 t.length 4 none)),iA i,.v (.s v)] (mkH (wrL f c tot m t cc) k4) fun r g=>NM T f c tot i t 4 n r g∧g.get k3=some (fzb cc)∧∃anc,g.get k2=some ⟨.cells (tR t).flatten,false,false,anc,[]⟩
theorem FC (D:I8) (hc:c<4) (ht:Ae tot) {i:Nat} {nd:Nd} (hi:i<f.ns.length) (hL:f.ns.length≤4) (hn:(f.ns.map nV)[(i:Int).toNat]?=some (nC nd)) (nL:nd.az.length≤3) (hal:∀a∈nd.az,a.ks.length≤2∧a.d<16∧∀k∈a.ks,k<i∧Qa T f c tot k∧FB T f c tot k)
  (hT:T i=A5 T c nd.az) (hB:(A5 T c nd.az).length<4294967296):FB T f c tot i:=by
 intro m t cc n v hm htne htl hcc hv hnl
 have nlen:(nd.az.map aV).length=nd.az.length:=Lm ..
 have hlen:(f.ns.map nV).length=f.ns.length:=Lm ..
 have ndk:∀u∈nC nd,Ae u:=fun u hu=>by
  simp only[List.mem_cons,List.not_mem_nil,or_false] at hu
  rcases hu with rfl|rfl|rfl|rfl|rfl<;>exact trivial
 have tfk:∀(t:Tre),∀u∈(tR t).flatten,Ae u:=fun t u hu=>by
  obtain⟨x,hx,hu⟩:=List.mem_flatten.1 hu
  obtain⟨p,_,rfl⟩:=List.mem_map.1 hx
  simp only[List.mem_cons,List.not_mem_nil,or_false] at hu
  rcases hu with rfl|rfl|rfl|rfl<;>exact trivial
 have tfh:∀(t:Tre) (p:Nat),∀u∈(tR t).flatten++[[PV.int .i64 (p:Nat),.int .i64 (-1),.int .i64 0,.int .i64 0]].flatten,Ae u:=fun t p u hu=>by
  refine tfk (t++[p]) u ?_
  rw[←Re,List.flatten_append];exact hu
 have tfk0:=tfk t
 have tfl:=Gl (P9 t)
 have trl:(tR t).length=t.length:=Lm ..
 rw[hT] at hnl
 have vnk:=hv.nk
 refine XC.of (pu:=pt) (vf:=C.f110) rfl ?_
 refine Yw1 ?_
 refine XW.N8 k4 (Rl) rfl rfl ?_
 refine XW.A7 (pu:=pt) (σ:=Nat×PV) (fun q=>nd.az.length-q.1) (fun q=>[(k0,.v (.v (.s (.ptr k0 0)))),(k1,.v (.v (.s (.slice k2 0 t.length 4 none)))),(k3,.v (.v (.s q.2))),(k9,.v (.v (.s (.ptr k4 0)))),(k26,.v (PA.lst 4 (nd.az.map aV))),(k27,.v (iA (nd.az.map aV).length)),(k28,.v (iA q.1))])
  (fun q g=>q.1≤nd.az.length∧(A5 T c (nd.az.take q.1)).length≤n∧Aq (n-(A5 T c (nd.az.take q.1)).length) q.2∧∃m l0 l1,Bk T m∧Lg l0∧g=mkH (tyL f c tot m l0 l1++[(k2,wld (tR t).flatten k3),(k3,fzb cc),(k4,⟨.cells (nC nd),true,true,[],[(0,5)]⟩)]) k5) (0,v)
  (Trim.of (lo:=4) (l:=tyL f c tot m [] []++[(k2,wld (tR t).flatten k3),(k3,fzb cc),(k4,⟨.cells (nC nd),true,true,[],[(0,5)]⟩)]) (nx:=k5) [(k4,k4)] rfl (show 4≤5 by decide) Yl ⟨⟨_,_,rfl,rfl,.same Yc⟩,⟨_,_,rfl,rfl,.map hm⟩,Yb⟩ Yf) ⟨Zl,Zl,hv,m,[],[],hm,Lg.nil,rfl⟩ ?_
 clear hv vnk hm
 rintro⟨j,u⟩ g ⟨hj,hle,hu,m,l0,l1,hm,lg,rfl⟩
 replace hj:j≤nd.az.length:=hj
 replace hle:(A5 T c (nd.az.take j)).length≤n:=hle
 replace hu:Aq (n-(A5 T c (nd.az.take j)).length) u:=hu
 have unk:=hu.nk
 have ufl:=hu.flat
 refine⟨fun h=>?_,fun h=>?_⟩
 case refine_2=>
  have hfull:nd.az.take j=nd.az:=by rw[show j=nd.az.length from by have:=A1 h;omega];exact List.take_length
  rw[hfull] at hle
  omega
 have hj:j<nd.az.length:=by have:=Ao h;omega
 have ha:nd.az[j]?=some nd.az[j]:=Gg hj
 have htk:nd.az.take (j+1)=nd.az.take j++[nd.az[j]]:=List.take_succ_eq_append_getElem hj
 have hin:nd.az[j]∈nd.az:=List.getElem_mem hj
 generalize nd.az[j]=a at ha htk hin
 have hga:=Ct ha
 obtain⟨a1,a2,a3⟩:=hal a hin
 have dh:=D.holds a.d a2 c hc
 have hs:=Ek T c (nd.az.take j) a
 rw[←htk] at hs
 have hle2:=Qb T c nd.az (j+1)
 have hget:=fun u=>gE (T:=T) (c:=c) (n:=n) (u:=u) ha
 rw[←hT] at hget
 generalize (A5 T c nd.az).length=full at hB hle2 hnl
 have hl:=congrArg List.length hs
 cases hb:a.d.testBit c
 ·rw[hb] at dh hs hl
  simp only[Fj,if_false,List.append_nil] at hs hl
  refine Yw1 ?_
  exact⟨(j+1,u),_,_,(show _-_<_-_ by omega),Trim.of (lo:=4) (l:=tyL f c tot m l0 l1++[(k2,wld (tR t).flatten k3),(k3,fzb cc),(k4,⟨.cells (nC nd),true,true,[],[(0,5)]⟩)]) (nx:=k5) [(k4,k4)] rfl (show 4≤5 by decide) Yl ⟨⟨_,_,rfl,rfl,.same Yc⟩,⟨_,_,rfl,rfl,.map hm⟩,Yb⟩ Yf,hj,(by rw[hs];exact hle),(by rw[hs];exact hu),m,_,_,hm,lg,rfl⟩
 ·rw[hb] at dh hs hl
  replace hget:=fun u=>hget u hb hle
  simp only[if_true,La,Lm] at hl
  have alt:=kT (T:=T) (f:=f) (c:=c) ht (i:=i) (a:=a) a1 (fun k hk=>⟨(a3 k hk).1,(a3 k hk).2.1⟩) (by omega) hm
  refine Yw1 ?_
  refine XC.Be (l:=tyL f c tot m [] []) (nx:=k2) tyR alt rfl rfl (Du ht hm rfl rfl) Ya ?_
  rintro rc gc' ⟨⟨q,rfl,hq⟩,m2,b0,b1,hm2,hk2,lgb,e0,e1⟩
  refine⟨[],k6,tyX f c tot m2 (b0++l0) (b1++l1),[],.v (.s q),rfl,Rl,Dz ht hm2 e0 e1 rfl rfl rfl rfl,trivial,hq.nk.rn,?_⟩
  clear e0 e1 alt
  have qnk:=hq.nk
  have qfl:=hq.flat
  have cmp:=cK hu hq
  repeat'(try conv=>whnf)<;>first|(refine⟨fun h=>?_,fun h=>?_⟩<;>first|exact J8 h|exact Mx h|exact absurd (Ao h) (by omega)|exact absurd (A1 h) (by omega)|replace h:=Ao h|replace h:=A1 h|skip)|refine⟨_,⟨by omega,by assumption⟩,?_⟩|refine⟨_,⟨by omega,rfl⟩,?_⟩|refine⟨_,_,_,(rfl:Dk _ _ _=_),by assumption,?_⟩|refine⟨_,_,_,Dg (by repeat' first|exact trivial|refine⟨?_,?_⟩|exact Dj _ _|(show Et _;assumption)|fail),by assumption,?_⟩|refine⟨(by omega:_∧_),?_⟩|refine⟨(by omega:_≠_),?_⟩|refine⟨_,_,(rfl:opP _ _ _=_),?_⟩|exact⟨_,(rfl:E8 _ _ _=_)⟩|fail
  ·have hge:(Au T a.ks).length≤n-(A5 T c (nd.az.take j)).length:=gF h
   obtain⟨z,s1,s2⟩:=sM hu hq hge
   have znk:=s2.nk
   refine Yw1 ?_
   exact⟨(j+1,z),_,_,(show _-_<_-_ by omega),Trim.of (lo:=4) (l:=tyL f c tot m2 (b0++l0) (b1++l1)++[(k2,wld (tR t).flatten k3),(k3,fzb cc),(k4,⟨.cells (nC nd),true,true,[],[(0,5)]⟩)]) (nx:=k5) [(k4,k4)] rfl (show 4≤5 by decide) Yl ⟨⟨_,_,rfl,rfl,.same Yc⟩,⟨_,_,rfl,rfl,.map hm2⟩,Yb⟩ Yf,hj,(by show(A5 T c (nd.az.take (j+1))).length≤n;omega),(by show Aq (n-(A5 T c (nd.az.take (j+1))).length) z;rw[hl,Nat.sub_add_eq];exact s2),m2,_,_,hm2,Yg,rfl⟩
  ·have hlt:n-(A5 T c (nd.az.take j)).length<(Au T a.ks).length:=oX h
   clear cmp hq qnk qfl
   generalize n-(A5 T c (nd.az.take j)).length=n' at *
   obtain⟨p,ks,d⟩:=a
   rcases ks with _|⟨x,_|⟨y,_|⟨z,ks⟩⟩⟩
   ·refine⟨_,_,Dc (n:=0) rfl rfl (by decide) (by decide),?_⟩
    refine Yw1 ?_
    refine XW.Ad (pu:=pt) ?_
    refine Yw1 ?_
    refine⟨_,_,sT rfl (by rw[tfl,trl]) rfl (by decide) (by omega),?_⟩
    refine Yw1 ?_
    refine XW.Ad (pu:=pt) ?_
    refine Yw1 ?_
    have h0:n'=0:=by simpa[Au] using hlt
    exact⟨⟨⟨p::[],k8,_,_,_,hget [] (by rw[h0];rfl),(by have:=FA i;simpa using this),(show 4≤8 by decide),rfl,rfl,by simp,by rw[←Re,List.flatten_append];rfl⟩,m2,_,_,hm2,Yg,rfl,rfl⟩,rfl,_,rfl⟩
   ·obtain⟨hx,kx,wx⟩:=a3 x (by simp)
    clear a1 a3
    rw[Jf] at hlt
    have hkl:(List.map kV (Al.mk p [x] d).ks).length=1:=rfl
    refine⟨_,_,Dc (n:=1) rfl rfl (by decide) (by decide),?_⟩
    refine Yw1 ?_
    refine XW.Ad (pu:=pt) ?_
    refine Yw1 ?_
    refine XC.Be (l:=tyL f c tot m2 [] []) (nx:=k2) tyR (kx m2 hm2) rfl rfl (Du ht hm2 rfl rfl) Ya ?_
    rintro rc gc' ⟨⟨v1,rfl,hv1⟩,m3,c0,c1,hm3,hk3,lgc,e0,e1⟩
    refine⟨[],k7,tyX f c tot m3 (c0++_) (c1++_),[],.v (.s v1),rfl,Rl,Dz ht hm3 e0 e1 rfl rfl rfl rfl,trivial,hv1.nk.rn,?_⟩
    clear e0 e1
    obtain⟨qx,rx,d1,d2,d3⟩:=We hu hv1 (by omega)
    have v1f:=hv1.flat
    have rnk:=d3.nk
    rw[Nat.mod_eq_of_lt hlt] at d3
    refine Yw1 ?_
    refine XW.Ad (pu:=pt) ?_
    refine Yw1 ?_
    refine⟨_,_,sT rfl (by rw[tfl,trl]) rfl (by decide) (by omega),?_⟩
    refine Yw1 ?_
    refine XW.Ad (pu:=pt) ?_
    refine Yw1 ?_
    have hw:=wx m3 (t++[p]) (nC nd) _ _ hm3 (by simp) (by have:=Ej i (by omega) x hx;simp;omega) ndk d3 hlt
    rw[show(t++[p]).length=t.length+1 from by simp] at hw
    refine XC.Be (l:=wrL f c tot m3 (t++[p]) (nC nd)) (nx:=k4) [(k0,k0),(k1,k1),(k2,k8),(k3,k4)] hw rfl rfl ⟨⟨_,_,rfl,rfl,.same Yc⟩,⟨_,_,rfl,rfl,.map hm3⟩,⟨_,_,rfl,rfl,⟨(by rw[←Re,List.flatten_append];exact Ae.cells (tfh _ _)),fun _=>⟨rfl,.inr ⟨_,_,_,.head _,rfl,rfl,rfl⟩⟩,rfl⟩⟩,⟨_,_,rfl,rfl,⟨Ae.cells ndk,fun _=>⟨rfl,.inl .nil⟩,rfl⟩⟩,trivial⟩ Ya ?_
    rintro rc gc' ⟨⟨⟨s,kN,ancs,ccs,ms,gs,zs,hles,rfl,eN,rfl,rfl⟩,m4,f0s,f1s,hm4,lgs,e0,e1⟩,e3,ans,e2⟩
    refine⟨[(k10,kN)],k11,[some (obl (tbC f c tot) (f0s++_)),some (mpB m4 (f1s++_)),some ⟨.cells (tR (t++[p])).flatten,false,false,[],_⟩,some ⟨.cells (nC nd),true,true,[],[(0,5)]⟩],[wld (tR (t++[p]++s)).flatten k4],.v (.s (.slice k10 0 (t++[p]++s).length 4 none)),A9 (Rl) (by decide) hles,(show 10≤11 by decide),⟨⟨_,_,_,e0,.same Yc,rfl,rfl,rfl,rfl⟩,⟨_,_,_,e1,.map hm4,rfl,rfl,rfl,rfl⟩,⟨_,_,_,e2,⟨Ae.cells (tfk _),(fun h=>(by cases h)),rfl⟩,rfl,rfl,rfl,rfl⟩,⟨_,_,_,e3,⟨Ae.cells ndk,fun _=>⟨rfl,.inl .nil⟩,rfl⟩,rfl,rfl,rfl,rfl⟩,trivial⟩,⟨⟨_,eN,⟨Ae.cells (tfk _),fun _=>⟨rfl,.inr ⟨_,_,_,.head _,rfl,e3,rfl⟩⟩,rfl⟩⟩,trivial⟩,rfl,?_⟩
    clear e0 e1 e2 e3 eN
    refine Yw1 ?_
    refine XW.Ad (pu:=pt) ?_
    refine Yw1 ?_
    exact⟨⟨⟨p::s,k10,_,_,_,hget s (by rw[Jf];exact gs),(by have:=Ej i (by omega) x hx;simp;omega),(show 4≤10 by decide),rfl,rfl,by simp,by simp⟩,m4,_,_,hm4,Yg,rfl,rfl⟩,rfl,_,rfl⟩
   ·obtain⟨hx,kx,wx⟩:=a3 x (by simp)
    obtain⟨hy,ky,wy⟩:=a3 y (by simp)
    clear a1 a3
    rw[Kh] at hlt
    have hlt':True→n'<(T x).length*(T y).length:=fun _=>hlt
    clear hlt hl hs
    have hkl:(List.map kV (Al.mk p [x,y] d).ks).length=2:=rfl
    refine⟨_,_,Dc (n:=2) rfl rfl (by decide) (by decide),?_⟩
    refine Yw1 ?_
    refine XW.Ad (pu:=pt) ?_
    refine Yw1 ?_
    refine XC.Be (l:=tyL f c tot m2 [] []) (nx:=k2) tyR (ky m2 hm2) rfl rfl (Du ht hm2 rfl rfl) Ya ?_
    rintro rc gc' ⟨⟨vy,rfl,hvy⟩,m3,c0,c1,hm3,hkm3,lgc,e0,e1⟩
    refine⟨[],k7,tyX f c tot m3 (c0++_) (c1++_),[],.v (.s vy),rfl,Rl,Dz ht hm3 e0 e1 rfl rfl rfl rfl,trivial,hvy.nk.rn,?_⟩
    clear e0 e1
    have hy0:0<(T y).length:=by
     refine Nat.pos_of_ne_zero fun e=>?_
     have:=hlt' trivial
     rw[e] at this;simp at this
    have hq0:n' / (T y).length<(T x).length:=Nat.div_lt_of_lt_mul (by rw[Nat.mul_comm];exact hlt' trivial)
    have hr0:n' % (T y).length<(T y).length:=Nat.mod_lt _ hy0
    have hpg:=fun s u=>dD (T:=T) (x:=x) (n:=n') (s:=s) (u:=u) hy0
    obtain⟨qy,ry,d1,d2,d3⟩:=We hu hvy hy0
    have vyf:=hvy.flat
    have rynk:=d3.nk
    have qyf:=d2.flat
    clear hlt'
    generalize n' / (T y).length=nx at *
    generalize n' % (T y).length=ny at *
    refine Yw1 ?_
    refine XW.Ad (pu:=pt) ?_
    refine Yw1 ?_
    refine XC.Be (l:=tyL f c tot m3 [] []) (nx:=k2) tyR (kx m3 hm3) rfl rfl (Du ht hm3 rfl rfl) Ya ?_
    rintro rc gc' ⟨⟨vx,rfl,hvx⟩,m4,b0,b1,hm4,hkm4,lgb,e0,e1⟩
    refine⟨[],k7,tyX f c tot m4 (b0++_) (b1++_),[],.v (.s vx),rfl,Rl,Dz ht hm4 e0 e1 rfl rfl rfl rfl,trivial,hvx.nk.rn,?_⟩
    clear e0 e1
    obtain⟨qx,rx,d4,d5,d6⟩:=We d2 hvx (by omega)
    rw[Nat.mod_eq_of_lt hq0] at d6
    have vxf:=hvx.flat
    have rxnk:=d6.nk
    refine Yw1 ?_
    refine XW.Ad (pu:=pt) ?_
    refine Yw1 ?_
    refine⟨_,_,sT rfl (by rw[tfl,trl]) rfl (by decide) (by omega),?_⟩
    refine Yw1 ?_
    refine XW.Ad (pu:=pt) ?_
    refine Yw1 ?_
    have hw:=wx m4 (t++[p]) (nC nd) _ _ hm4 (by simp) (by have:=Ej i (by omega) x hx;have:=Ej i (by omega) y hy;simp;omega) ndk d6 hq0
    rw[show(t++[p]).length=t.length+1 from by simp] at hw
    refine XC.Be (l:=wrL f c tot m4 (t++[p]) (nC nd)) (nx:=k4) [(k0,k0),(k1,k1),(k2,k8),(k3,k4)] hw rfl rfl ⟨⟨_,_,rfl,rfl,.same Yc⟩,⟨_,_,rfl,rfl,.map hm4⟩,⟨_,_,rfl,rfl,⟨(by rw[←Re,List.flatten_append];exact Ae.cells (tfh _ _)),fun _=>⟨rfl,.inr ⟨_,_,_,.head _,rfl,rfl,rfl⟩⟩,rfl⟩⟩,⟨_,_,rfl,rfl,⟨Ae.cells ndk,fun _=>⟨rfl,.inl .nil⟩,rfl⟩⟩,trivial⟩ Ya ?_
    rintro rc gc' ⟨⟨⟨s,kN,ancs,ccs,ms,gs,zs,hles,rfl,eN,rfl,rfl⟩,m5,f0s,f1s,hm5,lgs,e0,e1⟩,e3,ans,e2⟩
    refine⟨[(k10,kN)],k11,[some (obl (tbC f c tot) (f0s++_)),some (mpB m5 (f1s++_)),some ⟨.cells (tR (t++[p])).flatten,false,false,[],_⟩,some ⟨.cells (nC nd),true,true,[],[(0,5)]⟩],[wld (tR (t++[p]++s)).flatten k4],.v (.s (.slice k10 0 (t++[p]++s).length 4 none)),A9 (Rl) (by decide) hles,(show 10≤11 by decide),⟨⟨_,_,_,e0,.same Yc,rfl,rfl,rfl,rfl⟩,⟨_,_,_,e1,.map hm5,rfl,rfl,rfl,rfl⟩,⟨_,_,_,e2,⟨Ae.cells (tfk _),(fun h=>(by cases h)),rfl⟩,rfl,rfl,rfl,rfl⟩,⟨_,_,_,e3,⟨Ae.cells ndk,fun _=>⟨rfl,.inl .nil⟩,rfl⟩,rfl,rfl,rfl,rfl⟩,trivial⟩,⟨⟨_,eN,⟨Ae.cells (tfk _),fun _=>⟨rfl,.inr ⟨_,_,_,.head _,rfl,e3,rfl⟩⟩,rfl⟩⟩,trivial⟩,rfl,?_⟩
    clear e0 e1 e2 e3 eN
    refine Yw1 ?_
    refine XW.Ad (pu:=pt) ?_
    refine Yw1 ?_
    have hw:=wy m5 (t++[p]++s) (nC nd) _ _ hm5 (by simp) (by have:=Ej i (by omega) x hx;have:=Ej i (by omega) y hy;simp;omega) ndk d3 hr0
    refine XC.Be (l:=wrL f c tot m5 (t++[p]++s) (nC nd)) (nx:=k4) [(k0,k0),(k1,k1),(k2,k10),(k3,k4)] hw rfl rfl ⟨⟨_,_,rfl,rfl,.same Yc⟩,⟨_,_,rfl,rfl,.map hm5⟩,⟨_,_,rfl,rfl,⟨Ae.cells (tfk _),fun _=>⟨rfl,.inr ⟨_,_,_,.head _,rfl,rfl,rfl⟩⟩,rfl⟩⟩,⟨_,_,rfl,rfl,⟨Ae.cells ndk,fun _=>⟨rfl,.inl .nil⟩,rfl⟩⟩,trivial⟩ Ya ?_
    rintro rc gc' ⟨⟨⟨s2,kN,ancs2,ccs2,ms2,gs2,zs2,hles2,rfl,eN,rfl,rfl⟩,m6,f0s2,f1s2,hm6,lgs2,e0,e1⟩,e3,ans2,e2⟩
    refine⟨[(k12,kN)],k13,[some (obl (tbC f c tot) (f0s2++_)),some (mpB m6 (f1s2++_)),some ⟨.cells (tR (t++[p]++s)).flatten,false,false,[],_⟩,some ⟨.cells (nC nd),true,true,[],[(0,5)]⟩],[wld (tR (t++[p]++s++s2)).flatten k4],.v (.s (.slice k12 0 (t++[p]++s++s2).length 4 none)),A9 (Rl) (by decide) hles2,(show 12≤13 by decide),⟨⟨_,_,_,e0,.same Yc,rfl,rfl,rfl,rfl⟩,⟨_,_,_,e1,.map hm6,rfl,rfl,rfl,rfl⟩,⟨_,_,_,e2,⟨Ae.cells (tfk _),(fun h=>(by cases h)),rfl⟩,rfl,rfl,rfl,rfl⟩,⟨_,_,_,e3,⟨Ae.cells ndk,fun _=>⟨rfl,.inl .nil⟩,rfl⟩,rfl,rfl,rfl,rfl⟩,trivial⟩,⟨⟨_,eN,⟨Ae.cells (tfk _),fun _=>⟨rfl,.inr ⟨_,_,_,.head _,rfl,e3,rfl⟩⟩,rfl⟩⟩,trivial⟩,rfl,?_⟩
    clear e0 e1 e2 e3 eN
    refine Yw1 ?_
    refine XW.Ad (pu:=pt) ?_
    refine Yw1 ?_
    exact⟨⟨⟨p::(s++s2),k12,_,_,_,hget (s++s2) (hpg s s2 gs gs2),(by have:=Ej i (by omega) x hx;have:=Ej i (by omega) y hy;simp;omega),(show 4≤12 by decide),rfl,rfl,by simp,by simp⟩,m6,_,_,hm6,Yg,rfl,rfl⟩,rfl,_,rfl⟩
   ·simp at a1
end Go.Pv
end
section
noncomputable section
namespace Go.Pv
open Go.Vm Go.Vm.C
open Go.Vm.Key (kn)
set_option maxRecDepth 10000
set_option maxHeartbeats 0
variable {T:Nat→List Tre} {f:Fo} {c:Nat} {tot:PV}
def NN (T:Nat→List Tre) (f:Fo) (c:Nat) (tot:PV) (i:Nat):Prop:=∀m n v,Bk T m→Aq n v→n<(T i).length →
 XC Fn 110 [.v (.s (.ptr k0 0)),.v (.s .Af),iA i,.v (.s v)] (mkH (tyL f c tot m [] []) k2) (NM T f c tot i [] 2 n)
theorem zD (D:I8) (hc:c<4) (ht:Ae tot) {i:Nat} {nd:Nd} (hi:i<f.ns.length) (hL:f.ns.length≤4) (hn:(f.ns.map nV)[(i:Int).toNat]?=some (nC nd)) (nL:nd.az.length≤3) (hal:∀a∈nd.az,a.ks.length≤2∧a.d<16∧∀k∈a.ks,k<i∧Qa T f c tot k∧FB T f c tot k)
  (hT:T i=A5 T c nd.az) (hB:(A5 T c nd.az).length<4294967296):NN T f c tot i:=by
 intro m n v hm hv hnl
 obtain⟨t,ht0⟩:∃t:Tre,t=[]:=⟨[],rfl⟩
 have htl:t.length+sz i≤1000:=by have:=wC i (by omega);rw[ht0];simp;omega
 have nlen:(nd.az.map aV).length=nd.az.length:=Lm ..
 have hlen:(f.ns.map nV).length=f.ns.length:=Lm ..
 have ndk:∀u∈nC nd,Ae u:=fun u hu=>by
  simp only[List.mem_cons,List.not_mem_nil,or_false] at hu
  rcases hu with rfl|rfl|rfl|rfl|rfl<;>exact trivial
 have tfk:∀(t:Tre),∀u∈(tR t).flatten,Ae u:=fun t u hu=>by
  obtain⟨x,hx,hu⟩:=List.mem_flatten.1 hu
  obtain⟨p,_,rfl⟩:=List.mem_map.1 hx
  simp only[List.mem_cons,List.not_mem_nil,or_false] at hu
  rcases hu with rfl|rfl|rfl|rfl<;>exact trivial
 have tfh:∀(t:Tre) (p:Nat),∀u∈(tR t).flatten++[[PV.int .i64 (p:Nat),.int .i64 (-1),.int .i64 0,.int .i64 0]].flatten,Ae u:=fun t p u hu=>by
  refine tfk (t++[p]) u ?_
  rw[←Re,List.flatten_append];exact hu
 have tfk0:=tfk t
 have tfl:=Gl (P9 t)
 have trl:(tR t).length=t.length:=Lm ..
 rw[hT] at hnl
 have vnk:=hv.nk
 refine XC.of (pu:=pt) (vf:=C.f110) rfl ?_
 refine Yw1 ?_
 refine XW.N8 k2 (Rl) rfl rfl ?_
 refine XW.A7 (pu:=pt) (σ:=Nat×PV) (fun q=>nd.az.length-q.1) (fun q=>[(k0,.v (.v (.s (.ptr k0 0)))),(k1,.v (.v (.s .Af))),(k3,.v (.v (.s q.2))),(k9,.v (.v (.s (.ptr k2 0)))),(k26,.v (PA.lst 4 (nd.az.map aV))),(k27,.v (iA (nd.az.map aV).length)),(k28,.v (iA q.1))])
  (fun q g=>q.1≤nd.az.length∧(A5 T c (nd.az.take q.1)).length≤n∧Aq (n-(A5 T c (nd.az.take q.1)).length) q.2∧∃m l0 l1,Bk T m∧Lg l0∧g=mkH (tyL f c tot m l0 l1++[(k2,Ap.mk (.cells (nC nd)) true true [] [(0,5)])]) k3) (0,v)
  (Trim.of (lo:=2) (l:=tyL f c tot m [] []++[(k2,Ap.mk (.cells (nC nd)) true true [] [(0,5)])]) (nx:=k3) [(k2,k2)] rfl (show 2≤3 by decide) Yl ⟨⟨_,_,rfl,rfl,.same Yc⟩,⟨_,_,rfl,rfl,.map hm⟩,Yb⟩ Yf) ⟨Zl,Zl,hv,m,[],[],hm,Lg.nil,rfl⟩ ?_
 clear hv vnk hm
 rintro⟨j,u⟩ g ⟨hj,hle,hu,m,l0,l1,hm,lg,rfl⟩
 replace hj:j≤nd.az.length:=hj
 replace hle:(A5 T c (nd.az.take j)).length≤n:=hle
 replace hu:Aq (n-(A5 T c (nd.az.take j)).length) u:=hu
 have unk:=hu.nk
 have ufl:=hu.flat
 refine⟨fun h=>?_,fun h=>?_⟩
 case refine_2=>
  have hfull:nd.az.take j=nd.az:=by rw[show j=nd.az.length from by have:=A1 h;omega];exact List.take_length
  rw[hfull] at hle
  omega
 have hj:j<nd.az.length:=by have:=Ao h;omega
 have ha:nd.az[j]?=some nd.az[j]:=Gg hj
 have htk:nd.az.take (j+1)=nd.az.take j++[nd.az[j]]:=List.take_succ_eq_append_getElem hj
 have hin:nd.az[j]∈nd.az:=List.getElem_mem hj
 generalize nd.az[j]=a at ha htk hin
 have hga:=Ct ha
 obtain⟨a1,a2,a3⟩:=hal a hin
 have dh:=D.holds a.d a2 c hc
 have hs:=Ek T c (nd.az.take j) a
 rw[←htk] at hs
 have hle2:=Qb T c nd.az (j+1)
 have hget:=fun u=>gE (T:=T) (c:=c) (n:=n) (u:=u) ha
 rw[←hT] at hget
 generalize (A5 T c nd.az).length=full at hB hle2 hnl
 have hl:=congrArg List.length hs
 cases hb:a.d.testBit c
 ·rw[hb] at dh hs hl
  simp only[Fj,if_false,List.append_nil] at hs hl
  refine Yw1 ?_
  exact⟨(j+1,u),_,_,(show _-_<_-_ by omega),Trim.of (lo:=2) (l:=tyL f c tot m l0 l1++[(k2,Ap.mk (.cells (nC nd)) true true [] [(0,5)])]) (nx:=k3) [(k2,k2)] rfl (show 2≤3 by decide) Yl ⟨⟨_,_,rfl,rfl,.same Yc⟩,⟨_,_,rfl,rfl,.map hm⟩,Yb⟩ Yf,hj,(by rw[hs];exact hle),(by rw[hs];exact hu),m,_,_,hm,lg,rfl⟩
 ·rw[hb] at dh hs hl
  replace hget:=fun u=>hget u hb hle
  simp only[if_true,La,Lm] at hl
  have alt:=kT (T:=T) (f:=f) (c:=c) ht (i:=i) (a:=a) a1 (fun k hk=>⟨(a3 k hk).1,(a3 k hk).2.1⟩) (by omega) hm
  refine Yw1 ?_
  refine XC.Be (l:=tyL f c tot m [] []) (nx:=k2) tyR alt rfl rfl (Du ht hm rfl rfl) Ya ?_
  rintro rc gc' ⟨⟨q,rfl,hq⟩,m2,b0,b1,hm2,hk2,lgb,e0,e1⟩
  refine⟨[],k4,tyX f c tot m2 (b0++l0) (b1++l1),[],.v (.s q),rfl,Rl,Dz ht hm2 e0 e1 rfl rfl rfl rfl,trivial,hq.nk.rn,?_⟩
  clear e0 e1 alt
  have qnk:=hq.nk
  have qfl:=hq.flat
  have cmp:=cK hu hq
  repeat'(try conv=>whnf)<;>first|(refine⟨fun h=>?_,fun h=>?_⟩<;>first|exact J8 h|exact Mx h|exact absurd (Ao h) (by omega)|exact absurd (A1 h) (by omega)|replace h:=Ao h|replace h:=A1 h|skip)|refine⟨_,⟨by omega,by assumption⟩,?_⟩|refine⟨_,⟨by omega,rfl⟩,?_⟩|refine⟨_,_,_,(rfl:Dk _ _ _=_),by assumption,?_⟩|refine⟨_,_,_,Dg (by repeat' first|exact trivial|refine⟨?_,?_⟩|exact Dj _ _|(show Et _;assumption)|fail),by assumption,?_⟩|refine⟨(by omega:_∧_),?_⟩|refine⟨(by omega:_≠_),?_⟩|refine⟨_,_,(rfl:opP _ _ _=_),?_⟩|exact⟨_,(rfl:E8 _ _ _=_)⟩|fail
  ·have hge:(Au T a.ks).length≤n-(A5 T c (nd.az.take j)).length:=gF h
   obtain⟨z,s1,s2⟩:=sM hu hq hge
   have znk:=s2.nk
   refine Yw1 ?_
   exact⟨(j+1,z),_,_,(show _-_<_-_ by omega),Trim.of (lo:=2) (l:=tyL f c tot m2 (b0++l0) (b1++l1)++[(k2,Ap.mk (.cells (nC nd)) true true [] [(0,5)])]) (nx:=k3) [(k2,k2)] rfl (show 2≤3 by decide) Yl ⟨⟨_,_,rfl,rfl,.same Yc⟩,⟨_,_,rfl,rfl,.map hm2⟩,Yb⟩ Yf,hj,(by show(A5 T c (nd.az.take (j+1))).length≤n;omega),(by show Aq (n-(A5 T c (nd.az.take (j+1))).length) z;rw[hl,Nat.sub_add_eq];exact s2),m2,_,_,hm2,Yg,rfl⟩
  ·have hlt:n-(A5 T c (nd.az.take j)).length<(Au T a.ks).length:=oX h
   clear cmp hq qnk qfl
   generalize n-(A5 T c (nd.az.take j)).length=n' at *
   obtain⟨p,ks,d⟩:=a
   rcases ks with _|⟨x,_|⟨y,_|⟨z,ks⟩⟩⟩
   ·refine⟨_,_,Dc (n:=0) rfl rfl (by decide) (by decide),?_⟩
    refine Yw1 ?_
    refine XW.Ad (pu:=pt) ?_
    refine Yw1 ?_
    refine XW.Ad (pu:=pt) ?_
    refine Yw1 ?_
    have h0:n'=0:=by simpa[Au] using hlt
    exact⟨⟨p::[],k6,_,_,_,hget [] (by rw[h0];rfl),(by have:=FA i;simpa using this),(show 2≤6 by decide),rfl,rfl,rfl,rfl⟩,m2,_,_,hm2,Yg,rfl,rfl⟩
   ·obtain⟨hx,kx,wx⟩:=a3 x (by simp)
    clear a1 a3
    rw[Jf] at hlt
    have hkl:(List.map kV (Al.mk p [x] d).ks).length=1:=rfl
    refine⟨_,_,Dc (n:=1) rfl rfl (by decide) (by decide),?_⟩
    refine Yw1 ?_
    refine XW.Ad (pu:=pt) ?_
    refine Yw1 ?_
    refine XC.Be (l:=tyL f c tot m2 [] []) (nx:=k2) tyR (kx m2 hm2) rfl rfl (Du ht hm2 rfl rfl) Ya ?_
    rintro rc gc' ⟨⟨v1,rfl,hv1⟩,m3,c0,c1,hm3,hk3,lgc,e0,e1⟩
    refine⟨[],k5,tyX f c tot m3 (c0++_) (c1++_),[],.v (.s v1),rfl,Rl,Dz ht hm3 e0 e1 rfl rfl rfl rfl,trivial,hv1.nk.rn,?_⟩
    clear e0 e1
    obtain⟨qx,rx,d1,d2,d3⟩:=We hu hv1 (by omega)
    have v1f:=hv1.flat
    have rnk:=d3.nk
    rw[Nat.mod_eq_of_lt hlt] at d3
    refine Yw1 ?_
    refine XW.Ad (pu:=pt) ?_
    refine Yw1 ?_
    refine XW.Ad (pu:=pt) ?_
    refine Yw1 ?_
    have hw:=wx m3 (t++[p]) (nC nd) _ _ hm3 (by simp) (by have:=Ej i (by omega) x hx;simp;omega) ndk d3 hlt
    rw[show(t++[p]).length=1 from by rw[ht0];rfl] at hw
    refine XC.Be (l:=wrL f c tot m3 (t++[p]) (nC nd)) (nx:=k4) [(k0,k0),(k1,k1),(k2,k6),(k3,k2)] hw rfl rfl ⟨⟨_,_,rfl,rfl,.same Yc⟩,⟨_,_,rfl,rfl,.map hm3⟩,⟨_,_,rfl,rfl,⟨(by rw[ht0];show Aa _ _ _;exact Yc),fun _=>⟨rfl,.inr ⟨_,_,_,.head _,rfl,rfl,rfl⟩⟩,rfl⟩⟩,⟨_,_,rfl,rfl,⟨Ae.cells ndk,fun _=>⟨rfl,.inl .nil⟩,rfl⟩⟩,trivial⟩ Ya ?_
    rintro rc gc' ⟨⟨⟨s,kN,ancs,ccs,ms,gs,zs,hles,rfl,eN,rfl,rfl⟩,m4,f0s,f1s,hm4,lgs,e0,e1⟩,e3,ans,e2⟩
    refine⟨[(k8,kN)],k9,[some (obl (tbC f c tot) (f0s++_)),some (mpB m4 (f1s++_)),some ⟨.cells (tR (t++[p])).flatten,false,false,[],_⟩,some ⟨.cells (nC nd),true,true,[],[(0,5)]⟩],[wld (tR (t++[p]++s)).flatten k2],.v (.s (.slice k8 0 (t++[p]++s).length 4 none)),A9 (Rl) (by decide) hles,(show 8≤9 by decide),⟨⟨_,_,_,e0,.same Yc,rfl,rfl,rfl,rfl⟩,⟨_,_,_,e1,.map hm4,rfl,rfl,rfl,rfl⟩,⟨_,_,_,e2,⟨Ae.cells (tfk _),(fun h=>(by cases h)),rfl⟩,rfl,rfl,rfl,rfl⟩,⟨_,_,_,e3,⟨Ae.cells ndk,fun _=>⟨rfl,.inl .nil⟩,rfl⟩,rfl,rfl,rfl,rfl⟩,trivial⟩,⟨⟨_,eN,⟨Ae.cells (tfk _),fun _=>⟨rfl,.inr ⟨_,_,_,.head _,rfl,e3,rfl⟩⟩,rfl⟩⟩,trivial⟩,rfl,?_⟩
    clear e0 e1 e2 e3 eN
    refine Yw1 ?_
    refine XW.Ad (pu:=pt) ?_
    refine Yw1 ?_
    exact⟨⟨p::s,k8,_,_,_,hget s (by rw[Jf];exact gs),(by have:=Ej i (by omega) x hx;simp;omega),(show 2≤8 by decide),rfl,rfl,by simp[ht0],by simp[ht0]⟩,m4,_,_,hm4,Yg,rfl,rfl⟩
   ·obtain⟨hx,kx,wx⟩:=a3 x (by simp)
    obtain⟨hy,ky,wy⟩:=a3 y (by simp)
    clear a1 a3
    rw[Kh] at hlt
    have hlt':True→n'<(T x).length*(T y).length:=fun _=>hlt
    clear hlt hl hs
    have hkl:(List.map kV (Al.mk p [x,y] d).ks).length=2:=rfl
    refine⟨_,_,Dc (n:=2) rfl rfl (by decide) (by decide),?_⟩
    refine Yw1 ?_
    refine XW.Ad (pu:=pt) ?_
    refine Yw1 ?_
    refine XC.Be (l:=tyL f c tot m2 [] []) (nx:=k2) tyR (ky m2 hm2) rfl rfl (Du ht hm2 rfl rfl) Ya ?_
    rintro rc gc' ⟨⟨vy,rfl,hvy⟩,m3,c0,c1,hm3,hkm3,lgc,e0,e1⟩
    refine⟨[],k5,tyX f c tot m3 (c0++_) (c1++_),[],.v (.s vy),rfl,Rl,Dz ht hm3 e0 e1 rfl rfl rfl rfl,trivial,hvy.nk.rn,?_⟩
    clear e0 e1
    have hy0:0<(T y).length:=by
     refine Nat.pos_of_ne_zero fun e=>?_
     have:=hlt' trivial
     rw[e] at this;simp at this
    have hq0:n' / (T y).length<(T x).length:=Nat.div_lt_of_lt_mul (by rw[Nat.mul_comm];exact hlt' trivial)
    have hr0:n' % (T y).length<(T y).length:=Nat.mod_lt _ hy0
    have hpg:=fun s u=>dD (T:=T) (x:=x) (n:=n') (s:=s) (u:=u) hy0
    obtain⟨qy,ry,d1,d2,d3⟩:=We hu hvy hy0
    have vyf:=hvy.flat
    have rynk:=d3.nk
    have qyf:=d2.flat
    clear hlt'
    generalize n' / (T y).length=nx at *
    generalize n' % (T y).length=ny at *
    refine Yw1 ?_
    refine XW.Ad (pu:=pt) ?_
    refine Yw1 ?_
    refine XC.Be (l:=tyL f c tot m3 [] []) (nx:=k2) tyR (kx m3 hm3) rfl rfl (Du ht hm3 rfl rfl) Ya ?_
    rintro rc gc' ⟨⟨vx,rfl,hvx⟩,m4,b0,b1,hm4,hkm4,lgb,e0,e1⟩
    refine⟨[],k5,tyX f c tot m4 (b0++_) (b1++_),[],.v (.s vx),rfl,Rl,Dz ht hm4 e0 e1 rfl rfl rfl rfl,trivial,hvx.nk.rn,?_⟩
    clear e0 e1
    obtain⟨qx,rx,d4,d5,d6⟩:=We d2 hvx (by omega)
    rw[Nat.mod_eq_of_lt hq0] at d6
    have vxf:=hvx.flat
    have rxnk:=d6.nk
    refine Yw1 ?_
    refine XW.Ad (pu:=pt) ?_
    refine Yw1 ?_
    refine XW.Ad (pu:=pt) ?_
    refine Yw1 ?_
    have hw:=wx m4 (t++[p]) (nC nd) _ _ hm4 (by simp) (by have:=Ej i (by omega) x hx;have:=Ej i (by omega) y hy;simp;omega) ndk d6 hq0
    rw[show(t++[p]).length=1 from by rw[ht0];rfl] at hw
    refine XC.Be (l:=wrL f c tot m4 (t++[p]) (nC nd)) (nx:=k4) [(k0,k0),(k1,k1),(k2,k6),(k3,k2)] hw rfl rfl ⟨⟨_,_,rfl,rfl,.same Yc⟩,⟨_,_,rfl,rfl,.map hm4⟩,⟨_,_,rfl,rfl,⟨(by rw[ht0];show Aa _ _ _;exact Yc),fun _=>⟨rfl,.inr ⟨_,_,_,.head _,rfl,rfl,rfl⟩⟩,rfl⟩⟩,⟨_,_,rfl,rfl,⟨Ae.cells ndk,fun _=>⟨rfl,.inl .nil⟩,rfl⟩⟩,trivial⟩ Ya ?_
    rintro rc gc' ⟨⟨⟨s,kN,ancs,ccs,ms,gs,zs,hles,rfl,eN,rfl,rfl⟩,m5,f0s,f1s,hm5,lgs,e0,e1⟩,e3,ans,e2⟩
    refine⟨[(k8,kN)],k9,[some (obl (tbC f c tot) (f0s++_)),some (mpB m5 (f1s++_)),some ⟨.cells (tR (t++[p])).flatten,false,false,[],_⟩,some ⟨.cells (nC nd),true,true,[],[(0,5)]⟩],[wld (tR (t++[p]++s)).flatten k2],.v (.s (.slice k8 0 (t++[p]++s).length 4 none)),A9 (Rl) (by decide) hles,(show 8≤9 by decide),⟨⟨_,_,_,e0,.same Yc,rfl,rfl,rfl,rfl⟩,⟨_,_,_,e1,.map hm5,rfl,rfl,rfl,rfl⟩,⟨_,_,_,e2,⟨Ae.cells (tfk _),(fun h=>(by cases h)),rfl⟩,rfl,rfl,rfl,rfl⟩,⟨_,_,_,e3,⟨Ae.cells ndk,fun _=>⟨rfl,.inl .nil⟩,rfl⟩,rfl,rfl,rfl,rfl⟩,trivial⟩,⟨⟨_,eN,⟨Ae.cells (tfk _),fun _=>⟨rfl,.inr ⟨_,_,_,.head _,rfl,e3,rfl⟩⟩,rfl⟩⟩,trivial⟩,rfl,?_⟩
    clear e0 e1 e2 e3 eN
    refine Yw1 ?_
    refine XW.Ad (pu:=pt) ?_
    refine Yw1 ?_
    have hw:=wy m5 (t++[p]++s) (nC nd) _ _ hm5 (by simp) (by have:=Ej i (by omega) x hx;have:=Ej i (by omega) y hy;simp;omega) ndk d3 hr0
    refine XC.Be (l:=wrL f c tot m5 (t++[p]++s) (nC nd)) (nx:=k4) [(k0,k0),(k1,k1),(k2,k8),(k3,k2)] hw rfl rfl ⟨⟨_,_,rfl,rfl,.same Yc⟩,⟨_,_,rfl,rfl,.map hm5⟩,⟨_,_,rfl,rfl,⟨Ae.cells (tfk _),fun _=>⟨rfl,.inr ⟨_,_,_,.head _,rfl,rfl,rfl⟩⟩,rfl⟩⟩,⟨_,_,rfl,rfl,⟨Ae.cells ndk,fun _=>⟨rfl,.inl .nil⟩,rfl⟩⟩,trivial⟩ Ya ?_
    rintro rc gc' ⟨⟨⟨s2,kN,ancs2,ccs2,ms2,gs2,zs2,hles2,rfl,eN,rfl,rfl⟩,m6,f0s2,f1s2,hm6,lgs2,e0,e1⟩,e3,ans2,e2⟩
    refine⟨[(k10,kN)],k11,[some (obl (tbC f c tot) (f0s2++_)),some (mpB m6 (f1s2++_)),some ⟨.cells (tR (t++[p]++s)).flatten,false,false,[],_⟩,some ⟨.cells (nC nd),true,true,[],[(0,5)]⟩],[wld (tR (t++[p]++s++s2)).flatten k2],.v (.s (.slice k10 0 (t++[p]++s++s2).length 4 none)),A9 (Rl) (by decide) hles2,(show 10≤11 by decide),⟨⟨_,_,_,e0,.same Yc,rfl,rfl,rfl,rfl⟩,⟨_,_,_,e1,.map hm6,rfl,rfl,rfl,rfl⟩,⟨_,_,_,e2,⟨Ae.cells (tfk _),(fun h=>(by cases h)),rfl⟩,rfl,rfl,rfl,rfl⟩,⟨_,_,_,e3,⟨Ae.cells ndk,fun _=>⟨rfl,.inl .nil⟩,rfl⟩,rfl,rfl,rfl,rfl⟩,trivial⟩,⟨⟨_,eN,⟨Ae.cells (tfk _),fun _=>⟨rfl,.inr ⟨_,_,_,.head _,rfl,e3,rfl⟩⟩,rfl⟩⟩,trivial⟩,rfl,?_⟩
    clear e0 e1 e2 e3 eN
    refine Yw1 ?_
    refine XW.Ad (pu:=pt) ?_
    refine Yw1 ?_
    exact⟨⟨p::(s++s2),k10,_,_,_,hget (s++s2) (hpg s s2 gs gs2),(by have:=Ej i (by omega) x hx;have:=Ej i (by omega) y hy;simp;omega),(show 2≤10 by decide),rfl,rfl,by simp[ht0],by simp[ht0]⟩,m6,_,_,hm6,Yg,rfl,rfl⟩
   ·simp at a1
end Go.Pv
end
section
noncomputable section
namespace Go.Pv
open Go.Vm Go.Vm.C
open Go.Vm.Key (kn)
set_option maxRecDepth 10000
set_option maxHeartbeats 0
theorem zE {f:Fo} {c:Nat} {tot:PV} (D:I8) (hc:c<4) (ht:Ae tot) (w:WF0 f) (v:WF f):∀i,i<f.ns.length→FB (Tr2 f c) f c tot i∧NN (Tr2 f c) f c tot i:=by
 intro i
 induction i using Nat.strongRecOn with
 |ind i ih=>
  intro hi
  have hn:f.ns[i]?=some f.ns[i]:=Gg hi
  generalize f.ns[i]=n at hn
  have hL:=w.len
  have hg:=G0 hn
  rw[Ke (v.as0 i n hn)] at hg
  have hU:=sX (c:=c) (Lt w) i n hn
  have hlen:=Oc (c:=c) w i hi
  have hpx:=cY i (by omega)
  have hB:(Tr2 f c i).length<4294967296:=by omega
  have hB2:(A5 (Tr2 f c) c n.az).length<4294967296:=by rw[←hU];exact hB
  have hal:∀a∈n.az,a.ks.length≤2∧a.d<16∧∀k∈a.ks,k<i∧Qa (Tr2 f c) f c tot k∧FB (Tr2 f c) f c tot k:=fun a ha=>⟨(w.al i n hn a ha).1,(w.al i n hn a ha).2.2.1,fun k hk=>by
   have hki:=(w.al i n hn a ha).2.1 k hk
   exact⟨hki,sZ ht (Ux D hc ht w v k (by omega)),(ih k hki (by omega)).1⟩⟩
  exact⟨FC D hc ht hi hL hg (w.Iy i n hn) hal hU hB2,zD D hc ht hi hL hg (w.Iy i n hn) hal hU hB2⟩
theorem FD {T:Nat→List Tre} {c i n:Nat} {rs:List (Nat×Nat)} {r:Nat×Nat} {s:Tre} (hr:rs[i]?=some r) (hb:r.2.testBit c=true) (h1:(Bq T c (rs.take i)).length≤n) (h2:(T r.1)[n-(Bq T c (rs.take i)).length]?=some s):(Bq T c rs)[n]?=some s:=by
 obtain⟨hj,rfl⟩:=Gi.1 hr
 have h:Bq T c rs=Bq T c (rs.take i)++(T rs[i].1++Bq T c (rs.drop (i+1))):=by
  conv=>lhs;rw[←List.take_append_drop i rs,List.drop_eq_getElem_cons hj]
  rw[Bq,List.flatMap_append,List.flatMap_cons,if_pos hb];rfl
 rw[h,List.getElem?_append_right h1,List.getElem?_append_left (Gi.1 h2).1,h2]
theorem wH {a b:Nat} (h:Eu (a:Int) (b:Int)<((0:Nat):Int)):a<b:=by
 unfold Eu at h
 split at h
 ·omega
 ·split at h<;>omega
theorem oY {a b:Nat} (h:¬Eu (a:Int) (b:Int)<((0:Nat):Int)):b≤a:=by
 unfold Eu at h
 split at h
 ·omega
 ·split at h<;>omega
theorem tRk (t:Tre):∀u∈(tR t).flatten,Ae u:=fun u hu=>by
 obtain⟨x,hx,hu⟩:=List.mem_flatten.1 hu
 obtain⟨p,_,rfl⟩:=List.mem_map.1 hx
 simp only[List.mem_cons,List.not_mem_nil,or_false] at hu
 rcases hu with rfl|rfl|rfl|rfl<;>exact trivial
theorem KW {f:Fo} {c i n:Nat} (w:WF0 f) (hi:i<f.rs.length) {s:Tre} (h:(Tr2 f c i)[n]?=some s):s≠[]:=by
 rintro rfl
 have hi:i<f.ns.length:=by have:=w.Oy;omega
 have hn:f.ns[i]?=some f.ns[i]:=Gg hi
 have hm:=List.mem_of_getElem? h
 rw[Tr2,sX (Lt w) i _ hn] at hm
 obtain⟨a,_,ha⟩:=List.mem_flatMap.1 hm
 split at ha
 ·obtain⟨u,_,hu⟩:=List.mem_map.1 ha
  cases hu
 ·cases ha
theorem KY {f:Fo} {c:Nat} {tot:PV} (D:I8) (hc:c<4) (ht:Ae tot) (w:WF0 f) (v:WF f) {m:List (Nat×PV)} (hm:Bk (Tr2 f c) m) {n:Nat} {nv:PV} (hnv:Aq n nv) (hnl:n<(Bq (Tr2 f c) c f.rs).length) :
  XC Fn 50 [.v (.s (.ptr k0 0)),.v (.s nv)] (mkH (tyL f c tot m [] []) k2) fun r g=>(∃s kN,(Bq (Tr2 f c) c f.rs)[n]?=some s∧2≤kN.toNat∧s≠[]∧r=.tup [.s (.slice kN 0 s.length 4 none),.s (.int .i64 ((0:Nat):Int))]∧g.get kN=some ⟨.cells (tR s).flatten,false,false,[],[]⟩) ∧
   ∃m l0 l1,Bk (Tr2 f c) m∧g.get k0=some (obl (tbC f c tot) l0)∧g.get k1=some (mpB m l1):=by
 have hrlen:(f.rs.map rV).length=f.rs.length:=Lm ..
 have hL:=w.len
 have rL:=w.Oy
 have nvk:=hnv.nk
 refine XC.of (pu:=pt) (vf:=C.f50) rfl ?_
 refine Yw1 ?_
 refine XW.A7 (pu:=pt) (σ:=Nat×PV) (fun q=>f.rs.length-q.1) (fun q=>[(k0,.v (.v (.s (.ptr k0 0)))),(k1,.v (.v (.s q.2))),(k13,.v (PA.lst 3 (f.rs.map rV))),(k14,.v (iA (f.rs.map rV).length)),(k15,.v (iA q.1))])
  (fun q g=>q.1≤f.rs.length∧(Bq (Tr2 f c) c (f.rs.take q.1)).length≤n∧Aq (n-(Bq (Tr2 f c) c (f.rs.take q.1)).length) q.2∧∃m l0 l1,Bk (Tr2 f c) m∧g=mkH (tyL f c tot m l0 l1) k2) (0,nv)
  (Wp rfl ht hm rfl rfl Yf) ⟨Zl,Zl,hnv,m,[],[],hm,rfl⟩ ?_
 clear hm hnv nvk
 rintro⟨i,u⟩ g ⟨hi,hle,hu,m,l0,l1,hm,rfl⟩
 replace hi:i≤f.rs.length:=hi
 replace hle:(Bq (Tr2 f c) c (f.rs.take i)).length≤n:=hle
 replace hu:Aq (n-(Bq (Tr2 f c) c (f.rs.take i)).length) u:=hu
 have unk:=hu.nk
 have ufl:=hu.flat
 refine⟨fun h=>?_,fun h=>?_⟩
 case refine_2=>
  have hfull:f.rs.take i=f.rs:=by rw[show i=f.rs.length from by have:=A1 h;omega];exact List.take_length
  rw[hfull] at hle
  omega
 have hi:i<f.rs.length:=by have:=Ao h;omega
 have hr:f.rs[i]?=some f.rs[i]:=Gg hi
 have htk:f.rs.take (i+1)=f.rs.take i++[f.rs[i]]:=List.take_succ_eq_append_getElem hi
 generalize f.rs[i]=r at hr htk
 have hgr:=Iv hr
 obtain⟨r1,r2,r3⟩:=w.rt i r hr
 rw[r1] at hgr
 have dh:=D.holds r.2 r2 c hc
 have hs:=Rf (Tr2 f c) c (f.rs.take i) r
 rw[←htk,r1] at hs
 have hle2:=Zc (Tr2 f c) c f.rs (i+1)
 have hget:=fun s=>FD (T:=Tr2 f c) (c:=c) (n:=n) (s:=s) hr
 rw[r1] at hget
 have hG:=Ux (tot:=tot) D hc ht w v i (by omega) m hm
 have hW:=(zE (tot:=tot) D hc ht w v i (by omega)).2
 have hTl:=Oc (c:=c) w i (by omega)
 generalize hfl:(Bq (Tr2 f c) c f.rs).length=full at hle2 hnl
 have hl:=congrArg List.length hs
 cases hb:r.2.testBit c
 ·rw[hb] at dh hs hl
  simp only[Fj,if_false,List.append_nil] at hs hl
  refine Yw1 ?_
  exact⟨(i+1,u),_,_,(show _-_<_-_ by omega),Wp rfl ht hm rfl rfl Yf,hi,(by rw[hs];exact hle),(by rw[hs];exact hu),m,_,_,hm,rfl⟩
 ·rw[hb] at dh hs hl
  replace hget:=fun s=>hget s hb hle
  simp only[if_true,La] at hl
  refine Yw1 ?_
  refine XC.Be (l:=tyL f c tot m [] []) (nx:=k2) tyR hG rfl rfl (Du ht hm rfl rfl) Ya ?_
  rintro rc gc' ⟨⟨q,rfl,hq⟩,m2,b0,b1,hm2,hk2,lgb,e0,e1⟩
  refine⟨[],k3,tyX f c tot m2 (b0++l0) (b1++l1),[],.v (.s q),rfl,Rl,Dz ht hm2 e0 e1 rfl rfl rfl rfl,trivial,hq.nk.rn,?_⟩
  clear e0 e1
  have qnk:=hq.nk
  have qfl:=hq.flat
  have cmp:=cK hu hq
  repeat'(try conv=>whnf)<;>first|(refine⟨fun h=>?_,fun h=>?_⟩<;>first|exact J8 h|exact Mx h|exact absurd (Ao h) (by omega)|exact absurd (A1 h) (by omega)|replace h:=Ao h|replace h:=A1 h|skip)|refine⟨_,⟨by omega,by assumption⟩,?_⟩|refine⟨_,⟨by omega,rfl⟩,?_⟩|refine⟨_,_,_,(rfl:Dk _ _ _=_),by assumption,?_⟩|refine⟨_,_,_,Dg (by repeat' first|exact trivial|refine⟨?_,?_⟩|exact Dj _ _|(show Et _;assumption)|fail),by assumption,?_⟩|refine⟨(by omega:_∧_),?_⟩|refine⟨(by omega:_≠_),?_⟩|refine⟨_,_,(rfl:opP _ _ _=_),?_⟩|exact⟨_,(rfl:E8 _ _ _=_)⟩|fail
  ·have hlt:n-(Bq (Tr2 f c) c (f.rs.take i)).length<(Tr2 f c i).length:=wH h
   have hw:=hW m2 _ u hm2 hu hlt
   refine Yw1 ?_
   refine XC.Be (l:=tyL f c tot m2 [] []) (nx:=k2) tyR hw rfl rfl (Du ht hm2 rfl rfl) Ya ?_
   rintro rc gc' ⟨⟨s,kN,anc,cc,ms,gs,zs,hle3,rfl,eN,rfl,rfl⟩,m3,c0,c1,hm3,lgc,e0,e1⟩
   rw[List.nil_append] at eN
   refine⟨[(k3,kN)],k4,tyX f c tot m3 (c0++(b0++l0)) (c1++(b1++l1)),[⟨.cells (tR s).flatten,false,false,[],[]⟩],.v (.s (.slice k3 0 s.length 4 none)),A9 (Rl) (by decide) hle3,(show 3≤4 by decide),⟨⟨_,_,_,e0,.same Yc,rfl,rfl,rfl,rfl⟩,⟨_,_,_,e1,.map hm3,rfl,rfl,rfl,rfl⟩,trivial⟩,⟨⟨_,eN,⟨Ae.cells (tRk s),(fun h=>(by cases h)),rfl⟩⟩,trivial⟩,rfl,?_⟩
   clear e0 e1 eN
   refine Yw1 ?_
   exact⟨⟨s,k3,hget s gs,(show 2≤3 by decide),KW w hi gs,rfl,rfl⟩,m3,_,_,hm3,rfl,rfl⟩
  ·have hge:(Tr2 f c i).length≤n-(Bq (Tr2 f c) c (f.rs.take i)).length:=oY h
   obtain⟨z,s1,s2⟩:=sM hu hq hge
   have znk:=s2.nk
   refine Yw1 ?_
   exact⟨(i+1,z),_,_,(show _-_<_-_ by omega),Wp rfl ht hm2 rfl rfl Yf,hi,(by show(Bq (Tr2 f c) c (f.rs.take (i+1))).length≤n;omega),(by show Aq (n-(Bq (Tr2 f c) c (f.rs.take (i+1))).length) z;rw[hl,Nat.sub_add_eq];exact s2),m2,_,_,hm2,rfl⟩
theorem zF {f:Fo} {c:Nat} (D:S6) (D2:I8) (hc:c<4) (w:WF0 f) (v:WF f) (h0:∀r∈f.rs,r.2.testBit 0=false) {n:Nat} {nv:PV} (hnv:Aq n nv) (hnl:n<(Bq (Tr2 f c) c f.rs).length) :
  ∃s,(Bq (Tr2 f c) c f.rs)[n]?=some s∧Ag Fn 14 [foA f,cA c,.v (.s nv)] (.tup [.s (tV s),.s (.int .i64 ((0:Nat):Int))]):=by
 refine⟨_,Gg hnl,?_⟩
 have cs:=gB D D2 w v h0
 have nval:=D7 hnv
 have tal:=dB D2 hc w v
 have nvk:=hnv.nk
 have nvf:=hnv.flat
 rw[Da w.n0 w.r0] at cs tal ⊢
 refine Am (pu:=pt) (vf:=C.f14) rfl ?_
 refine Yw1 ?_
 refine XC.Be (l:=[]) (nx:=k0) [] tal rfl rfl trivial Ya ?_
 rintro rc gc' ⟨rfl,m,l0,l1,tot,hm,ht,e1,e2⟩
 have htk:=ht.nk
 refine⟨[(k1,k1),(k2,k2)],k3,[],[obl (tbK k1 k2 f c tot) [],mpB m []],.tup [.s (.ptr k1 0),.s (.int .i64 ((0:Nat):Int))],rfl,(show 1≤3 by decide),trivial,⟨⟨_,e1,⟨Ys,fun _=>⟨rfl,.inl .nil⟩,rfl⟩⟩,⟨_,e2,.map hm⟩,trivial⟩,.cons rfl (.cons rfl .nil),?_⟩
 clear e1 e2
 have tr:=KY D2 hc htk w v hm hnv hnl
 refine Yw1 ?_
 refine XC.Be (l:=tyL f c tot m [] []) (nx:=k2) zA tr rfl rfl (tB htk hm rfl rfl) Ya ?_
 rintro rc gc' ⟨⟨s,kN,gs,hle,hne,rfl,eN⟩,m2,a0,a1,hm2,e0,e1⟩
 rw[Gg hnl] at gs
 injection gs with gs
 refine⟨[(k3,kN)],k4,KP f c tot m2 (a0++[]) (a1++[]),[⟨.cells (tR s).flatten,false,false,[],[]⟩],.tup [.s (.slice k3 0 s.length 4 none),.s (.int .i64 ((0:Nat):Int))],A9 (Rl) (by decide) hle,(show 3≤4 by decide),⟨⟨_,_,_,e0,⟨Ys,fun _=>⟨rfl,.inl .nil⟩,rfl⟩,rfl,rfl,rfl,rfl⟩,⟨_,_,_,e1,.map hm2,rfl,rfl,rfl,rfl⟩,trivial⟩,⟨⟨_,eN,⟨Ae.cells (tRk s),(fun h=>(by cases h)),rfl⟩⟩,trivial⟩,.cons rfl (.cons rfl .nil),?_⟩
 clear e0 e1 eN
 have hfl:=Gl (P9 s)
 have hrl:(tR s).length=s.length:=Lm ..
 have hpos:=List.length_pos_iff.2 hne
 have e:tV s=.lst 4 (chunk 4 s.length (tR s).flatten) none:=by
  rw[←hrl,Rd (P9 s)]
  obtain⟨p,s,rfl⟩:∃p u,s=p::u:=by cases s with
   |nil=>exact absurd rfl hne
   |cons p u=>exact⟨p,u,rfl⟩
  rfl
 rw[gs,e]
 refine Yw1 ?_
 exact⟨_,QQ (Ho rfl (by rw[hfl,hrl]) (by omega) rfl (Ep (kP s)))⟩
end Go.Pv
end
section
noncomputable section
set_option maxRecDepth 100000
namespace Go.Pv
open Go.Vm Go.Pv.K
theorem Hc:∀d,E.dA d=dA d
 |0=>rfl
 |1=>rfl
 |2=>rfl
 |3=>rfl
 |4=>rfl
 |5=>rfl
 |6=>rfl
 |7=>rfl
 |8=>rfl
 |9=>rfl
 |10=>rfl
 |11=>rfl
 |12=>rfl
 |13=>rfl
 |14=>rfl
 |_+15=>rfl
theorem ent {f:Nat} {xs:List PA} {r:PA} (h:E.R f xs r):Ag Fn f xs r:=entry (F:=E.F0) (pure:=.z) (tab:=.z) trivial h
theorem RB:I8:=⟨fun d hd c hc=>by rw[←Hc];exact ent (E.JG d hd c hc)⟩
theorem XK:EX:=⟨fun d hd c hc=>by rw[←Hc];exact ent (E.WU d hd c hc)⟩
theorem KZ:S6 where
 ne d hd:=by rw[←Hc];exact ent (E.WV d hd)
 neR d hd:=by rw[←Hc];exact ent (E.TS d hd)
 NG d hd:=by rw[←Hc,←Hc];exact ent (E.JH d hd)
 uni d hd:=by rw[←Hc,←Hc];exact ent (E.TU d hd)
 int:=by rw[←Hc];exact ent E.TV
 NH:=by rw[←Hc,←Hc];exact ent E.JI
 NI:=by rw[←Hc];exact ent E.JJ
 con:=by rw[←Hc];exact ent E.TT
theorem LA {n:Nat} (h:n<86):Ag Fn 10 [PA.lst 1 [[.int .u8 (n:Nat)]],iA 2] (dA (n % 16)):=by
 rw[←Hc]
 rcases Nat.lt_or_ge n 43 with h1|h1
 ·exact ent (E.JK n h1)
 ·obtain⟨k,rfl⟩:∃k,n=k+43:=⟨n-43,by omega⟩
  exact ent (E.JL k (by omega))
theorem LB:∀i,i<4→Ag Fn 10 [PA.lst 1 [[.int .u8 ((170+40*i) % 256:Nat)]],iA 2] (dA ((170+40*i) % 256 % 16))
 |0,_=>by rw[←Hc];exact ent E.JM
 |1,_=>by rw[←Hc];exact ent E.JN
 |2,_=>by rw[←Hc];exact ent E.JO
 |3,_=>by rw[←Hc];exact ent E.JP
 |_+4,h=>absurd h (by omega)
end Go.Pv
end
section
noncomputable section
namespace Go.Pv
open Go.Vm Go.Vm.C
open Go.Vm.Key (kn)
set_option maxRecDepth 10000
set_option maxHeartbeats 0
theorem zG {n:Nat} (hn:n<4294967296):∃r,Ag Fn 22 [iA n] (.v (.s r))∧Aq n r:=by
 obtain⟨r,h1,h2⟩:=sL hn
 refine⟨r,?_,h2⟩
 have e:=wrap_u64 (n:=(n:Int)) (by omega)
 have h1':Ag Fn 15 [.v (.s (.int .u64 (IntKind.wrap .u64 (n:Int))))] (.v (.s r)):=by rw[e];exact h1
 have fr:=h2.flat
 refine Am (pu:=pt) (vf:=C.f22) rfl ?_
 refine Yw1 ?_
 exact⟨_,Wn (h2.frz _)⟩
theorem oZ {f:Fo} {c:Nat} (w:WF0 f):C4 (Tr2 f c) (alP c f.ns f.ns.length) c f.rs=Bq (Tr2 f c) c f.rs:=by
 have key:∀rs:List (Nat×Nat),(∀r∈rs,r.1<f.ns.length)→C4 (Tr2 f c) (alP c f.ns f.ns.length) c rs=Bq (Tr2 f c) c rs:=by
  intro rs
  induction rs with
  |nil=>intro _;rfl
  |cons r rs ih=>
   intro h
   rw[C4,Bq,List.flatMap_cons,List.flatMap_cons]
   congr 1
   ·have ha:=Wo (c:=c) (Lt w) r.1 (h r (.head _))
    cases hb:r.2.testBit c
    ·simp
    ·cases hg:(alP c f.ns f.ns.length).getD r.1 false
     ·have:Tr2 f c r.1=[]:=Classical.byContradiction fun hn=>by rw[ha.2 hn] at hg;cases hg
      simp[this]
     ·simp
   ·exact ih fun q hq=>h q (.tail _ hq)
 refine key f.rs fun r hr=>?_
 obtain⟨i,hi⟩:=List.mem_iff_getElem?.1 hr
 have:=(w.rt i r hi).1
 have:=(Gi.1 hi).1
 have:=w.Oy
 omega
end Go.Pv
end
section
noncomputable section
namespace Go.Vm
open Key (kn)
structure It where
 b:Key
 mp:Key
 n:Nat
 seen:List Nat
structure zH (φ:Emb) (h:Ac) (w:World) (i:It):Prop where
 lt:i.b.toNat<h.next.toNat
 obj:∃l l',φ i.b=some l∧l.off=0∧φ i.mp=some l'∧w.heap[l.blk]?=some (.mapIter (some l'.blk) i.n i.seen.toArray i.n)∧∀b l2,φ b=some l2→l2.blk=l.blk→h.get b=none
def M6 (h h':Ac):Prop:=∀b:Key,b.toNat<h.next.toNat→h.get b=none→h'.get b=none
theorem M6.refl (h:Ac):M6 h h:=fun _ _ h=>h
theorem M6.trans {h h1 h2:Ac} (hn:h.next.toNat≤h1.next.toNat) (e:M6 h h1) (e':M6 h1 h2):M6 h h2:=fun b hb hf=>e' b (by omega) (e b hb hf)
theorem zH.Vy {φ φ':Emb} {h h':Ac} {w w':World} {i:It} (s:Sim φ h.get h.next.toNat w) (e:Ext φ h.get h.next.toNat w φ' h'.get h'.next.toNat w') (hf:M6 h h') (k:zH φ h w i):zH φ' h' w' i where
 lt:=Nat.lt_of_lt_of_le k.lt e.nx
 obj:=by
  obtain⟨l,l',h1,h2,h3,h4,h5⟩:=k.obj
  refine⟨l,l',e.le _ _ h1,h2,e.le _ _ h3,e.frame _ _ h4 fun b x l2 hb _ hp heq=>?_,fun b l2 hp heq=>?_⟩
  ·rw[h5 b l2 hp heq] at hb;cases hb
  have hlt:l.blk<w.heap.size:=(Array.getElem?_eq_some_iff.1 h4).1
  cases hφ:φ b with
  |none=>
   obtain⟨b0,x0,l0,e1,_,e3,e4⟩:=e.new b l2 hφ hp (by omega)
   rw[h5 b0 l0 e3 (by omega)] at e1;cases e1
  |some l0=>
   have:=e.le _ _ hφ
   rw[hp] at this;cases this
   exact hf b (Nat.lt_of_not_le fun hle=>by rw[s.fresh b hle] at hφ;cases hφ) (h5 b l2 hφ heq)
structure Org where
 φ:Emb
 h:Ac
 w:World
def UN (O:Org) (φ:Emb) (i:It):Prop:=∀l,φ i.b=some l→O.w.heap.size≤l.blk
structure Gm (O:Org) (N:Nat) (φ:Emb) (fr:Fr) (h:Ac) (I:List It) (a:Act) (w:World):Prop where
 fr:C6 φ N fr a
 sim:Sim φ h.get h.next.toNat w
 clean:Clean h
 ext:Ext O.φ O.h.get O.h.next.toNat O.w φ h.get h.next.toNat w
 frs:M6 O.h h
 its:∀i∈I,zH φ h w i
 new:∀i∈I,UN O φ i
 dis:I.Pairwise fun i j=>∀l l',φ i.b=some l→φ j.b=some l'→l.blk≠l'.blk
abbrev MQ:=B2→Fr→Ac→List It→Prop
def MX (P:Program) (N:Nat) (c:Code) (fr:Fr) (h:Ac) (I:List It) (Q:MQ):Prop:=∀O φ w a,Gm O N φ fr h I a w →
 c.wp P (fun e a' w'=>∃x fr' h' I' φ',Cq x e∧Gm O N φ' fr' h' I' a' w'∧Q x fr' h' I') a w
section
variable {P:Program} {N:Nat}
theorem MX.mono {c:Code} {fr:Fr} {h:Ac} {I:List It} {Q Q':MQ} (m:MX P N c fr h I Q) (hq:∀x fr h I,Q x fr h I→Q' x fr h I):MX P N c fr h I Q':=fun O φ w a r=>
 wp_mono (m O φ w a r) fun _ _ _ ⟨x,fr',h',I',φ',e1,e2,e4⟩=>⟨x,fr',h',I',φ',e1,e2,hq _ _ _ _ e4⟩
theorem Gm.step {O:Org} {φ φ':Emb} {fr fr':Fr} {h h':Ac} {I:List It} {a a':Act} {w w':World} (r:Gm O N φ fr h I a w) (f':C6 φ' N fr' a') (s':Sim φ' h'.get h'.next.toNat w') (cl:Clean h') (e:Ext φ h.get h.next.toNat w φ' h'.get h'.next.toNat w')
  (hf:M6 h h'):Gm O N φ' fr' h' I a' w' where
 fr:=f'
 sim:=s'
 clean:=cl
 ext:=r.ext.trans e
 frs:=r.frs.trans r.ext.nx hf
 its i hi:=(r.its i hi).Vy r.sim e hf
 new i hi l hl:=by
  obtain⟨l0,l',h1,_⟩:=(r.its i hi).obj
  have:=e.le _ _ h1
  rw[hl] at this;cases this
  exact r.new i hi _ h1
 dis:=r.dis.imp_of_mem fun{i j} hi hj hd l l' e1 e2=>by
  obtain⟨l0,_,h1,_⟩:=(r.its i hi).obj
  obtain⟨l1,_,h2,_⟩:=(r.its j hj).obj
  have h3:=e.le _ _ h1
  have h4:=e.le _ _ h2
  rw[e1] at h3;rw[e2] at h4;cases h3;cases h4
  exact hd _ _ h1 h2
theorem Gm.world {O:Org} {φ:Emb} {fr:Fr} {h:Ac} {I:List It} {a:Act} {w w':World} (r:Gm O N φ fr h I a w) (h1:w'.heap=w.heap) (h2:w'.os=w.os) (h3:w'.output=w.output):Gm O N φ fr h I a w' where
 fr:=r.fr
 sim:=⟨by rw[h1];exact r.sim.blk,r.sim.sep,r.sim.fresh⟩
 clean:=r.clean
 ext:={ r.ext with size:=by rw[h1];exact r.ext.size,frame:=by rw[h1];exact r.ext.frame,os:=by rw[h2,h3];exact r.ext.os }
 frs:=r.frs
 its i hi:=⟨(r.its i hi).lt,by rw[h1];exact(r.its i hi).obj⟩
 new:=r.new
 dis:=r.dis
theorem MX.run (hm:P.follows .mixedOrders=true) {F:A4} (hF:∀f vf,F f=some vf→Fq P f=some vf) {Or:Ez} (hO:aP P Or) {n:Nat} {c:Code} {vc:Ay} (hc:A2 P N c=some vc) {fr fr':Fr} {h h':Ac} {x:B2} {I:List It} {Q:MQ}
  (e:exec F Or n vc fr h=some (x,fr',h')) (hg:M6 h h') (hq:Q x fr' h' I):MX P N c fr h I Q:=fun O φ w a r=>by
 have hE:=Ms (F:=F) hO.nice hO.Vy
 have hKC:∀m,Cy (Bo F Or (exec F Or m)):=fun m=>J3 hO.Vy (hE m)
 have hNC:∀m,Cb (Bo F Or (exec F Or m)):=fun m=>Nu hO.nice (Mo hO.nice m)
 have hcall:=aQ hm hF hO
 refine wp_mono (Ty (fun m=>Mr (hKC m)) hE N n (fun m _=>⟨hcall m,mS hm (hcall m) (hNC m) (hKC m)⟩) c vc hc φ fr fr' a h h' w x r.fr r.sim r.clean e) ?_
 rintro ex a' w' ⟨hx,φ',s',ext,f'⟩
 obtain⟨_,hn⟩:=Mo hO.nice n vc fr h x fr' h' e
 exact⟨x,fr',h',I,φ',hx,r.step f' s' (hE _ _ _ _ _ _ _ e r.clean) ext hg,hq⟩
theorem MX.seq {c1 c2:Code} {fr:Fr} {h:Ac} {I:List It} {Q:MQ} (m:MX P N c1 fr h I fun x fr h I=>match x with
  |.normal=>MX P N c2 fr h I Q
  |x=>Q x fr h I):MX P N (.seq c1 c2) fr h I Q:=fun O φ w a r=>by
 refine wp_seq (wp_mono (m O φ w a r) ?_)
 rintro e a1 w1 ⟨x,fr',h',I',φ',hx,r1,hq⟩
 cases e with
 |normal=>
  cases x<;>simp only[Cq] at hx
  refine wp_mono (hq O φ' w1 a1 r1) ?_
  rintro e a2 w2 ⟨x,fr2,h2,I2,φ2,hx2,r2,hq2⟩
  exact⟨x,fr2,h2,I2,φ2,hx2,r2,hq2⟩
 |exit j=>
  cases x<;>simp only[Cq] at hx
  exact⟨.exit _,fr',h',I',φ',hx,r1,hq⟩
 |ret=>
  cases x<;>simp only[Cq] at hx
  exact⟨.ret,fr',h',I',φ',trivial,r1,hq⟩
 |_=>cases x<;>simp only[Cq] at hx
theorem MX.cond {c0:Operand} {v0:VX} (h0:cX c0=some v0) {c1 c2:Code} {fr:Fr} {h:Ac} {I:List It} {Q:MQ} {b:Bool} (e0:v0.eval fr=some (.v (.s (.bool b)))) (m:MX P N (if b then c1 else c2) fr h I Q):MX P N (.cond c0 c1 c2) fr h I Q:=fun O φ w a r=>
 wp_cond (uH r.fr h0 e0) (by cases b<;>exact m O φ w a r)
theorem MX.block {id:Nat} {c:Code} {fr:Fr} {h:Ac} {I:List It} {Q:MQ} (m:MX P N c fr h I fun x fr h I=>match x with
  |.exit j=>if j=id then Q .normal fr h I else Q (.exit j) fr h I
  |x=>Q x fr h I):MX P N (.block id c) fr h I Q:=fun O φ w a r=>by
 refine wp_block (wp_mono (m O φ w a r) ?_)
 rintro e a1 w1 ⟨x,fr',h',I',φ',hx,r1,hq⟩
 cases e with
 |normal=>
  cases x<;>simp only[Cq] at hx
  exact⟨.normal,fr',h',I',φ',trivial,r1,hq⟩
 |exit j=>
  cases x<;>simp only[Cq] at hx
  subst hx
  simp only[Exit.inBlock] at hq ⊢
  split at hq
  ·next hj=>rw[if_pos hj];exact⟨.normal,fr',h',I',φ',trivial,r1,hq⟩
  ·next hj=>rw[if_neg hj];exact⟨.exit _,fr',h',I',φ',rfl,r1,hq⟩
 |ret=>
  cases x<;>simp only[Cq] at hx
  exact⟨.ret,fr',h',I',φ',trivial,r1,hq⟩
 |_=>cases x<;>simp only[Cq] at hx
theorem MX.loop {σ:Type} {c:Code} {Q:MQ} (m:σ→Nat) (J:σ→Fr→Ac→List It→Prop) (hr:∀s fr h I,J s fr h I→MX P N c fr h I fun x fr1 h1 I1=>match x with
  |.normal=>∃s',m s'<m s∧J s' fr1 h1 I1
  |x=>Q x fr1 h1 I1):∀(k:Nat) (s:σ),m s<k→∀fr h I,J s fr h I→MX P N (.loop c) fr h I Q:=by
 intro k s hk fr h I hJ O φ w a r
 have key:∀(k:Nat) (s:σ),m s<k→∀fr h I,J s fr h I→∀φ w a,Gm O N φ fr h I a w →
   Code.rounds P c (fun e a' w'=>∃x fr' h' I' φ',Cq x e∧Gm O N φ' fr' h' I' a' w'∧Q x fr' h' I') k a w:=by
  intro k
  induction k with
  |zero=>intro s hk;omega
  |succ k ih=>
   intro s hk fr h I hJ φ w a r
   rw[rounds_succ]
   refine wp_mono (hr s fr h I hJ O φ w a r) ?_
   rintro e a1 w1 ⟨x,fr',h',I',φ',hx,r1,hq⟩
   cases e with
   |normal=>
    cases x<;>simp only[Cq] at hx
    obtain⟨s',hs,hJ'⟩:=hq
    exact ih s' (by omega) fr' h' I' hJ' φ' w1 a1 r1
   |exit j=>
    cases x<;>simp only[Cq] at hx
    exact⟨.exit _,fr',h',I',φ',hx,r1,hq⟩
   |ret=>
    cases x<;>simp only[Cq] at hx
    exact⟨.ret,fr',h',I',φ',trivial,r1,hq⟩
   |_=>cases x<;>simp only[Cq] at hx
 exact wp_loop_rounds k (key k s hk fr h I hJ φ w a r)
end
end Go.Vm
end
section
noncomputable section
namespace Go.Vm
open Key (kn)
theorem run_choose {P:Program} {w:World} {n:Nat}:∃j w',(choose (.mapNext n)).run P w=.ok j w'∧w'.heap=w.heap∧w'.os=w.os∧w'.output=w.output∧(0<n→j<n):=by
 by_cases hf:n≤1
 ·refine⟨0,w,?_,rfl,rfl,rfl,fun h=>h⟩
  simp[choose,Sem.run,Question.forced,hf]
 ·refine⟨(w.tape w.drawn (.mapNext n)) % n,{ w with drawn:=w.drawn+1 },?_,rfl,rfl,rfl,fun h=>Nat.mod_lt _ h⟩
  simp[choose,Sem.run,Question.forced,hf,Question.cut]
theorem FF {P:Program} {w:World} {r m n:Nat} {es:Array MapEntry} {seen:Array Nat} {ty:TypeId} (h1:w.heap[r]?=some (.mapIter (some m) n seen n)) (h2:w.heap[m]?=some (.map es es.size)) (hn:es.size=n) (hb:∀i (h:i<es.size),es[i].born=i) :
  ((∀k,k<n→k∈seen)∧∃w',(Instr.next (.pointer (some ⟨r,0,none⟩)) false ty).run P w=.ok (.tuple #[.bool false]) w'∧w'.heap=w.heap∧w'.os=w.os∧w'.output=w.output) ∨
  (∃k e w',k<n∧k∉seen∧es[k]?=some e∧(Instr.next (.pointer (some ⟨r,0,none⟩)) false ty).run P w=.ok (.tuple #[.bool true,e.key,e.val]) w'∧w'.heap=w.heap.setIfInBounds r (.mapIter (some m) n (seen.push k) n)∧w'.os=w.os∧w'.output=w.output):=by
 have hobj:=Cm (P:=P) h1 (by simp)
 have hmap:=Cm (P:=P) h2 (by simp)
 have hlt:∀e∈es,e.born<n:=fun e he=>by
  obtain⟨i,hi,rfl⟩:=Array.mem_iff_getElem.1 he
  rw[hb i hi];omega
 have hold:(es.filter fun e=>!seen.contains e.born).filter (fun e=>e.born<n)=es.filter fun e=>!seen.contains e.born:=by
  refine Array.filter_eq_self.2 fun e he=>?_
  simpa using hlt e (Array.mem_filter.1 he).1
 have hnew:(es.filter fun e=>!seen.contains e.born).filter (fun e=>e.born≥n)=#[]:=by
  refine Array.filter_eq_empty_iff.2 fun e he=>?_
  have:=hlt e (Array.mem_filter.1 he).1
  simp;omega
 have hall:(!seen.isEmpty&&!es.isEmpty&&es.all (fun e=>decide (e.born≥n)))=false:=by
  by_cases he:es.isEmpty=true
  ·simp[he]
  ·have:es.all (fun e=>decide (e.born≥n))=false:=by
    rw[Array.all_eq_false]
    have h0:0<es.size:=by simp at he;exact Array.size_pos_iff.2 he
    refine⟨0,h0,?_⟩
    rw[hb 0 h0];simp;omega
   rw[this,Bool.and_false]
 generalize hL:(es.filter fun e=>!seen.contains e.born)=left at hold hnew
 by_cases hempty:left=#[]
 ·left
  refine⟨fun k hk=>?_,?_⟩
  ·refine Classical.byContradiction fun hns=>?_
   have:es[k]'(by omega)∈left:=by
    rw[←hL,Array.mem_filter]
    exact⟨Array.getElem_mem _,by rw[hb k (by omega)];simpa using hns⟩
   rw[hempty] at this;simp at this
  ·obtain⟨j,w',c1,c2,c3,c4,c5⟩:=run_choose (P:=P) (w:=w) (n:=1)
   have hj:j=0:=by have:=c5 (by omega);omega
   subst hj
   refine⟨w',?_,c2,c3,c4⟩
   simp only[Instr.next,Sem.run_bind,hobj,Result.andThen_ok,hmap]
   rw[if_neg (by rw[hall];simp)]
   simp only[hL,hold,hnew]
   rw[hempty]
   simp only[Array.isEmpty_empty,if_true,Array.append_empty,Array.map_empty,Sem.run_bind]
   rw[show(#[none]:Array (Option MapEntry)).size=1 from rfl,c1]
   simp only[Result.andThen_ok]
   rfl
 ·right
  have hne:left.isEmpty=false:=by
   cases h:left.isEmpty with
   |false=>rfl
   |true=>exact absurd (Array.isEmpty_iff.1 h) hempty
  have hpos:0<left.size:=Array.size_pos_iff.2 hempty
  obtain⟨j,w1,c1,c2,c3,c4,c5⟩:=run_choose (P:=P) (w:=w) (n:=left.size)
  have hj:=c5 hpos
  have hmem:left[j]∈es∧(!seen.contains left[j].born)=true:=Array.mem_filter.1 (by rw[hL];exact Array.getElem_mem hj)
  obtain⟨i,hi,he⟩:=Array.mem_iff_getElem.1 hmem.1
  have hbi:left[j].born=i:=by rw[←he];exact hb i hi
  have hset:=Ns (P:=P) (w:=w1) (r:=r) (o':=.mapIter (some m) n (seen.push left[j].born) es.size) (by rw[c2];exact h1) (by simp)
  refine⟨i,left[j],{ w1 with heap:=w1.heap.setIfInBounds r (.mapIter (some m) n (seen.push left[j].born) es.size) },by omega,?_,by rw[←he];simp[hi],?_,by rw[c2,hbi,hn],c3,c4⟩
  ·have:=hmem.2
   rw[hbi] at this
   simpa using this
  ·simp only[Instr.next,Sem.run_bind,hobj,Result.andThen_ok,hmap]
   rw[if_neg (by rw[hall];simp)]
   simp only[hL,hold,hnew,hne,Fj,if_false,Array.append_empty,Array.empty_append,Array.size_map,Sem.run_bind]
   rw[c1]
   simp only[Result.andThen_ok,Array.getElem?_map,Array.getElem?_eq_getElem hj,Option.map_some,Sem.run_bind,hset]
   rfl
end Go.Vm
end
section
noncomputable section
namespace Go.Vm
open Key (kn)
def K8:Bl→Bool
 |.op .Hd=>false
 |.op .Md=>false
 |.op .He=>false
 |_=>true
theorem pC {α:Type} (x:Option α) (f:α→VOp) (g:α→List Operand) (h:∀y,K8 (.op (f y))=true):(x.map fun y=>(Bl.op (f y),g y)).all (fun p=>K8 p.1)=true:=by
 cases x with
 |none=>rfl
 |some y=>exact h y
theorem tC (x:Operand) (lo hi mx:Option Operand) (k:SlK):(Fi x lo hi mx k).all (fun p=>K8 p.1)=true:=by
 unfold Fi;split<;>rfl
theorem gG (P:Program) (c:Call):(Me P c).all (fun p=>K8 p.1)=true:=by
 unfold Me
 repeat'(first|rfl|exact pC _ _ _ (fun _=>rfl)|split)
theorem Qd {P:Program} {op:Op} (h1:∀i s,op≠.next i s) (h2:∀t x,op≠.range t x) (h3:∀i,op≠.entry i):(cOp P op).all (fun p=>K8 p.1)=true:=by
 cases op with
 |next i s=>exact absurd rfl (h1 i s)
 |range t x=>exact absurd rfl (h2 t x)
 |entry i=>exact absurd rfl (h3 i)
 |call c=>exact gG P c
 |_=>
  simp only[cOp]
  repeat'(first|rfl|exact pC _ _ _ (fun _=>rfl)|exact tC _ _ _ _ _|exact gG _ _|(exfalso;exact h1 _ _ (by assumption))|(exfalso;exact h2 _ _ (by assumption))|(exfalso;exact h3 _ (by assumption))|split)
theorem FG {P:Program} {op:Op} {xs:List Operand} (h:cOp P op=some (.op .Md,xs)):∃it,op=.next it false∧xs=[it]:=by
 have key:=fun h1 h2 h3=>Qd (P:=P) (op:=op) h1 h2 h3
 rw[h] at key
 cases op with
 |next i s=>
  cases s with
  |true=>simp[cOp] at h
  |false=>
   simp only[cOp,Sj,Pj] at h
   exact⟨i,rfl,h.2.symm⟩
 |range t x=>exfalso;revert h;simp only[cOp];intro h;(repeat' split at h)<;>cases h
 |entry i=>simp[cOp] at h
 |_=>exact absurd (key (fun _ _ e=>by cases e) (fun _ _ e=>by cases e) (fun _ e=>by cases e)) (by simp[K8])
theorem zI {P:Program} {op:Op} {xs:List Operand} (h:cOp P op=some (.op .He,xs)):∃it,op=.entry it∧xs=[it]:=by
 have key:=fun h1 h2 h3=>Qd (P:=P) (op:=op) h1 h2 h3
 rw[h] at key
 cases op with
 |entry i=>
  simp only[cOp,Sj,Pj] at h
  exact⟨i,rfl,h.2.symm⟩
 |range t x=>exfalso;revert h;simp only[cOp];intro h;(repeat' split at h)<;>cases h
 |next i s=>cases s<;>simp[cOp] at h
 |_=>exact absurd (key (fun _ _ e=>by cases e) (fun _ _ e=>by cases e) (fun _ e=>by cases e)) (by simp[K8])
theorem zJ {P:Program} {op:Op} {xs:List Operand} (h:cOp P op=some (.op .Hd,xs)):∃t x k e,op=.range t x∧xs=[x]∧P.underlying t=some (.map k e):=by
 have key:=fun h1 h2 h3=>Qd (P:=P) (op:=op) h1 h2 h3
 rw[h] at key
 cases op with
 |entry i=>simp[cOp] at h
 |range t x=>
  simp only[cOp] at h
  split at h
  ·next k e hu=>simp only[Sj,Pj] at h;exact⟨t,x,k,e,rfl,h.2.symm,hu⟩
  ·cases h
 |next i s=>cases s<;>simp[cOp] at h
 |_=>exact absurd (key (fun _ _ e=>by cases e) (fun _ _ e=>by cases e) (fun _ e=>by cases e)) (by simp[K8])
def MXL (P:Program) (N:Nat) (ops:Array Oper) (l:List Oper) (fr:Fr) (h:Ac) (I:List It) (K:Fr→Ac→List It→Prop):Prop:=∀O φ w a (Q:Exit→Act→World→Prop),Gm O N φ fr h I a w →
 (∀φ' fr' h' I' a' w',Gm O N φ' fr' h' I' a' w'→K fr' h' I'→Q .normal a' w')→wpList P ops Q l a w
section
variable {P:Program} {N:Nat} {ops:Array Oper}
theorem MXL.nil {fr:Fr} {h:Ac} {I:List It} {K:Fr→Ac→List It→Prop} (hk:K fr h I):MXL P N ops [] fr h I K:=fun O φ w a Q r hQ=>hQ φ fr h I a w r hk
theorem MX.region {id:Nat} {fr:Fr} {h:Ac} {I:List It} {Q:MQ} (m:MXL P N ops ops.toList fr h I (Q .normal)):MX P N (.region id ops false) fr h I Q:=fun O φ w a r=>
 wp_region_list (m O φ w a _ r fun φ' fr' h' I' _ _ r' k=>⟨.normal,fr',h',I',φ',trivial,r',k⟩)
theorem MXL.run {call:Bn} (hcall:Ed P call) (hkeep:Jy call) (hnice:Cb call) {o:Oper} {vo:An} (hc:Ix P N ops o=some vo) {l:List Oper} {fr fr1:Fr} {h h1:Ac} {I:List It} {K:Fr→Ac→List It→Prop}
  (e:vo.run call fr h=some (fr1,h1)) (hg:M6 h h1) (m:MXL P N ops l fr1 h1 I K):MXL P N ops (o::l) fr h I K:=fun O φ w a Q r hQ=>
 Vu hcall hc r.fr r.sim r.clean e fun a' w' ⟨φ1,s1,e1,f1⟩=>by
  obtain⟨_,hn⟩:=Mn hnice vo fr h fr1 h1 e
  exact m O φ1 w' a' Q (r.step f1 s1 (hkeep _ _ _ _ _ e r.clean) e1 hg) hQ
theorem Qe {o:Oper} {vo:An} (hc:Ix P N ops o=some vo) (hg:vo.guard=none) {φ:Emb} {fr:Fr} {a:Act} {w:World} (hfr:C6 φ N fr a) {K:Act→World→Prop} {Q:Exit→Act→World→Prop} (h:o.wp P a w K Q) :
  if Region.wanted o (yielded ops a.tmps) then o.wp P a w K Q∨(o.asks P a w∧LetsOut Q) else K (a.put o.dst undef) w:=by
 obtain⟨_,_,⟨g,hg1,hvg⟩,_⟩:=Dw hc
 have hw:Region.wanted o (yielded ops a.tmps)=true:=Mk hfr hg1 (c:=true) (by rw[←hvg,hg];rfl)
 rw[hw,if_pos rfl]
 exact .inl h
theorem It.ptr {φ:Emb} {h:Ac} {w:World} {i:It} (k:zH φ h w i) {v:Value} (e:Cp φ (.v (.s (.ptr i.b 0))) v):∃l l',φ i.b=some l∧v=.pointer (some ⟨l.blk,0,none⟩)∧φ i.mp=some l'∧w.heap[l.blk]?=some (.mapIter (some l'.blk) i.n i.seen.toArray i.n)∧∀b l2,φ b=some l2→l2.blk=l.blk→h.get b=none:=by
 obtain⟨lc,e0,e1⟩:=e
 obtain⟨l,l',h1,h2,h3,h4,h5⟩:=k.obj
 rw[e0] at h1;cases h1
 exact⟨lc,l',e0,by rw[e1,h2],h3,h4,h5⟩
theorem Gm.seen {O:Org} {φ:Emb} {fr:Fr} {h:Ac} {I1 I2:List It} {i:It} {a:Act} {w w':World} (r:Gm O N φ fr h (I1++i::I2) a w) {l l':Loc} (h1:φ i.b=some l) (h2:φ i.mp=some l') (h4:w.heap[l.blk]?=some (.mapIter (some l'.blk) i.n i.seen.toArray i.n)) {k:Nat}
  (hh:w'.heap=w.heap.setIfInBounds l.blk (.mapIter (some l'.blk) i.n (i.seen.toArray.push k) i.n)) (hs:w'.os=w.os) (ho:w'.output=w.output):Gm O N φ fr h (I1++{ i with seen:=i.seen++[k] }::I2) a w':=by
 have him:i∈I1++i::I2:=by simp
 have hlt:l.blk<w.heap.size:=(Array.getElem?_eq_some_iff.1 h4).1
 have hne:∀r0,r0≠l.blk→w'.heap[r0]?=w.heap[r0]?:=fun r0 hr=>by rw[hh,Array.getElem?_setIfInBounds_ne (Ne.symm hr)]
 obtain⟨l0,l0',g1,g2,g3,g4,g5⟩:=(r.its i him).obj
 rw[h1] at g1;cases g1
 have hpw:=List.pairwise_append.1 r.dis
 have hpc:=List.pairwise_cons.1 hpw.2.1
 have old:∀j∈I1++I2,zH φ h w' j:=fun j hj=>by
  have hjm:j∈I1++i::I2:=by
   rcases List.mem_append.1 hj with hj|hj
   ·simp[hj]
   ·simp[hj]
  obtain⟨lt,lj,lj',j1,j2,j3,j4,j5⟩:=r.its j hjm
  refine⟨lt,lj,lj',j1,j2,j3,?_,j5⟩
  rw[hne _ ?_];exact j4
  rcases List.mem_append.1 hj with hj|hj
  ·exact hpw.2.2 j hj i (by simp) _ _ j1 h1
  ·exact fun e=>hpc.1 j hj _ _ h1 j1 e.symm
 refine⟨r.fr,⟨fun b x lb hb hp=>?_,r.sim.sep,r.sim.fresh⟩,r.clean,{ r.ext with size:=by rw[hh,Array.size_setIfInBounds];exact r.ext.size,frame:=fun r0 o hr hn=>?_,os:=by rw[hs,ho];exact r.ext.os },r.frs,fun j hj=>?_,fun j hj=>?_,?_⟩
 ·rw[hne _ fun e=>by rw[g5 b lb hp e] at hb;cases hb]
  exact r.sim.blk b x lb hb hp
 ·rw[hne _ ?_];exact r.ext.frame r0 o hr hn
  have:=(Array.getElem?_eq_some_iff.1 hr).1
  have:=r.new i him l h1
  omega
 ·rcases List.mem_append.1 hj with hj|hj
  ·exact old j (by simp[hj])
  ·rcases List.mem_cons.1 hj with rfl|hj
   ·refine⟨(r.its i him).lt,l,l0',h1,g2,g3,?_,g5⟩
    rw[h2] at g3;cases g3
    rw[hh,Array.getElem?_setIfInBounds_self,if_pos hlt]
    simp
   ·exact old j (by simp[hj])
 ·rcases List.mem_append.1 hj with hj|hj
  ·exact r.new j (by simp[hj])
  ·rcases List.mem_cons.1 hj with rfl|hj
   ·exact r.new i him
   ·exact r.new j (by simp[hj])
 ·exact List.pairwise_append.2 ⟨hpw.1,List.pairwise_cons.2 ⟨hpc.1,hpc.2⟩,fun x hx y hy=>by
   rcases List.mem_cons.1 hy with rfl|hy
   ·exact hpw.2.2 x hx i (by simp)
   ·exact hpw.2.2 x hx y (by simp[hy])⟩
theorem Gm.put {O:Org} {φ:Emb} {fr:Fr} {h:Ac} {I:List It} {a:Act} {w:World} (r:Gm O N φ fr h I a w) {o:Oper} (hd:lL N o=true) {v:AV} {v':Value} (hv:Cp φ v v'):Gm O N φ (Bp fr (o.dst.map kn) v) h I (a.put o.dst v') w:={ r with fr:=r.fr.put hd hv }
theorem MXL.next {o:Oper} {vo:An} (hc:Ix P N ops o=some vo) {d:Option Key} {kx:Key} (hv:vo=⟨d,.op .Md,[.t kx],none⟩) {l:List Oper} {fr:Fr} {h:Ac} {I1 I2:List It} {i:It} {K:Fr→Ac→List It→Prop} {es:List (CV×CV)} {own:Bool} {anc:List Key}
  (hx:fr.get kx=some (.v (.s (.ptr i.b 0)))) (hg:h.get i.mp=some ⟨.map es,own,anc⟩) (hn:es.length=i.n)
  (hno:(∀k,k<i.n→k∈i.seen)→MXL P N ops l (Bp fr d (.tup [.s (.bool false)])) h (I1++i::I2) K)
  (hyes:∀k key val,k<i.n→k∉i.seen→es[k]?=some (key,val)→MXL P N ops l (Bp fr d (.tup [.s (.bool true),key,val])) h (I1++{ i with seen:=i.seen++[k] }::I2) K):MXL P N ops (o::l) fr h (I1++i::I2) K:=by
 intro O φ w a Q r hQ
 refine Qe hc (by rw[hv]) r.fr ?_
 obtain⟨hd,hdst,_,hact⟩:=Dw hc
 rcases hact with⟨act,xs,ys,hop,hys,ha,hargs⟩|⟨ha,_⟩
 ·rw[hv] at ha hargs hdst
  simp only at ha hargs hdst
  subst ha
  obtain⟨it,ho,rfl⟩:=FG hop
  have hrel:=Mj (args:=[.v (.s (.ptr i.b 0))]) r.fr hys (by rw[←hargs];simp only[Cn,VX.eval,hx])
  obtain⟨lc,l',h1,h2,h3,h4,h5⟩:=It.ptr (r.its i (by simp)) (Km hrel)
  obtain⟨arr,f2,f3,f4⟩:=r.sim.map h3 hg
  have hlen:arr.size=i.n:=by rw[←hn,Ah f4];simp
  obtain⟨dst,op,type,pos,after,guard⟩:=o
  simp only at ho hdst
  subst ho
  unfold Oper.wp
  rcases FF (P:=P) (ty:=type) h4 f2 hlen f3 with⟨hall,w',n1,n2,n3,n4⟩|⟨k,e,w',k1,k2,k3,n1,n2,n3,n4⟩
  ·have hx:(execOp a.eval ⟨dst,.next it false,type,pos,after,guard⟩).run P w=.ok (.value (.tuple #[.bool false])) w':=by
    simp only[execOp,h2,Sem.run_bind,n1,Result.andThen_ok,Sem.run_pure]
   rw[hx,Oper.upon_value]
   rw[hdst] at hno
   exact hno (fun k hk=>by have:=hall k hk;simpa using this) O φ w' _ Q ((r.world n2 n3 n4).put hd ⟨[.bool false],rfl,.cons rfl .nil⟩) hQ
  ·have hx:(execOp a.eval ⟨dst,.next it false,type,pos,after,guard⟩).run P w=.ok (.value (.tuple #[.bool true,e.key,e.val])) w':=by
    simp only[execOp,h2,Sem.run_bind,n1,Result.andThen_ok,Sem.run_pure]
   rw[hx,Oper.upon_value]
   rw[hdst] at hyes
   have hk:k<es.length:=by omega
   obtain⟨e',he',h6,h7⟩:=Ax f4 k (a:=es[k]) (by simp[hk])
   have:arr.toList[k]?=some e:=by simpa using k3
   rw[this] at he';cases he'
   exact hyes k es[k].1 es[k].2 k1 (by simpa using k2) (by simp[hk]) O φ w' _ Q ((r.seen h1 h3 h4 n2 n3 n4).put hd ⟨[.bool true,e.key,e.val],rfl,.cons rfl (.cons h6 (.cons h7 .nil))⟩) hQ
 ·rw[hv] at ha;cases ha
theorem MXL.entry {o:Oper} {vo:An} (hc:Ix P N ops o=some vo) {d:Option Key} {kx:Key} (hv:vo=⟨d,.op .He,[.t kx],none⟩) {l:List Oper} {fr:Fr} {h:Ac} {I:List It} {i:It} {K:Fr→Ac→List It→Prop} {es:List (CV×CV)} {own:Bool} {anc:List Key}
  (hi:i∈I) (hx:fr.get kx=some (.v (.s (.ptr i.b 0)))) (hg:h.get i.mp=some ⟨.map es,own,anc⟩) (hn:es.length=i.n) {s:List Nat} {k:Nat} (hs:i.seen=s++[k]) {key val:CV} (hk:es[k]?=some (key,val))
  (m:MXL P N ops l (Bp fr d (.tup [key,val])) h I K):MXL P N ops (o::l) fr h I K:=by
 intro O φ w a Q r hQ
 refine Qe hc (by rw[hv]) r.fr ?_
 obtain⟨hd,hdst,_,hact⟩:=Dw hc
 rcases hact with⟨act,xs,ys,hop,hys,ha,hargs⟩|⟨ha,_⟩
 ·rw[hv] at ha hargs hdst
  simp only at ha hargs hdst
  subst ha
  obtain⟨it,ho,rfl⟩:=zI hop
  have hrel:=Mj (args:=[.v (.s (.ptr i.b 0))]) r.fr hys (by rw[←hargs];simp only[Cn,VX.eval,hx])
  obtain⟨lc,l',h1,h2,h3,h4,h5⟩:=It.ptr (r.its i hi) (Km hrel)
  obtain⟨arr,f2,f3,f4⟩:=r.sim.map h3 hg
  have hlen:arr.size=i.n:=by rw[←hn,Ah f4];simp
  obtain⟨dst,op,type,pos,after,guard⟩:=o
  simp only at ho hdst
  subst ho
  unfold Oper.wp
  obtain⟨e,he,h6,h7⟩:=Ax f4 k hk
  have hka:k<arr.size:=by
   have:=(Gi.1 he).1
   simpa using this
  have he':arr[k]?=some e:=by simpa using he
  have hobj:=Cm (P:=P) h4 (by simp)
  have hmap:=Cm (P:=P) f2 (by simp)
  have hback:i.seen.toArray.back?=some k:=by rw[hs];simp
  have hfind:arr.find? (fun e=>e.born==k)=some e:=by
   have hek:arr[k]=e:=by have:=he';rw[Array.getElem?_eq_getElem hka] at this;exact Option.some.inj this
   rw[Array.find?_eq_some_iff_getElem]
   refine⟨by rw[←hek,f3 k hka];simp,k,hka,hek,fun j hj=>?_⟩
   rw[f3 j (by omega)]
   simp;omega
  have hx:(execOp a.eval ⟨dst,.entry it,type,pos,after,guard⟩).run P w=.ok (.value (.tuple #[e.key,e.val])) w:=by
   simp[execOp,h2,Instr.entry,hobj,hmap,hback,hlen,hfind]
  rw[hx,Oper.upon_value]
  rw[hdst] at m
  exact m O φ w _ Q (r.put hd ⟨[e.key,e.val],rfl,.cons h6 (.cons h7 .nil)⟩) hQ
 ·rw[hv] at ha;cases ha
theorem Ext.less {φ:Emb} {g:Mem} {lo:Nat} {w:World} {φ':Emb} {g' g2:Mem} {hi:Nat} {w':World} (e:Ext φ g lo w φ' g' hi w') (h:∀b x,g2 b=some x→g' b=some x):Ext φ g lo w φ' g2 hi w':=
 { e with own:=fun b x l hb=>e.own b x l (h b x hb) }
theorem MXL.range {o:Oper} {vo:An} (hc:Ix P N ops o=some vo) {d:Option Key} {kx:Key} (hv:vo=⟨d,.op .Hd,[.t kx],none⟩) {l:List Oper} {fr:Fr} {h:Ac} {I:List It} {K:Fr→Ac→List It→Prop} {mp:Key} {es:List (CV×CV)} {own:Bool} {anc:List Key}
  (hx:fr.get kx=some (.v (.s (.map mp)))) (hg:h.get mp=some ⟨.map es,own,anc⟩)
  (m:MXL P N ops l (Bp fr d (.v (.s (.ptr h.next 0)))) { h with next:=h.next.succ } (I++[⟨h.next,mp,es.length,[]⟩]) K):MXL P N ops (o::l) fr h I K:=by
 intro O φ w a Q r hQ
 refine Qe hc (by rw[hv]) r.fr ?_
 obtain⟨hd,hdst,_,hact⟩:=Dw hc
 rcases hact with⟨act,xs,ys,hop,hys,ha,hargs⟩|⟨ha,_⟩
 ·rw[hv] at ha hargs hdst
  simp only at ha hargs hdst
  subst ha
  obtain⟨t,x,kt,et,ho,rfl,hu⟩:=zJ hop
  have hrel:=Mj (args:=[.v (.s (.map mp))]) r.fr hys (by rw[←hargs];simp only[Cn,VX.eval,hx])
  obtain⟨lc,e0,e1⟩:=Km hrel
  obtain⟨arr,f1,f2,f3⟩:=r.sim.map e0 hg
  have hlen:es.length=arr.size:=by rw[Ah f3];simp
  have hobj:=Cm (P:=P) f1 (by simp)
  have hb:φ h.next=none:=r.sim.fresh _ (Rl)
  have hlc:(φ.set h.next ⟨w.heap.size,0,0⟩) mp=some lc:=Emb.Pe _ hb _ _ e0
  obtain⟨dst,op,type,pos,after,guard⟩:=o
  simp only at ho hdst
  subst ho
  obtain⟨g1,g2⟩:=Pf (w':=w.alloc (.mapIter (some lc.blk) arr.size #[] arr.size)) (o:=.mapIter (some lc.blk) arr.size #[] arr.size) r.sim hb ⟨.iter mp es.length 0,true,[]⟩ ⟨w.heap.size,0,0⟩ rfl rfl
   ⟨rfl,lc,hlc,by rw[hlen];rfl⟩
  have hnx:(h.Bs ⟨.iter mp es.length 0,true,[]⟩).next.toNat=h.next.toNat+1:=Key.toNat_succ _
  have hnone:h.get h.next=none:=(r.clean h.next (Rl)).1
  have hless:∀b x,h.get b=some x→(h.Bs ⟨.iter mp es.length 0,true,[]⟩).get b=some x:=fun b x hbx=>by
   rw[Cf]
   show(if h.next=b then _ else h.get b)=some x
   rw[if_neg fun e=>by rw[←e,hnone] at hbx;cases hbx]
   exact hbx
  have s1:=g1 (h.next.toNat+1) (by omega) (by omega)
  rw[hnx] at g2
  unfold Oper.wp
  have hx:(execOp a.eval ⟨dst,.range t x,type,pos,after,guard⟩).run P w=.ok (.value (.pointer (some ⟨w.heap.size,0,none⟩))) (w.alloc (.mapIter (some lc.blk) arr.size #[] arr.size)):=by
   simp[execOp,Instr.range,run_underlying hu,e1,hobj]
  rw[hx,Oper.upon_value]
  rw[hdst] at m
  have hsn:({ h with next:=h.next.succ }:Ac).next.toNat=h.next.toNat+1:=Key.toNat_succ _
  have hget:({ h with next:=h.next.succ }:Ac).get=h.get:=rfl
  have hgone:M6 h { h with next:=h.next.succ }:=fun _ _ e=>e
  have r1:Gm O N (φ.set h.next ⟨w.heap.size,0,0⟩) fr { h with next:=h.next.succ } I a (w.alloc (.mapIter (some lc.blk) arr.size #[] arr.size)):=by
   refine r.step (r.fr.mono g2.le) ?_ (fun b hb'=>r.clean b (by rw[hsn] at hb';omega)) ?_ hgone
   ·rw[hsn];exact s1.less fun b x hb'=>⟨x,hless b x hb',rfl,rfl,id⟩
   ·rw[hsn];exact g2.less hless
  have hset:(φ.set h.next ⟨w.heap.size,0,0⟩) h.next=some ⟨w.heap.size,0,0⟩:=Emb.A3 _ _ _
  have hdead:∀b l2,(φ.set h.next ⟨w.heap.size,0,0⟩) b=some l2→l2.blk=w.heap.size→h.get b=none:=fun b l2 hp he=>by
   cases hgb:h.get b with
   |none=>rfl
   |some y=>
    obtain⟨ob,hob,_⟩:=s1.blk b y l2 (hless b y hgb) hp
    exfalso
    cases hφ:φ b with
    |none=>
     have hne:h.next≠b:=fun e=>by rw[←e,hnone] at hgb;cases hgb
     rw[Emb.Ca _ _ hne,hφ] at hp
     cases hp
    |some l0=>
     have h2:=g2.le _ _ hφ
     rw[hp] at h2;cases h2
     obtain⟨ob',hob',_⟩:=r.sim.blk b y l2 hgb hφ
     have:=(Array.getElem?_eq_some_iff.1 hob').1
     omega
  refine m O _ _ _ Q (Gm.put ⟨r1.fr,r1.sim,r1.clean,r1.ext,r1.frs,fun j hj=>?_,fun j hj=>?_,?_⟩ hd ⟨_,hset,rfl⟩) hQ
  ·rcases List.mem_append.1 hj with hj|hj
   ·exact r1.its j hj
   ·rw[List.mem_singleton] at hj
    subst hj
    refine⟨Nat.lt_of_lt_of_eq (Nat.lt_succ_self _) hsn.symm,_,lc,hset,rfl,hlc,?_,hdead⟩
    show(w.heap.push (.mapIter (some lc.blk) arr.size #[] arr.size))[w.heap.size]?=some (.mapIter (some lc.blk) es.length #[] es.length)
    rw[hlen];simp
  ·rcases List.mem_append.1 hj with hj|hj
   ·exact r1.new j hj
   ·rw[List.mem_singleton] at hj
    subst hj
    intro l2 hl2
    rw[hset] at hl2;cases hl2
    exact r.ext.size
  ·refine List.pairwise_append.2 ⟨r1.dis,List.pairwise_singleton _ _,fun x hx y hy l1 l2 e1 e2=>?_⟩
   rw[List.mem_singleton] at hy
   subst hy
   rw[hset] at e2;cases e2
   obtain⟨_,l3,_,h3,_,_,h4,_⟩:=r.its x hx
   have h5:=g2.le _ _ h3
   rw[e1] at h5;cases h5
   have:=(Array.getElem?_eq_some_iff.1 h4).1
   simp only
   omega
 ·rw[hv] at ha;cases ha
end
end Go.Vm
end
section
noncomputable section
namespace Go.Vm
open Key (kn)
open Classical in
def Uy (f:Nat) (vs:List AV):Bn:=fun f' az h=>if f'=f∧az=vs then some (.unit,h) else none
theorem pD {f:Nat} {vs:List AV} {f':Nat} {az:List AV} {h:Ac} {r:AV×Ac} (e:Uy f vs f' az h=some r):f'=f∧az=vs:=by
 unfold Uy at e
 split at e
 ·assumption
 ·cases e
theorem Ta (f:Nat) (vs:List AV) (h:Ac):Uy f vs f vs h=some (.unit,h):=by simp[Uy]
structure MC (P:Program) (f:Nat) (vs:List AV) (h:Ac) (R:AV→Ac→Prop):Prop where
 dom : ∃ fn, P.funcs[f]? = some fn ∧ (fn.name == "runtime.NumGoroutine") = false ∧ fn.body.isNone = false
 run:Clean h→∀φ w us,Sim φ h.get h.next.toNat w→Aa (Cp φ) vs us →
  Calls P f us.toArray w fun e w'=>∃v' v h' φ',e=.returned v'∧Sim φ' h'.get h'.next.toNat w'∧Ext φ h.get h.next.toNat w φ' h'.get h'.next.toNat w'∧Clean h'∧M6 h h'∧Cp φ' v v'∧R v h'
section
variable {P:Program} {N:Nat} {ops:Array Oper}
theorem MC.mono {f:Nat} {vs:List AV} {h:Ac} {R R':AV→Ac→Prop} (m:MC P f vs h R) (hr:∀v h',R v h'→R' v h'):MC P f vs h R':=
 ⟨m.dom,fun hc φ w us s ha=>Calls.mono (m.run hc φ w us s ha) fun _ _ ⟨v',v,h',φ',e1,e2,e3,e4,e5,e6,e7⟩=>⟨v',v,h',φ',e1,e2,e3,e4,e5,e6,hr _ _ e7⟩⟩
theorem wI {o:Oper} {vo:An} (hc:Ix P N ops o=some vo) (hop:∀p,vo.act≠.op p) {φ:Emb} {fr:Fr} {a:Act} {w:World} {h:Ac} (hfr:C6 φ N fr a) (s:Sim φ h.get h.next.toNat w) (hcl:Clean h) {args:List AV} (hf:Cn fr vo.args=some args)
  {f:Nat} {vs:List AV} (hr:vo.act.run (Uy f vs) args h=some (.unit,h)) {R:AV→Ac→Prop} (m:MC P f vs h R) {K:Act→World→Prop} {Q:Exit→Act→World→Prop}
  (hK:∀v v' h' φ' w',Sim φ' h'.get h'.next.toNat w'→Ext φ h.get h.next.toNat w φ' h'.get h'.next.toNat w'→Clean h'→M6 h h'→Cp φ' v v'→R v h'→K (a.put o.dst v') w'):o.wp P a w K Q:=by
 obtain⟨_,_,_,hact⟩:=Dw hc
 rcases hact with⟨act,xs,ys,hop',hys,ha,hargs⟩|⟨ha,_⟩
 ·rw[ha] at hr hop
  rw[hargs] at hf
  have hrel:=Mj hfr hys hf
  obtain⟨c,hoc,hcc⟩:=mF hop' hop
  obtain⟨dst,op,type,pos,after,guard⟩:=o
  simp only at hoc
  subst hoc
  obtain⟨f',az,us,e1,e2,e3⟩:=aD (P:=P) (fun f' az h r e=>by obtain⟨rfl,_⟩:=pD e;exact m.dom) hcc hop hrel hr dst type pos after guard (w:=w)
  obtain⟨rfl,rfl⟩:=pD e2
  unfold Oper.wp
  rw[e1]
  refine Calls.mono (m.run hcl φ w us s e3) ?_
  rintro e w' ⟨v',v,h',φ',rfl,g1,g2,g3,g4,g5,g6⟩
  exact hK v v' h' φ' w' g1 g2 g3 g4 g5 g6
 ·exact absurd ha (hop _)
theorem MXL.call {o:Oper} {vo:An} (hc:Ix P N ops o=some vo) (hg:vo.guard=none) (hop:∀p,vo.act≠.op p) {l:List Oper} {fr:Fr} {h:Ac} {I:List It} {K:Fr→Ac→List It→Prop} {args:List AV} (hf:Cn fr vo.args=some args)
  {f:Nat} {vs:List AV} (hr:vo.act.run (Uy f vs) args h=some (.unit,h)) {R:AV→Ac→Prop} (m:MC P f vs h R) (hk:∀v h',R v h'→MXL P N ops l (Bp fr vo.dst v) h' I K):MXL P N ops (o::l) fr h I K:=fun O φ w a Q r hQ=>by
 obtain⟨hd,hdst,_⟩:=Dw hc
 refine Qe hc hg r.fr (wI hc hop r.fr r.sim r.clean hf hr m fun v v' h' φ' w' g1 g2 g3 g4 g5 g6=>?_)
 refine hk v h' g6 O φ' w' _ Q ?_ hQ
 refine(r.step (r.fr.mono g2.le) g1 g3 g2 g4).put hd g5 |> fun r2=>?_
 rw[hdst];exact r2
theorem MC.of {F:A4} (hF:∀f vf,F f=some vf→Fq P f=some vf) {f:Nat} {vf:El} (hf:F f=some vf) {vs:List AV} {h:Ac} {R:AV→Ac→Prop}
  (m:∀N c,A2 P N c=some vf.body→MX P N c (Tr.z.Co 0 vs) h [] fun x fr h' _=>(∀i,x≠.exit i)∧∃l,D5 fr h' vf.results=some l∧R (Fh l) h'):MC P f vs h R:=by
 have hf:=hF _ _ hf
 unfold Fq at hf
 cases hfn:P.funcs[f]? with
 |none=>simp[hfn] at hf
 |some fn=>
  simp[hfn] at hf
  obtain⟨h1,c,hb,hcode,hres⟩:=St hf
  refine⟨⟨fn,hfn,h1,by simp[hb]⟩,fun hcl φ w us s ha=>?_⟩
  refine calls_of_wp hfn hb (wp_mono (m fn.ntmps c hcode ⟨φ,h,w⟩ φ w _ ⟨eV ha fn.ntmps,s,hcl,Ext.refl _ _ _ _,M6.refl h,by simp,by simp,.nil⟩) ?_)
  rintro e a w' ⟨x,fr,h',I',φ',hx,r,hne,l,hl,hR⟩
  obtain⟨v',e1,e2⟩:=aE (P:=P) r.fr r.sim hres hl
  have hgoal:bodyPost P fn (fun e w'=>∃v' v h' φ',e=.returned v'∧Sim φ' h'.get h'.next.toNat w'∧Ext φ h.get h.next.toNat w φ' h'.get h'.next.toNat w'∧Clean h'∧M6 h h'∧Cp φ' v v'∧R v h') .ret a w':=
   ⟨r.fr.defers,v',e1,v',Fh l,h',φ',rfl,r.sim,r.ext,r.clean,r.frs,e2,hR⟩
  cases e with
  |normal=>exact hgoal
  |ret=>exact hgoal
  |exit i=>
   cases x with
   |exit j=>exact(hne j rfl).elim
   |_=>exact hx.elim
  |_=>cases x<;>exact hx.elim
theorem dE {call:Bn} (hcall:Ed P call) (hkeep:Jy call) {l2:List Oper} {Q:Exit→Act→World→Prop}:∀(l:List Oper) (vs:List An),Ci P N ops l=some vs→∀{φ:Emb} {fr fr':Fr} {a:Act} {h h':Ac} {w:World},C6 φ N fr a →
  Sim φ h.get h.next.toNat w→Clean h→Cl call vs fr h=some (fr',h')→(∀a' w',Clean h'→(iC φ h w h' w' fun φ'=>C6 φ' N fr' a')→wpList P ops Q l2 a' w')→wpList P ops Q (l++l2) a w
 |[],vs,hc,φ,fr,fr',a,h,h',w,hfr,s,hcl,hr,hQ=>by
  simp[Ci] at hc;subst hc
  simp[Cl] at hr
  obtain⟨rfl,rfl⟩:=hr
  exact hQ _ _ hcl ⟨φ,s,Ext.refl _ _ _ _,hfr⟩
 |o::l,vs,hc,φ,fr,fr',a,h,h',w,hfr,s,hcl,hr,hQ=>by
  unfold Ci at hc
  split at hc
  ·next vo hvo=>
   split at hc
   ·next vl hvl=>
    cases hc
    unfold Cl at hr
    split at hr
    ·next fr1 h1 h1r=>
     exact Vu hcall hvo hfr s hcl h1r fun a' w' ⟨φ1,s1,e1,f1⟩=>
      dE hcall hkeep l vl hvl f1 s1 (hkeep _ _ _ _ _ h1r hcl) hr fun a2 w2 c2 p2=>hQ a2 w2 c2 (p2.trans e1)
    ·cases hr
   ·cases hc
  ·cases hc
theorem dF:∀{l1:List An} {l:List Oper} {l2:List An},Ci P N ops l=some (l1++l2)→∃a b,l=a++b∧Ci P N ops a=some l1∧Ci P N ops b=some l2
 |[],l,l2,h=>⟨[],l,rfl,rfl,h⟩
 |o::l1,[],l2,h=>by simp[Ci] at h
 |o::l1,x::l,l2,h=>by
  unfold Ci at h
  split at h
  ·next vo hvo=>
   split at h
   ·next vl hvl=>
    simp only[Sj,List.cons_append,List.cons.injEq] at h
    obtain⟨rfl,rfl⟩:=h
    obtain⟨a,b,e1,e2,e3⟩:=dF hvl
    exact⟨x::a,b,by rw[e1];rfl,by simp only[Ci,hvo,e2],e3⟩
   ·cases h
  ·cases h
theorem K9 {o:An} {l:List Oper} {l2:List An} (h:Ci P N ops l=some (o::l2)):∃a b,l=a::b∧Ix P N ops a=some o∧Ci P N ops b=some l2:=by
 cases l with
 |nil=>simp[Ci] at h
 |cons x l=>
  unfold Ci at h
  split at h
  ·next vo hvo=>
   split at h
   ·next vl hvl=>
    simp only[Sj,List.cons.injEq] at h
    obtain⟨rfl,rfl⟩:=h
    exact⟨x,l,rfl,hvo,hvl⟩
   ·cases h
  ·cases h
theorem MXL.runs {call:Bn} (hcall:Ed P call) (hkeep:Jy call) {l l2:List Oper} {vs:List An} (hc:Ci P N ops l=some vs) {fr fr1:Fr} {h h1:Ac} {I:List It} {K:Fr→Ac→List It→Prop}
  (e:Cl call vs fr h=some (fr1,h1)) (hg:M6 h h1) (m:MXL P N ops l2 fr1 h1 I K):MXL P N ops (l++l2) fr h I K:=fun O φ w a Q r hQ=>
 dE hcall hkeep l vs hc r.fr r.sim r.clean e fun a' w' c2 ⟨φ1,s1,e1,f1⟩=>m O φ1 w' a' Q (r.step f1 s1 c2 e1 hg) hQ
theorem MX.drop {c:Code} {fr:Fr} {h:Ac} {I I':List It} {Q:MQ} (hs:I'.Sublist I) (m:MX P N c fr h I' Q):MX P N c fr h I Q:=fun O φ w a r=>
 m O φ w a { r with its:=fun i hi=>r.its i (hs.subset hi),new:=fun i hi=>r.new i (hs.subset hi),dis:=r.dis.sublist hs }
theorem FH {c:Code} {x y:Ay} (h:A2 P N c=some (.seq x y)):∃a b,c=.seq a b∧A2 P N a=some x∧A2 P N b=some y:=by
 cases c with
 |seq a b=>
  simp only[A2] at h
  split at h
  ·next h1 h2=>cases h;exact⟨a,b,rfl,h1,h2⟩
  ·cases h
 |region id ops d=>cases d with
  |false=>obtain⟨_,_,e⟩:=Dx h;cases e
  |true=>obtain⟨_,e⟩:=Fa h;cases e
 |cond a b c=>simp only[A2] at h;split at h<;>cases h
 |block id a=>simp only[A2] at h;cases hh:A2 P N a<;>simp[hh] at h
 |loop a=>simp only[A2] at h;cases hh:A2 P N a<;>simp[hh] at h
 |_=>simp[A2] at h
theorem zK {c:Code} {v:VX} {x y:Ay} (h:A2 P N c=some (.cond v x y)):∃o a b,c=.cond o a b∧cX o=some v∧A2 P N a=some x∧A2 P N b=some y:=by
 cases c with
 |cond o a b=>
  simp only[A2] at h
  split at h
  ·next h0 h1 h2=>cases h;exact⟨o,a,b,rfl,h0,h1,h2⟩
  ·cases h
 |seq a b=>simp only[A2] at h;split at h<;>cases h
 |region id ops d=>cases d with
  |false=>obtain⟨_,_,e⟩:=Dx h;cases e
  |true=>obtain⟨_,e⟩:=Fa h;cases e
 |block id a=>simp only[A2] at h;cases hh:A2 P N a<;>simp[hh] at h
 |loop a=>simp only[A2] at h;cases hh:A2 P N a<;>simp[hh] at h
 |_=>simp[A2] at h
theorem tE {c:Code} {id:Nat} {x:Ay} (h:A2 P N c=some (.block id x)):∃a,c=.block id a∧A2 P N a=some x:=by
 cases c with
 |block id a=>simp only[A2] at h;cases hh:A2 P N a<;>simp[hh] at h;obtain⟨rfl,rfl⟩:=h;exact⟨a,rfl,hh⟩
 |seq a b=>simp only[A2] at h;split at h<;>cases h
 |region id ops d=>cases d with
  |false=>obtain⟨_,_,e⟩:=Dx h;cases e
  |true=>obtain⟨_,e⟩:=Fa h;cases e
 |cond a b c=>simp only[A2] at h;split at h<;>cases h
 |loop a=>simp only[A2] at h;cases hh:A2 P N a<;>simp[hh] at h
 |_=>simp[A2] at h
theorem zL {c:Code} {x:Ay} (h:A2 P N c=some (.loop x)):∃a,c=.loop a∧A2 P N a=some x:=by
 cases c with
 |loop a=>simp only[A2] at h;cases hh:A2 P N a<;>simp[hh] at h;subst h;exact⟨a,rfl,hh⟩
 |seq a b=>simp only[A2] at h;split at h<;>cases h
 |region id ops d=>cases d with
  |false=>obtain⟨_,_,e⟩:=Dx h;cases e
  |true=>obtain⟨_,e⟩:=Fa h;cases e
 |cond a b c=>simp only[A2] at h;split at h<;>cases h
 |block id a=>simp only[A2] at h;cases hh:A2 P N a<;>simp[hh] at h
 |_=>simp[A2] at h
theorem pE {c:Code} {l:List An} (h:A2 P N c=some (.region l)):∃id ops,c=.region id ops false∧Ci P N ops ops.toList=some l:=by
 cases c with
 |region id ops d=>cases d with
  |false=>obtain⟨vs,e1,e⟩:=Dx h;cases e;exact⟨id,ops,rfl,e1⟩
  |true=>obtain⟨_,e⟩:=Fa h;cases e
 |seq a b=>simp only[A2] at h;split at h<;>cases h
 |cond a b c=>simp only[A2] at h;split at h<;>cases h
 |block id a=>simp only[A2] at h;cases hh:A2 P N a<;>simp[hh] at h
 |loop a=>simp only[A2] at h;cases hh:A2 P N a<;>simp[hh] at h
 |_=>simp[A2] at h
theorem tF {c:Code} {l:List DOp} (h:A2 P N c=some (.drawn l)):∃id ops,c=.region id ops true∧H6 P N ops true=some (.drawn l):=by
 cases c with
 |region id ops d=>cases d with
  |false=>obtain⟨vs,e1,e⟩:=Dx h;cases e
  |true=>exact⟨id,ops,rfl,h⟩
 |seq a b=>simp only[A2] at h;split at h<;>cases h
 |cond a b c=>simp only[A2] at h;split at h<;>cases h
 |block id a=>simp only[A2] at h;cases hh:A2 P N a<;>simp[hh] at h
 |loop a=>simp only[A2] at h;cases hh:A2 P N a<;>simp[hh] at h
 |_=>simp[A2] at h
end
end Go.Vm
end
section
noncomputable section
namespace Go.Vm
open Key (kn)
def Uz (h:Ac) (d:DOp) (fr:Fr) (v:AV):Prop:=∃o args,d.o.act=.op o∧o.kind=.quiet∧d.o.guard=none∧Cn fr d.o.args=some args∧o.run args h=some (v,h)
def Rr (h:Ac):List DOp→Fr→List AV→Fr→Prop
 |[],fr,[],fr'=>fr=fr'
 |d::l,fr,v::vs,fr'=>Uz h d fr v∧Rr h l (Bp fr d.o.dst v) vs fr'
 |_,_,_,_=>False
def QE (h:Ac):List DOp→Fr→List AV→Prop
 |[],_,[]=>True
 |d::l,fr,v::vs=>(d.chk=0→Uz h d fr v)∧(∃o,d.o.act=.op o∧o.kind=.quiet)∧QE h l (Bp fr d.o.dst v) vs
 |_,_,_=>False
def M7 (h h1:Ac):List DOp→List AV→Fr→List AV→Fr→Prop
 |[],[],fr,[],fr'=>fr=fr'
 |d::l,v0::v0s,fr,v::vs,fr'=>Uz h1 d fr v∧(d.chk=0→v=v0∧Uz h d fr v)∧M7 h h1 l v0s (Bp fr d.o.dst v) vs fr'
 |_,_,_,_,_=>False
def mkE:List Nat→List DOp→List AV→List Ev
 |i::is,d::ds,v::vs=>⟨i,d,v,none⟩::mkE is ds vs
 |_,_,_=>[]
theorem wJ:∀(o1:List Nat) (pre:List DOp) (vp:List AV) {j:Nat} {o2:List Nat} {X:DOp} {post:List DOp} {u:AV} {v0:List AV},o1.length=pre.length→vp.length=pre.length →
  mkE (o1++j::o2) (pre++X::post) (vp++u::v0)=mkE o1 pre vp++⟨j,X,u,none⟩::mkE o2 post v0
 |[],[],[],_,_,_,_,_,_,_,_=>rfl
 |i::is,d::ds,v::vs,j,o2,X,post,u,v0,h1,h2=>by
  simp only[List.length_cons,Nat.add_right_cancel_iff] at h1 h2
  simp only[List.cons_append,mkE,wJ is ds vs h1 h2]
 |[],_::_,_,_,_,_,_,_,_,h,_=>by simp at h
 |_::_,[],_,_,_,_,_,_,_,h,_=>by simp at h
 |_,[],_::_,_,_,_,_,_,_,_,h=>by simp at h
 |_,_::_,[],_,_,_,_,_,_,_,h=>by simp at h
theorem U0:∀(is:List Nat) (ds:List DOp) (vs:List AV),is.length=ds.length→vs.length=ds.length→(mkE is ds vs).map (·.i)=is∧(mkE is ds vs).map (·.d)=ds∧∀x∈mkE is ds vs,x.al=none
 |[],[],[],_,_=>⟨rfl,rfl,by simp[mkE]⟩
 |i::is,d::ds,v::vs,h1,h2=>by
  simp only[List.length_cons,Nat.add_right_cancel_iff] at h1 h2
  obtain⟨e1,e2,e3⟩:=U0 is ds vs h1 h2
  refine⟨by simp[mkE,e1],by simp[mkE,e2],fun x hx=>?_⟩
  rcases List.mem_cons.1 hx with rfl|hx
  ·rfl
  ·exact e3 x hx
 |[],_::_,_,h,_=>by simp at h
 |_::_,[],_,h,_=>by simp at h
 |_,[],_::_,_,h=>by simp at h
 |_,_::_,[],_,h=>by simp at h
theorem Rr.len {h:Ac}:∀{l:List DOp} {fr:Fr} {vs:List AV} {fr':Fr},Rr h l fr vs fr'→vs.length=l.length
 |[],_,[],_,_=>rfl
 |_::_,_,_::_,_,e=>by simp[e.2.len]
 |[],_,_::_,_,e=>e.elim
 |_::_,_,[],_,e=>e.elim
theorem QE.len {h:Ac}:∀{l:List DOp} {fr:Fr} {vs:List AV},QE h l fr vs→vs.length=l.length
 |[],_,[],_=>rfl
 |_::_,_,_::_,e=>by simp[e.2.2.len]
 |[],_,_::_,e=>e.elim
 |_::_,_,[],e=>e.elim
theorem M7.len {h h1:Ac}:∀{l:List DOp} {v0:List AV} {fr:Fr} {vs:List AV} {fr':Fr},M7 h h1 l v0 fr vs fr'→vs.length=l.length∧v0.length=l.length
 |[],[],_,[],_,_=>⟨rfl,rfl⟩
 |_::_,_::_,_,_::_,_,e=>by have:=e.2.2.len;simp[this.1,this.2]
 |[],[],_,_::_,_,e=>e.elim
 |[],_::_,_,_,_,e=>e.elim
 |_::_,[],_,_,_,e=>e.elim
 |_::_,_::_,_,[],_,e=>e.elim
theorem Rr.at {h:Ac}:∀{is:List Nat} {l:List DOp} {fr:Fr} {vs:List AV} {fr':Fr},is.length=l.length→Rr h l fr vs fr'→pFr (mkE is l vs) fr=fr'∧∀p x q,mkE is l vs=p++x::q→Uz h x.d (pFr p fr) x.v
 |[],[],_,[],_,_,e=>⟨e,fun p x q hh=>by simp[mkE] at hh⟩
 |i::is,d::l,fr,v::vs,fr',hl,e=>by
  obtain⟨e1,e2⟩:=e
  simp only[List.length_cons,Nat.add_right_cancel_iff] at hl
  obtain⟨i1,i2⟩:=e2.at hl
  refine⟨i1,fun p x q hh=>?_⟩
  cases p with
  |nil=>simp only[mkE,List.nil_append,List.cons.injEq] at hh;rw[←hh.1];exact e1
  |cons y p=>simp only[mkE,List.cons_append,List.cons.injEq] at hh;rw[←hh.1];exact i2 p x q hh.2
 |_,[],_,_::_,_,_,e=>e.elim
 |_,_::_,_,[],_,_,e=>e.elim
 |_::_,[],_,[],_,h,_=>by simp at h
 |[],_::_,_,_::_,_,h,_=>by simp at h
theorem QE.at {h:Ac}:∀{is:List Nat} {l:List DOp} {fr:Fr} {vs:List AV},is.length=l.length→QE h l fr vs→∀p x q,mkE is l vs=p++x::q→(∃o,x.d.o.act=.op o∧o.kind=.quiet)∧(x.d.chk=0→Uz h x.d (pFr p fr) x.v)
 |[],[],_,[],_,e=>fun p x q hh=>by simp[mkE] at hh
 |i::is,d::l,fr,v::vs,hl,e=>by
  obtain⟨e1,e3,e2⟩:=e
  simp only[List.length_cons,Nat.add_right_cancel_iff] at hl
  intro p x q hh
  cases p with
  |nil=>simp only[mkE,List.nil_append,List.cons.injEq] at hh;rw[←hh.1];exact⟨e3,e1⟩
  |cons y p=>simp only[mkE,List.cons_append,List.cons.injEq] at hh;rw[←hh.1];exact e2.at hl p x q hh.2
 |_,[],_,_::_,_,e=>e.elim
 |_,_::_,_,[],_,e=>e.elim
 |_::_,[],_,[],h,_=>by simp at h
 |[],_::_,_,_::_,h,_=>by simp at h
theorem M7.run {h h1:Ac}:∀{is:List Nat} {l:List DOp} {v0:List AV} {fr:Fr} {vs:List AV} {fr':Fr} {r:Key},is.length=l.length→(∀d∈l,d.chk≤1)→M7 h h1 l v0 fr vs fr'→Run (fun _ _ _=>none) h1.next h1.next (mkE is l vs) r [h] fr h1 fr' h1
 |[],[],[],_,[],_,_,_,_,e=>⟨e,rfl⟩
 |i::is,d::l,v0::v0s,fr,v::vs,fr',r,hl,hd,e=>by
  obtain⟨⟨o,args,e1,e2,e3,e4,e5⟩,e6,e7⟩:=e
  simp only[List.length_cons,Nat.add_right_cancel_iff] at hl
  have hk:d.o.act.kind=.quiet:=by rw[e1];exact e2
  refine⟨h1,.inl ⟨by simp only[e3];rfl,args,e4,?_⟩,?_⟩
  ·simp only[hk]
   refine⟨o,e1,trivial,e5,?_,?_,trivial⟩
   ·unfold outside
    split
    ·next b _=>
     by_cases hb:b.toNat<h1.next.toNat
     ·simp[Nat.blt_eq,hb]
     ·simp[Nat.ble_eq,Nat.le_of_not_lt hb]
    ·rfl
   ·by_cases hc:d.chk=0
    ·obtain⟨_,o',args',f1,_,_,f4,f5⟩:=e6 hc
     rw[e1] at f1;cases f1
     rw[e4] at f4;cases f4
     simp[hc,Hf,f5,AV.beq]
    ·have:=hd d (by simp)
     have:d.chk=1:=by omega
     simp[this,Hf]
  ·have:=M7.run (r:=Ft ⟨i,d,v,none⟩ r) hl (fun d hd'=>hd d (by simp[hd'])) e7
   simpa[Dm,hk] using this
 |[],[],[],_,_::_,_,_,_,_,e=>e.elim
 |_,[],_::_,_,_,_,_,_,_,e=>e.elim
 |_,_::_,[],_,_,_,_,_,_,e=>e.elim
 |_,_::_,_::_,_,[],_,_,_,_,e=>e.elim
 |_::_,[],[],_,[],_,_,h,_,_=>by simp at h
 |[],_::_,_,_,_::_,_,_,h,_,_=>by simp at h
theorem M7.early {h h1:Ac} {L L':Nat→Bool}:∀{is:List Nat} {l:List DOp} {v0:List AV} {fr:Fr} {vs:List AV} {fr':Fr},is.length=l.length→M7 h h1 l v0 fr vs fr'→(∀x∈mkE is l v0,L x.i=true→x.d.chk=0)→(∀i∈is,L' i=L i)→∀g,eFr L' (mkE is l vs) g=eFr L (mkE is l v0) g
 |[],[],[],_,[],_,_,_,_,_,g=>rfl
 |i::is,d::l,v0::v0s,fr,v::vs,fr',hl,e,hc,hL,g=>by
  obtain⟨_,e6,e7⟩:=e
  simp only[List.length_cons,Nat.add_right_cancel_iff] at hl
  simp only[mkE,eFr,hL i (by simp)]
  rw[M7.early hl e7 (fun x hx=>hc x (by simp[mkE,hx])) (fun i hi=>hL i (by simp[hi]))]
  cases hi:L i with
  |false=>rfl
  |true=>rw[(e6 (hc ⟨i,d,v0,none⟩ (by simp[mkE]) hi)).1]
 |[],[],[],_,_::_,_,_,e,_,_,_=>e.elim
 |_,[],_::_,_,_,_,_,e,_,_,_=>e.elim
 |_,_::_,[],_,_,_,_,e,_,_,_=>e.elim
 |_,_::_,_::_,_,[],_,_,e,_,_,_=>e.elim
 |_::_,[],[],_,[],_,h,_,_,_,_=>by simp at h
 |[],_::_,_,_,_::_,_,h,_,_,_,_=>by simp at h
section
variable {P:Program} {N:Nat} {ops:Array Oper} {vs:List An}
theorem wK:Ed P fun _ _ _=>none:=⟨fun _ _ _ _ h=>(by cases h),fun _ _ _ _ _ _ h=>(by cases h)⟩
theorem zM:Cb fun _ _ _=>none:=fun _ _ _ _ _ h=>(by cases h)
theorem zN:Cy fun _ _ _=>none:=fun _ _ _ _ _ h=>(by cases h)
structure U9 (P:Program) (N:Nat) (ops:Array Oper) (vs:List An) (e1 e2:List Ev) (x0:Ev) (fr fr1:Fr) (h:Ac):Prop where
 reg:Reg P N ops vs
 idx:∀x∈e1++x0::e2,vs[x.i]?=some x.d.o∧x.d.chk=Zu (B9 ops.toList) (C8 vs) x.i
 pw:(e1++x0::e2).Pairwise fun x y=>x.i≠y.i∧before (B9 ops.toList) y.i x.i=false∧(y.d.o.act.kind=.effect→before (B9 ops.toList) x.i y.i=true)
 all:∀i,i<vs.length→∃x∈e1++x0::e2,x.i=i
 al:∀x∈e1++x0::e2,x.al=none
 eff:x0.d.o.act.kind=.effect
 quiet:∀x∈e1++e2,x.d.o.act.kind≠.effect
 fr1:pFr e1 fr=fr1
 run:∀p x q,e1++x0::e2=p++x::q→x.i≠x0.i→x.d.chk=0→Uz h x.d (pFr p fr) x.v
section
variable {e1 e2:List Ev} {x0:Ev} {fr fr1:Fr} {h:Ac}
theorem U9.FI (R:U9 P N ops vs e1 e2 x0 fr fr1 h):∀j∈C8 vs,j=x0.i:=fun j hj=>by
 obtain⟨o,ho,hk⟩:=Ny.1 hj
 obtain⟨x,hx,rfl⟩:=R.all j (Gi.1 ho).1
 rw[(R.idx x hx).1] at ho;cases ho
 rcases List.mem_append.1 hx with hx|hx
 ·exact absurd hk (R.quiet x (by simp[hx]))
 ·rcases List.mem_cons.1 hx with rfl|hx
  ·rfl
  ·exact absurd hk (R.quiet x (by simp[hx]))
theorem U9.rest (R:U9 P N ops vs e1 e2 x0 fr fr1 h) (hcl:Clean h):Rest ops vs h.next h.next (e1++x0::e2) [] h where
 idx:=R.idx
 pw:=R.pw
 Ai:=by
  have:(C8 vs).filter (fun j=>decide (∀x∈e1++x0::e2,x.i≠j))=[]:=by
   refine List.filter_eq_nil_iff.2 fun j hj=>?_
   simp only[decide_eq_true_eq]
   exact fun hh=>hh x0 (by simp) (R.FI j hj).symm
  rw[this];simp
 kpw:=List.pairwise_of_forall_mem_list fun x hx y hy k b k' b' ha=>by rw[R.al x hx] at ha;cases ha
 key x hx k b ha:=by rw[R.al x hx] at ha;cases ha
 hi:=Rl
 clean:=hcl
theorem U9.XL (R:U9 P N ops vs e1 e2 x0 fr fr1 h) {L:Nat→Bool} (hu:Up ops vs (e1++x0::e2) L) (hL:L x0.i=false) {x:Ev} (hx:x∈e1++x0::e2) {o:Oper} (ho:ops[x.i]?=some o) (hd:∀k∈direct o,L k=true):x.d.chk=0:=by
 rw[(R.idx x hx).2]
 unfold Zu
 have:(C8 vs).filter (fun j=>before (B9 ops.toList) j x.i)=[]:=by
  refine List.filter_eq_nil_iff.2 fun j hj hb=>?_
  have:=hu.closed.ready R.reg.down (o:=o) (by simpa using ho) hd hb
  rw[R.FI j hj,hL] at this;cases this
 rw[this];rfl
theorem tG (R:U9 P N ops vs e1 e2 x0 fr fr1 h) {L:Nat→Bool} (hu:Up ops vs (e1++x0::e2) L) (hL:L x0.i=false) {x:Ev} (hx:x∈e1++x0::e2) (hl:L x.i=true):x.d.chk=0:=by
 rw[(R.idx x hx).2]
 unfold Zu
 have:(C8 vs).filter (fun j=>before (B9 ops.toList) j x.i)=[]:=by
  refine List.filter_eq_nil_iff.2 fun j hj hb=>?_
  have:=hu.closed.anc R.reg.down (x.i+1) x.i (by omega) hb hl
  rw[R.FI j hj,hL] at this;cases this
 rw[this];rfl
theorem FJ (R:U9 P N ops vs e1 e2 x0 fr fr1 h) (hop:∀p,x0.d.o.act≠.op p) (hgd:x0.d.o.guard=none) {args:List AV} (hargs:Cn fr1 x0.d.o.args=some args) {f:Nat} {us:List AV} (hr:x0.d.o.act.run (Uy f us) args h=some (.unit,h)) {RR:AV→Ac→Prop} (m:MC P f us h RR)
  {K:Fr→Ac→Prop} {is:List Nat} {post:List DOp} {v0:List AV} (he2:e2=mkE is post v0) (hlen:is.length=post.length)
  (hR:∀v h1,RR v h1→∃ws fr',M7 h h1 post v0 (Bp fr1 x0.d.o.dst v) ws fr'∧K fr' h1) {O:Org} {I:List It} {Q:Exit→Act→World→Prop} (hQ:∀φ' fr' h' a' w',Gm O N φ' fr' h' I a' w'→K fr' h'→Q .normal a' w') :
  ∀(fuel:Nat) (listed:Array Bool) (φ:Emb) (a:Act) (w:World),listed.size=ops.size→Up ops vs (e1++x0::e2) (fun i=>listed.getD i true)→listed.getD x0.i true=false→Gm O N φ (eFr (fun i=>listed.getD i true) (e1++x0::e2) fr) h I a w →
   todo (fun i=>listed.getD i true) (e1++x0::e2)≤fuel→wpAny P .any ops Q fuel listed a w:=by
 have some_ready:∀(listed:Array Bool),listed.size=ops.size→Up ops vs (e1++x0::e2) (fun i=>listed.getD i true)→listed.getD x0.i true=false→Region.ready .any ops listed≠[]:=by
  intro listed hsz hu hL hnil
  have find:∀(l p:List Ev),p++l=e1++x0::e2→(∀y∈p,listed.getD y.i true=true)→False:=by
   intro l
   induction l with
   |nil=>
    intro p hp hall
    have:=hall x0 (by simp only[List.append_nil] at hp;rw[hp];simp)
    rw[hL] at this;cases this
   |cons x q ih=>
    intro p hp hall
    cases hx:listed.getD x.i true with
    |true=>
     refine ih (p++[x]) (by simpa using hp) fun y hy=>?_
     rcases List.mem_append.1 hy with hy|hy
     ·exact hall y hy
     ·rw[List.mem_singleton] at hy;rw[hy];exact hx
    |false=>
     have hxm:x∈e1++x0::e2:=by rw[←hp];simp
     have hix:=(R.idx x hxm).1
     have hlt:x.i<ops.size:=by rw[←R.reg.len];exact(Gi.1 hix).1
     have hmem:x.i∈Region.ready .any ops listed:=by
      rw[mem_ready]
      refine⟨hx,ops[x.i],by simp[hlt],fun e he hb=>?_⟩
      have hdir:=aI he hb
      have hk:e.on<x.i:=R.reg.down x.i _ (by simp) e.on hdir
      have hl:listed.getD e.on true=true:=by
       obtain⟨y,hy,hyi⟩:=R.all e.on (by rw[R.reg.len];omega)
       rw[←hp] at hy
       rcases List.mem_append.1 hy with hy|hy
       ·rw[←hyi];exact hall y hy
       ·rcases List.mem_cons.1 hy with rfl|hy
        ·omega
        ·have hpw:=R.pw
         rw[←hp] at hpw
         obtain⟨_,hb',_⟩:=(List.pairwise_cons.1 (List.pairwise_append.1 hpw).2.1).1 y hy
         have:before (B9 ops.toList) y.i x.i=true:=(Nv R.reg.down (o:=ops[x.i]) (by simp)).2 ⟨e.on,hdir,.inl hyi.symm⟩
         rw[hb'] at this;cases this
      have hlt':e.on<listed.size:=by omega
      simp only[Array.getD,hlt',dif_pos] at hl ⊢
      exact hl
     rw[hnil] at hmem;cases hmem
  exact find (e1++x0::e2) [] rfl (by simp)
 intro fuel
 induction fuel with
 |zero=>
  intro listed φ a w hsz hu hL r hf
  exfalso
  have:x0∈(e1++x0::e2).filter fun x=>!(fun i=>listed.getD i true) x.i:=List.mem_filter.2 ⟨by simp,by simp only[hL];rfl⟩
  rw[List.length_eq_zero_iff.1 (Nat.le_zero.1 hf)] at this
  cases this
 |succ fuel ih=>
  intro listed φ a w hsz hu hL r hf
  refine⟨fun hnil=>absurd hnil (some_ready listed hsz hu hL),fun i hi=>?_⟩
  obtain⟨h1,o,ho,hall⟩:=mem_ready.1 hi
  have hlt:i<ops.size:=(Array.getElem?_eq_some_iff.1 ho).1
  obtain⟨x,hxm,rfl⟩:=R.all i (by rw[R.reg.len];exact hlt)
  have hd:∀k∈direct o,(fun i=>listed.getD i true) k=true:=fun k hk=>by
   obtain⟨e,he,hb,rfl⟩:=Rx hk
   have:=hall e he hb
   rcases Nat.lt_or_ge e.on listed.size with h'|h'
   ·simpa[h'] using this
   ·simp[Array.getElem?_eq_none h'] at this
  have hLu:(fun i=>(listed.setIfInBounds x.i true).getD i true)=upL (fun i=>listed.getD i true) x.i:=by
   funext j
   unfold upL
   by_cases hj:j=x.i
   ·subst hj;simp[hsz,hlt]
   ·rw[if_neg hj,getD_set_ne true (Ne.symm hj)]
  have hsz':(listed.setIfInBounds x.i true).size=ops.size:=by simpa using hsz
  have hrest:=R.rest r.clean
  have htd:=todo_up (L:=fun i=>listed.getD i true) h1 (e1++x0::e2) hxm
  have hpw:=R.pw
  have hpa:=List.pairwise_append.1 hpw
  have hpc:=List.pairwise_cons.1 hpa.2.1
  obtain⟨vo,hvo,hc⟩:=R.reg.ok x.i o ho
  rw[(R.idx x hxm).1] at hvo
  cases hvo
  by_cases hxe:x.i=x0.i
  ·-- the call
   have hx0:x=x0:=by
    rcases List.mem_append.1 hxm with hx|hx
    ·exact absurd hxe (hpa.2.2 x hx x0 (by simp)).1
    ·rcases List.mem_cons.1 hx with rfl|hx
     ·rfl
     ·exact absurd hxe.symm (hpc.1 x hx).1
   subst hx0
   have hpre:∀y∈e1,listed.getD y.i true=true:=fun y hy=>hu.closed.ready R.reg.down (o:=o) (by simpa using ho) hd ((hpa.2.2 y hy x (by simp)).2.2 R.eff)
   have hop':=operands R.reg hrest hu h1 ho hd fr
   have hfetch:Cn (eFr (fun i=>listed.getD i true) (e1++x::e2) fr) x.d.o.args=some args:=by
    rw[Im _ fun k hk=>hop' k (Nx hk),R.fr1];exact hargs
   unfold wpOp
   simp only[ho]
   refine Qe hc hgd r.fr (wI hc hop r.fr r.sim r.clean hfetch hr m fun v v' h2 φ' w' g1 g2 g3 g4 g5 g6=>?_)
   obtain⟨ws,fr',hpost,hK⟩:=hR v h2 g6
   obtain⟨hd1,hdst,_⟩:=Dw hc
   have r2:Gm O N φ' (Bp (eFr (fun i=>listed.getD i true) (e1++x::e2) fr) x.d.o.dst v) h2 I (a.put o.dst v') w':=by
    rw[hdst];exact(r.step (r.fr.mono g2.le) g1 g3 g2 g4).put hd1 g5
   have hne:∀y∈e2,y.i≠x.i:=fun y hy=>Ne.symm (hpc.1 y hy).1
   have his:∀i∈is,i≠x.i:=fun i hi=>by
    have:=(U0 is post v0 hlen hpost.len.2).1
    rw[←he2] at this
    rw[←this] at hi
    obtain⟨y,hy,rfl⟩:=List.mem_map.1 hi
    exact hne y hy
   obtain⟨m1,m2,m3⟩:=U0 is post ws hlen hpost.len.1
   obtain⟨n1,n2,n3⟩:=U0 is post v0 hlen hpost.len.2
   rw[←he2] at n1 n2
   have hfr:eFr (upL (fun i=>listed.getD i true) x.i) (mkE is post ws) (Bp fr1 x.d.o.dst v)=Bp (eFr (fun i=>listed.getD i true) (e1++x::e2) fr) x.d.o.dst v:=by
    rw[hpost.early (L:=fun i=>listed.getD i true) hlen (fun y hy hl=>?_) (fun i hi=>by simp[upL,his i hi]),←he2,T8]
    ·congr 1
     rw[J4]
     simp only[eFr,h1,Fj,if_false]
     congr 1
     rw[←R.fr1]
     clear hr hpost hR r r2 hop' hfetch
     have:∀(l:List Ev) (g:Fr),(∀y∈l,listed.getD y.i true=true)→eFr (fun i=>listed.getD i true) l g=pFr l g:=by
      intro l
      induction l with
      |nil=>intro g _;rfl
      |cons y l ih=>intro g hl;rw[eFr,pFr,if_pos (hl y (by simp))];exact ih _ fun z hz=>hl z (by simp[hz])
     exact(this e1 fr hpre).symm
    ·exact fun y hy _ k e=>R.reg.dst x.i y.i _ _ k (R.idx x hxm).1 (R.idx y (by simp[hy])).1 (Ne.symm (hne y hy)) e
    ·rw[←he2] at hy
     exact tG R hu h1 (by simp[hy]) hl
   have tr:∀y∈mkE is post ws,∃z∈e2,z.i=y.i∧z.d=y.d:=by
    intro y hy
    obtain⟨k,hk,rfl⟩:=List.mem_iff_getElem.1 hy
    have hk2:k<e2.length:=by
     have a1:=congrArg List.length m1
     have a2:=congrArg List.length n1
     simp only[Lm] at a1 a2
     omega
    refine⟨e2[k],List.getElem_mem _,?_,?_⟩
    ·have a1:(List.map (·.i) e2)[k]?=(List.map (·.i) (mkE is post ws))[k]?:=by rw[m1,n1]
     simpa[List.getElem?_map,hk,hk2] using a1
    ·have a1:(List.map (·.d) e2)[k]?=(List.map (·.d) (mkE is post ws))[k]?:=by rw[m2,n2]
     simpa[List.getElem?_map,hk,hk2] using a1
   have hrel:(mkE is post ws).Pairwise fun x y=>x.i≠y.i∧before (B9 ops.toList) y.i x.i=false∧(y.d.o.act.kind=.effect→before (B9 ops.toList) x.i y.i=true):=by
    have a1:=hpc.2
    have key:∀(l:List Ev),l.Pairwise (fun x y=>x.i≠y.i∧before (B9 ops.toList) y.i x.i=false∧(y.d.o.act.kind=.effect→before (B9 ops.toList) x.i y.i=true)) ↔
      (List.zip (l.map (·.i)) (l.map (·.d))).Pairwise (fun x y=>x.1≠y.1∧before (B9 ops.toList) y.1 x.1=false∧(y.2.o.act.kind=.effect→before (B9 ops.toList) x.1 y.1=true)):=by
     intro l
     rw[List.zip_map',List.pairwise_map]
    rw[key,m1,m2]
    rw[key,n1,n2] at a1
    exact a1
   refine eY (lo:=h2.next) (hi:=h2.next) (φ0:=φ') (g0:=h2.get) (w0:=w') (call:=fun _ _ _=>none) wK zM zN R.reg (fr':=fr') (h':=h2) (fun a2 w2 φ2 f2 s2 x2=>hQ φ2 fr' h2 a2 w2 (r2.step f2 s2 r2.clean x2 (M6.refl _)) hK)
    fuel _ (mkE is post ws) h2.next [h] (Bp fr1 x.d.o.dst v) h2 φ' _ w' hsz' ?_ ?_ (hpost.run hlen ?_) ?_ ?_
   ·refine⟨fun y hy=>?_,hrel,?_,List.pairwise_of_forall_mem_list fun y hy z hz k b k' b' ha=>(by rw[m3 y hy] at ha;cases ha),fun y hy k b ha=>(by rw[m3 y hy] at ha;cases ha),Rl,r2.clean⟩
    ·obtain⟨z,hz,z1,z2⟩:=tr y hy
     have:=R.idx z (by simp[hz])
     rw[z1,z2] at this;exact this
    ·have:=H8 (p:=fun j=>decide (∀y∈mkE is post ws,y.i≠j)) (q:=fun _=>false) (c:=x.i) (C8 vs) (Nz vs) fun j hj _ hjc=>absurd (R.FI j hj) hjc
     rw[show(C8 vs).filter (fun _=>false)=[] from List.filter_eq_nil_iff.2 (by simp)] at this
     exact this
   ·rw[hLu]
    refine⟨fun i hi hn=>?_,fun y hy _=>?_,Vx hu.closed ho hd⟩
    ·obtain⟨z,hz,rfl⟩:=R.all i hi
     unfold upL
     split
     ·rfl
     ·next hzx=>
      rcases List.mem_append.1 hz with hz|hz
      ·exact hpre z hz
      ·rcases List.mem_cons.1 hz with rfl|hz
       ·exact absurd rfl hzx
       ·exfalso
        have:z.i∈(mkE is post ws).map (·.i):=by rw[m1,←n1];exact List.mem_map.2 ⟨z,hz,rfl⟩
        obtain⟨y,hy,hyi⟩:=List.mem_map.1 this
        exact hn y hy hyi
    ·obtain⟨z,hz,_,z2⟩:=tr y hy
     rw[←z2];exact R.quiet z (by simp[hz])
   ·intro d hd'
    have:d∈e2.map (·.d):=by rw[n2];exact hd'
    obtain⟨z,hz,rfl⟩:=List.mem_map.1 this
    rw[(R.idx z (by simp[hz])).2]
    unfold Zu
    have t1:=H8 (p:=fun j=>before (B9 ops.toList) j z.i) (q:=fun _=>false) (c:=x.i) (C8 vs) (Nz vs) fun j hj _ hjc=>absurd (R.FI j hj) hjc
    rw[show(C8 vs).filter (fun _=>false)=[] from List.filter_eq_nil_iff.2 (by simp)] at t1
    exact t1
   ·rw[hLu]
    have hall:∀l:List Ev,(∀y∈l,y.al=none)→∀(L:Nat→Bool) (g:Ac),A8 L l g=g:=by
     intro l
     induction l with
     |nil=>intro _ L g;rfl
     |cons y l ih=>
      intro hl L g
      rw[A8]
      have:y.put g=g:=by simp only[Ev.put,hl y (by simp)]
      rw[this]
      split<;>exact ih (fun z hz=>hl z (by simp[hz])) L g
    refine⟨by rw[hfr];exact r2.fr,?_,?_,fun y hy _ k b ha=>by rw[m3 y hy] at ha;cases ha⟩
    ·rw[hall _ m3];exact r2.sim
    ·rw[hall _ m3];exact Ext.refl _ _ _ _
   ·rw[hLu]
    have a1:todo (upL (fun i=>listed.getD i true) x.i) (mkE is post ws)≤todo (upL (fun i=>listed.getD i true) x.i) (e1++x::e2):=by
     unfold todo
     have:∀l:List Ev,(l.filter fun y=>!upL (fun i=>listed.getD i true) x.i y.i).length=((l.map (·.i)).filter fun i=>!upL (fun i=>listed.getD i true) x.i i).length:=by
      intro l
      rw[List.filter_map,Lm];rfl
     rw[this (mkE is post ws),m1,←n1,←this e2,List.filter_append,List.filter_cons,La]
     split<;>simp<;>omega
    omega
  ·-- one that looks
   obtain⟨p,q,hpq⟩:=List.append_of_mem hxm
   have hck:=R.XL hu hL hxm ho hd
   obtain⟨op,az,b1,b2,b3,b4,b5⟩:=R.run p x q hpq hxe hck
   have hkx:x.d.o.act.kind≠.effect:=by rw[b1];show op.kind≠.effect;rw[b2];simp
   have hop':=by
    have:=operands (pre:=p) (post:=q) (x:=x) R.reg (by rw[←hpq];exact hrest) (by rw[←hpq];exact hu) h1 ho hd fr
    exact this
   rw[←hpq] at hop'
   have hfetch:Cn (eFr (fun i=>listed.getD i true) (e1++x0::e2) fr) x.d.o.args=some az:=by
    rw[Im _ fun k hk=>hop' k (Nx hk)];exact b4
   unfold wpOp
   simp only[ho]
   refine Ua (ops:=ops) (call:=fun _ _ _=>none) wK hc (φ:=φ) (h:=h) (h':=h) (nx:=h.next.toNat) (v:=x.v) r.fr r.sim (r.sim.fresh _ (Rl)) (fun hn=>absurd b1 (hn op)) (.inl ⟨by rw[b3];rfl,az,hfetch,by rw[b1];exact b5⟩) ?_
   intro a' w' φ' s1 x1 f1
   have hFr:eFr (upL (fun i=>listed.getD i true) x.i) (e1++x0::e2) fr=Bp (eFr (fun i=>listed.getD i true) (e1++x0::e2) fr) x.d.o.dst x.v:=by
    rw[hpq] at hpw ⊢
    have hpa:=List.pairwise_append.1 hpw
    have hpc:=List.pairwise_cons.1 hpa.2.1
    have hne:∀y∈p++q,y.i≠x.i:=by
     intro y hy
     rcases List.mem_append.1 hy with hy|hy
     ·exact(hpa.2.2 y hy x (by simp)).1
     ·exact Ne.symm (hpc.1 y hy).1
    exact uI h1 hne fun y hy k e=>R.reg.dst x.i y.i _ _ k (R.idx x hxm).1 (R.idx y (by rw[hpq];simp[hy])).1 (Ne.symm (hne y (by simp[hy]))) e
   refine ih _ φ' a' w' hsz' (by rw[hLu];exact hu.up hrest hxm hkx ho hd) ?_ ?_ (by rw[hLu];omega)
   ·rw[getD_set_ne true hxe];exact hL
   ·rw[hLu,hFr]
    exact r.step f1 (s1 _ (Rl) (Rl)) r.clean x1 (M6.refl _)
end
theorem MX.open (hm:P.follows .mixedOrders=true) {id:Nat} {pre post:List DOp} {X:DOp} (hds:H6 P N ops true=some (.drawn (pre++X::post))) (hk:X.o.act.kind=.effect) (hop:∀p,X.o.act≠.op p) (hgd:X.o.guard=none)
  {fr fr1:Fr} {h:Ac} {vp:List AV} (h1:Rr h pre fr vp fr1) {args:List AV} (hargs:Cn fr1 X.o.args=some args) {f:Nat} {us:List AV} (hr:X.o.act.run (Uy f us) args h=some (.unit,h)) {RR:AV→Ac→Prop} (m:MC P f us h RR)
  {v0:List AV} (hE:QE h post (Bp fr1 X.o.dst .unit) v0) {K:Fr→Ac→Prop} (hR:∀v h1,RR v h1→∃ws fr',M7 h h1 post v0 (Bp fr1 X.o.dst v) ws fr'∧K fr' h1) {I:List It} {Q:MQ} (hQ:∀fr' h',K fr' h'→Q .normal fr' h' I) :
  MX P N (.region id ops true) fr h I Q:=fun O φ w a r=>by
 obtain⟨vs,ord,hv,hok,hd⟩:=Rz hds
 obtain⟨hreg,hall,hpw⟩:=BC hv hok
 obtain⟨hlen,hspec⟩:=Pr ord hd
 obtain⟨o1,j,o2,rfl,hl1,hl2⟩:∃o1 j o2,ord=o1++j::o2∧o1.length=pre.length∧o2.length=post.length:=by
  simp only[La,List.length_cons] at hlen
  have hdl:(ord.drop pre.length).length=post.length+1:=by simp;omega
  cases hdr:ord.drop pre.length with
  |nil=>rw[hdr] at hdl;simp at hdl
  |cons j o2=>
   refine⟨ord.take pre.length,j,o2,?_,by simp;omega,?_⟩
   ·rw[←hdr];simp
   ·rw[hdr] at hdl;simpa using hdl
 have hevs:=wJ o1 pre vp (j:=j) (o2:=o2) (X:=X) (post:=post) (u:=.unit) (v0:=v0) hl1 h1.len
 obtain⟨m1,m2,m3⟩:=U0 (o1++j::o2) (pre++X::post) (vp++.unit::v0) hlen (by simp[h1.len,hE.len])
 rw[hevs] at m1 m2 m3
 obtain⟨q1,q2⟩:=h1.at hl1
 have q3:=hE.at (is:=o2) hl2
 have papp:∀(x y:List Ev) (g:Fr),pFr (x++y) g=pFr y (pFr x g):=by
  intro x
  induction x with
  |nil=>intro y g;rfl
  |cons z x ih=>intro y g;exact ih y _
 have R:U9 P N ops vs (mkE o1 pre vp) (mkE o2 post v0) ⟨j,X,.unit,none⟩ fr fr1 h:=by
  refine⟨hreg,hspec _ m1 m2,?_,fun i hi=>?_,m3,hk,fun x hx=>?_,q1,fun p x q hpq hne hc=>?_⟩
  ·rw[←m1,List.pairwise_map] at hpw
   refine List.Pairwise.imp_of_mem (fun{x y} hx hy hxy=>?_) hpw
   refine⟨hxy.1,hxy.2.1,fun he=>hxy.2.2 ?_⟩
   unfold lM
   rw[(hspec _ m1 m2 y hy).1]
   simpa using he
  ·have:=hall i hi
   rw[←m1] at this
   obtain⟨x,hx,e⟩:=List.mem_map.1 this
   exact⟨x,hx,e⟩
  ·rcases List.mem_append.1 hx with hx|hx
   ·obtain⟨p,q,hpq⟩:=List.append_of_mem hx
    obtain⟨o,_,e1,e2,_⟩:=q2 p x q hpq
    rw[e1];show o.kind≠.effect;rw[e2];simp
   ·obtain⟨p,q,hpq⟩:=List.append_of_mem hx
    obtain⟨⟨o,e1,e2⟩,_⟩:=q3 p x q hpq
    rw[e1];show o.kind≠.effect;rw[e2];simp
  ·rcases List.append_eq_append_iff.1 hpq with⟨c,hc1,hc2⟩|⟨c,hc1,hc2⟩
   ·cases c with
    |nil=>
     simp only[List.nil_append,List.cons.injEq] at hc2
     rw[←hc2.1] at hne;exact absurd rfl hne
    |cons y c=>
     simp only[List.cons_append,List.cons.injEq] at hc2
     obtain⟨rfl,hc2⟩:=hc2
     rw[hc1,papp,q1]
     exact(q3 c x q hc2).2 hc
   ·cases c with
    |nil=>
     simp only[List.nil_append,List.cons.injEq] at hc2
     rw[hc2.1] at hne;exact absurd rfl hne
    |cons y c=>
     simp only[List.cons_append,List.cons.injEq] at hc2
     obtain⟨rfl,_⟩:=hc2
     exact q2 p _ c hc1
 refine wp_region_any hm ?_
 have hno:∀x∈mkE o1 pre vp++⟨j,X,.unit,none⟩::mkE o2 post v0,(Array.replicate ops.size false).getD x.i true=false:=fun x hx=>by
  have:x.i<vs.length:=(Gi.1 (hspec _ m1 m2 x hx).1).1
  rw[hreg.len] at this
  simp[this]
 refine FJ R hop hgd hargs hr m rfl hl2 hR (O:=O) (I:=I) (fun φ' fr' h' a' w' r' k=>⟨.normal,fr',h',I,φ',trivial,r',hQ fr' h' k⟩) ops.size _ φ a _ (by simp) ⟨fun i hi hn=>?_,fun x hx hl=>?_,fun k o ho hl=>?_⟩ (hno ⟨j,X,.unit,none⟩ (by simp)) ?_ ?_
 ·obtain⟨x,hx,hxi⟩:=R.all i hi
  exact absurd hxi (hn x hx)
 ·rw[hno x hx] at hl;cases hl
 ·have hlt:k<ops.size:=by simpa using(Gi.1 ho).1
  simp[hlt] at hl
 ·rw[aK _ _ hno]
  exact r.world rfl rfl rfl
 ·unfold todo
  refine Nat.le_trans (List.length_filter_le _ _) ?_
  have g1:(mkE o1 pre vp++⟨j,X,.unit,none⟩::mkE o2 post v0).length=(o1++j::o2).length:=by rw[←m1];simp
  rw[g1]
  refine Gh ops.size _ (hpw.imp fun h=>h.1) fun i hi=>?_
  rw[←m1] at hi
  obtain⟨x,hx,rfl⟩:=List.mem_map.1 hi
  rw[←hreg.len]
  exact(Gi.1 (hspec _ m1 m2 x hx).1).1
end
end Go.Vm
end
section
noncomputable section
namespace Go.Pv
open Go.Vm
open Go.Vm.Key (kn)
structure PF (P:Program) (F:A4):Prop where
 mix:P.follows .mixedOrders=true
 fs:∀f vf,F f=some vf→Fq P f=some vf
theorem G5 (P:Program):aP P noO where
 call:=⟨fun f args h r e=>(by cases e),fun f args h v h' _ e=>(by cases e)⟩
 nice f g e:=by cases e
 Vy f g e:=by cases e
structure PIt where
 k:Key
 ks:List PV
 vs:List PV
 seen:List Nat
structure ItR (Z:ZM) (p:Ren) (x:PIt) (i:It):Prop where
 k:p x.k=some i.b
 m:Aj Z (.mp x.ks x.vs) (.map i.mp)
 n:i.n=x.ks.length
 s:i.seen=x.seen
theorem ItR.mono {Z Z':ZM} {p p':Ren} (hz:ZLe Z Z') (hp:PLe p p') {x:PIt} {i:It} (h:ItR Z p x i):ItR Z' p' x i:=⟨hp _ _ h.k,h.m.mono hz,h.n,h.s⟩
theorem kU {s s':Sta} (hs:Good s) (hs':Good s') (e:Ba s.g.next.toNat s.h.next.toNat s s'):M6 s.h s'.h:=fun b hb hn=>by
 by_cases hp:∃k,s.p k=some b
 ·obtain⟨k,hk⟩:=hp
  cases hg:s.g.get k with
  |some x=>
   obtain⟨b',y,h1,h2,_⟩:=hs.blk k x hg
   rw[hk] at h1;cases h1
   rw[hn] at h2;cases h2
  |none=>exact hs'.dead k b (e.ple k b hk) (e.gone k b hk hg)
 ·rw[e.frame b hb fun k hk=>hp ⟨k,hk⟩];exact hn
abbrev PQT:=B2→Fm→Ab→List PIt→Prop
def PQ (s0:Sta) (Q:PQT):MQ:=fun x fr' h' IV'=>∃Z' p' g' L' I',Good ⟨Z',p',g',h'⟩∧Ba s0.g.next.toNat s0.h.next.toNat s0 ⟨Z',p',g',h'⟩∧FRL Z' p' L' fr'∧Aa (ItR Z' p') I' IV'∧Q x L' g' I'
def PX (P:Program) (lo:Nat) (cd:Ay) (L:Fm) (g:Ab) (I:List PIt) (Q:PQT):Prop:=∀N c,A2 P N c=some cd→∀s0 s:Sta,Good s0→s0.g.next.toNat≤lo→Good s→Ba s0.g.next.toNat s0.h.next.toNat s0 s→s.g=g →
 ∀fr1:Fr,FRL s.Z s.p L fr1→∀IV,Aa (ItR s.Z s.p) I IV→MX P N c fr1 s.h IV (PQ s0 Q)
def PXL (P:Program) (lo:Nat) (l:List An) (L:Fm) (g:Ab) (I:List PIt) (K:Fm→Ab→List PIt→Prop):Prop:=∀N ops l',Ci P N ops l'=some l→∀s0 s:Sta,Good s0→s0.g.next.toNat≤lo→Good s→Ba s0.g.next.toNat s0.h.next.toNat s0 s→s.g=g →
 ∀fr1:Fr,FRL s.Z s.p L fr1→∀IV,Aa (ItR s.Z s.p) I IV→MXL P N ops l' fr1 s.h IV (PQ s0 (fun _=>K) .normal)
def PXC (P:Program) (f:Nat) (args:List PA) (g:Ab) (R:PA→Ab→Prop):Prop:=∀s:Sta,Good s→s.g=g→∀vs:List AV,Aa (AR s.Z s.p) args vs →
 MC P f vs s.h fun u h'=>∃Z' p' r g',Good ⟨Z',p',g',h'⟩∧Ba s.g.next.toNat s.h.next.toNat s ⟨Z',p',g',h'⟩∧AR Z' p' r u∧R r g'
section
variable {P:Program} {F:A4} {pu:Nat→Bool} {lo:Nat} {L:Fm} {g:Ab} {I:List PIt}
theorem PX.mono {cd:Ay} {Q Q':PQT} (m:PX P lo cd L g I Q) (hq:∀x L g I,Q x L g I→Q' x L g I):PX P lo cd L g I Q':=fun N c hc s0 s h0 hlo hs he hg fr1 hf IV hI=>
 (m N c hc s0 s h0 hlo hs he hg fr1 hf IV hI).mono fun _ _ _ _ ⟨Z',p',g',L',I',h1,h2,h3,h4,h5⟩=>⟨Z',p',g',L',I',h1,h2,h3,h4,hq _ _ _ _ h5⟩
theorem PXC.mono {f:Nat} {args:List PA} {R R':PA→Ab→Prop} (m:PXC P f args g R) (hr:∀r g',R r g'→R' r g'):PXC P f args g R':=fun s hs hg vs hv=>
 (m s hs hg vs hv).mono fun _ _ ⟨Z',p',r,g',h1,h2,h3,h4⟩=>⟨Z',p',r,g',h1,h2,h3,hr _ _ h4⟩
theorem PX.UO (pf:PF P F) {cd:Ay} {Q:PQT} (h:XW F g.next.toNat cd L g fun x L' g'=>Q x L' g' I):PX P lo cd L g I Q:=by
 intro N c hc s0 s h0 hlo hs he hg fr1 hf IV hI
 subst hg
 obtain⟨n,x,fr1',h',Z',p',g',L',e,h2,h3,h4,h5⟩:=h s s hs (Rl) hs (Ba.refl _ _ _) rfl fr1 hf
 exact MX.run pf.mix pf.fs (G5 P) hc e (kU hs h2 h3) ⟨Z',p',g',L',I,h2,he.trans h0.toCg h3 he.nx.1 he.nx.2,h4,Ak hI fun _ _ hi=>hi.mono h3.zle h3.ple,h5⟩
theorem PX.wp (pf:PF P F) {cd:Ay} {Q:PQT} (h:wp F pu g.next.toNat cd L g fun x L' g'=>Q x L' g' I):PX P lo cd L g I Q:=PX.UO pf (P6 cd h)
theorem PX.seq {a b:Ay} {Q:PQT} (m:PX P lo a L g I fun x L g I=>match x with
  |.normal=>PX P lo b L g I Q
  |.exit i=>Q (.exit i) L g I
  |.ret=>Q .ret L g I):PX P lo (.seq a b) L g I Q:=by
 intro N c hc s0 s h0 hlo hs he hg fr1 hf IV hI
 obtain⟨c1,c2,rfl,e1,e2⟩:=FH hc
 refine MX.seq ((m N c1 e1 s0 s h0 hlo hs he hg fr1 hf IV hI).mono ?_)
 rintro x fr h IV' ⟨Z',p',g',L',I',h1,h2,h3,h4,h5⟩
 cases x with
 |normal=>exact h5 N c2 e2 s0 ⟨Z',p',g',h⟩ h0 hlo h1 h2 rfl fr h3 IV' h4
 |exit i=>exact⟨Z',p',g',L',I',h1,h2,h3,h4,h5⟩
 |ret=>exact⟨Z',p',g',L',I',h1,h2,h3,h4,h5⟩
theorem PX.cond {v:VX} {a b:Ay} {Q:PQT} {y:FE} {d:Bool} (hy:Xr L v=some y) (hp:y.pa=.v (.s (.bool d))) (ha:d=true→PX P lo a L g I Q) (hb:d=false→PX P lo b L g I Q):PX P lo (.cond v a b) L g I Q:=by
 intro N c hc s0 s h0 hlo hs he hg fr1 hf IV hI
 obtain⟨o,c1,c2,rfl,e0,e1,e2⟩:=zK hc
 have ev:v.eval fr1=some (.v (.s (.bool d))):=by
  obtain⟨u,h1,hu⟩:=Pz hf (cC (C9 L) hy)
  rw[hp] at hu
  obtain⟨z,rfl,hz⟩:=hu.s
  cases Aj.Ub hz
  exact h1
 refine MX.cond e0 ev ?_
 cases d with
 |true=>exact ha rfl N c1 e1 s0 s h0 hlo hs he hg fr1 hf IV hI
 |false=>exact hb rfl N c2 e2 s0 s h0 hlo hs he hg fr1 hf IV hI
theorem PX.block {id:Nat} {a:Ay} {Q:PQT} (m:PX P lo a L g I fun x L g I=>match x with
  |.exit j=>match Nat.beq j id with
   |true=>Q .normal L g I
   |false=>Q (.exit j) L g I
  |.normal=>Q .normal L g I
  |.ret=>Q .ret L g I):PX P lo (.block id a) L g I Q:=by
 intro N c hc s0 s h0 hlo hs he hg fr1 hf IV hI
 obtain⟨c1,rfl,e1⟩:=tE hc
 refine MX.block ((m N c1 e1 s0 s h0 hlo hs he hg fr1 hf IV hI).mono ?_)
 rintro x fr h IV' ⟨Z',p',g',L',I',h1,h2,h3,h4,h5⟩
 cases x with
 |normal=>exact⟨Z',p',g',L',I',h1,h2,h3,h4,h5⟩
 |exit i=>
  simp only at h5 ⊢
  split at h5
  ·next hb=>rw[if_pos (Nat.eq_of_beq_eq_true hb)];exact⟨Z',p',g',L',I',h1,h2,h3,h4,h5⟩
  ·next hb=>rw[if_neg fun e=>by subst e;rw[Nat.beq_refl] at hb;cases hb];exact⟨Z',p',g',L',I',h1,h2,h3,h4,h5⟩
 |ret=>exact⟨Z',p',g',L',I',h1,h2,h3,h4,h5⟩
def ItN (ρ:Key→Option Key) (x y:PIt):Prop:=ρ x.k=some y.k∧x.ks=y.ks∧x.vs=y.vs∧x.seen=y.seen
theorem ItN.rel {ρ:Key→Option Key} {Z:ZM} {p:Ren}:∀{I2 I1:List PIt} {IV:List It},Aa (ItN ρ) I2 I1→Aa (ItR Z p) I1 IV→Aa (ItR Z (Ren.via ρ p)) I2 IV
 |[],[],[],.nil,.nil=>.nil
 |x::_,y::_,_::_,.cons h1 h2,.cons e1 e2=>by
  obtain⟨a1,a2,a3,a4⟩:=h1
  exact .cons ⟨by rw[Ls a1];exact e1.k,by rw[a2,a3];exact e1.m,by rw[a2];exact e1.n,by rw[a4];exact e1.s⟩ (ItN.rel h2 e2)
theorem PX.trim {cd:Ay} {L2:Fm} {g2:Ab} {I2:List PIt} {Q:PQT} {ρ:Key→Option Key} (t:Trim lo ρ L g L2 g2) (ti:Aa (ItN ρ) I2 I) (h:PX P lo cd L2 g2 I2 Q):PX P lo cd L g I Q:=by
 intro N c hc s0 s h0 hlo hs he hg fr1 hf IV hI
 subst hg
 exact h N c hc s0 ⟨s.Z,Ren.via ρ s.p,g2,s.h⟩ h0 hlo (t.D0 hs) (t.ext hs h0 hlo he) rfl fr1 (t.frl hf) IV (ItN.rel ti hI)
theorem kW {Z:ZM} {p:Ren}:∀{a b:List PIt} {m:List It},Aa (ItR Z p) (a++b) m→∃m1 m2,m=m1++m2∧Aa (ItR Z p) a m1
 |[],_,m,_=>⟨[],m,rfl,.nil⟩
 |x::a,b,_,.cons h1 h2=>by
  obtain⟨m1,m2,e,h3⟩:=kW h2
  exact⟨_::m1,m2,by rw[e];rfl,.cons h1 h3⟩
theorem PX.drop {cd:Ay} {I2:List PIt} {Q:PQT} (h:PX P lo cd L g I Q):PX P lo cd L g (I++I2) Q:=by
 intro N c hc s0 s h0 hlo hs he hg fr1 hf IV hI
 obtain⟨m1,m2,rfl,h1⟩:=kW hI
 exact MX.drop (List.sublist_append_left ..) (h N c hc s0 s h0 hlo hs he hg fr1 hf m1 h1)
theorem PX.A7 {cd:Ay} {Q:PQT} {σ:Type} (m:σ→Nat) (J:σ→Fm) (H:σ→Ab→Prop) (T:σ→List PIt) (s:σ) {ρ:Key→Option Key} {g0:Ab} (t:Trim lo ρ L g (J s) g0) (ti:Aa (ItN ρ) (T s) I) (hH:H s g0)
  (hr:∀s g,H s g→PX P lo cd (J s) g (T s) fun x L1 g1 I1=>match x with
   |.normal=>∃s' ρ g2 Ia Ib,m s'<m s∧Trim lo ρ L1 g1 (J s') g2∧I1=Ia++Ib∧Aa (ItN ρ) (T s') Ia∧H s' g2
   |.exit i=>Q (.exit i) L1 g1 I1
   |.ret=>Q .ret L1 g1 I1):PX P lo (.loop cd) L g I Q:=by
 refine PX.trim t ti ?_
 intro N c hc s0 s1 h0 hlo hs he hg fr1 hf IV hI
 obtain⟨c1,rfl,e1⟩:=zL hc
 subst hg
 refine MX.loop m (fun a fr h IV=>∃Z p g,Good ⟨Z,p,g,h⟩∧Ba s0.g.next.toNat s0.h.next.toNat s0 ⟨Z,p,g,h⟩∧FRL Z p (J a) fr∧(∃Va Vb,IV=Va++Vb∧Aa (ItR Z p) (T a) Va)∧H a g) ?_ (m s+1) s (Nat.lt_succ_self _) fr1 s1.h IV ⟨s1.Z,s1.p,s1.g,hs,he,hf,⟨IV,[],by simp,hI⟩,hH⟩
 rintro a fr h IV ⟨Z,p,g,k1,k2,k3,⟨Va,Vb,rfl,k4⟩,k5⟩
 refine MX.drop (List.sublist_append_left Va Vb) ?_
 refine(hr a g k5 N c1 e1 s0 ⟨Z,p,g,h⟩ h0 hlo k1 k2 rfl fr k3 Va k4).mono ?_
 rintro x fr' h' IV' ⟨Z',p',g',L',I',h1,h2,h3,h4,h5⟩
 cases x with
 |normal=>
  obtain⟨s',ρ,g2,Ia,Ib,a1,a2,rfl,a3,a4⟩:=h5
  obtain⟨m1,m2,rfl,h6⟩:=kW h4
  exact⟨s',a1,Z',Ren.via ρ p',g2,a2.D0 h1,a2.ext h1 h0 hlo h2,a2.frl h3,⟨m1,m2,rfl,ItN.rel a3 h6⟩,a4⟩
 |exit i=>exact⟨Z',p',g',L',I',h1,h2,h3,h4,h5⟩
 |ret=>exact⟨Z',p',g',L',I',h1,h2,h3,h4,h5⟩
theorem PX.region {l:List An} {Q:PQT} (m:PXL P lo l L g I (Q .normal)):PX P lo (.region l) L g I Q:=by
 intro N c hc s0 s h0 hlo hs he hg fr1 hf IV hI
 obtain⟨id,ops,rfl,e⟩:=pE hc
 exact MX.region (m N ops _ e s0 s h0 hlo hs he hg fr1 hf IV hI)
theorem PXL.nil {K:Fm→Ab→List PIt→Prop} (hk:K L g I):PXL P lo [] L g I K:=by
 intro N ops l' hl s0 s h0 hlo hs he hg fr1 hf IV hI
 cases l' with
 |nil=>subst hg;exact MXL.nil ⟨s.Z,s.p,s.g,L,I,hs,he,hf,hI,hk⟩
 |cons o l'=>
  unfold Ci at hl
  split at hl
  ·split at hl<;>cases hl
  ·cases hl
theorem PXL.run (pf:PF P F) {l1 l2:List An} {K:Fm→Ab→List PIt→Prop} (h:wpOps F pu l1 L g fun L' g'=>PXL P lo l2 L' g' I K):PXL P lo (l1++l2) L g I K:=by
 intro N ops l' hl s0 s h0 hlo hs he hg fr1 hf IV hI
 subst hg
 obtain⟨a,b,rfl,e1,e2⟩:=dF hl
 obtain⟨n,fr1',h',Z',p',g',L',e,h2,h3,h4,h5⟩:=Kd l1 h hs rfl hf
 have hE:=Ms (F:=F) (G5 P).nice (G5 P).Vy
 exact MXL.runs (aQ pf.mix pf.fs (G5 P) n) (Mr (J3 (G5 P).Vy (hE n))) e1 e (kU hs h2 h3)
  (h5 N ops b e2 s0 ⟨Z',p',g',h'⟩ h0 hlo h2 (he.trans h0.toCg h3 he.nx.1 he.nx.2) rfl fr1' h4 IV (Ak hI fun _ _ hi=>hi.mono h3.zle h3.ple))
theorem PXL.split (n:Nat) (pf:PF P F) {l:List An} {K:Fm→Ab→List PIt→Prop} (h:wpOps F pu (l.take n) L g fun L' g'=>PXL P lo (l.drop n) L' g' I K):PXL P lo l L g I K:=by
 have:=PXL.run pf h
 rwa [List.take_append_drop] at this
end
end Go.Pv
end
section
noncomputable section
namespace Go.Pv
open Go.Vm
open Go.Vm.Key (kn)
section
variable {P:Program} {F:A4} {pu:Nat→Bool} {lo:Nat} {L:Fm} {g:Ab} {I:List PIt}
theorem pF {Z:ZM} {p:Ren} {fr1:Fr} (hf:FRL Z p L fr1) {xs:List VX} {ys:List FE} (h:Lr L xs=some ys):∃us,Cn fr1 xs=some us∧Aa (AR Z p) (ys.map FE.pa) us:=Hl hf (Q8 (C9 L) h)
theorem PXL.call {d:Option Key} {f:Nat} {xs:List VX} {l:List An} {K:Fm→Ab→List PIt→Prop} {ys:List FE} (hy:Lr L xs=some ys) {R:PA→Ab→Prop} (m:PXC P f (ys.map FE.pa) g R)
  (hk:∀r g',R r g'→Wk g' fun g'=>PXL P lo l (Gd L d (.v r)) g' I K):PXL P lo (⟨d,.call f,xs,none⟩::l) L g I K:=by
 intro N ops l' hl s0 s h0 hlo hs he hg fr1 hf IV hI
 obtain⟨a,b,rfl,e1,e2⟩:=K9 hl
 obtain⟨us,h1,h2⟩:=pF hf hy
 refine MXL.call e1 rfl (fun p h=>by cases h) h1 (f:=f) (vs:=us) (Ta f us s.h) (m s hs hg us h2) ?_
 rintro v h' ⟨Z',p',r,g',k1,k2,k3,k4⟩
 subst hg
 exact Rb (hk r g' k4) N ops b e2 s0 ⟨Z',p',g',h'⟩ h0 hlo k1 (he.trans h0.toCg k2 he.nx.1 he.nx.2) rfl _ (FRL.put (x:=.v r) (hf.mono k2.zle k2.ple) k3 d) IV (Ak hI fun _ _ hi=>hi.mono k2.zle k2.ple)
theorem zO {s:Sta} (hs:Good s):Good ⟨s.Z,fun k=>if k=s.g.next then some s.h.next else s.p k,{ s.g with next:=s.g.next.succ },{ s.h with next:=s.h.next.succ }⟩ ∧
  Ba s.g.next.toNat s.h.next.toNat s ⟨s.Z,fun k=>if k=s.g.next then some s.h.next else s.p k,{ s.g with next:=s.g.next.succ },{ s.h with next:=s.h.next.succ }⟩:=by
 have hn:s.g.next.succ.toNat=s.g.next.toNat+1:=Key.toNat_succ _
 have hm:s.h.next.succ.toNat=s.h.next.toNat+1:=Key.toNat_succ _
 have hp:∀k b,s.p k=some b→(if k=s.g.next then some s.h.next else s.p k)=some b:=fun k b e=>by
  rw[if_neg fun h=>by have:=(hs.pk k b e).1;rw[h] at this;omega];exact e
 have hc:∀k b,(if k=s.g.next then some s.h.next else s.p k)=some b→(k=s.g.next∧b=s.h.next)∨s.p k=some b:=fun k b e=>by
  split at e
  ·next h=>cases e;exact .inl ⟨h,rfl⟩
  ·exact .inr e
 refine⟨⟨⟨fun k k' b e e'=>?_,fun k x hx=>?_,hs.z,fun k b e hx=>?_⟩,⟨fun k b e=>?_,fun b c e=>?_,fun b hb=>hs.top b (by simp only at hb;omega)⟩⟩,⟨⟨by simp only;omega,by simp only;omega⟩,fun _ _ h=>h,hp,fun k b e=>?_,fun b c h=>.inl (by rw[show s.Z b=some c from h];simp),fun _ _ _=>rfl,fun _ _ _ h=>h,fun k x x' h h'=>?_⟩⟩
 ·rcases hc k b e with⟨h1,h2⟩|h1<;>rcases hc k' b e' with⟨h3,h4⟩|h3
  ·rw[h1,h3]
  ·have:=(hs.pk k' b h3).2;rw[h2] at this;omega
  ·have:=(hs.pk k b h1).2;rw[h4] at this;omega
  ·exact hs.inj k k' b h1 h3
 ·obtain⟨b,y,h1,h2,h3⟩:=hs.blk k x hx
  exact⟨b,y,hp k b h1,h2,⟨h3.body.mono (fun _ _ h=>h) hp,fun ho=>⟨(h3.own ho).1,(h3.own ho).2.mono (fun _ _ h=>h) hp⟩,h3.N1,h3.frz⟩⟩
 ·rcases hc k b e with⟨h1,h2⟩|h1
  ·rw[h2];exact hs.top _ (Rl)
  ·exact hs.dead k b h1 hx
 ·rcases hc k b e with⟨h1,h2⟩|h1
  ·rw[h1,h2];simp only;omega
  ·have:=hs.pk k b h1;simp only;omega
 ·have:=hs.zr b c e;simp only;omega
 ·rcases hc k b e with⟨h1,h2⟩|h1
  ·rw[h1,h2];exact .inr ⟨Rl,Rl⟩
  ·exact .inl h1
 ·have h:s.g.get k=some x:=h
  have h':s.g.get k=some x':=h'
  rw[h] at h';cases h'
  exact⟨[],rfl,fun b y _ hy=>⟨y,hy,Iu.refl _ _⟩⟩
theorem tH {s:Sta} (hs:Good s) {ks vs:List PV} {b:Key} (h:Aj s.Z (.mp ks vs) (.map b)):∃(lv:List (CV×CV)) (own:Bool) (anc:List Key),s.h.get b=some ⟨.map lv,own,anc⟩∧lv.length=ks.length∧vs.length=ks.length ∧
  ∀(j:Nat) (key val:PV),ks[j]?=some key→vs[j]?=some val→∃(y z:SV),lv[j]?=some (CV.s y,CV.s z)∧Aj s.Z key y∧Aj s.Z val z:=by
 cases h with
 |mp f1 f2 hn hz h1 h2=>
  obtain⟨⟨body,own,anc⟩,e1,e2⟩:=hs.z b _ hz
  simp only at e2
  subst e2
  refine⟨_,own,anc,e1,by simp,hn,fun j key val e3 e4=>⟨f1 j,f2 j,?_,h1 j _ e3,h2 j _ e4⟩⟩
  have:=(Gi.1 e3).1
  simp[List.getElem?_map,List.getElem?_range this]
theorem RC {Z:ZM} {p:Ren} {ks vs:List PV} {u:AV} (h:AR Z p (.v (.s (.mp ks vs))) u):∃b,u=.v (.s (.map b))∧Aj Z (.mp ks vs) (.map b):=by
 obtain⟨z,rfl,hz⟩:=h.s
 have hz:Aj Z (.mp ks vs) z:=hz
 cases hz with
 |mp f1 f2 hn hz' h1 h2=>exact⟨_,rfl,.mp f1 f2 hn hz' h1 h2⟩
theorem wL {Z:ZM} {p:Ren} {k:Key} {u:AV} (h:AR Z p (.v (.s (.ptr k 0))) u):∃b,p k=some b∧u=.v (.s (.ptr b 0)):=by
 obtain⟨z,rfl,b,h1,rfl⟩:=h.s
 exact⟨b,h1,rfl⟩
theorem PXL.range {d:Option Key} {kx:Key} {l:List An} {K:Fm→Ab→List PIt→Prop} {e:FE} {ks vs:List PV} (hx:look L kx=some e) (he:e.pa=.v (.s (.mp ks vs)))
  (m:PXL P lo l (Gd L d (.v (.v (.s (.ptr g.next 0))))) { g with next:=g.next.succ } (I++[⟨g.next,ks,vs,[]⟩]) K):PXL P lo (⟨d,.op .Hd,[.t kx],none⟩::l) L g I K:=by
 intro N ops l' hl s0 s h0 hlo hs hex hg fr1 hf IV hI
 subst hg
 obtain⟨a,b,rfl,e1,e2⟩:=K9 hl
 obtain⟨u,h1,h2⟩:=hf kx _ (by rw[C9 L kx e hx,he])
 obtain⟨mb,rfl,hq⟩:=RC h2
 obtain⟨lv,own,anc,h3,h4,_⟩:=tH hs hq
 obtain⟨g1,g2⟩:=zO hs
 refine MXL.range e1 rfl h1 h3 ?_
 have hI2:Aa (ItR s.Z fun k=>if k=s.g.next then some s.h.next else s.p k) (I++[⟨s.g.next,ks,vs,[]⟩]) (IV++[⟨s.h.next,mb,lv.length,[]⟩]):=A0 (Ak hI fun _ _ hi=>hi.mono g2.zle g2.ple) (.cons ⟨by simp,hq,h4,rfl⟩ .nil)
 exact m N ops b e2 s0 _ h0 hlo g1 (hex.trans h0.toCg g2 hex.nx.1 hex.nx.2) rfl _ (FRL.put (x:=.v (.v (.s (.ptr s.g.next 0)))) (hf.mono g2.zle g2.ple) (AR.mkS (x:=.ptr s.g.next 0) (z:=.ptr s.h.next 0) ⟨s.h.next,if_pos rfl,rfl⟩) d) _ hI2
theorem gH {Z:ZM} {p:Ren}:∀{I1 I2:List PIt} {i:PIt} {IV:List It},Aa (ItR Z p) (I1++i::I2) IV→∃V1 v V2,IV=V1++v::V2∧Aa (ItR Z p) I1 V1∧ItR Z p i v∧Aa (ItR Z p) I2 V2:=fun h=>N9 h
theorem PXL.next {d:Option Key} {kx:Key} {l:List An} {K:Fm→Ab→List PIt→Prop} {I1 I2:List PIt} {i:PIt} {e:FE} (hx:look L kx=some e) (he:e.pa=.v (.s (.ptr i.k 0)))
  (hno:(∀j,j<i.ks.length→j∈i.seen)→PXL P lo l (Gd L d (.v (.tup [.s (.bool false)]))) g (I1++i::I2) K)
  (hyes:∀(j:Nat) (key val:PV),j∉i.seen→i.ks[j]?=some key→i.vs[j]?=some val→PXL P lo l (Gd L d (.v (.tup [.s (.bool true),.s key,.s val]))) g (I1++{ i with seen:=i.seen++[j] }::I2) K):PXL P lo (⟨d,.op .Md,[.t kx],none⟩::l) L g (I1++i::I2) K:=by
 intro N ops l' hl s0 s h0 hlo hs hex hg fr1 hf IV hI
 subst hg
 obtain⟨a,b,rfl,e1,e2⟩:=K9 hl
 obtain⟨u,h1,h2⟩:=hf kx _ (by rw[C9 L kx e hx,he])
 obtain⟨ib,hp,rfl⟩:=wL h2
 obtain⟨V1,v,V2,rfl,a1,a2,a3⟩:=gH hI
 obtain⟨lv,own,anc,h3,h4,h5,h6⟩:=tH hs a2.m
 have hb:ib=v.b:=by have:=a2.k;rw[hp] at this;exact Option.some.inj this
 subst hb
 refine MXL.next e1 rfl h1 h3 (by rw[h4,a2.n]) (fun hall=>?_) fun k key val hk hns hlk=>?_
 ·exact hno (fun j hj=>by rw[←a2.s];exact hall j (by rw[a2.n];exact hj)) N ops b e2 s0 s h0 hlo hs hex rfl _ (FRL.put (x:=.v (.tup [.s (.bool false)])) hf (AR.mkT (.cons (CR.mkS (Aj.bool _)) .nil)) d) _ (K7 a1 a2 a3)
 ·have hkl:k<i.ks.length:=by rw[←a2.n];exact hk
  have hkv:k<i.vs.length:=by rw[h5];exact hkl
  obtain⟨y,z,c1,c2,c3⟩:=h6 k i.ks[k] i.vs[k] (by simp[hkl]) (by simp[hkv])
  rw[hlk] at c1;cases c1
  exact hyes k _ _ (by rw[←a2.s];exact hns) (by simp[hkl]) (by simp[hkv]) N ops b e2 s0 s h0 hlo hs hex rfl _
   (FRL.put (x:=.v (.tup [.s (.bool true),.s i.ks[k],.s i.vs[k]])) hf (AR.mkT (.cons (CR.mkS (Aj.bool _)) (.cons (CR.mkS c2.v) (.cons (CR.mkS c3.v) .nil)))) d) _ (K7 a1 ⟨a2.k,a2.m,a2.n,by rw[a2.s]⟩ a3)
theorem PXL.entry {d:Option Key} {kx:Key} {l:List An} {K:Fm→Ab→List PIt→Prop} {I1 I2:List PIt} {i:PIt} {e:FE} (hx:look L kx=some e) (he:e.pa=.v (.s (.ptr i.k 0))) {s1:List Nat} {j:Nat} (hs1:i.seen=s1++[j]) {key val:PV} (hk:i.ks[j]?=some key) (hv:i.vs[j]?=some val)
  (m:PXL P lo l (Gd L d (.v (.tup [.s key,.s val]))) g (I1++i::I2) K):PXL P lo (⟨d,.op .He,[.t kx],none⟩::l) L g (I1++i::I2) K:=by
 intro N ops l' hl s0 s h0 hlo hs hex hg fr1 hf IV hI
 subst hg
 obtain⟨a,b,rfl,e1,e2⟩:=K9 hl
 obtain⟨u,h1,h2⟩:=hf kx _ (by rw[C9 L kx e hx,he])
 obtain⟨ib,hp,rfl⟩:=wL h2
 obtain⟨V1,v,V2,rfl,a1,a2,a3⟩:=gH hI
 obtain⟨lv,own,anc,h3,h4,h5,h6⟩:=tH hs a2.m
 have hb:ib=v.b:=by have:=a2.k;rw[hp] at this;exact Option.some.inj this
 subst hb
 obtain⟨y,z,c1,c2,c3⟩:=h6 j key val hk hv
 exact MXL.entry e1 rfl (i:=v) (by simp) h1 h3 (by rw[h4,a2.n]) (by rw[a2.s,hs1]) c1
  (m N ops b e2 s0 s h0 hlo hs hex rfl _ (FRL.put (x:=.v (.tup [.s key,.s val])) hf (AR.mkT (.cons (CR.mkS c2.v) (.cons (CR.mkS c3.v) .nil))) d) _ (K7 a1 a2 a3))
end
end Go.Pv
end
section
noncomputable section
namespace Go.Pv
open Go.Vm
open Go.Vm.Key (kn)
section
variable {P:Program} {F:A4} {pu:Nat→Bool} {lo:Nat} {L:Fm} {g:Ab} {I:List PIt}
theorem PXC.of (pf:PF P F) {f:Nat} {vf:El} (hF:F f=some vf) {args:List PA} {R:PA→Ab→Prop} (h:PX P g.next.toNat vf.body (cD 0 args) g [] fun x L g' _=>match x with
  |.exit _=>False
  |_=>match Sd L g' vf.results with
   |some l=>R (Cv l) g'
   |none=>False):PXC P f args g R:=by
 intro s hs hg vs hv
 subst hg
 refine MC.of pf.fs hF fun N c hc=>(h N c hc s s hs (Rl) hs (Ba.refl _ _ _) rfl _ (nZ hv) [] .nil).mono ?_
 rintro x fr h' IV ⟨Z',p',g',L',I',h1,h2,h3,h4,h5⟩
 have fin:(match Sd L' g' vf.results with
   |some l=>R (Cv l) g'
   |none=>False)→∃l,D5 fr h' vf.results=some l∧∃Z' p' r g',Good ⟨Z',p',g',h'⟩∧Ba s.g.next.toNat s.h.next.toNat s ⟨Z',p',g',h'⟩∧AR Z' p' r (Fh l)∧R r g':=by
  intro hr
  split at hr
  ·next l hl=>
   obtain⟨us,h6,h7⟩:=Ky h1.toCg h3 (cE hl)
   exact⟨us,h6,Z',p',_,g',h1,h2,N3 h7,hr⟩
  ·exact hr.elim
 cases x with
 |exit i=>exact h5.elim
 |normal=>exact⟨fun _ e=>(by cases e),fin h5⟩
 |ret=>exact⟨fun _ e=>(by cases e),fin h5⟩
theorem PXC.run (pf:PF P F) {f:Nat} {args:List PA} {R:PA→Ab→Prop} (h:XC F f args g R):PXC P f args g R:=by
 intro s hs hg vs hv
 subst hg
 obtain⟨n,u,h',Z',p',r,g',e,h2,h3,h4,h5⟩:=h s hs rfl vs hv
 have hE:=Ms (F:=F) (G5 P).nice (G5 P).Vy
 have hc:=aQ pf.mix pf.fs (G5 P) n
 refine⟨hc.dom _ _ _ _ e,fun hcl φ w us sm ha=>Calls.mono (hc.run _ _ _ _ _ hcl e φ w us sm ha) ?_⟩
 rintro ex w' ⟨v',rfl,φ',g1,g2,g3⟩
 exact⟨v',u,h',φ',rfl,g1,g2,J3 (G5 P).Vy (hE n) _ _ _ _ _ e hcl,kU hs h2 h3,g3,Z',p',r,g',h2,h3,h4,h5⟩
theorem PXC.alone (pf:PF P F) {f:Nat} {args:List PA} {r:PA} (h:XC F f args g fun r' g'=>r'=r∧g'=g):PXC P f args g fun r' g'=>r'=r∧g'=g:=PXC.run pf h
theorem PXC.sub {f:Nat} {args argc:List PA} {gc:Ab} {ρ:Key→Option Key} {R Rc:PA→Ab→Prop} (t:Trim 0 ρ [] g [] gc) (ha:Aa (RnA ρ) argc args) (h:PXC P f argc gc Rc)
  (hR:∀rc gc',Rc rc gc'→∃μ r g2,EE ρ μ g gc g2 gc'∧RnA μ r rc∧R r g2):PXC P f args g R:=by
 intro s hs hg vs hv
 refine(h _ (oK t hs hg) rfl vs (cP ha hv)).mono ?_
 rintro u h' ⟨Z',pc,rc,gc',h2,h3,h4,h5⟩
 obtain⟨μ,r,g2,B,hr,hRr⟩:=hR rc gc' h5
 obtain⟨p2,k1,k2,k3⟩:=oL t hs hg h2 h3 h4 B hr
 exact⟨Z',p2,r,g2,k1,k2,k3,hRr⟩
theorem PXC.Be {f:Nat} {args argc:List PA} {R Rc:PA→Ab→Prop} {l:List (Key×Ap)} {nx:Key} (r:List (Key×Key)) (h:PXC P f argc (mkH l nx) Rc) (hn:D3 0 nx.toNat l r [] []=true) (hlow:sP g.next.toNat r=true)
  (hb:Ou (rho 0 r) g l) (ha:Aa (RnA (rho 0 r)) argc args)
  (hR:∀rc gc',Rc rc gc'→∃nw nx2 xs ys r2,K5 g.next.toNat nx.toNat nx2.toNat nw [] []=true∧g.next.toNat≤nx2.toNat∧M4 (muR r nw) g gc' l r xs∧oM (muR r nw) gc' nw ys∧RnA (muR r nw) r2 rc∧Wk ⟨S7 (Wi g.mem nw ys) r xs,nx2⟩ (R r2)):PXC P f args g R:=
 PXC.sub (EG hn hb) ha h fun rc gc' hrc=>by
  obtain⟨nw,nx2,xs,ys,r2,h1,h2,h3,h4,h5,h6⟩:=hR rc gc' hrc
  exact⟨muR r nw,r2,_,EH hn hlow h1 h2 h3 h4,h5,Rb h6⟩
theorem wM {Z:ZM} {p:Ren}:∀{ks vs:List PV} {lv:List (CV×CV)},vs.length=ks.length→(∀x∈ks,Ae x)→(∀x∈vs,Ae x)→Aa (fun x y=>CR Z p x.1 y.1∧CR Z p x.2 y.2) (mpE ks vs) lv →
  ∃f1 f2:Nat→SV,lv=(List.range ks.length).map (fun i=>(CV.s (f1 i),CV.s (f2 i)))∧(∀(i:Nat) (x:PV),ks[i]?=some x→Aj Z x (f1 i))∧∀(i:Nat) (x:PV),vs[i]?=some x→Aj Z x (f2 i)
 |[],[],lv,_,_,_,h=>by cases h;exact⟨fun _=>.Eb,fun _=>.Eb,rfl,by simp,by simp⟩
 |k::ks,v::vs,lv,hn,h1,h2,h=>by
  cases h with
  |cons a b=>
   rename_i y m
   obtain⟨y1,y2⟩:=y
   obtain⟨f1,f2,e1,e2,e3⟩:=wM (by simpa using hn) (fun x hx=>h1 x (by simp[hx])) (fun x hx=>h2 x (by simp[hx])) b
   have nk:∀{x:PV},Ae x→∀{c:CV},CR Z p (.s x) c→∃s,c=.s s∧Aj Z x s:=fun{x} hx {c} hc=>by
    cases c with
    |agg _=>exact hc.elim
    |s z=>
     refine⟨z,rfl,?_⟩
     cases x<;>first|exact hc|exact hx.elim
   obtain⟨s1,rfl,q1⟩:=nk (h1 k (by simp)) a.1
   obtain⟨s2,rfl,q2⟩:=nk (h2 v (by simp)) a.2
   refine⟨fun i=>match i with|0=>s1|i+1=>f1 i,fun i=>match i with|0=>s2|i+1=>f2 i,?_,fun i x hx=>?_,fun i x hx=>?_⟩
   ·rw[e1,List.length_cons,List.range_succ_eq_map];simp
   ·cases i with
    |zero=>simp at hx;subst hx;exact q1
    |succ i=>exact e2 i x (by simpa using hx)
   ·cases i with
    |zero=>simp at hx;subst hx;exact q2
    |succ i=>exact e3 i x (by simpa using hx)
 |[],_::_,_,hn,_,_,_=>by simp at hn
 |_::_,[],_,hn,_,_,_=>by simp at hn
theorem wN {s:Sta} (hs:Good s) {k:Key} {ks vs:List PV} {own:Bool} {anc:List Key} {log:List (Nat×Nat)} (hg:s.g.get k=some ⟨.map (mpE ks vs),own,false,anc,log⟩) (hn:vs.length=ks.length) (h1:∀x∈ks,Ae x) (h2:∀x∈vs,Ae x) :
  ∃Z',Frz s Z' (s.g.upd k (some ⟨.map (mpE ks vs),own,true,anc,log⟩))∧∀u,AR s.Z s.p (.v (.s (.map k))) u→AR Z' s.p (.v (.s (.mp ks vs))) u:=by
 obtain⟨b,y,hp,hy,hbr⟩:=hs.blk k _ hg
 have fz:=Wa hs.toCg hp hg hy rfl
 refine⟨_,fz,fun u hu=>?_⟩
 obtain⟨z,rfl,b',hb,rfl⟩:=hu.s
 rw[hp] at hb;cases hb
 have hbody:=hbr.body
 obtain⟨yb,yo,ya⟩:=y
 cases yb with
 |map lv=>
  obtain⟨f1,f2,e1,e2,e3⟩:=wM hn h1 h2 hbody
  have hz:=(fz.ext 0 0).zle
  exact AR.mkS (Aj.v (.mp f1 f2 hn (by simp only[if_true];rw[e1]) (fun i x hx=>(e2 i x hx).mono hz) fun i x hx=>(e3 i x hx).mono hz))
 |_=>exact hbody.elim
theorem PX.FK {cd:Ay} {Q:PQT} {kx k:Key} {e:FE} {ks vs:List PV} {own:Bool} {anc:List Key} {log:List (Nat×Nat)} (hx:look L kx=some e) (he:e.pa=.v (.s (.map k))) (hg:g.get k=some ⟨.map (mpE ks vs),own,false,anc,log⟩) (hn:vs.length=ks.length) (h1:∀x∈ks,Ae x) (h2:∀x∈vs,Ae x)
  (m:PX P lo cd (Gd L (some kx) (.v (.v (.s (.mp ks vs))))) (g.upd k (some ⟨.map (mpE ks vs),own,true,anc,log⟩)) I Q):PX P lo cd L g I Q:=by
 intro N c hc s0 s h0 hlo hs hex hgs fr1 hf IV hI
 subst hgs
 obtain⟨Z',fz,hu⟩:=wN hs hg hn h1 h2
 have x1:=fz.ext s0.g.next.toNat s0.h.next.toNat
 refine m N c hc s0 ⟨Z',s.p,_,s.h⟩ h0 hlo ⟨fz.sim,fz.room hs.toRoom⟩ (hex.trans h0.toCg x1 (Rl) (Rl)) rfl fr1 ?_ IV (Ak hI fun _ _ hi=>hi.mono x1.zle fun _ _ h=>h)
 obtain⟨u,e1,e2⟩:=hf kx _ (by rw[C9 L kx e hx,he])
 intro j v hj
 obtain⟨x,a1,a2⟩:=Kc _ j v hj
 simp only[Gd,look] at a1
 split at a1
 ·next hk=>cases a1;rw[←Cz hk];subst a2;exact⟨u,e1,hu u e2⟩
 ·obtain⟨u2,b1,b2⟩:=hf j v (by rw[C9 L j x a1,a2])
  exact⟨u2,b1,b2.mono x1.zle fun _ _ h=>h⟩
theorem PXC.FK {f:Nat} {args:List PA} {R:PA→Ab→Prop} (h:PXC P f args g fun r g'=>∃k ks vs own anc log,r=.v (.s (.map k))∧g'.get k=some ⟨.map (mpE ks vs),own,false,anc,log⟩∧vs.length=ks.length∧(∀x∈ks,Ae x)∧(∀x∈vs,Ae x) ∧
  R (.v (.s (.mp ks vs))) (g'.upd k (some ⟨.map (mpE ks vs),own,true,anc,log⟩))):PXC P f args g R:=by
 intro s hs hg vs hv
 refine(h s hs hg vs hv).mono ?_
 rintro u h' ⟨Z',p',r,g',k1,k2,k3,k,ks,ws,own,anc,log,rfl,e1,e2,e3,e4,e5⟩
 obtain⟨Z2,fz,hu⟩:=wN k1 e1 e2 e3 e4
 exact⟨Z2,p',_,_,⟨fz.sim,fz.room k1.toRoom⟩,k2.trans hs.toCg (fz.ext _ _) (Rl) (Rl),hu u k3,e5⟩
end
end Go.Pv
end
section
noncomputable section
namespace Go.Pv
open Go.Vm
open Go.Vm.Key (kn)
def Qg (d:DOp):Bool:=(match d.o.act with
 |.op o=>decide (o.kind=.quiet)
 |_=>false)&&d.o.guard.isNone
theorem gI {d:DOp} (h:Qg d=true):∃o,d.o.act=.op o∧o.kind=.quiet∧d.o.guard=none:=by
 unfold Qg at h
 simp only[Bool.and_eq_true,Option.isNone_iff_eq_none] at h
 obtain⟨h1,h2⟩:=h
 split at h1
 ·next o ho=>exact⟨o,ho,by simpa using h1,h2⟩
 ·cases h1
theorem Vc {call:Bn}:∀{l:List DOp} {fr fr':Fr} {h h':Ac},l.all Qg=true→Cl call (l.map (·.o)) fr h=some (fr',h')→h'=h∧∃vs,Rr h l fr vs fr'
 |[],fr,fr',h,h',_,e=>by
  simp only[List.map_nil,Cl,Sj,Pj] at e
  exact⟨e.2.symm,[],e.1⟩
 |d::l,fr,fr',h,h',hq,e=>by
  simp only[List.all_cons,Bool.and_eq_true] at hq
  obtain⟨o,ho,hk,hg⟩:=gI hq.1
  simp only[List.map_cons,Cl] at e
  split at e
  ·next fr1 h1 h1e=>
   unfold An.run at h1e
   rw[hg] at h1e
   simp only[Di] at h1e
   split at h1e
   ·next args hf=>
    split at h1e
    ·next v h2 ha=>
     cases h1e
     rw[ho] at ha
     obtain⟨rfl,_⟩:=En hk ha
     obtain⟨e1,vs,e2⟩:=Vc hq.2 e
     exact⟨e1,v::vs,⟨o,args,ho,hk,hg,hf,ha⟩,e2⟩
    ·cases h1e
   ·cases h1e
  ·cases e
def Zd (post:List DOp) (d:Option Key) (L1:Fm) (g:Ab) (R:PA→Ab→Prop):Prop:=∀s1:Sta,Good s1→s1.g=g→∀fr1:Fr,FRL s1.Z s1.p L1 fr1→∃v0,QE s1.h post (Bp fr1 d .unit) v0 ∧
 ∀(s2:Sta) v r ws fr',Good s2→Ba s1.g.next.toNat s1.h.next.toNat s1 s2→R r s2.g→Rr s2.h post (Bp fr1 d v) ws fr'→M7 s1.h s2.h post v0 (Bp fr1 d v) ws fr'
theorem Rr.cons {h:Ac} {d:DOp} {l:List DOp} {fr:Fr} {vs:List AV} {fr':Fr} (q:Rr h (d::l) fr vs fr'):∃v ws,vs=v::ws∧Uz h d fr v∧Rr h l (Bp fr d.o.dst v) ws fr':=by
 cases vs with
 |nil=>exact q.elim
 |cons v ws=>exact⟨v,ws,rfl,q⟩
theorem Vd {h:Ac} {d:DOp} {fr:Fr} {v:AV} (q:Uz h d fr v) {o:VOp} (ho:d.o.act=.op o) {az:List AV} (ha:Cn fr d.o.args=some az):o.run az h=some (v,h):=by
 obtain⟨o',az',a1,_,_,a4,a5⟩:=q
 rw[ho] at a1;cases a1
 rw[ha] at a4;cases a4
 exact a5
def gJ (d:DOp):Bool:=Qg d&&!(Nat.beq d.chk 0)
theorem tI {h:Ac}:∀{l:List DOp} (fr:Fr),l.all gJ=true→QE h l fr (List.replicate l.length .unit)
 |[],_,_=>trivial
 |d::l,fr,hq=>by
  simp only[List.all_cons,Bool.and_eq_true,gJ,Bool.not_eq_true'] at hq
  obtain⟨o,ho,hk,_⟩:=gI hq.1.1
  exact⟨fun hc=>(by rw[hc] at hq;exact absurd hq.1.2 (by decide)),⟨o,ho,hk⟩,tI _ hq.2⟩
theorem tJ {h h1:Ac}:∀{l:List DOp} {fr:Fr} {ws:List AV} {fr':Fr},l.all gJ=true→Rr h1 l fr ws fr'→M7 h h1 l (List.replicate l.length .unit) fr ws fr'
 |[],_,[],_,_,e=>e
 |d::l,fr,v::vs,fr',hq,e=>by
  simp only[List.all_cons,Bool.and_eq_true,gJ,Bool.not_eq_true'] at hq
  exact⟨e.1,fun hc=>(by rw[hc] at hq;exact absurd hq.1.2 (by decide)),tJ hq.2 e.2⟩
 |[],_,_::_,_,_,e=>e.elim
 |_::_,_,[],_,_,e=>e.elim
theorem dG {post:List DOp} {d:Option Key} {L1:Fm} {g:Ab} {R:PA→Ab→Prop} (h:post.all gJ=true):Zd post d L1 g R:=fun _ _ _ _ _=>
 ⟨_,tI _ h,fun _ _ _ _ _ _ _ _ e=>tJ h e⟩
theorem zP {F:A4} {pu:Nat→Bool} {a d1 d2:Key} {D:List DOp} {d:Key} {L1:Fm} {g:Ab} {R:PA→Ab→Prop} {e:FE} {kb:Key} {o:Nat} {x:Ap} (hD:D.all gJ=true) (hda:d≠a) (hL:look L1 a=some e) (he:e.pa=.v (.s (.ptr kb o))) (hg:g.get kb=some x)
  (hw:wpOps F pu [⟨some d1,.op .Bm,[.t a],none⟩,⟨some d2,.op .lens,[.t d1],none⟩] (Gd L1 (some d) (.v .unit)) g fun _ _=>True) (hR:∀r g',R r g'→∃x',g'.get kb=some x'∧x'.log=x.log) :
  Zd (⟨⟨some d1,.op .Bm,[.t a],none⟩,0⟩::⟨⟨some d2,.op .lens,[.t d1],none⟩,0⟩::D) (some d) L1 g R:=by
 intro s1 hs hsg fr1 hf
 subst hsg
 obtain⟨n,fr',h',Z',p',g',L',e1,_⟩:=Kd _ hw hs rfl (FRL.put (x:=.v .unit) hf Gx (some d))
 obtain⟨rfl,vs,q⟩:=Vc (l:=[⟨⟨some d1,.op .Bm,[.t a],none⟩,0⟩,⟨⟨some d2,.op .lens,[.t d1],none⟩,0⟩]) rfl e1
 obtain⟨v1,vs1,rfl,q1,q⟩:=Rr.cons q
 obtain⟨v2,vs2,rfl,q2,_⟩:=Rr.cons q
 obtain⟨u,hu1,hu2⟩:=hf a _ (by rw[C9 L1 a e hL,he])
 obtain⟨z,rfl,b,hb,rfl⟩:=hu2.s
 obtain⟨b',y,hy1,hy2,_⟩:=hs.blk kb x hg
 rw[hb] at hy1;cases hy1
 have ga:∀v,Cn (Bp fr1 (some d) v) [.t a]=some [.v (.s (.ptr b o))]:=fun v=>by
  simp only[Cn,VX.eval,Bp,Tr.Av]
  rw[if_neg hda,hu1]
 have gl:∀(fr:Fr) v,Cn (Bp fr (some d1) v) [.t d1]=some [v]:=fun fr v=>by
  simp only[Cn,VX.eval,Bp,Tr.Av,if_true]
 have b5:=Vd q1 rfl (ga .unit)
 have d5:=Vd q2 rfl (gl _ _)
 refine⟨v1::v2::List.replicate D.length .unit,⟨fun _=>q1,⟨_,rfl,rfl⟩,fun _=>q2,⟨_,rfl,rfl⟩,tI _ hD⟩,?_⟩
 rintro s2 v r ws frw hs2 hx hr hq
 obtain⟨w1,ws1,rfl,p1,hq⟩:=Rr.cons hq
 obtain⟨w2,ws2,rfl,p2,p3⟩:=Rr.cons hq
 obtain⟨x',hx',hlog⟩:=hR r s2.g hr
 obtain⟨new,l1,l2⟩:=hx.log kb x x' hg hx'
 have hnew:new=[]:=by
  rw[hlog] at l1
  have:=congrArg List.length l1
  simp only[La] at this
  exact List.length_eq_zero_iff.1 (by omega)
 obtain⟨y',hy',hkeep⟩:=l2 b y hb hy2
 have hbody:=(hkeep.same hnew).2
 have hread:∀i m,s2.h.read b i m=s1.h.read b i m:=fun i m=>by
  unfold Ac.read Ac.cells
  rw[hy',hy2]
  obtain⟨b1,b2,b3⟩:=y
  obtain⟨c1,c2,c3⟩:=y'
  simp only at hbody
  subst hbody
  cases c1<;>rfl
 have a5:=Vd p1 rfl (ga v)
 have hv:w1=v1:=by
  simp only[VOp.run,Fx,hread] at a5 b5
  split at a5
  ·next z hz=>rw[hz] at b5;cases a5;cases b5;rfl
  ·cases a5
 subst hv
 have c5:=Vd p2 rfl (gl _ _)
 have hv2:w2=v2:=by
  obtain⟨_,k2⟩:=En (o:=.lens) rfl c5
  have:=k2 s1.h fun b hb=>by cases hb
  rw[d5] at this;cases this;rfl
 subst hv2
 have b6:VOp.Bm.run [.v (.s (.ptr b o))] s1.h=some (w1,s1.h):=b5
 exact⟨p1,fun _=>⟨rfl,⟨_,_,rfl,rfl,rfl,ga v,b6⟩⟩,p2,fun _=>⟨rfl,⟨_,_,rfl,rfl,rfl,gl _ _,d5⟩⟩,tJ hD p3⟩
def kX:Bl→List PA→Option (Nat×List PA)
 |.call f,az=>some (f,az)
 |.Ge,.v (.s (.func f fs cs))::az=>some (f,Rs fs++az++Rs cs)
 |_,_=>none
theorem tK {Z:ZM} {p:Ren} {a:Bl} {xs az:List PA} {f:Nat} (h:kX a xs=some (f,az)) {us:List AV} (hu:Aa (AR Z p) xs us) (hp:Ac):(∀o,a≠.op o)∧a.kind=.effect∧∃vs,Aa (AR Z p) az vs∧a.run (Uy f vs) us hp=some (.unit,hp):=by
 cases a with
 |op o=>cases h
 |call f'=>cases h;exact⟨fun _ h=>(by cases h),rfl,us,hu,Ta _ _ _⟩
 |Ge=>
  unfold kX at h
  split at h
  ·next e=>cases e
  ·next f' fs cs az' e=>
   cases h
   cases hu with
   |cons h1 h2=>
    obtain⟨z,rfl,fs',cs',rfl,h3,h4⟩:=h1.s
    exact⟨fun _ h=>(by cases h),rfl,_,A0 (A0 (Je h3) h2) (Je h4),Ta _ _ _⟩
  ·cases h
theorem PX.open {P:Program} {F:A4} {pu:Nat→Bool} {lo:Nat} {L:Fm} {g:Ab} {I:List PIt} (pf:PF P F) {pre post:List DOp} {X:DOp} {Q:PQT} (hpre:pre.all Qg=true) (hpost:post.all Qg=true) (hgd:X.o.guard=none)
  (h:wpOps F pu (pre.map (·.o)) L g fun L1 g1=>g1=g∧∃ys f az R,Lr L1 X.o.args=some ys∧kX X.o.act (ys.map FE.pa)=some (f,az)∧PXC P f az g R∧Zd post X.o.dst L1 g R ∧
   ∀r g',R r g'→Wk g' fun g'=>wpOps F pu (post.map (·.o)) (Gd L1 X.o.dst (.v r)) g' fun L2 g2=>g2=g'∧Q .normal L2 g2 I):PX P lo (.drawn (pre++X::post)) L g I Q:=by
 intro N c hc s0 s h0 hlo hs hex hg fr1 hf IV hI
 subst hg
 obtain⟨id,ops,rfl,hds⟩:=tF hc
 obtain⟨n,fr2,h',Z1,p1,g1,L1,e1,k1,k2,k3,rfl,ys,f,az,R,k4,k5,k6,k7,k8⟩:=Kd _ h hs rfl hf
 obtain⟨rfl,vp,q⟩:=Vc hpre e1
 obtain⟨us,f1,f2⟩:=pF k3 k4
 obtain⟨o1,o2,vs,o3,o4⟩:=tK k5 f2 s.h
 obtain⟨v0,v1,v2⟩:=k7 ⟨Z1,p1,s.g,s.h⟩ k1 rfl fr2 k3
 have x1:=hex.trans h0.toCg k2 hex.nx.1 hex.nx.2
 refine MX.open pf.mix hds o2 o1 hgd q f1 o4 (k6 ⟨Z1,p1,s.g,s.h⟩ k1 rfl vs o3) v1 (K:=fun fr' h'=>PQ s0 Q .normal fr' h' IV) ?_ fun _ _ k=>k
 rintro v h1 ⟨Z2,p2,r,g2,m1,m2,m3,m4⟩
 obtain⟨n2,fr3,h3,Z3,p3,g3,L3,e3,w1,w2,w3,rfl,w4⟩:=Kd _ (Rb (k8 r g2 m4)) m1 rfl (FRL.put (x:=.v r) (k3.mono m2.zle m2.ple) m3 X.o.dst)
 obtain⟨rfl,ws,q2⟩:=Vc hpost e3
 have x2:=x1.trans h0.toCg m2 x1.nx.1 x1.nx.2
 exact⟨ws,fr3,v2 ⟨Z2,p2,_,_⟩ v r ws fr3 m1 m2 m4 q2,Z3,p3,_,L3,I,w1,x2.trans h0.toCg w2 x2.nx.1 x2.nx.2,w3,Ak hI fun _ _ hi=>((hi.mono k2.zle k2.ple).mono m2.zle m2.ple).mono w2.zle w2.ple,w4⟩
theorem PX.FL (n:Nat) {P:Program} {F:A4} {pu:Nat→Bool} {lo:Nat} {L:Fm} {g:Ab} {I:List PIt} (pf:PF P F) {ds post:List DOp} {X:DOp} {Q:PQT} (hs:ds.drop n=X::post) (hpre:(ds.take n).all Qg=true) (hpost:post.all Qg=true) (hgd:X.o.guard=none)
  (h:wpOps F pu ((ds.take n).map (·.o)) L g fun L1 g1=>g1=g∧∃ys f az R,Lr L1 X.o.args=some ys∧kX X.o.act (ys.map FE.pa)=some (f,az)∧PXC P f az g R∧Zd post X.o.dst L1 g R ∧
   ∀r g',R r g'→Wk g' fun g'=>wpOps F pu (post.map (·.o)) (Gd L1 X.o.dst (.v r)) g' fun L2 g2=>g2=g'∧Q .normal L2 g2 I):PX P lo (.drawn ds) L g I Q:=by
 have:=PX.open pf hpre hpost hgd h (lo:=lo)
 rwa [←hs,List.take_append_drop] at this
end Go.Pv
end
section
noncomputable section
namespace Go.Pv
open Go.Vm Go.Vm.C
open Go.Vm.Key (kn)
set_option maxRecDepth 10000
set_option maxHeartbeats 0
def rpl (e:Nat) (v:PV):List (Nat×PV)→List (Nat×PV)
 |[]=>[(e,v)]
 |p::m=>if p.1=e then(e,v)::m else p::rpl e v m
theorem NO (k:Nat) (v:PV):∀m:List (Nat×PV),Vj (.one .int) (.s (.int .i64 (k:Nat))) (.s v) (mm m)=some (mm (rpl k v m))
 |[]=>rfl
 |p::m=>by
  show Vj (.one .int) (.s (.int .i64 (k:Nat))) (.s v) ((.s (.int .i64 (p.1:Nat)),.s p.2)::mm m)=_
  have he:Ol (.one .int) (.s (.int .i64 (k:Nat))) (.s (.int .i64 (p.1:Nat)))=some (decide (p.1=k)):=by
   have:Ol (.one .int) (.s (.int .i64 (k:Nat))) (.s (.int .i64 (p.1:Nat)))=some ((k:Int)==(p.1:Int)):=rfl
   rw[this];congr 1;by_cases h:p.1=k<;>simp[h];omega
  rw[rpl,Vj,he]
  by_cases hk:p.1=k
  ·simp[hk,mm]
  ·simp only[hk,decide_false,if_false]
   rw[NO k v m];rfl
theorem UP {b:Key} {g:Ab} {m:List (Nat×PV)} {log:List (Nat×Nat)} {k:Nat} {v:PV} (hg:g.get b=some ⟨.map (mm m),true,false,[],log⟩) :
  opP (.Gq (.one .int)) [.v (.s (.map b)),.v (.s (.int .i64 (k:Nat))),.v (.s v)] g=some (.unit,g.upd b (some ⟨.map (mm (rpl k v m)),true,false,[],(0,0)::log⟩)):=by
 show I4 (.one .int) [.v (.s (.map b)),.v (.s (.int .i64 (k:Nat))),.v (.s v)] g=_
 unfold I4
 simp only[hg,Em,NO k v m]
 rfl
theorem kY {e j:Nat} {v:PV}:∀m:List (Nat×PV),fnd (rpl e v m) j=if j=e then some v else fnd m j
 |[]=>by simp only[rpl,fnd,eq_comm]
 |p::m=>by
  rw[rpl]
  by_cases h:p.1=e
  ·rw[if_pos h]
   simp only[fnd,h]
   by_cases hj:j=e
   ·simp[hj]
   ·simp[hj,Ne.symm hj]
  ·rw[if_neg h]
   simp only[fnd,kY m]
   by_cases hj:j=e
   ·simp[hj,h]
   ·simp[hj]
theorem pG {e:Nat} {v:PV}:∀{m:List (Nat×PV)},(m.map (·.1)).Nodup→((rpl e v m).map (·.1)).Nodup∧∀k,k∈(rpl e v m).map (·.1)→k=e∨k∈m.map (·.1)
 |[],_=>by simp[rpl]
 |p::m,h=>by
  simp only[List.map_cons,List.nodup_cons] at h
  obtain⟨h1,h2⟩:=pG (e:=e) (v:=v) h.2
  rw[rpl]
  by_cases he:p.1=e
  ·rw[if_pos he]
   simp only[List.map_cons,List.nodup_cons,←he]
   exact⟨h,fun k hk=>.inr hk⟩
  ·rw[if_neg he]
   simp only[List.map_cons,List.nodup_cons,List.mem_cons]
   refine⟨⟨fun hm=>?_,h1⟩,fun k hk=>?_⟩
   ·rcases h2 _ hm with h3|h3
    ·exact he h3
    ·exact h.1 h3
   ·rcases hk with hk|hk
    ·exact .inr (.inl hk)
    ·rcases h2 k hk with h3|h3
     ·exact .inl h3
     ·exact .inr (.inr h3)
structure Bc (m:List (Nat×PV)) (C:Nat→Nat→Prop):Prop where
 keys:(m.map (·.1)).Nodup
 no:∀e,fnd m e=none→∀n,¬C e n
 so:∀e v,fnd m e=some v→∃n,Aq n v∧C e n∧∀n',C e n'→n≤n'
theorem Bc.nil:Bc [] fun _ _=>False:=⟨.nil,fun _ _ _ h=>h,fun _ _ h=>by cases h⟩
theorem Bc.sub {m:List (Nat×PV)} {C D:Nat→Nat→Prop} (h:Bc m D) (h1:∀e n,D e n→C e n) (h2:∀e n,C e n→∃n',D e n'∧n'≤n):Bc m C where
 keys:=h.keys
 no e he n hn:=by
  obtain⟨n',h3,_⟩:=h2 e n hn
  exact h.no e he n' h3
 so e v he:=by
  obtain⟨n,a1,a2,a3⟩:=h.so e v he
  refine⟨n,a1,h1 e n a2,fun n' hn=>?_⟩
  obtain⟨n2,b1,b2⟩:=h2 e n' hn
  exact Nat.le_trans (a3 n2 b1) b2
theorem Bc.eq {m:List (Nat×PV)} {C D:Nat→Nat→Prop} (h:Bc m D) (h1:∀e n,D e n↔C e n):Bc m C:=h.sub (fun e n=>(h1 e n).1) fun e n hn=>⟨n,(h1 e n).2 hn,Rl⟩
theorem Bc.put {m:List (Nat×PV)} {C:Nat→Nat→Prop} (h:Bc m C) {e n:Nat} {v:PV} (hv:Aq n v) (hn:∀w n',fnd m e=some w→Aq n' w→n<n'):Bc (rpl e v m) fun j k=>C j k∨(j=e∧k=n) where
 keys:=(pG h.keys).1
 no j hj k hk:=by
  rw[kY] at hj
  split at hj
  ·cases hj
  ·next hje=>rcases hk with hk|hk
             ·exact h.no j hj k hk
             ·exact hje hk.1
 so j w hj:=by
  rw[kY] at hj
  split at hj
  ·next hje=>
   cases hj;subst hje
   refine⟨n,hv,.inr ⟨rfl,rfl⟩,fun n' hn'=>?_⟩
   rcases hn' with hn'|hn'
   ·cases hf:fnd m j with
    |none=>exact absurd hn' (h.no j hf n')
    |some w=>
     obtain⟨n2,a1,a2,a3⟩:=h.so j w hf
     have:=hn w n2 hf a1
     have:=a3 n' hn'
     omega
   ·omega
  ·next hje=>
   obtain⟨n2,a1,a2,a3⟩:=h.so j w hj
   refine⟨n2,a1,.inl a2,fun n' hn'=>?_⟩
   rcases hn' with hn'|hn'
   ·exact a3 n' hn'
   ·exact absurd hn'.1 hje
theorem Bc.Vy {m:List (Nat×PV)} {C:Nat→Nat→Prop} (h:Bc m C) {e n n1:Nat} {w:PV} (hw:fnd m e=some w) (hw1:Aq n1 w) (hn:n1≤n) (hu:∀{a b:Nat} {x:PV},Aq a x→Aq b x→a=b):Bc m fun j k=>C j k∨(j=e∧k=n) where
 keys:=h.keys
 no j hj k hk:=by
  rcases hk with hk|hk
  ·exact h.no j hj k hk
  ·rw[hk.1,hw] at hj;cases hj
 so j x hj:=by
  obtain⟨n2,a1,a2,a3⟩:=h.so j x hj
  refine⟨n2,a1,.inl a2,fun n' hn'=>?_⟩
  rcases hn' with hn'|hn'
  ·exact a3 n' hn'
  ·rw[hn'.1,hw] at hj;cases hj
   have:=hu hw1 a1
   omega
theorem Aq.uniq {a b:Nat} {x:PV} (h:Aq a x) (h2:Aq b x):a=b:=by
 cases h<;>cases h2<;>first|rfl|omega
theorem Bc.val {m:List (Nat×PV)} {C:Nat→Nat→Prop} (h:Bc m C):∀p∈m,∃n,Aq n p.2:=fun p hp=>by
 have:∀{m:List (Nat×PV)},(m.map (·.1)).Nodup→∀p∈m,fnd m p.1=some p.2:=by
  intro m
  induction m with
  |nil=>intro _ p hp;cases hp
  |cons q m ih=>
   intro hn p hp
   simp only[List.map_cons,List.nodup_cons] at hn
   rcases List.mem_cons.1 hp with rfl|hp
   ·simp[fnd]
   ·rw[fnd,if_neg fun e=>hn.1 (by rw[e];exact List.mem_map.2 ⟨p,hp,rfl⟩)]
    exact ih hn.2 p hp
 obtain⟨n,h1,_⟩:=h.so _ _ (this h.keys p hp)
 exact⟨n,h1⟩
theorem UQ {m:List (Nat×PV)} (h:∀p∈m,Ae p.2) (ρ:Key→Option Key):RnB ρ (.map (mm m)) (.map (mm m)):=by
 show Aa _ (mm m) (mm m)
 induction m with
 |nil=>exact .nil
 |cons p m ih=>exact .cons ⟨rfl,(h p (.head _)).rn⟩ (ih fun q hq=>h q (.tail _ hq))
theorem Bc.blk {m:List (Nat×PV)} {C:Nat→Nat→Prop} (h:Bc m C) {ρ:Key→Option Key} {K:Ab} {log log':List (Nat×Nat)}:G8 ρ K ⟨.map (mm m),true,false,[],log⟩ ⟨.map (mm m),true,false,[],log'⟩:=
 ⟨UQ (fun p hp=>by obtain⟨n,hn⟩:=h.val p hp;exact hn.nk) ρ,fun _=>⟨rfl,.inl .nil⟩,rfl⟩
theorem FM {m:List (Nat×PV)} {D:Nat→Nat→Prop} (hm:Bc m D) {e n:Nat} {v:PV} (hv:Aq n v):XC Fn 61 [.v (.s (.map k0)),iA e,.v (.s v)] (mkH [(k0,mpB m [])] k1) fun r g=>r=.unit∧∃m' l,g.get k0=some (mpB m' l)∧Bc m' fun j k=>D j k∨(j=e∧k=n):=by
 have hl:=fun(g:Ab) (l:List (Nat×Nat)) (hg:g.get k0=some (mpB m l))=>UM (k:=e) hg
 have vnk:=hv.nk
 have fv:=hv.flat
 refine XC.of (pu:=pt) (vf:=C.f61) rfl ?_
 refine Yw1 ?_
 refine⟨_,_,hl _ _ rfl,?_⟩
 cases hf:fnd m e with
 |none=>
  refine Yw1 ?_
  refine⟨_,_,UP rfl,?_⟩
  refine Yw1 ?_
  exact⟨rfl,_,_,rfl,hm.put hv fun w n' h=>by rw[hf] at h;cases h⟩
 |some w=>
  obtain⟨n1,hw,_,_⟩:=hm.so e w hf
  have fw:=hw.flat
  have hc:=cK hv hw
  repeat'(try conv=>whnf)<;>first|(refine⟨fun h=>?_,fun h=>?_⟩<;>first|exact J8 h|exact Mx h|exact absurd (Ao h) (by omega)|exact absurd (A1 h) (by omega)|replace h:=Ao h|replace h:=A1 h|skip)|refine⟨_,⟨by omega,by assumption⟩,?_⟩|refine⟨_,⟨by omega,rfl⟩,?_⟩|refine⟨_,_,_,(rfl:Dk _ _ _=_),by assumption,?_⟩|refine⟨_,_,_,Dg (by repeat' first|exact trivial|refine⟨?_,?_⟩|exact Dj _ _|(show Et _;assumption)|fail),by assumption,?_⟩|refine⟨(by omega:_∧_),?_⟩|refine⟨(by omega:_≠_),?_⟩|refine⟨_,_,(rfl:opP _ _ _=_),?_⟩|exact⟨_,(rfl:E8 _ _ _=_)⟩|fail
  ·have hlt:n<n1:=wH h
   refine⟨_,_,UP rfl,?_⟩
   refine Yw1 ?_
   exact⟨rfl,_,_,rfl,hm.put hv fun x n' hx hn'=>by rw[hf] at hx;cases hx;rw[←hw.uniq hn'];exact hlt⟩
  ·have hle:n1≤n:=oY h
   exact⟨rfl,_,_,rfl,hm.Vy hf hw hle Aq.uniq⟩
end Go.Pv
end
