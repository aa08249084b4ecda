/- A part of the proof that the law CountLooseRanks answers true. No condition. -/
import Derived.Test.YthnfbamnfihcaaaGreatPart1
import Derived.Test.YthnfbamnfihcaaaGreatPart3
import Derived.Test.YthnfbamnfihcaaaGreatPart2
import Derived.Test.YthnfbamnfihcaaaGreatSets
import Derived.RowKit3
import Derived.OpenShut
set_option linter.unusedVariables false
set_option linter.unusedSimpArgs false
set_option linter.unusedSectionVars false
section
noncomputable section
namespace Go.Pv
open Go.Vm Go.Vm.C
open Go.Vm.Key (kn)
set_option maxRecDepth 40000
set_option maxHeartbeats 0
def sbt (t:Tre) (a e:Nat):Tre:=(t.drop a).take (e-a)
def RdC (T:Nat→List Tre) (t:Tre) (i a:Nat) (e n:Nat):Prop:=a≤e∧e≤t.length∧(T i)[n]?=some (sbt t a e)
abbrev zQ (T:Nat→List Tre) (t:Tre) (i a:Nat) (m:List (Nat×PV)):Prop:=Bc m (RdC T t i a)
abbrev mKs (m:List (Nat×PV)):List PV:=m.map fun p=>.int .i64 (p.1:Nat)
abbrev mVs (m:List (Nat×PV)):List PV:=m.map (·.2)
def mpV (m:List (Nat×PV)):PV:=.mp (mKs m) (mVs m)
theorem Wr:∀m:List (Nat×PV),mpE (mKs m) (mVs m)=mm m
 |[]=>rfl
 |p::m=>by
  show(PC.s (.int .i64 (p.1:Nat)),PC.s p.2)::mpE (mKs m) (mVs m)=(PC.s (.int .i64 (p.1:Nat)),PC.s p.2)::mm m
  rw[Wr m]
abbrev Kn:=List ((Nat×Nat)×List (Nat×PV))
def kk (K:Kn):List (PC×PC):=K.map fun p=>(.agg [.int .i64 (p.1.1:Nat),.int .i64 (p.1.2:Nat)],.s (mpV p.2))
def KOk (T:Nat→List Tre) (t:Tre) (K:Kn):Prop:=∀p∈K,zQ T t p.1.1 p.1.2 p.2
def pH:Kn→Nat→Nat→Option (List (Nat×PV))
 |[],_,_=>none
 |p::K,i,a=>if p.1.1=i∧p.1.2=a then some p.2 else pH K i a
theorem KOk.fnd {T:Nat→List Tre} {t:Tre}:∀{K:Kn},KOk T t K→∀{i a:Nat} {m:List (Nat×PV)},pH K i a=some m→zQ T t i a m
 |[],_,_,_,_,h=>by cases h
 |p::K,hK,i,a,m,h=>by
  rw[pH] at h
  split at h
  ·next e=>obtain⟨rfl,rfl⟩:=e;cases h;exact hK p (.head _)
  ·exact KOk.fnd (fun q hq=>hK q (.tail _ hq)) h
theorem wO (i a j b:Nat):Ol (.agg [.int,.int]) (.agg [.int .i64 (i:Nat),.int .i64 (a:Nat)]) (.agg [.int .i64 (j:Nat),.int .i64 (b:Nat)])=some (decide (j=i∧b=a)):=by
 have:Ol (.agg [.int,.int]) (.agg [.int .i64 (i:Nat),.int .i64 (a:Nat)]) (.agg [.int .i64 (j:Nat),.int .i64 (b:Nat)])=some (((i:Int)==(j:Int))&&(((a:Int)==(b:Int))&&true)):=rfl
 rw[this];congr 1
 by_cases h1:j=i<;>by_cases h2:b=a<;>simp[h1,h2]<;>omega
theorem FN (i a:Nat):∀K:Kn,O8 (.agg [.int,.int]) (.agg [.int .i64 (i:Nat),.int .i64 (a:Nat)]) (kk K)=some ((pH K i a).map fun m=>PC.s (mpV m))
 |[]=>rfl
 |p::K=>by
  show O8 (.agg [.int,.int]) (.agg [.int .i64 (i:Nat),.int .i64 (a:Nat)]) ((.agg [.int .i64 (p.1.1:Nat),.int .i64 (p.1.2:Nat)],.s (mpV p.2))::kk K)=_
  rw[O8,wO,pH]
  by_cases h:p.1.1=i∧p.1.2=a
  ·simp[h]
  ·simp[h,FN i a K]
def tL (i a:Nat) (m:List (Nat×PV)):Kn→Kn
 |[]=>[((i,a),m)]
 |p::K=>if p.1.1=i∧p.1.2=a then((i,a),m)::K else p::tL i a m K
theorem KOk.rpl {T:Nat→List Tre} {t:Tre} {i a:Nat} {m:List (Nat×PV)} (hm:zQ T t i a m):∀{K:Kn},KOk T t K→KOk T t (tL i a m K)
 |[],_=>fun p hp=>by simp only[tL,List.mem_singleton] at hp;subst hp;exact hm
 |q::K,h=>fun p hp=>by
  rw[tL] at hp
  split at hp
  ·rcases List.mem_cons.1 hp with rfl|hp
   ·exact hm
   ·exact h p (.tail _ hp)
  ·rcases List.mem_cons.1 hp with rfl|hp
   ·exact h _ (.head _)
   ·exact KOk.rpl hm (fun r hr=>h r (.tail _ hr)) p hp
theorem NP (i a:Nat) (m:List (Nat×PV)):∀K:Kn,Vj (.agg [.int,.int]) (.agg [.int .i64 (i:Nat),.int .i64 (a:Nat)]) (.s (mpV m)) (kk K)=some (kk (tL i a m K))
 |[]=>rfl
 |p::K=>by
  show Vj (.agg [.int,.int]) (.agg [.int .i64 (i:Nat),.int .i64 (a:Nat)]) (.s (mpV m)) ((.agg [.int .i64 (p.1.1:Nat),.int .i64 (p.1.2:Nat)],.s (mpV p.2))::kk K)=_
  rw[Vj,wO,tL]
  by_cases h:p.1.1=i∧p.1.2=a
  ·simp[h,kk]
  ·simp only[h,decide_false,if_false]
   rw[NP i a m K];rfl
theorem XM {b:Key} {g:Ab} {K:Kn} {own frz:Bool} {anc:List Key} {log:List (Nat×Nat)} {i a:Nat} (hg:g.get b=some ⟨.map (kk K),own,frz,anc,log⟩) :
  opP (.lookup (.agg [.int,.int]) (.s .Dv) true) [.v (.s (.map b)),.v (.agg [.int .i64 (i:Nat),.int .i64 (a:Nat)])] g=some (match pH K i a with
   |some m=>.tup [.s (mpV m),.s (.bool true)]
   |none=>.tup [.s .Dv,.s (.bool false)],g):=by
 show Es (.agg [.int,.int]) (.s .Dv) true [.v (.s (.map b)),.v (.agg [.int .i64 (i:Nat),.int .i64 (a:Nat)])] g=_
 unfold Es
 have hf:Em (.agg [.int,.int]) (.agg [.int .i64 (i:Nat),.int .i64 (a:Nat)])=true:=rfl
 simp only[gU,Ow,hg,hf,FN,if_true]
 cases pH K i a<;>rfl
theorem XN {b:Key} {g:Ab} {K:Kn} {log:List (Nat×Nat)} {i a:Nat} {m:List (Nat×PV)} (hg:g.get b=some ⟨.map (kk K),true,false,[],log⟩) :
  opP (.Gq (.agg [.int,.int])) [.v (.s (.map b)),.v (.agg [.int .i64 (i:Nat),.int .i64 (a:Nat)]),.v (.s (mpV m))] g=some (.unit,g.upd b (some ⟨.map (kk (tL i a m K)),true,false,[],(0,0)::log⟩)):=by
 show I4 (.agg [.int,.int]) [.v (.s (.map b)),.v (.agg [.int .i64 (i:Nat),.int .i64 (a:Nat)]),.v (.s (mpV m))] g=_
 unfold I4
 have hf:Em (.agg [.int,.int]) (.agg [.int .i64 (i:Nat),.int .i64 (a:Nat)])=true:=rfl
 simp only[hg,hf,NP i a m K]
 rfl
theorem UR (K:Kn) (ρ:Key→Option Key):RnB ρ (.map (kk K)) (.map (kk K)):=by
 show Aa _ (kk K) (kk K)
 induction K with
 |nil=>exact .nil
 |cons p K ih=>exact .cons ⟨.cons rfl (.cons rfl .nil),rfl⟩ ih
theorem G8.kk {K:Kn} {ρ:Key→Option Key} {H:Ab} {log log':List (Nat×Nat)}:G8 ρ H ⟨.map (Go.Pv.kk K),true,false,[],log⟩ ⟨.map (Go.Pv.kk K),true,false,[],log'⟩:=⟨UR K ρ,fun _=>⟨rfl,.inl .nil⟩,rfl⟩
abbrev foX (f:Fo):List PV:=[.lst 5 (f.ns.map nV) none,.lst 3 (f.rs.map rV) none]
abbrev kB (K:Kn) (l:List (Nat×Nat)):Ap:=⟨.map (kk K),true,false,[],l⟩
abbrev RD:List (Key×Nat):=[(k3,0),(k4,0),(k5,0),(k6,0),(k2,0)]
abbrev rkL (f:Fo) (c:Nat) (tot:PV) (t:Tre) (m:List (Nat×PV)) (K:Kn) (l0 l1 l8:List (Nat×Nat)):List (Key×Ap):=
 [(k0,obl (tbC f c tot) l0),(k1,mpB m l1),(k2,obl [.ptr k0 0] []),(k3,obl (foX f) []),(k4,obl [.int .u64 (c:Nat)] []),(k5,obl [.lst 4 (tR t) none] []),(k6,obl [.ptr k7 0] []),(k7,obl [.map k8,.func 58 [] RD] []),(k8,kB K l8)]
structure RkH (T:Nat→List Tre) (f:Fo) (c:Nat) (tot:PV) (t:Tre) (m:List (Nat×PV)) (K:Kn) (l0 l1 l8:List (Nat×Nat)) (g:Ab):Prop where
 hm:Bk T m
 hK:KOk T t K
 lg:Lg l0
 e0:g.get k0=some (obl (tbC f c tot) l0)
 e1:g.get k1=some (mpB m l1)
 e2:g.get k2=some (obl [.ptr k0 0] [])
 e3:g.get k3=some (obl (foX f) [])
 e4:g.get k4=some (obl [.int .u64 (c:Nat)] [])
 e5:g.get k5=some (obl [.lst 4 (tR t) none] [])
 e6:g.get k6=some (obl [.ptr k7 0] [])
 e7:g.get k7=some (obl [.map k8,.func 58 [] RD] [])
 e8:g.get k8=some (kB K l8)
structure FO (T:Nat→List Tre) (f:Fo) (c:Nat) (tot:PV) (t:Tre) (i a:Nat) (r:PA) (g:Ab):Prop where
 rd:∃ms,r=.v (.s (mpV ms))∧zQ T t i a ms
 blk:∃m K l0 l1 l8,RkH T f c tot t m K l0 l1 l8 g
abbrev rkR:List (Key×Key):=[(k0,k0),(k1,k1),(k2,k2),(k3,k3),(k4,k4),(k5,k5),(k6,k6),(k7,k7),(k8,k8)]
abbrev rkX (f:Fo) (c:Nat) (tot:PV) (t:Tre) (m:List (Nat×PV)) (K:Kn) (l0 l1 l8:List (Nat×Nat)):List (Option Ap):=
 [some (obl (tbC f c tot) l0),some (mpB m l1),some (obl [.ptr k0 0] []),some (obl (foX f) []),some (obl [.int .u64 (c:Nat)] []),some (obl [.lst 4 (tR t) none] []),some (obl [.ptr k7 0] []),some (obl [.map k8,.func 58 [] RD] []),some (kB K l8)]
section
variable {T:Nat→List Tre} {f:Fo} {c:Nat} {tot:PV} {t:Tre} {m m':List (Nat×PV)} {K K':Kn} {l0 l1 l8 a0 a1 a8:List (Nat×Nat)} {g gc':Ab}
theorem RkH.blk (ht:Ae tot) (h:RkH T f c tot t m K l0 l1 l8 g):Ou (rho 0 rkR) g (rkL f c tot t m K [] [] []):=
 ⟨⟨_,_,rfl,h.e0,.same Yc⟩,⟨_,_,rfl,h.e1,.map h.hm⟩,⟨_,_,rfl,h.e2,.same Yc⟩,⟨_,_,rfl,h.e3,.same Yc⟩,⟨_,_,rfl,h.e4,.same Yc⟩,⟨_,_,rfl,h.e5,.same Yc⟩,⟨_,_,rfl,h.e6,.same Yc⟩,⟨_,_,rfl,h.e7,.same Yc⟩,⟨_,_,rfl,h.e8,.kk⟩,trivial⟩
theorem RkH.old (ht:Ae tot) (h:RkH T f c tot t m K l0 l1 l8 g) (h':RkH T f c tot t m' K' a0 a1 a8 gc'):M4 (muR rkR []) g gc' (rkL f c tot t m K [] [] []) rkR (rkX f c tot t m' K' (a0++l0) (a1++l1) (a8++l8)):=
 ⟨⟨_,_,_,h'.e0,.same Yc,h.e0,rfl,rfl,rfl⟩,⟨_,_,_,h'.e1,.map h'.hm,h.e1,rfl,rfl,rfl⟩,⟨_,_,_,h'.e2,.same Yc,h.e2,rfl,rfl,rfl⟩,⟨_,_,_,h'.e3,.same Yc,h.e3,rfl,rfl,rfl⟩,⟨_,_,_,h'.e4,.same Yc,h.e4,rfl,rfl,rfl⟩,
  ⟨_,_,_,h'.e5,.same Yc,h.e5,rfl,rfl,rfl⟩,⟨_,_,_,h'.e6,.same Yc,h.e6,rfl,rfl,rfl⟩,⟨_,_,_,h'.e7,.same Yc,h.e7,rfl,rfl,rfl⟩,⟨_,_,_,h'.e8,.kk,h.e8,rfl,rfl,rfl⟩,trivial⟩
end
def Ws (P:Program) (T:Nat→List Tre) (f:Fo) (c:Nat) (tot:PV) (t:Tre) (i:Nat):Prop:=∀m K a,Bk T m→KOk T t K→PXC P 60 [.v (.s (.ptr k7 0)),.v (.agg [.int .i64 (i:Nat),.int .i64 (a:Nat)])] (mkH (rkL f c tot t m K [] [] []) k9) (FO T f c tot t i a)
def FP (P:Program) (T:Nat→List Tre) (f:Fo) (c:Nat) (tot:PV) (t:Tre) (i:Nat):Prop:=∀m K a,Bk T m→KOk T t K→PXC P 58 [.v (.agg [.int .i64 (i:Nat),.int .i64 (a:Nat)]),.v (.s (.ptr k3 0)),.v (.s (.ptr k4 0)),.v (.s (.ptr k5 0)),.v (.s (.ptr k6 0)),.v (.s (.ptr k2 0))] (mkH (rkL f c tot t m K [] [] []) k9) (FO T f c tot t i a)
def AtR (T:Nat→List Tre) (f:Fo) (c:Nat) (tot:PV) (t:Tre) (i a:Nat) (g:Ab) (r:PA) (g':Ab):Prop:=∃ms m K l0 l1 l8,r=.v (.s (mpV ms))∧zQ T t i a ms∧Bk T m∧KOk T t K∧Lg l0∧g'=⟨S7 g.mem rkR (rkX f c tot t m K l0 l1 l8),g.next⟩
theorem PAt {P:Program} {fn:Nat} {args:List PA} {T:Nat→List Tre} {f:Fo} {c:Nat} {tot:PV} {t:Tre} (ht:Ae tot) {i a:Nat} {m:List (Nat×PV)} {K:Kn} {l0 l1 l8:List (Nat×Nat)} {g:Ab} (h:RkH T f c tot t m K l0 l1 l8 g) (hlow:sP g.next.toNat rkR=true) (ha:Aa (RnA (rho 0 rkR)) args args)
  (hV:PXC P fn args (mkH (rkL f c tot t m K [] [] []) k9) (FO T f c tot t i a)):PXC P fn args g (AtR T f c tot t i a g):=
 PXC.sub (EG (r:=rkR) rfl (h.blk ht)) ha hV fun rc gc' ⟨⟨ms,e1,e2⟩,m',K',a0,a1,a8,h'⟩=>by
  have hb:EE (rho 0 rkR) (muR rkR []) g (mkH (rkL f c tot t m K [] [] []) k9) ⟨S7 g.mem rkR (rkX f c tot t m' K' (a0++l0) (a1++l1) (a8++l8)),g.next⟩ gc':=EH (nw:=[]) (ys:=[]) rfl hlow rfl (Rl) (h.old ht h') trivial
  exact⟨muR rkR [],rc,_,hb,by subst e1;exact rfl,ms,m',K',_,_,_,e1,e2,h'.hm,h'.hK,h'.lg.app h.lg,rfl⟩
attribute [local irreducible] PX PXL PXC
theorem LC {P:Program} (pf:PF P Fn) {T:Nat→List Tre} {f:Fo} {c:Nat} {tot:PV} {t:Tre} (ht:Ae tot) {i:Nat} (hV:FP P T f c tot t i):Ws P T f c tot t i:=by
 intro m K a hm hK
 have hl:=fun(g:Ab) (l:List (Nat×Nat)) (hg:g.get k8=some (kB K l))=>XM (i:=i) (a:=a) hg
 refine PXC.of pf (vf:=C.f60) rfl ?_
 refine PX.seq (PX.wp (pu:=pt) pf ?_)
 refine Yw1 ?_
 refine PX.seq (PX.wp (pu:=pt) pf ?_)
 refine Yw1 ?_
 refine⟨_,_,hl _ _ rfl,?_⟩
 cases hf:pH K i a with
 |some ms=>
  refine Yw1 ?_
  exact⟨⟨_,rfl,hK.fnd hf⟩,m,K,_,_,_,hm,hK,Lg.nil,rfl,rfl,rfl,rfl,rfl,rfl,rfl,rfl,rfl⟩
 |none=>
  refine Yw1 ?_
  refine PX.seq ?_
  refine PX.FL 5 (pu:=pt) pf rfl rfl rfl rfl ?_
  refine Yw1 ?_
  refine⟨rfl,_,_,_,_,rfl,rfl,PAt ht ⟨hm,hK,Lg.nil,rfl,rfl,rfl,rfl,rfl,rfl,rfl,rfl,rfl⟩ rfl Ya (hV m K a hm hK),dG rfl,?_⟩
  rintro r g' ⟨ms,m',K',l0,l1,l8,rfl,hr,hm',hK',lg,rfl⟩
  refine Yw1 ?_
  refine⟨rfl,?_⟩
  refine PX.seq (PX.wp (pu:=pt) pf ?_)
  refine Yw1 ?_
  refine⟨_,_,XN rfl,?_⟩
  refine Yw1 ?_
  refine PX.wp (pu:=pt) pf ?_
  refine Yw1 ?_
  exact⟨⟨_,rfl,hr⟩,m',_,_,_,_,hm',hK'.rpl hr,lg,rfl,rfl,rfl,rfl,rfl,rfl,rfl,rfl,rfl⟩
end Go.Pv
end
section
noncomputable section
namespace Go.Pv
set_option maxRecDepth 10000
variable {T:Nat→List Tre} {t:Tre}
def Mi (C:Nat→Nat→Prop) (e n:Nat):Prop:=C e n∧∀n',C e n'→n≤n'
theorem Mi.uniq {C:Nat→Nat→Prop} {e n n':Nat} (h:Mi C e n) (h':Mi C e n'):n=n':=by
 have:=h.2 n' h'.1
 have:=h'.2 n h.1
 omega
theorem Bc.mi {m:List (Nat×PV)} {C:Nat→Nat→Prop} (h:Bc m C) {e:Nat} {v:PV} (hv:fnd m e=some v):∃n,Aq n v∧Mi C e n:=by
 obtain⟨n,a1,a2,a3⟩:=h.so e v hv
 exact⟨n,a1,a2,a3⟩
theorem Bc.FQ {m:List (Nat×PV)} {C:Nat→Nat→Prop} (h:Bc m C) {e n:Nat} (hn:Mi C e n):∃v,fnd m e=some v∧Aq n v:=by
 cases hf:fnd m e with
 |none=>exact absurd hn.1 (h.no e hf n)
 |some v=>
  obtain⟨n',a1,a2⟩:=h.mi hf
  exact⟨v,rfl,by rw[hn.uniq a2];exact a1⟩
theorem Wt {C:Nat→Nat→Prop} {e n:Nat} (h:C e n):∃k,Mi C e k∧k≤n:=by
 induction n using Nat.strongRecOn with
 |_ n ih=>
  by_cases hx:∃j,j<n∧C e j
  ·obtain⟨j,h1,h2⟩:=hx
   obtain⟨k,h3,h4⟩:=ih j h1 h2
   exact⟨k,h3,by omega⟩
  ·exact⟨n,⟨h,fun n' hn'=>Nat.le_of_not_lt fun hlt=>hx ⟨n',hlt,hn'⟩⟩,Rl⟩
theorem Rg {m:List (Nat×PV)} (hn:(m.map (·.1)).Nodup):∀{j:Nat} {p:Nat×PV},m[j]?=some p→fnd m p.1=some p.2:=by
 induction m with
 |nil=>intro j p h;simp at h
 |cons q m ih=>
  intro j p h
  simp only[List.map_cons,List.nodup_cons] at hn
  cases j with
  |zero=>simp at h;subst h;simp[fnd]
  |succ j=>
   have hj:m[j]?=some p:=by simpa using h
   rw[fnd,if_neg fun e=>hn.1 (by rw[e];exact List.mem_map.2 ⟨p,List.mem_of_getElem? hj,rfl⟩)]
   exact ih hn.2 hj
theorem kZ {m:List (Nat×PV)} {e:Nat} {v:PV} (h:fnd m e=some v):∃j:Nat,m[j]?=some (e,v):=by
 induction m with
 |nil=>cases h
 |cons q m ih=>
  rw[fnd] at h
  split at h
  ·next he=>cases h;exact⟨0,by simp[←he]⟩
  ·obtain⟨j,hj⟩:=ih h
   exact⟨j+1,by simpa using hj⟩
theorem lA {a e:Nat} (h1:a≤e) (h2:e≤t.length):(sbt t a e).length=e-a:=by
 simp only[sbt,List.length_take,List.length_drop];omega
theorem lB {a m e:Nat} (h1:a≤m) (h2:m≤e):sbt t a e=sbt t a m++sbt t m e:=by
 unfold sbt
 have:e-a=(m-a)+(e-m):=by omega
 rw[this,List.take_add,List.drop_drop]
 congr 3;omega
theorem wP {a e:Nat} {u v:Tre} (h1:a≤e) (h2:e≤t.length) (h:sbt t a e=u++v):a+u.length≤e∧u=sbt t a (a+u.length)∧v=sbt t (a+u.length) e:=by
 have hl:=congrArg List.length h
 rw[lA h1 h2,La] at hl
 have hle:a+u.length≤e:=by omega
 refine⟨hle,?_⟩
 have h3:=lB (t:=t) (a:=a) (m:=a+u.length) (e:=e) (by omega) hle
 rw[h] at h3
 have h4:u.length=(sbt t a (a+u.length)).length:=by rw[lA (by omega) (by omega)];omega
 exact List.append_inj h3 h4
theorem FT {a e:Nat} {p:Nat} {w:Tre} (h1:a≤e) (h2:e≤t.length) (h:sbt t a e=p::w):a+1≤e∧t[a]?=some p∧w=sbt t (a+1) e:=by
 obtain⟨b1,b2,b3⟩:=wP (u:=[p]) (v:=w) h1 h2 (by simpa using h)
 refine⟨b1,?_,b3⟩
 simp only[sbt,List.length_singleton] at b2
 have:(t.drop a)[0]?=some p:=by
  have h4:a+1-a=1:=by omega
  rw[h4] at b2
  cases hd:t.drop a with
  |nil=>rw[hd] at b2;simp at b2
  |cons q r=>rw[hd] at b2;simp at b2;simp[b2]
 simpa using this
theorem LD {a e:Nat} {p:Nat} (h1:a+1≤e) (h3:t[a]?=some p):sbt t a e=p::sbt t (a+1) e:=by
 rw[lB (t:=t) (a:=a) (m:=a+1) (e:=e) (by omega) h1]
 have:sbt t a (a+1)=[p]:=by
  unfold sbt
  have h4:a+1-a=1:=by omega
  rw[h4]
  have h5:a<t.length:=(Gi.1 h3).1
  rw[List.drop_eq_getElem_cons h5]
  simp only[List.take_succ_cons,List.take_zero]
  rw[Gg h5] at h3
  rw[Option.some.inj h3]
 rw[this];rfl
theorem dH (ks:List Nat) (k:Nat):Au T (ks++[k])=(Au T ks).flatMap fun u=>(T k).map (u++·):=by
 induction ks with
 |nil=>simp[Au,Jf]
 |cons x ks ih=>
  rw[List.cons_append,Au,ih,Au,List.flatMap_assoc]
  congr 1;funext s
  rw[List.map_flatMap,List.flatMap_map]
  congr 1;funext u
  simp[List.map_map,Function.comp_def]
theorem zR (ks:List Nat) (k:Nat):(Au T (ks++[k])).length=(Au T ks).length*(T k).length:=by
 rw[dH,List.length_flatMap]
 simp only[Lm]
 rw[List.map_const',List.sum_replicate_nat]
theorem gK {ks:List Nat} {k n:Nat} {w:Tre}:(Au T (ks++[k]))[n]?=some w↔∃i j u v,n=i*(T k).length+j∧(Au T ks)[i]?=some u∧(T k)[j]?=some v∧w=u++v:=by
 rw[dH]
 by_cases hz:(T k).length=0
 ·have hk:T k=[]:=List.length_eq_zero_iff.1 hz
  constructor
  ·intro h
   rw[List.flatMap_eq_nil_iff.2 (fun u _=>by simp[hk])] at h
   simp at h
  ·rintro⟨i,j,u,v,_,_,h,_⟩
   rw[hk] at h;simp at h
 ·have hm:0<(T k).length:=Nat.pos_of_ne_zero hz
  rw[Qc hm (l:=Au T ks) (g:=fun u=>(T k).map (u++·)) (fun s _=>by simp)]
  constructor
  ·intro h
   obtain⟨u,h1,h2⟩:=Option.bind_eq_some_iff.1 h
   rw[List.getElem?_map] at h2
   obtain⟨v,h3,h4⟩:=Option.map_eq_some_iff.1 h2
   exact⟨n / (T k).length,n % (T k).length,u,v,by rw[Nat.mul_comm];exact(Nat.div_add_mod n _).symm,h1,h3,h4.symm⟩
  ·rintro⟨i,j,u,v,rfl,h1,h2,rfl⟩
   have hj:j<(T k).length:=(Gi.1 h2).1
   have e1:(i*(T k).length+j) / (T k).length=i:=by rw[Nat.mul_comm,Nat.mul_add_div hm,Nat.div_eq_of_lt hj];omega
   have e2:(i*(T k).length+j) % (T k).length=j:=by rw[Nat.mul_comm,Nat.mul_add_mod,Nat.mod_eq_of_lt hj]
   rw[e1,e2,h1]
   simp[h2]
def WaC (T:Nat→List Tre) (t:Tre) (a:Nat) (ks:List Nat) (e n:Nat):Prop:=a≤e∧e≤t.length∧(Au T ks)[n]?=some (sbt t a e)
theorem RE {a:Nat} (ha:a≤t.length):Bc [(a,.Af)] (WaC T t a []) where
 keys:=by simp
 no e he n hn:=by
  obtain⟨h1,h2,h3⟩:=hn
  cases n with
  |zero=>
   simp only[Au,List.getElem?_cons_zero,Sj] at h3
   have:=congrArg List.length h3
   rw[lA h1 h2] at this
   simp only[List.length_nil] at this
   have hea:e=a:=by omega
   subst hea
   simp[fnd] at he
  |succ n=>simp[Au] at h3
 so e v he:=by
  rw[fnd] at he
  split at he
  ·next h=>
   cases he
   subst h
   exact⟨0,.nil,⟨Rl,ha,by simp[Au,sbt]⟩,fun _ _=>Zl⟩
  ·cases he
def StC (T:Nat→List Tre) (t:Tre) (a:Nat) (ks:List Nat) (k:Nat) (e n:Nat):Prop:=∃mid r more,Mi (WaC T t a ks) mid r∧Mi (RdC T t k mid) e more∧n=r*(T k).length+more
theorem NQ {a:Nat} {ks:List Nat} {k:Nat} {m:List (Nat×PV)} (h:Bc m (StC T t a ks k)):Bc m (WaC T t a (ks++[k])):=by
 refine h.sub (fun e n ⟨mid,r,more,⟨⟨h1,h2,h3⟩,_⟩,⟨⟨h4,h5,h6⟩,_⟩,hn⟩=>⟨by omega,h5,?_⟩) fun e n ⟨h1,h2,h3⟩=>?_
 ·exact gK.2 ⟨r,more,_,_,hn,h3,h6,lB h1 h4⟩
 ·obtain⟨i,j,u,v,rfl,h4,h5,h6⟩:=gK.1 h3
  obtain⟨c1,c2,c3⟩:=wP h1 h2 h6
  have w1:WaC T t a ks (a+u.length) i:=⟨by omega,by omega,by rw[h4,←c2]⟩
  have w2:RdC T t k (a+u.length) e j:=⟨c1,h2,by rw[h5,←c3]⟩
  obtain⟨r,r1,r2⟩:=Wt w1
  obtain⟨more,m1,m2⟩:=Wt w2
  refine⟨_,⟨_,r,more,r1,m1,rfl⟩,?_⟩
  have:=Nat.mul_le_mul_right (T k).length r2
  omega
def NoC (T:Nat→List Tre) (t:Tre) (c a:Nat) (az:List Al) (e n:Nat):Prop:=a≤e∧e≤t.length∧(A5 T c az)[n]?=some (sbt t a e)
theorem RF {c a:Nat}:Bc [] (NoC T t c a []):=Bc.nil.eq fun e n=>by simp[NoC,A5]
theorem wQ {c a:Nat} {az:List Al} {x:Al} (hx:x.d.testBit c=false) {m:List (Nat×PV)} (h:Bc m (NoC T t c a az)):Bc m (NoC T t c a (az++[x])):=
 h.eq fun e n=>by simp only[NoC,Ek,hx];simp
theorem dI {c a e n:Nat} {az:List Al} {x:Al} (hx:x.d.testBit c=true) (h1:a≤e) (h2:e≤t.length):(A5 T c (az++[x]))[n]?=some (sbt t a e)↔(A5 T c az)[n]?=some (sbt t a e) ∨
  ((A5 T c az).length≤n∧t[a]?=some x.p∧a+1≤e∧(Au T x.ks)[n-(A5 T c az).length]?=some (sbt t (a+1) e)):=by
 rw[Ek,hx,if_pos rfl,List.getElem?_append]
 by_cases hn:n<(A5 T c az).length
 ·rw[if_pos hn]
  exact⟨fun h=>.inl h,fun h=>h.elim id fun h=>absurd h.1 (by omega)⟩
 ·rw[if_neg hn,List.getElem?_map,Option.map_eq_some_iff]
  have h0:(A5 T c az)[n]?=none:=List.getElem?_eq_none (by omega)
  constructor
  ·rintro⟨w,h3,h4⟩
   obtain⟨b1,b2,b3⟩:=FT h1 h2 h4.symm
   exact .inr ⟨by omega,b2,b1,by rw[h3,b3]⟩
  ·rintro(h|⟨_,h3,h4,h5⟩)
   ·rw[h0] at h;cases h
   ·exact⟨_,h5,(LD h4 h3).symm⟩
theorem FU {c a:Nat} {az:List Al} {x:Al} (hx:x.d.testBit c=true) (hp:t[a]?≠some x.p) {m:List (Nat×PV)} (h:Bc m (NoC T t c a az)):Bc m (NoC T t c a (az++[x])):=
 h.eq fun e n=>⟨fun⟨h1,h2,h3⟩=>⟨h1,h2,(dI hx h1 h2).2 (.inl h3)⟩,fun⟨h1,h2,h3⟩=>⟨h1,h2,((dI hx h1 h2).1 h3).elim id fun h=>absurd h.2.1 hp⟩⟩
def AlC (T:Nat→List Tre) (t:Tre) (c a:Nat) (az:List Al) (ks:List Nat) (e n:Nat):Prop:=NoC T t c a az e n∨∃r,Mi (WaC T t (a+1) ks) e r∧n=(A5 T c az).length+r
theorem wR {c a:Nat} {az:List Al} {x:Al} (hx:x.d.testBit c=true) (hp:t[a]?=some x.p) {m:List (Nat×PV)} (h:Bc m (AlC T t c a az x.ks)):Bc m (NoC T t c a (az++[x])):=by
 refine h.sub (fun e n hn=>?_) fun e n ⟨h1,h2,h3⟩=>?_
 ·rcases hn with⟨h1,h2,h3⟩|⟨r,⟨⟨h1,h2,h3⟩,_⟩,rfl⟩
  ·exact⟨h1,h2,(dI hx h1 h2).2 (.inl h3)⟩
  ·exact⟨by omega,h2,(dI hx (by omega) h2).2 (.inr ⟨by omega,hp,h1,by rw[Nat.add_sub_cancel_left];exact h3⟩)⟩
 ·rcases(dI hx h1 h2).1 h3 with h4|⟨h4,h5,h6,h7⟩
  ·exact⟨n,.inl ⟨h1,h2,h4⟩,Rl⟩
  ·obtain⟨r,r1,r2⟩:=Wt (C:=WaC T t (a+1) x.ks) ⟨h6,h2,h7⟩
   exact⟨_,.inr ⟨r,r1,rfl⟩,by omega⟩
theorem US {c a e r:Nat} {az:List Al} {x:Al} (hx:x.d.testBit c=true) (h:WaC T t (a+1) x.ks e r):(A5 T c az).length+r<(A5 T c (az++[x])).length:=by
 have:=(Gi.1 h.2.2).1
 rw[Ek,hx,if_pos rfl,La,Lm];omega
end Go.Pv
end
section
noncomputable section
namespace Go.Pv
open Go.Vm
open Go.Vm.Key (kn)
def GOk (r:List (Key×Key)) (g1:Ab):List (Key×Ap)→Prop
 |[]=>True
 |(k,_)::G=>(match Bu r k with
  |some j=>g1.get j=none
  |none=>True)∧GOk r g1 G
theorem gL:∀(l G:List (Key×Ap)) (k:Key),Hb l k=none→Hb (l++G) k=Hb G k
 |[],_,_,_=>rfl
 |(a,x)::l,G,k,h=>by
  simp only[List.cons_append,Hb] at h ⊢
  split
  ·next e=>simp only[e] at h;cases h
  ·next e=>simp only[e] at h;exact gL l G k h
theorem GOk.get {r:List (Key×Key)} {g1:Ab}:∀{G:List (Key×Ap)},GOk r g1 G→∀k x,Hb G k=some x→∀j,Bu r k=some j→g1.get j=none
 |[],_,k,x,h,_,_=>by cases h
 |(a,z)::G,hg,k,x,h,j,hj=>by
  simp only[Hb] at h
  split at h
  ·next e=>
   have:=Cz e
   subst this
   have h1:=hg.1
   rw[hj] at h1
   exact h1
  ·exact hg.2.get k x h j hj
theorem Trim.ofG {lo:Nat} (r:List (Key×Key)) (G:List (Key×Ap)) {L1 L2:Fm} {g1:Ab} {l:List (Key×Ap)} {nx:Key} (hn:D3 lo nx.toNat (l++G) r [] []=true) (hlo:lo≤nx.toNat) (hlow:oB g1 l lo) (hb:Ou (rho lo r) g1 l) (hG:GOk r g1 G) (hf:M1 (rho lo r) L1 L2) :
  Trim lo (rho lo r) L1 g1 L2 (mkH l nx):=by
 obtain⟨i1,i2⟩:=Gz hn
 have low:∀k:Key,k.toNat<lo→rho lo r k=some k:=fun k hk=>by
  have:Nat.blt k.toNat lo=true:=by rw[Nat.blt_eq];exact hk
  simp only[rho,this]
 have high:∀k:Key,¬k.toNat<lo→rho lo r k=Bu r k:=fun k hk=>by
  have:Nat.blt k.toNat lo=false:=by
   cases hh:Nat.blt k.toNat lo with
   |false=>rfl
   |true=>rw[Nat.blt_eq] at hh;exact absurd hh hk
  simp only[rho,this]
 refine⟨fun k hk=>⟨low k hk,by rw[Ih];exact hlow.get k hk⟩,fun k k' j h h'=>?_,fun k j h hj=>?_,fun k x hx=>?_,fun k j h hg=>?_,hf.get,hlo⟩
 ·by_cases hk:k.toNat<lo<;>by_cases hk':k'.toNat<lo
  ·rw[low k hk] at h;rw[low k' hk'] at h';cases h;cases h';rfl
  ·rw[low k hk] at h;rw[high k' hk'] at h';cases h
   have:=(i1 k' k h').2.1;omega
  ·rw[high k hk] at h;rw[low k' hk'] at h';cases h'
   have:=(i1 k k' h).2.1;omega
  ·rw[high k hk] at h;rw[high k' hk'] at h';exact i2 k k' j h h'
 ·by_cases hk:k.toNat<lo
  ·exact⟨Nat.lt_of_lt_of_le hk hlo,fun hh=>by omega⟩
  ·rw[high k hk] at h
   obtain⟨a1,a2,a3,_⟩:=i1 k j h
   exact⟨a3,fun _=>a2⟩
 ·rw[Ih] at hx
  exact hb.get k x hx
 ·rw[Ih] at hg
  by_cases hk:k.toNat<lo
  ·rw[low k hk] at h;cases h
   rw[←hlow.get k hk];exact hg
  ·rw[high k hk] at h
   have h1:=(i1 k j h).2.2.2.1
   rw[gL l G k hg] at h1
   cases hx:Hb G k with
   |none=>rw[hx] at h1;cases h1
   |some x=>exact hG.get k x hx j h
def nav:List Nat→Ay→Ay
 |[],c=>c
 |0::p,.seq a _=>nav p a
 |_::p,.seq _ b=>nav p b
 |0::p,.cond _ a _=>nav p a
 |_::p,.cond _ _ b=>nav p b
 |_::p,.block _ a=>nav p a
 |_::p,.loop a=>nav p a
 |_::_,c=>c
end Go.Pv
end
section
noncomputable section
namespace Go.Pv
open Go.Vm Go.Vm.C
open Go.Vm.Key (kn)
set_option maxRecDepth 40000
set_option maxHeartbeats 0
attribute [local irreducible] PX PXL PXC
def cL0:Ay:=nav [1,1,1,1,0,1,0] C.f58.body
def cL2:Ay:=nav [0,1,1,0,0,1,1,0,1,0,1,0,1,0] cL0
def cL4:Ay:=nav [0,1,1,0,0,1,1,0,1,0] cL2
def cL6:Ay:=nav [0,1,1,1,1,1,1,1,0] cL4
def cL8:Ay:=nav [0,1,1,0,0,1,1,0,1,0,1,1,1,0] cL0
abbrev pA (k:Key):FE:=.v (.v (.s (.ptr k 0)))
abbrev mA (k:Key):FE:=.v (.v (.s (.map k)))
abbrev jA (al:List Al) (bv:PV) (j:Nat):Fm:=[(k1,pA k3),(k2,pA k4),(k3,pA k5),(k4,pA k6),(k5,pA k2),(k6,pA k9),(k8,mA k10),(k9,pA k11),(k10,.v (.v (.s bv))),(k32,.v (PA.lst 4 (al.map aV))),(k33,.v (iA (al.map aV).length)),(k34,.v (iA j))]
abbrev jK (al:List Al) (bv:PV) (j:Nat) (ks:List Nat) (q:Nat):Fm:=jA al bv j++[(k12,pA k12),(k69,.v (PA.lst 4 (ks.map kV))),(k70,.v (iA (ks.map kV).length)),(k71,.v (iA q))]
abbrev jX (al:List Al) (bv:PV) (j:Nat) (ks:List Nat) (q:Nat):Fm:=jK al bv j ks q++[(k15,pA k14),(k16,mA k15),(k77,pA k16)]
abbrev jY (al:List Al) (bv:PV) (j:Nat) (ks:List Nat) (q:Nat) (rv:PV):Fm:=jX al bv j ks q++[(k18,.v (.v (.s rv))),(k115,pA k18)]
abbrev hA (f:Fo) (c:Nat) (tot:PV) (t:Tre) (i a:Nat) (nd:Nd) (m:List (Nat×PV)) (K:Kn) (l0 l1 l8:List (Nat×Nat)) (out:List (Nat×PV)):List (Key×Ap):=
 rkL f c tot t m K l0 l1 l8++[(k9,obl [.int .i64 (i:Nat),.int .i64 (a:Nat)] []),(k10,mpB out []),(k11,obl (nC nd) [])]
abbrev hX (f:Fo) (c:Nat) (tot:PV) (t:Tre) (i a:Nat) (nd:Nd) (m:List (Nat×PV)) (K:Kn) (l0 l1 l8:List (Nat×Nat)) (out:List (Nat×PV)) (x:Al) (k:Nat) (nx:List (Nat×PV)):List (Key×Ap):=
 hA f c tot t i a nd m K l0 l1 l8 out++[(k12,obl (aC x) []),(k14,obl (kV k) []),(k15,mpB nx [])]
abbrev rY:List (Key×Key):=[(k9,k9),(k10,k10),(k11,k11),(k12,k12),(k14,k14),(k15,k15),(k16,k16),(k18,k18)]
abbrev Wu:Ap:=obl [] []
def InC (T:Nat→List Tre) (DO:Nat→Nat→Prop) (k r:Nat) (ms:List (Nat×PV)) (S:List Nat) (e n:Nat):Prop:=DO e n∨∃(j:Nat) (v:PV) (more:Nat),j∈S∧ms[j]?=some (e,v)∧Aq more v∧n=r*(T k).length+more
section
variable {P:Program} {T:Nat→List Tre} {f:Fo} {c:Nat} {tot:PV} {t:Tre} {i a:Nat} {nd:Nd} {K:Kn} {l8:List (Nat×Nat)} {out:List (Nat×PV)} {x:Al}
theorem trX {L1 L2:Fm} {nx9:Key} {m nx:List (Nat×PV)} {k:Nat} {l0 l1:List (Nat×Nat)} {g:Ab} {CO DO:Nat→Nat→Prop} (ht:Ae tot) (hO:Bc out CO) (hnx:Bc nx DO) (h:RkH T f c tot t m K l0 l1 l8 g) (h9:∃l,g.get k9=some (obl [.int .i64 (i:Nat),.int .i64 (a:Nat)] l)) (h10:∃l,g.get k10=some (mpB out l))
  (h11:∃l,g.get k11=some (obl (nC nd) l)) (h12:∃l,g.get k12=some (obl (aC x) l)) (h14:∃l,g.get k14=some (obl (kV k) l)) (h15:∃l,g.get k15=some (mpB nx l)) (r:List (Key×Key)) (G:List (Key×Ap)) (hr:∀k∈[k9,k10,k11,k12,k14,k15],rho 9 r k=some k)
  (hn:D3 9 nx9.toNat (hX f c tot t i a nd m K l0 l1 l8 out x k nx++G) r [] []=true) (hnn:9≤nx9.toNat) (hG:GOk r g G) (hf:M1 (rho 9 r) L1 L2):Trim 9 (rho 9 r) L1 g L2 (mkH (hX f c tot t i a nd m K l0 l1 l8 out x k nx) nx9):=by
 obtain⟨_,h9⟩:=h9
 obtain⟨_,h10⟩:=h10
 obtain⟨_,h11⟩:=h11
 obtain⟨_,h12⟩:=h12
 obtain⟨_,h14⟩:=h14
 obtain⟨_,h15⟩:=h15
 exact Trim.ofG r G hn hnn ⟨h.e8.symm,h.e7.symm,h.e6.symm,h.e5.symm,h.e4.symm,h.e3.symm,h.e2.symm,h.e1.symm,h.e0.symm,trivial⟩
  ⟨⟨_,_,rfl,h.e0,.same Yc⟩,⟨_,_,rfl,h.e1,.map h.hm⟩,⟨_,_,rfl,h.e2,.same Yc⟩,⟨_,_,rfl,h.e3,.same Yc⟩,⟨_,_,rfl,h.e4,.same Yc⟩,⟨_,_,rfl,h.e5,.same Yc⟩,⟨_,_,rfl,h.e6,.same Yc⟩,⟨_,_,rfl,h.e7,.same Yc⟩,⟨_,_,rfl,h.e8,.kk⟩,
   ⟨_,_,hr k9 (by simp),h9,.same Yc⟩,⟨_,_,hr k10 (by simp),h10,hO.blk⟩,⟨_,_,hr k11 (by simp),h11,.same Yc⟩,⟨_,_,hr k12 (by simp),h12,.same Yc⟩,⟨_,_,hr k14 (by simp),h14,.same Yc⟩,⟨_,_,hr k15 (by simp),h15,hnx.blk⟩,trivial⟩ hG hf
theorem l6 (pf:PF P Fn) (ht:Ae tot) {al:List Al} {bv:PV} {j0:Nat} {ks:List Nat} {q k r mid:Nat} {rv:PV} {ms:List (Nat×PV)} {itO:PIt} {DO CO:Nat→Nat→Prop} (hO:Bc out CO) (hbv:Ae bv) (hK:KOk T t K) (hr:Aq r rv) (hms:zQ T t k mid ms) (hkid:Qa T f c tot k)
  (hB:∀more,more<(T k).length→r*(T k).length+more<4294967296) (hito:itO.k=k16) {m:List (Nat×PV)} {l0 l1:List (Nat×Nat)} {nx:List (Nat×PV)} (hm:Bk T m) (lg:Lg l0) (hnx:Bc nx DO) {Q:PQT}
  (hQ:∀m' l0' l1' nx' S,Bk T m'→Lg l0'→Bc nx' (InC T DO k r ms S)→(∀j,j<ms.length→j∈S)→(∀j∈S,j<ms.length)→Q (.exit 6) ((k117,.v (bA false))::(k116,.v (.tup [.s (.bool false)]))::jY al bv j0 ks q rv) (mkH (hX f c tot t i a nd m' K l0' l1' l8 out x k nx') k19) [itO,⟨k18,mKs ms,mVs ms,S⟩]) :
  PX P 9 cL6 (jY al bv j0 ks q rv) (mkH (hX f c tot t i a nd m K l0 l1 l8 out x k nx) k19) [itO,⟨k18,mKs ms,mVs ms,[]⟩] Q:=by
 have rnk:=hr.nk
 have hid:∀k∈[k9,k10,k11,k12,k14,k15],rho 9 rY k=some k:=by simp only[List.mem_cons,List.not_mem_nil,or_false,forall_eq_or_imp,forall_eq];exact⟨rfl,rfl,rfl,rfl,rfl,rfl⟩
 have hkl:(mKs ms).length=ms.length:=Lm ..
 refine PX.A7 (σ:=List Nat) (fun S=>ms.length-S.length) (fun _=>jY al bv j0 ks q rv)
  (fun S g=>S.Nodup∧(∀j∈S,j<ms.length)∧∃m' l0' l1' nx',Bk T m'∧Lg l0'∧Bc nx' (InC T DO k r ms S)∧g=mkH (hX f c tot t i a nd m' K l0' l1' l8 out x k nx') k19) (fun S=>[itO,⟨k18,mKs ms,mVs ms,S⟩]) []
  (ρ:=rho 9 rY) (g0:=mkH (hX f c tot t i a nd m K l0 l1 l8 out x k nx) k19) ?_ ?_ ⟨.nil,by simp,m,l0,l1,nx,hm,lg,hnx.eq fun e n=>by simp[InC],rfl⟩ ?_
 ·exact trX ht hO hnx ⟨hm,hK,lg,rfl,rfl,rfl,rfl,rfl,rfl,rfl,rfl,rfl⟩ ⟨_,rfl⟩ ⟨_,rfl⟩ ⟨_,rfl⟩ ⟨_,rfl⟩ ⟨_,rfl⟩ ⟨_,rfl⟩ rY [(k16,Wu),(k18,Wu)] hid rfl (by decide) ⟨rfl,rfl,trivial⟩ Yf
 ·exact .cons ⟨by rw[hito];rfl,rfl,rfl,rfl⟩ (.cons ⟨rfl,rfl,rfl,rfl⟩ .nil)
 rintro S g ⟨hS1,hS2,m',l0',l1',nx',hm',lg',hnx',rfl⟩
 refine PX.seq (PX.region (PXL.next (I1:=[itO]) (I2:=[]) rfl rfl (fun hall=>?_) fun j key val hj hk hv=>?_))
 ·refine PXL.split 1 (pu:=pt) pf ?_
  refine Yw1 ?_
  refine PXL.nil ?_
  refine PX.seq (PX.wp (pu:=pt) pf ?_)
  refine Yw1 ?_
  exact hQ m' l0' l1' nx' S hm' lg' hnx' (fun j hj=>hall j (by rw[hkl];exact hj)) hS2
 ·refine PXL.split 1 (pu:=pt) pf ?_
  refine Yw1 ?_
  refine PXL.nil ?_
  refine PX.seq (PX.wp (pu:=pt) pf ?_)
  refine Yw1 ?_
  refine PX.block (PX.seq (PX.region (PXL.entry (I1:=[itO]) (I2:=[]) rfl rfl rfl hk hv ?_)))
  obtain⟨p,hp,rfl⟩:∃p,ms[j]?=some p∧key=.int .i64 (p.1:Nat):=by
   simp only[List.getElem?_map,Option.map_eq_some_iff] at hk
   obtain⟨p,h1,h2⟩:=hk
   exact⟨p,h1,h2.symm⟩
  obtain rfl:val=p.2:=by
   simp only[List.getElem?_map,hp,Option.map_some,Sj] at hv
   exact hv.symm
  obtain⟨e,v⟩:=p
  obtain⟨more,hmv,hmi⟩:=hms.mi (Rg hms.keys hp)
  have hml:more<(T k).length:=(Gi.1 hmi.1.2.2).1
  have vnk:=hmv.nk
  refine PXL.split 4 (pu:=pt) pf ?_
  refine Yw1 ?_
  refine PXL.nil ?_
  refine PX.wp (pu:=pt) pf ?_
  refine Yw1 ?_
  simp only at hmv hmi vnk
  refine XC.Be (l:=tyL f c tot m' [] []) (nx:=k2) tyR (hkid m' hm') rfl rfl (Du ht hm' rfl rfl) Ya ?_
  rintro rc gc' ⟨⟨u,rfl,hu⟩,m2,a0,a1,hm2,_,lga0,e0,e1⟩
  have unk:=hu.nk
  refine⟨[],k19,tyX f c tot m2 (a0++_) (a1++_),[],.v (.s u),rfl,Rl,Dz ht hm2 e0 e1 rfl rfl rfl rfl,trivial,hu.nk.rn,?_⟩
  have hlt:=hB more hml
  have hmul:=Uw (f:=f) (c:=c) (tot:=tot) hm2 hr hu (by omega)
  refine Yw1 ?_
  clear e0 e1
  refine XC.Be (l:=tyL f c tot m2 [] []) (nx:=k2) tyR hmul rfl rfl (Du ht hm2 rfl rfl) Ya ?_
  rintro rc gc' ⟨⟨w,rfl,hw⟩,m3,b0,b1,hm3,_,lgb0,e0,e1⟩
  have wnk:=hw.nk
  refine⟨[],k19,tyX f c tot m3 (b0++_) (b1++_),[],.v (.s w),rfl,Rl,Dz ht hm3 e0 e1 rfl rfl rfl rfl,trivial,hw.nk.rn,?_⟩
  have hadd:=S9 (f:=f) (c:=c) (tot:=tot) hm3 hw hmv hlt
  refine Yw1 ?_
  clear e0 e1
  refine XC.Be (l:=tyL f c tot m3 [] []) (nx:=k2) tyR hadd rfl rfl (Du ht hm3 rfl rfl) Ya ?_
  rintro rc gc' ⟨⟨z,rfl,hz⟩,m4,c0,c1,hm4,_,lgc0,e0,e1⟩
  have znk:=hz.nk
  refine⟨[],k19,tyX f c tot m4 (c0++_) (c1++_),[],.v (.s z),rfl,Rl,Dz ht hm4 e0 e1 rfl rfl rfl rfl,trivial,hz.nk.rn,?_⟩
  have hput:=FM hnx' (e:=e) hz
  refine Yw1 ?_
  clear e0 e1
  refine XC.Be (l:=[(k0,mpB nx' [])]) (nx:=k1) [(k0,k15)] hput rfl rfl ⟨⟨_,_,rfl,rfl,hnx'.blk⟩,trivial⟩ Ya ?_
  rintro rc gc' ⟨rfl,nx2,lp,e0,hnx2⟩
  refine⟨[],k19,[some (mpB nx2 (lp++[]))],[],.unit,rfl,Rl,⟨⟨_,_,_,e0,hnx2.blk,rfl,rfl,rfl,rfl⟩,trivial⟩,trivial,.nil,?_⟩
  refine Yw1 ?_
  have hjl:j<ms.length:=(Gi.1 hp).1
  have hnd:(S++[j]).Nodup:=List.nodup_append.2 ⟨hS1,by simp,fun y hy z hz hyz=>by rw[List.mem_singleton] at hz;subst hz;subst hyz;exact hj hy⟩
  have hbd:∀y∈S++[j],y<ms.length:=fun y hy=>by
   rcases List.mem_append.1 hy with hy|hy
   ·exact hS2 y hy
   ·rw[List.mem_singleton] at hy;rw[hy];exact hjl
  refine⟨S++[j],_,_,_,[],?_,trX (nx9:=k19) ht hO hnx2 ⟨hm4,hK,Yg,rfl,rfl,rfl,rfl,rfl,rfl,rfl,rfl,rfl⟩ ⟨_,rfl⟩ ⟨_,rfl⟩ ⟨_,rfl⟩ ⟨_,rfl⟩ ⟨_,rfl⟩ ⟨_,rfl⟩ rY [(k16,Wu),(k18,Wu)] hid rfl (by decide) ⟨rfl,rfl,trivial⟩ Yf,(List.append_nil _).symm,.cons ⟨by rw[hito];rfl,rfl,rfl,rfl⟩ (.cons ⟨rfl,rfl,rfl,rfl⟩ .nil),?_⟩
  ·have:=Gh ms.length (S++[j]) hnd hbd
   simp only[La,List.length_singleton] at this ⊢
   omega
  ·refine⟨hnd,hbd,m4,_,_,nx2,hm4,Yg,hnx2.eq fun e' n=>⟨fun h=>?_,fun h=>?_⟩,rfl⟩
   ·rcases h with(h|⟨j',v',mr,h1,h2,h3,h4⟩)|⟨rfl,rfl⟩
    ·exact .inl h
    ·exact .inr ⟨j',v',mr,by simp[h1],h2,h3,h4⟩
    ·exact .inr ⟨j,v,more,by simp,hp,hmv,rfl⟩
   ·rcases h with h|⟨j',v',mr,h1,h2,h3,h4⟩
    ·exact .inl (.inl h)
    ·rcases List.mem_append.1 h1 with h1|h1
     ·exact .inl (.inr ⟨j',v',mr,h1,h2,h3,h4⟩)
     ·rw[List.mem_singleton] at h1;subst h1
      rw[hp] at h2;cases h2
      rw[h3.uniq hmv] at h4
      exact .inr ⟨rfl,h4⟩
end
end Go.Pv
end
section
noncomputable section
namespace Go.Pv
open Go.Vm Go.Vm.C
open Go.Vm.Key (kn)
set_option maxRecDepth 40000
set_option maxHeartbeats 0
attribute [local irreducible] PX PXL PXC
def OuC (T:Nat→List Tre) (t:Tre) (k:Nat) (wm:List (Nat×PV)) (S:List Nat) (e n:Nat):Prop:=∃(j mid:Nat) (v:PV) (r more:Nat),j∈S∧wm[j]?=some (mid,v)∧Aq r v∧Mi (RdC T t k mid) e more∧n=r*(T k).length+more
abbrev rX:List (Key×Key):=[(k9,k9),(k10,k10),(k11,k11),(k12,k12),(k14,k14),(k15,k15),(k16,k16)]
theorem RG:∀k∈[k9,k10,k11,k12,k14,k15],rho 9 rX k=some k:=by simp only[List.mem_cons,List.not_mem_nil,or_false,forall_eq_or_imp,forall_eq];exact⟨rfl,rfl,rfl,rfl,rfl,rfl⟩
theorem XO:∀k∈[k9,k10,k11,k12,k14,k15],rho 9 rY k=some k:=by simp only[List.mem_cons,List.not_mem_nil,or_false,forall_eq_or_imp,forall_eq];exact⟨rfl,rfl,rfl,rfl,rfl,rfl⟩
section
variable {P:Program} {T:Nat→List Tre} {f:Fo} {c:Nat} {tot:PV} {t:Tre} {i a:Nat} {nd:Nd} {out:List (Nat×PV)} {x:Al}
theorem l4 (pf:PF P Fn) (ht:Ae tot) {al:List Al} {bv:PV} {j0:Nat} {ks:List Nat} {q k b0:Nat} {kq:List Nat} {wm:List (Nat×PV)} {CO:Nat→Nat→Prop} (hO:Bc out CO) (hbv:Ae bv) (hw:Bc wm (WaC T t b0 kq)) (hkid:Qa T f c tot k) (hget:Ws P T f c tot t k)
  (hB:(Au T (kq++[k])).length<4294967296) {m:List (Nat×PV)} {K:Kn} {l0 l1 l8:List (Nat×Nat)} (hm:Bk T m) (hK:KOk T t K) (lg:Lg l0) {Q:PQT}
  (hQ:∀m' K' l0' l1' l8' nx' S,Bk T m'→KOk T t K'→Lg l0'→Bc nx' (StC T t b0 kq k)→Q (.exit 4) ((k79,.v (bA false))::(k78,.v (.tup [.s (.bool false)]))::jX al bv j0 ks q) (mkH (hX f c tot t i a nd m' K' l0' l1' l8' out x k nx') k17) [⟨k16,mKs wm,mVs wm,S⟩]) :
  PX P 9 cL4 (jX al bv j0 ks q) (mkH (hX f c tot t i a nd m K l0 l1 l8 out x k []) k17) [⟨k16,mKs wm,mVs wm,[]⟩] Q:=by
 have hkl:(mKs wm).length=wm.length:=Lm ..
 refine PX.A7 (σ:=List Nat) (fun S=>wm.length-S.length) (fun _=>jX al bv j0 ks q)
  (fun S g=>S.Nodup∧(∀j∈S,j<wm.length)∧∃m' K' l0' l1' l8' nx',Bk T m'∧KOk T t K'∧Lg l0'∧Bc nx' (OuC T t k wm S)∧g=mkH (hX f c tot t i a nd m' K' l0' l1' l8' out x k nx') k17) (fun S=>[⟨k16,mKs wm,mVs wm,S⟩]) []
  (ρ:=rho 9 rX) (g0:=mkH (hX f c tot t i a nd m K l0 l1 l8 out x k []) k17) ?_ ?_ ⟨.nil,by simp,m,K,l0,l1,l8,[],hm,hK,lg,Bc.nil.eq fun e n=>by simp[OuC],rfl⟩ ?_
 ·exact trX ht hO Bc.nil ⟨hm,hK,lg,rfl,rfl,rfl,rfl,rfl,rfl,rfl,rfl,rfl⟩ ⟨_,rfl⟩ ⟨_,rfl⟩ ⟨_,rfl⟩ ⟨_,rfl⟩ ⟨_,rfl⟩ ⟨_,rfl⟩ rX [(k16,Wu)] RG rfl (by decide) ⟨rfl,trivial⟩ Yf
 ·exact .cons ⟨rfl,rfl,rfl,rfl⟩ .nil
 rintro S g ⟨hS1,hS2,m',K',l0',l1',l8',nx',hm',hK',lg',hnx',rfl⟩
 refine PX.seq (PX.region (PXL.next (I1:=[]) (I2:=[]) rfl rfl (fun hall=>?_) fun j key val hj hk hv=>?_))
 ·refine PXL.split 1 (pu:=pt) pf ?_
  refine Yw1 ?_
  refine PXL.nil ?_
  refine PX.seq (PX.wp (pu:=pt) pf ?_)
  refine Yw1 ?_
  refine hQ m' K' l0' l1' l8' nx' S hm' hK' lg' (hnx'.eq fun e n=>⟨?_,?_⟩)
  ·rintro⟨j,mid,v,r,more,h1,h2,h3,h4,h5⟩
   obtain⟨r',a1,a2⟩:=hw.mi (Rg hw.keys h2)
   rw[h3.uniq a1] at h5
   exact⟨mid,r',more,a2,h4,h5⟩
  ·rintro⟨mid,r,more,h1,h2,h3⟩
   obtain⟨v,a1,a2⟩:=hw.FQ h1
   obtain⟨j,hj⟩:=kZ a1
   exact⟨j,mid,v,r,more,hall j (by rw[hkl];exact(Gi.1 hj).1),hj,a2,h2,h3⟩
 ·refine PXL.split 1 (pu:=pt) pf ?_
  refine Yw1 ?_
  refine PXL.nil ?_
  refine PX.seq (PX.wp (pu:=pt) pf ?_)
  refine Yw1 ?_
  refine PX.block (PX.seq (PX.region (PXL.entry (I1:=[]) (I2:=[]) rfl rfl rfl hk hv ?_)))
  obtain⟨p,hp,rfl⟩:∃p,wm[j]?=some p∧key=.int .i64 (p.1:Nat):=by
   simp only[List.getElem?_map,Option.map_eq_some_iff] at hk
   obtain⟨p,h1,h2⟩:=hk
   exact⟨p,h1,h2.symm⟩
  obtain rfl:val=p.2:=by
   simp only[List.getElem?_map,hp,Option.map_some,Sj] at hv
   exact hv.symm
  obtain⟨mid,v⟩:=p
  obtain⟨r,hrv,hmi⟩:=hw.mi (Rg hw.keys hp)
  simp only at hrv hmi
  have vnk:=hrv.nk
  refine PXL.split 4 (pu:=pt) pf ?_
  refine Yw1 ?_
  refine PXL.nil ?_
  refine PX.seq (PX.wp (pu:=pt) pf ?_)
  refine Yw1 ?_
  refine PX.seq (PX.seq (PX.wp (pu:=pt) pf ?_))
  refine Yw1 ?_
  refine PX.cond rfl rfl (fun _=>?_) (fun h=>by cases h)
  refine PX.region (PXL.split 5 (pu:=pt) pf ?_)
  refine Yw1 ?_
  refine PXL.call rfl (PAt ht ⟨hm',hK',lg',rfl,rfl,rfl,rfl,rfl,rfl,rfl,rfl,rfl⟩ rfl Ya (hget m' K' mid hm' hK')) ?_
  rintro r1 g' ⟨ms,m2,K2,a0,a1,a8,rfl,hms,hm2,hK2,lga,rfl⟩
  conv=>whnf
  refine PXL.split 1 (pu:=pt) pf ?_
  refine Yw1 ?_
  refine PXL.nil ?_
  refine PX.seq (PX.region (PXL.split 1 (pu:=pt) pf ?_))
  refine Yw1 ?_
  refine PXL.range rfl rfl (PXL.nil ?_)
  refine PX.block (PX.trim (trX (nx9:=k19) (k:=k) ht hO hnx' ⟨hm2,hK2,lga,rfl,rfl,rfl,rfl,rfl,rfl,rfl,rfl,rfl⟩ ⟨_,rfl⟩ ⟨_,rfl⟩ ⟨_,rfl⟩ ⟨_,rfl⟩ ⟨_,rfl⟩ ⟨_,rfl⟩ rY [(k16,Wu),(k18,Wu)] XO rfl (by decide) ⟨rfl,rfl,trivial⟩ ?_) (.cons ⟨rfl,rfl,rfl,rfl⟩ (.cons ⟨rfl,rfl,rfl,rfl⟩ .nil))
   (l6 (al:=al) (bv:=bv) (j0:=j0) (ks:=ks) (q:=q) (k:=k) (rv:=v) (itO:=⟨k16,mKs wm,mVs wm,S++[j]⟩) pf ht hO hbv hK2 hrv hms hkid ?_ rfl hm2 lga hnx' ?_))
  ·repeat' first|refine⟨⟨_,rfl,rfl⟩,?_⟩|refine⟨⟨_,rfl,Ae.rn (by assumption)⟩,?_⟩|exact trivial|fail
  ·intro more hml
   have:(Au T (kq++[k])).length=(Au T kq).length*(T k).length:=zR kq k
   have hr:r<(Au T kq).length:=(Gi.1 hmi.1.2.2).1
   have h3:(r+1)*(T k).length≤(Au T kq).length*(T k).length:=Nat.mul_le_mul_right _ hr
   rw[Nat.add_mul] at h3
   omega
  ·intro m3 c0 c1 nx3 S3 hm3 lgc hnx3 hall hS3
   have hjl:j<wm.length:=(Gi.1 hp).1
   have hnd:(S++[j]).Nodup:=List.nodup_append.2 ⟨hS1,by simp,fun y hy z hz hyz=>by rw[List.mem_singleton] at hz;subst hz;subst hyz;exact hj hy⟩
   have hbd:∀y∈S++[j],y<wm.length:=fun y hy=>by
    rcases List.mem_append.1 hy with hy|hy
    ·exact hS2 y hy
    ·rw[List.mem_singleton] at hy;rw[hy];exact hjl
   refine Yw1 ?_
   refine⟨S++[j],_,_,[_],[_],?_,trX (nx9:=k17) (k:=k) ht hO hnx3 ⟨hm3,hK2,lgc,rfl,rfl,rfl,rfl,rfl,rfl,rfl,rfl,rfl⟩ ⟨_,rfl⟩ ⟨_,rfl⟩ ⟨_,rfl⟩ ⟨_,rfl⟩ ⟨_,rfl⟩ ⟨_,rfl⟩ rX [(k16,Wu)] RG rfl (by decide) ⟨rfl,trivial⟩ Yf,rfl,.cons ⟨rfl,rfl,rfl,rfl⟩ .nil,?_⟩
   ·have:=Gh wm.length (S++[j]) hnd hbd
    simp only[La,List.length_singleton] at this ⊢
    omega
   ·refine⟨hnd,hbd,m3,_,_,_,_,nx3,hm3,hK2,lgc,hnx3.eq fun e' n=>⟨fun h=>?_,fun h=>?_⟩,rfl⟩
    ·rcases h with⟨j',mid',v',r',mr,h1,h2,h3,h4,h5⟩|⟨j2,v2,more,h1,h2,h3,h4⟩
     ·exact⟨j',mid',v',r',mr,by simp[h1],h2,h3,h4,h5⟩
     ·obtain⟨more',b1,b2⟩:=hms.mi (Rg hms.keys h2)
      rw[h3.uniq b1] at h4
      exact⟨j,mid,v,r,more',by simp,hp,hrv,b2,h4⟩
    ·obtain⟨j',mid',v',r',mr,h1,h2,h3,h4,h5⟩:=h
     rcases List.mem_append.1 h1 with h1|h1
     ·exact .inl ⟨j',mid',v',r',mr,h1,h2,h3,h4,h5⟩
     ·rw[List.mem_singleton] at h1;subst h1
      rw[hp] at h2;cases h2
      rw[h3.uniq hrv] at h5
      obtain⟨v2,b1,b2⟩:=hms.FQ h4
      obtain⟨j2,hj2⟩:=kZ b1
      exact .inr ⟨j2,v2,mr,hall j2 (Gi.1 hj2).1,hj2,b2,h5⟩
end
end Go.Pv
end
section
noncomputable section
namespace Go.Pv
open Go.Vm Go.Vm.C
open Go.Vm.Key (kn)
set_option maxRecDepth 40000
set_option maxHeartbeats 0
attribute [local irreducible] PX PXL PXC
abbrev hW (f:Fo) (c:Nat) (tot:PV) (t:Tre) (i a:Nat) (nd:Nd) (m:List (Nat×PV)) (K:Kn) (l0 l1 l8:List (Nat×Nat)) (out:List (Nat×PV)) (x:Al) (wm:List (Nat×PV)):List (Key×Ap):=
 hA f c tot t i a nd m K l0 l1 l8 out++[(k12,obl (aC x) []),(k13,mpB wm [])]
abbrev jW (al:List Al) (bv:PV) (j:Nat) (ks:List Nat) (q:Nat):Fm:=jK al bv j ks q++[(k13,mA k13)]
abbrev rW (k:Key):List (Key×Key):=[(k9,k9),(k10,k10),(k11,k11),(k12,k12),(k13,k)]
section
variable {P:Program} {T:Nat→List Tre} {f:Fo} {c:Nat} {tot:PV} {t:Tre} {i a:Nat} {nd:Nd} {out:List (Nat×PV)} {x:Al}
theorem trW {L1 L2:Fm} {m wm:List (Nat×PV)} {K:Kn} {l0 l1 l8:List (Nat×Nat)} {g:Ab} {CO DO:Nat→Nat→Prop} (ht:Ae tot) (hO:Bc out CO) (hnx:Bc wm DO) (h:RkH T f c tot t m K l0 l1 l8 g) (h9:∃l,g.get k9=some (obl [.int .i64 (i:Nat),.int .i64 (a:Nat)] l)) (h10:∃l,g.get k10=some (mpB out l))
  (h11:∃l,g.get k11=some (obl (nC nd) l)) (h12:∃l,g.get k12=some (obl (aC x) l)) (kw:Key) (h13:∃l,g.get kw=some (mpB wm l)) (hr:∀k∈[k9,k10,k11,k12],rho 9 (rW kw) k=some k) (hr2:rho 9 (rW kw) k13=some kw)
  (hn:D3 9 k14.toNat (hW f c tot t i a nd m K l0 l1 l8 out x wm) (rW kw) [] []=true) (hf:M1 (rho 9 (rW kw)) L1 L2):Trim 9 (rho 9 (rW kw)) L1 g L2 (mkH (hW f c tot t i a nd m K l0 l1 l8 out x wm) k14):=by
 obtain⟨_,h9⟩:=h9
 obtain⟨_,h10⟩:=h10
 obtain⟨_,h11⟩:=h11
 obtain⟨_,h12⟩:=h12
 obtain⟨_,h13⟩:=h13
 exact Trim.of (rW kw) hn (by decide) ⟨h.e8.symm,h.e7.symm,h.e6.symm,h.e5.symm,h.e4.symm,h.e3.symm,h.e2.symm,h.e1.symm,h.e0.symm,trivial⟩
  ⟨⟨_,_,rfl,h.e0,.same Yc⟩,⟨_,_,rfl,h.e1,.map h.hm⟩,⟨_,_,rfl,h.e2,.same Yc⟩,⟨_,_,rfl,h.e3,.same Yc⟩,⟨_,_,rfl,h.e4,.same Yc⟩,⟨_,_,rfl,h.e5,.same Yc⟩,⟨_,_,rfl,h.e6,.same Yc⟩,⟨_,_,rfl,h.e7,.same Yc⟩,⟨_,_,rfl,h.e8,.kk⟩,
   ⟨_,_,hr k9 (by simp),h9,.same Yc⟩,⟨_,_,hr k10 (by simp),h10,hO.blk⟩,⟨_,_,hr k11 (by simp),h11,.same Yc⟩,⟨_,_,hr k12 (by simp),h12,.same Yc⟩,⟨_,_,hr2,h13,hnx.blk⟩,trivial⟩ hf
theorem RH (k:Key):∀j∈[k9,k10,k11,k12],rho 9 (rW k) j=some j:=by simp only[List.mem_cons,List.not_mem_nil,or_false,forall_eq_or_imp,forall_eq];exact⟨rfl,rfl,rfl,rfl⟩
theorem lC (m:List (Nat×PV)):∀x∈mKs m,Ae x:=fun x hx=>by
 obtain⟨p,_,rfl⟩:=List.mem_map.1 hx
 exact trivial
theorem Bc.nks {m:List (Nat×PV)} {C:Nat→Nat→Prop} (h:Bc m C):∀x∈mVs m,Ae x:=fun x hx=>by
 obtain⟨p,hp,rfl⟩:=List.mem_map.1 hx
 obtain⟨n,hn⟩:=h.val p hp
 exact hn.nk
theorem Ze (m:List (Nat×PV)):(mVs m).length=(mKs m).length:=by simp
theorem l2 (pf:PF P Fn) (ht:Ae tot) {al:List Al} {bv:PV} {j0:Nat} {ks:List Nat} {b0:Nat} {CO:Nat→Nat→Prop} (hO:Bc out CO) (hbv:Ae bv) (hkid:∀k∈ks,Qa T f c tot k∧Ws P T f c tot t k)
  (hB:∀q,(Au T (ks.take q)).length<4294967296) (hkl2:ks.length≤2) {wm:List (Nat×PV)} (hw:Bc wm (WaC T t b0 [])) {m:List (Nat×PV)} {K:Kn} {l0 l1 l8:List (Nat×Nat)} (hm:Bk T m) (hK:KOk T t K) (lg:Lg l0) {Q:PQT}
  (hQ:∀m' K' l0' l1' l8' wm' y,Bk T m'→KOk T t K'→Lg l0'→Bc wm' (WaC T t b0 ks)→Q (.exit 2) ((k72,y)::jW al bv j0 ks ks.length) (mkH (hW f c tot t i a nd m' K' l0' l1' l8' out x wm') k14) []) :
  PX P 9 cL2 (jW al bv j0 ks 0) (mkH (hW f c tot t i a nd m K l0 l1 l8 out x wm) k14) [] Q:=by
 have hkl:(ks.map kV).length=ks.length:=Lm ..
 refine PX.A7 (σ:=Nat) (fun q=>ks.length-q) (fun q=>jW al bv j0 ks q)
  (fun q g=>q≤ks.length∧∃m' K' l0' l1' l8' wm',Bk T m'∧KOk T t K'∧Lg l0'∧Bc wm' (WaC T t b0 (ks.take q))∧g=mkH (hW f c tot t i a nd m' K' l0' l1' l8' out x wm') k14) (fun _=>[]) 0
  (ρ:=rho 9 (rW k13)) (g0:=mkH (hW f c tot t i a nd m K l0 l1 l8 out x wm) k14) ?_ .nil ⟨Zl,m,K,l0,l1,l8,wm,hm,hK,lg,hw,rfl⟩ ?_
 ·exact trW ht hO hw ⟨hm,hK,lg,rfl,rfl,rfl,rfl,rfl,rfl,rfl,rfl,rfl⟩ ⟨_,rfl⟩ ⟨_,rfl⟩ ⟨_,rfl⟩ ⟨_,rfl⟩ k13 ⟨_,rfl⟩ (RH _) rfl rfl Yf
 rintro q g ⟨hq,m',K',l0',l1',l8',wm',hm',hK',lg',hw',rfl⟩
 refine PX.seq (PX.wp (pu:=pt) pf ?_)
 refine Yw1 ?_
 refine PX.seq (PX.wp (pu:=pt) pf ?_)
 refine⟨fun h=>?_,fun h=>?_⟩
 ·have hq:q<ks.length:=by have:=Ao h;omega
  have hk:ks[q]?=some ks[q]:=Gg hq
  have htk:ks.take (q+1)=ks.take q++[ks[q]]:=List.take_succ_eq_append_getElem hq
  obtain⟨kk1,kk2⟩:=hkid ks[q] (List.getElem_mem hq)
  have hBq:=hB (q+1)
  rw[htk] at hBq
  generalize ks[q]=k at hk htk kk1 kk2 hBq
  have hge:(ks.map kV)[(q:Int).toNat]?=some (kV k):=by simp[hk]
  refine Yw1 ?_
  refine PX.seq (PX.block ?_)
  refine PX.seq (PX.wp (pu:=pt) pf ?_)
  refine Yw1 ?_
  refine PX.seq (PX.wp (pu:=pt) pf ?_)
  refine Yw1 ?_
  refine PX.seq ?_
  refine PX.FK (kx:=k13) (k:=k13) (ks:=mKs wm') (vs:=mVs wm') rfl rfl (by rw[Wr];exact rfl) (Ze _) (lC _) hw'.nks ?_
  refine PX.seq (PX.region (PXL.split 1 (pu:=pt) pf ?_))
  refine Yw1 ?_
  refine PXL.range rfl rfl (PXL.nil ?_)
  refine PX.block (PX.trim (trX (nx9:=k17) (k:=k) (nx:=[]) ht hO Bc.nil ⟨hm',hK',lg',rfl,rfl,rfl,rfl,rfl,rfl,rfl,rfl,rfl⟩ ⟨_,rfl⟩ ⟨_,rfl⟩ ⟨_,rfl⟩ ⟨_,rfl⟩ ⟨_,rfl⟩ ⟨_,rfl⟩ rX [(k16,Wu)] RG rfl (by decide) ⟨rfl,trivial⟩ ?_) (.cons ⟨rfl,rfl,rfl,rfl⟩ .nil)
   (l4 (al:=al) (bv:=bv) (j0:=j0) (ks:=ks) (q:=q) (k:=k) (kq:=ks.take q) (wm:=wm') pf ht hO hbv hw' kk1 kk2 hBq hm' hK' lg' ?_))
  ·repeat' first|refine⟨⟨_,rfl,rfl⟩,?_⟩|refine⟨⟨_,rfl,Ae.rn (by assumption)⟩,?_⟩|exact trivial|fail
  ·intro m2 K2 a0 a1 a8 nx2 S hm2 hK2 lga hnx2
   refine Yw1 ?_
   refine PX.wp (pu:=pt) pf ?_
   refine Yw1 ?_
   refine PX.wp (pu:=pt) pf ?_
   refine Yw1 ?_
   refine⟨q+1,_,_,[],[_],(show _-_<_-_ by omega),trW ht hO (NQ hnx2) ⟨hm2,hK2,lga,rfl,rfl,rfl,rfl,rfl,rfl,rfl,rfl,rfl⟩ ⟨_,rfl⟩ ⟨_,rfl⟩ ⟨_,rfl⟩ ⟨_,rfl⟩ k15 ⟨_,rfl⟩ (RH _) rfl rfl Yf,rfl,.nil,hq,m2,K2,_,_,_,nx2,hm2,hK2,lga,?_,rfl⟩
   rw[htk];exact NQ hnx2
 ·have hfull:q=ks.length:=by have:=A1 h;omega
  subst hfull
  rw[List.take_length] at hw'
  refine Yw1 ?_
  exact hQ m' K' l0' l1' l8' wm' _ hm' hK' lg' hw'
end
end Go.Pv
end
section
noncomputable section
namespace Go.Pv
open Go.Vm Go.Vm.C
open Go.Vm.Key (kn)
set_option maxRecDepth 40000
set_option maxHeartbeats 0
attribute [local irreducible] PX PXL PXC
abbrev h8 (f:Fo) (c:Nat) (tot:PV) (t:Tre) (i a:Nat) (nd:Nd) (m:List (Nat×PV)) (K:Kn) (l0 l1 l8:List (Nat×Nat)) (out:List (Nat×PV)) (x:Al):List (Key×Ap):=
 hA f c tot t i a nd m K l0 l1 l8 out++[(k12,obl (aC x) [])]
abbrev j8 (al:List Al) (bv:PV) (j:Nat):Fm:=jA al bv j++[(k12,pA k12)]
abbrev r8:List (Key×Key):=[(k9,k9),(k10,k10),(k11,k11),(k12,k12)]
def OtC (CO:Nat→Nat→Prop) (B:Nat) (wm:List (Nat×PV)) (S:List Nat) (e n:Nat):Prop:=CO e n∨∃(j:Nat) (v:PV) (r:Nat),j∈S∧wm[j]?=some (e,v)∧Aq r v∧n=B+r
section
variable {P:Program} {T:Nat→List Tre} {f:Fo} {c:Nat} {tot:PV} {t:Tre} {i a:Nat} {nd:Nd} {x:Al}
theorem tr8 {L1 L2:Fm} {m out:List (Nat×PV)} {K:Kn} {l0 l1 l8:List (Nat×Nat)} {g:Ab} {CO:Nat→Nat→Prop} (ht:Ae tot) (hO:Bc out CO) (h:RkH T f c tot t m K l0 l1 l8 g) (h9:∃l,g.get k9=some (obl [.int .i64 (i:Nat),.int .i64 (a:Nat)] l)) (h10:∃l,g.get k10=some (mpB out l))
  (h11:∃l,g.get k11=some (obl (nC nd) l)) (h12:∃l,g.get k12=some (obl (aC x) l)) (nx9:Key) (r:List (Key×Key)) (G:List (Key×Ap)) (hr:∀k∈[k9,k10,k11,k12],rho 9 r k=some k)
  (hn:D3 9 nx9.toNat (h8 f c tot t i a nd m K l0 l1 l8 out x++G) r [] []=true) (hnn:9≤nx9.toNat) (hG:GOk r g G) (hf:M1 (rho 9 r) L1 L2):Trim 9 (rho 9 r) L1 g L2 (mkH (h8 f c tot t i a nd m K l0 l1 l8 out x) nx9):=by
 obtain⟨_,h9⟩:=h9
 obtain⟨_,h10⟩:=h10
 obtain⟨_,h11⟩:=h11
 obtain⟨_,h12⟩:=h12
 exact Trim.ofG r G hn hnn ⟨h.e8.symm,h.e7.symm,h.e6.symm,h.e5.symm,h.e4.symm,h.e3.symm,h.e2.symm,h.e1.symm,h.e0.symm,trivial⟩
  ⟨⟨_,_,rfl,h.e0,.same Yc⟩,⟨_,_,rfl,h.e1,.map h.hm⟩,⟨_,_,rfl,h.e2,.same Yc⟩,⟨_,_,rfl,h.e3,.same Yc⟩,⟨_,_,rfl,h.e4,.same Yc⟩,⟨_,_,rfl,h.e5,.same Yc⟩,⟨_,_,rfl,h.e6,.same Yc⟩,⟨_,_,rfl,h.e7,.same Yc⟩,⟨_,_,rfl,h.e8,.kk⟩,
   ⟨_,_,hr k9 (by simp),h9,.same Yc⟩,⟨_,_,hr k10 (by simp),h10,hO.blk⟩,⟨_,_,hr k11 (by simp),h11,.same Yc⟩,⟨_,_,hr k12 (by simp),h12,.same Yc⟩,trivial⟩ hG hf
abbrev r8i:List (Key×Key):=r8++[(k14,k14)]
theorem LF:∀j∈[k9,k10,k11,k12],rho 9 r8 j=some j:=by simp only[List.mem_cons,List.not_mem_nil,or_false,forall_eq_or_imp,forall_eq];exact⟨rfl,rfl,rfl,rfl⟩
theorem wS:∀j∈[k9,k10,k11,k12],rho 9 r8i j=some j:=by simp only[List.mem_cons,List.not_mem_nil,or_false,forall_eq_or_imp,forall_eq];exact⟨rfl,rfl,rfl,rfl⟩
theorem l8 (pf:PF P Fn) (ht:Ae tot) {al:List Al} {bv:PV} {j0 B:Nat} {wm out:List (Nat×PV)} {CO CW:Nat→Nat→Prop} (hO:Bc out CO) (hbv:Aq B bv) (hw:Bc wm CW)
  (hB:∀e r,CW e r→B+r<4294967296) {m:List (Nat×PV)} {K:Kn} {l0 l1 l8:List (Nat×Nat)} (hm:Bk T m) (hK:KOk T t K) (lg:Lg l0) {Q:PQT}
  (hQ:∀m' l0' l1' out' S,Bk T m'→Lg l0'→Bc out' (fun e n=>CO e n∨∃r,Mi CW e r∧n=B+r)→Q (.exit 8) ((k138,.v (bA false))::(k137,.v (.tup [.s (.bool false)]))::(j8 al bv j0++[(k136,pA k14)])) (mkH (h8 f c tot t i a nd m' K l0' l1' l8 out' x) k15) [⟨k14,mKs wm,mVs wm,S⟩]) :
  PX P 9 cL8 (j8 al bv j0++[(k136,pA k14)]) (mkH (h8 f c tot t i a nd m K l0 l1 l8 out x) k15) [⟨k14,mKs wm,mVs wm,[]⟩] Q:=by
 have hkl:(mKs wm).length=wm.length:=Lm ..
 have bnk:=hbv.nk
 refine PX.A7 (σ:=List Nat) (fun S=>wm.length-S.length) (fun _=>j8 al bv j0++[(k136,pA k14)])
  (fun S g=>S.Nodup∧(∀j∈S,j<wm.length)∧∃m' l0' l1' out',Bk T m'∧Lg l0'∧Bc out' (OtC CO B wm S)∧g=mkH (h8 f c tot t i a nd m' K l0' l1' l8 out' x) k15) (fun S=>[⟨k14,mKs wm,mVs wm,S⟩]) []
  (ρ:=rho 9 r8i) (g0:=mkH (h8 f c tot t i a nd m K l0 l1 l8 out x) k15) ?_ ?_ ⟨.nil,by simp,m,l0,l1,out,hm,lg,hO.eq fun e n=>by simp[OtC],rfl⟩ ?_
 ·exact tr8 ht hO ⟨hm,hK,lg,rfl,rfl,rfl,rfl,rfl,rfl,rfl,rfl,rfl⟩ ⟨_,rfl⟩ ⟨_,rfl⟩ ⟨_,rfl⟩ ⟨_,rfl⟩ k15 r8i [(k14,Wu)] wS rfl (by decide) ⟨rfl,trivial⟩ Yf
 ·exact .cons ⟨rfl,rfl,rfl,rfl⟩ .nil
 rintro S g ⟨hS1,hS2,m',l0',l1',out',hm',lg',hO',rfl⟩
 refine PX.seq (PX.region (PXL.next (I1:=[]) (I2:=[]) rfl rfl (fun hall=>?_) fun j key val hj hk hv=>?_))
 ·refine PXL.split 1 (pu:=pt) pf ?_
  refine Yw1 ?_
  refine PXL.nil ?_
  refine PX.seq (PX.wp (pu:=pt) pf ?_)
  refine Yw1 ?_
  refine hQ m' l0' l1' out' S hm' lg' (hO'.eq fun e n=>⟨?_,?_⟩)
  ·rintro(h|⟨j,v,r,h2,h3,h4,h5⟩)
   ·exact .inl h
   ·obtain⟨r',a1,a2⟩:=hw.mi (Rg hw.keys h3)
    rw[h4.uniq a1] at h5
    exact .inr ⟨r',a2,h5⟩
  ·rintro(h|⟨r,h1,h2⟩)
   ·exact .inl h
   ·obtain⟨v,a1,a2⟩:=hw.FQ h1
    obtain⟨j,hj⟩:=kZ a1
    exact .inr ⟨j,v,r,hall j (by rw[hkl];exact(Gi.1 hj).1),hj,a2,h2⟩
 ·refine PXL.split 1 (pu:=pt) pf ?_
  refine Yw1 ?_
  refine PXL.nil ?_
  refine PX.seq (PX.wp (pu:=pt) pf ?_)
  refine Yw1 ?_
  refine PX.block (PX.seq (PX.region (PXL.entry (I1:=[]) (I2:=[]) rfl rfl rfl hk hv ?_)))
  obtain⟨p,hp,rfl⟩:∃p,wm[j]?=some p∧key=.int .i64 (p.1:Nat):=by
   simp only[List.getElem?_map,Option.map_eq_some_iff] at hk
   obtain⟨p,h1,h2⟩:=hk
   exact⟨p,h1,h2.symm⟩
  obtain rfl:val=p.2:=by
   simp only[List.getElem?_map,hp,Option.map_some,Sj] at hv
   exact hv.symm
  obtain⟨e,v⟩:=p
  obtain⟨r,hrv,hmi⟩:=hw.mi (Rg hw.keys hp)
  simp only at hrv hmi
  have vnk:=hrv.nk
  refine PXL.split 4 (pu:=pt) pf ?_
  refine Yw1 ?_
  refine PXL.nil ?_
  have hadd:=S9 (f:=f) (c:=c) (tot:=tot) hm' hbv hrv (hB e r hmi.1)
  refine PX.wp (pu:=pt) pf ?_
  refine Yw1 ?_
  refine XC.Be (l:=tyL f c tot m' [] []) (nx:=k2) tyR hadd rfl rfl (Du ht hm' rfl rfl) Ya ?_
  rintro rc gc' ⟨⟨z,rfl,hz⟩,m2,a0,a1,hm2,_,lga0,e0,e1⟩
  have znk:=hz.nk
  refine⟨[],k15,tyX f c tot m2 (a0++_) (a1++_),[],.v (.s z),rfl,Rl,Dz ht hm2 e0 e1 rfl rfl rfl rfl,trivial,hz.nk.rn,?_⟩
  have hput:=FM hO' (e:=e) hz
  refine Yw1 ?_
  clear e0 e1
  refine XC.Be (l:=[(k0,mpB out' [])]) (nx:=k1) [(k0,k10)] hput rfl rfl ⟨⟨_,_,rfl,rfl,hO'.blk⟩,trivial⟩ Ya ?_
  rintro rc gc' ⟨rfl,out2,lp,e0,hO2⟩
  refine⟨[],k15,[some (mpB out2 (lp++[]))],[],.unit,rfl,Rl,⟨⟨_,_,_,e0,hO2.blk,rfl,rfl,rfl,rfl⟩,trivial⟩,trivial,.nil,?_⟩
  refine Yw1 ?_
  have hjl:j<wm.length:=(Gi.1 hp).1
  have hnd:(S++[j]).Nodup:=List.nodup_append.2 ⟨hS1,by simp,fun y hy z hz hyz=>by rw[List.mem_singleton] at hz;subst hz;subst hyz;exact hj hy⟩
  have hbd:∀y∈S++[j],y<wm.length:=fun y hy=>by
   rcases List.mem_append.1 hy with hy|hy
   ·exact hS2 y hy
   ·rw[List.mem_singleton] at hy;rw[hy];exact hjl
  refine⟨S++[j],_,_,_,[],?_,tr8 ht hO2 ⟨hm2,hK,Yg,rfl,rfl,rfl,rfl,rfl,rfl,rfl,rfl,rfl⟩ ⟨_,rfl⟩ ⟨_,rfl⟩ ⟨_,rfl⟩ ⟨_,rfl⟩ k15 r8i [(k14,Wu)] wS rfl (by decide) ⟨rfl,trivial⟩ Yf,(List.append_nil _).symm,.cons ⟨rfl,rfl,rfl,rfl⟩ .nil,?_⟩
  ·have:=Gh wm.length (S++[j]) hnd hbd
   simp only[La,List.length_singleton] at this ⊢
   omega
  ·refine⟨hnd,hbd,m2,_,_,out2,hm2,Yg,hO2.eq fun e' n=>⟨fun h=>?_,fun h=>?_⟩,rfl⟩
   ·rcases h with(h|⟨j',v',r',h1,h2,h3,h4⟩)|⟨rfl,rfl⟩
    ·exact .inl h
    ·exact .inr ⟨j',v',r',by simp[h1],h2,h3,h4⟩
    ·exact .inr ⟨j,v,r,by simp,hp,hrv,rfl⟩
   ·rcases h with h|⟨j',v',r',h1,h2,h3,h4⟩
    ·exact .inl (.inl h)
    ·rcases List.mem_append.1 h1 with h1|h1
     ·exact .inl (.inr ⟨j',v',r',h1,h2,h3,h4⟩)
     ·rw[List.mem_singleton] at h1;subst h1
      rw[hp] at h2;cases h2
      rw[h3.uniq hrv] at h4
      exact .inr ⟨rfl,h4⟩
end
end Go.Pv
end
section
noncomputable section
namespace Go.Pv
open Go.Vm Go.Vm.C
open Go.Vm.Key (kn)
set_option maxRecDepth 40000
set_option maxHeartbeats 0
theorem PX.LG {P:Program} {lo:Nat} {L:Fm} {g:Ab} {I:List PIt} {a b:Ay} {Q:PQT} {M:Fm→Ab→List PIt→Prop} (m:PX P lo a L g I fun x L g I=>match x with
  |.normal=>M L g I
  |.exit i=>Q (.exit i) L g I
  |.ret=>Q .ret L g I) (h:∀L g I,M L g I→PX P lo b L g I Q):PX P lo (.seq a b) L g I Q:=PX.seq (m.mono fun x L g I hq=>by
 cases x with
 |normal=>exact h L g I hq
 |exit i=>exact hq
 |ret=>exact hq)
theorem PX.UT {P:Program} {lo:Nat} {L L2:Fm} {g g2:Ab} {I:List PIt} {cd:Ay} {Q:PQT} {ρ:Key→Option Key} (t:Trim lo ρ L g L2 g2) (h:PX P lo cd L2 g2 [] Q):PX P lo cd L g I Q:=PX.drop (I:=[]) (I2:=I) (PX.trim t .nil h)
attribute [local irreducible] PX PXL PXC
abbrev rA:List (Key×Key):=[(k9,k9),(k10,k10),(k11,k11)]
section
variable {P:Program} {T:Nat→List Tre} {f:Fo} {c:Nat} {tot:PV} {t:Tre} {i a:Nat} {nd:Nd}
theorem trZ {L1 L2:Fm} {m out:List (Nat×PV)} {K:Kn} {l0 l1 l8:List (Nat×Nat)} {g:Ab} {CO:Nat→Nat→Prop} (ht:Ae tot) (hO:Bc out CO) (h:RkH T f c tot t m K l0 l1 l8 g) (h9:∃l,g.get k9=some (obl [.int .i64 (i:Nat),.int .i64 (a:Nat)] l)) (h10:∃l,g.get k10=some (mpB out l))
  (h11:∃l,g.get k11=some (obl (nC nd) l)) (hf:M1 (rho 9 rA) L1 L2):Trim 9 (rho 9 rA) L1 g L2 (mkH (hA f c tot t i a nd m K l0 l1 l8 out) k12):=by
 obtain⟨_,h9⟩:=h9
 obtain⟨_,h10⟩:=h10
 obtain⟨_,h11⟩:=h11
 exact Trim.of rA rfl (by decide) ⟨h.e8.symm,h.e7.symm,h.e6.symm,h.e5.symm,h.e4.symm,h.e3.symm,h.e2.symm,h.e1.symm,h.e0.symm,trivial⟩
  ⟨⟨_,_,rfl,h.e0,.same Yc⟩,⟨_,_,rfl,h.e1,.map h.hm⟩,⟨_,_,rfl,h.e2,.same Yc⟩,⟨_,_,rfl,h.e3,.same Yc⟩,⟨_,_,rfl,h.e4,.same Yc⟩,⟨_,_,rfl,h.e5,.same Yc⟩,⟨_,_,rfl,h.e6,.same Yc⟩,⟨_,_,rfl,h.e7,.same Yc⟩,⟨_,_,rfl,h.e8,.kk⟩,
   ⟨_,_,rfl,h9,.same Yc⟩,⟨_,_,rfl,h10,hO.blk⟩,⟨_,_,rfl,h11,.same Yc⟩,trivial⟩ hf
def XP (T:Nat→List Tre) (f:Fo) (c:Nat) (tot:PV) (t:Tre) (i a:Nat) (nd:Nd) (az:List Al) (x:Al) (L2:Fm) (L:Fm) (g:Ab) (_:List PIt):Prop:=∃m K l0 l1 l8 out,Bk T m∧KOk T t K∧Lg l0∧Bc out (NoC T t c a (az++[x]))∧Trim 9 (rho 9 r8) L g L2 (mkH (h8 f c tot t i a nd m K l0 l1 l8 out x) k13)
theorem UU (pf:PF P Fn) (D:I8) (hc:c<4) (ht:Ae tot) (hL:t.length≤1000) (hN:nd.az.length≤3) (hal:∀x∈nd.az,x.ks.length≤2∧x.d<16∧∀k∈x.ks,k<i∧Qa T f c tot k∧Ws P T f c tot t k)
  (hP:∀x∈nd.az,∀q,(Au T (x.ks.take q)).length<4294967296) (hB:(A5 T c nd.az).length<4294967296) {m:List (Nat×PV)} {K:Kn} {l0 l1 l8:List (Nat×Nat)} (hm:Bk T m) (hK:KOk T t K) (lg:Lg l0) {Q:PQT}
  (hQ:∀m' K' l0' l1' l8' out' bv y,Bk T m'→KOk T t K'→Lg l0'→Bc out' (NoC T t c a nd.az)→Q (.exit 0) ((k35,y)::jA nd.az bv nd.az.length) (mkH (hA f c tot t i a nd m' K' l0' l1' l8' out') k12) []) :
  PX P 9 cL0 (jA nd.az .Af 0) (mkH (hA f c tot t i a nd m K l0 l1 l8 []) k12) [] Q:=by
 have hll:(nd.az.map aV).length=nd.az.length:=Lm ..
 refine PX.A7 (σ:=Nat×PV) (fun q=>nd.az.length-q.1) (fun q=>jA nd.az q.2 q.1)
  (fun q g=>q.1≤nd.az.length∧Aq (A5 T c (nd.az.take q.1)).length q.2∧∃m' K' l0' l1' l8' out',Bk T m'∧KOk T t K'∧Lg l0'∧Bc out' (NoC T t c a (nd.az.take q.1))∧g=mkH (hA f c tot t i a nd m' K' l0' l1' l8' out') k12) (fun _=>[]) (0,.Af)
  (ρ:=rho 9 rA) (g0:=mkH (hA f c tot t i a nd m K l0 l1 l8 []) k12) ?_ .nil ⟨Zl,Aq.nil,m,K,l0,l1,l8,[],hm,hK,lg,RF,rfl⟩ ?_
 ·exact trZ ht Bc.nil ⟨hm,hK,lg,rfl,rfl,rfl,rfl,rfl,rfl,rfl,rfl,rfl⟩ ⟨_,rfl⟩ ⟨_,rfl⟩ ⟨_,rfl⟩ Yf
 rintro⟨j,bv⟩ g ⟨hj,hbv,m',K',l0',l1',l8',out',hm',hK',lg',hO',rfl⟩
 replace hj:j≤nd.az.length:=hj
 replace hbv:Aq (A5 T c (nd.az.take j)).length bv:=hbv
 replace hO':Bc out' (NoC T t c a (nd.az.take j)):=hO'
 have bnk:=hbv.nk
 refine PX.seq (PX.wp (pu:=pt) pf ?_)
 refine Yw1 ?_
 refine PX.seq (PX.wp (pu:=pt) pf ?_)
 refine⟨fun h=>?_,fun h=>?_⟩
 ·have hj:j<nd.az.length:=by have:=Ao h;omega
  have hx:nd.az[j]?=some nd.az[j]:=Gg hj
  have htk:nd.az.take (j+1)=nd.az.take j++[nd.az[j]]:=List.take_succ_eq_append_getElem hj
  have hin:nd.az[j]∈nd.az:=List.getElem_mem hj
  generalize nd.az[j]=x at hx htk hin
  have hga:=Ct hx
  obtain⟨x1,x2,x3⟩:=hal x hin
  have hPx:=hP x hin
  have dh:=D.holds x.d x2 c hc
  have hle:=Qb T c nd.az (j+1)
  refine Yw1 ?_
  refine PX.seq (PX.block ?_)
  refine PX.seq (PX.wp (pu:=pt) pf ?_)
  refine Yw1 ?_
  refine PX.seq (PX.seq (PX.wp (pu:=pt) pf ?_))
  cases hb:x.d.testBit c
  ·rw[hb] at dh
   refine Yw1 ?_
   refine PX.wp (pu:=pt) pf ?_
   refine Yw1 ?_
   refine PX.wp (pu:=pt) pf ?_
   refine Yw1 ?_
   refine⟨(j+1,bv),_,_,[],[],(show _-_<_-_ by omega),trZ ht (wQ hb hO') ⟨hm',hK',lg',rfl,rfl,rfl,rfl,rfl,rfl,rfl,rfl,rfl⟩ ⟨_,rfl⟩ ⟨_,rfl⟩ ⟨_,rfl⟩ Yf,rfl,.nil,hj,?_,m',K',_,_,_,out',hm',hK',lg',?_,rfl⟩
   ·have:=Ek T c (nd.az.take j) x
    rw[←htk,hb] at this
    simp only[Fj,if_false,List.append_nil] at this
    rw[this];exact hbv
   ·rw[htk];exact wQ hb hO'
  ·rw[hb] at dh
   refine Yw1 ?_
   refine PX.wp (pu:=pt) pf ?_
   refine Yw1 ?_
   refine PX.LG (M:=XP T f c tot t i a nd (nd.az.take j) x (j8 nd.az bv j)) ?_ ?_
   ·have htl:(tR t).length=t.length:=by simp[tR]
    refine PX.seq (PX.wp (pu:=pt) pf ?_)
    by_cases hat:a<t.length
    ·have hp:t[a]?=some t[a]:=Gg hat
     generalize t[a]=p at hp
     have hgt:(tR t)[(a:Int).toNat]?=some [.int .i64 (p:Nat),.int .i64 (-1),.int .i64 0,.int .i64 0]:=by simp[tR,hp]
     refine Yw1 ?_
     refine PX.cond rfl rfl (fun h=>?_) (fun h=>?_)
     ·obtain rfl:p=x.p:=by simp at h;omega
      clear h
      have hwa:=RE (T:=T) (t:=t) (a:=a+1) (by omega)
      have hBx:=fun e r (hr:WaC T t (a+1) x.ks e r)=>Nat.lt_of_lt_of_le (US (c:=c) (az:=nd.az.take j) hb hr) (by rw[←htk];exact Nat.le_trans hle (Nat.le_of_lt hB))
      refine PX.seq (PX.wp (pu:=pt) pf ?_)
      refine Yw1 ?_
      obtain⟨xp,xks,xd⟩:=x
      rcases xks with _|⟨y,ys⟩
      ·refine PX.seq (PX.seq (PX.wp (pu:=pt) pf ?_))
       refine Yw1 ?_
       refine PX.wp (pu:=pt) pf ?_
       refine XW.Ad (pu:=pt) ?_
       refine Yw1 ?_
       refine PX.FK (kx:=k13) (k:=k13) (ks:=mKs [(a+1,.Af)]) (vs:=mVs [(a+1,.Af)]) rfl rfl (by rw[Wr];exact rfl) (Ze _) (lC _) hwa.nks ?_
       refine PX.seq (PX.region (PXL.split 1 (pu:=pt) pf ?_))
       refine Yw1 ?_
       refine PXL.range rfl rfl (PXL.nil ?_)
       refine PX.block (PX.trim (tr8 (out:=out') ht hO' ⟨hm',hK',lg',rfl,rfl,rfl,rfl,rfl,rfl,rfl,rfl,rfl⟩ ⟨_,rfl⟩ ⟨_,rfl⟩ ⟨_,rfl⟩ ⟨_,rfl⟩ k15 r8i [(k14,Wu)] wS rfl (by decide) ⟨rfl,trivial⟩ ?_) (.cons ⟨rfl,rfl,rfl,rfl⟩ .nil)
        (Go.Pv.l8 (al:=nd.az) (bv:=bv) (j0:=j) (wm:=[(a+1,.Af)]) pf ht hO' hbv hwa hBx hm' hK' lg' ?_))
       ·repeat' first|refine⟨⟨_,rfl,rfl⟩,?_⟩|refine⟨⟨_,rfl,Ae.rn (by assumption)⟩,?_⟩|exact trivial|fail
       ·intro m5 d0 d1 out5 S5 hm5 lgd hO5
        refine Yw1 ?_
        exact⟨m5,_,_,_,_,out5,hm5,hK',lgd,wR hb hp hO5,tr8 ht hO5 ⟨hm5,hK',lgd,rfl,rfl,rfl,rfl,rfl,rfl,rfl,rfl,rfl⟩ ⟨_,rfl⟩ ⟨_,rfl⟩ ⟨_,rfl⟩ ⟨_,rfl⟩ k13 r8 [] LF rfl (by decide) trivial Yf⟩
      ·refine PX.seq (PX.seq (PX.wp (pu:=pt) pf ?_))
       refine Yw1 ?_
       refine PX.block (PX.trim (trW (i:=i) (a:=a) (nd:=nd) (x:=⟨xp,y::ys,xd⟩) (out:=out') (wm:=[(a+1,.Af)]) ht hO' hwa ⟨hm',hK',lg',rfl,rfl,rfl,rfl,rfl,rfl,rfl,rfl,rfl⟩ ⟨_,rfl⟩ ⟨_,rfl⟩ ⟨_,rfl⟩ ⟨_,rfl⟩ k13 ⟨_,rfl⟩ (RH _) rfl rfl ?_) .nil
        (l2 (al:=nd.az) (bv:=bv) (j0:=j) (ks:=y::ys) (b0:=a+1) pf ht hO' bnk (fun k hk=>(x3 k hk).2) hPx x1 hwa hm' hK' lg' ?_))
       ·repeat' first|refine⟨⟨_,rfl,rfl⟩,?_⟩|refine⟨⟨_,rfl,Ae.rn (by assumption)⟩,?_⟩|exact trivial|fail
       ·intro m6 K6 f0 f1 f8 wm6 y6 hm6 hK6 lgf hw6
        refine Yw1 ?_
        refine PX.FK (kx:=k13) (k:=k13) (ks:=mKs wm6) (vs:=mVs wm6) rfl rfl (by rw[Wr];exact rfl) (Ze _) (lC _) hw6.nks ?_
        refine PX.seq (PX.region (PXL.split 1 (pu:=pt) pf ?_))
        refine Yw1 ?_
        refine PXL.range rfl rfl (PXL.nil ?_)
        refine PX.block (PX.trim (tr8 (out:=out') ht hO' ⟨hm6,hK6,lgf,rfl,rfl,rfl,rfl,rfl,rfl,rfl,rfl,rfl⟩ ⟨_,rfl⟩ ⟨_,rfl⟩ ⟨_,rfl⟩ ⟨_,rfl⟩ k15 r8i [(k14,Wu)] wS rfl (by decide) ⟨rfl,trivial⟩ ?_) (.cons ⟨rfl,rfl,rfl,rfl⟩ .nil)
        (Go.Pv.l8 (al:=nd.az) (bv:=bv) (j0:=j) (wm:=wm6) pf ht hO' hbv hw6 hBx hm6 hK6 lgf ?_))
        ·repeat' first|refine⟨⟨_,rfl,rfl⟩,?_⟩|refine⟨⟨_,rfl,Ae.rn (by assumption)⟩,?_⟩|exact trivial|fail
        ·intro m5 d0 d1 out5 S5 hm5 lgd hO5
         refine Yw1 ?_
         exact⟨m5,_,_,_,_,out5,hm5,hK6,lgd,wR hb hp hO5,tr8 ht hO5 ⟨hm5,hK6,lgd,rfl,rfl,rfl,rfl,rfl,rfl,rfl,rfl,rfl⟩ ⟨_,rfl⟩ ⟨_,rfl⟩ ⟨_,rfl⟩ ⟨_,rfl⟩ k13 r8 [] LF rfl (by decide) trivial Yf⟩
     ·have hpx:p≠x.p:=fun e=>by subst e;revert h;simp
      refine PX.wp (pu:=pt) pf ?_
      refine Yw1 ?_
      refine⟨m',K',l0',l1',l8',out',hm',hK',lg',FU hb (by rw[hp];simp[hpx]) hO',?_⟩
      exact tr8 ht hO' ⟨hm',hK',lg',rfl,rfl,rfl,rfl,rfl,rfl,rfl,rfl,rfl⟩ ⟨_,rfl⟩ ⟨_,rfl⟩ ⟨_,rfl⟩ ⟨_,rfl⟩ k13 r8 [] LF rfl (by decide) trivial Yf
    ·refine Yw1 ?_
     refine PX.cond rfl rfl (fun h=>by cases h) (fun h=>?_)
     refine PX.wp (pu:=pt) pf ?_
     refine Yw1 ?_
     refine⟨m',K',l0',l1',l8',out',hm',hK',lg',FU hb (by rw[List.getElem?_eq_none (by omega)];simp) hO',?_⟩
     exact tr8 ht hO' ⟨hm',hK',lg',rfl,rfl,rfl,rfl,rfl,rfl,rfl,rfl,rfl⟩ ⟨_,rfl⟩ ⟨_,rfl⟩ ⟨_,rfl⟩ ⟨_,rfl⟩ k13 r8 [] LF rfl (by decide) trivial Yf
   ·rintro L2 g2 I2 ⟨m2,K2,a0,a1,a8,out2,hm2,hK2,lga,hO2,tr⟩
    refine PX.UT tr ?_
    have hs:=Ek T c (nd.az.take j) x
    rw[←htk,hb] at hs
    have hl:=congrArg List.length hs
    simp only[if_true,La,Lm] at hl
    have alt:=kT (T:=T) (f:=f) (c:=c) ht (i:=i) (a:=x) x1 (fun k hk=>⟨(x3 k hk).1,(x3 k hk).2.1⟩) (by omega) hm2
    refine PX.wp (pu:=pt) pf ?_
    refine Yw1 ?_
    refine XC.Be (l:=tyL f c tot m2 [] []) (nx:=k2) tyR alt rfl rfl (Du ht hm2 rfl rfl) Ya ?_
    rintro rc gc' ⟨⟨u,rfl,hu⟩,m3,b0,b1,hm3,_,lgb0,e0,e1⟩
    have unk:=hu.nk
    refine⟨[],k13,tyX f c tot m3 (b0++_) (b1++_),[],.v (.s u),rfl,Rl,Dz ht hm3 e0 e1 rfl rfl rfl rfl,trivial,hu.nk.rn,?_⟩
    have hadd:=S9 (f:=f) (c:=c) (tot:=tot) hm3 hbv hu (by omega)
    rw[←hl] at hadd
    refine Yw1 ?_
    clear e0 e1
    refine XC.Be (l:=tyL f c tot m3 [] []) (nx:=k2) tyR hadd rfl rfl (Du ht hm3 rfl rfl) Ya ?_
    rintro rc gc' ⟨⟨w,rfl,hw⟩,m4,c0,c1,hm4,_,lgc0,e0,e1⟩
    have wnk:=hw.nk
    refine⟨[],k13,tyX f c tot m4 (c0++_) (c1++_),[],.v (.s w),rfl,Rl,Dz ht hm4 e0 e1 rfl rfl rfl rfl,trivial,hw.nk.rn,?_⟩
    refine Yw1 ?_
    refine PX.wp (pu:=pt) pf ?_
    refine Yw1 ?_
    rw[←htk] at hO2
    exact⟨(j+1,w),_,_,[],[],(show _-_<_-_ by omega),trZ ht hO2 ⟨hm4,hK2,Yg,rfl,rfl,rfl,rfl,rfl,rfl,rfl,rfl,rfl⟩ ⟨_,rfl⟩ ⟨_,rfl⟩ ⟨_,rfl⟩ Yf,rfl,.nil,hj,hw,m4,K2,_,_,_,out2,hm4,hK2,Yg,hO2,rfl⟩
 ·have hfull:j=nd.az.length:=by have:=A1 h;omega
  subst hfull
  rw[List.take_length] at hO'
  refine Yw1 ?_
  exact hQ m' K' l0' l1' l8' out' bv _ hm' hK' lg' hO'
end
end Go.Pv
end
section
noncomputable section
namespace Go.Pv
open Go.Vm Go.Vm.C
open Go.Vm.Key (kn)
set_option maxRecDepth 40000
set_option maxHeartbeats 0
attribute [local irreducible] PX PXL PXC
section
variable {P:Program} {f:Fo} {c:Nat} {tot:PV} {t:Tre}
theorem LH (pf:PF P Fn) (D:I8) (hc:c<4) (ht:Ae tot) (hL:t.length≤1000) {T:Nat→List Tre} {i:Nat} {nd:Nd} (hi:i<f.ns.length) (hL4:f.ns.length≤4) (hn:(f.ns.map nV)[(i:Int).toNat]?=some (nC nd)) (hN:nd.az.length≤3)
  (hal:∀x∈nd.az,x.ks.length≤2∧x.d<16∧∀k∈x.ks,k<i∧Qa T f c tot k∧Ws P T f c tot t k) (hP:∀x∈nd.az,∀q,(Au T (x.ks.take q)).length<4294967296) (hT:T i=A5 T c nd.az) (hB:(A5 T c nd.az).length<4294967296):FP P T f c tot t i:=by
 intro m K a hm hK
 have hlen:(f.ns.map nV).length=f.ns.length:=Lm ..
 refine PXC.FK ?_
 refine PXC.of pf (vf:=C.f58) rfl ?_
 refine PX.seq (PX.wp (pu:=pt) pf ?_)
 refine Yw1 ?_
 refine PX.seq (PX.wp (pu:=pt) pf ?_)
 refine Yw1 ?_
 refine PX.seq (PX.wp (pu:=pt) pf ?_)
 refine Yw1 ?_
 refine PX.seq (PX.wp (pu:=pt) pf ?_)
 refine Yw1 ?_
 refine PX.seq (PX.seq (PX.wp (pu:=pt) pf ?_))
 refine Yw1 ?_
 refine PX.block (PX.trim (trZ (i:=i) (a:=a) (nd:=nd) (out:=[]) ht Bc.nil ⟨hm,hK,Lg.nil,rfl,rfl,rfl,rfl,rfl,rfl,rfl,rfl,rfl⟩ ⟨_,rfl⟩ ⟨_,rfl⟩ ⟨_,rfl⟩ ?_) .nil
  (UU pf D hc ht hL hN hal hP hB hm hK Lg.nil ?_))
 ·repeat' first|refine⟨⟨_,rfl,rfl⟩,?_⟩|refine⟨⟨_,rfl,Ae.rn (by assumption)⟩,?_⟩|exact trivial|fail
 ·intro m' K' l0' l1' l8' out' bv y hm' hK' lg' hO'
  refine Yw1 ?_
  refine PX.wp (pu:=pt) pf ?_
  refine Yw1 ?_
  refine⟨k10,mKs out',mVs out',_,_,_,rfl,(by rw[Wr];exact rfl),Ze _,lC _,hO'.nks,⟨out',rfl,?_⟩,m',K',l0',l1',l8',hm',hK',lg',rfl,rfl,rfl,rfl,rfl,rfl,rfl,rfl,rfl⟩
  exact hO'.eq fun e n=>by simp only[NoC,RdC,hT]
theorem FV (pf:PF P Fn) (D:I8) (hc:c<4) (ht:Ae tot) (hL:t.length≤1000) (w:WF0 f) (v:WF f):∀i,i<f.ns.length→Ws P (Tr2 f c) f c tot t i:=by
 intro i
 induction i using Nat.strongRecOn with
 |ind i ih=>
  intro hi
  have hn:f.ns[i]?=some f.ns[i]:=Gg hi
  generalize f.ns[i]=n at hn
  have hL4:=w.len
  have hg:=G0 hn
  rw[Ke (v.as0 i n hn)] at hg
  have hU:=sX (c:=c) (Lt w) i n hn
  have hlen:=Oc (c:=c) w i hi
  have hpx:=cY i (by omega)
  have hB:(Tr2 f c i).length<4294967296:=by omega
  have hki:∀x∈n.az,∀k∈x.ks,k<i:=fun x hx k hk=>(w.al i n hn x hx).2.1 k hk
  refine LC pf ht (LH pf D hc ht hL hi hL4 hg (w.Iy i n hn) (fun x hx=>⟨(w.al i n hn x hx).1,(w.al i n hn x hx).2.2.1,fun k hk=>?_⟩) (fun x hx q=>?_) hU (by rw[←hU];exact hB))
  ·have:=hki x hx k hk
   exact⟨this,sZ ht (Ux D hc ht w v k (by omega)),ih k this (by omega)⟩
  ·have:=oW (T:=Tr2 f c) (i:=i) (by omega) (ks:=x.ks.take q) (by have:=(w.al i n hn x hx).1;simp only[List.length_take];omega) fun k hk=>⟨hki x hx k (List.mem_of_mem_take hk),Oc w k (by have:=hki x hx k (List.mem_of_mem_take hk);omega)⟩
   omega
end
end Go.Pv
end
section
noncomputable section
namespace Go.Pv
open Go.Vm Go.Vm.C
open Go.Vm.Key (kn)
set_option maxRecDepth 40000
set_option maxHeartbeats 0
attribute [local irreducible] PX PXL PXC
theorem XQ {g:Ab} {m:List (Nat×PV)} {k:Nat} :
  opP (.lookup (.one .int) (.s .Af) true) [.v (.s (mpV m)),.v (.s (.int .i64 (k:Nat)))] g=some (match fnd m k with
   |some v=>.tup [.s v,.s (.bool true)]
   |none=>.tup [.s .Af,.s (.bool false)],g):=by
 show Es (.one .int) (.s .Af) true [.v (.s (.mp (mKs m) (mVs m))),.v (.s (.int .i64 (k:Nat)))] g=_
 unfold Es
 simp only[gU,Ow,Em,Wr,sY]
 cases fnd m k<;>rfl
abbrev jR (f:Fo) (bv:PV) (j:Nat):Fm:=[(k3,pA k3),(k4,pA k4),(k5,pA k5),(k8,pA k2),(k10,pA k6),(k11,.v (.v (.s bv))),(k36,.v (PA.lst 3 (f.rs.map rV))),(k37,.v (iA (f.rs.map rV).length)),(k38,.v (iA j))]
theorem trR {T:Nat→List Tre} {f:Fo} {c:Nat} {tot:PV} {t:Tre} {L1 L2:Fm} {m:List (Nat×PV)} {K:Kn} {l0 l1 l8:List (Nat×Nat)} {g:Ab} (ht:Ae tot) (h:RkH T f c tot t m K l0 l1 l8 g) (hf:M1 (rho 0 rkR) L1 L2):Trim 0 (rho 0 rkR) L1 g L2 (mkH (rkL f c tot t m K [] [] []) k9):=
 Trim.of rkR rfl (Zl) trivial (h.blk ht) hf
section
variable {P:Program} {f:Fo} {c:Nat}
theorem LI (pf:PF P Fn) (D:S6) (D2:I8) (hc:c<4) (w:WF0 f) (v:WF f) (h0:∀r∈f.rs,r.2.testBit 0=false) {t:Tre} (hL:t.length≤1000) {n0:Nat} (hin:(Bq (Tr2 f c) c f.rs)[n0]?=some t) :
  PXC P 18 [foA f,cA c,PA.lst 4 (tR t)] (mkH [] k0) fun r _=>∃v n,r=.tup [.s v,.s (.int .i64 ((0:Nat):Int))]∧Aq n v∧(Bq (Tr2 f c) c f.rs)[n]?=some t∧∀n',(Bq (Tr2 f c) c f.rs)[n']?=some t→n≤n':=by
 have cs:=gB D D2 w v h0
 have tal:=dB D2 hc w v
 have hrlen:(f.rs.map rV).length=f.rs.length:=Lm ..
 have htl:(tR t).length=t.length:=by simp[tR]
 rw[Da w.n0 w.r0] at cs tal ⊢
 refine PXC.of pf (vf:=C.f18) rfl ?_
 refine PX.seq (PX.wp (pu:=pt) pf ?_)
 refine Yw1 ?_
 refine PX.seq (PX.wp (pu:=pt) pf ?_)
 refine Yw1 ?_
 refine PX.seq (PX.wp (pu:=pt) pf ?_)
 refine Yw1 ?_
 refine XC.Be (l:=[]) (nx:=k0) [] tal rfl rfl trivial Ya ?_
 rintro rc gc' ⟨rfl,m,l0,l1,tot,hm,ht,e1,e2⟩
 have tnk:=ht.nk
 refine⟨[(k3,k1),(k4,k2)],k5,[],[obl (tbK k3 k4 f c tot) [],mpB m []],.tup [.s (.ptr k3 0),.s (.int .i64 ((0:Nat):Int))],rfl,(show 3≤5 by decide),trivial,⟨⟨_,e1,⟨Ys,fun _=>⟨rfl,.inl .nil⟩,rfl⟩⟩,⟨_,e2,.map hm⟩,trivial⟩,.cons rfl (.cons rfl .nil),?_⟩
 clear e1 e2
 refine Yw1 ?_
 refine PX.seq (PX.wp (pu:=pt) pf ?_)
 refine Yw1 ?_
 refine PX.seq (PX.wp (pu:=pt) pf ?_)
 refine Yw1 ?_
 refine PX.seq (PX.wp (pu:=pt) pf ?_)
 refine Yw1 ?_
 refine PX.seq (PX.wp (pu:=pt) pf ?_)
 refine Yw1 ?_
 refine PX.seq (PX.seq (PX.wp (pu:=pt) pf ?_))
 refine Yw1 ?_
 have hmax:=cZ (c:=c) w
 have hL4:=w.len
 have rL:=w.Oy
 refine PX.block (PX.A7 (σ:=Nat×PV) (fun q=>f.rs.length-q.1) (fun q=>jR f q.2 q.1)
  (fun q g=>q.1≤f.rs.length∧Aq (Bq (Tr2 f c) c (f.rs.take q.1)).length q.2∧(∀n:Nat,(Bq (Tr2 f c) c (f.rs.take q.1))[n]?≠some t)∧∃m K,Bk (Tr2 f c) m∧KOk (Tr2 f c) t K∧g=mkH (rkL f c tot t m K [] [] []) k9) (fun _=>[]) (0,.Af)
  (ρ:=rho 0 [(k0,k3),(k1,k4),(k2,k5),(k3,k0),(k4,k1),(k5,k2),(k6,k8),(k7,k7),(k8,k6)]) (g0:=mkH (rkL f c tot t m [] [] [] []) k9) ?_ .nil ⟨Zl,Aq.nil,by simp[Bq],m,[],hm,fun _ h=>absurd h List.not_mem_nil,rfl⟩ ?_)
 ·exact Trim.of _ rfl (Zl) trivial ⟨⟨_,_,rfl,rfl,⟨Ys,fun _=>⟨rfl,.inl .nil⟩,rfl⟩⟩,⟨_,_,rfl,rfl,.map hm⟩,⟨_,_,rfl,rfl,⟨Ys,fun _=>⟨rfl,.inl .nil⟩,rfl⟩⟩,⟨_,_,rfl,rfl,.same Yc⟩,⟨_,_,rfl,rfl,.same Yc⟩,⟨_,_,rfl,rfl,.same Yc⟩,
   ⟨_,_,rfl,rfl,⟨Ys,fun _=>⟨rfl,.inl .nil⟩,rfl⟩⟩,⟨_,_,rfl,rfl,⟨Ys,fun _=>⟨rfl,.inl .nil⟩,rfl⟩⟩,⟨_,_,rfl,rfl,.kk (K:=[])⟩,trivial⟩ Yf
 rintro⟨j,bv⟩ g ⟨hj,hbv,hno,m',K',hm',hK',rfl⟩
 replace hj:j≤f.rs.length:=hj
 replace hbv:Aq (Bq (Tr2 f c) c (f.rs.take j)).length bv:=hbv
 replace hno:∀n:Nat,(Bq (Tr2 f c) c (f.rs.take j))[n]?≠some t:=hno
 have bnk:=hbv.nk
 refine PX.seq (PX.wp (pu:=pt) pf ?_)
 refine Yw1 ?_
 refine PX.seq (PX.wp (pu:=pt) pf ?_)
 refine⟨fun h=>?_,fun h=>?_⟩
 ·have hj:j<f.rs.length:=by have:=Ao h;omega
  have hr:f.rs[j]?=some f.rs[j]:=Gg hj
  have htk:f.rs.take (j+1)=f.rs.take j++[f.rs[j]]:=List.take_succ_eq_append_getElem hj
  generalize f.rs[j]=r at hr htk
  have hgr:=Iv hr
  obtain⟨r1,r2,r3⟩:=w.rt j r hr
  rw[r1] at hgr
  have dh:=D2.holds r.2 r2 c hc
  have hs:=Rf (Tr2 f c) c (f.rs.take j) r
  rw[←htk,r1] at hs
  have hle:=Zc (Tr2 f c) c f.rs (j+1)
  refine Yw1 ?_
  refine PX.seq (PX.block ?_)
  refine PX.seq (PX.wp (pu:=pt) pf ?_)
  refine Yw1 ?_
  refine PX.seq (PX.wp (pu:=pt) pf ?_)
  cases hb:r.2.testBit c
  ·rw[hb] at dh hs
   simp only[Fj,if_false,List.append_nil] at hs
   refine Yw1 ?_
   refine PX.wp (pu:=pt) pf ?_
   refine Yw1 ?_
   exact⟨(j+1,bv),_,_,[],[],(show _-_<_-_ by omega),trR tnk ⟨hm',hK',Lg.nil,rfl,rfl,rfl,rfl,rfl,rfl,rfl,rfl,rfl⟩ Yf,rfl,.nil,hj,(by rw[hs];exact hbv),(by rw[hs];exact hno),m',K',hm',hK',rfl⟩
  ·rw[hb] at dh hs
   simp only[if_true] at hs
   have hjn:j<f.ns.length:=by omega
   have hget:=FV pf D2 hc tnk hL w v j hjn m' K' 0 hm' hK'
   refine Yw1 ?_
   refine PX.seq (PX.seq ?_)
   refine PX.FL 4 (pu:=pt) pf rfl rfl rfl rfl ?_
   refine Yw1 ?_
   refine⟨rfl,_,_,_,_,rfl,rfl,PAt tnk ⟨hm',hK',Lg.nil,rfl,rfl,rfl,rfl,rfl,rfl,rfl,rfl,rfl⟩ rfl Ya hget,zP (pu:=pt) (F:=Fn) rfl (by decide) rfl rfl rfl ?_ ?_,?_⟩
   ·exact trivial
   ·rintro r' g' ⟨ms,m2,K2,a0,a1,a8,rfl,hms,hm2,hK2,lga,rfl⟩
    exact⟨_,rfl,rfl⟩
   ·rintro r' g' ⟨ms,m2,K2,a0,a1,a8,rfl,hms,hm2,hK2,lga,rfl⟩
    refine Yw1 ?_
    refine⟨_,_,XQ,?_⟩
    have hsb:sbt t 0 (tR t).length=t:=by rw[htl];simp[sbt]
    have hl:=congrArg List.length hs
    rw[La] at hl
    cases hf:fnd ms (tR t).length with
    |some u=>
     obtain⟨n1,hu,hmi⟩:=hms.mi hf
     have hn1:n1<(Tr2 f c j).length:=(Gi.1 hmi.1.2.2).1
     have hadd:=S9 (f:=f) (c:=c) (tot:=tot) hm2 hbv hu (by omega)
     have unk:=hu.nk
     have hpre:Bq (Tr2 f c) c f.rs=Bq (Tr2 f c) c (f.rs.take (j+1))++Bq (Tr2 f c) c (f.rs.drop (j+1)):=by
      conv=>lhs;rw[←List.take_append_drop (j+1) f.rs]
      rw[Bq,List.flatMap_append];rfl
     refine Yw1 ?_
     refine⟨rfl,?_⟩
     refine PX.seq (PX.wp (pu:=pt) pf ?_)
     refine Yw1 ?_
     refine PX.wp (pu:=pt) pf ?_
     refine Yw1 ?_
     refine XC.Be (l:=tyL f c tot m2 [] []) (nx:=k2) tyR hadd rfl rfl (Du tnk hm2 rfl rfl) Ya ?_
     rintro rc gc' ⟨⟨z,rfl,hz⟩,m3,b0,b1,hm3,_,lgb0,e0,e1⟩
     have znk:=hz.nk
     refine⟨[],k10,tyX f c tot m3 (b0++_) (b1++_),[],.v (.s z),rfl,Rl,Dz tnk hm3 e0 e1 rfl rfl rfl rfl,trivial,hz.nk.rn,?_⟩
     refine Yw1 ?_
     refine⟨z,_,rfl,hz,?_,?_⟩
     ·have:=hmi.1.2.2
      rw[hsb] at this
      rw[hpre,hs,List.append_assoc,List.getElem?_append_right (by omega),Nat.add_sub_cancel_left,List.getElem?_append_left (by omega)]
      exact this
     ·intro n' hn'
      rw[hpre,hs,List.append_assoc] at hn'
      by_cases h1:n'<(Bq (Tr2 f c) c (f.rs.take j)).length
      ·rw[List.getElem?_append_left h1] at hn'
       exact absurd hn' (hno n')
      ·rw[List.getElem?_append_right (by omega)] at hn'
       by_cases h2:n'-(Bq (Tr2 f c) c (f.rs.take j)).length<(Tr2 f c j).length
       ·rw[List.getElem?_append_left h2] at hn'
        have:=hmi.2 (n'-(Bq (Tr2 f c) c (f.rs.take j)).length) ⟨Zl,by rw[htl];exact Rl,by rw[hsb];exact hn'⟩
        omega
       ·omega
    |none=>
     have hnot:∀n:Nat,(Tr2 f c j)[n]?≠some t:=fun n hn=>hms.no _ hf n ⟨Zl,by rw[htl];exact Rl,by rw[hsb];exact hn⟩
     have hG:=Ux (tot:=tot) D2 hc tnk w v j hjn m2 hm2
     refine Yw1 ?_
     refine⟨rfl,?_⟩
     refine PX.seq (PX.wp (pu:=pt) pf ?_)
     refine Yw1 ?_
     refine PX.wp (pu:=pt) pf ?_
     refine Yw1 ?_
     refine PX.wp (pu:=pt) pf ?_
     refine Yw1 ?_
     refine XC.Be (l:=tyL f c tot m2 [] []) (nx:=k2) tyR hG rfl rfl (Du tnk hm2 rfl rfl) Ya ?_
     rintro rc gc' ⟨⟨u,rfl,hu⟩,m3,b0,b1,hm3,_,lgb0,e0,e1⟩
     have unk:=hu.nk
     refine⟨[],k10,tyX f c tot m3 (b0++_) (b1++_),[],.v (.s u),rfl,Rl,Dz tnk hm3 e0 e1 rfl rfl rfl rfl,trivial,hu.nk.rn,?_⟩
     have hadd:=S9 (f:=f) (c:=c) (tot:=tot) hm3 hbv hu (by omega)
     rw[←hl] at hadd
     refine Yw1 ?_
     clear e0 e1
     refine XC.Be (l:=tyL f c tot m3 [] []) (nx:=k2) tyR hadd rfl rfl (Du tnk hm3 rfl rfl) Ya ?_
     rintro rc gc' ⟨⟨z,rfl,hz⟩,m4,c0,c1,hm4,_,lgc0,e0,e1⟩
     have znk:=hz.nk
     refine⟨[],k10,tyX f c tot m4 (c0++_) (c1++_),[],.v (.s z),rfl,Rl,Dz tnk hm4 e0 e1 rfl rfl rfl rfl,trivial,hz.nk.rn,?_⟩
     refine Yw1 ?_
     refine PX.wp (pu:=pt) pf ?_
     refine Yw1 ?_
     refine⟨(j+1,z),_,_,[],[],(show _-_<_-_ by omega),trR tnk ⟨hm4,hK2,Yg,rfl,rfl,rfl,rfl,rfl,rfl,rfl,rfl,rfl⟩ Yf,rfl,.nil,hj,hz,?_,m4,K2,hm4,hK2,rfl⟩
     intro n hn
     rw[hs] at hn
     by_cases h1:n<(Bq (Tr2 f c) c (f.rs.take j)).length
     ·rw[List.getElem?_append_left h1] at hn
      exact hno n hn
     ·rw[List.getElem?_append_right (by omega)] at hn
      exact hnot _ hn
 ·have hfull:j=f.rs.length:=by have:=A1 h;omega
  rw[hfull,List.take_length] at hno
  exact absurd hin (hno n0)
end
end Go.Pv
end
section
noncomputable section
namespace Go.Pv
open Go.Vm Go.Vm.C
open Go.Vm.Key (kn)
set_option maxRecDepth 10000
set_option maxHeartbeats 0
def bfK:List Nat→List Nat→Bool
 |x::l,y::m=>if x=y then bfK l m else decide (x<y)
 |l,m=>decide (l.length<m.length)
def bfB (a b:Al):Bool:=if a.p=b.p then bfK a.ks b.ks else decide (a.p<b.p)
theorem Rh (a b:Al) (ha:a.ks.length≤2) (hb:b.ks.length≤2):Ag Fn 86 [.v (.agg (aC a)),.v (.agg (aC b))] (bA (bfB a b)):=by
 obtain⟨p,ks,d⟩:=a
 obtain⟨q,ls,e⟩:=b
 refine Am (pu:=pv) (vf:=C.f86) rfl ?_
 refine⟨fun h=>?_,fun h=>?_⟩
 ·have h:¬p=q:=fun e=>by rw[e] at h;simp at h
  refine cF ?_
  simp[bfB,h]
 have h:p=q:=by
  have:(p:Int)=q:=by simpa using h
  omega
 subst h
 rcases ks with _|⟨x,_|⟨y,_|⟨z,ks⟩⟩⟩<;>rcases ls with _|⟨u,_|⟨v,_|⟨z',ls⟩⟩⟩<;>first|(simp at ha;done)|(simp at hb;done)|skip
 all_goals
  refine XW.Ad (pu:=pv) ?_
  repeat'(try conv=>whnf)<;>first|(refine⟨fun h=>?_,fun h=>?_⟩<;>first|exact J8 h|exact Mx h|exact absurd (Ao h) (by omega)|exact absurd (A1 h) (by omega)|replace h:=Ao h|replace h:=A1 h|skip)|refine⟨_,⟨by omega,by assumption⟩,?_⟩|refine⟨_,⟨by omega,rfl⟩,?_⟩|refine⟨_,_,_,(rfl:Dk _ _ _=_),by assumption,?_⟩|refine⟨_,_,_,Dg (by repeat' first|exact trivial|refine⟨?_,?_⟩|exact Dj _ _|(show Et _;assumption)|fail),by assumption,?_⟩|refine⟨(by omega:_∧_),?_⟩|refine⟨(by omega:_≠_),?_⟩|refine⟨_,_,(rfl:opP _ _ _=_),?_⟩|exact⟨_,(rfl:E8 _ _ _=_)⟩|fail
 all_goals try
  refine XW.Ad (pu:=pv) ?_
  repeat'(try conv=>whnf)<;>first|(refine⟨fun h=>?_,fun h=>?_⟩<;>first|exact J8 h|exact Mx h|exact absurd (Ao h) (by omega)|exact absurd (A1 h) (by omega)|replace h:=Ao h|replace h:=A1 h|skip)|refine⟨_,⟨by omega,by assumption⟩,?_⟩|refine⟨_,⟨by omega,rfl⟩,?_⟩|refine⟨_,_,_,(rfl:Dk _ _ _=_),by assumption,?_⟩|refine⟨_,_,_,Dg (by repeat' first|exact trivial|refine⟨?_,?_⟩|exact Dj _ _|(show Et _;assumption)|fail),by assumption,?_⟩|refine⟨(by omega:_∧_),?_⟩|refine⟨(by omega:_≠_),?_⟩|refine⟨_,_,(rfl:opP _ _ _=_),?_⟩|exact⟨_,(rfl:E8 _ _ _=_)⟩|fail
 all_goals try
  refine XW.Ad (pu:=pv) ?_
  refine Yw1 ?_
 all_goals refine cF ?_
 all_goals try simp at *
 all_goals simp[bfB,bfK, *]
 all_goals first
  |omega
  |(intro _;exfalso;omega)
  |(split<;>first|omega|(exfalso;omega)|(have e:y≠v:=fun e=>by(subst e;omega));simp[e])
def pI (x:Al):List Al→List Al
 |y::l=>if bfB x y then y::pI x l else x::y::l
 |[]=>[x]
def Br (l:List Al):List Al:=(l.foldl (fun acc x=>pI x acc) []).reverse
abbrev eb (c:List PV):Ap:=⟨.cells c,false,false,[],[]⟩
theorem pJ (a:Al):XC Fn 26 [.v (.s (.slice k0 0 1 4 none))] (mkH [(k0,ob (Aw aV [a]))] k1) fun r g'=>r=.unit∧g'.get k0=some (ob (Aw aV [a])):=by
 refine XC.of (pu:=pv) (vf:=C.f26) rfl ?_
 refine XW.Ad (pu:=pv) ?_
 refine Yw1 ?_
 refine XW.Ad (pu:=pv) ?_
 refine Yw1 ?_
 refine XW.Ad (pu:=pv) ?_
 refine Yw1 ?_
 exact⟨rfl,rfl⟩
theorem pK (a b:Al) (ha:a.ks.length≤2) (hb:b.ks.length≤2):XC Fn 26 [.v (.s (.slice k0 0 2 4 none))] (mkH [(k0,⟨.cells (Aw aV [a,b]),true,false,[k1],[]⟩),(k1,eb (Aw aV [a]))] k2)
  fun r g'=>r=.unit∧((g'.get k0=some ⟨.cells (Aw aV (Br [a,b])),true,false,[k1],[]⟩∧g'.get k1=some (eb (Aw aV [a])))∨∃lg,g'.get k0=some ⟨.cells (Aw aV (Br [a,b])),true,false,[],lg⟩∧g'.get k1=none):=by
 have bf:=Rh b a hb ha
 have e:Br [a,b]=if bfB b a then[b,a] else[a,b]:=by
  simp only[Br,List.foldl,pI];split<;>rfl
 refine XC.of (pu:=pv) (vf:=C.f26) rfl ?_
 refine XW.Ad (pu:=pv) ?_
 refine Yw1 ?_
 refine XW.Ad (pu:=pv) ?_
 refine Yw1 ?_
 refine XW.Ad (pu:=pv) ?_
 refine Yw1 ?_
 refine XW.Ad (pu:=pv) ?_
 cases hbf:bfB b a with
 |true=>
  rw[hbf] at bf e
  rw[e]
  refine Yw1 ?_
  refine XW.Ad (pu:=pv) ?_
  refine Yw1 ?_
  refine XW.Ad (pu:=pv) ?_
  refine Yw1 ?_
  exact⟨rfl,.inr ⟨_,rfl,rfl⟩⟩
 |false=>
  rw[hbf] at bf e
  rw[e]
  refine Yw1 ?_
  refine XW.Ad (pu:=pv) ?_
  refine Yw1 ?_
  exact⟨rfl,.inl ⟨rfl,rfl⟩⟩
theorem Fc (l:List Al):∀v∈Aw aV l,Ae v:=fun v h=>by
 simp only[Aw,List.mem_flatMap,aV,List.mem_cons,List.not_mem_nil,or_false] at h
 obtain⟨a,_,rfl|rfl|rfl|rfl⟩:=h
 ·exact trivial
 ·exact Ar _ _
 ·exact Ar _ _
 ·exact trivial
theorem pL (a b c:Al) (ha:a.ks.length≤2) (hb:b.ks.length≤2) (hc:c.ks.length≤2):XC Fn 26 [.v (.s (.slice k0 0 3 4 none))] (mkH [(k0,⟨.cells (Aw aV [a,b,c]),true,false,[k1,k2],[]⟩),(k1,eb (Aw aV [a,b])),(k2,eb (Aw aV [a]))] k3)
  fun r g'=>r=.unit∧((g'.get k0=some ⟨.cells (Aw aV (Br [a,b,c])),true,false,[k1,k2],[]⟩∧g'.get k1=some (eb (Aw aV [a,b]))∧g'.get k2=some (eb (Aw aV [a])))∨∃lg,g'.get k0=some ⟨.cells (Aw aV (Br [a,b,c])),true,false,[],lg⟩∧g'.get k1=none∧g'.get k2=none):=by
 have b1:=Rh b a hb ha
 have b2:=Rh c a hc ha
 have b3:=Rh c b hc hb
 have e:Br [a,b,c]=(if bfB b a then(if bfB c a then(if bfB c b then[c,b,a] else[b,c,a]) else[b,a,c]) else(if bfB c b then(if bfB c a then[c,a,b] else[a,c,b]) else[a,b,c])):=by
  cases h1:bfB b a<;>cases h2:bfB c a<;>cases h3:bfB c b<;>simp[Br,pI,h1,h2,h3]
 have tA:∀{l:List Al} {L1 L2:Fm} {g1:Ab},g1.get k0=some ⟨.cells (Aw aV l),true,false,[k1,k2],[]⟩→g1.get k1=some (eb (Aw aV [a,b]))→g1.get k2=some (eb (Aw aV [a]))→M1 (rho 3 []) L1 L2→Trim 3 (rho 3 []) L1 g1 L2 (mkH [(k0,⟨.cells (Aw aV l),true,false,[k1,k2],[]⟩),(k1,eb (Aw aV [a,b])),(k2,eb (Aw aV [a]))] k3):=fun h0 h1 h2 h3=>
  Trim.of [] rfl (Rl) ⟨h2.symm,h1.symm,h0.symm,trivial⟩ ⟨⟨_,_,rfl,h0,⟨Ae.cells (Fc _),fun _=>⟨rfl,.inl (.cons rfl (.cons rfl .nil))⟩,rfl⟩⟩,⟨_,_,rfl,h1,⟨Ae.cells (Fc _),(fun h=>(by cases h)),rfl⟩⟩,⟨_,_,rfl,h2,⟨Ae.cells (Fc _),(fun h=>(by cases h)),rfl⟩⟩,trivial⟩ h3
 have tD:∀{l:List Al} {L1 L2:Fm} {g1:Ab} {lg:List (Nat×Nat)},g1.get k0=some ⟨.cells (Aw aV l),true,false,[],lg⟩→g1.get k1=none→g1.get k2=none→M1 (rho 3 []) L1 L2→Trim 3 (rho 3 []) L1 g1 L2 (mkH [(k0,⟨.cells (Aw aV l),true,false,[],lg⟩)] k3):=fun h0 h1 h2 h3=>
  Trim.of [] rfl (Rl) ⟨h2.symm,h1.symm,h0.symm,trivial⟩ ⟨⟨_,_,rfl,h0,⟨Ae.cells (Fc _),fun _=>⟨rfl,.inl .nil⟩,rfl⟩⟩,trivial⟩ h3
 refine XC.of (pu:=pv) (vf:=C.f26) rfl ?_
 refine XW.trim (tA (l:=[a,b,c]) (L2:=[(k0,.v (.v (.s (.slice k0 0 3 4 none)))),(k2,.v (iA 0))]) rfl rfl rfl Yf) (XW.Ad (pu:=pv) ?_)
 refine Yw1 ?_
 refine XW.trim (tA (l:=[a,b,c]) (L2:=[(k0,.v (.v (.s (.slice k0 0 3 4 none)))),(k2,.v (iA 0)),(k3,.v (iA 0))]) rfl rfl rfl Yf) (XW.Ad (pu:=pv) ?_)
 refine Yw1 ?_
 refine XW.trim (tA (l:=[a,b,c]) (L2:=[(k0,.v (.v (.s (.slice k0 0 3 4 none)))),(k2,.v (iA 1))]) rfl rfl rfl Yf) (XW.Ad (pu:=pv) ?_)
 refine Yw1 ?_
 refine XW.trim (tA (l:=[a,b,c]) (L2:=[(k0,.v (.v (.s (.slice k0 0 3 4 none)))),(k2,.v (iA 1)),(k3,.v (iA 1))]) rfl rfl rfl Yf) (XW.Ad (pu:=pv) ?_)
 cases h1:bfB b a with
 |true=>
  rw[h1] at b1 e
  refine Yw1 ?_
  refine XW.trim (tD (l:=[b,a,c]) (L2:=[(k0,.v (.v (.s (.slice k0 0 3 4 none)))),(k2,.v (iA 1)),(k3,.v (iA 0))]) rfl rfl rfl Yf) (XW.Ad (pu:=pv) ?_)
  refine Yw1 ?_
  refine XW.trim (tD (l:=[b,a,c]) (L2:=[(k0,.v (.v (.s (.slice k0 0 3 4 none)))),(k2,.v (iA 2))]) rfl rfl rfl Yf) (XW.Ad (pu:=pv) ?_)
  refine Yw1 ?_
  refine XW.trim (tD (l:=[b,a,c]) (L2:=[(k0,.v (.v (.s (.slice k0 0 3 4 none)))),(k2,.v (iA 2)),(k3,.v (iA 2))]) rfl rfl rfl Yf) (XW.Ad (pu:=pv) ?_)
  cases h2:bfB c a with
  |true=>
   rw[h2] at b2 e
   refine Yw1 ?_
   refine XW.trim (tD (l:=[b,c,a]) (L2:=[(k0,.v (.v (.s (.slice k0 0 3 4 none)))),(k2,.v (iA 2)),(k3,.v (iA 1))]) rfl rfl rfl Yf) (XW.Ad (pu:=pv) ?_)
   cases h3:bfB c b with
   |true=>
    rw[h3] at b3 e
    refine Yw1 ?_
    refine XW.trim (tD (l:=[c,b,a]) (L2:=[(k0,.v (.v (.s (.slice k0 0 3 4 none)))),(k2,.v (iA 2)),(k3,.v (iA 0))]) rfl rfl rfl Yf) (XW.Ad (pu:=pv) ?_)
    refine Yw1 ?_
    refine XW.trim (tD (l:=[c,b,a]) (L2:=[(k0,.v (.v (.s (.slice k0 0 3 4 none)))),(k2,.v (iA 3))]) rfl rfl rfl Yf) (XW.Ad (pu:=pv) ?_)
    refine Yw1 ?_
    rw[e];exact⟨rfl,.inr ⟨_,rfl,rfl,rfl⟩⟩
   |false=>
    rw[h3] at b3 e
    refine Yw1 ?_
    refine XW.trim (tD (l:=[b,c,a]) (L2:=[(k0,.v (.v (.s (.slice k0 0 3 4 none)))),(k2,.v (iA 3))]) rfl rfl rfl Yf) (XW.Ad (pu:=pv) ?_)
    refine Yw1 ?_
    rw[e];exact⟨rfl,.inr ⟨_,rfl,rfl,rfl⟩⟩
  |false=>
   rw[h2] at b2 e
   refine Yw1 ?_
   refine XW.trim (tD (l:=[b,a,c]) (L2:=[(k0,.v (.v (.s (.slice k0 0 3 4 none)))),(k2,.v (iA 3))]) rfl rfl rfl Yf) (XW.Ad (pu:=pv) ?_)
   refine Yw1 ?_
   rw[e];exact⟨rfl,.inr ⟨_,rfl,rfl,rfl⟩⟩
 |false=>
  rw[h1] at b1 e
  refine Yw1 ?_
  refine XW.trim (tA (l:=[a,b,c]) (L2:=[(k0,.v (.v (.s (.slice k0 0 3 4 none)))),(k2,.v (iA 2))]) rfl rfl rfl Yf) (XW.Ad (pu:=pv) ?_)
  refine Yw1 ?_
  refine XW.trim (tA (l:=[a,b,c]) (L2:=[(k0,.v (.v (.s (.slice k0 0 3 4 none)))),(k2,.v (iA 2)),(k3,.v (iA 2))]) rfl rfl rfl Yf) (XW.Ad (pu:=pv) ?_)
  cases h3:bfB c b with
  |true=>
   rw[h3] at b3 e
   refine Yw1 ?_
   refine XW.trim (tD (l:=[a,c,b]) (L2:=[(k0,.v (.v (.s (.slice k0 0 3 4 none)))),(k2,.v (iA 2)),(k3,.v (iA 1))]) rfl rfl rfl Yf) (XW.Ad (pu:=pv) ?_)
   cases h2:bfB c a with
   |true=>
    rw[h2] at b2 e
    refine Yw1 ?_
    refine XW.trim (tD (l:=[c,a,b]) (L2:=[(k0,.v (.v (.s (.slice k0 0 3 4 none)))),(k2,.v (iA 2)),(k3,.v (iA 0))]) rfl rfl rfl Yf) (XW.Ad (pu:=pv) ?_)
    refine Yw1 ?_
    refine XW.trim (tD (l:=[c,a,b]) (L2:=[(k0,.v (.v (.s (.slice k0 0 3 4 none)))),(k2,.v (iA 3))]) rfl rfl rfl Yf) (XW.Ad (pu:=pv) ?_)
    refine Yw1 ?_
    rw[e];exact⟨rfl,.inr ⟨_,rfl,rfl,rfl⟩⟩
   |false=>
    rw[h2] at b2 e
    refine Yw1 ?_
    refine XW.trim (tD (l:=[a,c,b]) (L2:=[(k0,.v (.v (.s (.slice k0 0 3 4 none)))),(k2,.v (iA 3))]) rfl rfl rfl Yf) (XW.Ad (pu:=pv) ?_)
    refine Yw1 ?_
    rw[e];exact⟨rfl,.inr ⟨_,rfl,rfl,rfl⟩⟩
  |false=>
   rw[h3] at b3 e
   refine Yw1 ?_
   refine XW.trim (tA (l:=[a,b,c]) (L2:=[(k0,.v (.v (.s (.slice k0 0 3 4 none)))),(k2,.v (iA 3))]) rfl rfl rfl Yf) (XW.Ad (pu:=pv) ?_)
   refine Yw1 ?_
   rw[e];exact⟨rfl,.inl ⟨rfl,rfl,rfl⟩⟩
end Go.Pv
end
section
noncomputable section
namespace Go.Pv
open Go.Vm Go.Vm.C
open Go.Vm.Key (kn)
set_option maxRecDepth 10000
def Qh (i b:Nat):Option Al:=match b / 3 % 16 with
 |0=>none
 |d+1=>some ⟨b % 3,match i with
  |0=>[]
  |i+1=>(List.range (b / 8 % 3)).map fun m=>(b / 16+m) % (i+1),d+1⟩
def Wv (l:List Nat) (i:Nat):List Al:=((List.range 3).filterMap fun k=>(l[3*i+k]?).bind (Qh i))
def Hp (l:List Nat) (i:Nat):Nd:=⟨i / 2,i % 2,Br (Wv l i)⟩
def Ch (l:List Nat):Nat:=2+l.length / 6 % 4
def loose (l:List Nat):Fo:=⟨(List.range (Ch l)).map (Hp l),(List.range (Ch l)).map fun i=>(i,(170+40*i) % 256 % 16)⟩
theorem gM (x:Al):∀l:List Al,(pI x l).Perm (x::l)
 |[]=>.refl _
 |y::l=>by
  simp only[pI]
  split
  ·exact((gM x l).cons y).trans (.swap x y l)
  ·exact .refl _
theorem Tb (l:List Al):(Br l).Perm l:=by
 have:∀(l acc:List Al),(l.foldl (fun acc x=>pI x acc) acc).Perm (l.reverse++acc):=by
  intro l
  induction l with
  |nil=>intro acc;exact .refl _
  |cons x l ih=>
   intro acc
   refine(ih (pI x acc)).trans ?_
   rw[List.reverse_cons,List.append_assoc]
   exact(gM x acc).append_left _
 refine(List.reverse_perm _).trans ((this l []).trans ?_)
 rw[List.append_nil];exact List.reverse_perm l
theorem pM {i b:Nat} {a:Al} (h:Qh i b=some a):a.ks.length≤2∧(∀k∈a.ks,k<i)∧a.d<16∧a.d≠0∧a.p<3:=by
 unfold Qh at h
 split at h
 ·cases h
 ·next d hd=>
  simp only[Sj] at h
  subst h
  have:d+1<16:=by omega
  refine⟨?_,?_,this,by simp,by simp only;omega⟩
  ·cases i with
   |zero=>simp
   |succ i=>simp only[Lm,List.length_range];omega
  ·cases i with
   |zero=>simp
   |succ i=>
    simp only[List.mem_map,List.mem_range]
    rintro k ⟨m,_,rfl⟩
    exact Nat.mod_lt _ (Nat.succ_pos i)
theorem zS {l:List Nat} {i:Nat} {a:Al} (h:a∈Wv l i):a.ks.length≤2∧(∀k∈a.ks,k<i)∧a.d<16∧a.d≠0∧a.p<3:=by
 unfold Wv at h
 obtain⟨k,_,hk⟩:=List.mem_filterMap.1 h
 obtain⟨b,_,hb⟩:=Option.bind_eq_some_iff.1 hk
 exact pM hb
theorem tM (l:List Nat) (i:Nat):(Wv l i).length≤3:=by
 unfold Wv
 exact Nat.le_trans (List.length_filterMap_le _ _) (by simp)
theorem dJ {l:List Nat} (hl:l.length≤15):WF0 (loose l):=by
 have hc:Ch l≤4∧2≤Ch l:=by unfold Ch;omega
 have hn:∀(i:Nat) (n:Nd),(loose l).ns[i]?=some n→i<Ch l∧n=Hp l i:=by
  intro i n h
  simp only[loose,List.getElem?_map] at h
  obtain⟨j,hj,rfl⟩:=Option.map_eq_some_iff.1 h
  obtain⟨h1,h2⟩:=Gi.1 hj
  simp only[List.length_range] at h1
  simp only[List.getElem_range] at h2
  subst h2;exact⟨h1,rfl⟩
 refine⟨?_,?_,?_,?_,?_,?_,?_,?_⟩
 ·intro e
  have:=congrArg List.length e
  simp[loose] at this;omega
 ·intro e
  have:=congrArg List.length e
  simp[loose] at this;omega
 ·simp[loose];omega
 ·simp[loose]
 ·intro i n h
  obtain⟨_,rfl⟩:=hn i n h
  rw[show(Hp l i).az=Br (Wv l i) from rfl,(Tb _).length_eq]
  exact tM l i
 ·intro i n h a ha
  obtain⟨_,rfl⟩:=hn i n h
  exact zS ((Tb _).mem_iff.1 ha)
 ·intro i m n h h'
  obtain⟨h1,rfl⟩:=hn i m h
  obtain⟨h2,rfl⟩:=hn _ n h'
  have:i=0∨i=1∨i=2:=by omega
  rcases this with rfl|rfl|rfl<;>(simp only[Hp];decide)
 ·intro i r h
  simp only[loose,List.getElem?_map] at h
  obtain⟨j,hj,rfl⟩:=Option.map_eq_some_iff.1 h
  obtain⟨h1,h2⟩:=Gi.1 hj
  simp only[List.length_range] at h1
  simp only[List.getElem_range] at h2
  subst h2
  have:i=0∨i=1∨i=2∨i=3:=by omega
  rcases this with rfl|rfl|rfl|rfl<;>decide
end Go.Pv
end
section
noncomputable section
namespace Go.Pv
open Go.Vm Go.Vm.C
open Go.Vm.Key (kn)
set_option maxRecDepth 10000
set_option maxHeartbeats 0
def tkV (p:Nat):List PV:=[.int .i64 p,.int .i64 (-1),.int .i64 0,.int .i64 0]
abbrev trA (t:List Nat):PA:=PA.lst 4 (t.map tkV)
theorem FW {l:List Nat} {k:Nat} {a:Nat} (h:l[k]?=some a):(l.map tkV)[(k:Int).toNat]?=some (tkV a):=by simp[h]
theorem pN (s t:List Nat) (hs:s.length<1000000) (ht:t.length<1000000):Ag Fn 17 [trA s,trA t] (bA (decide (s=t))):=by
 have ls:(s.map tkV).length=s.length:=Lm ..
 have lt:(t.map tkV).length=t.length:=Lm ..
 refine Am (pu:=pv) (vf:=C.f17) rfl ?_
 refine⟨fun h=>?_,fun h=>?_⟩
 ·refine cF ?_
  symm
  refine decide_eq_false fun e=>?_
  subst e;simp at h
 have hl:s.length=t.length:=by
  have:((s.map tkV).length:Int)=(t.map tkV).length:=by simpa using h
  omega
 refine XW.fR (pu:=pv) (σ:=Nat) (fun i=>s.length-i) (fun i=>[(k0,.v (trA s)),(k1,.v (trA t)),(k5,.v (iA i))]) (fun i=>i≤s.length∧∀j,j<i→s[j]?=t[j]?) 0 (Zl)
  (.cons rfl rfl (.cons rfl rfl (.cons rfl rfl (.nil _)))) ⟨Zl,fun j h=>absurd h (by omega)⟩ ?_
 rintro i ⟨hi,hc⟩
 refine⟨fun h=>?_,fun h=>?_⟩
 ·have hi:i<s.length:=by have:=Ao h;omega
  have ga:=Gg hi
  generalize s[i]=a at ga
  have gb:=Gg (show i<t.length by omega)
  generalize t[i]'(by omega)=b at gb
  refine⟨_,⟨by omega,FW ga⟩,?_⟩
  refine⟨_,⟨by omega,FW gb⟩,?_⟩
  refine⟨fun h=>?_,fun h=>?_⟩
  ·have hab:a≠b:=fun e=>by rw[e] at h;simp at h
   have e:decide (s=t)=false:=decide_eq_false fun e=>hab (by rw[e,gb] at ga;exact(Option.some.inj ga).symm)
   rw[e]
   exact Yw0
  ·have hab:a=b:=by
    have:(a:Int)=b:=by simpa using h
    omega
   refine Yw1 ?_
   refine⟨i+1,by omega,.cons rfl rfl (.cons rfl rfl (.cons rfl rfl (.nil _))),rfl,by omega,fun j hj=>?_⟩
   by_cases hji:j<i
   ·exact hc j hji
   ·rw[show j=i from by omega,ga,gb,hab]
 ·have e:decide (s=t)=true:=decide_eq_true (List.ext_getElem? fun j=>by
   by_cases hj:j<s.length
   ·exact hc j (by have:=A1 h;omega)
   ·rw[List.getElem?_eq_none (by omega),List.getElem?_eq_none (by omega)])
  rw[e]
  exact Yw0
theorem LJ (u v:List Int) (hu:u.length<1000000) (hv:v.length<1000000):Ag Fn 12 [PA.lst 1 (u.map fun n=>[.int .u32 n]),PA.lst 1 (v.map fun n=>[.int .u32 n])] (bA (decide (u=v))):=by
 have ls:(u.map fun n=>[PV.int .u32 n]).length=u.length:=Lm ..
 have lt:(v.map fun n=>[PV.int .u32 n]).length=v.length:=Lm ..
 have get:∀{l:List Int} {k:Nat} {a:Int},l[k]?=some a→(l.map fun n=>[PV.int .u32 n])[(k:Int).toNat]?=some [.int .u32 a]:=fun h=>by simp[h]
 refine Am (pu:=pv) (vf:=C.f12) rfl ?_
 refine⟨fun h=>?_,fun h=>?_⟩
 ·refine cF ?_
  symm
  refine decide_eq_false fun e=>?_
  subst e;simp at h
 have hl:u.length=v.length:=by
  have:((u.map fun n=>[PV.int .u32 n]).length:Int)=(v.map fun n=>[PV.int .u32 n]).length:=by simpa using h
  omega
 refine XW.fR (pu:=pv) (σ:=Nat) (fun i=>u.length-i) (fun i=>[(k0,.v (PA.lst 1 (u.map fun n=>[.int .u32 n]))),(k1,.v (PA.lst 1 (v.map fun n=>[.int .u32 n]))),(k5,.v (iA i))]) (fun i=>i≤u.length∧∀j,j<i→u[j]?=v[j]?) 0 (Zl)
  (.cons rfl rfl (.cons rfl rfl (.cons rfl rfl (.nil _)))) ⟨Zl,fun j h=>absurd h (by omega)⟩ ?_
 rintro i ⟨hi,hc⟩
 refine⟨fun h=>?_,fun h=>?_⟩
 ·have hi:i<u.length:=by have:=Ao h;omega
  have ga:=Gg hi
  generalize u[i]=a at ga
  have gb:=Gg (show i<v.length by omega)
  generalize v[i]'(by omega)=b at gb
  refine⟨_,⟨by omega,get ga⟩,?_⟩
  refine⟨_,⟨by omega,get gb⟩,?_⟩
  refine⟨fun h=>?_,fun h=>?_⟩
  ·have hab:a≠b:=fun e=>by rw[e] at h;simp at h
   have e:decide (u=v)=false:=decide_eq_false fun e=>hab (by rw[e,gb] at ga;exact(Option.some.inj ga).symm)
   rw[e]
   exact Yw0
  ·have hab:a=b:=by simpa using h
   refine Yw1 ?_
   refine⟨i+1,by omega,.cons rfl rfl (.cons rfl rfl (.cons rfl rfl (.nil _))),rfl,by omega,fun j hj=>?_⟩
   by_cases hji:j<i
   ·exact hc j hji
   ·rw[show j=i from by omega,ga,gb,hab]
 ·have e:decide (u=v)=true:=decide_eq_true (List.ext_getElem? fun j=>by
   by_cases hj:j<u.length
   ·exact hc j (by have:=A1 h;omega)
   ·rw[List.getElem?_eq_none (by omega),List.getElem?_eq_none (by omega)])
  rw[e]
  exact Yw0
end Go.Pv
end
section
noncomputable section
namespace Go.Pv
open Go.Vm
open Go.Vm.Key (kn)
theorem PX.via {P:Program} {F:A4} {lo:Nat} {cd:Ay} {L L2:Fm} {g g2:Ab} {Q:PQT} (h:XW F lo .skip L g fun _ L' g'=>L'=L2∧g'=g2) (m:PX P lo cd L2 g2 [] Q):PX P lo cd L g [] Q:=by
 intro N c hc s0 s h0 hlo hs he hg fr1 hf IV hI
 obtain⟨n,x,fr1',h',Z',p',g',L',e,k1,k2,k3,rfl,rfl⟩:=h s0 s h0 hlo hs he hg fr1 hf
 have hsk:fr1'=fr1∧h'=s.h:=by
  cases n with
  |zero=>simp[exec] at e
  |succ n=>simp only[exec,Sj,Pj] at e;exact⟨e.2.1.symm,e.2.2.symm⟩
 obtain⟨rfl,rfl⟩:=hsk
 cases hI
 exact m N c hc s0 ⟨Z',p',g',s.h⟩ h0 hlo k1 k2 rfl fr1' k3 [] .nil
theorem XW.skip {F:A4} {lo:Nat} {L:Fm} {g:Ab} {Q:B2→Fm→Ab→Prop} (h:Q .normal L g):XW F lo .skip L g Q:=P6 (pu:=fun _=>false) .skip h
theorem PX.E6 {P:Program} {lo:Nat} {cd:Ay} {L:Fm} {g g':Ab} {Q:PQT} (b:Key) (i:Nat) {c:List PV} {own frz:Bool} {anc:List Key} {log:List (Nat×Nat)} {v v':PV} (hb:lo≤b.toNat)
  (hg:g.get b=some ⟨.cells c,own,frz,anc,log⟩) (hi:c[i]?=some v) (hf:Jt deep v g=some (v',g')) (hg':g'.get b=some ⟨.cells c,own,frz,anc,log⟩)
  (h:PX P lo cd L (g'.upd b (some ⟨.cells (c.set i v'),own,frz,anc,log⟩)) [] Q):PX P lo cd L g [] Q:=PX.via (F:=fun _=>none) (XW.E6 b i hb hg hi hf hg' (XW.skip ⟨rfl,rfl⟩)) h
theorem PX.N8 {P:Program} {lo:Nat} {cd:Ay} {L:Fm} {g:Ab} {Q:PQT} (b:Key) {x:Ap} (hb:lo≤b.toNat) (hg:g.get b=some x) (hf:x.frz=false) (h:PX P lo cd L (g.upd b (some { x with frz:=true })) [] Q):PX P lo cd L g [] Q:=
 PX.via (F:=fun _=>none) (XW.N8 b hb hg hf (XW.skip ⟨rfl,rfl⟩)) h
theorem PX.yT {P:Program} {lo:Nat} {cd:Ay} {L:Fm} {g:Ab} {Q:PQT} (b kz:Key) {x z:Ap} (hb:lo≤b.toNat) (hg:g.get b=some x) (hz:g.get kz=some z) (hf:z.frz=true) (h:PX P lo cd L (g.upd b (some { x with anc:=[kz] })) [] Q):PX P lo cd L g [] Q:=
 PX.via (F:=fun _=>none) (XW.yT b kz hb hg hz hf (XW.skip ⟨rfl,rfl⟩)) h
end Go.Pv
end
section
noncomputable section
namespace Go.Pv
open Go.Vm Go.Vm.C
open Go.Vm.Key (kn)
set_option maxRecDepth 40000
set_option maxHeartbeats 0
attribute [local irreducible] PX PXL PXC
def cM0:Ay:=nav [1,1,1,0,1,0] C.f6.body
def cM2:Ay:=nav [0,1,0,0,1,0,1,0] cM0
def cM6:Ay:=nav [1,1,1,1,0,1,0] C.f6.body
abbrev pB (k:Key):FE:=.v (.v (.s (.ptr k 0)))
abbrev uB (bs:List Nat):List (List PV):=bs.map fun b=>[.int .u8 (b:Nat)]
def alB:List Al→List (Key×Ap)
 |[]=>[]
 |[x]=>[(k5,ob (Aw aV [x]))]
 |[x,y]=>[(k5,eb (Aw aV [x])),(k6,⟨.cells (Aw aV [x,y]),true,false,[k5],[]⟩)]
 |x::y::z::_=>[(k5,eb (Aw aV [x])),(k6,eb (Aw aV [x,y])),(k7,⟨.cells (Aw aV [x,y,z]),true,false,[k6,k5],[]⟩)]
def alS:List Al→PV
 |[]=>.Af
 |[_]=>.slice k5 0 1 4 none
 |[_,_]=>.slice k6 0 2 4 none
 |_=>.slice k7 0 3 4 none
abbrev ndB:Option (List Nd×List PV)→List (Key×Ap)
 |none=>[]
 |some (ns,cc)=>[(k2,wld (Aw nV ns) k3),(k3,fzb cc)]
abbrev ndS:Option (List Nd×List PV)→Nat→PV
 |none,_=>.Af
 |some _,i=>.slice k2 0 i 5 none
abbrev ndR:Option (List Nd×List PV)→List (Key×Key)
 |none=>[]
 |some _=>[(k2,k2),(k3,k3)]
abbrev jN (bs:List Nat) (i:Nat):Fm:=[(k0,.v (PA.lst 1 (uB bs))),(k2,pB k0),(k4,pB k1),(k5,.v (iA (Ch bs))),(k6,.v (iA i))]
abbrev hN (o:Option (List Nd×List PV)) (i:Nat):List (Key×Ap):=[(k0,obl [.Af,.Af] []),(k1,obl [ndS o i,.Af] [])]++ndB o
abbrev xC (i:Nat) (s:PV):List PV:=[.int .i64 (i / 2:Nat),.int .i64 0,.int .i64 0,.int .i64 (i % 2:Nat),s]
abbrev jI (bs:List Nat) (i k:Nat):Fm:=jN bs i++[(k7,pB k4),(k8,.v (iA k))]
abbrev hI (o:Option (List Nd×List PV)) (i:Nat) (A:List Al):List (Key×Ap):=hN o i++[(k4,obl (xC i (alS A)) [])]++alB A
def Yu (bs:List Nat) (i k:Nat):List Al:=(List.range k).filterMap fun k=>(bs[3*i+k]?).bind (Qh i)
theorem Ww (bs:List Nat) (i k:Nat):Yu bs i (k+1)=Yu bs i k++((bs[3*i+k]?).bind (Qh i)).toList:=by
 simp only[Yu,List.range_succ,List.filterMap_append]
 congr 1
theorem dK (bs:List Nat) (i:Nat):∀k,(Yu bs i k).length≤k
 |0=>by simp[Yu]
 |k+1=>by
  rw[Ww,La]
  have:=dK bs i k
  cases(bs[3*i+k]?).bind (Qh i)<;>simp<;>omega
theorem FX {bs:List Nat} {i k:Nat} (h:bs.length≤3*i+k):∀{m},k≤m→Yu bs i m=Yu bs i k:=by
 intro m hm
 induction m with
 |zero=>have:k=0:=by omega
        rw[this]
 |succ m ih=>
  by_cases hk:k=m+1
  ·rw[hk]
  ·rw[Ww,ih (by omega),List.getElem?_eq_none (by omega)];simp
theorem LK {bs:List Nat} {i k:Nat} {a:Al} (h:a∈Yu bs i k):a.ks.length≤2∧(∀k∈a.ks,k<i)∧a.d<16∧a.d≠0∧a.p<3:=by
 obtain⟨j,_,hj⟩:=List.mem_filterMap.1 h
 obtain⟨b,_,hb⟩:=Option.bind_eq_some_iff.1 hj
 exact pM hb
theorem wT:∀d,d<16→(dR d=0↔d=0):=by decide
def UW (i b:Nat):List Nat:=match i with
 |0=>[]
 |i+1=>(List.range (b / 8 % 3)).map fun m=>(b / 16+m) % (i+1)
theorem pO (i b:Nat):Qh i b=if b / 3 % 16=0 then none else some ⟨b % 3,UW i b,b / 3 % 16⟩:=by
 unfold Qh
 cases h:b / 3 % 16 with
 |zero=>rfl
 |succ d=>rw[if_neg (by omega)];rfl
theorem Ye (l:List Nd):∀v∈Aw nV l,Ae v:=fun v h=>by
 simp only[Aw,List.mem_flatMap,nV,List.mem_cons,List.not_mem_nil,or_false] at h
 obtain⟨a,_,rfl|rfl|rfl|rfl|rfl⟩:=h
 ·exact trivial
 ·exact trivial
 ·exact trivial
 ·exact trivial
 ·exact Ar _ _
def pl (f:Nat):Bool:=Nat.beq f 10||Nat.beq f 27
def FY (i:Nat) (o:Option (List Nd×List PV)):Prop:=match o with
 |none=>i=0
 |some (ns,cc)=>0<i∧ns.length=i∧∀v∈cc,Ae v
def RI (bs:List Nat) (o:Option (List Nd×List PV)) (i k:Nat) (A:List Al) (L:Fm) (g:Ab):Prop:=∃ρ,Trim 0 ρ L g (jI bs i k) (mkH (hI o i A) k8)
def cB3:Ay:=nav [0,1,0,0,1,1] cM2
theorem UX {P:Program} (pf:PF P Fn) {bs:List Nat} {i k b:Nat} (hi:i≤3) (hb:b<256) (hgb:(uB bs)[((3:Int)*i+k).toNat]?=some [.int .u8 (b:Nat)]) (mk:Ag Fn 10 [PA.lst 1 [[.int .u8 ((b:Int) / 3)]],iA 2] (dA (b / 3 % 16)))
  (hk:0≤(3:Int)*i+k) {ns:List Nd} {cc:List PV} (hcc:∀v∈cc,Ae v) {A:List Al} (hA:A=[]∨(∃x,A=[x])∨∃x y,A=[x,y]) {Q:PQT} (hi0:0<i)
  (hQ:∀L g,RI bs (some (ns,cc)) i k (A++(Qh i b).toList) L g→Q .normal L g []):PX P 0 cB3 (jI bs i k++[(k9,.v (.v (.s (.int .i64 ((3:Int)*i+k)))))]) (mkH (hI (some (ns,cc)) i A) k8) [] Q:=by
 have nk1:=Ye ns
 have hd:b / 3 % 16<16:=by omega
 have hr:b / 8 % 3=0∨b / 8 % 3=1∨b / 8 % 3=2:=by omega
 have hkd:UW i b=(List.range (b / 8 % 3)).map fun m=>(b / 16+m) % i:=by
  cases i with
  |zero=>omega
  |succ i=>rfl
 have hdz:=wT _ hd
 have hae:=pO i b
 rw[hkd] at hae
 have hae':True→_:=fun _=>hae
 have hdz':True→_:=fun _=>hdz
 clear hae hdz hkd hd
 rcases hA with rfl|⟨x,rfl⟩|⟨x,y,rfl⟩
 ·refine PX.seq (PX.wp (pu:=pl) pf ?_)
  refine Yv1 ?_
  refine PX.seq (PX.seq (PX.wp (pu:=pl) pf ?_))
  refine Yv1 ?_
  refine PX.wp (pu:=pl) pf ?_
  refine XW.Ad (pu:=pl) ?_
  rcases hr with hr|hr|hr
  ·refine Yv1 ?_
   refine PX.seq (PX.wp (pu:=pl) pf ?_)
   refine Yv1 ?_
   have hdz:=hdz' trivial
   have hae:=hae' trivial
   rw[hr] at hae
   refine PX.cond rfl rfl (fun h=>?_) (fun h=>?_)
   ·rw[if_neg (fun e=>by rw[hdz.2 e] at h;exact absurd h (by decide))] at hae
    refine PX.wp (pu:=pl) pf ?_
    refine Yv1 ?_
    refine hQ _ _ ?_
    rw[hae]
    exact⟨_,Trim.of [(k0,k0),(k1,k1),(k2,k2),(k3,k3),(k4,k4),(k5,k11)] rfl (Zl) trivial Yb Yf⟩
   ·rw[if_pos (hdz.1 (by simpa using h))] at hae
    refine PX.wp (pu:=pl) pf ?_
    refine Yv1 ?_
    refine hQ _ _ ?_
    rw[hae]
    exact⟨_,Trim.of [(k0,k0),(k1,k1),(k2,k2),(k3,k3),(k4,k4)] rfl (Zl) trivial Yb Yf⟩
  ·refine Yv1 ?_
   refine XW.Ad (pu:=pl) ?_
   refine Yv1 ?_
   refine PX.E6 k9 1 (Zl) rfl rfl rfl rfl ?_
   refine PX.seq (PX.wp (pu:=pl) pf ?_)
   refine Yv1 ?_
   have hdz:=hdz' trivial
   have hae:=hae' trivial
   rw[hr] at hae
   refine PX.cond rfl rfl (fun h=>?_) (fun h=>?_)
   ·rw[if_neg (fun e=>by rw[hdz.2 e] at h;exact absurd h (by decide))] at hae
    refine PX.wp (pu:=pl) pf ?_
    refine Yv1 ?_
    refine hQ _ _ ?_
    rw[hae]
    exact⟨_,Trim.of [(k0,k0),(k1,k1),(k2,k2),(k3,k3),(k4,k4),(k5,k13)] rfl (Zl) trivial Yb Yf⟩
   ·rw[if_pos (hdz.1 (by simpa using h))] at hae
    refine PX.wp (pu:=pl) pf ?_
    refine Yv1 ?_
    refine hQ _ _ ?_
    rw[hae]
    exact⟨_,Trim.of [(k0,k0),(k1,k1),(k2,k2),(k3,k3),(k4,k4)] rfl (Zl) trivial Yb Yf⟩
  ·refine Yv1 ?_
   refine XW.Ad (pu:=pl) ?_
   refine Yv1 ?_
   refine XW.Ad (pu:=pl) ?_
   refine Yv1 ?_
   refine PX.E6 k9 1 (Zl) rfl rfl rfl rfl ?_
   refine PX.seq (PX.wp (pu:=pl) pf ?_)
   refine Yv1 ?_
   have hdz:=hdz' trivial
   have hae:=hae' trivial
   rw[hr] at hae
   refine PX.cond rfl rfl (fun h=>?_) (fun h=>?_)
   ·rw[if_neg (fun e=>by rw[hdz.2 e] at h;exact absurd h (by decide))] at hae
    refine PX.wp (pu:=pl) pf ?_
    refine Yv1 ?_
    refine hQ _ _ ?_
    rw[hae]
    exact⟨_,Trim.of [(k0,k0),(k1,k1),(k2,k2),(k3,k3),(k4,k4),(k5,k15)] rfl (Zl) trivial Yb Yf⟩
   ·rw[if_pos (hdz.1 (by simpa using h))] at hae
    refine PX.wp (pu:=pl) pf ?_
    refine Yv1 ?_
    refine hQ _ _ ?_
    rw[hae]
    exact⟨_,Trim.of [(k0,k0),(k1,k1),(k2,k2),(k3,k3),(k4,k4)] rfl (Zl) trivial Yb Yf⟩
 ·refine PX.seq (PX.wp (pu:=pl) pf ?_)
  refine Yv1 ?_
  refine PX.seq (PX.seq (PX.wp (pu:=pl) pf ?_))
  refine Yv1 ?_
  refine PX.wp (pu:=pl) pf ?_
  refine XW.Ad (pu:=pl) ?_
  rcases hr with hr|hr|hr
  ·refine Yv1 ?_
   refine PX.seq (PX.wp (pu:=pl) pf ?_)
   refine Yv1 ?_
   have hdz:=hdz' trivial
   have hae:=hae' trivial
   rw[hr] at hae
   refine PX.cond rfl rfl (fun h=>?_) (fun h=>?_)
   ·rw[if_neg (fun e=>by rw[hdz.2 e] at h;exact absurd h (by decide))] at hae
    refine PX.wp (pu:=pl) pf ?_
    refine Yv1 ?_
    refine hQ _ _ ?_
    rw[hae]
    exact⟨_,Trim.of [(k0,k0),(k1,k1),(k2,k2),(k3,k3),(k4,k4),(k5,k5),(k6,k11)] rfl (Zl) trivial Yb Yf⟩
   ·rw[if_pos (hdz.1 (by simpa using h))] at hae
    refine PX.wp (pu:=pl) pf ?_
    refine Yv1 ?_
    refine hQ _ _ ?_
    rw[hae]
    exact⟨_,Trim.of [(k0,k0),(k1,k1),(k2,k2),(k3,k3),(k4,k4),(k5,k5)] rfl (Zl) trivial Yb Yf⟩
  ·refine Yv1 ?_
   refine XW.Ad (pu:=pl) ?_
   refine Yv1 ?_
   refine PX.E6 k9 1 (Zl) rfl rfl rfl rfl ?_
   refine PX.seq (PX.wp (pu:=pl) pf ?_)
   refine Yv1 ?_
   have hdz:=hdz' trivial
   have hae:=hae' trivial
   rw[hr] at hae
   refine PX.cond rfl rfl (fun h=>?_) (fun h=>?_)
   ·rw[if_neg (fun e=>by rw[hdz.2 e] at h;exact absurd h (by decide))] at hae
    refine PX.wp (pu:=pl) pf ?_
    refine Yv1 ?_
    refine hQ _ _ ?_
    rw[hae]
    exact⟨_,Trim.of [(k0,k0),(k1,k1),(k2,k2),(k3,k3),(k4,k4),(k5,k5),(k6,k13)] rfl (Zl) trivial Yb Yf⟩
   ·rw[if_pos (hdz.1 (by simpa using h))] at hae
    refine PX.wp (pu:=pl) pf ?_
    refine Yv1 ?_
    refine hQ _ _ ?_
    rw[hae]
    exact⟨_,Trim.of [(k0,k0),(k1,k1),(k2,k2),(k3,k3),(k4,k4),(k5,k5)] rfl (Zl) trivial Yb Yf⟩
  ·refine Yv1 ?_
   refine XW.Ad (pu:=pl) ?_
   refine Yv1 ?_
   refine XW.Ad (pu:=pl) ?_
   refine Yv1 ?_
   refine PX.E6 k9 1 (Zl) rfl rfl rfl rfl ?_
   refine PX.seq (PX.wp (pu:=pl) pf ?_)
   refine Yv1 ?_
   have hdz:=hdz' trivial
   have hae:=hae' trivial
   rw[hr] at hae
   refine PX.cond rfl rfl (fun h=>?_) (fun h=>?_)
   ·rw[if_neg (fun e=>by rw[hdz.2 e] at h;exact absurd h (by decide))] at hae
    refine PX.wp (pu:=pl) pf ?_
    refine Yv1 ?_
    refine hQ _ _ ?_
    rw[hae]
    exact⟨_,Trim.of [(k0,k0),(k1,k1),(k2,k2),(k3,k3),(k4,k4),(k5,k5),(k6,k15)] rfl (Zl) trivial Yb Yf⟩
   ·rw[if_pos (hdz.1 (by simpa using h))] at hae
    refine PX.wp (pu:=pl) pf ?_
    refine Yv1 ?_
    refine hQ _ _ ?_
    rw[hae]
    exact⟨_,Trim.of [(k0,k0),(k1,k1),(k2,k2),(k3,k3),(k4,k4),(k5,k5)] rfl (Zl) trivial Yb Yf⟩
 ·refine PX.seq (PX.wp (pu:=pl) pf ?_)
  refine Yv1 ?_
  refine PX.seq (PX.seq (PX.wp (pu:=pl) pf ?_))
  refine Yv1 ?_
  refine PX.wp (pu:=pl) pf ?_
  refine XW.Ad (pu:=pl) ?_
  rcases hr with hr|hr|hr
  ·refine Yv1 ?_
   refine PX.seq (PX.wp (pu:=pl) pf ?_)
   refine Yv1 ?_
   have hdz:=hdz' trivial
   have hae:=hae' trivial
   rw[hr] at hae
   refine PX.cond rfl rfl (fun h=>?_) (fun h=>?_)
   ·rw[if_neg (fun e=>by rw[hdz.2 e] at h;exact absurd h (by decide))] at hae
    refine PX.wp (pu:=pl) pf ?_
    refine Yv1 ?_
    refine hQ _ _ ?_
    rw[hae]
    exact⟨_,Trim.of [(k0,k0),(k1,k1),(k2,k2),(k3,k3),(k4,k4),(k5,k5),(k6,k6),(k7,k11)] rfl (Zl) trivial Yb Yf⟩
   ·rw[if_pos (hdz.1 (by simpa using h))] at hae
    refine PX.wp (pu:=pl) pf ?_
    refine Yv1 ?_
    refine hQ _ _ ?_
    rw[hae]
    exact⟨_,Trim.of [(k0,k0),(k1,k1),(k2,k2),(k3,k3),(k4,k4),(k5,k5),(k6,k6)] rfl (Zl) trivial Yb Yf⟩
  ·refine Yv1 ?_
   refine XW.Ad (pu:=pl) ?_
   refine Yv1 ?_
   refine PX.E6 k9 1 (Zl) rfl rfl rfl rfl ?_
   refine PX.seq (PX.wp (pu:=pl) pf ?_)
   refine Yv1 ?_
   have hdz:=hdz' trivial
   have hae:=hae' trivial
   rw[hr] at hae
   refine PX.cond rfl rfl (fun h=>?_) (fun h=>?_)
   ·rw[if_neg (fun e=>by rw[hdz.2 e] at h;exact absurd h (by decide))] at hae
    refine PX.wp (pu:=pl) pf ?_
    refine Yv1 ?_
    refine hQ _ _ ?_
    rw[hae]
    exact⟨_,Trim.of [(k0,k0),(k1,k1),(k2,k2),(k3,k3),(k4,k4),(k5,k5),(k6,k6),(k7,k13)] rfl (Zl) trivial Yb Yf⟩
   ·rw[if_pos (hdz.1 (by simpa using h))] at hae
    refine PX.wp (pu:=pl) pf ?_
    refine Yv1 ?_
    refine hQ _ _ ?_
    rw[hae]
    exact⟨_,Trim.of [(k0,k0),(k1,k1),(k2,k2),(k3,k3),(k4,k4),(k5,k5),(k6,k6)] rfl (Zl) trivial Yb Yf⟩
  ·refine Yv1 ?_
   refine XW.Ad (pu:=pl) ?_
   refine Yv1 ?_
   refine XW.Ad (pu:=pl) ?_
   refine Yv1 ?_
   refine PX.E6 k9 1 (Zl) rfl rfl rfl rfl ?_
   refine PX.seq (PX.wp (pu:=pl) pf ?_)
   refine Yv1 ?_
   have hdz:=hdz' trivial
   have hae:=hae' trivial
   rw[hr] at hae
   refine PX.cond rfl rfl (fun h=>?_) (fun h=>?_)
   ·rw[if_neg (fun e=>by rw[hdz.2 e] at h;exact absurd h (by decide))] at hae
    refine PX.wp (pu:=pl) pf ?_
    refine Yv1 ?_
    refine hQ _ _ ?_
    rw[hae]
    exact⟨_,Trim.of [(k0,k0),(k1,k1),(k2,k2),(k3,k3),(k4,k4),(k5,k5),(k6,k6),(k7,k15)] rfl (Zl) trivial Yb Yf⟩
   ·rw[if_pos (hdz.1 (by simpa using h))] at hae
    refine PX.wp (pu:=pl) pf ?_
    refine Yv1 ?_
    refine hQ _ _ ?_
    rw[hae]
    exact⟨_,Trim.of [(k0,k0),(k1,k1),(k2,k2),(k3,k3),(k4,k4),(k5,k5),(k6,k6)] rfl (Zl) trivial Yb Yf⟩
theorem RJ {P:Program} (pf:PF P Fn) {bs:List Nat} {k b:Nat} (hb:b<256) (hgb:(uB bs)[((3:Int)*(0:Nat)+k).toNat]?=some [.int .u8 (b:Nat)]) (mk:Ag Fn 10 [PA.lst 1 [[.int .u8 ((b:Int) / 3)]],iA 2] (dA (b / 3 % 16)))
  (hk:0≤(3:Int)*(0:Nat)+k) {A:List Al} (hA:A=[]∨(∃x,A=[x])∨∃x y,A=[x,y]) {Q:PQT}
  (hQ:∀L g,RI bs none 0 k (A++(Qh 0 b).toList) L g→Q .normal L g []):PX P 0 cB3 (jI bs 0 k++[(k9,.v (.v (.s (.int .i64 ((3:Int)*(0:Nat)+k)))))]) (mkH (hI none 0 A) k8) [] Q:=by
 have hd:b / 3 % 16<16:=by omega
 have hr:b / 8 % 3=0∨0<b / 8 % 3:=by omega
 have hdz:=wT _ hd
 have hae:=pO 0 b
 have hae':True→_:=fun _=>hae
 have hdz':True→_:=fun _=>hdz
 clear hae hdz hd
 rcases hA with rfl|⟨x,rfl⟩|⟨x,y,rfl⟩
 ·refine PX.seq (PX.wp (pu:=pl) pf ?_)
  refine Yv1 ?_
  refine PX.seq (PX.seq (PX.wp (pu:=pl) pf ?_))
  refine Yv1 ?_
  refine PX.wp (pu:=pl) pf ?_
  refine XW.Ad (pu:=pl) ?_
  rcases hr with hr|hr
  ·refine Yv1 ?_
   refine PX.seq (PX.wp (pu:=pl) pf ?_)
   refine Yv1 ?_
   have hdz:=hdz' trivial
   have hae:=hae' trivial
   refine PX.cond rfl rfl (fun h=>?_) (fun h=>?_)
   ·rw[if_neg (fun e=>by rw[hdz.2 e] at h;exact absurd h (by decide))] at hae
    refine PX.wp (pu:=pl) pf ?_
    refine Yv1 ?_
    refine hQ _ _ ?_
    rw[hae]
    exact⟨_,Trim.of [(k0,k0),(k1,k1),(k4,k4),(k5,k11)] rfl (Zl) trivial Yb Yf⟩
   ·rw[if_pos (hdz.1 (by simpa using h))] at hae
    refine PX.wp (pu:=pl) pf ?_
    refine Yv1 ?_
    refine hQ _ _ ?_
    rw[hae]
    exact⟨_,Trim.of [(k0,k0),(k1,k1),(k4,k4)] rfl (Zl) trivial Yb Yf⟩
  ·refine Yv1 ?_
   refine PX.seq (PX.wp (pu:=pl) pf ?_)
   refine Yv1 ?_
   have hdz:=hdz' trivial
   have hae:=hae' trivial
   refine PX.cond rfl rfl (fun h=>?_) (fun h=>?_)
   ·rw[if_neg (fun e=>by rw[hdz.2 e] at h;exact absurd h (by decide))] at hae
    refine PX.wp (pu:=pl) pf ?_
    refine Yv1 ?_
    refine hQ _ _ ?_
    rw[hae]
    exact⟨_,Trim.of [(k0,k0),(k1,k1),(k4,k4),(k5,k11)] rfl (Zl) trivial Yb Yf⟩
   ·rw[if_pos (hdz.1 (by simpa using h))] at hae
    refine PX.wp (pu:=pl) pf ?_
    refine Yv1 ?_
    refine hQ _ _ ?_
    rw[hae]
    exact⟨_,Trim.of [(k0,k0),(k1,k1),(k4,k4)] rfl (Zl) trivial Yb Yf⟩
 ·refine PX.seq (PX.wp (pu:=pl) pf ?_)
  refine Yv1 ?_
  refine PX.seq (PX.seq (PX.wp (pu:=pl) pf ?_))
  refine Yv1 ?_
  refine PX.wp (pu:=pl) pf ?_
  refine XW.Ad (pu:=pl) ?_
  rcases hr with hr|hr
  ·refine Yv1 ?_
   refine PX.seq (PX.wp (pu:=pl) pf ?_)
   refine Yv1 ?_
   have hdz:=hdz' trivial
   have hae:=hae' trivial
   refine PX.cond rfl rfl (fun h=>?_) (fun h=>?_)
   ·rw[if_neg (fun e=>by rw[hdz.2 e] at h;exact absurd h (by decide))] at hae
    refine PX.wp (pu:=pl) pf ?_
    refine Yv1 ?_
    refine hQ _ _ ?_
    rw[hae]
    exact⟨_,Trim.of [(k0,k0),(k1,k1),(k4,k4),(k5,k5),(k6,k11)] rfl (Zl) trivial Yb Yf⟩
   ·rw[if_pos (hdz.1 (by simpa using h))] at hae
    refine PX.wp (pu:=pl) pf ?_
    refine Yv1 ?_
    refine hQ _ _ ?_
    rw[hae]
    exact⟨_,Trim.of [(k0,k0),(k1,k1),(k4,k4),(k5,k5)] rfl (Zl) trivial Yb Yf⟩
  ·refine Yv1 ?_
   refine PX.seq (PX.wp (pu:=pl) pf ?_)
   refine Yv1 ?_
   have hdz:=hdz' trivial
   have hae:=hae' trivial
   refine PX.cond rfl rfl (fun h=>?_) (fun h=>?_)
   ·rw[if_neg (fun e=>by rw[hdz.2 e] at h;exact absurd h (by decide))] at hae
    refine PX.wp (pu:=pl) pf ?_
    refine Yv1 ?_
    refine hQ _ _ ?_
    rw[hae]
    exact⟨_,Trim.of [(k0,k0),(k1,k1),(k4,k4),(k5,k5),(k6,k11)] rfl (Zl) trivial Yb Yf⟩
   ·rw[if_pos (hdz.1 (by simpa using h))] at hae
    refine PX.wp (pu:=pl) pf ?_
    refine Yv1 ?_
    refine hQ _ _ ?_
    rw[hae]
    exact⟨_,Trim.of [(k0,k0),(k1,k1),(k4,k4),(k5,k5)] rfl (Zl) trivial Yb Yf⟩
 ·refine PX.seq (PX.wp (pu:=pl) pf ?_)
  refine Yv1 ?_
  refine PX.seq (PX.seq (PX.wp (pu:=pl) pf ?_))
  refine Yv1 ?_
  refine PX.wp (pu:=pl) pf ?_
  refine XW.Ad (pu:=pl) ?_
  rcases hr with hr|hr
  ·refine Yv1 ?_
   refine PX.seq (PX.wp (pu:=pl) pf ?_)
   refine Yv1 ?_
   have hdz:=hdz' trivial
   have hae:=hae' trivial
   refine PX.cond rfl rfl (fun h=>?_) (fun h=>?_)
   ·rw[if_neg (fun e=>by rw[hdz.2 e] at h;exact absurd h (by decide))] at hae
    refine PX.wp (pu:=pl) pf ?_
    refine Yv1 ?_
    refine hQ _ _ ?_
    rw[hae]
    exact⟨_,Trim.of [(k0,k0),(k1,k1),(k4,k4),(k5,k5),(k6,k6),(k7,k11)] rfl (Zl) trivial Yb Yf⟩
   ·rw[if_pos (hdz.1 (by simpa using h))] at hae
    refine PX.wp (pu:=pl) pf ?_
    refine Yv1 ?_
    refine hQ _ _ ?_
    rw[hae]
    exact⟨_,Trim.of [(k0,k0),(k1,k1),(k4,k4),(k5,k5),(k6,k6)] rfl (Zl) trivial Yb Yf⟩
  ·refine Yv1 ?_
   refine PX.seq (PX.wp (pu:=pl) pf ?_)
   refine Yv1 ?_
   have hdz:=hdz' trivial
   have hae:=hae' trivial
   refine PX.cond rfl rfl (fun h=>?_) (fun h=>?_)
   ·rw[if_neg (fun e=>by rw[hdz.2 e] at h;exact absurd h (by decide))] at hae
    refine PX.wp (pu:=pl) pf ?_
    refine Yv1 ?_
    refine hQ _ _ ?_
    rw[hae]
    exact⟨_,Trim.of [(k0,k0),(k1,k1),(k4,k4),(k5,k5),(k6,k6),(k7,k11)] rfl (Zl) trivial Yb Yf⟩
   ·rw[if_pos (hdz.1 (by simpa using h))] at hae
    refine PX.wp (pu:=pl) pf ?_
    refine Yv1 ?_
    refine hQ _ _ ?_
    rw[hae]
    exact⟨_,Trim.of [(k0,k0),(k1,k1),(k4,k4),(k5,k5),(k6,k6)] rfl (Zl) trivial Yb Yf⟩
def XR (bs:List Nat) (o:Option (List Nd×List PV)) (i:Nat) (A:List Al) (L:Fm) (g:Ab):Prop:=∃ρ,Trim 0 ρ L g (jN bs i++[(k7,pB k4)]) (mkH (hI o i A) k8)
theorem UY {P:Program} (pf:PF P Fn) {bs:List Nat} (hb:∀b∈bs,b<256) (hl:bs.length≤15) (mk:∀b:Nat,b<256→Ag Fn 10 [PA.lst 1 [[.int .u8 ((b:Int) / 3)]],iA 2] (dA (b / 3 % 16))) {i:Nat} (hi:i≤3) {o:Option (List Nd×List PV)} (ho:FY i o) {Q:PQT}
  (hQ:∀L g,XR bs o i (Yu bs i 3) L g→Q (.exit 2) L g []):PX P 0 cM2 (jI bs i 0) (mkH (hI o i []) k8) [] Q:=by
 have hbl:(uB bs).length=bs.length:=Lm ..
 refine PX.A7 (σ:=Nat) (fun k=>3-k) (fun k=>jI bs i k) (fun k g=>k≤3∧g=mkH (hI o i (Yu bs i k)) k8) (fun _=>[]) 0 (ρ:=some) (g0:=mkH (hI o i []) k8) ?_ .nil ⟨Zl,rfl⟩ ?_
 ·exact Trim.same (Zl) (.cons rfl rfl (.cons rfl rfl (.cons rfl rfl (.cons rfl rfl (.cons rfl rfl (.cons rfl rfl (.cons rfl rfl (.nil _))))))))
 rintro k g ⟨hk,rfl⟩
 replace hk:k≤3:=hk
 have hpl:=dK bs i k
 have hps:=Ww bs i k
 have hpe:=fun h m (hm:k≤m)=>FX (bs:=bs) (i:=i) (k:=k) h hm
 generalize hA:Yu bs i k=A at hpl hps hpe
 refine PX.seq (PX.seq (PX.wp (pu:=pl) pf ?_))
 refine Yv1 ?_
 refine PX.wp (pu:=pl) pf ?_
 refine⟨fun h=>?_,fun h=>?_⟩
 ·have hk3:k<3:=by have:=Ao h;omega
  refine Yv1 ?_
  refine PX.seq (PX.block ?_)
  refine PX.seq (PX.wp (pu:=pl) pf ?_)
  refine Yv1 ?_
  refine PX.seq (PX.seq (PX.wp (pu:=pl) pf ?_))
  refine Yv1 ?_
  refine PX.wp (pu:=pl) pf ?_
  refine⟨fun h2=>?_,fun h2=>?_⟩
  ·have hend:bs.length≤3*i+k:=by have:=of_decide_eq_true h2;omega
   have:=hpe hend 3 hk
   rw[this] at hQ
   exact hQ _ _ ⟨some,Trim.same (Zl) (.cons rfl rfl (.cons rfl rfl (.cons rfl rfl (.cons rfl rfl (.cons rfl rfl (.cons rfl rfl (.nil _)))))))⟩
  ·have hlt:3*i+k<bs.length:=by have:=of_decide_eq_false h2;omega
   have hbk:bs[3*i+k]?=some bs[3*i+k]:=Gg hlt
   have hb256:=hb bs[3*i+k] (List.getElem_mem hlt)
   generalize bs[3*i+k]=b at hbk hb256
   have hgb:(uB bs)[((3:Int)*i+k).toNat]?=some [.int .u8 (b:Nat)]:=by
    rw[show((3:Int)*i+k).toNat=3*i+k by omega];simp[hbk]
   rw[hbk] at hps
   have hA3:A=[]∨(∃x,A=[x])∨∃x y,A=[x,y]:=by
    rcases A with _|⟨x,_|⟨y,_|⟨z,A⟩⟩⟩
    ·exact .inl rfl
    ·exact .inr (.inl ⟨x,rfl⟩)
    ·exact .inr (.inr ⟨x,y,rfl⟩)
    ·simp only[List.length_cons] at hpl;omega
   have fin:∀L g,RI bs o i k (A++(Qh i b).toList) L g→PX P 0 (nav [0,1,1] cM2) L g [] fun x L1 g1 I1=>match x with
     |.normal=>∃s' ρ g2 Ia Ib,3-s'<3-k∧Trim 0 ρ L1 g1 (jI bs i s') g2∧I1=Ia++Ib∧Aa (ItN ρ) [] Ia∧s'≤3∧g2=mkH (hI o i (Yu bs i s')) k8
     |.exit i=>Q (.exit i) L1 g1 I1
     |.ret=>Q .ret L1 g1 I1:=by
    rintro L g ⟨ρ,tr⟩
    refine PX.trim tr .nil (PX.wp (pu:=pl) pf ?_)
    refine Yv1 ?_
    refine⟨k+1,some,_,[],[],by omega,Trim.same (Zl) (.cons rfl rfl (.cons rfl rfl (.cons rfl rfl (.cons rfl rfl (.cons rfl rfl (.cons rfl rfl (.cons rfl rfl (.nil _)))))))),rfl,.nil,hk3,?_⟩
    rw[hps];rfl
   have low:∀(L L2:Fm) (g:Ab),Sub L2 L→Trim 0 some L g L2 g:=fun L L2 g h=>Trim.same (Zl) h
   refine Yv1 ?_
   refine PX.trim (low _ (jI bs i k++[(k9,.v (.v (.s (.int .i64 ((3:Int)*i+k)))))]) _ (.cons rfl rfl (.cons rfl rfl (.cons rfl rfl (.cons rfl rfl (.cons rfl rfl (.cons rfl rfl (.cons rfl rfl (.cons rfl rfl (.nil _)))))))))) .nil ?_
   cases o with
   |none=>
    have hi0:i=0:=ho
    subst hi0
    exact RJ pf hb256 hgb (mk b hb256) (by omega) hA3 fin
   |some q=>
    obtain⟨ns,cc⟩:=q
    obtain⟨ho1,ho2,ho3⟩:=ho
    exact UX pf hi hb256 hgb (mk b hb256) (by omega) ho3 hA3 ho1 fin
 ·have hk3:k=3:=by have:=A1 h;omega
  rw[hk3] at hA
  rw[hA] at hQ
  refine Yv1 ?_
  exact hQ _ _ ⟨some,Trim.same (Zl) (.cons rfl rfl (.cons rfl rfl (.cons rfl rfl (.cons rfl rfl (.cons rfl rfl (.cons rfl rfl (.nil _)))))))⟩
theorem gN {α:Type} (f:α→List PV) (l:List α) (x:α):Aw f (l++[x])=Aw f l++f x:=by simp[Aw]
theorem zT {α:Type} (f:α→List PV) (l:List α):Aw f l=(l.map f).flatten:=by simp[Aw,List.flatMap_def]
theorem LL (l:List Al):N7 (Aw aV l):=Ep fun v h=>by
 simp only[Aw,List.mem_flatMap,aV,List.mem_cons,List.not_mem_nil,or_false] at h
 obtain⟨a,_,rfl|rfl|rfl|rfl⟩:=h
 ·exact trivial
 ·exact Dj _ _
 ·exact Dj _ _
 ·exact trivial
theorem LM (l:List Nd):N7 (Aw nV l):=Ep fun v h=>by
 simp only[Aw,List.mem_flatMap,nV,List.mem_cons,List.not_mem_nil,or_false] at h
 obtain⟨a,_,rfl|rfl|rfl|rfl|rfl⟩:=h
 ·exact trivial
 ·exact trivial
 ·exact trivial
 ·exact trivial
 ·exact Dj _ _
theorem LN (l:List (Nat×Nat)):N7 (Aw rV l):=Ep fun v h=>by
 simp only[Aw,List.mem_flatMap,rV,List.mem_cons,List.not_mem_nil,or_false] at h
 obtain⟨a,_,rfl|rfl|rfl⟩:=h
 ·exact trivial
 ·exact Dj _ _
 ·exact trivial
theorem NR (l:List (Nat×Nat)):∀v∈Aw rV l,Ae v:=fun v h=>by
 simp only[Aw,List.mem_flatMap,rV,List.mem_cons,List.not_mem_nil,or_false] at h
 obtain⟨a,_,rfl|rfl|rfl⟩:=h
 ·exact trivial
 ·exact Ar _ _
 ·exact trivial
theorem dL {α:Type} {f:α→List PV} {es:Nat} (h:∀x,(f x).length=es) (he:es≠0) {l:List α} (hl:l≠[]) {k:Key} {own frz:Bool} {anc:List Key} {log:List (Nat×Nat)} {g:Ab} (hg:g.get k=some ⟨.cells (Aw f l),own,frz,anc,log⟩) (hf:N7 (Aw f l)) {n:Nat} (hn:n=l.length) :
  Jt deep (.slice k 0 n es none) g=some (.lst es (l.map f) none,if frz then g else g.upd k (some ⟨.cells (Aw f l),own,true,anc,log⟩)):=by
 subst hn
 have h1:=Kf h l
 have h2:0<l.length:=List.length_pos_iff.2 hl
 have h3:l.length*es≠0:=Nat.mul_ne_zero (by omega) he
 have:=Ho (n:=38) (cap:=none) hg h1.symm h3 rfl hf
 rw[zT] at this ⊢
 have hc:chunk es l.length (l.map f).flatten=l.map f:=by
  have:=Rd (es:=es) (l:=l.map f) (fun x hx=>by obtain⟨a,_,rfl⟩:=List.mem_map.1 hx;exact h a)
  rwa [Lm] at this
 rw[hc] at this
 exact this
theorem gO (l:List Al):(Br l).length=l.length:=(Tb l).length_eq
theorem FZ {l:List Al} (h:l≠[]):Br l≠[]:=fun e=>by
 have:=gO l
 rw[e] at this
 exact h (List.length_eq_zero_iff.1 this.symm)
def cSo:Ay:=nav [0,1,0,0,1,1,0] cM0
def cAp:Ay:=nav [0,1,0,0,1,1,1] cM0
abbrev hO (o:Option (List Nd×List PV)) (i:Nat) (n:Nd):List (Key×Ap):=hN o i++[(k4,obl (nV n) [])]
abbrev rO (o:Option (List Nd×List PV)):List (Key×Key):=[(k0,k0),(k1,k1)]++ndR o++[(k4,k4)]
theorem UZ {P:Program} (pf:PF P Fn) {bs:List Nat} {i:Nat} {o:Option (List Nd×List PV)} (ho:FY i o) {A:List Al} (hA:A.length≤3) (hk:∀a∈A,a.ks.length≤2) {Q:PQT}
  (hQ:∀L g,(∃ρ,Trim 0 ρ L g (jN bs i++[(k7,pB k4)]) (mkH (hO o i ⟨i / 2,i % 2,Br A⟩) k8))→PX P 0 cAp L g [] Q):PX P 0 (.seq cSo cAp) (jN bs i++[(k7,pB k4)]) (mkH (hI o i A) k8) [] Q:=by
 have tr:∀{L:Fm} {g:Ab} {l0 l1 l4:List (Nat×Nat)},g.get k0=some (obl [.Af,.Af] l0)→g.get k1=some (obl [ndS o i,.Af] l1)→(∀q,o=some q→g.get k2=some (wld (Aw nV q.1) k3)∧g.get k3=some (fzb q.2))→g.get k4=some (obl (nV ⟨i / 2,i % 2,Br A⟩) l4)→M1 (rho 0 (rO o)) L (jN bs i++[(k7,pB k4)]) →
   ∃ρ,Trim 0 ρ L g (jN bs i++[(k7,pB k4)]) (mkH (hO o i ⟨i / 2,i % 2,Br A⟩) k8):=by
  intro L g l0 l1 l4 e0 e1 e2 e4 hf
  cases o with
  |none=>exact⟨_,Trim.of (rO none) rfl (Zl) trivial ⟨⟨_,_,rfl,e0,.same Yc⟩,⟨_,_,rfl,e1,.same Yc⟩,⟨_,_,rfl,e4,.same Yc⟩,trivial⟩ hf⟩
  |some q=>
   obtain⟨ns,cc⟩:=q
   obtain⟨ho1,ho2,ho3⟩:=ho
   obtain⟨e2,e3⟩:=e2 _ rfl
   exact⟨_,Trim.of (rO (some (ns,cc))) rfl (Zl) trivial ⟨⟨_,_,rfl,e0,.same Yc⟩,⟨_,_,rfl,e1,.same Yc⟩,⟨_,_,rfl,e2,⟨Ae.cells (Ye ns),fun _=>⟨rfl,.inl (.cons rfl .nil)⟩,rfl⟩⟩,⟨_,_,rfl,e3,⟨Ae.cells ho3,fun _=>⟨rfl,.inl .nil⟩,rfl⟩⟩,⟨_,_,rfl,e4,.same Yc⟩,trivial⟩ hf⟩
 have fz:∀{L:Fm} {g:Ab} {l0 l1 l4 l5:List (Nat×Nat)} {kk:Key} {own:Bool} {anc:List Key} {n:Nat},g.get k0=some (obl [.Af,.Af] l0)→g.get k1=some (obl [ndS o i,.Af] l1)→(∀q,o=some q→g.get k2=some (wld (Aw nV q.1) k3)∧g.get k3=some (fzb q.2))→g.get k4=some (obl (xC i (.slice kk 0 n 4 none)) l4) →
   g.get kk=some ⟨.cells (Aw aV (Br A)),own,false,anc,l5⟩→(kk≠k0∧kk≠k1∧kk≠k2∧kk≠k3∧kk≠k4)→n=A.length→A≠[]→M1 (rho 0 (rO o)) L (jN bs i++[(k7,pB k4)])→PX P 0 cAp L g [] Q:=by
  rintro L g l0 l1 l4 l5 kk own anc n e0 e1 e2 e4 ek ⟨n0,n1,n2,n3,n4⟩ hn hA0 hf
  have hi0:=FZ hA0
  have hz:=dL (f:=aV) (es:=4) (fun _=>rfl) (by decide) hi0 ek (LL _) (n:=n) (by rw[gO,hn])
  rw[if_neg Bool.false_ne_true] at hz
  refine PX.E6 k4 4 (Zl) e4 rfl hz ((congrFun (Cr g kk _) k4).trans ((if_neg n4).trans e4)) ?_
  have u:∀k,k≠kk→k≠k4→((g.upd kk (some ⟨.cells (Aw aV (Br A)),own,true,anc,l5⟩)).upd k4 (some ⟨.cells ((xC i (.slice kk 0 n 4 none)).set 4 (.lst 4 ((Br A).map aV) none)),true,false,[],l4⟩)).get k=g.get k:=fun k h1 h2=>by
   exact(congrFun (Cr _ k4 _) k).trans ((if_neg (Ne.symm h2)).trans ((congrFun (Cr g kk _) k).trans (if_neg (Ne.symm h1))))
  refine hQ _ _ (tr (l0:=l0) (l1:=l1) (l4:=l4) ((u k0 n0.symm (by decide)).trans e0) ((u k1 n1.symm (by decide)).trans e1) (fun q hq=>⟨(u k2 n2.symm (by decide)).trans (e2 q hq).1,(u k3 n3.symm (by decide)).trans (e2 q hq).2⟩) ?_ hf)
  refine(congrFun (Cr _ k4 _) k4).trans ((if_pos rfl).trans ?_)
  obtain⟨a,l,e⟩:∃a l,Br A=a::l:=by
   cases h:Br A with
   |nil=>exact absurd h hi0
   |cons a l=>exact⟨a,l,rfl⟩
  simp only[nV,asV,e]
  rfl
 rcases A with _|⟨x,_|⟨y,_|⟨z,_|⟨u,A⟩⟩⟩⟩
 ·rcases o with _|⟨ns,cc⟩
  ·refine PX.seq (PX.wp (pu:=pl) pf ?_)
   refine Yv1 ?_
   refine XC.of (pu:=pl) (vf:=C.f26) rfl ?_
   refine Yv1 ?_
   refine XW.Ad (pu:=pl) ?_
   refine Yv1 ?_
   exact hQ _ _ (tr rfl rfl (fun q hq=>(by cases hq)) rfl Yf)
  ·refine PX.seq (PX.wp (pu:=pl) pf ?_)
   refine Yv1 ?_
   refine XC.of (pu:=pl) (vf:=C.f26) rfl ?_
   refine Yv1 ?_
   refine XW.Ad (pu:=pl) ?_
   refine Yv1 ?_
   exact hQ _ _ (tr rfl rfl (fun q hq=>by cases hq;exact⟨rfl,rfl⟩) rfl Yf)
 ·rcases o with _|⟨ns,cc⟩
  ·refine PX.seq (PX.wp (pu:=pl) pf ?_)
   refine Yv1 ?_
   have nk1:=Fc [x]
   have nks:=Fc (Br [x])
   refine XC.Be (l:=[(k0,ob (Aw aV [x]))]) (nx:=k1) [(k0,k5)] (pJ x) rfl rfl Yb Ya ?_
   rintro rc gc' ⟨rfl,e0⟩
   refine⟨[],k8,[some (ob (Aw aV [x]))],[],.unit,rfl,Rl,?_,trivial,Ys,?_⟩
   ·exact⟨⟨_,_,_,e0,⟨Ae.cells nk1,fun _=>⟨rfl,.inl .nil⟩,rfl⟩,rfl,rfl,rfl,rfl⟩,trivial⟩
   ·refine Yv1 ?_
    exact fz rfl rfl (fun q hq=>(by cases hq)) rfl rfl (by decide) rfl (by simp) Yf
  ·refine PX.seq (PX.wp (pu:=pl) pf ?_)
   refine Yv1 ?_
   have nk1:=Fc [x]
   have nks:=Fc (Br [x])
   refine XC.Be (l:=[(k0,ob (Aw aV [x]))]) (nx:=k1) [(k0,k5)] (pJ x) rfl rfl Yb Ya ?_
   rintro rc gc' ⟨rfl,e0⟩
   refine⟨[],k8,[some (ob (Aw aV [x]))],[],.unit,rfl,Rl,?_,trivial,Ys,?_⟩
   ·exact⟨⟨_,_,_,e0,⟨Ae.cells nk1,fun _=>⟨rfl,.inl .nil⟩,rfl⟩,rfl,rfl,rfl,rfl⟩,trivial⟩
   ·refine Yv1 ?_
    exact fz rfl rfl (fun q hq=>by cases hq;exact⟨rfl,rfl⟩) rfl rfl (by decide) rfl (by simp) Yf
 ·rcases o with _|⟨ns,cc⟩
  ·refine PX.seq (PX.wp (pu:=pl) pf ?_)
   refine Yv1 ?_
   have nk1:=Fc [x]
   have nk2:=Fc [x,y]
   have nks:=Fc (Br [x,y])
   refine XC.Be (l:=[(k0,Ap.mk (.cells (Aw aV [x,y])) true false [k1] []),(k1,eb (Aw aV [x]))]) (nx:=k2) [(k0,k6),(k1,k5)] (pK x y (hk x (by simp)) (hk y (by simp))) rfl rfl Yb Ya ?_
   rintro rc gc' ⟨rfl,⟨e0,e1⟩|⟨lg,e0,e1⟩⟩
   ·refine⟨[],k8,[some ⟨.cells (Aw aV (Br [x,y])),true,false,[k5],[]⟩,some (eb (Aw aV [x]))],[],.unit,rfl,Rl,?_,trivial,Ys,?_⟩
    ·exact⟨⟨_,_,_,e0,⟨Ae.cells nks,fun _=>⟨rfl,.inl (.cons rfl .nil)⟩,rfl⟩,rfl,rfl,rfl,rfl⟩,⟨_,_,_,e1,⟨Ae.cells nk1,(fun h=>(by cases h)),rfl⟩,rfl,rfl,rfl,rfl⟩,trivial⟩
    ·refine Yv1 ?_
     exact fz rfl rfl (fun q hq=>(by cases hq)) rfl rfl (by decide) rfl (by simp) Yf
   ·refine⟨[],k8,[some ⟨.cells (Aw aV (Br [x,y])),true,false,[],lg⟩,none],[],.unit,rfl,Rl,?_,trivial,Ys,?_⟩
    ·exact⟨⟨_,_,_,e0,⟨Ae.cells nks,fun _=>⟨rfl,.inl .nil⟩,rfl⟩,rfl,rfl,rfl,(List.append_nil _).symm⟩,e1,trivial⟩
    ·refine Yv1 ?_
     exact fz rfl rfl (fun q hq=>(by cases hq)) rfl rfl (by decide) rfl (by simp) Yf
  ·refine PX.seq (PX.wp (pu:=pl) pf ?_)
   refine Yv1 ?_
   have nk1:=Fc [x]
   have nk2:=Fc [x,y]
   have nks:=Fc (Br [x,y])
   refine XC.Be (l:=[(k0,Ap.mk (.cells (Aw aV [x,y])) true false [k1] []),(k1,eb (Aw aV [x]))]) (nx:=k2) [(k0,k6),(k1,k5)] (pK x y (hk x (by simp)) (hk y (by simp))) rfl rfl Yb Ya ?_
   rintro rc gc' ⟨rfl,⟨e0,e1⟩|⟨lg,e0,e1⟩⟩
   ·refine⟨[],k8,[some ⟨.cells (Aw aV (Br [x,y])),true,false,[k5],[]⟩,some (eb (Aw aV [x]))],[],.unit,rfl,Rl,?_,trivial,Ys,?_⟩
    ·exact⟨⟨_,_,_,e0,⟨Ae.cells nks,fun _=>⟨rfl,.inl (.cons rfl .nil)⟩,rfl⟩,rfl,rfl,rfl,rfl⟩,⟨_,_,_,e1,⟨Ae.cells nk1,(fun h=>(by cases h)),rfl⟩,rfl,rfl,rfl,rfl⟩,trivial⟩
    ·refine Yv1 ?_
     exact fz rfl rfl (fun q hq=>by cases hq;exact⟨rfl,rfl⟩) rfl rfl (by decide) rfl (by simp) Yf
   ·refine⟨[],k8,[some ⟨.cells (Aw aV (Br [x,y])),true,false,[],lg⟩,none],[],.unit,rfl,Rl,?_,trivial,Ys,?_⟩
    ·exact⟨⟨_,_,_,e0,⟨Ae.cells nks,fun _=>⟨rfl,.inl .nil⟩,rfl⟩,rfl,rfl,rfl,(List.append_nil _).symm⟩,e1,trivial⟩
    ·refine Yv1 ?_
     exact fz rfl rfl (fun q hq=>by cases hq;exact⟨rfl,rfl⟩) rfl rfl (by decide) rfl (by simp) Yf
 ·rcases o with _|⟨ns,cc⟩
  ·refine PX.seq (PX.wp (pu:=pl) pf ?_)
   refine Yv1 ?_
   have nk1:=Fc [x]
   have nk2:=Fc [x,y]
   have nk3:=Fc [x,y,z]
   have nks:=Fc (Br [x,y,z])
   refine XC.Be (l:=[(k0,Ap.mk (.cells (Aw aV [x,y,z])) true false [k1,k2] []),(k1,eb (Aw aV [x,y])),(k2,eb (Aw aV [x]))]) (nx:=k3) [(k0,k7),(k1,k6),(k2,k5)] (pL x y z (hk x (by simp)) (hk y (by simp)) (hk z (by simp))) rfl rfl Yb Ya ?_
   rintro rc gc' ⟨rfl,⟨e0,e1,e2⟩|⟨lg,e0,e1,e2⟩⟩
   ·refine⟨[],k8,[some ⟨.cells (Aw aV (Br [x,y,z])),true,false,[k6,k5],[]⟩,some (eb (Aw aV [x,y])),some (eb (Aw aV [x]))],[],.unit,rfl,Rl,?_,trivial,Ys,?_⟩
    ·exact⟨⟨_,_,_,e0,⟨Ae.cells nks,fun _=>⟨rfl,.inl (.cons rfl (.cons rfl .nil))⟩,rfl⟩,rfl,rfl,rfl,rfl⟩,⟨_,_,_,e1,⟨Ae.cells nk2,(fun h=>(by cases h)),rfl⟩,rfl,rfl,rfl,rfl⟩,⟨_,_,_,e2,⟨Ae.cells nk1,(fun h=>(by cases h)),rfl⟩,rfl,rfl,rfl,rfl⟩,trivial⟩
    ·refine Yv1 ?_
     exact fz rfl rfl (fun q hq=>(by cases hq)) rfl rfl (by decide) rfl (by simp) Yf
   ·refine⟨[],k8,[some ⟨.cells (Aw aV (Br [x,y,z])),true,false,[],lg⟩,none,none],[],.unit,rfl,Rl,?_,trivial,Ys,?_⟩
    ·exact⟨⟨_,_,_,e0,⟨Ae.cells nks,fun _=>⟨rfl,.inl .nil⟩,rfl⟩,rfl,rfl,rfl,(List.append_nil _).symm⟩,e1,e2,trivial⟩
    ·refine Yv1 ?_
     exact fz rfl rfl (fun q hq=>(by cases hq)) rfl rfl (by decide) rfl (by simp) Yf
  ·refine PX.seq (PX.wp (pu:=pl) pf ?_)
   refine Yv1 ?_
   have nk1:=Fc [x]
   have nk2:=Fc [x,y]
   have nk3:=Fc [x,y,z]
   have nks:=Fc (Br [x,y,z])
   refine XC.Be (l:=[(k0,Ap.mk (.cells (Aw aV [x,y,z])) true false [k1,k2] []),(k1,eb (Aw aV [x,y])),(k2,eb (Aw aV [x]))]) (nx:=k3) [(k0,k7),(k1,k6),(k2,k5)] (pL x y z (hk x (by simp)) (hk y (by simp)) (hk z (by simp))) rfl rfl Yb Ya ?_
   rintro rc gc' ⟨rfl,⟨e0,e1,e2⟩|⟨lg,e0,e1,e2⟩⟩
   ·refine⟨[],k8,[some ⟨.cells (Aw aV (Br [x,y,z])),true,false,[k6,k5],[]⟩,some (eb (Aw aV [x,y])),some (eb (Aw aV [x]))],[],.unit,rfl,Rl,?_,trivial,Ys,?_⟩
    ·exact⟨⟨_,_,_,e0,⟨Ae.cells nks,fun _=>⟨rfl,.inl (.cons rfl (.cons rfl .nil))⟩,rfl⟩,rfl,rfl,rfl,rfl⟩,⟨_,_,_,e1,⟨Ae.cells nk2,(fun h=>(by cases h)),rfl⟩,rfl,rfl,rfl,rfl⟩,⟨_,_,_,e2,⟨Ae.cells nk1,(fun h=>(by cases h)),rfl⟩,rfl,rfl,rfl,rfl⟩,trivial⟩
    ·refine Yv1 ?_
     exact fz rfl rfl (fun q hq=>by cases hq;exact⟨rfl,rfl⟩) rfl rfl (by decide) rfl (by simp) Yf
   ·refine⟨[],k8,[some ⟨.cells (Aw aV (Br [x,y,z])),true,false,[],lg⟩,none,none],[],.unit,rfl,Rl,?_,trivial,Ys,?_⟩
    ·exact⟨⟨_,_,_,e0,⟨Ae.cells nks,fun _=>⟨rfl,.inl .nil⟩,rfl⟩,rfl,rfl,rfl,(List.append_nil _).symm⟩,e1,e2,trivial⟩
    ·refine Yv1 ?_
     exact fz rfl rfl (fun q hq=>by cases hq;exact⟨rfl,rfl⟩) rfl rfl (by decide) rfl (by simp) Yf
 ·simp at hA
theorem RK (n:Nd):∀v∈nV n,Ae v:=fun v h=>Ye [n] v (by simpa[Aw] using h)
def nsO:Option (List Nd×List PV)→List Nd
 |none=>[]
 |some q=>q.1
theorem VA {P:Program} (pf:PF P Fn) {bs:List Nat} {i:Nat} (hi:i≤3) {o:Option (List Nd×List PV)} (ho:FY i o) {n:Nd} {cd:Ay} {Q Q':PQT} (hn:∀L g,PX P 0 cd L g [] Q→Q' .normal L g [])
  (hQ:∀L g cc,(∀v∈cc,Ae v)→(∃ρ,Trim 0 ρ L g (jN bs i) (mkH (hN (some (nsO o++[n],cc)) (i+1)) k4))→PX P 0 cd L g [] Q):PX P 0 cAp (jN bs i++[(k7,pB k4)]) (mkH (hO o i n) k8) [] Q':=by
 have nk1:=RK n
 have nk2:=Ye [n]
 rcases o with _|⟨ns,cc⟩
 ·have hi0:i=0:=ho
  subst hi0
  refine PX.wp (pu:=pl) pf ?_
  refine Yv1 ?_
  refine hn _ _ (PX.N8 k4 (Zl) rfl rfl (PX.yT k9 k4 (Zl) rfl rfl rfl (hQ _ _ (nV n) nk1 ⟨_,Trim.of (l:=hN (some ([n],nV n)) 1) (nx:=k4) [(k0,k0),(k1,k1),(k2,k9),(k3,k4)] rfl (Zl) trivial Yb Yf⟩)))
 ·obtain⟨ho1,ho2,ho3⟩:=ho
  have hl:=Kf (f:=nV) (es:=5) (fun _=>rfl) ns
  have nk3:=Ye (ns++[n])
  have e3:Aw nV (ns++[n])=Aw nV ns++nV n:=gN nV ns n
  refine PX.wp (pu:=pl) pf ?_
  refine Yv1 ?_
  refine⟨_,_,sT rfl (by rw[hl,ho2]) rfl (by decide) (by omega),?_⟩
  refine Yv1 ?_
  refine hn _ _ (PX.yT k9 k3 (Zl) rfl rfl rfl (hQ _ _ cc ho3 ⟨rho 0 [(k0,k0),(k1,k1),(k2,k9),(k3,k3)],?_⟩))
  show Trim 0 _ _ _ _ (mkH [(k0,obl [.Af,.Af] []),(k1,obl [.slice k2 0 (i+1) 5 none,.Af] []),(k2,wld (Aw nV (ns++[n])) k3),(k3,fzb cc)] k4)
  rw[e3] at nk3 ⊢
  exact Trim.of (l:=[(k0,obl [.Af,.Af] []),(k1,obl [.slice k2 0 (i+1) 5 none,.Af] []),(k2,wld (Aw nV ns++nV n) k3),(k3,fzb cc)]) (nx:=k4) [(k0,k0),(k1,k1),(k2,k9),(k3,k3)] rfl (Zl) trivial Yb Yf
def NdE (bs:List Nat) (i:Nat) (L:Fm) (g:Ab):Prop:=∃cc,(∀v∈cc,Ae v)∧∃ρ,Trim 0 ρ L g (jN bs i) (mkH (hN (some ((List.range i).map (Hp bs),cc)) i) k4)
theorem VB {P:Program} (pf:PF P Fn) {bs:List Nat} (hb:∀b∈bs,b<256) (hl:bs.length≤15) (mk:∀b:Nat,b<256→Ag Fn 10 [PA.lst 1 [[.int .u8 ((b:Int) / 3)]],iA 2] (dA (b / 3 % 16))) {Q:PQT}
  (hQ:∀L g,NdE bs (Ch bs) L g→Q (.exit 0) L g []):PX P 0 cM0 (jN bs 0) (mkH (hN none 0) k4) [] Q:=by
 have hc:Ch bs≤4∧2≤Ch bs:=by unfold Ch;omega
 refine PX.A7 (σ:=Nat) (fun i=>Ch bs-i) (fun i=>jN bs i) (fun i g=>i≤Ch bs∧∃o,FY i o∧nsO o=(List.range i).map (Hp bs)∧g=mkH (hN o i) k4) (fun _=>[]) 0 (ρ:=some) (g0:=mkH (hN none 0) k4) (Trim.same (Zl) (.cons rfl rfl (.cons rfl rfl (.cons rfl rfl (.cons rfl rfl (.cons rfl rfl (.nil _))))))) .nil ⟨Zl,none,rfl,rfl,rfl⟩ ?_
 rintro i g ⟨hi,o,ho,hns,rfl⟩
 replace hi:i≤Ch bs:=hi
 have tr:∀{L:Fm} {l0 l1:List (Nat×Nat)} {g:Ab} {l4:List (Nat×Nat)},g.get k0=some (obl [.Af,.Af] l0)→g.get k1=some (obl [ndS o i,.Af] l1)→(∀q,o=some q→g.get k2=some (wld (Aw nV q.1) k3)∧g.get k3=some (fzb q.2))→g.get k4=some (obl (xC i (alS [])) l4)→M1 (rho 0 (rO o)) L (jN bs i++[(k7,pB k4)]) →
   ∃ρ,Trim 0 ρ L g (jN bs i++[(k7,pB k4)]) (mkH (hI o i []) k8):=by
  intro L l0 l1 g l4 e0 e1 e2 e4 hf
  cases o with
  |none=>exact⟨_,Trim.of (rO none) rfl (Zl) trivial ⟨⟨_,_,rfl,e0,.same Yc⟩,⟨_,_,rfl,e1,.same Yc⟩,⟨_,_,rfl,e4,.same Yc⟩,trivial⟩ hf⟩
  |some q=>
   obtain⟨ns,cc⟩:=q
   obtain⟨ho1,ho2,ho3⟩:=ho
   obtain⟨e2,e3⟩:=e2 _ rfl
   exact⟨_,Trim.of (rO (some (ns,cc))) rfl (Zl) trivial ⟨⟨_,_,rfl,e0,.same Yc⟩,⟨_,_,rfl,e1,.same Yc⟩,⟨_,_,rfl,e2,⟨Ae.cells (Ye ns),fun _=>⟨rfl,.inl (.cons rfl .nil)⟩,rfl⟩⟩,⟨_,_,rfl,e3,⟨Ae.cells ho3,fun _=>⟨rfl,.inl .nil⟩,rfl⟩⟩,⟨_,_,rfl,e4,.same Yc⟩,trivial⟩ hf⟩
 have rest:∀{L:Fm} {g:Ab} {Q Q':PQT} {cd:Ay},i≤3→(∃ρ,Trim 0 ρ L g (jN bs i++[(k7,pB k4)]) (mkH (hI o i []) k8))→(∀L g,PX P 0 cd L g [] Q→Q' .normal L g []) →
   (∀L g cc,(∀v∈cc,Ae v)→(∃ρ,Trim 0 ρ L g (jN bs i) (mkH (hN (some (nsO o++[Hp bs i],cc)) (i+1)) k4))→PX P 0 cd L g [] Q)→PX P 0 (nav [0,1,0,0,1] cM0) L g [] Q':=by
  rintro L g Q Q' cd h3 ⟨ρ,t⟩ h1 h2
  refine PX.trim t .nil (PX.seq (PX.seq (PX.wp (pu:=pl) pf ?_)))
  refine Yv1 ?_
  refine PX.block (PX.trim (Trim.same (L2:=jI bs i 0) (Zl) (.cons rfl rfl (.cons rfl rfl (.cons rfl rfl (.cons rfl rfl (.cons rfl rfl (.cons rfl rfl (.cons rfl rfl (.nil _))))))))) .nil (UY pf hb hl mk h3 ho ?_))
  rintro L g ⟨ρ,t⟩
  refine PX.trim t .nil (UZ pf ho (dK bs i 3) (fun a ha=>(LK ha).1) ?_)
  rintro L g ⟨ρ,t⟩
  exact PX.trim t .nil (VA pf h3 ho h1 h2)
 refine PX.seq (PX.seq (PX.wp (pu:=pl) pf ?_))
 refine Yv1 ?_
 refine PX.wp (pu:=pl) pf ?_
 refine⟨fun h=>?_,fun h=>?_⟩
 ·have hi3:i<Ch bs:=by have:=Ao h;omega
  have hi33:i≤3:=by omega
  refine Yv1 ?_
  refine PX.seq (PX.block ?_)
  have fin:∀L g cc,(∀v∈cc,Ae v)→(∃ρ,Trim 0 ρ L g (jN bs i) (mkH (hN (some (nsO o++[Hp bs i],cc)) (i+1)) k4))→PX P 0 (nav [0,1,1] cM0) L g [] fun x L1 g1 I1=>match x with
     |.normal=>∃s' ρ g2 Ia Ib,Ch bs-s'<Ch bs-i∧Trim 0 ρ L1 g1 (jN bs s') g2∧I1=Ia++Ib∧Aa (ItN ρ) [] Ia∧s'≤Ch bs∧∃o,FY s' o∧nsO o=(List.range s').map (Hp bs)∧g2=mkH (hN o s') k4
     |.exit i=>Q (.exit i) L1 g1 I1
     |.ret=>Q .ret L1 g1 I1:=by
   rintro L g cc hcc ⟨ρ,t⟩
   have hns':nsO o++[Hp bs i]=(List.range (i+1)).map (Hp bs):=by rw[List.range_succ,List.map_append,hns];rfl
   rw[hns'] at t
   refine PX.trim t .nil (PX.wp (pu:=pl) pf ?_)
   refine Yv1 ?_
   exact⟨i+1,some,_,[],[],by omega,Trim.same (Zl) (.cons rfl rfl (.cons rfl rfl (.cons rfl rfl (.cons rfl rfl (.cons rfl rfl (.nil _)))))),rfl,.nil,hi3,some _,⟨Nat.succ_pos _,by simp,hcc⟩,rfl,rfl⟩
  rcases o with _|⟨ns,cc⟩
  ·refine PX.seq (PX.wp (pu:=pl) pf ?_)
   refine Yv1 ?_
   exact rest hi33 (tr rfl rfl (fun q hq=>(by cases hq)) rfl Yf) (fun _ _ h=>h) fin
  ·refine PX.seq (PX.wp (pu:=pl) pf ?_)
   refine Yv1 ?_
   exact rest hi33 (tr rfl rfl (fun q hq=>by cases hq;exact⟨rfl,rfl⟩) rfl Yf) (fun _ _ h=>h) fin
 ·have hk3:i=Ch bs:=by have:=A1 h;omega
  subst hk3
  rcases o with _|⟨ns,cc⟩
  ·have:Ch bs=0:=ho
   omega
  ·have hns:ns=_:=hns
   subst hns
   exact hQ _ _ ⟨cc,ho.2.2,some,Trim.same (Zl) (.cons rfl rfl (.cons rfl rfl (.cons rfl rfl (.cons rfl rfl (.cons rfl rfl (.nil _))))))⟩
abbrev jRt (N j:Nat):Fm:=[(k2,pB k0),(k4,pB k1),(k5,.v (iA N)),(k12,.v (iA j))]
def eF (i:Nat):Nat×Nat:=(i,(170+40*i) % 256 % 16)
abbrev hR (ns:List Nd) (cc:List PV) (N:Nat):Nat→List (Key×Ap)
 |0=>[(k0,obl [.Af,.Af] []),(k1,obl [.slice k2 0 N 5 none,.Af] []),(k2,wld (Aw nV ns) k3),(k3,fzb cc)]
 |j+1=>[(k0,obl [.Af,.Af] []),(k1,obl [.slice k2 0 N 5 none,.slice k4 0 (j+1) 3 none] []),(k2,wld (Aw nV ns) k3),(k3,fzb cc),(k4,wld (Aw rV ((List.range (j+1)).map eF)) k3)]
def nxR:Nat→Key
 |0=>k4
 |_+1=>k5
theorem VC {P:Program} (pf:PF P Fn) (mr:∀j:Nat,j<4→Ag Fn 10 [PA.lst 1 [[.int .u8 ((170+((j:Int) % 256*40) % 256) % 256)]],iA 2] (dA ((170+40*j) % 256 % 16))) {N:Nat} (hN:N≤4) {ns:List Nd} {cc:List PV} (hcc:∀v∈cc,Ae v) {Q:PQT}
  (hQ:∀L g,(∃ρ,Trim 0 ρ L g (jRt N N) (mkH (hR ns cc N N) (nxR N)))→Q (.exit 6) L g []):PX P 0 cM6 (jRt N 0) (mkH (hR ns cc N 0) k4) [] Q:=by
 have nkn:=Ye ns
 refine PX.A7 (σ:=Nat) (fun j=>N-j) (fun j=>jRt N j) (fun j g=>j≤N∧g=mkH (hR ns cc N j) (nxR j)) (fun _=>[]) 0 (ρ:=some) (g0:=mkH (hR ns cc N 0) k4) (Trim.same (Zl) (.cons rfl rfl (.cons rfl rfl (.cons rfl rfl (.cons rfl rfl (.nil _)))))) .nil ⟨Zl,rfl⟩ ?_
 rintro j g ⟨hj,rfl⟩
 replace hj:j≤N:=hj
 refine PX.seq (PX.seq (PX.wp (pu:=pl) pf ?_))
 refine Yv1 ?_
 refine PX.wp (pu:=pl) pf ?_
 refine⟨fun h=>?_,fun h=>?_⟩
 ·have hj3:j<N:=by have:=Ao h;omega
  have mj:=mr j (by omega)
  generalize hd:(170+40*j) % 256 % 16=d at mj
  have hrt:eF j=(j,d):=by unfold eF;rw[hd]
  have nk1:=NR [(j,d)]
  refine Yv1 ?_
  refine PX.seq (PX.block ?_)
  have fin:∀L g,(∃ρ,Trim 0 ρ L g (jRt N j) (mkH (hR ns cc N (j+1)) k5))→PX P 0 (nav [0,1,1] cM6) L g [] fun x L1 g1 I1=>match x with
     |.normal=>∃s' ρ g2 Ia Ib,N-s'<N-j∧Trim 0 ρ L1 g1 (jRt N s') g2∧I1=Ia++Ib∧Aa (ItN ρ) [] Ia∧s'≤N∧g2=mkH (hR ns cc N s') (nxR s')
     |.exit i=>Q (.exit i) L1 g1 I1
     |.ret=>Q .ret L1 g1 I1:=by
   rintro L g ⟨ρ,t⟩
   refine PX.trim t .nil (PX.wp (pu:=pl) pf ?_)
   refine Yv1 ?_
   exact⟨j+1,some,_,[],[],by omega,Trim.same (Zl) (.cons rfl rfl (.cons rfl rfl (.cons rfl rfl (.cons rfl rfl (.nil _))))),rfl,.nil,hj3,rfl⟩
  rcases j with _|j
  ·refine PX.wp (pu:=pl) pf ?_
   refine Yv1 ?_
   refine PX.yT k6 k3 (Zl) rfl rfl rfl (fin _ _ ⟨rho 0 [(k0,k0),(k1,k1),(k2,k2),(k3,k3),(k4,k6)],?_⟩)
   show Trim 0 _ _ _ _ (mkH [(k0,obl [.Af,.Af] []),(k1,obl [.slice k2 0 N 5 none,.slice k4 0 1 3 none] []),(k2,wld (Aw nV ns) k3),(k3,fzb cc),(k4,wld (Aw rV [eF 0]) k3)] k5)
   rw[hrt]
   exact Trim.of (l:=[(k0,obl [.Af,.Af] []),(k1,obl [.slice k2 0 N 5 none,.slice k4 0 1 3 none] []),(k2,wld (Aw nV ns) k3),(k3,fzb cc),(k4,wld (Aw rV [(0,d)]) k3)]) (nx:=k5) [(k0,k0),(k1,k1),(k2,k2),(k3,k3),(k4,k6)] rfl (Zl) trivial Yb Yf
  ·have hl:=Kf (f:=rV) (es:=3) (fun _=>rfl) ((List.range (j+1)).map eF)
   rw[Lm,List.length_range] at hl
   have e3:Aw rV ((List.range (j+1+1)).map eF)=Aw rV ((List.range (j+1)).map eF)++rV (j+1,d):=by
    rw[List.range_succ,List.map_append,←hrt];exact gN ..
   have nkr:=NR ((List.range (j+1+1)).map eF)
   refine PX.wp (pu:=pl) pf ?_
   refine Yv1 ?_
   refine⟨_,_,sT rfl (by rw[hl]) rfl (by decide) (by omega),?_⟩
   refine Yv1 ?_
   refine PX.yT k7 k3 (Zl) rfl rfl rfl (fin _ _ ⟨rho 0 [(k0,k0),(k1,k1),(k2,k2),(k3,k3),(k4,k7)],?_⟩)
   show Trim 0 _ _ _ _ (mkH [(k0,obl [.Af,.Af] []),(k1,obl [.slice k2 0 N 5 none,.slice k4 0 (j+1+1) 3 none] []),(k2,wld (Aw nV ns) k3),(k3,fzb cc),(k4,wld (Aw rV ((List.range (j+1+1)).map eF)) k3)] k5)
   rw[e3] at nkr ⊢
   exact Trim.of (l:=[(k0,obl [.Af,.Af] []),(k1,obl [.slice k2 0 N 5 none,.slice k4 0 (j+1+1) 3 none] []),(k2,wld (Aw nV ns) k3),(k3,fzb cc),(k4,wld (Aw rV ((List.range (j+1)).map eF)++rV (j+1,d)) k3)]) (nx:=k5) [(k0,k0),(k1,k1),(k2,k2),(k3,k3),(k4,k7)] rfl (Zl) trivial Yb Yf
 ·have hk3:j=N:=by have:=A1 h;omega
  subst hk3
  exact hQ _ _ ⟨some,Trim.same (Zl) (.cons rfl rfl (.cons rfl rfl (.cons rfl rfl (.cons rfl rfl (.nil _)))))⟩
theorem RL {P:Program} (pf:PF P Fn) (D:S6) {f:Fo} (w:WF0 f) {N M:Nat} (hN:N=f.ns.length) (hM:M=f.rs.length) {cc:List PV} {Q:PQT}
  (hQ:∀L g,(match Sd L g C.f6.results with
   |some l=>Cv l=.tup [.agg (foC f),.s (.bool (f.ns.all fmB))]
   |none=>False)→Q .ret L g []) :
  PX P 0 (nav [1,1,1,1,1] C.f6.body) (jRt N N) (mkH [(k0,obl [.Af,.Af] []),(k1,obl [.slice k2 0 N 5 none,.slice k4 0 M 3 none] []),(k2,wld (Aw nV f.ns) k3),(k3,fzb cc),(k4,wld (Aw rV f.rs) k3)] k5) [] Q:=by
 have snd:=fU D w
 have hfo:=Da w.n0 w.r0
 rw[hfo] at snd
 have hfc:foC f=[.lst 5 (f.ns.map nV) none,.lst 3 (f.rs.map rV) none]:=by
  have:=hfo
  simpa[foA] using this
 rw[hfc] at hQ
 refine PX.E6 k1 0 (Zl) rfl rfl (dL (f:=nV) (fun _=>rfl) (by decide) w.n0 rfl (LM _) hN) rfl ?_
 refine PX.E6 k1 1 (Zl) rfl rfl (dL (f:=rV) (fun _=>rfl) (by decide) w.r0 rfl (LN _) hM) rfl ?_
 refine PX.seq (PX.wp (pu:=pl) pf ?_)
 refine Yv1 ?_
 refine PX.wp (pu:=pl) pf ?_
 refine Yv1 ?_
 exact hQ _ _ rfl
theorem GA {P:Program} (pf:PF P Fn) (D:S6) {bs:List Nat} (hb:∀b∈bs,b<256) (hl:bs.length≤15) (mk:∀b:Nat,b<256→Ag Fn 10 [PA.lst 1 [[.int .u8 ((b:Int) / 3)]],iA 2] (dA (b / 3 % 16)))
  (mr:∀j:Nat,j<4→Ag Fn 10 [PA.lst 1 [[.int .u8 ((170+((j:Int) % 256*40) % 256) % 256)]],iA 2] (dA ((170+40*j) % 256 % 16))) :
  PXC P 6 [PA.lst 1 (uB bs)] (mkH [] k0) fun r _=>r=.tup [.agg (foC (loose bs)),.s (.bool ((loose bs).ns.all fmB))]:=by
 have w:=dJ (l:=bs) hl
 have snd:=fU D w
 have hfo:=Da w.n0 w.r0
 have hc:Ch bs≤4∧2≤Ch bs:=by unfold Ch;omega
 have hlen:(uB bs).length=bs.length:=by simp
 refine PXC.of pf (vf:=C.f6) rfl ?_
 refine PX.seq (PX.wp (pu:=pl) pf ?_)
 refine Yv1 ?_
 refine PX.seq (PX.wp (pu:=pl) pf ?_)
 refine Yv1 ?_
 refine PX.seq (PX.wp (pu:=pl) pf ?_)
 refine Yv1 ?_
 refine PX.seq (PX.seq (PX.wp (pu:=pl) pf ?_))
 refine Yv1 ?_
 have e5:(((2:Nat):Int)+((uB bs).length:Int) / ((6:Nat):Int) % ((4:Nat):Int))=(Ch bs:Int):=by rw[hlen];unfold Ch;omega
 have e5':RnA (rho 0 [(k0,k0),(k1,k1)]) (iA (Ch bs)) (.v (.s (.int .i64 (((2:Nat):Int)+((uB bs).length:Int) / ((6:Nat):Int) % ((4:Nat):Int))))):=by rw[e5];exact rfl
 refine PX.block (PX.trim (Trim.of (l:=hN none 0) (nx:=k4) (L2:=jN bs 0) [(k0,k0),(k1,k1)] rfl (Zl) trivial Yb (by(repeat' first|refine⟨⟨_,rfl,rfl⟩,?_⟩|refine⟨⟨_,rfl,Ae.rn (by assumption)⟩,?_⟩|exact trivial|fail);exact⟨⟨_,rfl,e5'⟩,⟨_,rfl,rfl⟩,trivial⟩)) .nil (VB pf hb hl mk ?_))
 rintro L g ⟨cc,hcc,ρ,t⟩
 refine PX.trim t .nil (PX.seq (PX.seq (PX.wp (pu:=pl) pf ?_)))
 refine Yv1 ?_
 refine PX.block (PX.trim (Trim.of (l:=hR ((List.range (Ch bs)).map (Hp bs)) cc (Ch bs) 0) (nx:=k4) (L2:=jRt (Ch bs) 0) [(k0,k0),(k1,k1),(k2,k2),(k3,k3)] rfl (Zl) trivial ?_ Yf) .nil (VC pf mr hc.1 hcc ?_))
 ·exact⟨⟨_,_,rfl,rfl,.same Yc⟩,⟨_,_,rfl,rfl,.same Yc⟩,⟨_,_,rfl,rfl,⟨Ae.cells (Ye _),fun _=>⟨rfl,.inl (.cons rfl .nil)⟩,rfl⟩⟩,⟨_,_,rfl,rfl,⟨Ae.cells hcc,fun _=>⟨rfl,.inl .nil⟩,rfl⟩⟩,trivial⟩
 rintro L g ⟨ρ,t⟩
 have e:hR ((List.range (Ch bs)).map (Hp bs)) cc (Ch bs) (Ch bs)=[(k0,obl [.Af,.Af] []),(k1,obl [.slice k2 0 (Ch bs) 5 none,.slice k4 0 (Ch bs) 3 none] []),(k2,wld (Aw nV (loose bs).ns) k3),(k3,fzb cc),(k4,wld (Aw rV (loose bs).rs) k3)]∧nxR (Ch bs)=k5:=by
  obtain⟨m,hm⟩:∃m,Ch bs=m+1:=⟨Ch bs-1,by omega⟩
  unfold loose
  rw[hm]
  exact⟨rfl,rfl⟩
 rw[e.1,e.2] at t
 exact PX.trim t .nil (RL pf D w (by simp[loose]) (by simp[loose]) fun L g h=>h)
end Go.Pv
end
section
noncomputable section
namespace Go.Pv
open Go.Vm Go.Vm.C
open Go.Vm.Key (kn)
set_option maxRecDepth 40000
set_option maxHeartbeats 0
theorem dM {T:Nat→List Tre}:∀{ks:List Nat},(∀k∈ks,∀t∈T k,t.length≤sz k)→∀s∈Au T ks,s.length≤(ks.map sz).sum
 |[],_,s,h=>by
  simp only[Au,List.mem_singleton] at h
  subst h;exact Zl
 |k::ks,hk,s,h=>by
  simp only[Au,List.mem_flatMap,List.mem_map] at h
  obtain⟨u,hu,v,hv,rfl⟩:=h
  have h1:=hk k (.head _) u hu
  have h2:=dM (fun j hj=>hk j (.tail _ hj)) v hv
  simp only[La,List.map_cons,List.sum_cons]
  omega
theorem LO {f:Fo} {c:Nat} (w:WF0 f):∀i,i<f.ns.length→∀t∈Tr2 f c i,t≠[]∧t.length≤sz i:=by
 intro i
 induction i using Nat.strongRecOn with
 |ind i ih=>
  intro hi t ht
  obtain⟨n,hn⟩:∃n,f.ns[i]?=some n:=⟨_,Gg hi⟩
  have hl:=w.len
  have e:=sX (c:=c) (Lt w) i n hn
  rw[show Tr2 f c i=_ from e,A5,List.mem_flatMap] at ht
  obtain⟨a,ha,ht⟩:=ht
  obtain⟨h1,h2,_⟩:=w.al i n hn a ha
  split at ht
  ·obtain⟨s,hs,rfl⟩:=List.mem_map.1 ht
   have:=dM (fun k hk u hu=>(ih k (h2 k hk) (by have:=h2 k hk;omega) u hu).2) s hs
   have:=wB (i:=i) (by omega) h1 h2
   exact⟨by simp,by simp only[List.length_cons];omega⟩
  ·cases ht
theorem LP {f:Fo} {c:Nat} (w:WF0 f) {n:Nat} {t:Tre} (h:(Bq (Tr2 f c) c f.rs)[n]?=some t):t≠[]∧t.length≤15:=by
 have ht:=List.mem_of_getElem? h
 rw[Bq,List.mem_flatMap] at ht
 obtain⟨r,hr,ht⟩:=ht
 split at ht
 ·obtain⟨i,hi⟩:=List.mem_iff_getElem?.1 hr
  have h1:=(w.rt i r hi).1
  have h2:=(Gi.1 hi).1
  have h3:=w.Oy
  have h4:=w.len
  obtain⟨h5,h6⟩:=LO w r.1 (by omega) t ht
  exact⟨h5,Nat.le_trans h6 (wC _ (by omega))⟩
 ·cases ht
end Go.Pv
end
section
noncomputable section
namespace Go.Pv
open Go.Vm Go.Vm.C
open Go.Vm.Key (kn)
set_option maxRecDepth 40000
set_option maxHeartbeats 0
attribute [local irreducible] PX PXL PXC
def pz (n:Nat):Bool:=sJ [5,12,14,17,20,21,22] n
theorem LQ (l:List Nat) (n:Nat):(uB l).take n=uB (l.take n):=List.map_take.symm
theorem RM (l:List Nat) (g:Ab):opP (.slice (.slice 1) false true false) [.v (.s (.lst 1 (uB l) none)),.v (.s (.int .i64 (if((15:Nat):Int)<((uB l).length:Nat) then((15:Nat):Int) else((uB l).length:Nat))))] g=some (.v (.s (.lst 1 (uB (l.take 15)) none)),g):=by
 have hn:(uB l).length=l.length:=by simp
 show Dr g (Jp 1 (.lst 1 (uB l) none) (none,some _,none))=_
 by_cases h:((15:Nat):Int)<((uB l).length:Nat)
 ·rw[if_pos h]
  have h1:15<(uB l).length:=by omega
  simp only[Jp,bounds,bnd,Option.getD_none]
  rw[if_pos trivial,if_pos (by omega)]
  show Dr g (some (.lst 1 (List.take (15-0) (List.drop 0 (uB l))) none))=_
  rw[List.drop_zero,LQ]
  rfl
 ·rw[if_neg h]
  simp only[Jp,bounds,bnd,Option.getD_none]
  rw[if_pos trivial,if_pos (by omega)]
  show Dr g (some (.lst 1 (List.take ((uB l).length-0) (List.drop 0 (uB l))) none))=_
  rw[List.drop_zero,Nat.sub_zero,List.take_length,List.take_of_length_le (by omega:l.length≤15)]
  rfl
theorem LR {n:Nat} {u v:PV} (hu:Aq n u) (hv:Aq n v):Ag Fn 12 [.v (.s u),.v (.s v)] (bA true):=by
 have em:∀u v:PV,(u=.Af∨u=.lst 1 [] none)→(v=.Af∨v=.lst 1 [] none)→Ag Fn 12 [.v (.s u),.v (.s v)] (bA true):=by
  intro u v hu hv
  refine Am (pu:=pv) (vf:=C.f12) rfl ?_
  rcases hu with rfl|rfl<;>rcases hv with rfl|rfl
  ·refine Yw1 ?_
   refine XW.Ad (pu:=pv) ?_
   exact Yw0
  ·refine Yw1 ?_
   refine XW.Ad (pu:=pv) ?_
   exact Yw0
  ·refine Yw1 ?_
   refine XW.Ad (pu:=pv) ?_
   exact Yw0
  ·refine Yw1 ?_
   refine XW.Ad (pu:=pv) ?_
   exact Yw0
 cases hu with
 |nil=>
  cases hv with
  |nil=>exact em _ _ (by simp) (by simp)
  |emp=>exact em _ _ (by simp) (by simp)
  |one _ h0 h=>exact absurd h0 (by decide)
 |emp=>
  cases hv with
  |nil=>exact em _ _ (by simp) (by simp)
  |emp=>exact em _ _ (by simp) (by simp)
  |one _ h0 h=>exact absurd h0 (by decide)
 |one n h0 h=>
  cases hv with
  |nil=>exact absurd h0 (by decide)
  |emp=>exact absurd h0 (by decide)
  |one n h0 h=>
   have:=LJ [(n:Int)] [(n:Int)] (by simp) (by simp)
   simpa using this
abbrev jL (c a:Nat) (b:Bool):Fm:=[(k2,.v (.v (.s (.int .u16 (a:Nat))))),(k7,.v (bA true)),(k8,.v (.v (.s (.ptr k0 0)))),(k9,.v (bA b)),(k10,.v (cA c))]
def Ql:PQT:=fun x L g _=>match x with
 |.exit _=>False
 |_=>match Sd L g C.f4.results with
  |some l=>Cv l=bA true
  |none=>False
def RkR (T:List Tre) (t:Tre) (r:PA):Prop:=∃v n,r=.tup [.s v,.s (.int .i64 ((0:Nat):Int))]∧Aq n v∧T[n]?=some t∧∀n',T[n']?=some t→n≤n'
abbrev jT (c a:Nat):Fm:=[(k2,.v (.v (.s (.int .u16 (a:Nat))))),(k7,.v (bA true)),(k8,.v (.v (.s (.ptr k0 0)))),(k10,.v (cA c))]
theorem RN {a b:Int} (h:(a==b)=true):a=b:=by simpa using h
abbrev jJ (c:Nat) (T:List Tre) (i:Nat):Fm:=[(k7,.v (bA true)),(k8,.v (.v (.s (.ptr k0 0)))),(k10,.v (cA c)),(k11,.v (.v (.s (.lst 1 (T.map fun t=>[tV t]) none)))),(k13,.v (iA i))]
theorem zU {P:Program} (pf:PF P Fn) {la lb:List (List PV)} {c a:Nat} (hc:c<4) (ha:a<65536) {T:List Tre} (hle:T.length≤2000)
  (tr:Ag Fn 21 [.v (.agg [.lst 5 la none,.lst 3 lb none]),cA c,iA (2000:Nat)] (.tup [.s (osV T),.s (.bool true)]))
  (sl:∀(n:Nat) (t:Tre),T[n]?=some t→t≠[]∧t.length≤15)
  (un:∀{n:Nat} {nv:PV},Aq n nv→n<T.length→∃s,T[n]?=some s∧Ag Fn 14 [.v (.agg [.lst 5 la none,.lst 3 lb none]),cA c,.v (.s nv)] (.tup [.s (tV s),.s (.int .i64 ((0:Nat):Int))]))
  (rk:∀{t:Tre} {n0:Nat},t.length≤1000→T[n0]?=some t→PXC P 18 [.v (.agg [.lst 5 la none,.lst 3 lb none]),cA c,PA.lst 4 (tR t)] (mkH [] k0) fun r _=>RkR T t r) :
  PX P 0 (nav [1,1,1,1,1] C.f4.body) (jT c a) (mkH [(k0,obl [.lst 5 la none,.lst 3 lb none] [])] k1) [] Ql:=by
 refine PX.seq (PX.wp (pu:=pz) pf ?_)
 refine Yv1 ?_
 rcases T with _|⟨t0,T'⟩
 ·refine PX.seq (PX.seq (PX.wp (pu:=pz) pf ?_))
  refine Yv1 ?_
  refine PX.wp (pu:=pz) pf ?_
  refine Yv1 ?_
  exact rfl
 generalize hT:t0::T'=T at *
 have hpos:0<T.length:=by rw[←hT];simp
 have hos:osV T=.lst 1 (T.map fun t=>[tV t]) none:=by rw[←hT];rfl
 have hlen:(T.map fun t=>[tV t]).length=T.length:=Lm ..
 rw[hos]
 have hnz:¬(((T.map fun t=>[tV t]).length:Int)=((0:Nat):Int)):=by omega
 refine PX.seq (PX.seq (PX.wp (pu:=pz) pf ?_))
 refine Yv1 ?_
 refine PX.wp (pu:=pz) pf ?_
 refine⟨fun h=>absurd (RN h) (by omega),fun h=>?_⟩
 refine Yv1 ?_
 refine PX.seq (PX.wp (pu:=pz) pf ?_)
 refine Yv1 ?_
 generalize hi:a % T.length=i
 have hiT:i<T.length:=by rw[←hi];exact Nat.mod_lt _ hpos
 have ei:RnA (rho 0 [(k0,k0)]) (iA i) (.v (.s (.int .i64 ((a:Int) % ((T.map fun t=>[tV t]).length:Int))))):=by
  rw[hlen,←hi];exact rfl
 obtain⟨t,ht⟩:∃t,T[i]?=some t:=⟨_,Gg hiT⟩
 refine PX.trim (Trim.of (l:=[(k0,obl [.lst 5 la none,.lst 3 lb none] [])]) (nx:=k1) (L2:=jJ c T i) [(k0,k0)] rfl (Zl) trivial ⟨⟨_,_,rfl,rfl,.same Yc⟩,trivial⟩ (by(repeat' first|refine⟨⟨_,rfl,rfl⟩,?_⟩|refine⟨⟨_,rfl,Ae.rn (by assumption)⟩,?_⟩|exact trivial|fail);exact⟨⟨_,rfl,ei⟩,trivial⟩)) .nil ?_
 have htv:∀{n:Nat} {t:Tre},T[n]?=some t→tV t=.lst 4 (tR t) none:=fun{n t} h=>by
  cases t with
  |nil=>exact absurd rfl (sl _ _ h).1
  |cons p t=>rfl
 have hget:∀{n:Nat} {t:Tre},T[n]?=some t→(T.map fun t=>[tV t])[(n:Int).toNat]?=some [.lst 4 (tR t) none]:=fun{n t} h=>by
  simp only[Int.toNat_natCast,List.getElem?_map,h,Option.map_some,htv h]
 have same:∀{s t:Tre},s.length≤15→t.length≤15→Ag Fn 17 [PA.lst 4 (tR s),PA.lst 4 (tR t)] (bA (decide (s=t))):=fun h1 h2=>pN _ _ (by omega) (by omega)
 have gi:=hget ht
 have hit:=(sl _ _ ht).2
 refine PX.seq (PX.wp (pu:=pz) pf ?_)
 refine Yv1 ?_
 have fin:∀j:Nat,T[j]?=some t→(∀j':Nat,j'<j→T[j']?≠some t)→PX P 0 (nav [1,1,1,1,1,1,1,1,1,1] C.f4.body) (jJ c T i++[(k14,.v (iA j))]) (mkH [(k0,obl [.lst 5 la none,.lst 3 lb none] [])] k1) [] Ql:=by
  intro j hj hmin
  refine PX.seq ?_
  refine PX.FL 6 (pu:=pz) pf rfl rfl rfl rfl ?_
  refine Yv1 ?_
  refine⟨rfl,_,_,_,_,rfl,rfl,PXC.Be (R:=fun r g'=>RkR T t r∧g'=mkH [(k0,obl [.lst 5 la none,.lst 3 lb none] [])] k1) (l:=[]) (nx:=k0) [] (rk (by omega) ht) rfl rfl trivial Ya ?_,dG rfl,?_⟩
  ·rintro rc gc' ⟨v,n,rfl,hv,hn,hm⟩
   have vk:=hv.nk
   refine⟨[],k1,[],[],.tup [.s v,.s (.int .i64 ((0:Nat):Int))],rfl,Rl,trivial,trivial,?_,⟨⟨v,n,rfl,hv,hn,hm⟩,rfl⟩⟩
   show Aa _ _ _
   repeat' first|exact Aa.nil|refine Aa.cons rfl ?_|refine Aa.cons (Ar _ _).rn ?_|refine Aa.cons (Ae.rn (by assumption)) ?_|refine Aa.cons (show Aa _ _ _ by repeat' first|exact Aa.nil|exact Ae.cells (by assumption)|refine Aa.cons rfl ?_|refine Aa.cons (Ar _ _).rn ?_|refine Aa.cons (Ae.rn (by assumption)) ?_|fail) ?_|fail
  rintro r g' ⟨⟨v,n,rfl,hv,hn,hm⟩,rfl⟩
  have hnj:n=j:=by
   have:=hm j hj
   rcases Nat.lt_or_ge n j with h|h
   ·exact absurd hn (hmin n h)
   ·omega
  subst hnj
  have hnT:n<T.length:=(Gi.1 hn).1
  obtain⟨s,hs,hun⟩:=un hv hnT
  rw[hn] at hs
  cases hs
  rw[htv hn] at hun
  obtain⟨r2,hnum,hr2⟩:=zG (n:=n) (by omega)
  have hsm:=LR hv hr2
  have hst:=same hit hit
  rw[decide_eq_true rfl] at hst
  have vk:=hv.nk
  have vf:=hv.flat
  have rf:=hr2.flat
  refine Yv1 ?_
  refine⟨rfl,PX.seq (PX.wp (pu:=pz) pf ?_)⟩
  refine Yv1 ?_
  refine PX.seq (PX.wp (pu:=pz) pf ?_)
  refine Yv1 ?_
  refine PX.wp (pu:=pz) pf ?_
  refine Yv1 ?_
  exact rfl
 refine PX.seq (PX.block (PX.A7 (σ:=Nat) (fun j=>i-j) (fun j=>jJ c T i++[(k14,.v (iA j))]) (fun j g=>(j≤i∧∀j',j'<j→T[j']?≠some t)∧g=mkH [(k0,obl [.lst 5 la none,.lst 3 lb none] [])] k1) (fun _=>[]) 0 (ρ:=some) (g0:=mkH [(k0,obl [.lst 5 la none,.lst 3 lb none] [])] k1)
  (Trim.same (Zl) (.cons rfl rfl (.cons rfl rfl (.cons rfl rfl (.cons rfl rfl (.cons rfl rfl (.cons rfl rfl (.nil _)))))))) .nil ⟨⟨Zl,fun _ h=>absurd h (by omega)⟩,rfl⟩ ?_))
 rintro j g ⟨⟨hji,hmin⟩,rfl⟩
 replace hji:j≤i:=hji
 obtain⟨s,hs⟩:∃s,T[j]?=some s:=⟨_,Gg (by omega:j<T.length)⟩
 have gj:=hget hs
 have hst:=same (sl _ _ hs).2 hit
 refine PX.seq (PX.seq (PX.wp (pu:=pz) pf ?_))
 refine Yv1 ?_
 refine PX.wp (pu:=pz) pf ?_
 refine⟨fun h=>?_,fun h=>?_⟩
 ·have hne:s≠t:=by simpa using h
  have hlt:j<i:=by
   rcases Nat.lt_or_ge j i with h|h
   ·exact h
   ·have:j=i:=by omega
    subst this
    rw[ht] at hs
    exact absurd (Option.some.inj hs).symm hne
  refine Yv1 ?_
  refine PX.block (PX.wp (pu:=pz) pf ?_)
  refine Yv1 ?_
  refine⟨j+1,some,_,[],[],by omega,Trim.same (Zl) (.cons rfl rfl (.cons rfl rfl (.cons rfl rfl (.cons rfl rfl (.cons rfl rfl (.cons rfl rfl (.nil _))))))),rfl,.nil,⟨hlt,fun j' hj'=>?_⟩,rfl⟩
  rcases Nat.lt_or_ge j' j with h|h
  ·exact hmin j' h
  ·have:j'=j:=by omega
   subst this
   rw[hs]
   exact fun e=>hne (Option.some.inj e)
 ·have he:s=t:=by simpa using h
  subst he
  refine Yv1 ?_
  refine PX.trim (Trim.of (l:=[(k0,obl [.lst 5 la none,.lst 3 lb none] [])]) (nx:=k1) (L2:=jJ c T i++[(k14,.v (iA j))]) [(k0,k0)] rfl (Zl) trivial ⟨⟨_,_,rfl,rfl,.same Yc⟩,trivial⟩ Yf) .nil ?_
  exact fin j hs hmin
theorem wU {P:Program} (pf:PF P Fn) {f:Fo} (w:WF0 f) (h0:∀r∈f.rs,r.2.testBit 0=false) {c a:Nat} (hc:c<4) (ha:a<65536) :
  PX P 0 (nav [1,1,1,1] C.f4.body) (jL c a (f.ns.all fmB)) (mkH [(k0,obl (foC f) [])] k1) [] Ql:=by
 have fe:=Da w.n0 w.r0
 have hfc:foC f=[.lst 5 (f.ns.map nV) none,.lst 3 (f.rs.map rV) none]:=by simpa[foA] using fe
 cases hb:f.ns.all fmB with
 |false=>
  refine PX.seq (PX.seq (PX.wp (pu:=pz) pf ?_))
  refine Yv1 ?_
  refine PX.wp (pu:=pz) pf ?_
  refine Yv1 ?_
  exact rfl
 |true=>
 have v:=w.wf (List.all_eq_true.1 hb)
 have few:=RA XK hc w v
 have tsu:=oZ (c:=c) w
 by_cases hle:(Bq (Tr2 f c) c f.rs).length≤2000
 ·rw[decide_eq_true hle] at few
  have tr:=gA KZ RB hc w v (Rm 2000) (by rw[tsu];exact hle)
  rw[tsu] at tr
  have sl:=fun n t h=>LP (c:=c) w (n:=n) (t:=t) h
  have un:∀{n:Nat} {nv:PV},Aq n nv→n<(Bq (Tr2 f c) c f.rs).length→∃s,(Bq (Tr2 f c) c f.rs)[n]?=some s∧Ag Fn 14 [.v (.agg [.lst 5 (f.ns.map nV) none,.lst 3 (f.rs.map rV) none]),cA c,.v (.s nv)] (.tup [.s (tV s),.s (.int .i64 ((0:Nat):Int))]):=fun h1 h2=>by
   have:=zF KZ RB hc w v h0 h1 h2
   rwa [fe] at this
  have rk:∀{t:Tre} {n0:Nat},t.length≤1000→(Bq (Tr2 f c) c f.rs)[n0]?=some t→PXC P 18 [.v (.agg [.lst 5 (f.ns.map nV) none,.lst 3 (f.rs.map rV) none]),cA c,PA.lst 4 (tR t)] (mkH [] k0) fun r _=>RkR (Bq (Tr2 f c) c f.rs) t r:=fun h1 h2=>by
   have:=LI (P:=P) pf KZ RB hc w v h0 h1 h2
   rw[fe] at this
   exact this
  rw[hfc]
  rw[fe] at few tr
  clear tsu v hb hfc fe
  generalize Bq (Tr2 f c) c f.rs=T at *
  refine PX.seq (PX.seq (PX.wp (pu:=pz) pf ?_))
  refine Yv1 ?_
  refine PX.wp (pu:=pz) pf ?_
  refine Yv1 ?_
  exact PX.trim (Trim.of (l:=[(k0,obl _ [])]) (nx:=k1) (L2:=jT c a) [(k0,k0)] rfl (Zl) trivial ⟨⟨_,_,rfl,rfl,.same Yc⟩,trivial⟩ Yf) .nil (zU pf hc ha hle tr sl un rk)
 ·rw[decide_eq_false hle,fe] at few
  rw[hfc]
  refine PX.seq (PX.seq (PX.wp (pu:=pz) pf ?_))
  refine Yv1 ?_
  refine PX.wp (pu:=pz) pf ?_
  refine Yv1 ?_
  exact rfl
theorem RO {P:Program} (pf:PF P Fn) (san:Ag Fn 5 [] (bA true)) {l:List Nat} (hb:∀b∈l,b<256) {c a:Nat} (hc:c<256) (ha:a<65536) :
  PXC P 4 [PA.lst 1 (uB l),.v (.s (.int .u8 (c:Nat))),.v (.s (.int .u16 (a:Nat)))] (mkH [] k0) fun r _=>r=bA true:=by
 refine PXC.of pf (vf:=C.f4) rfl ?_
 refine PX.seq (PX.wp (pu:=pz) pf ?_)
 refine Yv1 ?_
 refine PX.seq (PX.wp (pu:=pz) pf ?_)
 refine Yv1 ?_
 refine PX.seq (PX.region (PXL.split 5 (pu:=pz) pf ?_))
 refine⟨_,_,RM l _,?_⟩
 refine Yv1 ?_
 have hb':∀b∈l.take 15,b<256:=fun b h=>hb b (List.mem_of_mem_take h)
 have hl:(l.take 15).length≤15:=by rw[List.length_take];omega
 have hlo:=GA pf KZ hb' hl (fun b h=>?_) (fun j h=>?_)
 rotate_left
 ·have e:((b:Int) / 3)=((b / 3:Nat):Int):=by omega
  rw[e]
  exact LA (by omega)
 ·have e:(170+((j:Int) % 256*40) % 256) % 256=(((170+40*j) % 256:Nat):Int):=by omega
  rw[e]
  exact LB j h
 generalize l.take 15=bs at hb' hl hlo
 have w:=dJ hl
 generalize hf:loose bs=f at w hlo
 refine PXL.call rfl (PXC.Be (R:=fun r g'=>r=.tup [.agg (foC f),.s (.bool (f.ns.all fmB))]∧g'=mkH [] k0) (l:=[]) (nx:=k0) [] hlo rfl rfl trivial Ya ?_) ?_
 ·rintro rc gc' rfl
  refine⟨[],k0,[],[],.tup [.agg (foC f),.s (.bool (f.ns.all fmB))],rfl,Rl,trivial,trivial,?_,⟨rfl,rfl⟩⟩
  show Aa _ _ _
  repeat' first|exact Aa.nil|refine Aa.cons rfl ?_|refine Aa.cons (Ar _ _).rn ?_|refine Aa.cons (Ae.rn (by assumption)) ?_|refine Aa.cons (show Aa _ _ _ by repeat' first|exact Aa.nil|exact Ae.cells (by assumption)|refine Aa.cons rfl ?_|refine Aa.cons (Ar _ _).rn ?_|refine Aa.cons (Ae.rn (by assumption)) ?_|fail) ?_|fail
 rintro r g' ⟨rfl,rfl⟩
 refine Yv1 ?_
 refine PXL.split 6 (pu:=pz) pf ?_
 refine PXL.nil ?_
 refine PX.seq (PX.wp (pu:=pz) pf ?_)
 refine Yv1 ?_
 have hd:((c:Int) % ((4:Nat):Int))=((c % 4:Nat):Int):=rfl
 refine PX.trim (Trim.of (l:=[(k0,obl (foC f) [])]) (nx:=k1) (L2:=jL (c % 4) a (f.ns.all fmB)) [(k0,k0)] rfl (Zl) trivial ⟨⟨_,_,rfl,rfl,.same Yc⟩,trivial⟩ Yf) .nil ((wU pf w ?_ (Nat.mod_lt _ (by decide)) ha).mono ?_)
 ·subst hf
  intro r hr
  obtain⟨i,hi,rfl⟩:=List.mem_map.1 hr
  have h4:i<4:=by
   have:=List.mem_range.1 hi
   unfold Ch at this
   omega
  have:∀i,i<4→((170+40*i) % 256 % 16).testBit 0=false:=by decide
  exact this i h4
 ·rintro x L g I h
  cases x<;>exact h
def p6 (n:Nat):Bool:=sJ [5,6] n
theorem LS {P:Program} (pf:PF P Fn) (san:Ag Fn 5 [] (bA true)) {c a:Nat} (hc:c<256) (ha:a<65536) :
  PXC P 4 [.v (.s .Af),.v (.s (.int .u8 (c:Nat))),.v (.s (.int .u16 (a:Nat)))] (mkH [] k0) fun r _=>r=bA true:=by
 have hn:Ag Fn 6 [.v (.s .Af)] (.tup [.agg (foC (loose [])),.s (.bool ((loose []).ns.all fmB))]):=ent E.VD
 have w:=dJ (l:=[]) (by decide)
 have h0:∀r∈(loose []).rs,r.2.testBit 0=false:=by decide
 generalize loose []=f at hn w h0
 refine PXC.of pf (vf:=C.f4) rfl ?_
 refine PX.seq (PX.wp (pu:=p6) pf ?_)
 refine Yv1 ?_
 refine PX.seq (PX.wp (pu:=p6) pf ?_)
 refine Yv1 ?_
 refine PX.seq (PX.wp (pu:=p6) pf ?_)
 refine Yv1 ?_
 refine PX.seq (PX.wp (pu:=pz) pf ?_)
 refine Yv1 ?_
 refine PX.trim (Trim.of (l:=[(k0,obl (foC f) [])]) (nx:=k1) (L2:=jL (c % 4) a (f.ns.all fmB)) [(k0,k0)] rfl (Zl) trivial ⟨⟨_,_,rfl,rfl,.same Yc⟩,trivial⟩ Yf) .nil ((wU pf w h0 (Nat.mod_lt _ (by decide)) ha).mono ?_)
 rintro x L g I h
 cases x<;>exact h
end Go.Pv
end
section
noncomputable section
namespace Go.Pv
open Go.Vm
open Go.Vm.Key (kn)
set_option maxRecDepth 10000
structure Lf (w w':World):Prop where
 os:w'.os=w.os
 output:w'.output=w.output
 size:w.heap.size≤w'.heap.size
 block:∀k,k<w.heap.size→w'.heap[k]?=w.heap[k]?
theorem dO {P:Program} {f:Nat} {args:List PA} {b:Bool} {nx:Key} (h:PXC P f args (mkH [] nx) fun r _=>r=.v (.s (.bool b))) {Z:ZM} {hp:Ac} {φ:Emb} {w:World} {vs:List AV} {us:List Value}
  (hg:Good ⟨Z,fun _=>none,mkH [] nx,hp⟩) (hc:Go.Vm.Clean hp) (hs:Sim φ hp.get hp.next.toNat w) (ho:∀k x,hp.get k=some x→x.own=false) (hv:Aa (AR Z fun _=>none) args vs) (hu:Aa (Cp φ) vs us) :
  Calls P f us.toArray w fun e w'=>e=.returned (.bool b)∧Lf w w':=by
 refine Calls.mono ((h ⟨Z,fun _=>none,mkH [] nx,hp⟩ hg rfl vs hv).run hc φ w us hs hu) ?_
 rintro e w' ⟨v',v,h',φ',rfl,_,he,_,_,ha,Z',p',r,g',_,_,hr,rfl⟩
 have hv':v=.v (.s (.bool b)):=by
  cases v with
  |tup _=>exact absurd hr id
  |v x=>cases x with
   |agg _=>exact absurd hr id
   |s y=>have hr:Aj Z' (.bool b) y:=hr;cases hr;rfl
 subst hv'
 have ha:v'=.bool b:=ha
 subst ha
 refine⟨rfl,he.os.1,he.os.2,he.size,fun k hk=>?_⟩
 obtain⟨o,e⟩:∃o,w.heap[k]?=some o:=⟨w.heap[k],by simp[hk]⟩
 rw[e]
 exact he.frame k o e fun b x l h1 h2=>by rw[ho _ _ h1] at h2;cases h2
theorem dP {P:Program} {f:Nat} {args:List PA} {b:Bool} (h:PXC P f args (mkH [] C.k0) fun r _=>r=.v (.s (.bool b))) {w:World} {vs:List AV} {us:List Value}
  (hv:Aa (AR (fun _=>none) fun _=>none) args vs) (hu:Aa (Cp fun _=>none) vs us):Calls P f us.toArray w fun e w'=>e=.returned (.bool b)∧Lf w w':=by
 refine dO (Z:=fun _=>none) (hp:=⟨.z,.h⟩) (φ:=fun _=>none) h ?_ ?_ ?_ ?_ hv hu
 ·refine⟨⟨fun _ _ _ h=>(by cases h),fun k x h=>?_,fun _ _ h=>(by cases h),fun _ _ h=>(by cases h)⟩,⟨fun _ _ h=>(by cases h),fun _ _ h=>(by cases h),fun b _=>?_⟩⟩
  ·rw[Ih] at h;cases h
  ·exact Tr.lD b
 ·exact fun b _=>⟨Tr.lD b,fun c y hc=>by have:(Tr.z:Tr Blk).get c=some y:=hc;simp at this⟩
 ·exact⟨fun _ _ _ _ h=>(by cases h),fun _ _ _ _ _ _ _ h=>(by cases h),fun _ _=>rfl⟩
 ·exact fun k x h=>by have:(Tr.z:Tr Blk).get k=some x:=h;simp at this
def hpL (l:List SV):Ac:=⟨(Tr.z:Tr Blk).upd .h (some ⟨Body.ofList l,false,[]⟩),Key.h.succ⟩
theorem Zf (l:List SV) (k:Key):(hpL l).get k=if Key.h=k then some ⟨Body.ofList l,false,[]⟩ else none:=by
 show((Tr.z:Tr Blk).upd .h _).get k=_
 rw[Tr.Av,Tr.lD]
theorem zV {P:Program} {f:Nat} {args:List PA} {b:Bool} (h:PXC P f args (mkH [] C.k0) fun r _=>r=.v (.s (.bool b))) {w:World} {l:List SV} {lo:Go.Vm.Loc} {vs:List AV} {us:List Value}
  (hb:∃o,w.heap[lo.blk]?=some o∧Rp (fun k=>if Key.h=k then some lo else none) lo false (Body.ofList l) o)
  (hv:Aa (AR (fun k=>if Key.h=k then some (Body.ofList l) else none) fun _=>none) args vs) (hu:Aa (Cp fun k=>if Key.h=k then some lo else none) vs us):Calls P f us.toArray w fun e w'=>e=.returned (.bool b)∧Lf w w':=by
 have h1:(hpL l).next.toNat=1:=rfl
 have h0:∀b:Key,1≤b.toNat→¬Key.h=b:=fun b hb e=>by subst e;exact absurd hb (by decide)
 have hx:∀k x,(hpL l).get k=some x→Key.h=k∧x=⟨Body.ofList l,false,[]⟩:=fun k x h=>by
  rw[Zf] at h
  split at h
  ·next e=>cases h;exact⟨e,rfl⟩
  ·cases h
 refine dO (Z:=fun k=>if Key.h=k then some (Body.ofList l) else none) (hp:=hpL l) (φ:=fun k=>if Key.h=k then some lo else none) h ?_ ?_ ?_ ?_ hv hu
 ·refine⟨⟨fun _ _ _ h=>(by cases h),fun k x h=>?_,fun b c h=>?_,fun _ _ h=>(by cases h)⟩,⟨fun _ _ h=>(by cases h),fun b c h=>?_,fun b hb=>?_⟩⟩
  ·have h:(mkH [] C.k0).get k=some x:=h
   rw[Ih] at h;cases h
  ·show ∃y,(hpL l).get b=some y∧_
   rw[Zf]
   have h:(if Key.h=b then some (Body.ofList l) else none)=some c:=h
   split at h
   ·next e=>cases h;rw[if_pos e];exact⟨_,rfl,rfl⟩
   ·cases h
  ·have h:(if Key.h=b then some (Body.ofList l) else none)=some c:=h
   split at h
   ·next e=>subst e;exact(show(0:Nat)<1 by decide)
   ·cases h
  ·show(hpL l).get b=none
   rw[Zf,if_neg (h0 b hb)]
 ·exact fun b hb=>⟨by show(hpL l).get b=none;rw[Zf,if_neg (h0 b hb)],fun c y hc=>by obtain⟨_,rfl⟩:=hx c y hc;simp⟩
 ·refine⟨fun b x lo' h h'=>?_,fun b x lo' b' x' lo'' h _ _ _ _ _ ho=>?_,fun b hb=>if_neg (h0 b hb)⟩
  ·obtain⟨e,rfl⟩:=hx b x h
   rw[if_pos e] at h';cases h'
   exact hb
  ·obtain⟨_,rfl⟩:=hx b x h;cases ho
 ·exact fun k x h=>by obtain⟨_,rfl⟩:=hx k x h;rfl
end Go.Pv
end
section
noncomputable section
namespace Go.Pv
open Go.Vm
open Go (bounds_u8 bounds_u16 ints_at)
open Go.Vm.Key (kn)
set_option maxRecDepth 10000
theorem XS {Z:ZM} {p:Ren} {l:List Nat} {b:Key} {vcap:Option Nat} (hv:∀c,vcap=some c→l.length≤c) (hz:l≠[]→Z b=some (Body.ofList (l.map fun n=>.int .u8 (n:Nat)))):AR Z p (PA.lst 1 (uB l)) (.v (.s (.slice b 0 l.length 1 vcap))):=by
 have hn:(uB l).length=l.length:=by simp
 show Aj Z (.lst 1 (uB l) none) (.slice b 0 l.length 1 vcap)
 rw[←hn]
 refine .lst (fun i=>.int .u8 (l.getD i 0:Nat)) (.inl rfl) (fun c h=>by rw[hn];exact hv c h) (fun e he=>?_) (fun h0=>?_) fun i e j x he hx=>?_
 ·obtain⟨n,_,rfl⟩:=List.mem_map.1 he;rfl
 ·have h1:l≠[]:=fun e=>by subst e;exact h0 rfl
  refine⟨_,_,hz h1,?_,fun t ht=>?_⟩
  ·simp
  ·have ht':t<l.length:=by simpa using ht
   rw[Nat.zero_add,Sq _ _ (by simpa using ht'),List.getElem_map]
   show _=some (SV.int .u8 (l.getD t 0:Nat))
   rw[List.getD_eq_getElem?_getD,Gg ht',Option.getD_some]
 ·rw[List.getElem?_map] at he
  obtain⟨n,hn',rfl⟩:=Option.map_eq_some_iff.1 he
  cases j with
  |succ j=>simp at hx
  |zero=>
   simp only[List.getElem?_cons_zero,Sj] at hx
   subst hx
   rw[Nat.mul_one,Nat.add_zero,List.getD_eq_getElem?_getD,hn',Option.getD_some]
   exact .int ..
theorem walkG {P:Program} (pf:PF P Fn) (san:Ag Fn 5 [] (bA true)) (a0:Option Addr) (len0 cap0:Nat) (z0:List Int) (a1 a2:Int) (w:World)
  (w0:(a0=none∧len0=0∧cap0=0∧z0=[])∨∃x,a0=some x∧len0≤cap0∧cap0≤maxLen∧z0.length=cap0∧(∀i,i<z0.length→w.cell? (x.add i)=some (.int .u8 (z0.getD i 0)))∧∀n∈z0,(Lit.int .u8 n).wf=true)
  (w1:(Lit.int .u8 a1).wf=true) (w2:(Lit.int .u16 a2).wf=true) :
  Calls P 4 #[.slice a0 len0 cap0,.int .u8 a1,.int .u16 a2] w fun e w'=>e=.returned (.bool true)∧Lf w w':=by
 have b1:=bounds_u8 w1
 have b2:=bounds_u16 w2
 obtain⟨c,rfl⟩:=Int.eq_ofNat_of_zero_le b1.1
 obtain⟨a,rfl⟩:=Int.eq_ofNat_of_zero_le b2.1
 have hc:c<256:=by omega
 have ha:a<65536:=by omega
 rcases w0 with⟨rfl,rfl,rfl,rfl⟩|⟨x,rfl,hl,hm,hz,hcell,hwz⟩
 ·exact dP (LS pf san hc ha) (vs:=[.v (.s .Af),.v (.s (.int .u8 (c:Nat))),.v (.s (.int .u16 (a:Nat)))]) (us:=[.slice none 0 0,.int .u8 (c:Nat),.int .u16 (a:Nat)]) (.cons .Af (.cons (.int ..) (.cons (.int ..) .nil))) (.cons rfl (.cons rfl (.cons rfl .nil)))
 ·obtain⟨l,hl1,hl2⟩:∃l:List Nat,z0.take len0=l.map (fun n:Nat=>(n:Int))∧∀b∈l,b<256:=by
   refine⟨(z0.take len0).map Int.toNat,?_,fun b hb=>?_⟩
   ·rw[List.map_map]
    conv=>lhs;rw[←List.map_id (z0.take len0)]
    refine List.map_congr_left fun n hn=>?_
    have:=bounds_u8 (hwz n (List.mem_of_mem_take hn))
    show n=((n.toNat:Nat):Int)
    omega
   ·obtain⟨n,hn,rfl⟩:=List.mem_map.1 hb
    have:=bounds_u8 (hwz n (List.mem_of_mem_take hn))
    omega
  have hln:l.length=len0:=by
   have:=congrArg List.length hl1
   simp only[List.length_take,Lm] at this
   omega
  subst hln
  have hlaw:=RO pf san hl2 hc ha
  have hu:∀φ:Emb,Bz φ (.slice .h 0 l.length 1 (some cap0)) (.slice (some x) l.length cap0)→Aa (Cp φ) [.v (.s (.slice .h 0 l.length 1 (some cap0))),.v (.s (.int .u8 (c:Nat))),.v (.s (.int .u16 (a:Nat)))] [.slice (some x) l.length cap0,.int .u8 (c:Nat),.int .u16 (a:Nat)]:=fun φ h=>.cons h (.cons rfl (.cons rfl .nil))
  have hv:∀Z:ZM,(l≠[]→Z .h=some (Body.ofList (l.map fun n=>.int .u8 (n:Nat))))→Aa (AR Z fun _=>none) [PA.lst 1 (uB l),.v (.s (.int .u8 (c:Nat))),.v (.s (.int .u16 (a:Nat)))] [.v (.s (.slice .h 0 l.length 1 (some cap0))),.v (.s (.int .u8 (c:Nat))),.v (.s (.int .u16 (a:Nat)))]:=fun Z h=>
   .cons (XS (fun c h=>by cases h;omega) h) (.cons (.int ..) (.cons (.int ..) .nil))
  rcases Nat.eq_zero_or_pos cap0 with h0|h0
  ·subst h0
   have he:l=[]:=List.length_eq_zero_iff.1 (by omega)
   exact dP hlaw (hv _ fun h=>absurd he h) (hu _ ⟨x,0,rfl,hl,fun k h=>by cases h;rfl,.inl rfl⟩)
  ·obtain⟨blk,off,rfl,hc2⟩:=ints_at hcell (by omega)
   have arr:∃(cs:Array Value) (e:TypeId) (fr:Nat×Nat),w.heap[blk]?=some (.cells cs e fr)∧∀j,j<z0.length→cs[off+j]?=some (.int .u8 (z0.getD j 0)):=by
    have h:=hc2 0 (by omega)
    unfold World.cell? at h
    split at h
    ·next cs e fr hh=>
     refine⟨cs,e,fr,hh,fun j hj=>?_⟩
     have h:=hc2 j hj
     unfold World.cell? at h
     rw[hh] at h
     exact h
    ·cases h
   obtain⟨cs,e,fr,hh,hcs⟩:=arr
   have hsz:off+cap0≤cs.size:=by
    have:=(Array.getElem?_eq_some_iff.1 (hcs (cap0-1) (by omega))).1
    omega
   refine zV (lo:=⟨blk,off,cs.size⟩) (l:=l.map fun n=>.int .u8 (n:Nat)) hlaw ⟨_,hh,cs,e,fr,rfl,rfl,?_,fun h=>(by cases h),fun i hi=>?_⟩ (hv _ fun _=>if_pos rfl) (hu _ ⟨_,cap0,rfl,hl,fun k h=>by cases h;rfl,.inr ⟨_,if_pos rfl,by rw[Nat.zero_add],fun h=>by cases h⟩⟩)
   ·rw[Lm];show off+l.length≤cs.size;omega
   ·have hi':i<l.length:=by simpa using hi
    refine⟨_,_,Sq _ _ hi,hcs i (by omega),?_⟩
    have hz2:z0.getD i 0=((l[i]:Nat):Int):=by
     have:=congrArg (fun q=>q[i]?) hl1
     simp only[List.getElem?_take,List.getElem?_map] at this
     rw[if_pos (by omega),Gg hi',Option.map_some] at this
     rw[List.getD_eq_getElem?_getD,this,Option.getD_some]
    rw[hz2,List.getElem_map]
    exact rfl
end Go.Pv
end
