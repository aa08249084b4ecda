/- A part of the proof that the law CountLooseRanks answers true. No condition. -/
import Derived.Test.YthnfbamnfihcaaaGreatPart1
import Derived.Test.YthnfbamnfihcaaaGreatTab
set_option linter.unusedVariables false
set_option linter.unusedSimpArgs false
set_option linter.unusedSectionVars false
section
noncomputable section
namespace Go.Pv
open Go.Vm
open Go.Vm.Key (kn)
variable {F:A4} {pu:Nat→Bool}
theorem wrap_i64 {n:Int} (h:-9223372036854775808≤n∧n<9223372036854775808):IntKind.wrap .i64 n=n:=by
 show(if(true&&decide (n % 18446744073709551616≥9223372036854775808))=true then n % 18446744073709551616-18446744073709551616 else n % 18446744073709551616)=n
 by_cases h0:n % 18446744073709551616≥9223372036854775808
 ·rw[if_pos (by simp[h0])];omega
 ·rw[if_neg (by simp[h0])];omega
theorem wrap_u8 (n:Int):IntKind.wrap .u8 n=n % 256:=by simp[IntKind.wrap,IntKind.signed,IntKind.bits]
theorem vK {x y:Int} (h:0≤x∧0<y):0≤x / y∧x / y≤x:=⟨Int.ediv_nonneg h.1 (Int.le_of_lt h.2),Int.ediv_le_self y h.1⟩
theorem wrap_u64 {n:Int} (h:0≤n∧n<18446744073709551616):IntKind.wrap .u64 n=n:=by
 unfold IntKind.wrap
 simp only[IntKind.bits,IntKind.signed,Bool.false_and,Fj,if_false]
 have e1:(2:Int) ^ 64=18446744073709551616:=rfl
 rw[e1];omega
theorem wrap_u32 (n:Int):IntKind.wrap .u32 n=n % 4294967296:=by
 unfold IntKind.wrap
 simp only[IntKind.bits,IntKind.signed,Bool.false_and,Fj,if_false]
 rfl
def XC (F:A4) (f:Nat) (args:List PA) (g:Ab) (R:PA→Ab→Prop):Prop:=∀s:Sta,Good s→s.g=g→∀vs:List AV,Aa (AR s.Z s.p) args vs →
 ∃N u h' Z' p' r g',Bo F noO (exec F noO N) f vs s.h=some (u,h')∧Good ⟨Z',p',g',h'⟩∧Ba s.g.next.toNat s.h.next.toNat s ⟨Z',p',g',h'⟩∧AR Z' p' r u∧R r g'
theorem XC.mono {f:Nat} {args:List PA} {g:Ab} {R R':PA→Ab→Prop} (h:XC F f args g R) (hr:∀r g',R r g'→R' r g'):XC F f args g R':=by
 intro s hs hg vs hv
 obtain⟨N,u,h',Z',p',r,g',h1,h2,h3,h4,h5⟩:=h s hs hg vs hv
 exact⟨N,u,h',Z',p',r,g',h1,h2,h3,h4,hr r g' h5⟩
def jP (F:A4) (pu:Nat→Bool) (f:Nat) (args:List PA) (g:Ab) (R:PA→Ab→Prop):Prop:=
 match pu f with
 |true=>∃xs g1 r,Dk deep args g=some (xs,g1)∧Ag F f xs r∧R r g1
 |false=>XC F f args g R
theorem fN {f:Nat} {args:List PA} {g:Ab} {R:PA→Ab→Prop} (h:jP F pu f args g R):XC F f args g R:=by
 unfold jP at h
 split at h
 ·obtain⟨xs,g1,r,hx,hr,hR⟩:=h
  intro s hs hg vs hv
  subst hg
  obtain⟨Z1,h1,h2⟩:=bF args hs.toCg hv hx
  have hg:Good ⟨Z1,s.p,g1,s.h⟩:=⟨h1.sim,h1.room hs.toRoom⟩
  obtain⟨N,u,h',Z',h3,h4,h5,h6⟩:=hr _ hg vs h2
  have hext:=h1.ext s.g.next.toNat s.h.next.toNat
  exact⟨N,u,h',Z',s.p,r,g1,h3,h4,hext.trans hs.toCg h5 hext.nx.1 (Rl),h6.a,hR⟩
 ·exact h
def vL (o:VOp) (xs:List FE) (g:Ab) (R:FE→Ab→Prop):Prop:=
 match o,xs with
 |.mov,[x]=>R x g
 |.pick,[.b c,x,y]=>match c with
  |true=>R x g
  |false=>R y g
 |.un .not,[.b c]=>R (.b (!c)) g
 |.isl es,[.v (.v (.s (.lst es' l _))),.v (.v (.s (.int _ i)))]=>match Nat.beq es es' with
  |true=>∃e,(0≤i∧l[i.toNat]?=some e)∧R (.v (.v (.s (.rp e)))) g
  |false=>False
 |.isl es,[.v (.v (.s (.slice b o len es' _))),.v (.v (.s (.int _ i)))]=>match Nat.beq es es' with
  |true=>(0≤i∧i<(len:Int))∧R (.q (.v (.s (.ptr b (o+i.toNat*es))))) g
  |false=>False
 |.bin .add,[.v (.v (.s (.int .i64 x))),.v (.v (.s (.int .i64 y)))]=>(-9223372036854775808≤x+y∧x+y<9223372036854775808)∧R (.v (.v (.s (.int .i64 (x+y))))) g
 |.bin .sub,[.v (.v (.s (.int .i64 x))),.v (.v (.s (.int .i64 y)))]=>(-9223372036854775808≤x-y∧x-y<9223372036854775808)∧R (.v (.v (.s (.int .i64 (x-y))))) g
 |.bin .mul,[.v (.v (.s (.int .i64 x))),.v (.v (.s (.int .i64 y)))]=>(-9223372036854775808≤x*y∧x*y<9223372036854775808)∧R (.v (.v (.s (.int .i64 (x*y))))) g
 |.bin .add,[.v (.v (.s (.int .u64 x))),.v (.v (.s (.int .u64 y)))]=>(0≤x+y∧x+y<18446744073709551616)∧R (.v (.v (.s (.int .u64 (x+y))))) g
 |.bin .mul,[.v (.v (.s (.int .u64 x))),.v (.v (.s (.int .u64 y)))]=>(0≤x*y∧x*y<18446744073709551616)∧R (.v (.v (.s (.int .u64 (x*y))))) g
 |.bin .quo,[.v (.v (.s (.int .u64 x))),.v (.v (.s (.int .u64 y)))]=>y≠0∧R (.v (.v (.s (.int .u64 (IntKind.wrap .u64 (x.tdiv y)))))) g
 |.bin .rem,[.v (.v (.s (.int .u64 x))),.v (.v (.s (.int .u64 y)))]=>y≠0∧R (.v (.v (.s (.int .u64 (x.tmod y))))) g
 |.bin .quo,[.v (.v (.s (.int .i64 x))),.v (.v (.s (.int .i64 y)))]=>(0≤x∧x<9223372036854775808∧0<y)∧R (.v (.v (.s (.int .i64 (x / y))))) g
 |.bin .rem,[.v (.v (.s (.int .i64 x))),.v (.v (.s (.int .i64 y)))]=>(0≤x∧0<y)∧R (.v (.v (.s (.int .i64 (x % y))))) g
 |.bin .quo,[.v (.v (.s (.int .u8 x))),.v (.v (.s (.int .u8 y)))]=>(0≤x∧x<256∧0<y)∧R (.v (.v (.s (.int .u8 (x / y))))) g
 |.bin .rem,[.v (.v (.s (.int .u8 x))),.v (.v (.s (.int .u8 y)))]=>(0≤x∧0<y)∧R (.v (.v (.s (.int .u8 (x % y))))) g
 |.bin .add,[.v (.v (.s (.int .u8 x))),.v (.v (.s (.int .u8 y)))]=>R (.v (.v (.s (.int .u8 ((x+y) % 256))))) g
 |.bin .mul,[.v (.v (.s (.int .u8 x))),.v (.v (.s (.int .u8 y)))]=>R (.v (.v (.s (.int .u8 ((x*y) % 256))))) g
 |.conv .i64,[.v (.v (.s (.int .u8 x)))]=>(0≤x∧x<9223372036854775808)∧R (.v (.v (.s (.int .i64 x)))) g
 |.conv .i64,[.v (.v (.s (.int .u16 x)))]=>(0≤x∧x<9223372036854775808)∧R (.v (.v (.s (.int .i64 x)))) g
 |.conv .u8,[.v (.v (.s (.int .i64 x)))]=>R (.v (.v (.s (.int .u8 (x % 256))))) g
 |.conv .u64,[.v (.v (.s (.int .u8 x)))]=>(0≤x∧x<18446744073709551616)∧R (.v (.v (.s (.int .u64 x)))) g
 |.B8 off,[.q (.v (.s (.ptr b o)))]=>R (.q (.v (.s (.ptr b (o+off))))) g
 |.Bm,[.v (.v (.s (.rp (x::_))))]=>R (.v (.v (.s x))) g
 |.B5 n,[.v (.v (.s (.rp l)))]=>match Xs n l with
  |some r=>R (.v (.v (.agg r))) g
  |none=>False
 |.Bm,[.v (.v (.s (.ptr b o)))]=>match fM g b o 1 with
  |some [x]=>R (.v (.v (.s x))) g
  |_=>False
 |.B5 n,[.v (.v (.s (.ptr b o)))]=>match fM g b o n with
  |some l=>R (.v (.v (.agg l))) g
  |none=>False
 |.store n,[.v (.v (.s (.ptr b o))),x]=>match x.pa with
  |.v c=>match DM n c.cells with
   |true=>match sD g b o c.cells with
    |some g'=>R (.v .unit) g'
    |none=>False
   |false=>False
  |.tup _=>False
 |.Fg zs,[]=>match Jo zs with
  |some l=>R (.v (.v (.s (.ptr g.next 0)))) (g.new (.cells l))
  |none=>False
 |.box n,[x]=>match x.pa with
  |.v c=>match DM n c.cells with
   |true=>R (.v (.v (.s (.ptr g.next 0)))) (g.new (.cells c.cells))
   |false=>False
  |.tup _=>False
 |.Gn es len zero places,xs=>match Jo zero with
  |some z=>match DN (Oj z len) places (xs.map FE.pa) with
   |some cs=>R (.v (.v (.s (.slice g.next 0 len es (some len))))) (g.new (.cells cs))
   |none=>False
  |none=>False
 |.Oi,[]=>R (.v (.v (.s (.map g.next)))) (g.new (.map []))
 |o,xs=>match isE o with
  |true=>match opE o (xs.map FE.pa) with
   |some v=>R (.v v) g
   |none=>False
  |false=>∃v g',opP o (xs.map FE.pa) g=some (v,g')∧R (.v v) g'
def fO (F:A4) (pu:Nat→Bool) (a:Bl) (xs:List FE) (g:Ab) (R:FE→Ab→Prop):Prop:=
 match a with
 |.op o=>vL o xs g R
 |.call f=>jP F pu f (xs.map FE.pa) g fun r g'=>R (.v r) g'
 |.Ge=>match xs with
  |.v (.v (.s (.func f fs cs)))::xs=>jP F pu f (Rs fs++xs.map FE.pa++Rs cs) g fun r g'=>R (.v r) g'
  |_=>False
theorem nX {o:VOp} {xs:List FE} {g:Ab} {R:FE→Ab→Prop} (h:vL o xs g R):∃x g',opP o (xs.map FE.pa) g=some (x.pa,g')∧R x g':=by
 have main:∀{x:FE} {g':Ab},opP o (xs.map FE.pa) g=some (x.pa,g')→R x g'→∃x g',opP o (xs.map FE.pa) g=some (x.pa,g')∧R x g':=fun h1 h2=>⟨_,_,h1,h2⟩
 unfold vL at h
 split at h
 ·next x=>exact main rfl h
 ·next c x y=>
  split at h
  ·exact main (x:=x) rfl h
  ·exact main (x:=y) rfl h
 ·next c=>exact main rfl h
 ·next es es' l cap k i=>
  split at h
  ·next he=>
   obtain⟨e,⟨h1,h2⟩,hR⟩:=h
   refine main ?_ hR
   simp only[List.map_cons,List.map_nil,FE.pa,opP,gV]
   rw[if_pos ⟨Nat.eq_of_beq_eq_true he,h1⟩,h2]
  ·exact h.elim
 ·next es b o len es' cap k i=>
  split at h
  ·next he=>
   obtain⟨h1,hR⟩:=h
   refine main ?_ hR
   simp only[List.map_cons,List.map_nil,FE.pa,opP,gV]
   rw[if_pos ⟨Nat.eq_of_beq_eq_true he,h1⟩]
  ·exact h.elim
 ·exact main (by show Dr _ (some (.int .i64 (IntKind.wrap .i64 _)))=_;rw[wrap_i64 h.1];rfl) h.2
 ·exact main (by show Dr _ (some (.int .i64 (IntKind.wrap .i64 _)))=_;rw[wrap_i64 h.1];rfl) h.2
 ·exact main (by show Dr _ (some (.int .i64 (IntKind.wrap .i64 _)))=_;rw[wrap_i64 h.1];rfl) h.2
 ·exact main (by show Dr _ (some (.int .u64 (IntKind.wrap .u64 _)))=_;rw[wrap_u64 h.1];rfl) h.2
 ·exact main (by show Dr _ (some (.int .u64 (IntKind.wrap .u64 _)))=_;rw[wrap_u64 h.1];rfl) h.2
 ·exact main (by simp only[List.map_cons,List.map_nil,FE.pa,opP,Ox,Yj,Kp,Fj,if_false,if_true,Nf,if_neg h.1,Ow,Dr]) h.2
 ·exact main (by simp only[List.map_cons,List.map_nil,FE.pa,opP,Ox,Yj,Kp,Fj,if_false,if_true,Nf,if_neg h.1,Ow,Dr]) h.2
 ·next x y=>
  refine main ?_ h.2
  have hq:=vK ⟨h.1.1,h.1.2.2⟩
  simp only[List.map_cons,List.map_nil,FE.pa,opP,Ox,Yj,Kp,Fj,if_false,if_true,Nf,if_neg (Int.ne_of_gt h.1.2.2),Ow,Dr]
  rw[Int.tdiv_eq_ediv_of_nonneg h.1.1,wrap_i64 (by omega)]
 ·refine main ?_ h.2
  simp only[List.map_cons,List.map_nil,FE.pa,opP,Ox,Yj,Kp,Fj,if_false,if_true,Nf,if_neg (Int.ne_of_gt h.1.2),Ow,Dr]
  rw[Int.tmod_eq_emod_of_nonneg h.1.1]
 ·next x y=>
  refine main ?_ h.2
  have hq:=vK ⟨h.1.1,h.1.2.2⟩
  simp only[List.map_cons,List.map_nil,FE.pa,opP,Ox,Yj,Kp,Fj,if_false,if_true,Nf,if_neg (Int.ne_of_gt h.1.2.2),Ow,Dr]
  rw[Int.tdiv_eq_ediv_of_nonneg h.1.1,wrap_u8,Int.emod_eq_of_lt hq.1 (by omega)]
 ·refine main ?_ h.2
  simp only[List.map_cons,List.map_nil,FE.pa,opP,Ox,Yj,Kp,Fj,if_false,if_true,Nf,if_neg (Int.ne_of_gt h.1.2),Ow,Dr]
  rw[Int.tmod_eq_emod_of_nonneg h.1.1]
 ·exact main (by show Dr _ (some (.int .u8 (IntKind.wrap .u8 _)))=_;rw[wrap_u8];rfl) h
 ·exact main (by show Dr _ (some (.int .u8 (IntKind.wrap .u8 _)))=_;rw[wrap_u8];rfl) h
 ·refine main ?_ h.2
  show some (PA.int .i64 (IntKind.wrap .i64 _),g)=_
  rw[wrap_i64 ⟨by omega,h.1.2⟩];rfl
 ·refine main ?_ h.2
  show some (PA.int .i64 (IntKind.wrap .i64 _),g)=_
  rw[wrap_i64 ⟨by omega,h.1.2⟩];rfl
 ·refine main ?_ h
  show some (PA.int .u8 (IntKind.wrap .u8 _),g)=_
  rw[wrap_u8];rfl
 ·refine main ?_ h.2
  show some (PA.int .u64 (IntKind.wrap .u64 _),g)=_
  rw[wrap_u64 h.1];rfl
 ·exact main rfl h
 ·exact main rfl h
 ·next n l=>
  split at h
  ·next r hr=>
   obtain⟨h1,h2⟩:=P4 hr
   refine main ?_ h
   simp only[List.map_cons,List.map_nil,FE.pa,opP,Fz,if_pos h1,h2]
  ·exact h.elim
 ·next b o=>
  split at h
  ·next x hx=>refine main ?_ h;simp only[List.map_cons,List.map_nil,FE.pa,opP,Lk,Um hx]
  ·exact h.elim
 ·next n b o=>
  split at h
  ·next x hx=>refine main ?_ h;simp only[List.map_cons,List.map_nil,FE.pa,opP,Fz,Um hx]
  ·exact h.elim
 ·next n b o x=>
  split at h
  ·next c hc=>
   split at h
   ·next hn=>
    split at h
    ·next g' hg'=>refine main ?_ h;simp only[List.map_cons,List.map_nil,hc];simp only[FE.pa,opP,Ll,if_pos (Y8 hn),yN hg']
    ·exact h.elim
   ·exact h.elim
  ·exact h.elim
 ·next zs=>
  split at h
  ·next l hl=>refine main ?_ h;simp only[List.map_nil,FE.pa,opP,eM,hl]
  ·exact h.elim
 ·next n x=>
  split at h
  ·next c hc=>
   split at h
   ·next hn=>refine main ?_ h;simp only[List.map_cons,List.map_nil,hc];simp only[FE.pa,opP,xA,if_pos (Y8 hn)]
   ·exact h.elim
  ·exact h.elim
 ·next es len zero places=>
  split at h
  ·next z hz=>
   split at h
   ·next cs hcs=>refine main ?_ h;simp only[FE.pa,opP,Qr,hz,jO hcs]
   ·exact h.elim
  ·exact h.elim
 ·exact main rfl h
 ·next o xs _ _ _ _ _ _ _ _ _ _ _ _ _ _ _=>
  split at h
  ·split at h
   ·next v hv'=>exact main (x:=.v v) (PU hv' g) h
   ·exact h.elim
  ·obtain⟨v,g',h1,h2⟩:=h
   exact main (x:=.v v) h1 h2
theorem nY {a:Bl} {xs:List FE} {g:Ab} {R:FE→Ab→Prop} (h:fO F pu a xs g R) {s:Sta} (hs:Good s) (hg:s.g=g) {vs:List AV} (hv:Aa (AR s.Z s.p) (xs.map FE.pa) vs) :
  ∃N u h' Z' p' x g',a.run (Bo F noO (exec F noO N)) vs s.h=some (u,h')∧Good ⟨Z',p',g',h'⟩∧Ba s.g.next.toNat s.h.next.toNat s ⟨Z',p',g',h'⟩∧AR Z' p' x.pa u∧R x g':=by
 subst hg
 cases a with
 |op o=>
  obtain⟨x,g',h1,h2⟩:=nX h
  obtain⟨u,h',p',h3,h4,h5,h6⟩:=BV o s hs _ vs _ g' hv h1
  exact⟨0,u,h',s.Z,p',x,g',h3,h4,h5,h6,h2⟩
 |call f=>
  obtain⟨N,u,h',Z',p',r,g',h1,h2,h3,h4,h5⟩:=fN (by simpa only[fO] using h) s hs rfl vs hv
  exact⟨N,u,h',Z',p',.v r,g',h1,h2,h3,h4,h5⟩
 |Ge=>
  unfold fO at h
  simp only at h
  split at h
  case h_2=>exact h.elim
  next f fs cs xs=>
  cases hv with
  |cons h1 h2=>
  obtain⟨z,rfl,fs',cs',rfl,h3,h4⟩:=h1.s
  obtain⟨N,u,h',Z',p',r,g',h5,h6,h7,h8,h9⟩:=fN h s hs rfl _ (A0 (A0 (Je h3) h2) (Je h4))
  exact⟨N,u,h',Z',p',.v r,g',h5,h6,h7,h8,h9⟩
def TW (F:A4) (pu:Nat→Bool) (o:An) (ih:Fm→Ab→(Fm→Ab→Prop)→Prop) (L:Fm) (g:Ab) (Q:Fm→Ab→Prop):Prop:=
 Q9 L o.guard (fun L=>match Lr L o.args with
   |some xs=>fO F pu o.act xs g fun x g'=>ih (Gd L o.dst x) g' Q
   |none=>False) (fun L=>ih (Gd L o.dst (.v .unit)) g Q)
noncomputable def wpOps (F:A4) (pu:Nat→Bool) (l:List An):Fm→Ab→(Fm→Ab→Prop)→Prop:=
 @List.rec An (fun _=>Fm→Ab→(Fm→Ab→Prop)→Prop) (fun L g Q=>Q L g) (fun o _ ih=>TW F pu o ih) l
theorem wpOps_cons (o:An) (l:List An) (L:Fm) (g:Ab) (Q:Fm→Ab→Prop):wpOps F pu (o::l) L g Q=Q9 L o.guard (fun L=>match Lr L o.args with
   |some xs=>fO F pu o.act xs g fun x g'=>wpOps F pu l (Gd L o.dst x) g' Q
   |none=>False) (fun L=>wpOps F pu l (Gd L o.dst (.v .unit)) g Q):=rfl
abbrev FRL (Z:ZM) (p:Ren) (L:Fm) (fr1:Fr):Prop:=FR Z p (frL L) fr1
theorem FRL.fit {Z:ZM} {p:Ren} {L L1:Fm} {fr1:Fr} (h:FRL Z p L fr1) (hf:Fit L1 (frL L)):FRL Z p L1 fr1:=by
 intro k v e
 obtain⟨x,h1,rfl⟩:=Kc L1 k v e
 exact h k _ (hf k x h1)
theorem FRL.sub {Z:ZM} {p:Ren} {L L1:Fm} {fr1:Fr} (h:FRL Z p L fr1) (s:Sub L1 L):FRL Z p L1 fr1:=fun k v e=>h k v (JR s k v e)
theorem FRL.put {Z:ZM} {p:Ren} {L:Fm} {fr1:Fr} (h:FRL Z p L fr1) {x:FE} {u:AV} (hv:AR Z p x.pa u) (d:Option Key):FRL Z p (Gd L d x) (Bp fr1 d u):=by
 have:=FR.put h hv d
 rwa [←Un] at this
theorem Xt {L:Fm} {gd:Option (Key×Bool)} {T U:Fm→Prop} (h:Q9 L gd T U) {Z:ZM} {p:Ren} {fr1:Fr} (hf:FRL Z p L fr1) :
  ∃L1,FRL Z p L1 fr1∧(∀k v,(frL L1).get k=some v→(frL L).get k=some v)∧((Cu (frL L1) gd=some true∧T L1)∨(Cu (frL L1) gd=some false∧U L1)):=by
 obtain⟨L1,h1,h2⟩:=sE h (C9 L)
 refine⟨L1,FRL.fit hf h1,fun k v e=>?_,?_⟩
 ·obtain⟨x,h3,rfl⟩:=Kc L1 k v e
  exact h1 k x h3
 ·rcases h2 with⟨h2,h3⟩|⟨h2,h3⟩
  ·exact .inl ⟨h2 _ (C9 L1),h3⟩
  ·exact .inr ⟨h2 _ (C9 L1),h3⟩
theorem Kd:∀(l:List An) {L:Fm} {g:Ab} {Q:Fm→Ab→Prop},wpOps F pu l L g Q→∀{s:Sta},Good s→s.g=g→∀{fr1:Fr},FRL s.Z s.p L fr1 →
  ∃N fr1' h' Z' p' g' L',Cl (Bo F noO (exec F noO N)) l fr1 s.h=some (fr1',h')∧Good ⟨Z',p',g',h'⟩∧Ba s.g.next.toNat s.h.next.toNat s ⟨Z',p',g',h'⟩∧FRL Z' p' L' fr1'∧Q L' g'
 |[],L,g,Q,h,s,hs,hg,fr1,hf=>⟨0,fr1,s.h,s.Z,s.p,s.g,L,rfl,hs,Ba.refl _ _ _,hf,by rw[hg];exact h⟩
 |o::l,L,g,Q,h,s,hs,hg,fr1,hf=>by
  rw[wpOps_cons] at h
  obtain⟨L1,hf1,_,⟨hw,h⟩|⟨hw,h⟩⟩:=Xt h hf
  all_goals have hw:=Df hf1 hw
  ·split at h
   ·next xs hxs=>
    obtain⟨us,h1,h2⟩:=Hl hf1 (Q8 (C9 L1) hxs)
    obtain⟨N,u,h',Z',p',x,g',h3,h4,h5,h6,h7⟩:=nY h hs hg h2
    obtain⟨M,fr2,h2',Z2,p2,g2,L2,h8,h9,h10,h11,h12⟩:=Kd l h7 h4 rfl (FRL.put (hf1.mono h5.zle h5.ple) h6 o.dst)
    refine⟨max N M,fr2,h2',Z2,p2,g2,L2,?_,h9,h5.trans hs.toCg h10 h5.nx.1 h5.nx.2,h11,h12⟩
    have:o.run (Bo F noO (exec F noO N)) fr1 s.h=some (Bp fr1 o.dst u,h'):=by simp only[An.run,hw,h1,h3]
    simp only[Cl,Hj (Kx (Nat.le_max_left N M)) this]
    exact Uf (Kx (Nat.le_max_right N M)) l h8
   ·exact h.elim
  ·obtain⟨M,fr2,h2',Z2,p2,g2,L2,h8,h9⟩:=Kd l h hs hg (FRL.put (x:=.v .unit) hf1 Gx o.dst)
   refine⟨M,fr2,h2',Z2,p2,g2,L2,?_,h9⟩
   simp only[Cl,An.run,hw]
   exact h8
def WW:Bl→VOp
 |.op o=>o
 |_=>.bad
def P5:List Key→(List Key→Prop)→Prop
 |[],K=>K []
 |k::l,K=>P5 l fun l=>K (k::l)
def Hm:Dd→(Dd→Prop)→Prop
 |[],K=>K []
 |(g,ws)::l,K=>P5 ws fun ws=>Hm l fun l=>K ((g,ws)::l)
theorem Xu:∀{l:List Key} {K:List Key→Prop},P5 l K→K l
 |[],_,h=>h
 |k::l,K,h=>Xu (l:=l) (K:=fun l=>K (k::l)) h
theorem Gy:∀{l:Dd} {K:Dd→Prop},Hm l K→K l
 |[],_,h=>h
 |(g,ws)::l,K,h=>Gy (l:=l) (K:=fun l=>K ((g,ws)::l)) (Xu (K:=fun ws=>Hm l fun l=>K ((g,ws)::l)) h)
def jQ (h h0:Ab):Key→Nat→Bool
 |_,0=>true
 |k,n+1=>(match h.get k with
  |some x=>!x.frz||(match h0.get k with
   |some y=>!y.frz
   |none=>false)
  |none=>true)&&jQ h h0 k.succ n
def sF (h:Ab) (lo:Key) (n:Nat):Dd→Bool
 |[]=>Om h lo n
 |(h0,_)::_=>jQ h h0 lo n
theorem Xv {g g0:Ab}:∀{n:Nat} {k:Key},jQ g g0 k n=true→∀j:Key,k.toNat≤j.toNat→j.toNat<k.toNat+n→∀x,g.get j=some x→x.frz=false∨∃y,g0.get j=some y∧y.frz=false
 |0,k,_,j,h1,h2,x,hx=>by omega
 |n+1,k,h,j,h1,h2,x,hx=>by
  simp only[jQ,Bool.and_eq_true] at h
  by_cases e:k.toNat=j.toNat
  ·have:k=j:=by rw[←Key.Ff k,e,Key.Ff]
   subst this
   have h0:=h.1
   rw[hx] at h0
   simp only[Bool.or_eq_true,Bool.not_eq_true'] at h0
   rcases h0 with h0|h0
   ·exact .inl h0
   ·split at h0
    ·next y hy=>exact .inr ⟨y,hy,by simpa using h0⟩
    ·cases h0
  ·exact Xv h.2 j (by rw[Key.toNat_succ];omega) (by rw[Key.toNat_succ];omega) x hx
theorem JS {o:VOp} {args:List PA} (h:rdF o args=true):rdP o args=none:=by
 unfold rdF at h
 split at h<;>first|rfl|cases h
def sG (F:A4) (pu:Nat→Bool) (lo hi:Key) (n:Nat) (d:DOp) (ih:Key→Dd→Fm→Ab→(Fm→Ab→Prop)→Prop) (r:Key) (Ai:Dd) (L:Fm) (g:Ab) (Q:Fm→Ab→Prop):Prop:=
 Q9 L d.o.guard (fun L=>match Lr L d.o.args with
   |some xs=>match d.o.act.kind with
    |.effect=>fO F pu d.o.act xs g fun x g'=>Hm (wrote d.o.dst (Ai++[(g,[])])) fun Ai=>ih r Ai (Gd L d.o.dst x) g' Q
    |.alloc=>match opP (WW d.o.act) (xs.map FE.pa) { g with next:=r } with
     |some (v,g')=>Hm (wrote d.o.dst Ai) fun Ai=>ih r.succ Ai (Gd L d.o.dst (.v v)) { g' with next:=g.next } Q
     |none=>False
    |.quiet=>match d.o.act with
     |.op o=>vL o xs g fun x g'=>match n,Ai with
       |0,[]=>ih r [] (Gd L d.o.dst x) g Q
       |_,_=>match Ds lo hi (rdP o (xs.map FE.pa))&&(!rdF o (xs.map FE.pa)||sF g lo n (Ai.drop d.chk))&&Ku d.o.args (rdP o (xs.map FE.pa)) (rdF o (xs.map FE.pa)) g (Ai.drop d.chk) with
        |true=>Hm (Js d.o.dst d.o.args (rdP o (xs.map FE.pa)) g Ai) fun Ai=>ih r Ai (Gd L d.o.dst x) g Q
        |false=>False
     |_=>False
   |none=>False) (fun L=>match d.o.act.kind with
   |.effect=>Hm (wrote d.o.dst (Ai++[(g,[])])) fun Ai=>ih r Ai (Gd L d.o.dst (.v .unit)) g Q
   |.alloc=>False
   |.quiet=>ih r Ai (Gd L d.o.dst (.v .unit)) g Q)
noncomputable def N6 (F:A4) (pu:Nat→Bool) (lo hi:Key) (n:Nat) (l:List DOp):Key→Dd→Fm→Ab→(Fm→Ab→Prop)→Prop:=
 @List.rec DOp (fun _=>Key→Dd→Fm→Ab→(Fm→Ab→Prop)→Prop) (fun _ _ L g Q=>Q L g) (fun d _ ih=>sG F pu lo hi n d ih) l
theorem jS (lo hi:Key) (n:Nat) (d:DOp) (l:List DOp) (r:Key) (Ai:Dd) (L:Fm) (g:Ab) (Q:Fm→Ab→Prop):N6 F pu lo hi n (d::l) r Ai L g Q=sG F pu lo hi n d (N6 F pu lo hi n l) r Ai L g Q:=rfl
def jU (F:A4) (lo lov hiv:Key) (l:List DOp) (rv:Key) (b:List Ac) (fr1:Fr) (s:Sta) (Q:Fm→Ab→Prop):Prop:=
 ∃N fr1' h' Z' p' g' L',Bf (Bo F noO (exec F noO N)) lov hiv l rv b fr1 s.h=some (fr1',h')∧Good ⟨Z',p',g',h'⟩∧Ba lo.toNat lov.toNat s ⟨Z',p',g',h'⟩∧FRL Z' p' L' fr1'∧Q L' g'
theorem fP {lo hi lov hiv:Key} {n:Nat} (hn:lo.toNat+n=hi.toNat) {l:List DOp} {d:DOp} {r rv:Key} {s:Sta} {a:Dd} {b:List Ac} {L:Fm} {fr1:Fr} {Q:Fm→Ab→Prop} (hd:eB lo hi lov hiv r rv s) (hr:r.toNat+Az (d::l)≤hi.toNat)
  (hf:FRL s.Z s.p L fr1) (hab:Aa (Cx lo.toNat lov.toNat s (frL L) fr1) a b)
  {N:Nat} {u:AV} {h2:Ac} {Z2:ZM} {p2:Ren} {x:FE} {g2:Ab} (h3:d.o.run (Bo F noO (exec F noO N)) fr1 s.h=some (Bp fr1 d.o.dst u,h2)) (hk:d.o.act.kind=.effect) (h4:Good ⟨Z2,p2,g2,h2⟩)
  (h5:Ba s.g.next.toNat s.h.next.toNat s ⟨Z2,p2,g2,h2⟩) (h6:AR Z2 p2 x.pa u)
  (IH:eB lo hi lov hiv r rv ⟨Z2,p2,g2,h2⟩→r.toNat+Az l≤hi.toNat→FRL Z2 p2 (Gd L d.o.dst x) (Bp fr1 d.o.dst u)→Aa (Cx lo.toNat lov.toNat ⟨Z2,p2,g2,h2⟩ (frL (Gd L d.o.dst x)) (Bp fr1 d.o.dst u)) (wrote d.o.dst (a++[(s.g,[])])) (b++[s.h]) →
   jU F lo lov hiv l rv (b++[s.h]) (Bp fr1 d.o.dst u) ⟨Z2,p2,g2,h2⟩ Q):jU F lo lov hiv (d::l) rv b fr1 s Q:=by
 have hlh:lo.toNat≤hi.toNat:=by omega
 have hnx:=hd.nxv
 have hnx0:hi.toNat≤s.g.next.toNat:=by
  rcases hd.nx with h|h
  ·rw[h];exact Rl
  ·exact h
 have hlv:lov.toNat≤hiv.toNat:=by have:=hd.len;omega
 have hd2:eB lo hi lov hiv r rv ⟨Z2,p2,g2,h2⟩:=by
  refine⟨h4,.inr (Nat.le_trans hnx0 h5.nx.1),Nat.le_trans hnx h5.nx.2,fun k b hkb=>?_,fun b hb1 hb2 hb3=>?_,fun k hk1 hk2=>?_,fun b hb1 hb2=>?_,hd.step,hd.len,hd.ge⟩
  ·rcases h5.I7 k b hkb with h|h
   ·exact hd.same k b h
   ·constructor
    ·intro h';omega
    ·intro h';omega
  ·have:=h5.frame b (by omega)
   by_cases hex:∃k,s.p k=some b
   ·obtain⟨k,hkb⟩:=hex;exact⟨k,h5.ple k b hkb⟩
   ·exfalso
    have hfr:=this fun k hkb=>hex ⟨k,hkb⟩
    simp only at hb3 hfr
    rw[hfr] at hb3
    exact hex (hd.made b hb1 hb2 hb3)
  ·cases hkb:p2 k with
   |none=>exact hkb
   |some b=>
    rcases h5.I7 k b hkb with h|h
    ·rw[hd.nD k hk1 hk2] at h;cases h
    ·omega
  ·obtain⟨h7,h8⟩:=hd.fE b hb1 hb2
   refine⟨fun k hkb=>?_,?_⟩
   ·rcases h5.I7 k b hkb with h|h
    ·exact h7 k h
    ·omega
   ·cases hz:Z2 b with
    |none=>exact hz
    |some c=>
     rcases h5.Fg b c hz with h|⟨k,h⟩|h
     ·exact absurd h8 h
     ·exact absurd h (h7 k)
     ·omega
 have hext:Ba lo.toNat lov.toNat s ⟨Z2,p2,g2,h2⟩:=(Ba.refl lo.toNat lov.toNat s).trans hd.D0.toCg h5 (by omega) (by omega)
 have hsn:Aa (Cx lo.toNat lov.toNat s (frL L) fr1) (a++[(s.g,[])]) (b++[s.h]):=A0 hab (.cons ⟨s.Z,s.p,hd.D0.toCg,Ba.refl _ _ _,fun k v _ e=>hf k v e⟩ .nil)
 have hsn2:Aa (Cx lo.toNat lov.toNat ⟨Z2,p2,g2,h2⟩ (frL (Gd L d.o.dst x)) (Bp fr1 d.o.dst u)) (wrote d.o.dst (a++[(s.g,[])])) (b++[s.h]):=
  N2 (fun Z p g h hp he=>he.trans hp hext (Rl) (Rl)) (fun k hk=>by rw[Un,J7,if_neg hk]) (fun k hk=>by rw[Hk,if_neg hk]) hsn
 rw[D9] at hr
 obtain⟨N',fr3,h7,Z3,p3,g3,L3,h8,h9,h10,h11,h12⟩:=IH hd2 (by omega) (FRL.put (hf.mono h5.zle h5.ple) h6 d.o.dst) hsn2
 refine⟨max N N',fr3,h7,Z3,p3,g3,L3,?_,h9,hext.trans hd.D0.toCg h10 (Rl) (Rl),h11,h12⟩
 simp only[Bf,hk,Hj (Kx (Nat.le_max_left N N')) h3]
 exact Gb (Kx (Nat.le_max_right N N')) lov hiv l h8
theorem Hn {lo hi lov hiv:Key} {n:Nat} (hn:lo.toNat+n=hi.toNat):∀(l:List DOp) {r rv:Key} {s:Sta} {a:Dd} {b:List Ac} {L:Fm} {fr1:Fr} {Q:Fm→Ab→Prop},eB lo hi lov hiv r rv s→r.toNat+Az l≤hi.toNat →
  FRL s.Z s.p L fr1→Aa (Cx lo.toNat lov.toNat s (frL L) fr1) a b→N6 F pu lo hi n l r a L s.g Q→jU F lo lov hiv l rv b fr1 s Q
 |[],r,rv,s,a,b,L,fr1,Q,hd,_,hf,_,e=>⟨0,fr1,s.h,s.Z,s.p,s.g,L,rfl,hd.D0,Ba.refl _ _ _,hf,e⟩
 |d::l,r,rv,s,a,b,L0,fr1,Q,hd,hr,hf0,hab0,e=>by
  have hlh:lo.toNat≤hi.toNat:=by omega
  rw[jS] at e
  unfold sG at e
  obtain⟨L,hf,hle,hh⟩:=Xt e hf0
  have hab:Aa (Cx lo.toNat lov.toNat s (frL L) fr1) a b:=by
   refine Ak hab0 fun x y=>?_
   rintro⟨Z,p,h3,h4,h5⟩
   exact⟨Z,p,h3,h4,fun k v hk e=>h5 k v hk (hle k v e)⟩
  clear e hab0 hf0
  rcases hh with⟨hw,e⟩|⟨hw,e⟩
  ·split at e
   ·next xs hxs=>
    have hfe:=Q8 (C9 L) hxs
    obtain⟨us,h1,h2⟩:=Hl hf hfe
    split at e
    ·next hk=>
     obtain⟨N,u,h',Z',p',x,g',h3,h4,h5,h6,h7⟩:=nY e hd.D0 rfl h2
     exact fP hn hd hr hf hab (N:=N) (by simp only[An.run,Df hf hw,h1,h3]) hk h4 h5 h6 fun a1 a2 a3 a4=>Hn hn l a1 a2 a3 a4 (Gy h7)
    ·next hk=>
     split at e
     ·next v g' hop=>
      rw[D9,hk] at hr
      simp only[if_true] at hr
      have ho:Kt (fun _ _ _=>none) d.o (frL L) { s.g with next:=r }=some (Kl (frL L) d.o.dst v,g'):=by
       cases hact:d.o.act with
       |call f=>rw[hact] at hk;simp[Bl.kind] at hk
       |Ge=>rw[hact] at hk;simp[Bl.kind] at hk
       |op p=>
        rw[hact] at hop
        have hop:opP p (xs.map FE.pa) { s.g with next:=r }=some (v,g'):=hop
        simp only[Kt,hw,hfe,hact,lI,hop]
      obtain⟨v',u,h2',p2,h3,hv',h4,h5,h6⟩:=bK (F:=F) hd (by omega) hk hf ho
      have hvv:v'=v∨d.o.dst=none:=by
       cases hdst:d.o.dst with
       |none=>exact .inr rfl
       |some k=>
        rw[hdst] at hv'
        have:=congrArg (fun t=>Tr.get t k) hv'
        simp only[Kl,Tr.Iz,Sj] at this
        exact .inl this.symm
      have hfr':FRL s.Z p2 (Gd L d.o.dst (.v v)) (Bp fr1 d.o.dst u):=by
       rcases hvv with rfl|hnone
       ·exact FRL.put (x:=.v v') (hf.mono h5.zle h5.ple) h6 d.o.dst
       ·rw[hnone];exact hf.mono h5.zle h5.ple
      have hsn2:Aa (Cx lo.toNat lov.toNat ⟨s.Z,p2,{ g' with next:=s.g.next },{ h2' with next:=s.h.next }⟩ (frL (Gd L d.o.dst (.v v))) (Bp fr1 d.o.dst u)) (wrote d.o.dst a) b:=
       N2 (fun Z p g h hp he=>he.trans hp h5 (Rl) (Rl)) (fun k hk=>by rw[Un,J7,if_neg hk]) (fun k hk=>by rw[Hk,if_neg hk]) hab
      obtain⟨N',fr3,h7,Z3,p3,g3,L3,h8,h9,h10,h11,h12⟩:=Hn hn l (s:=⟨s.Z,p2,{ g' with next:=s.g.next },{ h2' with next:=s.h.next }⟩) h4 (by rw[Key.toNat_succ];omega) hfr' hsn2 (Gy e)
      refine⟨N',fr3,h7,Z3,p3,g3,L3,?_,h9,h5.trans hd.D0.toCg h10 (Rl) (Rl),h11,h12⟩
      simp only[Bf,hk,h3]
      exact h8
     ·exact e.elim
    ·next hk=>
     rw[D9,hk] at hr
     simp only[reduceCtorEq,if_false,Nat.zero_add] at hr
     split at e
     ·next o hact=>
      have hko:o.kind=.quiet:=by rw[hact] at hk;exact hk
      obtain⟨x,g2,hop,e⟩:=nX e
      have e:(Ds lo hi (rdP o (xs.map FE.pa))&&(!rdF o (xs.map FE.pa)||sF s.g lo n (a.drop d.chk))&&Ku d.o.args (rdP o (xs.map FE.pa)) (rdF o (xs.map FE.pa)) s.g (a.drop d.chk))=true ∧
        N6 F pu lo hi n l r (Js d.o.dst d.o.args (rdP o (xs.map FE.pa)) s.g a) (Gd L d.o.dst x) s.g Q:=by
       split at e
       ·refine⟨?_,e⟩
        have h0:lo.toNat=hi.toNat:=by omega
        simp only[List.drop_nil,Ku,sF,Om,Bool.or_true,Bool.and_true]
        cases rdP o (xs.map FE.pa) with
        |none=>rfl
        |some q=>simp only[Ds,Bool.or_eq_true,Nat.blt_eq,Nat.ble_eq];omega
       ·split at e
        ·next hc=>exact⟨hc,Gy e⟩
        ·exact e.elim
      obtain⟨hcond,e⟩:=e
      ·have hcond:=hcond
       obtain⟨rfl,u,h3,h4⟩:=Q0 hko s hd.D0.toCg _ us _ g2 h2 hop
       simp only[Bool.and_eq_true,Bool.or_eq_true,Bool.not_eq_true'] at hcond
       obtain⟨⟨hc1,hc2⟩,hc3⟩:=hcond
       have hsame:=bJ hd.D0.toCg hko hfe h1 h2 hop h3 (B3 d.chk hab) hc3
       have hout:outside lov hiv o us=true:=by
        unfold outside
        split
        ·next bk hbk=>
         simp only[Bool.or_eq_true,Nat.blt_eq,Nat.ble_eq]
         rcases rE hd.D0.toCg hko h2 hop hbk with⟨k,rr,h5,h6⟩|⟨h5,h6⟩
         ·rw[h5] at hc1
          simp only[Ds,Bool.or_eq_true,Nat.blt_eq,Nat.ble_eq] at hc1
          have:=hd.same k bk h6
          have hx:¬(lo.toNat≤k.toNat∧k.toNat<hi.toNat):=by omega
          have hy:¬(lov.toNat≤bk.toNat∧bk.toNat<hiv.toNat):=fun h=>hx (this.2 h)
          omega
         ·rw[h5] at hc2
          simp only[Bool.true_eq_false,false_or] at hc2
          by_cases hin:lov.toNat≤bk.toNat∧bk.toNat<hiv.toNat
          ·exfalso
           cases hz:s.Z bk with
           |none=>exact h6 hz
           |some c=>
            obtain⟨y,hy,_⟩:=hd.D0.z bk c hz
            obtain⟨k,hkb⟩:=hd.made bk hin.1 hin.2 (by rw[hy];simp)
            have hkr:=(hd.same k bk hkb).2 hin
            cases hg:s.g.get k with
            |none=>rw[hd.D0.dead k bk hkb hg] at hy;cases hy
            |some x=>
             have hthaw:x.frz=false→False:=fun hfz=>by
              obtain⟨b2,y2,e1,_,e3⟩:=hd.D0.blk k x hg
              rw[hkb] at e1;cases e1
              rw[e3.N1 hfz] at hz;cases hz
             cases hdr:a.drop d.chk with
             |nil=>
              rw[hdr] at hc2
              exact hthaw (Sy hc2 k hkr.1 (by omega) x hg)
             |cons q rest=>
              have hdrop:=B3 d.chk hab
              rw[hdr] at hc2 hc3 hdrop
              obtain⟨g0,ws⟩:=q
              generalize b.drop d.chk=bd at hdrop
              cases hdrop with
              |cons hs1 _=>
              obtain⟨Z,p,s3,s4,s5⟩:=hs1
              simp only[Ku,Bool.and_eq_true,Bool.or_eq_true,Bool.not_eq_true'] at hc3
              obtain⟨⟨q1,q2⟩,_⟩:=hc3
              have hkept:=P1 s5 (q1.resolve_left (by rw[h5];simp)) hfe h1
              have qs:=(Sx s3 hd.D0.toCg s4 hko h2 hop h3 q2 fun _=>hkept).1
              rcases rE s3 hko hkept qs hbk with⟨k',rr,t1,_⟩|⟨_,t2⟩
              ·rw[JS h5] at t1;cases t1
              ·rcases Xv hc2 k hkr.1 (by omega) x hg with t3|⟨y0,t3,t4⟩
               ·exact hthaw t3
               ·obtain⟨b0,y1,u1,_,u3⟩:=s3.blk k y0 t3
                have:=s4.ple k b0 u1
                rw[hkb] at this;cases this
                exact t2 (u3.N1 t4)
          ·omega
        ·rfl
       have hw2:=Sz hd.D0.toCg hko hfe h1 h2 hop h3 d.o.dst hab
       rw[←Un] at hw2
       obtain⟨N',fr3,h7,Z3,p3,g3,L3,h8,h9⟩:=Hn hn l hd hr (FRL.put hf h4 d.o.dst) hw2 e
       refine⟨N',fr3,h7,Z3,p3,g3,L3,?_,h9⟩
       have hk2:(Bl.op o).kind=Kind.quiet:=hko
       simp only[Bf,Df hf hw,hact,hk2,h1,h3,hout,hsame,Bool.and_true,if_true]
       exact h8
     ·exact e.elim
   ·exact e.elim
  ·split at e
   ·next hk=>exact fP hn hd hr hf hab (N:=0) (x:=.v .unit) (by simp only[An.run,Df hf hw]) hk hd.D0 (Ba.refl _ _ _) Gx fun a1 a2 a3 a4=>Hn hn l a1 a2 a3 a4 (Gy e)
   ·exact e.elim
   ·next hk=>
    rw[D9,hk] at hr
    simp only[reduceCtorEq,if_false,Nat.zero_add] at hr
    have hsn2:Aa (Cx lo.toNat lov.toNat s (frL (Gd L d.o.dst (.v .unit))) (Bp fr1 d.o.dst .unit)) a b:=by
     refine Ak hab fun x y=>?_
     rintro⟨Z,p,h3,h4,h5⟩
     refine⟨Z,p,h3,h4,fun k w hkw ew=>?_⟩
     rw[Un,J7] at ew
     rw[Hk]
     split at ew
     ·next hd=>cases ew;rw[if_pos hd];exact⟨_,rfl,Gx⟩
     ·next hd=>rw[if_neg hd];exact h5 k w hkw ew
    obtain⟨N',fr3,h7,Z3,p3,g3,L3,h8,h9⟩:=Hn hn l hd hr (FRL.put (x:=.v .unit) hf Gx d.o.dst) hsn2 e
    refine⟨N',fr3,h7,Z3,p3,g3,L3,?_,h9⟩
    simp only[Bf,hk,Df hf hw]
    exact h8
end Go.Pv
end
section
noncomputable section
namespace Go.Pv
open Go.Vm
open Go.Vm.Key (kn)
variable {F:A4} {pu:Nat→Bool}
def rnK (ρ:Key→Option Key):List (Key×Nat)→Option (List (Key×Nat))
 |[]=>some []
 |(k,o)::l=>match ρ k with
  |some j=>match rnK ρ l with
   |some r=>some ((j,o)::r)
   |none=>none
  |none=>none
def rnV (ρ:Key→Option Key):PV→Option PV
 |.ptr b o=>match ρ b with
  |some j=>some (.ptr j o)
  |none=>none
 |.slice b o len es cap=>match ρ b with
  |some j=>some (.slice j o len es cap)
  |none=>none
 |.map b=>match ρ b with
  |some j=>some (.map j)
  |none=>none
 |.func f fs cs=>match rnK ρ fs with
  |some a=>match rnK ρ cs with
   |some b=>some (.func f a b)
   |none=>none
  |none=>none
 |v=>some v
def RnC (ρ:Key→Option Key):PC→PC→Prop
 |.s x,.s y=>rnV ρ x=some y
 |.agg l,.agg m=>Aa (fun x y=>rnV ρ x=some y) l m
 |_,_=>False
def RnA (ρ:Key→Option Key):PA→PA→Prop
 |.v x,.v y=>RnC ρ x y
 |.tup l,.tup m=>Aa (RnC ρ) l m
 |_,_=>False
def RnB (ρ:Key→Option Key):C5→C5→Prop
 |.cells l,.cells m=>Aa (fun x y=>rnV ρ x=some y) l m
 |.map l,.map m=>Aa (fun x y=>RnC ρ x.1 y.1∧RnC ρ x.2 y.2) l m
 |.iter m n st,.iter m' n' st'=>ρ m=some m'∧n=n'∧st=st'
 |_,_=>False
def DP (ρ:Key→Option Key) (K:Ab) (l m:List Key):Prop:=Aa (fun a a'=>ρ a=some a') l m∨∃a a' z,a∈l∧ρ a=some a'∧K.get a'=some z∧z.frz=true
theorem DP.rel {ρ:Key→Option Key} {s:Sta} (hs:Cg s) {q:Ren} (hq:∀a a',ρ a=some a'→q a=s.p a') {l m n:List Key} (h:DP ρ s.g l m) (e:Eg s.Z s.p m n):Eg s.Z q l n:=by
 rcases h with h|⟨a,a',z,h1,h2,h3,h4⟩
 ·exact e.ren hq h
 ·obtain⟨b,y,e1,e2,e3⟩:=hs.blk a' z h3
  exact .inr ⟨a,b,h1,by rw[hq _ _ h2];exact e1,by rw[e3.frz h4];simp⟩
structure G8 (ρ:Key→Option Key) (K:Ab) (x y:Ap):Prop where
 body:RnB ρ x.body y.body
 own:x.own=true→y.own=true∧DP ρ K x.anc y.anc
 frz:x.frz=y.frz
section
variable {ρ:Key→Option Key} {Z:ZM} {p:Ren}
def Ren.via (ρ:Key→Option Key) (p:Ren):Ren:=fun k=>(ρ k).bind p
theorem Ls {k j:Key} (h:ρ k=some j):Ren.via ρ p k=p j:=by simp[Ren.via,h]
theorem jV:∀{l m:List (Key×Nat)},rnK ρ l=some m→∀{n:List (Key×Nat)},Aa (aR p) m n→Aa (aR (Ren.via ρ p)) l n
 |[],m,h,n,e=>by cases h;cases e;exact .nil
 |(k,o)::l,m,h,n,e=>by
  simp only[rnK] at h
  split at h
  ·next j hj=>
   split at h
   ·next r hr=>
    cases h
    cases e with
    |cons e1 e2=>exact .cons ⟨by rw[Ls hj];exact e1.1,e1.2⟩ (jV hr e2)
   ·cases h
  ·cases h
theorem jZ {x y:PV} (h:rnV ρ x=some y) {u:SV} (e:B4 Z p y u):B4 Z (Ren.via ρ p) x u:=by
 cases x with
 |ptr b o=>
  simp only[rnV] at h
  split at h
  ·next j hj=>cases h;obtain⟨b',e1,e2⟩:=e;exact⟨b',by rw[Ls hj];exact e1,e2⟩
  ·cases h
 |slice b o len es cap=>
  simp only[rnV] at h
  split at h
  ·next j hj=>cases h;obtain⟨b',e1,e2⟩:=e;exact⟨b',by rw[Ls hj];exact e1,e2⟩
  ·cases h
 |map b=>
  simp only[rnV] at h
  split at h
  ·next j hj=>cases h;obtain⟨b',e1,e2⟩:=e;exact⟨b',by rw[Ls hj];exact e1,e2⟩
  ·cases h
 |func f fs cs=>
  simp only[rnV] at h
  split at h
  ·next a ha=>
   split at h
   ·next b hb=>cases h;obtain⟨fs',cs',e1,e2,e3⟩:=e;exact⟨fs',cs',e1,jV ha e2,jV hb e3⟩
   ·cases h
  ·cases h
 |_=>simp only[rnV,Sj] at h;subst h;exact e
theorem DQ {l m:List PV} (h:Aa (fun x y=>rnV ρ x=some y) l m) {us:List SV} (e:Aa (B4 Z p) m us):Aa (B4 Z (Ren.via ρ p)) l us:=by
 induction h generalizing us with
 |nil=>cases e;exact .nil
 |cons h1 _ ih=>cases e with
  |cons e1 e2=>exact .cons (jZ h1 e1) (ih e2)
theorem Y9 {x y:PC} (h:RnC ρ x y) {u:CV} (e:CR Z p y u):CR Z (Ren.via ρ p) x u:=by
 cases x<;>cases y<;>cases u<;>simp only[RnC,CR] at h e ⊢
 ·exact jZ h e
 ·exact DQ h e
theorem kA {x y:PA} (h:RnA ρ x y) {u:AV} (e:AR Z p y u):AR Z (Ren.via ρ p) x u:=by
 cases x<;>cases y<;>cases u<;>simp only[RnA,AR] at h e ⊢
 ·exact Y9 h e
 ·next l m us=>
  induction h generalizing us with
  |nil=>cases e;exact .nil
  |cons h1 _ ih=>cases e with
   |cons e1 e2=>exact .cons (Y9 h1 e1) (ih _ e2)
theorem vM {x y:C5} (h:RnB ρ x y) {u:Body} (e:BR Z p y u):BR Z (Ren.via ρ p) x u:=by
 cases x<;>cases y<;>cases u<;>simp only[RnB,BR] at h e ⊢
 ·obtain⟨e1,e2⟩:=e
  refine⟨by rw[e1,Ah h],fun i x hx=>?_⟩
  obtain⟨y,hy,hxy⟩:=Ax h i hx
  obtain⟨s,h1,h2⟩:=e2 i y hy
  exact⟨s,h1,jZ hxy h2⟩
 ·next l m us=>
  induction h generalizing us with
  |nil=>cases e;exact .nil
  |cons h1 _ ih=>cases e with
   |cons e1 e2=>exact .cons ⟨Y9 h1.1 e1.1,Y9 h1.2 e1.2⟩ (ih _ e2)
 ·obtain⟨e1,e2,e3⟩:=e
  obtain⟨h1,h2,h3⟩:=h
  exact⟨by rw[Ls h1];exact e1,h2.trans e2,h3.trans e3⟩
end
structure Trim (lo:Nat) (ρ:Key→Option Key) (L1:Fm) (g1:Ab) (L2:Fm) (g2:Ab):Prop where
 low:∀k:Key,k.toNat<lo→ρ k=some k∧g2.get k=g1.get k
 inj:∀k k' j,ρ k=some j→ρ k'=some j→k=k'
 dom:∀k j,ρ k=some j→j.toNat<g1.next.toNat→k.toNat<g2.next.toNat∧(lo≤k.toNat→lo≤j.toNat)
 blk:∀k x,g2.get k=some x→∃j y,ρ k=some j∧g1.get j=some y∧G8 ρ g1 x y
 dead:∀k j,ρ k=some j→g2.get k=none→g1.get j=none
 fr:∀k x,look L2 k=some x→∃y,look L1 k=some y∧RnA ρ x.pa y.pa
 next:lo≤g2.next.toNat
theorem Trim.D0 {lo:Nat} {ρ:Key→Option Key} {L1 L2:Fm} {g1 g2:Ab} (t:Trim lo ρ L1 g1 L2 g2) {Z:ZM} {p:Ren} {h:Ac} (hs:Good ⟨Z,p,g1,h⟩):Good ⟨Z,Ren.via ρ p,g2,h⟩ where
 inj k k' b e e':=by
  simp only[Ren.via,Option.bind_eq_some_iff] at e e'
  obtain⟨j,h1,h2⟩:=e
  obtain⟨j',h3,h4⟩:=e'
  have:=hs.inj j j' b h2 h4
  subst this
  exact t.inj k k' j h1 h3
 blk k x hx:=by
  obtain⟨j,y,h1,h2,h3⟩:=t.blk k x hx
  obtain⟨b,z,h4,h5,h6⟩:=hs.blk j y h2
  refine⟨b,z,by simp only;rw[Ls h1];exact h4,h5,⟨vM h3.body h6.body,fun ho=>?_,fun hf=>h6.N1 (by rw[←h3.frz];exact hf),fun hf=>h6.frz (by rw[←h3.frz];exact hf)⟩⟩
  obtain⟨h7,h8⟩:=h3.own ho
  obtain⟨h9,h10⟩:=h6.own h7
  exact⟨h9,h8.rel hs.toCg (fun _ _ e=>Ls e) h10⟩
 z:=hs.z
 dead k b hp hg:=by
  simp only[Ren.via,Option.bind_eq_some_iff] at hp
  obtain⟨j,h1,h2⟩:=hp
  exact hs.dead j b h2 (t.dead k j h1 hg)
 pk k b hp:=by
  simp only[Ren.via,Option.bind_eq_some_iff] at hp
  obtain⟨j,h1,h2⟩:=hp
  have:=hs.pk j b h2
  exact⟨(t.dom k j h1 this.1).1,this.2⟩
 zr:=hs.zr
 top:=hs.top
theorem Trim.ext {lo:Nat} {ρ:Key→Option Key} {L1 L2:Fm} {g1 g2:Ab} (t:Trim lo ρ L1 g1 L2 g2) {Z:ZM} {p:Ren} {h:Ac} (hs:Good ⟨Z,p,g1,h⟩) {s0:Sta} (h0:Good s0) (hlo:s0.g.next.toNat≤lo)
  (e:Ba s0.g.next.toNat s0.h.next.toNat s0 ⟨Z,p,g1,h⟩):Ba s0.g.next.toNat s0.h.next.toNat s0 ⟨Z,Ren.via ρ p,g2,h⟩ where
 nx:=⟨Nat.le_trans hlo t.next,e.nx.2⟩
 zle:=e.zle
 ple k b hk:=by
  have h1:=(h0.pk k b hk).1
  simp only
  rw[Ls (t.low k (by omega)).1]
  exact e.ple k b hk
 I7 k b hk:=by
  simp only[Ren.via,Option.bind_eq_some_iff] at hk
  obtain⟨j,h1,h2⟩:=hk
  by_cases hkl:k.toNat<lo
  ·rw[(t.low k hkl).1] at h1;cases h1
   exact e.I7 k b h2
  ·have h3:=(t.dom k j h1 (hs.pk j b h2).1).2 (by omega)
   rcases e.I7 j b h2 with h4|h4
   ·have:=(h0.pk j b h4).1;omega
   ·exact .inr ⟨by omega,h4.2⟩
 Fg:=e.Fg
 frame:=e.frame
 gone k b hp hg:=by
  have h1:=(h0.pk k b hp).1
  simp only
  rw[(t.low k (by omega)).2]
  exact e.gone k b hp hg
 log k x x' hx hx':=by
  obtain⟨b,_,h1,_⟩:=h0.blk k x hx
  have h2:=(h0.pk k b h1).1
  simp only at hx'
  rw[(t.low k (by omega)).2] at hx'
  exact e.log k x x' hx hx'
theorem Trim.frl {lo:Nat} {ρ:Key→Option Key} {L1 L2:Fm} {g1 g2:Ab} (t:Trim lo ρ L1 g1 L2 g2) {Z:ZM} {p:Ren} {fr1:Fr} (h:FRL Z p L1 fr1):FRL Z (Ren.via ρ p) L2 fr1:=by
 intro k v e
 obtain⟨x,h1,rfl⟩:=Kc L2 k v e
 obtain⟨y,h2,h3⟩:=t.fr k x h1
 obtain⟨u,h4,h5⟩:=h k y.pa (C9 L1 k y h2)
 exact⟨u,h4,kA h3 h5⟩
def XW (F:A4) (lo:Nat) (cd:Ay) (L:Fm) (g:Ab) (Q:B2→Fm→Ab→Prop):Prop:=∀s0 s:Sta,Good s0→s0.g.next.toNat≤lo→Good s→Ba s0.g.next.toNat s0.h.next.toNat s0 s→s.g=g→∀fr1:Fr,FRL s.Z s.p L fr1 →
 ∃N x fr1' h' Z' p' g' L',exec F noO N cd fr1 s.h=some (x,fr1',h')∧Good ⟨Z',p',g',h'⟩∧Ba s0.g.next.toNat s0.h.next.toNat s0 ⟨Z',p',g',h'⟩∧FRL Z' p' L' fr1'∧Q x L' g'
abbrev WPT:=Fm→Ab→(B2→Fm→Ab→Prop)→Prop
def NA (a b:WPT):WPT:=fun L g Q=>a L g fun x L g=>match x with
    |.normal=>b L g Q
    |.exit i=>Q (.exit i) L g
    |.ret=>Q .ret L g
def sH (c:VX) (a b:WPT):WPT:=fun L g Q=>match Xr L c with
    |some (.b true)=>a L g Q
    |some (.b false)=>b L g Q
    |some (.v (.v (.s (.bool c))))=>(c=true→a L g Q)∧(c=false→b L g Q)
    |_=>False
def vN (id:Nat) (c:WPT):WPT:=fun L g Q=>c L g fun x L g=>match x with
    |.exit j=>match Nat.beq j id with
     |true=>Q .normal L g
     |false=>Q (.exit j) L g
    |.normal=>Q .normal L g
    |.ret=>Q .ret L g
def kC (F:A4) (pu:Nat→Bool) (ds:List DOp):WPT:=fun L g Q=>match Az ds with
 |0=>N6 F pu g.next g.next 0 ds g.next [] L g (Q .normal)
 |n+1=>N6 F pu g.next (Bt g.next (n+1)) (n+1) ds g.next [] L { g with next:=Bt g.next (n+1) } (Q .normal)
theorem yO (ds:List DOp) (L:Fm) (g:Ab) (Q:B2→Fm→Ab→Prop):kC F pu ds L g Q=N6 F pu g.next (Bt g.next (Az ds)) (Az ds) ds g.next [] L { g with next:=Bt g.next (Az ds) } (Q .normal):=by
 unfold kC
 split
 ·next h=>rw[h];rfl
 ·next n h=>rw[h]
noncomputable def wp (F:A4) (pu:Nat→Bool) (lo:Nat) (c:Ay):WPT:=
 @Ay.rec (fun _=>WPT) (fun L g Q=>Q .normal L g) (fun ops L g Q=>wpOps F pu ops L g (Q .normal)) (fun ds=>kC F pu ds) (fun _ _ a b=>NA a b) (fun c _ _ a b=>sH c a b) (fun id _ c=>vN id c)
  (fun c _ L g Q=>XW F lo (.loop c) L g Q) (fun id L g Q=>Q (.exit id) L g) (fun L g Q=>Q .ret L g) c
theorem DR (lo:Nat) (ds:List DOp):wp F pu lo (.drawn ds)=kC F pu ds:=rfl
theorem wp_seq (lo:Nat) (a b:Ay):wp F pu lo (.seq a b)=NA (wp F pu lo a) (wp F pu lo b):=rfl
theorem wp_cond (lo:Nat) (c:VX) (a b:Ay):wp F pu lo (.cond c a b)=sH c (wp F pu lo a) (wp F pu lo b):=rfl
theorem wp_block (lo:Nat) (id:Nat) (c:Ay):wp F pu lo (.block id c)=vN id (wp F pu lo c):=rfl
theorem P6 {lo:Nat}:∀(cd:Ay) {L:Fm} {g:Ab} {Q:B2→Fm→Ab→Prop},wp F pu lo cd L g Q→XW F lo cd L g Q
 |.skip,L,g,Q,h,s0,s,h0,hlo,hs,he,hg,fr1,hf=>⟨1,.normal,fr1,s.h,s.Z,s.p,s.g,L,rfl,hs,he,hf,by rw[hg];exact h⟩
 |.ret,L,g,Q,h,s0,s,h0,hlo,hs,he,hg,fr1,hf=>⟨1,.ret,fr1,s.h,s.Z,s.p,s.g,L,rfl,hs,he,hf,by rw[hg];exact h⟩
 |.exit id,L,g,Q,h,s0,s,h0,hlo,hs,he,hg,fr1,hf=>⟨1,.exit id,fr1,s.h,s.Z,s.p,s.g,L,rfl,hs,he,hf,by rw[hg];exact h⟩
 |.loop c,L,g,Q,h,s0,s,h0,hlo,hs,he,hg,fr1,hf=>h s0 s h0 hlo hs he hg fr1 hf
 |.region ops,L,g,Q,h,s0,s,h0,hlo,hs,he,hg,fr1,hf=>by
  obtain⟨N,fr1',h',Z',p',g',L',h1,h2,h3,h4,h5⟩:=Kd ops h hs hg hf
  exact⟨N+1,.normal,fr1',h',Z',p',g',L',by rw[Wb,h1],h2,he.trans h0.toCg h3 he.nx.1 he.nx.2,h4,h5⟩
 |.drawn ds,L,g,Q,h,s0,s,h0,hlo,hs,he,hg,fr1,hf=>by
  subst hg
  rw[DR,yO] at h
  have e1:=Db (Az ds) s.g.next
  have e2:=Db (Az ds) s.h.next
  have hd:eB s.g.next (Bt s.g.next (Az ds)) s.h.next (Bt s.h.next (Az ds)) s.g.next s.h.next ⟨s.Z,s.p,{ s.g with next:=Bt s.g.next (Az ds) },{ s.h with next:=Bt s.h.next (Az ds) }⟩:=by
   refine⟨⟨Cg.S0 (g:=s.g) (h:=s.h) rfl rfl hs.toCg,⟨fun k b h=>?_,fun b c h=>?_,fun b h=>?_⟩⟩,.inl rfl,Rl,fun k b h=>?_,fun b h1 _ h3=>?_,fun k h1 _=>?_,fun b h1 _=>⟨fun k h=>?_,?_⟩,by omega,by omega,Rl⟩
   ·have:=hs.pk k b h
    simp only;omega
   ·have:=hs.zr b c h
    simp only;omega
   ·simp only at h
    exact hs.top b (by omega)
   ·have:=hs.pk k b h
    omega
   ·exact absurd (hs.top b h1) h3
   ·cases h:s.p k with
    |none=>rfl
    |some b=>have:=hs.pk k b h;omega
   ·have:=hs.pk k b h;omega
   ·cases h:s.Z b with
    |none=>rfl
    |some c=>have:=hs.zr b c h;omega
  obtain⟨N,fr1',h',Z',p',g',L',h1,h2,h3,h4,h5⟩:=Hn e1.symm ds (r:=s.g.next) (rv:=s.h.next) hd (by omega) hf .nil h
  have h6:Ba s.g.next.toNat s.h.next.toNat s ⟨Z',p',g',h'⟩:=by
   refine Ba.iP (g:={ s.g with next:=Bt s.g.next (Az ds) }) (h:={ s.h with next:=Bt s.h.next (Az ds) }) (g':=s.g) (h':=s.h) rfl rfl ⟨?_,?_⟩ h3
   ·have:=h3.nx.1;simp only at this ⊢;omega
   ·have:=h3.nx.2;simp only at this ⊢;omega
  exact⟨N+1,.normal,fr1',h',Z',p',g',L',by rw[bH,h1],h2,he.trans h0.toCg h6 he.nx.1 he.nx.2,h4,h5⟩
 |.seq a b,L,g,Q,h,s0,s,h0,hlo,hs,he,hg,fr1,hf=>by
  obtain⟨N,x,fr2,h',Z',p',g',L',h1,h2,h3,h4,h5⟩:=P6 a h s0 s h0 hlo hs he hg fr1 hf
  cases x with
  |normal=>
   obtain⟨M,y,fr3,h'',Z2,p2,g2,L2,h6,h7⟩:=P6 b h5 s0 ⟨Z',p',g',h'⟩ h0 hlo h2 h3 rfl fr2 h4
   refine⟨max N M+1,y,fr3,h'',Z2,p2,g2,L2,?_,h7⟩
   rw[Sw,Gw (Nat.le_max_left N M) _ _ _ _ h1]
   exact Gw (Nat.le_max_right N M) _ _ _ _ h6
  |exit i=>exact⟨N+1,_,fr2,h',Z',p',g',L',by rw[Sw,h1],h2,h3,h4,h5⟩
  |ret=>exact⟨N+1,_,fr2,h',Z',p',g',L',by rw[Sw,h1],h2,h3,h4,h5⟩
 |.cond c a b,L,g,Q,h,s0,s,h0,hlo,hs,he,hg,fr1,hf=>by
  have ev:∀{y:FE} {d:Bool},Xr L c=some y→y.pa=.v (.s (.bool d))→c.eval fr1=some (.v (.s (.bool d))):=fun{y d} hy hp=>by
   obtain⟨u,h1,hu⟩:=Pz hf (cC (C9 L) hy)
   rw[hp] at hu
   obtain⟨z,rfl,hz⟩:=hu.s
   cases Aj.Ub hz
   exact h1
  have hT:∀{y},Xr L c=some y→y.pa=.v (.s (.bool true))→wp F pu lo a L g Q→∃N x fr1' h' Z' p' g' L',exec F noO N (.cond c a b) fr1 s.h=some (x,fr1',h')∧Good ⟨Z',p',g',h'⟩∧Ba s0.g.next.toNat s0.h.next.toNat s0 ⟨Z',p',g',h'⟩∧FRL Z' p' L' fr1'∧Q x L' g':=fun{y} hy hp h=>by
   obtain⟨N,x,fr2,h',Z',p',g',L',h1,h2⟩:=P6 a h s0 s h0 hlo hs he hg fr1 hf
   exact⟨N+1,x,fr2,h',Z',p',g',L',by rw[Ug,ev hy hp];exact h1,h2⟩
  have hF:∀{y},Xr L c=some y→y.pa=.v (.s (.bool false))→wp F pu lo b L g Q→∃N x fr1' h' Z' p' g' L',exec F noO N (.cond c a b) fr1 s.h=some (x,fr1',h')∧Good ⟨Z',p',g',h'⟩∧Ba s0.g.next.toNat s0.h.next.toNat s0 ⟨Z',p',g',h'⟩∧FRL Z' p' L' fr1'∧Q x L' g':=fun{y} hy hp h=>by
   obtain⟨N,x,fr2,h',Z',p',g',L',h1,h2⟩:=P6 b h s0 s h0 hlo hs he hg fr1 hf
   exact⟨N+1,x,fr2,h',Z',p',g',L',by rw[Ug,ev hy hp];exact h1,h2⟩
  rw[wp_cond] at h
  unfold sH at h
  split at h
  ·next hy=>exact hT hy rfl h
  ·next hy=>exact hF hy rfl h
  ·next c' hy=>
   cases c' with
   |true=>exact hT hy rfl (h.1 rfl)
   |false=>exact hF hy rfl (h.2 rfl)
  ·exact h.elim
 |.block id c,L,g,Q,h,s0,s,h0,hlo,hs,he,hg,fr1,hf=>by
  obtain⟨N,x,fr2,h',Z',p',g',L',h1,h2,h3,h4,h5⟩:=P6 c h s0 s h0 hlo hs he hg fr1 hf
  cases x with
  |normal=>exact⟨N+1,_,fr2,h',Z',p',g',L',by rw[Gv,h1],h2,h3,h4,h5⟩
  |ret=>exact⟨N+1,_,fr2,h',Z',p',g',L',by rw[Gv,h1],h2,h3,h4,h5⟩
  |exit j=>
   simp only at h5
   split at h5
   ·next hj=>cases Nat.eq_of_beq_eq_true hj;exact⟨N+1,_,fr2,h',Z',p',g',L',by rw[Gv,h1];simp,h2,h3,h4,h5⟩
   ·next hj=>exact⟨N+1,.exit j,fr2,h',Z',p',g',L',by rw[Gv,h1];simp only;rw[if_neg (fun e=>by subst e;rw[Nat.beq_refl] at hj;cases hj)],h2,h3,h4,h5⟩
theorem XW.trim {lo:Nat} {cd:Ay} {L1 L2:Fm} {g1 g2:Ab} {Q:B2→Fm→Ab→Prop} {ρ:Key→Option Key} (t:Trim lo ρ L1 g1 L2 g2) (h:XW F lo cd L2 g2 Q):XW F lo cd L1 g1 Q:=by
 intro s0 s h0 hlo hs he hg fr1 hf
 subst hg
 exact h s0 ⟨s.Z,Ren.via ρ s.p,g2,s.h⟩ h0 hlo (t.D0 hs) (t.ext hs h0 hlo he) rfl fr1 (t.frl hf)
theorem XW.mono {lo:Nat} {cd:Ay} {L:Fm} {g:Ab} {Q Q':B2→Fm→Ab→Prop} (h:XW F lo cd L g Q) (hq:∀x L g,Q x L g→Q' x L g):XW F lo cd L g Q':=by
 intro s0 s h0 hlo hs he hg fr1 hf
 obtain⟨N,x,fr1',h',Z',p',g',L',h1,h2,h3,h4,h5⟩:=h s0 s h0 hlo hs he hg fr1 hf
 exact⟨N,x,fr1',h',Z',p',g',L',h1,h2,h3,h4,hq _ _ _ h5⟩
theorem XW.loop {lo:Nat} {cd:Ay} {Q:B2→Fm→Ab→Prop} {σ:Type} (m:σ→Nat) (I:σ→Fm) (H:σ→Ab→Prop) (hr:∀s g,H s g→XW F lo cd (I s) g fun x L1 g1=>match x with
   |.normal=>∃s' ρ g2,m s'<m s∧Trim lo ρ L1 g1 (I s') g2∧H s' g2
   |.exit i=>Q (.exit i) L1 g1
   |.ret=>Q .ret L1 g1):∀(n:Nat) (s:σ) (g:Ab),m s<n→H s g→XW F lo (.loop cd) (I s) g Q
 |0,s,g,h,_=>absurd h (Nat.not_lt_zero _)
 |n+1,s,g,hn,hH=>by
  intro s0 s1 h0 hlo hs he hg fr1 hf
  obtain⟨N,x,fr2,h',Z',p',g',L',h1,h2,h3,h4,h5⟩:=hr s g hH s0 s1 h0 hlo hs he hg fr1 hf
  cases x with
  |normal=>
   obtain⟨s',ρ,g2,hm,t,hH'⟩:=h5
   obtain⟨M,y,fr3,h'',Z2,p2,g3,L2,h6,h7⟩:=XW.trim t (XW.loop m I H hr n s' g2 (by omega) hH') s0 ⟨Z',p',g',h'⟩ h0 hlo h2 h3 rfl fr2 h4
   refine⟨max N M+1,y,fr3,h'',Z2,p2,g3,L2,?_,h7⟩
   rw[Ie,Gw (Nat.le_max_left N M) _ _ _ _ h1]
   exact Gw (Nat.le_max_right N M) _ _ _ _ h6
  |exit i=>exact⟨N+1,_,fr2,h',Z',p',g',L',by rw[Ie,h1],h2,h3,h4,h5⟩
  |ret=>exact⟨N+1,_,fr2,h',Z',p',g',L',by rw[Ie,h1],h2,h3,h4,h5⟩
theorem XW.Ad {lo:Nat} {cd:Ay} {L:Fm} {g:Ab} {Q:B2→Fm→Ab→Prop} (h:wp F pu lo cd L g fun x L1 g1=>match x with
   |.normal=>XW F lo (.loop cd) L1 g1 Q
   |.exit i=>Q (.exit i) L1 g1
   |.ret=>Q .ret L1 g1):XW F lo (.loop cd) L g Q:=by
 intro s0 s h0 hlo hs he hg fr1 hf
 obtain⟨N,x,fr2,h',Z',p',g',L',h1,h2,h3,h4,h5⟩:=P6 cd h s0 s h0 hlo hs he hg fr1 hf
 cases x with
 |normal=>
  obtain⟨M,y,fr3,h'',Z2,p2,g3,L2,h6,h7⟩:=h5 s0 ⟨Z',p',g',h'⟩ h0 hlo h2 h3 rfl fr2 h4
  refine⟨max N M+1,y,fr3,h'',Z2,p2,g3,L2,?_,h7⟩
  rw[Ie,Gw (Nat.le_max_left N M) _ _ _ _ h1]
  exact Gw (Nat.le_max_right N M) _ _ _ _ h6
 |exit i=>exact⟨N+1,_,fr2,h',Z',p',g',L',by rw[Ie,h1],h2,h3,h4,h5⟩
 |ret=>exact⟨N+1,_,fr2,h',Z',p',g',L',by rw[Ie,h1],h2,h3,h4,h5⟩
theorem XW.A7 {lo:Nat} {cd:Ay} {L:Fm} {g:Ab} {Q:B2→Fm→Ab→Prop} {σ:Type} (m:σ→Nat) (I:σ→Fm) (H:σ→Ab→Prop) (s:σ) {ρ:Key→Option Key} {g0:Ab} (t:Trim lo ρ L g (I s) g0) (hH:H s g0)
  (hr:∀s g,H s g→wp F pu lo cd (I s) g fun x L1 g1=>match x with
   |.normal=>∃s' ρ g2,m s'<m s∧Trim lo ρ L1 g1 (I s') g2∧H s' g2
   |.exit i=>Q (.exit i) L1 g1
   |.ret=>Q .ret L1 g1):XW F lo (.loop cd) L g Q:=XW.trim t (XW.loop m I H (fun s g h=>P6 cd (hr s g h)) (m s+1) s g0 (Nat.lt_succ_self _) hH)
def cD:Nat→List PA→Fm
 |_,[]=>[]
 |n,x::l=>(kn n,.v x)::cD (n+1) l
theorem fQ:∀(xs:List PA) (n:Nat),∀k x,look (cD n xs) k=some x→(n≤k.toNat∧xs[k.toNat-n]?=some x.pa)
 |[],n,k,x,h=>by cases h
 |a::l,n,k,x,h=>by
  simp only[cD,look] at h
  split at h
  ·next hk=>cases h;rw[←Cz hk,Key.toNat_kn];simp[FE.pa]
  ·obtain⟨h1,h2⟩:=fQ l (n+1) k x h
   refine⟨by omega,?_⟩
   rw[show k.toNat-n=(k.toNat-(n+1))+1 from by omega];exact h2
theorem nZ {Z:ZM} {p:Ren} {xs:List PA} {vs:List AV} (h:Aa (AR Z p) xs vs):FRL Z p (cD 0 xs) (Tr.z.Co 0 vs):=by
 refine FRL.fit (L:=cD 0 xs) ?_ (C9 _)
 intro k v e
 obtain⟨x,h1,rfl⟩:=Kc _ k v e
 obtain⟨_,h2⟩:=fQ xs 0 k x h1
 rw[Nat.sub_zero] at h2
 refine nF h k _ ?_
 rw[←Key.Ff k,Tr.B0]
 have:=(Gi.1 h2).1
 rw[if_pos (by omega),Nat.sub_zero];exact h2
def DS (L:Fm) (g:Ab):Lj→Option PC
 |.tmp k=>match look L k with
  |some (.v (.v x))=>some x
  |some (.b c)=>some (.s (.bool c))
  |_=>none
 |.eK k=>match look L k with
  |some (.v (.v (.s (.ptr b o))))=>match fM g b o 1 with
   |some [x]=>some (.s x)
   |_=>none
  |_=>none
 |.eL k n=>match look L k with
  |some (.v (.v (.s (.ptr b o))))=>match fM g b o n with
   |some l=>some (.agg l)
   |none=>none
  |_=>none
def Sd (L:Fm) (g:Ab):List Lj→Option (List PC)
 |[]=>some []
 |r::l=>match DS L g r with
  |some x=>match Sd L g l with
   |some xs=>some (x::xs)
   |none=>none
  |none=>none
theorem JT {L:Fm} {g:Ab} {r:Lj} {x:PC} (e:DS L g r=some x):Gs (frL L) g r=some x:=by
 have h:=C9 L
 cases r with
 |tmp k=>
  simp only[DS] at e
  split at e
  ·next y hy=>cases e;simp only[Gs,h k _ hy,FE.pa]
  ·next c hc=>cases e;simp only[Gs,h k _ hc,FE.pa]
  ·cases e
 |eK k=>
  simp only[DS] at e
  split at e
  ·next b o hb=>
   split at e
   ·next y hy=>cases e;simp only[Gs,h k _ hb,FE.pa,Um hy]
   ·cases e
  ·cases e
 |eL k n=>
  simp only[DS] at e
  split at e
  ·next b o hb=>
   split at e
   ·next y hy=>cases e;simp only[Gs,h k _ hb,FE.pa,Um hy]
   ·cases e
  ·cases e
theorem cE {L:Fm} {g:Ab}:∀{l:List Lj} {xs:List PC},Sd L g l=some xs→E0 (frL L) g l=some xs
 |[],xs,e=>by cases e;rfl
 |r::l,xs,e=>by
  simp only[Sd] at e
  split at e
  ·next x hx=>
   split at e
   ·next ys hys=>cases e;simp only[E0,JT hx,cE hys]
   ·cases e
  ·cases e
def NB (F:A4) (pu:Nat→Bool) (vf:El) (args:List PA) (g:Ab) (R:PA→Ab→Prop):Prop:=
 wp F pu g.next.toNat vf.body (cD 0 args) g fun x L g'=>match x with
  |.exit _=>False
  |.normal=>match Sd L g' vf.results with
   |some l=>R (Cv l) g'
   |none=>False
  |.ret=>match Sd L g' vf.results with
   |some l=>R (Cv l) g'
   |none=>False
theorem XC.of {f:Nat} {vf:El} (hF:F f=some vf) {args:List PA} {g:Ab} {R:PA→Ab→Prop} (h:NB F pu vf args g R):XC F f args g R:=by
 intro s hs hg vs hv
 subst hg
 obtain⟨N,x,fr1',h',Z',p',g',L',h1,h2,h3,h4,h5⟩:=P6 vf.body h s s hs (Rl) hs (Ba.refl _ _ _) rfl _ (nZ hv)
 have fin:(match Sd L' g' vf.results with
   |some l=>R (Cv l) g'
   |none=>False)→x≠.exit 0→(∀i,x≠.exit i)→∃N u h' Z' p' r g',Bo F noO (exec F noO N) f vs s.h=some (u,h')∧Good ⟨Z',p',g',h'⟩∧Ba s.g.next.toNat s.h.next.toNat s ⟨Z',p',g',h'⟩∧AR Z' p' r u∧R r g':=by
  intro hr _ hx
  split at hr
  ·next l hl=>
   obtain⟨us,h6,h7⟩:=Ky h2.toCg h4 (cE hl)
   refine⟨N,Fh us,h',Z',p',_,g',?_,h2,h3,N3 h7,hr⟩
   simp only[Bo,hF,h1]
   cases x with
   |exit i=>exact absurd rfl (hx i)
   |normal=>simp only[h6]
   |ret=>simp only[h6]
  ·exact hr.elim
 cases x with
 |exit _=>exact h5.elim
 |normal=>exact fin h5 (by simp) (by simp)
 |ret=>exact fin h5 (by simp) (by simp)
theorem Am {f:Nat} {vf:El} (hF:F f=some vf) {xs:List PA} {r:PA} (h:NB F pu vf xs .empty fun r' g'=>∃g2,E8 deep r' g'=some (r,g2)):Ag F f xs r:=by
 intro s hs vs hv
 obtain⟨N,u,h',Z',p',r',g',h1,h2,h3,h4,g2,hfz⟩:=XC.of hF h ⟨s.Z,fun _=>none,.empty,s.h⟩ (N4 hs) rfl vs (Ak hv fun _ _ h=>h.a)
 obtain⟨Z2,h5,h6⟩:=Ue h2.toCg h4 hfz
 have hg:Good ⟨Z2,p',g2,h'⟩:=⟨h5.sim,h5.room h2.toRoom⟩
 have he:=Ba.trans (lo:=0) (lov:=s.h.next.toNat) (N4 hs).toCg h3 (h5.ext 0 h'.next.toNat) (Rl) h3.nx.2
 obtain⟨h7,h8⟩:=bM hs hg he
 exact⟨N,u,h',Z2,h1,h7,h8,h6⟩
end Go.Pv
end
section
noncomputable section
namespace Go.Pv
open Go.Vm
open Go.Vm.Key (kn)
variable {F:A4} {pu:Nat→Bool}
theorem DT:∀l:List (Key×Nat),rnK some l=some l
 |[]=>rfl
 |(k,o)::l=>by simp only[rnK,DT l]
theorem sI (v:PV):rnV some v=some v:=by
 cases v<;>simp only[rnV,DT]
theorem Gk {α:Type} {R:α→α→Prop} (h:∀x,R x x):∀l:List α,Aa R l l
 |[]=>.nil
 |x::l=>.cons (h x) (Gk h l)
theorem kE (v:PC):RnC some v v:=by
 cases v with
 |s x=>exact sI x
 |agg l=>exact Gk sI l
theorem PW (v:PA):RnA some v v:=by
 cases v with
 |v x=>exact kE x
 |tup l=>exact Gk kE l
theorem PY (v:C5):RnB some v v:=by
 cases v with
 |cells l=>exact Gk sI l
 |map l=>exact Gk (fun x=>⟨kE x.1,kE x.2⟩) l
 |iter m n st=>exact⟨rfl,rfl,rfl⟩
theorem DU (g:Ab) (x:Ap):G8 some g x x:=⟨PY _,fun h=>⟨h,.inl (Gk (R:=fun a a':Key=>some a=some a') (fun _=>rfl) _)⟩,rfl⟩
theorem Trim.same {lo:Nat} {L1 L2:Fm} {g:Ab} (hlo:lo≤g.next.toNat) (s:Sub L2 L1):Trim lo some L1 g L2 g where
 low k _:=⟨rfl,rfl⟩
 inj k k' j h h':=by cases h;cases h';rfl
 dom k j h hj:=by cases h;exact⟨hj,fun h=>h⟩
 blk k x hx:=⟨k,x,rfl,hx,DU _ x⟩
 dead k j h hg:=by cases h;exact hg
 fr k x hx:=by
  obtain⟨y,h1,h2⟩:=s k x hx
  exact⟨y,h1,by rw[h2];exact PW _⟩
 next:=hlo
theorem XW.fR {lo:Nat} {cd:Ay} {L:Fm} {g:Ab} {Q:B2→Fm→Ab→Prop} {σ:Type} (m:σ→Nat) (I:σ→Fm) (P:σ→Prop) (s:σ) (hlo:lo≤g.next.toNat) (hs:Sub (I s) L) (hP:P s)
  (hr:∀s,P s→wp F pu lo cd (I s) g fun x L1 g1=>match x with
   |.normal=>∃s',m s'<m s∧Sub (I s') L1∧g1=g∧P s'
   |.exit i=>Q (.exit i) L1 g1
   |.ret=>Q .ret L1 g1):XW F lo (.loop cd) L g Q:=by
 refine XW.trim (Trim.same hlo hs) (XW.loop m I (fun s g1=>g1=g∧P s) ?_ (m s+1) s g (Nat.lt_succ_self _) ⟨rfl,hP⟩)
 rintro s g1 ⟨rfl,hp⟩
 refine(P6 cd (hr s hp)).mono ?_
 intro x L1 g2 h
 cases x with
 |normal=>
  obtain⟨s',h1,h2,rfl,h4⟩:=h
  exact⟨s',some,g2,h1,Trim.same hlo h2,rfl,h4⟩
 |exit i=>exact h
 |ret=>exact h
abbrev iA (n:Int):PA:=.v (.s (.int .i64 n))
abbrev bA (b:Bool):PA:=.v (.s (.bool b))
abbrev PA.lst (es:Nat) (l:List (List PV)):PA:=.v (.s (.lst es l none))
theorem cF {c b:Bool} {g:Ab} (h:c=b):∃g2,E8 deep (bA c) g=some (bA b,g2):=by subst h;exact⟨_,rfl⟩
theorem NC {es:Nat} {l m:List (List PV)} {g:Ab} (h:l=m):∃g2,E8 deep (PA.lst es l) g=some (PA.lst es m,g2):=by subst h;exact⟨_,rfl⟩
theorem Ao {p:Prop} [Decidable p] (h:decide p=true):p:=of_decide_eq_true h
theorem A1 {p:Prop} [Decidable p] (h:decide p=false):¬p:=of_decide_eq_false h
theorem Dc {es b:Nat} {zero:List SV} {z:List PV} {x:Int} {n:Nat} {g:Ab} (hz:Jo zero=some z) (h:x=n) (hn:n≤1000000) (hb:b≤1000000):opP (.Ko es b zero) [iA x,iA x] g=some (.v (.s (.slice g.next 0 n es (some n))),g.new (.cells (Oj z n))):=by
 subst h
 have h1:b*n≤1000000*1000000:=Nat.mul_le_mul hb hn
 simp only[opP,O9,hz,Int.toNat_natCast]
 rw[if_pos ⟨Int.natCast_nonneg n,Int.le_refl _,by omega,by rw[Nat.ble_eq];omega⟩]
end Go.Pv
end
section
noncomputable section
namespace Go.Pv
open Go.Vm
open Go.Vm.Key (kn)
def Fn:A4:=fun f=>C.tab.get (kn f)
def sJ:List Nat→Nat→Bool
 |[],_=>false
 |a::l,n=>match Nat.beq a n with
  |true=>true
  |false=>sJ l n
def pu:Nat→Bool:=sJ [213,159,12,17,52,53,162,161,49,39,51,116,123,226,15,117,118,83,158,222,223,179,30,54,59,160,187,86,87,88,89,90,27,6,10,105,106,109,48,25,128,43,33,20,21,69,124,125,70,74,91,28,14,18,5,189,188,22,186]
end Go.Pv
end
section
noncomputable section
namespace Go.Pv
open Go.Vm Go.Vm.C
open Go.Vm.Key (kn)
set_option maxRecDepth 10000
def Eu (a b:Int):Int:=if a<b then -1 else if b<a then 1 else 0
theorem cG (a b:Int):Ag Fn 213 [iA a,iA b] (iA (Eu a b)):=by
 refine Am (pu:=pu) (vf:=C.f213) rfl ?_
 refine⟨fun h=>?_,fun h=>⟨fun h2=>?_,fun h2=>?_⟩⟩
 ·have h:=of_decide_eq_true h
  rw[Eu,if_pos h];exact⟨_,rfl⟩
 ·have h:=of_decide_eq_false h
  have h2:=of_decide_eq_true h2
  rw[Eu,if_neg h,if_pos h2];exact⟨_,rfl⟩
 ·have h:=of_decide_eq_false h
  have h2:=of_decide_eq_false h2
  rw[Eu,if_neg h,if_neg h2];exact⟨_,rfl⟩
def iL (l:List Int):List (List PV):=l.map fun n=>[.int .i64 n]
theorem kF {l:List Int} {i:Nat} {n:Int} (h:l[i]?=some n):(iL l)[i]?=some [.int .i64 n]:=by simp[iL,h]
def B1:List Int→List Int→Int
 |a::l,b::m=>if a=b then B1 l m else Eu a b
 |[],[]=>0
 |[],_::_=>-1
 |_::_,[]=>1
theorem Xw (a b:List Int) (ha:a.length<1000000) (hb:b.length<1000000):Ag Fn 159 [PA.lst 1 (iL a),PA.lst 1 (iL b)] (iA (B1 a b)):=by
 refine Am (pu:=pu) (vf:=C.f159) rfl ?_
 refine XW.fR (pu:=pu) (σ:=Nat) (fun i=>a.length-i) (fun i=>[(k0,.v (PA.lst 1 (iL a))),(k1,.v (PA.lst 1 (iL b))),(k5,.v (iA i))]) (fun i=>i≤a.length∧i≤b.length∧B1 (a.drop i) (b.drop i)=B1 a b) 0 (Zl)
  (.cons rfl rfl (.cons rfl rfl (.cons rfl rfl (.nil _)))) ⟨Zl,Zl,rfl⟩ ?_
 rintro i ⟨h1,h2,h3⟩
 have da:∀j,¬j<a.length→j≤a.length→a.drop j=[]:=fun j h1 h2=>List.drop_eq_nil_of_le (by omega)
 have db:∀j,¬j<b.length→j≤b.length→b.drop j=[]:=fun j h1 h2=>List.drop_eq_nil_of_le (by omega)
 have fin:(¬i<a.length∨¬i<b.length)→Eu a.length b.length=B1 a b:=by
  intro h
  rw[←h3]
  by_cases ha:i<a.length
  ·have hb:¬i<b.length:=by omega
   rw[db i hb h2,List.drop_eq_getElem_cons ha,B1,Eu,if_neg (by omega),if_pos (by omega)]
  ·rw[da i ha h1]
   by_cases hb:i<b.length
   ·rw[List.drop_eq_getElem_cons hb,B1,Eu,if_pos (by omega)]
   ·rw[db i hb h2,B1,Eu,if_neg (by omega),if_neg (by omega)]
 have la:(iL a).length=a.length:=Lm ..
 have lb:(iL b).length=b.length:=Lm ..
 refine⟨fun h=>⟨fun h'=>?_,fun h'=>?_⟩,fun h=>?_⟩
 ·have h:=of_decide_eq_true h
  have h':=of_decide_eq_true h'
  have hi:i<a.length:=by omega
  have hj:i<b.length:=by omega
  have ga:=kF (Gg hi)
  have gb:=kF (Gg hj)
  refine⟨_,⟨Int.natCast_nonneg i,ga⟩,_,⟨Int.natCast_nonneg i,gb⟩,fun he=>?_,fun he=>?_⟩
  ·refine⟨_,⟨Int.natCast_nonneg i,ga⟩,_,⟨Int.natCast_nonneg i,gb⟩,_,_,_,rfl,cG _ _,?_⟩
   have:a[i]≠b[i]:=by simpa using he
   rw[←h3,List.drop_eq_getElem_cons hi,List.drop_eq_getElem_cons hj,B1,if_neg this]
   exact⟨_,rfl⟩
  ·have:a[i]=b[i]:=by simpa using he
   refine⟨by omega,i+1,by omega,.cons rfl rfl (.cons rfl rfl (.cons rfl rfl (.nil _))),rfl,hi,hj,?_⟩
   rw[←h3,List.drop_eq_getElem_cons hi,List.drop_eq_getElem_cons hj,B1,if_pos this]
 ·have h':=of_decide_eq_false h'
  refine⟨_,_,_,rfl,cG _ _,?_⟩
  rw[←fin (.inr (by omega)),←la,←lb];exact⟨_,rfl⟩
 ·have h:=of_decide_eq_false h
  refine⟨_,_,_,rfl,cG _ _,?_⟩
  rw[←fin (.inl (by omega)),←la,←lb];exact⟨_,rfl⟩
inductive Aq:Nat→PV→Prop
 |nil:Aq 0 .Af
 |emp:Aq 0 (.lst 1 [] none)
 |one (n:Nat) (h0:0<n) (h:n<4294967296):Aq n (.lst 1 [[.int .u32 n]] none)
theorem D7 {n:Nat} {v:PV} (h:Aq n v):Ag Fn 49 [.v (.s v)] (bA true):=by
 refine Am (pu:=pu) (vf:=C.f49) rfl ?_
 cases h with
 |nil=>exact⟨fun _=>⟨(fun h=>(by cases h)),fun _=>⟨_,rfl⟩⟩,fun h=>(by cases h)⟩
 |emp=>exact⟨fun _=>⟨(fun h=>(by cases h)),fun _=>⟨_,rfl⟩⟩,fun h=>(by cases h)⟩
 |one n h0 h=>
  refine⟨fun _=>⟨fun _=>⟨by simp,_,⟨by simp,rfl⟩,?_⟩,fun h=>(by cases h)⟩,fun h=>(by cases h)⟩
  have:((n:Int) !=0)=true:=by simp;omega
  exact cF this
theorem Eo {n:Nat} {v:PV} (h:Aq n v):Ag Fn 52 [.v (.s v)] (bA true):=by
 refine Am (pu:=pu) (vf:=C.f52) rfl ?_
 cases h with
 |nil=>exact⟨fun _=>⟨(fun h=>(by cases h)),fun _=>⟨_,rfl⟩⟩,fun h=>(by cases h)⟩
 |emp=>exact⟨fun _=>⟨(fun h=>(by cases h)),fun _=>⟨_,rfl⟩⟩,fun h=>(by cases h)⟩
 |one n h0 h=>
  refine⟨fun _=>⟨fun _=>⟨by simp,_,⟨by simp,rfl⟩,?_⟩,fun h=>(by cases h)⟩,fun h=>(by cases h)⟩
  have:((n:Int) !=0)=true:=by simp;omega
  exact cF this
abbrev uA (n:Int):PA:=.v (.s (.int .u64 n))
theorem Xx {n:Nat} {v:PV} (h:Aq n v) {i:Int} (hi:i=0) {g:Ab} {R:PA→Ab→Prop} (hR:R (uA n) g):XC Fn 111 [.v (.s v),iA i] g R:=by
 subst hi
 refine XC.of (pu:=pu) (vf:=C.f111) rfl ?_
 cases h with
 |nil=>exact⟨(fun h=>(by cases h)),fun _=>hR⟩
 |emp=>exact⟨(fun h=>(by cases h)),fun _=>hR⟩
 |one n h0 h=>
  have:IntKind.wrap .u64 (n:Int)=n:=wrap_u64 (by omega)
  rw[←this] at hR
  exact⟨fun _=>⟨_,⟨by simp,rfl⟩,hR⟩,fun h=>(by cases h)⟩
theorem ND {n:Nat} {v:PV} (h:Aq n v) {i:Int} (hi:0<i) {g:Ab} {R:PA→Ab→Prop} (hR:R (uA ((0:Nat):Int)) g):XC Fn 111 [.v (.s v),iA i] g R:=by
 refine XC.of (pu:=pu) (vf:=C.f111) rfl ?_
 cases h with
 |nil=>exact⟨(fun h=>by have:=Ao h;omega),fun _=>hR⟩
 |emp=>exact⟨(fun h=>by have:=Ao h;simp at this;omega),fun _=>hR⟩
 |one n h0 h=>exact⟨(fun h=>by have:=Ao h;simp at this;omega),fun _=>hR⟩
def uL (l:List Nat):List (List PV):=l.map fun(n:Nat)=>[.int .u32 (n:Int)]
theorem cH (l:List Nat):(uL l).length=l.length:=Lm ..
theorem DV {l:List Nat} {i n:Nat} (h:l[i]?=some n):(uL l)[i]?=some [.int .u32 n]:=by simp[uL,h]
def Ck (l:List Nat):Nat→Nat
 |0=>0
 |n+1=>if l[n]?=some 0 then Ck l n else n+1
theorem cI (l:List Nat):∀n,Ck l n≤n
 |0=>Rl
 |n+1=>by
  have:=cI l n
  simp only[Ck];split<;>omega
theorem oA {es:Nat} {l:List (List PV)} {n:Nat} {g:Ab} (h:n≤l.length):opP (.slice (.slice es) false true false) [PA.lst es l,iA n] g=some (PA.lst es (l.take n),g):=by
 simp[opP,Vl,zY,qB,Jp,bounds,bnd,Dr,Nk,Kr,h]
theorem vO (l:List Nat) (hl:l.length<1000000000):Ag Fn 51 [PA.lst 1 (uL l)] (PA.lst 1 (uL (l.take (Ck l l.length)))):=by
 refine Am (pu:=pu) (vf:=C.f51) rfl ?_
 refine XW.fR (pu:=pu) (σ:=Nat) id (fun n=>[(k0,.v (PA.lst 1 (uL l))),(k3,.v (iA n))]) (fun n=>n≤l.length∧Ck l n=Ck l l.length) l.length (Zl)
  (.cons rfl rfl (.cons rfl ?_ (.nil _))) ⟨Rl,rfl⟩ ?_
 ·show iA _=iA _
  rw[cH]
 rintro n ⟨h1,h2⟩
 have fin:(n=0∨∃m,n=m+1∧l[m]?≠some 0)→(uL l).take n=uL (l.take (Ck l l.length)):=by
  intro h
  have:Ck l n=n:=by
   rcases h with rfl|⟨m,rfl,hm⟩
   ·rfl
   ·simp only[Ck,if_neg hm]
  rw[←h2,this,uL,uL,←List.map_take]
 have sl:=oA (es:=1) (l:=uL l) (n:=n) (g:=.empty) (by rw[cH];exact h1)
 refine⟨fun h=>?_,fun h=>?_⟩
 ·have h:=Ao h
  obtain⟨m,rfl⟩:∃m,n=m+1:=⟨n-1,by omega⟩
  have hm:m<l.length:=by omega
  have gm:(uL l)[(((m+1:Nat):Int)-((1:Nat):Int)).toNat]?=some [.int .u32 (l[m]:Int)]:=by
   rw[show(((m+1:Nat):Int)-((1:Nat):Int)).toNat=m from by omega];exact DV (Gg hm)
  refine⟨by omega,_,⟨by omega,gm⟩,fun hz=>?_,fun hz=>?_⟩
  ·refine⟨by omega,m,Nat.lt_succ_self m,.cons rfl rfl (.cons rfl ?_ (.nil _)),rfl,by omega,?_⟩
   ·show iA _=iA _
    congr 3;omega
   ·have:l[m]?=some 0:=by rw[Gg hm];simpa using hz
    rw[←h2,Ck,if_pos this]
  ·refine⟨_,_,sl,NC (fin (.inr ⟨m,rfl,?_⟩))⟩
   rw[Gg hm];simpa using hz
 ·have h:=A1 h
  exact⟨_,_,sl,NC (fin (.inl (by omega)))⟩
theorem sK (l:List Nat) (hl:l.length<1024):Ag Fn 116 [PA.lst 1 (uL l)] (.tup [.s (.lst 1 (uL (l.take (Ck l l.length))) none),.s (.int .i64 ((0:Nat):Int))]):=by
 refine Am (pu:=pu) (vf:=C.f116) rfl ?_
 refine⟨_,_,_,rfl,vO l (by omega),fun h=>?_,fun h=>⟨_,rfl⟩⟩
 have:=Ao h
 have h2:=cI l l.length
 simp[cH] at this
 omega
theorem S2 (n:Nat) (h:n<4294967296):Aq n (.lst 1 (uL ([n].take (Ck [n] 1))) none):=by
 by_cases h0:n=0
 ·subst h0;exact .emp
 ·have:Ck [n] 1=1:=by simp[Ck,h0]
  rw[this];exact .one n (by omega) h
theorem Dy (n:Nat) (h:n<4294967296):Aq n (.lst 1 (uL ([n,0].take (Ck [n,0] 2))) none):=by
 have e:Ck [n,0] 2=Ck [n] 1:=by simp[Ck]
 have e2:[n,0].take (Ck [n,0] 2)=[n].take (Ck [n] 1):=by
  rw[e]
  have:=cI [n] 1
  rcases(by omega:Ck [n] 1=0∨Ck [n] 1=1) with h|h<;>rw[h]<;>rfl
 rw[e2];exact S2 n h
theorem TX {x:Int} {a:Nat} (hx:x=a):Ag Fn 116 [PA.lst 1 [[.int .u32 x]]] (.tup [.s (.lst 1 (uL ([a].take (Ck [a] 1))) none),.s (.int .i64 ((0:Nat):Int))]):=by subst hx;exact sK [a] (by simp)
theorem TY {x y:Int} {a:Nat} (hx:x=a) (hy:y=0):Ag Fn 116 [PA.lst 1 [[.int .u32 x],[.int .u32 y]]] (.tup [.s (.lst 1 (uL ([a,0].take (Ck [a,0] 2))) none),.s (.int .i64 ((0:Nat):Int))]):=by subst hx;subst hy;exact sK [a,0] (by simp)
theorem WX {v w:PV} (ha:Aq 0 v) (hb:Aq 0 w):Ag Fn 123 [.v (.s v),.v (.s w)] (.tup [.s (.lst 1 [] none),.s (.int .i64 ((0:Nat):Int))]):=by
 have l0:∀{g R},R (uA ((0:Nat):Int)) g→XC Fn 111 [.v (.s v),iA 0] g R:=Xx ha rfl
 have l1:∀{g R},R (uA ((0:Nat):Int)) g→XC Fn 111 [.v (.s w),iA 0] g R:=Xx hb rfl
 have v0:=Eo ha
 have v1:=Eo hb
 cases ha with
 |one=>omega
 |_=>cases hb with
  |one=>omega
  |_=>
   refine Am (pu:=pu) (vf:=C.f123) rfl ?_
   refine⟨_,_,_,rfl,v0,fun _=>⟨_,_,_,rfl,v1,(fun h=>(by cases h)),fun _=>?_⟩,fun h=>(by cases h)⟩
   refine XW.Ad (pu:=pu) ⟨fun _=>?_,fun h=>(by cases h)⟩
   refine l0 (l1 ⟨⟨by omega,by omega⟩,⟨by omega,by omega⟩,?_⟩)
   refine⟨by decide,_,_,rfl,by decide,by simp,?_⟩
   refine XW.Ad (pu:=pu) ⟨(fun h=>(by cases h)),fun _=>?_⟩
   exact⟨_,_,_,rfl,TX (a:=0) rfl,_,rfl⟩
theorem WY {a b:Nat} {v w:PV} (ha:Aq a v) (hb:Aq b w) (hs:a+b<4294967296) (hp:0<a+b):Ag Fn 123 [.v (.s v),.v (.s w)] (.tup [.s (.lst 1 (uL ([a+b,0].take (Ck [a+b,0] 2))) none),.s (.int .i64 ((0:Nat):Int))]):=by
 have l0:∀{g R},R (uA a) g→XC Fn 111 [.v (.s v),iA 0] g R:=Xx ha rfl
 have l1:∀{g R},R (uA b) g→XC Fn 111 [.v (.s w),iA 0] g R:=Xx hb rfl
 have m0:∀{g R},R (uA ((0:Nat):Int)) g→XC Fn 111 [.v (.s v),iA (0+1)] g R:=ND ha (by decide)
 have m1:∀{g R},R (uA ((0:Nat):Int)) g→XC Fn 111 [.v (.s w),iA (0+1)] g R:=ND hb (by decide)
 have v0:=Eo ha
 have v1:=Eo hb
 have e1:IntKind.wrap .u32 (((a:Int)+b+((0:Nat):Int)).tmod ((4294967296:Nat):Int))=((a+b:Nat):Int):=by
  rw[wrap_u32,Int.tmod_eq_emod_of_nonneg (by omega)];omega
 have e2:IntKind.wrap .u64 (((a:Int)+b+((0:Nat):Int)).tdiv ((4294967296:Nat):Int))=0:=by
  rw[Int.tdiv_eq_ediv_of_nonneg (by omega),wrap_u64 (by omega)];omega
 cases ha<;>cases hb<;>first|(exfalso;omega)|skip
 all_goals
  refine Am (pu:=pu) (vf:=C.f123) rfl ?_
  refine⟨_,_,_,rfl,v0,fun _=>⟨_,_,_,rfl,v1,(fun h=>(by cases h)),fun _=>?_⟩,fun h=>(by cases h)⟩
  refine XW.Ad (pu:=pu) ⟨fun _=>?_,fun h=>(by cases h)⟩
  refine l0 (l1 ⟨⟨by omega,by omega⟩,⟨by omega,by omega⟩,?_⟩)
  refine⟨by decide,_,_,rfl,by decide,by simp,?_⟩
  refine XW.Ad (pu:=pu) ⟨fun _=>?_,fun h=>(by cases h)⟩
  refine m0 (m1 ⟨⟨by omega,by omega⟩,?_⟩)
  refine⟨⟨by rw[e2];decide,by rw[e2];decide⟩,by decide,_,_,rfl,by decide,by simp,?_⟩
  refine XW.Ad (pu:=pu) ⟨(fun h=>(by cases h)),fun _=>?_⟩
  exact⟨_,_,_,rfl,TY e1 (by rw[e2];rfl),_,rfl⟩
theorem JU {a b:Nat} {v w:PV} (ha:Aq a v) (hb:Aq b w) (hs:a+b<4294967296):∃r,Ag Fn 123 [.v (.s v),.v (.s w)] (.tup [.s r,.s (.int .i64 ((0:Nat):Int))])∧Aq (a+b) r:=by
 by_cases hp:0<a+b
 ·exact⟨_,WY ha hb hs hp,Dy _ hs⟩
 ·obtain⟨rfl,rfl⟩:a=0∧b=0:=by omega
  exact⟨_,WX ha hb,.emp⟩
theorem WZ:Ag Fn 116 [PA.lst 1 []] (.tup [.s (.lst 1 [] none),.s (.int .i64 ((0:Nat):Int))]):=sK [] (by decide)
theorem TZ {a b:Nat} {v w:PV} (ha:Aq a v) (hb:Aq b w) (h0:a=0∨b=0):Ag Fn 226 [.v (.s v),.v (.s w)] (.tup [.s (.lst 1 [] none),.s (.int .i64 ((0:Nat):Int))]):=by
 have v0:=Eo ha
 have v1:=Eo hb
 have z:∀{x:Int},x=0→Ag Fn 116 [PA.lst 1 [[.int .u32 x]]] (.tup [.s (.lst 1 [] none),.s (.int .i64 ((0:Nat):Int))]):=fun h=>TX (a:=0) h
 cases ha with
 |one=>cases hb with
  |one=>omega
  |_=>
   refine Am (pu:=pu) (vf:=C.f226) rfl ?_
   refine⟨_,_,_,rfl,v0,fun _=>⟨_,_,_,rfl,v1,(fun h=>(by cases h)),fun _=>?_⟩,fun h=>(by cases h)⟩
   refine⟨by simp,_,_,rfl,?_⟩
   refine XW.Ad (pu:=pu) ⟨fun _=>?_,fun h=>(by cases h)⟩
   refine XW.Ad (pu:=pu) ⟨(fun h=>(by cases h)),fun _=>?_⟩
   refine⟨by simp,⟨by simp,by simp⟩,_,_,rfl,by simp,?_⟩
   refine XW.Ad (pu:=pu) ⟨(fun h=>(by cases h)),fun _=>?_⟩
   exact⟨_,_,_,rfl,z (by rw[wrap_u32];rfl),_,rfl⟩
 |_=>cases hb with
  |one=>
   refine Am (pu:=pu) (vf:=C.f226) rfl ?_
   refine⟨_,_,_,rfl,v0,fun _=>⟨_,_,_,rfl,v1,(fun h=>(by cases h)),fun _=>?_⟩,fun h=>(by cases h)⟩
   refine⟨by simp,_,_,rfl,?_⟩
   refine XW.Ad (pu:=pu) ⟨(fun h=>(by cases h)),fun _=>?_⟩
   exact⟨_,_,_,rfl,z rfl,_,rfl⟩
  |_=>
   refine Am (pu:=pu) (vf:=C.f226) rfl ?_
   refine⟨_,_,_,rfl,v0,fun _=>⟨_,_,_,rfl,v1,(fun h=>(by cases h)),fun _=>?_⟩,fun h=>(by cases h)⟩
   refine⟨by simp,_,_,rfl,?_⟩
   refine XW.Ad (pu:=pu) ⟨(fun h=>(by cases h)),fun _=>?_⟩
   exact⟨_,_,_,rfl,WZ,_,rfl⟩
theorem XA {a b:Nat} {v w:PV} (ha:Aq a v) (hb:Aq b w) (h1:0<a) (h2:0<b) (hm:a*b<4294967296):Ag Fn 226 [.v (.s v),.v (.s w)] (.tup [.s (.lst 1 (uL ([a*b,0].take (Ck [a*b,0] 2))) none),.s (.int .i64 ((0:Nat):Int))]):=by
 have l0:∀{g R},R (uA a) g→XC Fn 111 [.v (.s v),iA 0] g R:=Xx ha rfl
 have l1:∀{g R},R (uA b) g→XC Fn 111 [.v (.s w),iA 0] g R:=Xx hb rfl
 have v0:=Eo ha
 have v1:=Eo hb
 have hc:(a:Int)*b=((a*b:Nat):Int):=by simp
 have w0:IntKind.wrap .u64 (Int.ofNat 0)=0:=rfl
 cases ha<;>first|(exfalso;omega)|skip
 cases hb<;>first|(exfalso;omega)|skip
 generalize hn:a*b=n at hm hc ⊢
 have e1:IntKind.wrap .u32 (((a:Int)*b+IntKind.wrap .u64 (Int.ofNat 0)+((0:Nat):Int)).tmod ((4294967296:Nat):Int))=(n:Int):=by
  rw[w0,hc,wrap_u32,Int.tmod_eq_emod_of_nonneg (by omega)];omega
 have e2:IntKind.wrap .u64 (((a:Int)*b+IntKind.wrap .u64 (Int.ofNat 0)+((0:Nat):Int)).tdiv ((4294967296:Nat):Int))=0:=by
  rw[w0,hc,Int.tdiv_eq_ediv_of_nonneg (by omega),wrap_u64 (by omega)];omega
 refine Am (pu:=pu) (vf:=C.f226) rfl ?_
 refine⟨_,_,_,rfl,v0,fun _=>⟨_,_,_,rfl,v1,(fun h=>(by cases h)),fun _=>?_⟩,fun h=>(by cases h)⟩
 refine⟨by simp,_,_,Dc (n:=2) rfl (by simp) (by decide) (by decide),?_⟩
 refine XW.Ad (pu:=pu) ⟨fun _=>?_,fun h=>(by cases h)⟩
 refine XW.Ad (pu:=pu) ⟨fun _=>?_,fun h=>(by cases h)⟩
 refine l0 (l1 ⟨⟨by rw[hc];omega,by rw[hc];omega⟩,by simp,XC.of (pu:=pu) (vf:=C.f111) rfl ⟨fun _=>⟨⟨by simp,by simp⟩,_,_,rfl,?_⟩,fun h=>(by cases h)⟩⟩)
 refine⟨⟨by rw[w0,hc];omega,by rw[w0,hc];omega⟩,?_⟩
 refine⟨⟨by rw[w0,hc];omega,by rw[w0,hc];omega⟩,?_⟩
 refine⟨by simp,by decide,⟨by simp,by simp⟩,_,_,rfl,by decide,by simp,?_⟩
 refine XW.Ad (pu:=pu) ⟨(fun h=>(by cases h)),fun _=>?_⟩
 refine⟨by simp,⟨by simp,by simp⟩,_,_,rfl,by simp,?_⟩
 refine XW.Ad (pu:=pu) ⟨(fun h=>(by cases h)),fun _=>?_⟩
 exact⟨_,_,_,rfl,TY e1 (by rw[e2];rfl),_,rfl⟩
theorem kG {a b:Nat} {v w:PV} (ha:Aq a v) (hb:Aq b w) (hs:a*b<4294967296):∃r,Ag Fn 226 [.v (.s v),.v (.s w)] (.tup [.s r,.s (.int .i64 ((0:Nat):Int))])∧Aq (a*b) r:=by
 by_cases ha0:a=0
 ·subst ha0;rw[Nat.zero_mul];exact⟨_,TZ ha hb (.inl rfl),.emp⟩
 ·by_cases hb0:b=0
  ·subst hb0;rw[Nat.mul_zero];exact⟨_,TZ ha hb (.inr rfl),.emp⟩
  ·exact⟨_,XA ha hb (by omega) (by omega) hs,Dy _ hs⟩
theorem UA {x y:Int} {a:Nat} (hx:x=a) (hy:y=0):Ag Fn 51 [PA.lst 1 [[.int .u32 x],[.int .u32 y]]] (PA.lst 1 (uL ([a,0].take (Ck [a,0] 2)))):=by subst hx;subst hy;exact vO [a,0] (by simp)
theorem sL {n:Nat} (h:n<4294967296):∃r,Ag Fn 15 [uA n] (.v (.s r))∧Aq n r:=by
 refine⟨_,?_,Dy n h⟩
 refine Am (pu:=pu) (vf:=C.f15) rfl ?_
 refine⟨by decide,by decide,_,_,_,rfl,UA (a:=n) ?_ ?_,_,rfl⟩
 ·rw[wrap_u32,Int.tmod_eq_emod_of_nonneg (by omega)];omega
 ·rw[Int.tdiv_eq_ediv_of_nonneg (by omega),wrap_u64 (by omega),wrap_u32];omega
theorem JV {a b:Nat} {v w:PV} (ha:Aq a v) (hb:Aq b w):Ag Fn 53 [.v (.s v),.v (.s w)] (iA (Eu a b)):=by
 have l0:∀{g R},R (uA a) g→XC Fn 111 [.v (.s v),iA (1-1)] g R:=Xx ha rfl
 have l1:∀{g R},R (uA b) g→XC Fn 111 [.v (.s w),iA (1-1)] g R:=Xx hb rfl
 have v0:=Eo ha
 have v1:=Eo hb
 have fin:Eu (a:Int) b=if(a:Int)<b then -1 else if(b:Int)<a then 1 else 0:=rfl
 cases ha<;>cases hb
 all_goals
  refine Am (pu:=pu) (vf:=C.f53) rfl ?_
  refine⟨_,_,_,rfl,v0,fun _=>⟨_,_,_,rfl,v1,(fun h=>(by cases h)),fun _=>?_⟩,fun h=>(by cases h)⟩
  refine⟨by simp,?_⟩
  first
   |(refine XW.Ad (pu:=pu) ⟨(fun h=>(by cases h)),fun _=>?_⟩
     exact⟨_,rfl⟩)
   |skip
 all_goals
  refine XW.Ad (pu:=pu) ⟨fun _=>?_,fun h=>(by cases h)⟩
  refine l0 (l1 ⟨fun h=>?_,fun h=>l0 (l1 ⟨fun h'=>?_,fun h'=>?_⟩)⟩)
  ·have h:=Ao h
   rw[fin,if_pos h];exact⟨_,rfl⟩
  ·have h:=A1 h
   have h':=Ao h'
   rw[fin,if_neg h,if_pos h'];exact⟨_,rfl⟩
  ·have h:=A1 h
   have h':=A1 h'
   refine⟨by simp,XW.Ad (pu:=pu) ⟨(fun h=>(by cases h)),fun _=>?_⟩⟩
   rw[fin,if_neg h,if_neg h'];exact⟨_,rfl⟩
end Go.Pv
end
section
noncomputable section
namespace Go.Pv
open Go.Vm Go.Vm.C
open Go.Vm.Key (kn)
set_option maxRecDepth 10000
set_option maxHeartbeats 2000000
abbrev okA (v:PV):PA:=.tup [.s v,.s (.int .i64 ((0:Nat):Int))]
theorem cJ (l:List Nat) (hl:l.length<1024):Ag Fn 158 [PA.lst 1 (uL l)] (okA (.lst 1 (uL (l.take (Ck l l.length))) none)):=by
 refine Am (pu:=pu) (vf:=C.f158) rfl ?_
 refine XW.fR (pu:=pu) (σ:=Nat) id (fun n=>[(k0,.v (PA.lst 1 (uL l))),(k4,.v (iA n))]) (fun n=>n≤l.length∧Ck l n=Ck l l.length) l.length (Zl)
  (.cons rfl rfl (.cons rfl ?_ (.nil _))) ⟨Rl,rfl⟩ ?_
 ·show iA _=iA _
  rw[cH]
 rintro n ⟨h1,h2⟩
 have fin:(n=0∨∃m,n=m+1∧l[m]?≠some 0)→(uL l).take n=uL (l.take (Ck l l.length)):=by
  intro h
  have:Ck l n=n:=by
   rcases h with rfl|⟨m,rfl,hm⟩
   ·rfl
   ·simp only[Ck,if_neg hm]
  rw[←h2,this,uL,uL,←List.map_take]
 have sl:=oA (es:=1) (l:=uL l) (n:=n) (g:=.empty) (by rw[cH];exact h1)
 refine⟨fun h=>?_,fun h=>?_⟩
 ·have h:=Ao h
  obtain⟨m,rfl⟩:∃m,n=m+1:=⟨n-1,by omega⟩
  have hm:m<l.length:=by omega
  have gm:(uL l)[(((m+1:Nat):Int)-((1:Nat):Int)).toNat]?=some [.int .u32 (l[m]:Int)]:=by
   rw[show(((m+1:Nat):Int)-((1:Nat):Int)).toNat=m from by omega];exact DV (Gg hm)
  refine⟨by omega,_,⟨by omega,gm⟩,fun hz=>?_,fun hz=>?_⟩
  ·refine⟨by omega,m,Nat.lt_succ_self m,.cons rfl rfl (.cons rfl ?_ (.nil _)),rfl,by omega,?_⟩
   ·show iA _=iA _
    congr 3;omega
   ·have:l[m]?=some 0:=by rw[Gg hm];simpa using hz
    rw[←h2,Ck,if_pos this]
  ·refine⟨(fun h=>by have:=Ao h;omega),fun _=>⟨_,_,sl,?_⟩⟩
   rw[←fin (.inr ⟨m,rfl,by rw[Gg hm];simpa using hz⟩)]
   exact⟨_,rfl⟩
 ·have h:=A1 h
  refine⟨(fun h=>by have:=Ao h;omega),fun _=>⟨_,_,sl,?_⟩⟩
  rw[←fin (.inl (by omega))]
  exact⟨_,rfl⟩
theorem pt0:Ag Fn 158 [PA.lst 1 []] (okA (.lst 1 [] none)):=cJ [] (by simp)
theorem pt1 {x:Int} {a:Nat} (hx:x=a):Ag Fn 158 [PA.lst 1 [[.int .u32 x]]] (okA (.lst 1 (uL ([a].take (Ck [a] 1))) none)):=by subst hx;exact cJ [a] (by simp)
theorem pt2 {x y:Int} {a:Nat} (hx:x=a) (hy:y=0):Ag Fn 158 [PA.lst 1 [[.int .u32 x],[.int .u32 y]]] (okA (.lst 1 (uL ([a,0].take (Ck [a,0] 2))) none)):=by subst hx;subst hy;exact cJ [a,0] (by simp)
theorem UB {n:Nat} (h:n<4294967296):∃r,Ag Fn 223 [uA n] (.v (.s r))∧Aq n r:=by
 refine⟨_,?_,Dy n h⟩
 refine Am (pu:=pu) (vf:=C.f223) rfl ?_
 refine⟨_,_,_,rfl,pt2 (a:=n) ?_ ?_,_,rfl⟩
 ·rw[wrap_u32];omega
 ·rw[wrap_u32,Int.fdiv_eq_ediv_of_nonneg _ (by decide)]
  show((n:Int) / 4294967296) % 4294967296=0
  omega
theorem cK {a b:Nat} {v w:PV} (ha:Aq a v) (hb:Aq b w):Ag Fn 39 [.v (.s v),.v (.s w)] (iA (Eu a b)):=by
 have v0:=D7 ha
 have v1:=D7 hb
 have fin:Eu (a:Int) b=if(a:Int)<b then -1 else if(b:Int)<a then 1 else 0:=rfl
 cases ha<;>cases hb
 all_goals
  refine Am (pu:=pu) (vf:=C.f39) rfl ?_
  refine⟨_,_,_,rfl,v0,fun _=>⟨_,_,_,rfl,v1,(fun h=>(by cases h)),fun _=>?_⟩,fun h=>(by cases h)⟩
 case one.one=>
  refine⟨(fun h=>(by cases h)),fun _=>XW.Ad (pu:=pu) ⟨fun _=>?_,fun h=>(by cases h)⟩⟩
  refine⟨by simp,by simp,_,⟨by simp,rfl⟩,by simp,by simp,_,⟨by simp,rfl⟩,fun h=>?_,fun h=>⟨fun h'=>?_,fun h'=>?_⟩⟩
  ·have h:=Ao h
   rw[fin,if_pos h];exact⟨_,rfl⟩
  ·have h:=A1 h
   have h':=Ao h'
   rw[fin,if_neg h,if_pos h'];exact⟨_,rfl⟩
  ·have h:=A1 h
   have h':=A1 h'
   refine⟨by simp,XW.Ad (pu:=pu) ⟨(fun h=>(by cases h)),fun _=>?_⟩⟩
   rw[fin,if_neg h,if_neg h'];exact⟨_,rfl⟩
 case nil.one n h0 h=>
  refine⟨fun _=>⟨fun _=>?_,fun h=>(by cases h)⟩,fun h=>(by cases h)⟩
  rw[fin,if_pos (by omega)];exact⟨_,rfl⟩
 case emp.one n h0 h=>
  refine⟨fun _=>⟨fun _=>?_,fun h=>(by cases h)⟩,fun h=>(by cases h)⟩
  rw[fin,if_pos (by omega)];exact⟨_,rfl⟩
 case one.nil n h0 h=>
  refine⟨fun _=>⟨(fun h=>(by cases h)),fun _=>?_⟩,fun h=>(by cases h)⟩
  rw[fin,if_neg (by omega),if_pos (by omega)];exact⟨_,rfl⟩
 case one.emp n h0 h=>
  refine⟨fun _=>⟨(fun h=>(by cases h)),fun _=>?_⟩,fun h=>(by cases h)⟩
  rw[fin,if_neg (by omega),if_pos (by omega)];exact⟨_,rfl⟩
 all_goals
  exact⟨(fun h=>(by cases h)),fun _=>XW.Ad (pu:=pu) ⟨(fun h=>(by cases h)),fun _=>⟨_,rfl⟩⟩⟩
end Go.Pv
end
section
noncomputable section
namespace Go.Pv
open Go.Vm Go.Vm.C
open Go.Vm.Key (kn)
set_option maxRecDepth 10000
theorem fS {s:Int} (h0:0≤s) (h:s<4294967296):s.fdiv (2 ^ (min (Int.toNat ((32:Nat):Int)) (IntKind.bits .u64)))=0:=by
 rw[Int.fdiv_eq_ediv_of_nonneg _ (by decide)]
 show s / 4294967296=0
 omega
theorem natAdd {a b:Nat} {v w:PV} (ha:Aq a v) (hb:Aq b w) (hs:a+b<4294967296):∃r,Ag Fn 117 [.v (.s v),.v (.s w)] (okA r)∧Aq (a+b) r:=by
 have v0:=D7 ha
 have v1:=D7 hb
 have wa:∀{n:Nat},n<4294967296→IntKind.wrap .u64 (n:Int)=n:=fun h=>wrap_u64 (by omega)
 cases ha<;>cases hb
 case one.one h0 h g0 g=>
  refine⟨_,?_,Dy _ hs⟩
  refine Am (pu:=pu) (vf:=C.f117) rfl ?_
  refine⟨_,_,_,rfl,v0,fun _=>⟨_,_,_,rfl,v1,(fun h=>(by cases h)),fun _=>?_⟩,fun h=>(by cases h)⟩
  refine⟨(fun h=>(by cases h)),fun _=>⟨by simp,_,_,Dc (n:=2) rfl (by simp) (by decide) (by decide),?_⟩⟩
  refine⟨_,_,rfl,?_⟩
  refine XW.Ad (pu:=pu) ⟨fun _=>?_,fun h=>(by cases h)⟩
  refine⟨⟨by simp,by simp⟩,_,_,rfl,⟨by rw[wa h];omega,by rw[wa h];omega⟩,fun _=>?_,fun h=>(by cases h)⟩
  refine⟨_,⟨by simp,rfl⟩,⟨by rw[wa h,wa g];omega,by rw[wa h,wa g];omega⟩,⟨by simp,by simp⟩,_,_,rfl,by simp,?_⟩
  refine XW.Ad (pu:=pu) ⟨(fun h=>(by cases h)),fun _=>?_⟩
  refine⟨⟨by simp,by simp⟩,_,_,rfl,_,_,_,rfl,pt2 (a:=a+b) ?_ ?_,_,rfl⟩
  ·rw[wa h,wa g,wrap_u32];omega
  ·rw[wa h,wa g,fS (by omega) (by omega)];rfl
 case one.nil h0 h=>
  refine⟨_,?_,Dy _ hs⟩
  refine Am (pu:=pu) (vf:=C.f117) rfl ?_
  refine⟨_,_,_,rfl,v0,fun _=>⟨_,_,_,rfl,v1,(fun h=>(by cases h)),fun _=>?_⟩,fun h=>(by cases h)⟩
  refine⟨(fun h=>(by cases h)),fun _=>⟨by simp,_,_,Dc (n:=2) rfl (by simp) (by decide) (by decide),?_⟩⟩
  refine⟨_,_,rfl,?_⟩
  refine XW.Ad (pu:=pu) ⟨fun _=>?_,fun h=>(by cases h)⟩
  refine⟨⟨by simp,by simp⟩,_,_,rfl,⟨by rw[wa h];omega,by rw[wa h];omega⟩,(fun h=>(by cases h)),fun _=>?_⟩
  refine⟨⟨by simp,by simp⟩,_,_,rfl,by simp,?_⟩
  refine XW.Ad (pu:=pu) ⟨(fun h=>(by cases h)),fun _=>?_⟩
  refine⟨⟨by simp,by simp⟩,_,_,rfl,_,_,_,rfl,pt2 (a:=a+0) ?_ ?_,_,rfl⟩
  ·rw[wa h,wrap_u32];omega
  ·rw[wa h,fS (by omega) (by omega)];rfl
 case one.emp h0 h=>
  refine⟨_,?_,Dy _ hs⟩
  refine Am (pu:=pu) (vf:=C.f117) rfl ?_
  refine⟨_,_,_,rfl,v0,fun _=>⟨_,_,_,rfl,v1,(fun h=>(by cases h)),fun _=>?_⟩,fun h=>(by cases h)⟩
  refine⟨(fun h=>(by cases h)),fun _=>⟨by simp,_,_,Dc (n:=2) rfl (by simp) (by decide) (by decide),?_⟩⟩
  refine⟨_,_,rfl,?_⟩
  refine XW.Ad (pu:=pu) ⟨fun _=>?_,fun h=>(by cases h)⟩
  refine⟨⟨by simp,by simp⟩,_,_,rfl,⟨by rw[wa h];omega,by rw[wa h];omega⟩,(fun h=>(by cases h)),fun _=>?_⟩
  refine⟨⟨by simp,by simp⟩,_,_,rfl,by simp,?_⟩
  refine XW.Ad (pu:=pu) ⟨(fun h=>(by cases h)),fun _=>?_⟩
  refine⟨⟨by simp,by simp⟩,_,_,rfl,_,_,_,rfl,pt2 (a:=a+0) ?_ ?_,_,rfl⟩
  ·rw[wa h,wrap_u32];omega
  ·rw[wa h,fS (by omega) (by omega)];rfl
 case nil.one g0 g=>
  refine⟨_,?_,Dy _ hs⟩
  refine Am (pu:=pu) (vf:=C.f117) rfl ?_
  refine⟨_,_,_,rfl,v0,fun _=>⟨_,_,_,rfl,v1,(fun h=>(by cases h)),fun _=>?_⟩,fun h=>(by cases h)⟩
  refine⟨fun _=>⟨by simp,_,_,Dc (n:=2) rfl (by simp) (by decide) (by decide),?_⟩,fun h=>(by cases h)⟩
  refine⟨_,_,rfl,?_⟩
  refine XW.Ad (pu:=pu) ⟨fun _=>?_,fun h=>(by cases h)⟩
  refine⟨⟨by simp,by simp⟩,_,_,rfl,⟨by rw[wa g];omega,by rw[wa g];omega⟩,(fun h=>(by cases h)),fun _=>?_⟩
  refine⟨⟨by simp,by simp⟩,_,_,rfl,by simp,?_⟩
  refine XW.Ad (pu:=pu) ⟨(fun h=>(by cases h)),fun _=>?_⟩
  refine⟨⟨by simp,by simp⟩,_,_,rfl,_,_,_,rfl,pt2 (a:=0+b) ?_ ?_,_,rfl⟩
  ·rw[wa g,wrap_u32];omega
  ·rw[wa g,fS (by omega) (by omega)];rfl
 case emp.one g0 g=>
  refine⟨_,?_,Dy _ hs⟩
  refine Am (pu:=pu) (vf:=C.f117) rfl ?_
  refine⟨_,_,_,rfl,v0,fun _=>⟨_,_,_,rfl,v1,(fun h=>(by cases h)),fun _=>?_⟩,fun h=>(by cases h)⟩
  refine⟨fun _=>⟨by simp,_,_,Dc (n:=2) rfl (by simp) (by decide) (by decide),?_⟩,fun h=>(by cases h)⟩
  refine⟨_,_,rfl,?_⟩
  refine XW.Ad (pu:=pu) ⟨fun _=>?_,fun h=>(by cases h)⟩
  refine⟨⟨by simp,by simp⟩,_,_,rfl,⟨by rw[wa g];omega,by rw[wa g];omega⟩,(fun h=>(by cases h)),fun _=>?_⟩
  refine⟨⟨by simp,by simp⟩,_,_,rfl,by simp,?_⟩
  refine XW.Ad (pu:=pu) ⟨(fun h=>(by cases h)),fun _=>?_⟩
  refine⟨⟨by simp,by simp⟩,_,_,rfl,_,_,_,rfl,pt2 (a:=0+b) ?_ ?_,_,rfl⟩
  ·rw[wa g,wrap_u32];omega
  ·rw[wa g,fS (by omega) (by omega)];rfl
 all_goals
  refine⟨_,?_,Aq.emp⟩
  refine Am (pu:=pu) (vf:=C.f117) rfl ?_
  refine⟨_,_,_,rfl,v0,fun _=>⟨_,_,_,rfl,v1,(fun h=>(by cases h)),fun _=>?_⟩,fun h=>(by cases h)⟩
  refine⟨(fun h=>(by cases h)),fun _=>⟨by simp,_,_,Dc (n:=1) rfl (by simp) (by decide) (by decide),?_⟩⟩
  refine⟨_,_,rfl,?_⟩
  refine XW.Ad (pu:=pu) ⟨(fun h=>(by cases h)),fun _=>?_⟩
  exact⟨⟨by simp,by simp⟩,_,_,rfl,_,_,_,rfl,pt1 (a:=0) rfl,_,rfl⟩
theorem NF {a b:Nat} {v w:PV} (ha:Aq a v) (hb:Aq b w) (h0:a=0∨b=0):Ag Fn 118 [.v (.s v),.v (.s w)] (okA (.lst 1 [] none)):=by
 have v0:=D7 ha
 have v1:=D7 hb
 have z:∀{x:Int},x=0→Ag Fn 158 [PA.lst 1 [[.int .u32 x]]] (okA (.lst 1 [] none)):=fun h=>pt1 (a:=0) h
 cases ha with
 |one=>cases hb with
  |one=>omega
  |_=>
   refine Am (pu:=pu) (vf:=C.f118) rfl ?_
   refine⟨_,_,_,rfl,v0,fun _=>⟨_,_,_,rfl,v1,(fun h=>(by cases h)),fun _=>?_⟩,fun h=>(by cases h)⟩
   refine⟨by simp,_,_,Dc (n:=1) rfl (by simp) (by decide) (by decide),?_⟩
   refine XW.Ad (pu:=pu) ⟨fun _=>?_,fun h=>(by cases h)⟩
   refine XW.Ad (pu:=pu) ⟨(fun h=>(by cases h)),fun _=>?_⟩
   refine⟨by simp,⟨by simp,by simp⟩,_,_,rfl,by simp,?_⟩
   refine XW.Ad (pu:=pu) ⟨(fun h=>(by cases h)),fun _=>?_⟩
   exact⟨_,_,_,rfl,z (by rw[wrap_u32];rfl),_,rfl⟩
 |_=>cases hb with
  |one=>
   refine Am (pu:=pu) (vf:=C.f118) rfl ?_
   refine⟨_,_,_,rfl,v0,fun _=>⟨_,_,_,rfl,v1,(fun h=>(by cases h)),fun _=>?_⟩,fun h=>(by cases h)⟩
   refine⟨by simp,_,_,Dc (n:=1) rfl (by simp) (by decide) (by decide),?_⟩
   refine XW.Ad (pu:=pu) ⟨(fun h=>(by cases h)),fun _=>?_⟩
   exact⟨_,_,_,rfl,z rfl,_,rfl⟩
  |_=>
   refine Am (pu:=pu) (vf:=C.f118) rfl ?_
   refine⟨_,_,_,rfl,v0,fun _=>⟨_,_,_,rfl,v1,(fun h=>(by cases h)),fun _=>?_⟩,fun h=>(by cases h)⟩
   refine⟨by simp,_,_,Dc (n:=0) rfl (by simp) (by decide) (by decide),?_⟩
   refine XW.Ad (pu:=pu) ⟨(fun h=>(by cases h)),fun _=>?_⟩
   exact⟨_,_,_,rfl,pt0,_,rfl⟩
theorem UC {a b:Nat} {v w:PV} (ha:Aq a v) (hb:Aq b w) (h1:0<a) (h2:0<b) (hm:a*b<4294967296):Ag Fn 118 [.v (.s v),.v (.s w)] (okA (.lst 1 (uL ([a*b,0].take (Ck [a*b,0] 2))) none)):=by
 have v0:=D7 ha
 have v1:=D7 hb
 have hc:(a:Int)*b=((a*b:Nat):Int):=by simp
 have w0:IntKind.wrap .u64 (Int.ofNat 0)=0:=rfl
 have wa:∀{n:Nat},n<4294967296→IntKind.wrap .u64 (n:Int)=n:=fun h=>wrap_u64 (by omega)
 cases ha<;>first|(exfalso;omega)|skip
 cases hb<;>first|(exfalso;omega)|skip
 rename_i _ ba _ bb
 generalize hn:a*b=n at hm hc ⊢
 have o1:IntKind.wrap .u64 (a:Int)*IntKind.wrap .u64 (b:Int)=(n:Int):=by rw[wa ba,wa bb,hc]
 refine Am (pu:=pu) (vf:=C.f118) rfl ?_
 refine⟨_,_,_,rfl,v0,fun _=>⟨_,_,_,rfl,v1,(fun h=>(by cases h)),fun _=>?_⟩,fun h=>(by cases h)⟩
 refine⟨by simp,_,_,Dc (n:=2) rfl (by simp) (by decide) (by decide),?_⟩
 refine XW.Ad (pu:=pu) ⟨fun _=>?_,fun h=>(by cases h)⟩
 refine XW.Ad (pu:=pu) ⟨fun _=>?_,fun h=>(by cases h)⟩
 refine⟨_,⟨by simp,rfl⟩,_,⟨by simp,rfl⟩,⟨by rw[o1];omega,by rw[o1];omega⟩,by simp,⟨by simp,by simp⟩,_,_,rfl,⟨by rw[o1,w0];omega,by rw[o1,w0];omega⟩,⟨by rw[o1,w0];omega,by rw[o1,w0];omega⟩,by simp,⟨by simp,by simp⟩,_,_,rfl,by simp,?_⟩
 refine XW.Ad (pu:=pu) ⟨(fun h=>(by cases h)),fun _=>?_⟩
 refine⟨by simp,⟨by simp,by simp⟩,_,_,rfl,by simp,?_⟩
 refine XW.Ad (pu:=pu) ⟨(fun h=>(by cases h)),fun _=>?_⟩
 refine⟨_,_,_,rfl,pt2 ?_ ?_,_,rfl⟩
 ·rw[o1,w0,wrap_u32];omega
 ·rw[o1,w0,fS (by omega) (by omega)];rfl
theorem natMul {a b:Nat} {v w:PV} (ha:Aq a v) (hb:Aq b w) (hs:a*b<4294967296):∃r,Ag Fn 118 [.v (.s v),.v (.s w)] (okA r)∧Aq (a*b) r:=by
 by_cases ha0:a=0
 ·subst ha0;rw[Nat.zero_mul];exact⟨_,NF ha hb (.inl rfl),.emp⟩
 ·by_cases hb0:b=0
  ·subst hb0;rw[Nat.mul_zero];exact⟨_,NF ha hb (.inr rfl),.emp⟩
  ·exact⟨_,UC ha hb (by omega) (by omega) hs,Dy _ hs⟩
theorem sM {a b:Nat} {v w:PV} (ha:Aq a v) (hb:Aq b w) (hs:b≤a):∃r,Ag Fn 83 [.v (.s v),.v (.s w)] (okA r)∧Aq (a-b) r:=by
 have v0:=D7 ha
 have v1:=D7 hb
 have c0:=cK ha hb
 have hc:¬Eu (a:Int) b<((0:Nat):Int):=by
  unfold Eu;split
  ·omega
  ·split<;>decide
 have wa:∀{n:Nat},n<4294967296→IntKind.wrap .u64 (n:Int)=n:=fun h=>wrap_u64 (by omega)
 have bd:a-b<4294967296:=by cases ha<;>omega
 refine⟨_,?_,S2 _ bd⟩
 cases ha<;>cases hb<;>first|(exfalso;omega)|skip
 case one.one h0 h g0 g=>
  refine Am (pu:=pu) (vf:=C.f83) rfl ?_
  refine⟨_,_,_,rfl,v0,fun _=>⟨_,_,_,rfl,v1,(fun h=>(by cases h)),fun _=>⟨_,_,_,rfl,c0,(fun h=>absurd (Ao h) hc),fun _=>?_⟩⟩,fun h=>(by cases h)⟩
  refine⟨_,_,Dc (n:=1) rfl (by simp) (by decide) (by decide),_,_,rfl,XC.of (pu:=pu) (vf:=C.f157) rfl ?_⟩
  refine XW.Ad (pu:=pu) ⟨fun _=>⟨fun _=>?_,fun h=>(by cases h)⟩,fun h=>(by cases h)⟩
  refine⟨_,⟨by simp,rfl⟩,⟨by rw[wa g];omega,by rw[wa g];omega⟩,⟨by simp,by simp⟩,_,_,rfl,(fun h'=>?_),fun _=>?_⟩
  ·have:=Ao h'
   rw[wa h,wa g] at this;omega
  refine⟨⟨by simp,by simp⟩,_,_,rfl,⟨by simp,by simp⟩,_,_,rfl,by simp,?_⟩
  refine XW.Ad (pu:=pu) ⟨(fun h=>(by cases h)),fun _=>?_⟩
  refine⟨_,_,_,rfl,pt1 (a:=a-b) ?_,_,rfl⟩
  rw[wa h,wa g,wrap_u64 (by omega),wrap_u32];omega
 case one.nil h0 h=>
  refine Am (pu:=pu) (vf:=C.f83) rfl ?_
  refine⟨_,_,_,rfl,v0,fun _=>⟨_,_,_,rfl,v1,(fun h=>(by cases h)),fun _=>⟨_,_,_,rfl,c0,(fun h=>absurd (Ao h) hc),fun _=>?_⟩⟩,fun h=>(by cases h)⟩
  refine⟨_,_,Dc (n:=1) rfl (by simp) (by decide) (by decide),_,_,rfl,XC.of (pu:=pu) (vf:=C.f157) rfl ?_⟩
  refine XW.Ad (pu:=pu) ⟨fun _=>⟨(fun h=>(by cases h)),fun _=>?_⟩,fun h=>(by cases h)⟩
  refine⟨⟨by simp,by simp⟩,_,_,rfl,(fun h'=>?_),fun _=>?_⟩
  ·have:=Ao h'
   rw[wa h] at this;omega
  refine⟨⟨by simp,by simp⟩,_,_,rfl,⟨by simp,by simp⟩,_,_,rfl,by simp,?_⟩
  refine XW.Ad (pu:=pu) ⟨(fun h=>(by cases h)),fun _=>?_⟩
  refine⟨_,_,_,rfl,pt1 (a:=a-0) ?_,_,rfl⟩
  rw[wa h,wrap_u64 (by omega),wrap_u32];omega
 case one.emp h0 h=>
  refine Am (pu:=pu) (vf:=C.f83) rfl ?_
  refine⟨_,_,_,rfl,v0,fun _=>⟨_,_,_,rfl,v1,(fun h=>(by cases h)),fun _=>⟨_,_,_,rfl,c0,(fun h=>absurd (Ao h) hc),fun _=>?_⟩⟩,fun h=>(by cases h)⟩
  refine⟨_,_,Dc (n:=1) rfl (by simp) (by decide) (by decide),_,_,rfl,XC.of (pu:=pu) (vf:=C.f157) rfl ?_⟩
  refine XW.Ad (pu:=pu) ⟨fun _=>⟨(fun h=>(by cases h)),fun _=>?_⟩,fun h=>(by cases h)⟩
  refine⟨⟨by simp,by simp⟩,_,_,rfl,(fun h'=>?_),fun _=>?_⟩
  ·have:=Ao h'
   rw[wa h] at this;omega
  refine⟨⟨by simp,by simp⟩,_,_,rfl,⟨by simp,by simp⟩,_,_,rfl,by simp,?_⟩
  refine XW.Ad (pu:=pu) ⟨(fun h=>(by cases h)),fun _=>?_⟩
  refine⟨_,_,_,rfl,pt1 (a:=a-0) ?_,_,rfl⟩
  rw[wa h,wrap_u64 (by omega),wrap_u32];omega
 all_goals
  refine Am (pu:=pu) (vf:=C.f83) rfl ?_
  refine⟨_,_,_,rfl,v0,fun _=>⟨_,_,_,rfl,v1,(fun h=>(by cases h)),fun _=>⟨_,_,_,rfl,c0,(fun h=>absurd (Ao h) hc),fun _=>?_⟩⟩,fun h=>(by cases h)⟩
  refine⟨_,_,Dc (n:=0) rfl (by simp) (by decide) (by decide),_,_,rfl,XC.of (pu:=pu) (vf:=C.f157) rfl ?_⟩
  refine XW.Ad (pu:=pu) ⟨(fun h=>(by cases h)),fun _=>?_⟩
  exact⟨_,_,_,rfl,pt0,_,rfl⟩
theorem or0 {n:Nat} (h:n<4294967296):(BitVec.ofInt (IntKind.bits .u64) (0:Int) ||| BitVec.ofInt (IntKind.bits .u64) (n:Int)).toNat=n:=by
 show(BitVec.ofInt 64 (0:Int) ||| BitVec.ofInt 64 (n:Int)).toNat=n
 have e:BitVec.ofInt 64 (0:Int)=0#64:=rfl
 rw[e,BitVec.zero_or]
 simp only[BitVec.toNat_ofInt]
 omega
theorem or1 {n:Nat} (h:n<4294967296):IntKind.wrap .u64 ((BitVec.ofInt (IntKind.bits .u64) (IntKind.wrap .u64 (((0:Nat):Int)*2 ^ min (Int.toNat ((32:Nat):Int)) (IntKind.bits .u64))) ||| BitVec.ofInt (IntKind.bits .u64) (IntKind.wrap .u64 (n:Int))).toNat:Nat)=(n:Int):=by
 have e1:IntKind.wrap .u64 (((0:Nat):Int)*2 ^ min (Int.toNat ((32:Nat):Int)) (IntKind.bits .u64))=0:=by
  rw[show(((0:Nat):Int)*2 ^ min (Int.toNat ((32:Nat):Int)) (IntKind.bits .u64))=0 from Int.zero_mul _];rfl
 rw[e1,wrap_u64 (n:=(n:Int)) (by omega),or0 h,wrap_u64 (by omega)]
theorem DW {a d:Nat} {v:PV} (ha:Aq a v) (hd:0<d) (hd2:d<4294967296):∃r,Ag Fn 222 [.v (.s v),.v (.s (.int .u32 d))] (.tup [.s r,.s (.int .u32 ((a % d:Nat):Int))])∧Aq (a / d) r:=by
 have wa:∀{n:Nat},n<4294967296→IntKind.wrap .u64 (n:Int)=n:=fun h=>wrap_u64 (by omega)
 have bd:a / d<4294967296:=by
  have:a / d≤a:=Nat.div_le_self a d
  cases ha<;>omega
 cases ha
 case one h0 h=>
  refine⟨_,?_,S2 _ bd⟩
  refine Am (pu:=pu) (vf:=C.f222) rfl ?_
  refine⟨_,_,Dc (n:=1) rfl (by simp) (by decide) (by decide),?_⟩
  refine XW.Ad (pu:=pu) ⟨fun _=>?_,fun h=>(by cases h)⟩
  refine⟨by simp,by simp,_,⟨by simp,rfl⟩,⟨?_,⟨by simp,by simp⟩,_,_,rfl,?_,by simp,?_⟩⟩
  ·rw[wa hd2];omega
  ·rw[wa hd2];omega
  refine XW.Ad (pu:=pu) ⟨(fun h=>(by cases h)),fun _=>?_⟩
  refine⟨_,_,_,rfl,pt1 (a:=a / d) ?_,?_⟩
  ·rw[or1 h,wa hd2,Int.tdiv_eq_ediv_of_nonneg (by omega),←Int.natCast_ediv]
   generalize a / d=q at bd ⊢
   rw[wrap_u64 (by omega),wrap_u32];omega
  ·have e:IntKind.wrap .u32 ((IntKind.wrap .u64 ((BitVec.ofInt (IntKind.bits .u64) (IntKind.wrap .u64 (((0:Nat):Int)*2 ^ min (Int.toNat ((32:Nat):Int)) (IntKind.bits .u64))) ||| BitVec.ofInt (IntKind.bits .u64) (IntKind.wrap .u64 (a:Int))).toNat:Nat)).tmod (IntKind.wrap .u64 (d:Int)))=((a % d:Nat):Int):=by
    rw[or1 h,wa hd2,Int.tmod_eq_emod_of_nonneg (by omega),←Int.natCast_emod,wrap_u32]
    have:a % d<d:=Nat.mod_lt _ hd
    omega
   rw[←e]
   exact⟨_,rfl⟩
 all_goals
  rw[Nat.zero_div,Nat.zero_mod]
  refine⟨_,?_,Aq.emp⟩
  refine Am (pu:=pu) (vf:=C.f222) rfl ?_
  refine⟨_,_,Dc (n:=0) rfl (by simp) (by decide) (by decide),?_⟩
  refine XW.Ad (pu:=pu) ⟨(fun h=>(by cases h)),fun _=>?_⟩
  exact⟨_,_,_,rfl,pt0,_,rfl⟩
theorem Aq.frz {n:Nat} {v:PV} (h:Aq n v) (g:Ab):Jt 40 v g=some (v,g):=by cases h<;>rfl
theorem JW (k:IntKind) (n:Int) (g:Ab):Jt 40 (.int k n) g=some (.int k n,g):=rfl
theorem We {a b:Nat} {v w:PV} (ha:Aq a v) (hb:Aq b w) (h0:0<b):∃q r,Ag Fn 179 [.v (.s v),.v (.s w)] (.tup [.s q,.s r,.s (.int .i64 ((0:Nat):Int))])∧Aq (a / b) q∧Aq (a % b) r:=by
 have v0:=D7 ha
 have v1:=D7 hb
 have fz:∀g,Dk deep [.v (.s v)] g=some ([.v (.s v)],g):=by cases ha<;>exact fun _=>rfl
 have fz2:∀g k,Dk deep [.v (.s v),.v (.s (.int .u32 k))] g=some ([.v (.s v),.v (.s (.int .u32 k))],g):=by cases ha<;>exact fun _ _=>rfl
 cases hb with
 |nil=>omega
 |emp=>omega
 |one n h1 h2=>
  obtain⟨q,hq1,hq2⟩:=DW ha h1 h2
  have hm:a % b<b:=Nat.mod_lt _ h0
  obtain⟨r,hr1,hr2⟩:=UB (n:=a % b) (by omega)
  refine⟨q,r,?_,hq2,hr2⟩
  have fq:=hq2.frz
  have fr:=hr2.frz
  have wa:IntKind.wrap .u64 ((a % b:Nat):Int)=((a % b:Nat):Int):=wrap_u64 (by omega)
  refine Am (pu:=pu) (vf:=C.f179) rfl ?_
  refine⟨_,_,_,fz _,v0,fun _=>⟨_,_,_,rfl,v1,(fun h=>(by cases h)),fun _=>⟨(fun h=>(by cases h)),fun _=>⟨fun _=>?_,fun h=>(by cases h)⟩⟩⟩,fun h=>(by cases h)⟩
  refine⟨_,⟨by decide,rfl⟩,_,_,_,fz2 _ _,hq1,?_⟩
  refine⟨_,_,_,rfl,by rw[wa];exact hr1,?_⟩
  refine⟨.empty,?_⟩
  show E8 40 (.tup [.s q,.s r,.s (.int .i64 _)]) .empty=_
  simp only[E8,Rt,Yn,fq,fr,JW]
end Go.Pv
end
section
noncomputable section
namespace Go.Pv
open Go.Vm
open Go.Vm.Key (kn)
variable {F:A4} {pu:Nat→Bool}
def Hb:List (Key×Ap)→Key→Option Ap
 |[],_=>none
 |(j,x)::l,k=>match keq j k with
  |true=>some x
  |false=>Hb l k
def mkT:List (Key×Ap)→Tr Ap
 |[]=>.z
 |(k,x)::l=>(mkT l).upd k (some x)
def mkH (l:List (Key×Ap)) (nx:Key):Ab:=⟨mkT l,nx⟩
theorem Ih (nx:Key):∀(l:List (Key×Ap)) (k:Key),(mkH l nx).get k=Hb l k
 |[],k=>Tr.lD k
 |(j,x)::l,k=>by
  show((mkT l).upd j (some x)).get k=_
  rw[Tr.Av]
  simp only[Hb]
  by_cases h:j=k
  ·subst h;rw[if_pos rfl,Cs]
  ·rw[if_neg h]
   have:keq j k=false:=by
    cases hk:keq j k with
    |false=>rfl
    |true=>exact absurd (Cz hk) h
   rw[this]
   exact Ih nx l k
abbrev ob (c:List PV):Ap:=⟨.cells c,true,false,[],[]⟩
abbrev obl (c:List PV) (log:List (Nat×Nat)):Ap:=⟨.cells c,true,false,[],log⟩
def Bu:List (Key×Key)→Key→Option Key
 |[],_=>none
 |(j,x)::l,k=>match keq j k with
  |true=>some x
  |false=>Bu l k
def rho (lo:Nat) (r:List (Key×Key)):Key→Option Key:=fun k=>match Nat.blt k.toNat lo with
 |true=>some k
 |false=>Bu r k
def M1 (ρ:Key→Option Key) (L1:Fm):Fm→Prop
 |[]=>True
 |(k,x)::L=>(∃y,look L1 k=some y∧RnA ρ x.pa y.pa)∧M1 ρ L1 L
theorem M1.get {ρ:Key→Option Key} {L1:Fm}:∀{L:Fm},M1 ρ L1 L→∀k x,look L k=some x→∃y,look L1 k=some y∧RnA ρ x.pa y.pa
 |[],_,k,x,h=>by cases h
 |(j,z)::L,h,k,x,hx=>by
  simp only[look] at hx
  split at hx
  ·next hk=>cases hx;rw[←Cz hk];exact h.1
  ·exact h.2.get k x hx
def Ou (ρ:Key→Option Key) (g1:Ab):List (Key×Ap)→Prop
 |[]=>True
 |(k,x)::l=>(∃j y,ρ k=some j∧g1.get j=some y∧G8 ρ g1 x y)∧Ou ρ g1 l
theorem Ou.get {ρ:Key→Option Key} {g1:Ab}:∀{l:List (Key×Ap)},Ou ρ g1 l→∀k x,Hb l k=some x→∃j y,ρ k=some j∧g1.get j=some y∧G8 ρ g1 x y
 |[],_,k,x,h=>by cases h
 |(j,z)::L,h,k,x,hx=>by
  simp only[Hb] at hx
  split at hx
  ·next hk=>cases hx;rw[←Cz hk];exact h.1
  ·exact h.2.get k x hx
def D3 (lo nx:Nat) (l:List (Key×Ap)):List (Key×Key)→List Key→List Key→Bool
 |[],_,_=>true
 |(k,j)::r,ks,js=>Nat.ble lo k.toNat&&Nat.ble lo j.toNat&&Nat.blt k.toNat nx&&(Hb l k).isSome&&!ks.any (keq k)&&!js.any (keq j)&&D3 lo nx l r (k::ks) (j::js)
theorem Gz {lo nx:Nat} {l:List (Key×Ap)}:∀{r:List (Key×Key)} {ks js:List Key},D3 lo nx l r ks js=true →
  (∀k j,Bu r k=some j→lo≤k.toNat∧lo≤j.toNat∧k.toNat<nx∧(Hb l k).isSome=true∧k∉ks∧j∉js)∧(∀k k' j,Bu r k=some j→Bu r k'=some j→k=k')
 |[],ks,js,_=>⟨fun k j h=>(by cases h),fun k k' j h=>(by cases h)⟩
 |(a,b)::r,ks,js,h=>by
  simp only[D3,Bool.and_eq_true,Nat.ble_eq,Nat.blt_eq,Bool.not_eq_true',List.any_eq_false] at h
  obtain⟨⟨⟨⟨⟨⟨h1,h2⟩,h3⟩,h4⟩,h5⟩,h6⟩,h7⟩:=h
  obtain⟨i1,i2⟩:=Gz h7
  have ha:a∉ks:=fun hm=>by have:=h5 a hm;rw[Cs] at this;exact this rfl
  have hb:b∉js:=fun hm=>by have:=h6 b hm;rw[Cs] at this;exact this rfl
  refine⟨fun k j hk=>?_,fun k k' j hk hk'=>?_⟩
  ·simp only[Bu] at hk
   split at hk
   ·next he=>cases hk;rw[←Cz he];exact⟨h1,h2,h3,h4,ha,hb⟩
   ·obtain⟨a1,a2,a3,a4,a5,a6⟩:=i1 k j hk
    exact⟨a1,a2,a3,a4,fun hm=>a5 (List.mem_cons_of_mem _ hm),fun hm=>a6 (List.mem_cons_of_mem _ hm)⟩
  ·simp only[Bu] at hk hk'
   cases e1:keq a k<;>cases e2:keq a k'<;>simp only[e1,e2] at hk hk'
   ·exact i2 k k' j hk hk'
   ·cases hk'
    exact absurd (List.mem_cons_self ..) (i1 k b hk).2.2.2.2.2
   ·cases hk
    exact absurd (List.mem_cons_self ..) (i1 k' b hk').2.2.2.2.2
   ·rw[←Cz e1,←Cz e2]
def oB (g1:Ab) (l:List (Key×Ap)):Nat→Prop
 |0=>True
 |n+1=>Hb l (kn n)=g1.get (kn n)∧oB g1 l n
theorem oB.get {g1:Ab} {l:List (Key×Ap)}:∀{n:Nat},oB g1 l n→∀k:Key,k.toNat<n→Hb l k=g1.get k
 |0,_,k,h=>absurd h (Nat.not_lt_zero _)
 |n+1,h,k,hk=>by
  by_cases e:k.toNat=n
  ·rw[←Key.Ff k,e];exact h.1
  ·exact h.2.get k (by omega)
theorem Trim.of {lo:Nat} (r:List (Key×Key)) {L1 L2:Fm} {g1:Ab} {l:List (Key×Ap)} {nx:Key} (hn:D3 lo nx.toNat l r [] []=true) (hlo:lo≤nx.toNat) (hlow:oB g1 l lo) (hb:Ou (rho lo r) g1 l) (hf:M1 (rho lo r) L1 L2) :
  Trim lo (rho lo r) L1 g1 L2 (mkH l nx):=by
 obtain⟨i1,i2⟩:=Gz hn
 have low:∀k:Key,k.toNat<lo→rho lo r k=some k:=fun k hk=>by
  have:Nat.blt k.toNat lo=true:=by rw[Nat.blt_eq];exact hk
  simp only[rho,this]
 have high:∀k:Key,¬k.toNat<lo→rho lo r k=Bu r k:=fun k hk=>by
  have:Nat.blt k.toNat lo=false:=by
   cases hh:Nat.blt k.toNat lo with
   |false=>rfl
   |true=>rw[Nat.blt_eq] at hh;exact absurd hh hk
  simp only[rho,this]
 refine⟨fun k hk=>⟨low k hk,by rw[Ih];exact hlow.get k hk⟩,fun k k' j h h'=>?_,fun k j h hj=>?_,fun k x hx=>?_,fun k j h hg=>?_,hf.get,hlo⟩
 ·by_cases hk:k.toNat<lo<;>by_cases hk':k'.toNat<lo
  ·rw[low k hk] at h;rw[low k' hk'] at h';cases h;cases h';rfl
  ·rw[low k hk] at h;rw[high k' hk'] at h';cases h
   have:=(i1 k' k h').2.1;omega
  ·rw[high k hk] at h;rw[low k' hk'] at h';cases h'
   have:=(i1 k k' h).2.1;omega
  ·rw[high k hk] at h;rw[high k' hk'] at h';exact i2 k k' j h h'
 ·by_cases hk:k.toNat<lo
  ·exact⟨Nat.lt_of_lt_of_le hk hlo,fun hh=>by omega⟩
  ·rw[high k hk] at h
   obtain⟨a1,a2,a3,_⟩:=i1 k j h
   exact⟨a3,fun _=>a2⟩
 ·rw[Ih] at hx
  exact hb.get k x hx
 ·rw[Ih] at hg
  by_cases hk:k.toNat<lo
  ·rw[low k hk] at h;cases h
   rw[←hlow.get k hk];exact hg
  ·rw[high k hk] at h
   have:=(i1 k j h).2.2.2.1
   rw[hg] at this;cases this
def Ae:PV→Prop
 |.ptr ..|.slice ..|.map _|.func ..=>False
 |_=>True
theorem Ae.rn {ρ:Key→Option Key} {v:PV} (h:Ae v):rnV ρ v=some v:=by
 cases v<;>first|rfl|exact h.elim
theorem Ae.cells {ρ:Key→Option Key}:∀{l:List PV},(∀v∈l,Ae v)→Aa (fun x y=>rnV ρ x=some y) l l
 |[],_=>.nil
 |v::l,h=>.cons (h v (List.mem_cons_self ..)).rn (Ae.cells fun u hu=>h u (List.mem_cons_of_mem _ hu))
theorem G8.same {ρ:Key→Option Key} {K:Ab} {c:List PV} {log log':List (Nat×Nat)} (h:Aa (fun x y=>rnV ρ x=some y) c c):G8 ρ K ⟨.cells c,true,false,[],log⟩ ⟨.cells c,true,false,[],log'⟩:=⟨h,fun _=>⟨rfl,.inl .nil⟩,rfl⟩
end Go.Pv
end
section
noncomputable section
namespace Go.Pv
open Go.Vm Go.Vm.C
open Go.Vm.Key (kn)
set_option maxRecDepth 10000
set_option maxHeartbeats 1000000
structure Al where
 p:Nat
 ks:List Nat
 d:Nat
structure Nd where
 left:Nat
 copy:Nat
 az:List Al
structure Fo where
 ns:List Nd
 rs:List (Nat×Nat)
def brV (v l h:Nat):List PV:=[.int .i64 v,.int .i64 l,.int .i64 h]
def dT:Nat→List (List PV)×Nat
 |0=>([],0)
 |1=>([brV 1 1 0,brV 0 2 0],3)
 |2=>([brV 1 1 0,brV 0 0 2],3)
 |3=>([brV 1 1 0],2)
 |4=>([brV 1 0 1,brV 0 2 0],3)
 |5=>([brV 0 1 0],2)
 |6=>([brV 1 0 1,brV 1 1 0,brV 0 2 3],4)
 |7=>([brV 1 1 0,brV 0 1 2],3)
 |8=>([brV 1 0 1,brV 0 0 2],3)
 |9=>([brV 1 1 0,brV 1 0 1,brV 0 2 3],4)
 |10=>([brV 0 0 1],2)
 |11=>([brV 1 1 0,brV 0 2 1],3)
 |12=>([brV 1 0 1],2)
 |13=>([brV 1 0 1,brV 0 1 2],3)
 |14=>([brV 1 0 1,brV 0 2 1],3)
 |_=>([],1)
def slV (es:Nat):List (List PV)→PV
 |[]=>.Af
 |l=>.lst es l none
def dN (d:Nat):PV:=slV 3 (dT d).1
def dR (d:Nat):Int:=((dT d).2:Int)
def dC (d:Nat):List PV:=[dN d,.int .i64 (dR d)]
abbrev dA (d:Nat):PA:=.v (.agg (dC d))
def kV (k:Nat):List PV:=[.int .i64 k,.int .i64 (-1),.int .i64 0,.int .i64 0]
def ksV (l:List Nat):PV:=slV 4 (l.map kV)
def aV (a:Al):List PV:=[.int .i64 a.p,ksV a.ks,dN a.d,.int .i64 (dR a.d)]
def asV (l:List Al):PV:=slV 4 (l.map aV)
def nV (n:Nd):List PV:=[.int .i64 n.left,.int .i64 0,.int .i64 0,.int .i64 n.copy,asV n.az]
def rV (r:Nat×Nat):List PV:=[.int .i64 r.1,dN r.2,.int .i64 (dR r.2)]
def foC (f:Fo):List PV:=[slV 5 (f.ns.map nV),slV 3 (f.rs.map rV)]
abbrev foA (f:Fo):PA:=.v (.agg (foC f))
theorem Ar (es:Nat) (l:List (List PV)):Ae (slV es l):=by cases l<;>exact trivial
def M3 (a:Al):List Int:=(a.p:Int)::a.ks.flatMap fun(k:Nat)=>[0,0,-1,(k:Int)]
theorem oD (a:Al) (hk:a.ks.length≤2):Ag Fn 162 [.v (.agg (aV a))] (PA.lst 1 (iL (M3 a))):=by
 obtain⟨p,ks,d⟩:=a
 refine Am (pu:=pu) (vf:=C.f162) rfl ?_
 rcases ks with _|⟨x,_|⟨y,_|⟨z,ks⟩⟩⟩
 ·refine XW.Ad (pu:=pu) ⟨(fun h=>(by cases h)),fun _=>?_⟩
  exact⟨_,rfl⟩
 ·refine XW.Ad (pu:=pu) ⟨fun _=>?_,fun h=>(by cases h)⟩
  refine⟨_,⟨by simp,rfl⟩,_,_,rfl,by simp,?_⟩
  refine XW.Ad (pu:=pu) ⟨(fun h=>(by cases h)),fun _=>?_⟩
  exact⟨_,rfl⟩
 ·refine XW.Ad (pu:=pu) ⟨fun _=>?_,fun h=>(by cases h)⟩
  refine⟨_,⟨by simp,rfl⟩,_,_,rfl,by simp,?_⟩
  refine XW.Ad (pu:=pu) ⟨fun _=>?_,fun h=>(by cases h)⟩
  refine⟨_,⟨by simp,rfl⟩,_,_,rfl,by simp,?_⟩
  refine XW.Ad (pu:=pu) ⟨(fun h=>(by cases h)),fun _=>?_⟩
  exact⟨_,rfl⟩
 ·simp at hk
theorem DX (a:Al) (hk:a.ks.length≤2):Ag Fn 189 [.v (.agg (aV a))] (PA.lst 1 (iL (M3 a))):=by
 obtain⟨p,ks,d⟩:=a
 refine Am (pu:=pu) (vf:=C.f189) rfl ?_
 rcases ks with _|⟨x,_|⟨y,_|⟨z,ks⟩⟩⟩
 ·refine XW.Ad (pu:=pu) ⟨(fun h=>(by cases h)),fun _=>?_⟩
  exact⟨_,rfl⟩
 ·refine XW.Ad (pu:=pu) ⟨fun _=>?_,fun h=>(by cases h)⟩
  refine⟨_,⟨by simp,rfl⟩,_,_,rfl,by simp,?_⟩
  refine XW.Ad (pu:=pu) ⟨(fun h=>(by cases h)),fun _=>?_⟩
  exact⟨_,rfl⟩
 ·refine XW.Ad (pu:=pu) ⟨fun _=>?_,fun h=>(by cases h)⟩
  refine⟨_,⟨by simp,rfl⟩,_,_,rfl,by simp,?_⟩
  refine XW.Ad (pu:=pu) ⟨fun _=>?_,fun h=>(by cases h)⟩
  refine⟨_,⟨by simp,rfl⟩,_,_,rfl,by simp,?_⟩
  refine XW.Ad (pu:=pu) ⟨(fun h=>(by cases h)),fun _=>?_⟩
  exact⟨_,rfl⟩
 ·simp at hk
theorem DY {f:Fo} (h:f.ns≠[]):foA f=.v (.agg [.lst 5 (f.ns.map nV) none,slV 3 (f.rs.map rV)]):=by
 obtain⟨ns,rs⟩:=f
 cases ns with
 |nil=>exact absurd rfl h
 |cons=>rfl
theorem G0 {ns:List Nd} {k:Nat} {n:Nd} (h:ns[k]?=some n):(ns.map nV)[(k:Int).toNat]?=some (nV n):=by simp[h]
theorem JX (f:Fo) (n:Nd) (a:Al) (hk:a.ks.length≤2) (hs:∀k∈a.ks,k<f.ns.length) (hl:f.ns.length<1000000) (h0:f.ns≠[]):Ag Fn 161 [foA f,.v (.agg (nV n)),.v (.agg (aV a))] (bA true):=by
 obtain⟨p,ks,d⟩:=a
 have hlen:(f.ns.map nV).length=f.ns.length:=Lm ..
 have step:∀k,k<f.ns.length→∃n,(f.ns.map nV)[(k:Int).toNat]?=some (nV n):=fun k h=>⟨f.ns[k],G0 (Gg h)⟩
 rw[DY h0]
 refine Am (pu:=pu) (vf:=C.f161) rfl ?_
 rcases ks with _|⟨x,_|⟨y,_|⟨z,ks⟩⟩⟩
 ·refine XW.Ad (pu:=pu) ⟨(fun h=>(by cases h)),fun _=>?_⟩
  exact⟨(fun h=>(by cases h)),fun _=>⟨fun _=>⟨_,rfl⟩,fun h=>(by cases h)⟩⟩
 ·have hx:=hs x (by simp)
  obtain⟨m,hm⟩:=step x hx
  rw[←hlen] at hx
  refine XW.Ad (pu:=pu) ⟨fun _=>?_,fun h=>(by cases h)⟩
  refine⟨_,⟨by simp,rfl⟩,fun _=>⟨(fun h=>(by cases h)),fun _=>⟨(fun h=>(by cases h)),fun _=>⟨(fun h=>absurd (Ao h) (by omega)),fun _=>⟨fun _=>⟨fun _=>⟨_,⟨by omega,hm⟩,fun _=>⟨_,⟨by omega,hm⟩,(fun h=>(by cases h)),fun _=>⟨by simp,?_⟩⟩,fun h=>(by cases h)⟩,fun h=>(by cases h)⟩,fun h=>absurd (Ao h) (by omega)⟩⟩⟩⟩,fun h=>(by cases h)⟩
  refine XW.Ad (pu:=pu) ⟨(fun h=>(by cases h)),fun _=>?_⟩
  exact⟨fun _=>⟨by simp,_,⟨by simp,rfl⟩,fun _=>⟨fun _=>⟨_,rfl⟩,fun h=>absurd (Ao h) (by omega)⟩,fun h=>(by cases h)⟩,fun h=>(by cases h)⟩
 ·have hx:=hs x (by simp)
  obtain⟨m,hm⟩:=step x hx
  have hy:=hs y (by simp)
  obtain⟨m2,hm2⟩:=step y hy
  rw[←hlen] at hx hy
  refine XW.Ad (pu:=pu) ⟨fun _=>?_,fun h=>(by cases h)⟩
  refine⟨_,⟨by simp,rfl⟩,fun _=>⟨(fun h=>(by cases h)),fun _=>⟨(fun h=>(by cases h)),fun _=>⟨(fun h=>absurd (Ao h) (by omega)),fun _=>⟨fun _=>⟨fun _=>⟨_,⟨by omega,hm⟩,fun _=>⟨_,⟨by omega,hm⟩,(fun h=>(by cases h)),fun _=>⟨by simp,?_⟩⟩,fun h=>(by cases h)⟩,fun h=>(by cases h)⟩,fun h=>absurd (Ao h) (by omega)⟩⟩⟩⟩,fun h=>(by cases h)⟩
  refine XW.Ad (pu:=pu) ⟨fun _=>?_,fun h=>(by cases h)⟩
  refine⟨_,⟨by simp,rfl⟩,fun _=>⟨fun _=>⟨by simp,_,⟨by simp,rfl⟩,fun _=>⟨(fun h=>(by cases h)),fun _=>⟨(fun h=>absurd (Ao h) (by omega)),fun _=>⟨fun _=>⟨fun _=>⟨_,⟨by omega,hm2⟩,fun _=>⟨_,⟨by omega,hm2⟩,(fun h=>(by cases h)),fun _=>⟨by simp,?_⟩⟩,fun h=>(by cases h)⟩,fun h=>(by cases h)⟩,fun h=>absurd (Ao h) (by omega)⟩⟩⟩,fun h=>absurd (A1 h) (by omega)⟩,fun h=>(by cases h)⟩,fun h=>(by cases h)⟩
  refine XW.Ad (pu:=pu) ⟨(fun h=>(by cases h)),fun _=>?_⟩
  exact⟨fun _=>⟨by simp,_,⟨by simp,rfl⟩,fun _=>⟨fun _=>⟨_,rfl⟩,fun h=>absurd (Ao h) (by omega)⟩,fun h=>(by cases h)⟩,fun h=>(by cases h)⟩
 ·simp at hk
theorem PZ (f:Fo) (n:Nd) (a:Al) (hk:a.ks.length≤2) (hs:∀k∈a.ks,k<f.ns.length) (hl:f.ns.length<1000000) (h0:f.ns≠[]):Ag Fn 188 [foA f,.v (.agg (nV n)),.v (.agg (aV a))] (bA true):=by
 obtain⟨p,ks,d⟩:=a
 have hlen:(f.ns.map nV).length=f.ns.length:=Lm ..
 have step:∀k,k<f.ns.length→∃n,(f.ns.map nV)[(k:Int).toNat]?=some (nV n):=fun k h=>⟨f.ns[k],G0 (Gg h)⟩
 rw[DY h0]
 refine Am (pu:=pu) (vf:=C.f188) rfl ?_
 rcases ks with _|⟨x,_|⟨y,_|⟨z,ks⟩⟩⟩
 ·refine XW.Ad (pu:=pu) ⟨(fun h=>(by cases h)),fun _=>?_⟩
  exact⟨(fun h=>(by cases h)),fun _=>⟨_,rfl⟩⟩
 ·have hx:=hs x (by simp)
  obtain⟨m,hm⟩:=step x hx
  rw[←hlen] at hx
  refine XW.Ad (pu:=pu) ⟨fun _=>?_,fun h=>(by cases h)⟩
  refine⟨_,⟨by simp,rfl⟩,fun _=>⟨(fun h=>(by cases h)),fun _=>⟨fun _=>⟨fun _=>⟨fun _=>⟨_,⟨by omega,hm⟩,fun _=>⟨_,⟨by omega,hm⟩,(fun h=>(by cases h)),fun _=>⟨by simp,?_⟩⟩,fun h=>(by cases h)⟩,fun h=>(by cases h)⟩,fun h=>absurd (Ao h) (by omega)⟩,fun h=>absurd (A1 h) (by omega)⟩⟩,fun h=>(by cases h)⟩
  refine XW.Ad (pu:=pu) ⟨(fun h=>(by cases h)),fun _=>?_⟩
  exact⟨(fun h=>(by cases h)),fun _=>⟨_,rfl⟩⟩
 ·have hx:=hs x (by simp)
  obtain⟨m,hm⟩:=step x hx
  have hy:=hs y (by simp)
  obtain⟨m2,hm2⟩:=step y hy
  rw[←hlen] at hx hy
  refine XW.Ad (pu:=pu) ⟨fun _=>?_,fun h=>(by cases h)⟩
  refine⟨_,⟨by simp,rfl⟩,fun _=>⟨(fun h=>(by cases h)),fun _=>⟨fun _=>⟨fun _=>⟨fun _=>⟨_,⟨by omega,hm⟩,fun _=>⟨_,⟨by omega,hm⟩,(fun h=>(by cases h)),fun _=>⟨by simp,?_⟩⟩,fun h=>(by cases h)⟩,fun h=>(by cases h)⟩,fun h=>absurd (Ao h) (by omega)⟩,fun h=>absurd (A1 h) (by omega)⟩⟩,fun h=>(by cases h)⟩
  refine XW.Ad (pu:=pu) ⟨fun _=>?_,fun h=>(by cases h)⟩
  refine⟨_,⟨by simp,rfl⟩,fun _=>⟨fun _=>⟨(fun h=>(by cases h)),fun _=>⟨fun _=>⟨fun _=>⟨fun _=>⟨_,⟨by omega,hm2⟩,fun _=>⟨_,⟨by omega,hm2⟩,(fun h=>(by cases h)),fun _=>⟨by simp,?_⟩⟩,fun h=>(by cases h)⟩,fun h=>(by cases h)⟩,fun h=>absurd (Ao h) (by omega)⟩,fun h=>absurd (A1 h) (by omega)⟩⟩,fun h=>absurd (A1 h) (by omega)⟩,fun h=>(by cases h)⟩
  refine XW.Ad (pu:=pu) ⟨(fun h=>(by cases h)),fun _=>?_⟩
  exact⟨(fun h=>(by cases h)),fun _=>⟨_,rfl⟩⟩
 ·simp at hk
end Go.Pv
end
section
noncomputable section
namespace Go.Pv
def pv (n:Nat):Bool:=pu n||sJ [185] n
def Et:PV→Prop
 |.bool _|.int ..|.str _|.Eb|.Af|.Dv|.Fe|.lst _ _ none|.rp _|.func _ [] []=>True
 |_=>False
def N7:List PV→Prop
 |[]=>True
 |v::l=>Et v∧N7 l
def UD:PC→Prop
 |.s v=>Et v
 |.agg l=>N7 l
def DZ:List PA→Prop
 |[]=>True
 |.v c::l=>UD c∧DZ l
 |.tup _::_=>False
theorem fT (n:Nat) {v:PV} (h:Et v) (g:Ab):Jt (n+1) v g=some (v,g):=by
 unfold Et at h
 split at h
 all_goals first|rfl|exact h.elim
theorem S4 (n:Nat):∀{l:List PV},N7 l→∀g:Ab,Jt.Xa (Jt (n+1)) l g=some (l,g)
 |[],_,_=>rfl
 |v::l,h,g=>by simp only[Jt.Xa,fT n h.1,S4 n h.2]
theorem Dg:∀{xs:List PA},DZ xs→∀{g:Ab},Dk deep xs g=some (xs,g)
 |[],_,_=>rfl
 |.v (.s v)::l,h,g=>by
  have:=Dg h.2 (g:=g)
  show Dk 40 _ g=_
  simp only[Dk,E8,Yn,fT 39 h.1]
  rw[show Dk 40 l g=_ from this]
 |.v (.agg c)::l,h,g=>by
  have:=Dg h.2 (g:=g)
  show Dk 40 _ g=_
  simp only[Dk,E8,Yn,S4 39 h.1]
  rw[show Dk 40 l g=_ from this]
theorem J8 {P:Prop} (h:false=true):P:=Bool.noConfusion h
theorem Mx {P:Prop} (h:true=false):P:=Bool.noConfusion h
end Go.Pv
end
section
noncomputable section
namespace Go.Pv
open Go.Vm Go.Vm.C
open Go.Vm.Key (kn)
set_option maxRecDepth 10000
set_option maxHeartbeats 1000000
def pw (n:Nat):Bool:=pu n||sJ [227,246] n
theorem oE (a:Int):Ag Fn 246 [iA a] (bA false):=by
 refine Am (pu:=pw) (vf:=C.f246) rfl ?_
 exact cF (by simp)
theorem QB (a b:Int):Ag Fn 227 [iA a,iA b] (iA (Eu a b)):=by
 refine Am (pu:=pw) (vf:=C.f227) rfl ?_
 have na:=oE a
 have nb:=oE b
 refine⟨_,_,_,rfl,na,_,_,_,rfl,nb,fun h=>J8 h,fun _=>⟨fun h=>J8 h,fun _=>⟨fun h=>?_,fun h=>?_⟩⟩⟩
 ·exact⟨_,by rw[Eu,if_pos (Ao h)];rfl⟩
 ·refine⟨fun h'=>?_,fun h'=>?_⟩
  ·exact⟨_,by rw[Eu,if_neg (A1 h),if_pos (Ao h')];rfl⟩
  ·exact⟨_,by rw[Eu,if_neg (A1 h),if_neg (A1 h')];rfl⟩
theorem JY {a b:Int} (h:a≠b):Eu a b≠0:=by
 unfold Eu
 split
 ·simp
 ·split
  ·simp
  ·omega
theorem cL (a b:List Int) (ha:a.length<1000000) (hb:b.length<1000000):Ag Fn 186 [PA.lst 1 (iL a),PA.lst 1 (iL b)] (iA (B1 a b)):=by
 have la:(iL a).length=a.length:=Lm ..
 have lb:(iL b).length=b.length:=Lm ..
 refine Am (pu:=pw) (vf:=C.f186) rfl ?_
 refine XW.fR (pu:=pw) (σ:=Nat) (fun i=>a.length-i) (fun i=>[(k0,.v (PA.lst 1 (iL a))),(k1,.v (PA.lst 1 (iL b))),(k9,.v (PA.lst 1 (iL a))),(k10,.v (iA (iL a).length)),(k11,.v (iA i))]) (fun i=>i≤a.length∧i≤b.length∧B1 (a.drop i) (b.drop i)=B1 a b) 0 (Zl)
  (.cons rfl rfl (.cons rfl rfl (.cons rfl rfl (.cons rfl rfl (.cons rfl rfl (.nil _)))))) ⟨Zl,Zl,rfl⟩ ?_
 rintro i ⟨h1,h2,h3⟩
 refine⟨fun h=>?_,fun h=>?_⟩
 ·have hi:i<a.length:=by have:=Ao h;omega
  have ga:=kF (Gg hi)
  refine⟨_,⟨Int.natCast_nonneg i,ga⟩,fun h'=>?_,fun h'=>?_⟩
  ·have:b.length≤i:=by have:=of_decide_eq_true h';omega
   rw[←h3,List.drop_eq_nil_of_le this,List.drop_eq_getElem_cons hi]
   exact⟨_,rfl⟩
  ·have hj:i<b.length:=by have:=of_decide_eq_false h';omega
   have gb:=kF (Gg hj)
   have hc:=QB a[i] b[i]
   refine⟨_,⟨Int.natCast_nonneg i,gb⟩,_,_,_,rfl,hc,fun he=>?_,fun he=>?_⟩
   ·have hne:a[i]≠b[i]:=by
     intro e
     have:¬Eu a[i] b[i]=0:=by simpa using he
     exact this (by rw[e,Eu,if_neg (by omega),if_neg (by omega)])
    rw[←h3,List.drop_eq_getElem_cons hi,List.drop_eq_getElem_cons hj,B1,if_neg hne]
    exact⟨_,rfl⟩
   ·have hq:a[i]=b[i]:=Classical.byContradiction fun hne=>by
     have:Eu a[i] b[i]=0:=by simpa using he
     exact JY hne this
    refine⟨by omega,i+1,by omega,.cons rfl rfl (.cons rfl rfl (.cons rfl rfl (.cons rfl rfl (.cons rfl rfl (.nil _))))),rfl,hi,hj,?_⟩
    rw[←h3,List.drop_eq_getElem_cons hi,List.drop_eq_getElem_cons hj,B1,if_pos hq]
 ·have hi:a.length≤i:=by have:=A1 h;omega
  have e:a.drop i=[]:=List.drop_eq_nil_of_le hi
  refine⟨fun h'=>?_,fun h'=>?_⟩
  ·have hj:i<b.length:=by have:=Ao h';omega
   rw[←h3,e,List.drop_eq_getElem_cons hj]
   exact⟨_,rfl⟩
  ·have hj:b.length≤i:=by have:=A1 h';omega
   rw[←h3,e,List.drop_eq_nil_of_le hj]
   exact⟨_,rfl⟩
structure S6:Prop where
 ne:∀d,d<16→Ag Fn 187 [dA d] (bA (d !=0))
 neR:∀d,d<16→Ag Fn 160 [dA d] (bA (d !=0))
 NG:∀d,d<16→Ag Fn 109 [dA d] (dA (15-d))
 uni:∀d,d<16→Ag Fn 105 [dA d,dA 15] (dA 15)
 int:Ag Fn 106 [dA 15,dA 15] (dA 15)
 NH:Ag Fn 48 [dA 15,dA 0] (bA false)
 NI:Ag Fn 48 [dA 15,dA 15] (bA true)
 con:Ag Fn 25 [bA true] (dA 15)
structure WF (f:Fo):Prop where
 n0:f.ns≠[]
 r0:f.rs≠[]
 len:f.ns.length<1000000
 Oy:f.rs.length<1000000
 as0:∀(i:Nat) (n:Nd),f.ns[i]?=some n→n.az≠[]
 Iy:∀(i:Nat) (n:Nd),f.ns[i]?=some n→n.az.length<1000000
 al:∀(i:Nat) (n:Nd),f.ns[i]?=some n→∀a∈n.az,a.ks.length≤2∧(∀k∈a.ks,k<i)∧a.d<16∧a.d≠0
 place:∀(i:Nat) (m n:Nd),f.ns[i]?=some m→f.ns[i+1]?=some n→B1 [0,0,(m.left:Int),(m.copy:Int)] [0,0,(n.left:Int),(n.copy:Int)]<0
 key:∀(i:Nat) (n:Nd),f.ns[i]?=some n→∀(k:Nat) (a b:Al),n.az[k]?=some a→n.az[k+1]?=some b→B1 (M3 a) (M3 b)<0
 rt:∀(i:Nat) (r:Nat×Nat),f.rs[i]?=some r→r.1<f.ns.length∧r.2<16∧r.2≠0
 asc:∀(i:Nat) (r q:Nat×Nat),f.rs[i]?=some r→f.rs[i+1]?=some q→r.1<q.1
theorem QD {l:List Al} (h:l≠[]):asV l=.lst 4 (l.map aV) none:=by cases l with|nil=>exact absurd rfl h|cons=>rfl
theorem Da {f:Fo} (h:f.ns≠[]) (h2:f.rs≠[]):foA f=.v (.agg [.lst 5 (f.ns.map nV) none,.lst 3 (f.rs.map rV) none]):=by
 obtain⟨ns,rs⟩:=f
 cases ns with
 |nil=>exact absurd rfl h
 |cons=>cases rs with
  |nil=>exact absurd rfl h2
  |cons=>rfl
abbrev foB (f:Fo):Ap:=ob [.lst 5 (f.ns.map nV) none,.lst 3 (f.rs.map rV) none]
theorem oG (n:Nd):Ag Fn 185 [.v (.agg (nV n))] (PA.lst 1 (iL [0,0,(n.left:Int),(n.copy:Int)])):=by
 obtain⟨l,c,az⟩:=n
 refine Am (pu:=pv) (vf:=C.f185) rfl ?_
 exact⟨_,rfl⟩
theorem vP {d:Nat} (h:d≠0):(d !=0)=true:=by simpa using h
abbrev nC (n:Nd):List PV:=[.int .i64 n.left,.int .i64 0,.int .i64 0,.int .i64 n.copy,.lst 4 (n.az.map aV) none]
theorem Ke {n:Nd} (h:n.az≠[]):nV n=nC n:=by rw[nV,QD h]
abbrev aC (a:Al):List PV:=[.int .i64 a.p,ksV a.ks,dN a.d,.int .i64 (dR a.d)]
theorem Uo {a:Al} (h:a.ks.length≤2):(M3 a).length<1000000:=by
 obtain⟨p,ks,d⟩:=a
 rcases ks with _|⟨x,_|⟨y,_|⟨z,ks⟩⟩⟩
 all_goals simp[M3] at h ⊢
theorem Dj (es:Nat) (l:List (List PV)):Et (slV es l):=by cases l<;>exact trivial
abbrev foL (f:Fo) (i:Nat):Fm:=[(k1,.v (.v (.s (.ptr k0 0)))),(k3,.v (.v (.s (.func 185 [] [])))),(k11,.v (PA.lst 5 (f.ns.map nV))),(k12,.v (iA (f.ns.map nV).length)),(k13,.v (iA i))]
theorem Ct {l:List Al} {k:Nat} {a:Al} (h:l[k]?=some a):(l.map aV)[(k:Int).toNat]?=some (aC a):=by simp[h,aV]
theorem Iv {l:List (Nat×Nat)} {k:Nat} {a:Nat×Nat} (h:l[k]?=some a):(l.map rV)[(k:Int).toNat]?=some [.int .i64 a.1,dN a.2,.int .i64 (dR a.2)]:=by simp[h,rV]
theorem yP (D:S6) {f:Fo} (w:WF f):Ag Fn 124 [foA f] (bA true):=by
 have hlen:(f.ns.map nV).length=f.ns.length:=Lm ..
 have hrlen:(f.rs.map rV).length=f.rs.length:=Lm ..
 have hL:=w.len
 have gn:∀(i:Nat) (n:Nd),f.ns[i]?=some n→(f.ns.map nV)[(i:Int).toNat]?=some (nC n):=fun i n h=>by
  rw[G0 h,Ke (w.as0 i n h)]
 have hf:=Da w.n0 w.r0
 rw[hf]
 refine Am (pu:=pv) (vf:=C.f124) rfl ?_
 refine XW.A7 (pu:=pv) (σ:=Nat) (fun i=>f.ns.length-i) (foL f)
  (fun i g=>g=mkH [(k0,foB f)] k1∧i≤f.ns.length) 0
  (Trim.of (l:=[(k0,foB f)]) (nx:=k1) [(k0,k0)] rfl (Zl) trivial Yb Yf) ⟨rfl,Zl⟩ ?_
 rintro i g ⟨rfl,hi⟩
 refine⟨fun h=>?_,fun h=>?_⟩
 ·have hi:i<f.ns.length:=by have:=Ao h;omega
  have hn:f.ns[i]?=some f.ns[i]:=Gg hi
  generalize hnn:f.ns[i]=n at hn
  have hg:=gn i n hn
  have nlen:(n.az.map aV).length=n.az.length:=Lm ..
  have nL:=w.Iy i n hn
  have hnp:0<n.az.length:=List.length_pos_iff.2 (w.as0 i n hn)
  have pn:=oG n
  rw[Ke (w.as0 i n hn)] at pn
  refine⟨_,⟨by omega,hg⟩,?_⟩
  have prev:¬0<i∨0<i∧∃m:Nd,(f.ns.map nV)[((i:Int)-1).toNat]?=some (nC m)∧Ag Fn 185 [PA.v (PC.agg (nC m))] (PA.lst 1 (iL [0,0,(m.left:Int),(m.copy:Int)]))∧Ag Fn 186 [PA.lst 1 (iL [0,0,(m.left:Int),(m.copy:Int)]),PA.lst 1 (iL [0,0,(n.left:Int),(n.copy:Int)])] (iA (B1 [0,0,(m.left:Int),(m.copy:Int)] [0,0,(n.left:Int),(n.copy:Int)]))∧B1 [0,0,(m.left:Int),(m.copy:Int)] [0,0,(n.left:Int),(n.copy:Int)]<0:=by
   by_cases hi0:0<i
   case neg=>exact .inl hi0
   have hm:f.ns[i-1]?=some f.ns[i-1]:=Gg (by omega)
   generalize hmm:f.ns[i-1]=m at hm
   have hg1:=gn (i-1) m hm
   rw[show((i-1:Nat):Int)=(i:Int)-1 from by omega] at hg1
   have pm:=oG m
   rw[Ke (w.as0 _ m hm)] at pm
   exact .inr ⟨hi0,m,hg1,pm,cL _ _ (Nat.lt_of_sub_eq_succ rfl) (Nat.lt_of_sub_eq_succ rfl),w.place (i-1) m n hm (by rw[show i-1+1=i from by omega];exact hn)⟩
  obtain hi0|⟨hi0,m,hg1,pm,cm,hpl⟩:=prev
  all_goals refine Yw1 ?_
  all_goals
   refine XW.A7 (pu:=pv) (σ:=Nat) (fun j=>n.az.length-j) (fun j=>(k5,.v (.v (.s (.ptr k1 0))))::(k64,.v (PA.lst 4 (n.az.map aV)))::(k65,.v (iA (n.az.map aV).length))::(k66,.v (iA j))::foL f i)
    (fun j g=>g=mkH [(k0,foB f),(k1,ob (nC n))] k2∧j≤n.az.length) 0
    (Trim.of (l:=[(k0,foB f),(k1,ob (nC n))]) (nx:=k2) [(k0,k0),(k1,k1)] rfl (Zl) trivial Yb Yf) ⟨rfl,Zl⟩ ?_
   rintro j g ⟨rfl,hj⟩
   refine⟨fun h=>?_,fun h=>?_⟩
   ·have hj:j<n.az.length:=by have:=Ao h;omega
    have ha:n.az[j]?=some n.az[j]:=Gg hj
    generalize haa:n.az[j]=a at ha
    have hga:=Ct ha
    obtain⟨a1,a2,a3,a4⟩:=w.al i n hn a (List.mem_of_getElem? ha)
    have ne:=D.ne a.d a3
    rw[vP a4] at ne
    have ps:=PZ f n a a1 (fun k hk=>Nat.lt_trans (a2 k hk) hi) w.len w.n0
    rw[hf,Ke (w.as0 i n hn)] at ps
    have ka:=DX a a1
    refine⟨_,⟨by omega,hga⟩,?_⟩
    have prevA:¬0<j∨0<j∧∃b:Al,(n.az.map aV)[((j:Int)-1).toNat]?=some (aC b)∧Ag Fn 189 [.v (.agg (aC b))] (PA.lst 1 (iL (M3 b)))∧Ag Fn 186 [PA.lst 1 (iL (M3 b)),PA.lst 1 (iL (M3 a))] (iA (B1 (M3 b) (M3 a)))∧B1 (M3 b) (M3 a)<0:=by
     by_cases hj0:0<j
     case neg=>exact .inl hj0
     have hb:n.az[j-1]?=some n.az[j-1]:=Gg (by omega)
     generalize hbb:n.az[j-1]=b at hb
     have hgb:=Ct hb
     rw[show((j-1:Nat):Int)=(j:Int)-1 from by omega] at hgb
     have b1:=(w.al i n hn b (List.mem_of_getElem? hb)).1
     exact .inr ⟨hj0,b,hgb,DX b b1,cL _ _ (Uo b1) (Uo a1),w.key i n hn (j-1) b a hb (by rw[show j-1+1=j from by omega];exact ha)⟩
    obtain hj0|⟨hj0,b,hgb,kb,ck,hke⟩:=prevA
    all_goals refine Yw1 ?_
    all_goals exact⟨j+1,_,_,by omega,Trim.of (l:=[(k0,foB f),(k1,ob (nC n))]) (nx:=k2) [(k0,k0),(k1,k1)] rfl (Zl) trivial Yb Yf,rfl,by omega⟩
   ·refine Yw1 ?_
    exact⟨i+1,_,_,by omega,Trim.of (l:=[(k0,foB f)]) (nx:=k1) [(k0,k0)] rfl (Zl) trivial Yb Yf,rfl,by omega⟩
 ·refine Yw1 ?_
  refine XW.A7 (pu:=pv) (σ:=Nat) (fun j=>f.rs.length-j) (fun j=>[(k1,.v (.v (.s (.ptr k0 0)))),(k107,.v (PA.lst 3 (f.rs.map rV))),(k108,.v (iA (f.rs.map rV).length)),(k109,.v (iA j))])
   (fun j g=>g=mkH [(k0,foB f)] k1∧j≤f.rs.length) 0
   (Trim.of (l:=[(k0,foB f)]) (nx:=k1) [(k0,k0)] rfl (Zl) trivial Yb Yf) ⟨rfl,Zl⟩ ?_
  rintro j g ⟨rfl,hj⟩
  refine⟨fun h=>?_,fun h=>?_⟩
  ·have hj:j<f.rs.length:=by have:=Ao h;omega
   have rL:=w.Oy
   have hr:f.rs[j]?=some f.rs[j]:=Gg hj
   generalize hrr:f.rs[j]=r at hr
   have hgr:=Iv hr
   obtain⟨r1,r2,r3⟩:=w.rt j r hr
   have ne:=D.ne r.2 r2
   rw[vP r3] at ne
   have prev:¬0<j∨0<j∧∃q:Nat×Nat,(f.rs.map rV)[((j:Int)-1).toNat]?=some [.int .i64 q.1,dN q.2,.int .i64 (dR q.2)]∧q.1<r.1:=by
    by_cases hj0:0<j
    case neg=>exact .inl hj0
    have hq:f.rs[j-1]?=some f.rs[j-1]:=Gg (by omega)
    have hgq:=Iv hq
    rw[show((j-1:Nat):Int)=(j:Int)-1 from by omega] at hgq
    exact .inr ⟨hj0,_,hgq,w.asc (j-1) _ r hq (by rw[show j-1+1=j from by omega];exact hr)⟩
   refine⟨_,⟨by omega,hgr⟩,?_⟩
   obtain hj0|⟨hj0,q,hgq,hlt⟩:=prev
   all_goals refine Yw1 ?_
   all_goals exact⟨j+1,_,_,by omega,Trim.of (l:=[(k0,foB f)]) (nx:=k1) [(k0,k0)] rfl (Zl) trivial Yb Yf,rfl,by omega⟩
  ·exact Yw0
def lt2 (a b:Al):Bool:=decide (B1 (M3 a) (M3 b)<0)
def chain:List Al→Bool
 |a::b::l=>lt2 a b&&chain (b::l)
 |_=>true
def fmB (n:Nd):Bool:=!n.az.isEmpty&&chain n.az
theorem oH:∀{l:List Al},(∀k a b,l[k]?=some a→l[k+1]?=some b→lt2 a b=true)→chain l=true
 |[],_=>rfl
 |[a],_=>rfl
 |a::b::l,h=>by
  simp only[chain,Bool.and_eq_true]
  exact⟨h 0 a b rfl rfl,oH fun k x y hx hy=>h (k+1) x y hx hy⟩
theorem cM:∀{l:List Al},chain l=true→∀k a b,l[k]?=some a→l[k+1]?=some b→lt2 a b=true
 |[],_,k,a,b,h,_=>by cases h
 |[a],_,k,x,y,hx,hy=>by cases k<;>simp at hy
 |a::b::l,h,k,x,y,hx,hy=>by
  simp only[chain,Bool.and_eq_true] at h
  cases k with
  |zero=>simp at hx hy;subst hx;subst hy;exact h.1
  |succ k=>exact cM h.2 k x y (by simpa using hx) (by simpa using hy)
structure WF0 (f:Fo):Prop where
 n0:f.ns≠[]
 r0:f.rs≠[]
 len:f.ns.length≤4
 Oy:f.rs.length=f.ns.length
 Iy:∀(i:Nat) (n:Nd),f.ns[i]?=some n→n.az.length≤3
 al:∀(i:Nat) (n:Nd),f.ns[i]?=some n→∀a∈n.az,a.ks.length≤2∧(∀k∈a.ks,k<i)∧a.d<16∧a.d≠0∧a.p<3
 place:∀(i:Nat) (m n:Nd),f.ns[i]?=some m→f.ns[i+1]?=some n→B1 [0,0,(m.left:Int),(m.copy:Int)] [0,0,(n.left:Int),(n.copy:Int)]<0
 rt:∀(i:Nat) (r:Nat×Nat),f.rs[i]?=some r→r.1=i∧r.2<16∧r.2≠0
theorem WF0.wf {f:Fo} (w:WF0 f) (h:∀n∈f.ns,fmB n=true):WF f where
 n0:=w.n0
 r0:=w.r0
 len:=by have:=w.len;omega
 Oy:=by have:=w.len;have:=w.Oy;omega
 as0 i n hn e:=by
  have:=h n (List.mem_of_getElem? hn)
  simp[fmB,e] at this
 Iy i n hn:=by have:=w.Iy i n hn;omega
 al i n hn a ha:=by
  obtain⟨h1,h2,h3,h4,_⟩:=w.al i n hn a ha
  exact⟨h1,h2,h3,h4⟩
 place:=w.place
 key i n hn k a b ha hb:=by
  have:=h n (List.mem_of_getElem? hn)
  simp only[fmB,Bool.and_eq_true] at this
  exact of_decide_eq_true (cM this.2 k a b ha hb)
 rt i r hr:=by
  obtain⟨h1,h2,h3⟩:=w.rt i r hr
  have:=(Gi.1 hr).1
  have:=w.Oy
  exact⟨by omega,h2,h3⟩
 asc i r q hr hq:=by
  have:=(w.rt i r hr).1
  have:=(w.rt _ q hq).1
  omega
theorem sN (D:S6) {f:Fo} (w:WF0 f) {i:Nat} {n:Nd} (hn:f.ns[i]?=some n):Ag Fn 87 [foA f,iA i] (bA (fmB n)):=by
 have hlen:(f.ns.map nV).length=f.ns.length:=Lm ..
 have hL:=w.len
 have hi:i<f.ns.length:=(Gi.1 hn).1
 have hf:=Da w.n0 w.r0
 rw[hf]
 have hg:=G0 hn
 refine Am (pu:=pv) (vf:=C.f87) rfl ?_
 refine⟨_,⟨by omega,hg⟩,?_⟩
 by_cases h0:n.az=[]
 ·obtain⟨l,c,az⟩:=n
  subst h0
  exact Yw0
 have nlen:(n.az.map aV).length=n.az.length:=Lm ..
 have nL:=w.Iy i n hn
 have hnp:0<n.az.length:=List.length_pos_iff.2 h0
 rw[Ke h0] at hg ⊢
 have prev:¬0<i∨0<i∧∃m:Nd,(f.ns.map nV)[((i:Int)-1).toNat]?=some (nV m)∧Ag Fn 159 [PA.lst 1 (iL [0,0,(m.left:Int),(m.copy:Int)]),PA.lst 1 (iL [0,0,(n.left:Int),(n.copy:Int)])] (iA (B1 [0,0,(m.left:Int),(m.copy:Int)] [0,0,(n.left:Int),(n.copy:Int)]))∧B1 [0,0,(m.left:Int),(m.copy:Int)] [0,0,(n.left:Int),(n.copy:Int)]<0:=by
  by_cases hi0:0<i
  case neg=>exact .inl hi0
  have hm:f.ns[i-1]?=some f.ns[i-1]:=Gg (by omega)
  generalize hmm:f.ns[i-1]=m at hm
  have hg1:=G0 hm
  rw[show((i-1:Nat):Int)=(i:Int)-1 from by omega] at hg1
  exact .inr ⟨hi0,m,hg1,Xw _ _ (Nat.lt_of_sub_eq_succ rfl) (Nat.lt_of_sub_eq_succ rfl),w.place (i-1) m n hm (by rw[show i-1+1=i from by omega];exact hn)⟩
 obtain hi0|⟨hi0,m,hg1,cm,hpl⟩:=prev
 all_goals refine Yw1 ?_
 all_goals
  refine XW.A7 (pu:=pv) (σ:=Nat) (fun j=>n.az.length-j) (fun j=>[(k2,.v (.v (.s (.ptr k0 0)))),(k5,.v (.v (.s (.ptr k1 0)))),(k7,.v (iA j))])
   (fun j g=>g=mkH [(k0,foB f),(k1,ob (nC n))] k2∧j≤n.az.length∧∀k a b,k+1<j→n.az[k]?=some a→n.az[k+1]?=some b→lt2 a b=true) 0
   (Trim.of (l:=[(k0,foB f),(k1,ob (nC n))]) (nx:=k2) [(k0,k0),(k1,k1)] rfl (Zl) trivial Yb Yf) ⟨rfl,Zl,fun k a b h=>absurd h (by omega)⟩ ?_
  rintro j g ⟨rfl,hj,hc⟩
  refine⟨fun h=>?_,fun h=>?_⟩
  ·have hj:j<n.az.length:=by have:=Ao h;omega
   have ha:n.az[j]?=some n.az[j]:=Gg hj
   generalize haa:n.az[j]=a at ha
   have hga:=Ct ha
   obtain⟨a1,a2,a3,a4,_⟩:=w.al i n hn a (List.mem_of_getElem? ha)
   have ne:=D.neR a.d a3
   rw[vP a4] at ne
   have ps:=JX f n a a1 (fun k hk=>Nat.lt_trans (a2 k hk) hi) (by omega) w.n0
   rw[hf,Ke h0] at ps
   have ka:=oD a a1
   have prevA:¬0<j∨0<j∧∃b:Al,n.az[j-1]?=some b∧(n.az.map aV)[((j:Int)-1).toNat]?=some (aC b)∧Ag Fn 162 [.v (.agg (aC b))] (PA.lst 1 (iL (M3 b)))∧Ag Fn 159 [PA.lst 1 (iL (M3 b)),PA.lst 1 (iL (M3 a))] (iA (B1 (M3 b) (M3 a))):=by
    by_cases hj0:0<j
    case neg=>exact .inl hj0
    have hb:n.az[j-1]?=some n.az[j-1]:=Gg (by omega)
    generalize hbb:n.az[j-1]=b at hb
    have hgb:=Ct hb
    rw[show((j-1:Nat):Int)=(j:Int)-1 from by omega] at hgb
    have b1:=(w.al i n hn b (List.mem_of_getElem? hb)).1
    exact .inr ⟨hj0,b,hb,hgb,oD b b1,Xw _ _ (Uo b1) (Uo a1)⟩
   refine⟨_,⟨by omega,hga⟩,?_⟩
   obtain hj0|⟨hj0,b,hb,hgb,kb,ck⟩:=prevA
   ·refine Yw1 ?_
    exact⟨j+1,_,_,by omega,Trim.of (l:=[(k0,foB f),(k1,ob (nC n))]) (nx:=k2) [(k0,k0),(k1,k1)] rfl (Zl) trivial Yb Yf,rfl,by omega,fun k x y hk=>absurd hk (by omega)⟩
   ·repeat'(try conv=>whnf)<;>first|(refine⟨fun h=>?_,fun h=>?_⟩<;>first|exact J8 h|exact Mx h|exact absurd (Ao h) (by omega)|exact absurd (A1 h) (by omega)|replace h:=Ao h|replace h:=A1 h|skip)|refine⟨_,⟨by omega,by assumption⟩,?_⟩|refine⟨_,⟨by omega,rfl⟩,?_⟩|refine⟨_,_,_,(rfl:Dk _ _ _=_),by assumption,?_⟩|refine⟨_,_,_,Dg (by repeat' first|exact trivial|refine⟨?_,?_⟩|exact Dj _ _|(show Et _;assumption)|fail),by assumption,?_⟩|refine⟨(by omega:_∧_),?_⟩|refine⟨(by omega:_≠_),?_⟩|refine⟨_,_,(rfl:opP _ _ _=_),?_⟩|exact⟨_,(rfl:E8 _ _ _=_)⟩|fail
    ·have e:fmB n=false:=by
      cases hh:fmB n with
      |false=>rfl
      |true=>
       simp only[fmB,Bool.and_eq_true] at hh
       have:=of_decide_eq_true (cM hh.2 (j-1) b a hb (by rw[show j-1+1=j from by omega];exact ha))
       omega
     rw[e];exact⟨_,rfl⟩
    ·refine⟨j+1,_,_,by omega,Trim.of (l:=[(k0,foB f),(k1,ob (nC n))]) (nx:=k2) [(k0,k0),(k1,k1)] rfl (Zl) trivial Yb Yf,rfl,by omega,fun k x y hk hx hy=>?_⟩
     by_cases hkj:k+1<j
     ·exact hc k x y hkj hx hy
     ·have e1:k=j-1:=by omega
      subst e1
      rw[hb] at hx;cases hx
      rw[show j-1+1=j from by omega,ha] at hy;cases hy
      exact decide_eq_true (by omega)
  ·have e:fmB n=true:=by
    have hjj:j=n.az.length:=by have:=A1 h;omega
    simp only[fmB,Bool.and_eq_true]
    refine⟨by simpa using h0,oH fun k a b ha hb=>hc k a b ?_ ha hb⟩
    have:=(Gi.1 hb).1
    omega
   rw[e]
   exact Yw0
end Go.Pv
end
section
noncomputable section
namespace Go.Pv
open Go.Vm
theorem vQ {g:Ab} {b:Key} {c:List PV} {own frz:Bool} {anc:List Key} {log:List (Nat×Nat)} (hg:g.get b=some ⟨.cells c,own,frz,anc,log⟩) {o n:Nat} (h:o+n≤c.length):g.read b o n=some ((c.drop o).take n):=by
 unfold Ab.read
 by_cases h0:n=0
 ·subst h0;simp
 ·rw[if_neg h0];simp only[Ab.cells,hg,if_pos h]
theorem ld1 {g:Ab} {b:Key} {c:List PV} {own frz:Bool} {anc:List Key} {log:List (Nat×Nat)} {o:Nat} {x:PV} (hg:g.get b=some ⟨.cells c,own,frz,anc,log⟩) (h:c[o]?=some x):opP .Bm [.v (.s (.ptr b o))] g=some (.v (.s x),g):=by
 obtain⟨h1,h2⟩:=Gi.1 h
 simp only[opP,Lk,vQ hg (show o+1≤c.length from h1)]
 rw[List.drop_eq_getElem_cons h1,h2];rfl
theorem oI {g:Ab} {b:Key} {c:List PV} {log:List (Nat×Nat)} (hg:g.get b=some ⟨.cells c,true,false,[],log⟩) {o:Nat} {l:List PV} (h:o+l.length≤c.length):g.write b o l=some (g.upd b (some ⟨.cells (Ab.over c o l),true,false,[],(o,l.length)::log⟩)):=by
 unfold Ab.write
 rw[hg]
 simp only
 rw[if_pos ⟨h,rfl⟩];rfl
theorem EA {c:List PV} {o:Nat} {y:PV} (h:o<c.length):Ab.over c o [y]=c.set o y:=by
 simp only[Ab.over,List.length_cons,List.length_nil]
 rw[List.set_eq_take_append_cons_drop,if_pos h];simp
theorem st1 {g:Ab} {b:Key} {c:List PV} {log:List (Nat×Nat)} {o:Nat} {y:PV} (hg:g.get b=some ⟨.cells c,true,false,[],log⟩) (h:o<c.length):opP (.store 1) [.v (.s (.ptr b o)),.v (.s y)] g=some (.unit,g.upd b (some ⟨.cells (c.set o y),true,false,[],(o,1)::log⟩)):=by
 simp only[opP,Ll,PC.cells,List.length_cons,List.length_nil,if_true]
 rw[oI hg (by simp only[List.length_cons,List.length_nil];omega),EA h];rfl
theorem Wf {g:Ab} {b:Key} {c:List PV} {own frz:Bool} {anc:List Key} {log:List (Nat×Nat)} {i:Nat} {x:PV} (hg:g.get b=some ⟨.cells c,own,frz,anc,log⟩) (h:c[i]?=some x):opP .Bm [.v (.s (.ptr b (0+(i:Int).toNat*1)))] g=some (.v (.s x),g):=ld1 hg (by simpa using h)
theorem Wg {g:Ab} {b:Key} {c c':List PV} {log:List (Nat×Nat)} {i:Nat} {y:PV} (hg:g.get b=some ⟨.cells c,true,false,[],log⟩) (h:i<c.length) (hc:c.set i y=c'):opP (.store 1) [.v (.s (.ptr b (0+(i:Int).toNat*1))),.v (.s y)] g=some (.unit,g.upd b (some ⟨.cells c',true,false,[],(i,1)::log⟩)):=by
 have:=st1 (y:=y) hg h
 rw[hc] at this
 simpa using this
def Aw {α:Type} (f:α→List PV) (l:List α):List PV:=l.flatMap f
section
variable {α:Type} {f:α→List PV} {es:Nat}
theorem Kf (hf:∀x,(f x).length=es):∀l:List α,(Aw f l).length=l.length*es
 |[]=>by simp[Aw]
 |x::l=>by
  have:=Kf hf l
  simp only[Aw,List.flatMap_cons,La,hf,List.length_cons] at this ⊢
  rw[this,Nat.succ_mul,Nat.add_comm]
theorem Za (hf:∀x,(f x).length=es):∀{l:List α} {i:Nat} {x:α},l[i]?=some x→((Aw f l).drop (i*es)).take es=f x∧i*es+es≤(Aw f l).length
 |[],i,x,h=>by cases h
 |y::l,0,x,h=>by
  cases h
  have h1:(f y).length=es:=hf y
  refine⟨?_,?_⟩
  ·simp only[Aw,List.flatMap_cons,Nat.zero_mul,List.drop_zero]
   rw[List.take_append_of_le_length (by omega),List.take_of_length_le (by omega)]
  ·rw[Kf hf,List.length_cons,Nat.succ_mul];omega
 |y::l,i+1,x,h=>by
  have h1:(f y).length=es:=hf y
  obtain⟨h2,h3⟩:=Za hf (l:=l) (i:=i) (x:=x) (by simpa using h)
  rw[Kf hf] at h3
  refine⟨?_,?_⟩
  ·rw[←h2]
   simp only[Aw,List.flatMap_cons,Nat.succ_mul]
   rw[List.drop_append,List.drop_of_length_le (by omega),h1,Nat.add_sub_cancel];simp
  ·rw[Kf hf,List.length_cons,Nat.succ_mul,Nat.succ_mul];omega
theorem oJ (hf:∀x,(f x).length=es):∀{l:List α} {i:Nat} {y:α},i<l.length→Ab.over (Aw f l) (i*es) (f y)=Aw f (l.set i y)
 |[],i,x,h=>by cases h
 |z::l,0,x,h=>by
  have h1:(f z).length=es:=hf z
  simp only[Aw,Ab.over,List.flatMap_cons,Nat.zero_mul,List.take_zero,List.nil_append,Nat.zero_add,hf x,List.set_cons_zero]
  rw[List.drop_append_of_le_length (by omega),List.drop_of_length_le (by omega)];simp
 |z::l,i+1,x,h=>by
  have h1:(f z).length=es:=hf z
  have:=oJ hf (l:=l) (i:=i) (y:=x) (by simpa using h)
  simp only[Aw,Ab.over,List.flatMap_cons,hf x,List.set_cons_succ,Nat.succ_mul] at this ⊢
  rw[←this]
  rw[List.take_append,List.take_of_length_le (by omega),h1,Nat.add_sub_cancel,List.drop_append,List.drop_of_length_le (show(f z).length≤i*es+es+es by omega),h1,show i*es+es+es-es=i*es+es from by omega]
  simp
theorem yQ (hf:∀x,(f x).length=es) {l:List α} {i k:Nat} {x:α} (h:l[i]?=some x) (hk:k<es):(Aw f l)[i*es+k]?=(f x)[k]?:=by
 obtain⟨h1,h2⟩:=Za hf h
 rw[←h1,List.getElem?_take_of_lt hk,List.getElem?_drop]
theorem ldf (hf:∀x,(f x).length=es) {g:Ab} {b:Key} {own frz:Bool} {anc:List Key} {log:List (Nat×Nat)} {l:List α} {i k:Nat} {x:α} {y:PV} (hg:g.get b=some ⟨.cells (Aw f l),own,frz,anc,log⟩) (h:l[i]?=some x) (hk:k<es) (hy:(f x)[k]?=some y):opP .Bm [.v (.s (.ptr b (0+(i:Int).toNat*es+k)))] g=some (.v (.s y),g):=by
 refine ld1 hg ?_
 rw[Nat.zero_add,Int.toNat_natCast,yQ hf h hk,hy]
theorem ldn (hf:∀x,(f x).length=es) {g:Ab} {b:Key} {own frz:Bool} {anc:List Key} {log:List (Nat×Nat)} {l:List α} {i:Nat} {x:α} (hg:g.get b=some ⟨.cells (Aw f l),own,frz,anc,log⟩) (h:l[i]?=some x):opP (.B5 es) [.v (.s (.ptr b (0+(i:Int).toNat*es)))] g=some (.v (.agg (f x)),g):=by
 obtain⟨h1,h2⟩:=Za hf h
 simp only[opP,Nat.zero_add,Int.toNat_natCast,Fz,vQ hg h2,h1]
theorem stn (hf:∀x,(f x).length=es) {g:Ab} {b:Key} {log:List (Nat×Nat)} {l:List α} {i:Nat} {y:α} (hg:g.get b=some ⟨.cells (Aw f l),true,false,[],log⟩) (h:i<l.length):opP (.store es) [.v (.s (.ptr b (0+(i:Int).toNat*es))),.v (.agg (f y))] g=some (.unit,g.upd b (some ⟨.cells (Aw f (l.set i y)),true,false,[],(i*es,es)::log⟩)):=by
 have h2:i*es+es≤(Aw f l).length:=(Za hf (Gg h)).2
 simp only[opP,Nat.zero_add,Int.toNat_natCast,Ll,PC.cells,hf,if_true]
 rw[oI hg (by rw[hf];exact h2),oJ hf h,hf]
end
end Go.Pv
end
section
noncomputable section
namespace Go.Pv
open Go.Vm Go.Vm.C
open Go.Vm.Key (kn)
set_option maxRecDepth 10000
set_option maxHeartbeats 0
theorem yR (D:S6) {f:Fo} (w:WF0 f):Ag Fn 88 [foA f] (bA true):=by
 have hlen:(f.ns.map nV).length=f.ns.length:=Lm ..
 have hrlen:(f.rs.map rV).length=f.rs.length:=Lm ..
 have hL:=w.len
 have rL:=w.Oy
 rw[Da w.n0 w.r0]
 refine Am (pu:=pv) (vf:=C.f88) rfl ?_
 refine XW.A7 (pu:=pv) (σ:=Nat) (fun j=>f.rs.length-j) (fun j=>[(k1,.v (.v (.s (.ptr k0 0)))),(k3,.v (iA j))])
  (fun j g=>g=mkH [(k0,foB f)] k1∧j≤f.rs.length) 0
  (Trim.of (l:=[(k0,foB f)]) (nx:=k1) [(k0,k0)] rfl (Zl) trivial Yb Yf) ⟨rfl,Zl⟩ ?_
 rintro j g ⟨rfl,hj⟩
 refine⟨fun h=>?_,fun h=>?_⟩
 ·have hj:j<f.rs.length:=by have:=Ao h;omega
  have hr:f.rs[j]?=some f.rs[j]:=Gg hj
  generalize hrr:f.rs[j]=r at hr
  have hgr:=Iv hr
  obtain⟨r1,r2,r3⟩:=w.rt j r hr
  have ne:=D.neR r.2 r2
  rw[vP r3] at ne
  have prev:¬0<j∨0<j∧∃q:Nat×Nat,(f.rs.map rV)[((j:Int)-1).toNat]?=some [.int .i64 q.1,dN q.2,.int .i64 (dR q.2)]∧q.1<r.1:=by
   by_cases hj0:0<j
   case neg=>exact .inl hj0
   have hq:f.rs[j-1]?=some f.rs[j-1]:=Gg (by omega)
   have hgq:=Iv hq
   rw[show((j-1:Nat):Int)=(j:Int)-1 from by omega] at hgq
   have:=(w.rt (j-1) _ hq).1
   exact .inr ⟨hj0,_,hgq,by omega⟩
  refine⟨_,⟨by omega,hgr⟩,?_⟩
  obtain hj0|⟨hj0,q,hgq,hlt⟩:=prev
  all_goals refine Yw1 ?_
  all_goals exact⟨j+1,_,_,by omega,Trim.of (l:=[(k0,foB f)]) (nx:=k1) [(k0,k0)] rfl (Zl) trivial Yb Yf,rfl,by omega⟩
 ·exact Yw0
def bV (b:Bool):PV:=.bool b
theorem cN (z:PV):∀n,Oj [z] n=List.replicate n z
 |0=>rfl
 |n+1=>by rw[Oj,cN z n];rfl
def upto (n j:Nat):List PV:=List.replicate j (bV true)++List.replicate (n-j) (bV false)
theorem EB {n j:Nat} (h:j≤n):(upto n j).length=n:=by simp[upto];omega
theorem EC {n j:Nat} (h:j<n):(upto n j).set j (bV true)=upto n (j+1):=by
 unfold upto
 rw[List.set_append_right _ _ (by simp)]
 simp only[List.length_replicate,Nat.sub_self]
 rw[show n-j=(n-(j+1))+1 from by omega,List.replicate_succ,List.set_cons_zero,List.replicate_succ',List.append_assoc];rfl
theorem ED {n j:Nat}:(List.replicate n (bV true)).set j (bV true)=List.replicate n (bV true):=by
 simp
theorem kH (n:Nat) (b:Bool):∀v∈List.replicate n (bV b),Ae v:=fun v h=>by
 rw[List.eq_of_mem_replicate h];exact trivial
theorem vR (n j:Nat):∀v∈upto n j,Ae v:=fun v h=>by
 rcases List.mem_append.1 h with h|h
 ·exact kH _ _ v h
 ·exact kH _ _ v h
theorem sO {f:Fo} (w:WF0 f) (v:WF f):Ag Fn 89 [foA f] (bA true):=by
 have hlen:(f.ns.map nV).length=f.ns.length:=Lm ..
 have hrlen:(f.rs.map rV).length=f.rs.length:=Lm ..
 have hL:=w.len
 have rL:=w.Oy
 rw[Da w.n0 w.r0]
 refine Am (pu:=pv) (vf:=C.f89) rfl ?_
 refine⟨_,_,Dc (n:=f.ns.length) rfl (by rw[hlen]) (by omega) (by omega),?_⟩
 rw[cN]
 refine XW.A7 (pu:=pv) (σ:=Nat) (fun j=>f.rs.length-j) (fun j=>[(k1,.v (.v (.s (.ptr k0 0)))),(k3,.v (.v (.s (.slice k1 0 f.ns.length 1 (some f.ns.length))))),(k4,.v (iA j))])
  (fun j g=>g=mkH [(k0,foB f),(k1,ob (upto f.ns.length j))] k2∧j≤f.rs.length) 0
  (Trim.of (l:=[(k0,foB f),(k1,ob (upto f.ns.length 0))]) (nx:=k2) [(k0,k0),(k1,k1)] rfl (Zl) trivial ⟨⟨_,_,rfl,rfl,.same Yc⟩,⟨_,_,rfl,rfl,.same (Ae.cells (vR _ _))⟩,trivial⟩ Yf) ⟨rfl,Zl⟩ ?_
 rintro j g ⟨rfl,hj⟩
 refine⟨fun h=>?_,fun h=>?_⟩
 ·have hj:j<f.rs.length:=by have:=Ao h;omega
  have hr:f.rs[j]?=some f.rs[j]:=Gg hj
  generalize hrr:f.rs[j]=r at hr
  have hgr:=Iv hr
  obtain⟨r1,r2,r3⟩:=w.rt j r hr
  rw[r1] at hgr
  refine Yw1 ?_
  refine⟨_,_,Wg rfl (by rw[EB (by omega)];omega) (EC (by omega)),?_⟩
  refine Yw1 ?_
  exact⟨j+1,_,_,by omega,Trim.of (l:=[(k0,foB f),(k1,ob (upto f.ns.length (j+1)))]) (nx:=k2) [(k0,k0),(k1,k1)] rfl (Zl) trivial ⟨⟨_,_,rfl,rfl,.same Yc⟩,⟨_,_,rfl,rfl,.same (Ae.cells (vR _ _))⟩,trivial⟩ Yf,rfl,by omega⟩
 have hjj:j=f.ns.length:=by have:=A1 h;omega
 subst hjj
 have hup:upto f.ns.length f.ns.length=List.replicate f.ns.length (bV true):=by simp[upto]
 rw[hup]
 have ge:∀i,i<f.ns.length→(List.replicate f.ns.length (bV true))[i]?=some (bV true):=fun i hi=>by simp[hi]
 generalize hc:List.replicate f.ns.length (bV true)=c
 have cl:c.length=f.ns.length:=by rw[←hc];simp
 have cnk:∀v∈c,Ae v:=by rw[←hc];exact kH _ _
 rw[hc] at ge
 have tr:∀{L1 L2:Fm} {g1:Ab} {log1:List (Nat×Nat)},g1.get k0=some (foB f)→g1.get k1=some (obl c log1)→M1 (rho 0 [(k0,k0),(k1,k1)]) L1 L2→Trim 0 (rho 0 [(k0,k0),(k1,k1)]) L1 g1 L2 (mkH [(k0,foB f),(k1,ob c)] k2):=fun h1 h2 h3=>
  Trim.of [(k0,k0),(k1,k1)] rfl (Zl) trivial ⟨⟨_,_,rfl,h1,.same Yc⟩,⟨_,_,rfl,h2,.same (Ae.cells cnk)⟩,trivial⟩ h3
 have cset:∀i,c.set i (bV true)=c:=fun i=>by rw[←hc];exact ED
 refine Yw1 ?_
 refine XW.A7 (pu:=pv) (σ:=Nat) (fun p=>f.ns.length-p) (fun p=>[(k1,.v (.v (.s (.ptr k0 0)))),(k3,.v (.v (.s (.slice k1 0 f.ns.length 1 (some f.ns.length))))),(k5,.v (iA p))])
  (fun p g=>g=mkH [(k0,foB f),(k1,ob c)] k2∧p≤f.ns.length) 0
  (tr rfl rfl Yf) ⟨rfl,Zl⟩ ?_
 rintro p g ⟨rfl,hp⟩
 refine⟨fun h=>?_,fun h=>?_⟩
 ·have hp:p<f.ns.length:=by have:=Ao h;omega
  refine XW.A7 (pu:=pv) (σ:=Nat) (fun i=>f.ns.length-i) (fun i=>[(k1,.v (.v (.s (.ptr k0 0)))),(k3,.v (.v (.s (.slice k1 0 f.ns.length 1 (some f.ns.length))))),(k5,.v (iA p)),(k6,.v (iA i))])
   (fun i g=>g=mkH [(k0,foB f),(k1,ob c)] k2∧i≤f.ns.length) 0
   (tr rfl rfl Yf) ⟨rfl,Zl⟩ ?_
  rintro i g ⟨rfl,hi⟩
  refine⟨fun h=>?_,fun h=>?_⟩
  ·have hi:i<f.ns.length:=by have:=Ao h;omega
   have hn:f.ns[i]?=some f.ns[i]:=Gg hi
   generalize hnn:f.ns[i]=n at hn
   have hg:=G0 hn
   rw[Ke (v.as0 i n hn)] at hg
   have nlen:(n.az.map aV).length=n.az.length:=Lm ..
   have nL:=w.Iy i n hn
   refine XW.A7 (pu:=pv) (σ:=Nat) (fun j=>n.az.length-j) (fun j=>[(k1,.v (.v (.s (.ptr k0 0)))),(k3,.v (.v (.s (.slice k1 0 f.ns.length 1 (some f.ns.length))))),(k5,.v (iA p)),(k6,.v (iA i)),(k7,.v (iA j))])
    (fun j g=>g=mkH [(k0,foB f),(k1,ob c)] k2∧j≤n.az.length) 0
    (tr rfl rfl Yf) ⟨rfl,Zl⟩ ?_
   rintro j g ⟨rfl,hj⟩
   refine⟨by omega,_,_,Wf rfl (ge i hi),?_⟩
   repeat'(try conv=>whnf)<;>first|(refine⟨fun h=>?_,fun h=>?_⟩<;>first|exact J8 h|exact Mx h|exact absurd (Ao h) (by omega)|exact absurd (A1 h) (by omega)|replace h:=Ao h|replace h:=A1 h|skip)|refine⟨_,⟨by omega,by assumption⟩,?_⟩|refine⟨_,⟨by omega,rfl⟩,?_⟩|refine⟨_,_,_,(rfl:Dk _ _ _=_),by assumption,?_⟩|refine⟨_,_,_,Dg (by repeat' first|exact trivial|refine⟨?_,?_⟩|exact Dj _ _|(show Et _;assumption)|fail),by assumption,?_⟩|refine⟨(by omega:_∧_),?_⟩|refine⟨(by omega:_≠_),?_⟩|refine⟨_,_,(rfl:opP _ _ _=_),?_⟩|exact⟨_,(rfl:E8 _ _ _=_)⟩|fail
   ·have hj:j<n.az.length:=by omega
    have ha:n.az[j]?=some n.az[j]:=Gg hj
    generalize haa:n.az[j]=a at ha
    have hga:=Ct ha
    obtain⟨a1,a2,_⟩:=w.al i n hn a (List.mem_of_getElem? ha)
    obtain⟨ap,ks,d⟩:=a
    rcases ks with _|⟨x,_|⟨y,_|⟨z,ks⟩⟩⟩
    ·refine XW.Ad (pu:=pv) ?_
     refine Yw1 ?_
     exact⟨j+1,_,_,by omega,tr rfl rfl Yf,rfl,by omega⟩
    ·have hx:=a2 x (by simp)
     refine XW.Ad (pu:=pv) ?_
     refine Yw1 ?_
     refine⟨_,_,Wg rfl (by omega) (cset x),?_⟩
     refine Yw1 ?_
     refine XW.Ad (pu:=pv) ?_
     refine Yw1 ?_
     exact⟨j+1,_,_,by omega,tr rfl rfl Yf,rfl,by omega⟩
    ·have hx:=a2 x (by simp)
     have hy:=a2 y (by simp)
     refine XW.Ad (pu:=pv) ?_
     refine Yw1 ?_
     refine⟨_,_,Wg rfl (by omega) (cset x),?_⟩
     refine Yw1 ?_
     refine XW.Ad (pu:=pv) ?_
     refine Yw1 ?_
     refine⟨_,_,Wg rfl (by omega) (cset y),?_⟩
     refine Yw1 ?_
     refine XW.Ad (pu:=pv) ?_
     refine Yw1 ?_
     exact⟨j+1,_,_,by omega,tr rfl rfl Yf,rfl,by omega⟩
    ·simp at a1
   ·exact⟨i+1,_,_,by omega,tr rfl rfl Yf,rfl,by omega⟩
  ·refine Yw1 ?_
   exact⟨p+1,_,_,by omega,tr rfl rfl Yf,rfl,by omega⟩
 ·refine Yw1 ?_
  refine XW.A7 (pu:=pv) (σ:=Nat) (fun j=>f.ns.length-j) (fun j=>[(k3,.v (.v (.s (.slice k1 0 f.ns.length 1 (some f.ns.length))))),(k9,.v (iA j))])
   (fun j g=>g=mkH [(k0,foB f),(k1,ob c)] k2∧j≤f.ns.length) 0 (tr rfl rfl Yf) ⟨rfl,Zl⟩ ?_
  rintro j g ⟨rfl,hj⟩
  refine⟨fun h=>?_,fun h=>?_⟩
  ·have hj:j<f.ns.length:=by have:=Ao h;omega
   refine Yw1 ?_
   refine⟨_,_,Wf rfl (ge j hj),?_⟩
   refine Yw1 ?_
   exact⟨j+1,_,_,by omega,tr rfl rfl Yf,rfl,by omega⟩
  ·exact Yw0
end Go.Pv
end
section
noncomputable section
namespace Go.Pv
open Go.Vm
open Go.Vm.Key (kn)
section
variable {ρ μ:Key→Option Key} (inv:∀k k' j,μ k=some k'→ρ k'=some j→j=k)
include inv
theorem kI:∀{l m n:List (Key×Nat)},rnK μ l=some m→rnK ρ m=some n→n=l
 |[],m,n,h,e=>by cases h;cases e;rfl
 |(k,o)::l,m,n,h,e=>by
  simp only[rnK] at h
  split at h
  ·next j hj=>
   split at h
   ·next r hr=>
    cases h
    simp only[rnK] at e
    split at e
    ·next i hi=>
     split at e
     ·next q hq=>cases e;rw[inv k j i hj hi,kI hr hq]
     ·cases e
    ·cases e
   ·cases h
  ·cases h
theorem kJ {x y z:PV} (h:rnV μ x=some y) (e:rnV ρ y=some z):z=x:=by
 cases x with
 |ptr b o=>
  simp only[rnV] at h
  split at h
  ·next j hj=>
   cases h;simp only[rnV] at e
   split at e
   ·next i hi=>cases e;rw[inv b j i hj hi]
   ·cases e
  ·cases h
 |slice b o len es cap=>
  simp only[rnV] at h
  split at h
  ·next j hj=>
   cases h;simp only[rnV] at e
   split at e
   ·next i hi=>cases e;rw[inv b j i hj hi]
   ·cases e
  ·cases h
 |map b=>
  simp only[rnV] at h
  split at h
  ·next j hj=>
   cases h;simp only[rnV] at e
   split at e
   ·next i hi=>cases e;rw[inv b j i hj hi]
   ·cases e
  ·cases h
 |func f fs cs=>
  simp only[rnV] at h
  split at h
  ·next a ha=>
   split at h
   ·next b hb=>
    cases h;simp only[rnV] at e
    split at e
    ·next a' ha'=>
     split at e
     ·next b' hb'=>cases e;rw[kI inv ha ha',kI inv hb hb']
     ·cases e
    ·cases e
   ·cases h
  ·cases h
 |_=>simp only[rnV,Sj] at h;subst h;simp only[rnV,Sj] at e;exact e.symm
theorem cO:∀{l m n:List PV},Aa (fun x y=>rnV μ x=some y) l m→Aa (fun x y=>rnV ρ x=some y) m n→n=l
 |[],m,n,h,e=>by cases h;cases e;rfl
 |x::l,m,n,h,e=>by
  cases h with
  |cons h1 h2=>cases e with
   |cons e1 e2=>rw[kJ inv h1 e1,cO h2 e2]
theorem vS {x y z:PC} (h:RnC μ x y) (e:RnC ρ y z):z=x:=by
 cases x<;>cases y<;>cases z<;>simp only[RnC] at h e
 ·rw[kJ inv h e]
 ·rw[cO inv h e]
theorem JZ {x y z:C5} (h:RnB μ x y) (e:RnB ρ y z):z=x:=by
 cases x<;>cases y<;>cases z<;>simp only[RnB] at h e
 ·rw[cO inv h e]
 ·next l m n=>
  congr 1
  induction h generalizing n with
  |nil=>cases e;rfl
  |cons h1 _ ih=>cases e with
   |cons e1 e2=>rw[ih _ e2,Prod.ext (vS inv h1.1 e1.1) (vS inv h1.2 e1.2)]
 ·next m n st m' n' st' m'' n'' st''=>
  obtain⟨h1,rfl,rfl⟩:=h
  obtain⟨e1,rfl,rfl⟩:=e
  rw[inv m m' m'' h1 e1]
theorem Iu.rn {new:List (Nat×Nat)} {y y' x x':C5} {C C':Body} (hx:RnB ρ y x) (hx':RnB μ x' y') (k:Iu new y y' C C'):Iu new x x' C C' where
 same e:=by
  obtain⟨h1,h2⟩:=k.same e
  subst h1
  exact⟨(JZ inv hx' hx).symm,h2⟩
 kind l' e:=by
  subst e
  cases y'<;>simp only[RnB] at hx'
  obtain⟨l,rfl⟩:=k.kind _ rfl
  cases x<;>simp only[RnB] at hx
  exact⟨_,rfl⟩
 cells l c m e1 e2:=by
  subst e1
  cases y<;>simp only[RnB] at hx
  obtain⟨l',c',h1,h2,h3,h4⟩:=k.cells _ c m rfl e2
  subst h1
  cases x'<;>simp only[RnB] at hx'
  refine⟨_,c',rfl,h2,by rw[Ah hx',h3,Ah hx],fun i hi=>?_⟩
  obtain⟨h5,h6⟩:=h4 i hi
  refine⟨?_,h6⟩
  next l1 l2=>
  cases e1:l2[i]? with
  |none=>
   have a1:=List.getElem?_eq_none_iff.1 e1
   refine(List.getElem?_eq_none_iff.2 ?_).symm
   rw[←Ah hx,←h3,←Ah hx'];exact a1
  |some a=>
   obtain⟨b,hb,hab⟩:=Ax hx' i e1
   rw[h5] at hb
   obtain⟨d,hd,hbd⟩:=Ax hx i hb
   rw[hd,kJ inv hab hbd]
end
structure EE (ρ μ:Key→Option Key) (g gc g2 gc':Ab):Prop where
 old:∀k j,k.toNat<g.next.toNat→(μ k=some j↔ρ j=some k)
 new:∀k j,¬k.toNat<g.next.toNat→μ k=some j→¬j.toNat<gc.next.toNat
 rng:∀j k,ρ j=some k→k.toNat<g.next.toNat
 inj:∀k k' j,μ k=some j→μ k'=some j→k=k'
 dom:∀k j,μ k=some j→j.toNat<gc'.next.toNat→k.toNat<g2.next.toNat
 blk:∀k x,g2.get k=some x→(∃j y,μ k=some j∧gc'.get j=some y∧G8 μ gc' x y)∨(μ k=none∧g.get k=some x)
 dead:∀k,g2.get k=none→(∀j,μ k=some j→gc'.get j=none)∧(k.toNat<g.next.toNat→μ k=none→g.get k=none)
 next:g.next.toNat≤g2.next.toNat
 log:∀k j x x' y y',k.toNat<g.next.toNat→μ k=some j→g.get k=some x→g2.get k=some x'→gc.get j=some y→gc'.get j=some y'→∀new,y'.log=new++y.log→x'.log=new++x.log
variable {F:A4}
theorem oK {g gc:Ab} {ρ:Key→Option Key} (t:Trim 0 ρ [] g [] gc) {s:Sta} (hs:Good s) (hg:s.g=g):Good ⟨s.Z,Ren.via ρ s.p,gc,s.h⟩:=by
 subst hg
 exact t.D0 (Z:=s.Z) (p:=s.p) (h:=s.h) hs
theorem cP {Z:ZM} {p:Ren} {ρ:Key→Option Key}:∀{argc args:List PA},Aa (RnA ρ) argc args→∀{vs:List AV},Aa (AR Z p) args vs→Aa (AR Z (Ren.via ρ p)) argc vs
 |[],[],.nil,[],.nil=>.nil
 |_::_,_::_,.cons a1 a2,_::_,.cons b1 b2=>.cons (kA a1 b1) (cP a2 b2)
theorem oL {g gc gc' g2:Ab} {ρ μ:Key→Option Key} (t:Trim 0 ρ [] g [] gc) {s:Sta} (hs:Good s) (hg:s.g=g) {Z':ZM} {pc:Ren} {h':Ac} {rc r:PA} {u:AV} (h2:Good ⟨Z',pc,gc',h'⟩)
  (h3:Ba gc.next.toNat s.h.next.toNat ⟨s.Z,Ren.via ρ s.p,gc,s.h⟩ ⟨Z',pc,gc',h'⟩) (h4:AR Z' pc rc u) (B:EE ρ μ g gc g2 gc') (hr:RnA μ r rc) :
  ∃p2,Good ⟨Z',p2,g2,h'⟩∧Ba s.g.next.toNat s.h.next.toNat s ⟨Z',p2,g2,h'⟩∧AR Z' p2 r u:=by
 subst hg
 have hsc:=t.D0 (Z:=s.Z) (p:=s.p) (h:=s.h) hs
 have nxh:=h3.nx.2
 simp only at nxh
 let p2:Ren:=fun k=>match Nat.blt k.toNat s.g.next.toNat with
  |true=>s.p k
  |false=>(μ k).bind pc
 have lo:∀k:Key,k.toNat<s.g.next.toNat→p2 k=s.p k:=fun k hk=>by
  have:Nat.blt k.toNat s.g.next.toNat=true:=by rw[Nat.blt_eq];exact hk
  simp only[p2,this]
 have hi:∀k:Key,¬k.toNat<s.g.next.toNat→p2 k=(μ k).bind pc:=fun k hk=>by
  have:Nat.blt k.toNat s.g.next.toNat=false:=by
   cases hh:Nat.blt k.toNat s.g.next.toNat with
   |false=>rfl
   |true=>rw[Nat.blt_eq] at hh;exact absurd hh hk
  simp only[p2,this]
 have hvia:∀{j k b},ρ j=some k→s.p k=some b→Ren.via ρ s.p j=some b:=fun e e'=>by rw[Ls e];exact e'
 have via':∀{j b},Ren.via ρ s.p j=some b→∃k,ρ j=some k∧s.p k=some b:=fun e=>by
  simpa only[Ren.via,Option.bind_eq_some_iff] using e
 have hmu:∀k j,μ k=some j→p2 k=pc j:=by
  intro k j e
  by_cases hk:k.toNat<s.g.next.toNat
  ·rw[lo k hk]
   have e1:=(B.old k j hk).1 e
   cases hp:s.p k with
   |some b=>exact(h3.ple j b (hvia e1 hp)).symm
   |none=>
    cases hc:pc j with
    |none=>rfl
    |some b=>
     rcases h3.I7 j b hc with h6|h6
     ·obtain⟨k',h7,h8⟩:=via' h6
      rw[e1] at h7;cases h7
      rw[hp] at h8;cases h8
     ·have:=(t.dom j k e1 hk).1
      have h7:=h6.1
      (try simp only at h7);omega
  ·rw[hi k hk,e];rfl
 have ple2:PLe (Ren.via μ pc) p2:=fun k b e=>by
  simp only[Ren.via,Option.bind_eq_some_iff] at e
  obtain⟨j,e1,e2⟩:=e
  rw[hmu k j e1];exact e2
 have pleS:PLe s.p p2:=fun k b e=>by rw[lo k (hs.pk k b e).1];exact e
 have apart:∀k b,k.toNat<s.g.next.toNat→μ k=none→s.p k=some b→∀j,Ren.via ρ s.p j≠some b:=by
  intro k b hk hm hp j e
  obtain⟨k',e1,e2⟩:=via' e
  cases hs.inj k k' b hp e2
  rw[(B.old k j hk).2 e1] at hm;cases hm
 have same:∀k b,k.toNat<s.g.next.toNat→μ k=none→s.p k=some b→h'.get b=s.h.get b:=fun k b hk hm hp=>h3.frame b (hs.pk k b hp).2 (apart k b hk hm hp)
 have inv:∀k j i,μ k=some j→ρ j=some i→i=k:=by
  intro k j i e e'
  have h6:=B.rng j i e'
  exact B.inj i k j ((B.old i j h6).2 e') e
 refine⟨p2,?_,?_,?_⟩
 ·refine⟨⟨?_,?_,h2.z,?_⟩,⟨?_,h2.zr,h2.top⟩⟩
  ·intro k k' b e e'
   simp only at e e'
   have mix:∀k k',k.toNat<s.g.next.toNat→¬k'.toNat<s.g.next.toNat→p2 k=some b→p2 k'=some b→k=k':=by
    intro k k' hk hk' e e'
    rw[lo k hk] at e
    rw[hi k' hk'] at e'
    simp only[Option.bind_eq_some_iff] at e'
    obtain⟨j,e1,e2⟩:=e'
    rcases h3.I7 j b e2 with h6|h6
    ·obtain⟨i,h7,h8⟩:=via' h6
     have:=hs.inj k i b e h8
     subst this
     exact(inv k' j k e1 h7)
    ·have:=(hs.pk k b e).2
     have:=h6.2
     (try simp only at this);omega
   by_cases hk:k.toNat<s.g.next.toNat<;>by_cases hk':k'.toNat<s.g.next.toNat
   ·rw[lo k hk] at e;rw[lo k' hk'] at e';exact hs.inj k k' b e e'
   ·exact mix k k' hk hk' e e'
   ·exact(mix k' k hk' hk e' e).symm
   ·rw[hi k hk] at e;rw[hi k' hk'] at e'
    simp only[Option.bind_eq_some_iff] at e e'
    obtain⟨j,e1,e2⟩:=e
    obtain⟨j',e3,e4⟩:=e'
    cases h2.inj j j' b e2 e4
    exact B.inj k k' j e1 e3
  ·intro k x hx
   rcases B.blk k x hx with⟨j,y,e1,e2,e3⟩|⟨e2,e3⟩
   ·obtain⟨b,z,e4,e5,e6⟩:=h2.blk j y e2
    refine⟨b,z,by rw[show(⟨Z',p2,g2,h'⟩:Sta).p k=p2 k from rfl,hmu k j e1];exact e4,e5,⟨(vM e3.body e6.body).mono (fun _ _ h=>h) ple2,fun ho=>?_,fun hf=>e6.N1 (by rw[←e3.frz];exact hf),fun hf=>e6.frz (by rw[←e3.frz];exact hf)⟩⟩
    obtain⟨h7,h8⟩:=e3.own ho
    obtain⟨h9,h10⟩:=e6.own h7
    exact⟨h9,h8.rel h2.toCg hmu h10⟩
   ·obtain⟨b,z,e4,e5,e6⟩:=hs.blk k x e3
    have e1:=(hs.pk k b e4).1
    refine⟨b,z,pleS _ _ e4,by rw[show(⟨Z',p2,g2,h'⟩:Sta).h=h' from rfl,same k b e1 e2 e4];exact e5,⟨e6.body.mono h3.zle pleS,fun ho=>?_,fun hf=>?_,fun hf=>h3.zle _ _ (e6.frz hf)⟩⟩
    ·obtain⟨h9,h10⟩:=e6.own ho
     exact⟨h9,h10.mono h3.zle pleS⟩
    ·cases hz:Z' b with
     |none=>exact hz
     |some c=>
      rcases h3.Fg b c hz with h6|⟨j,h6⟩|h6
      ·exact absurd (e6.N1 hf) h6
      ·exact absurd h6 (apart k b e1 e2 e4 j)
      ·have:=(hs.pk k b e4).2
       (try simp only at h6);omega
  ·intro k b hp hg2
   simp only at hp hg2
   obtain⟨d1,d2⟩:=B.dead k hg2
   cases hm:μ k with
   |some j=>
    rw[hmu k j hm] at hp
    exact h2.dead j b hp (d1 j hm)
   |none=>
    by_cases hk:k.toNat<s.g.next.toNat
    ·rw[lo k hk] at hp
     show h'.get b=none
     rw[same k b hk hm hp]
     exact hs.dead k b hp (d2 hk hm)
    ·rw[hi k hk,hm] at hp;cases hp
  ·intro k b hp
   simp only at hp ⊢
   have:=B.next
   by_cases hk:k.toNat<s.g.next.toNat
   ·rw[lo k hk] at hp
    have:=(hs.pk k b hp).2
    exact⟨by omega,by omega⟩
   ·rw[hi k hk] at hp
    simp only[Option.bind_eq_some_iff] at hp
    obtain⟨j,e1,e2⟩:=hp
    have h6:=h2.pk j b e2
    exact⟨B.dom k j e1 h6.1,h6.2⟩
 ·refine⟨⟨B.next,nxh⟩,h3.zle,pleS,?_,?_,?_,?_,?_⟩
  ·intro k b hp
   simp only at hp
   by_cases hk:k.toNat<s.g.next.toNat
   ·rw[lo k hk] at hp;exact .inl hp
   ·rw[hi k hk] at hp
    simp only[Option.bind_eq_some_iff] at hp
    obtain⟨j,e1,e2⟩:=hp
    rcases h3.I7 j b e2 with h6|h6
    ·have:=(hsc.pk j b h6).1
     exact absurd this (B.new k j hk e1)
    ·exact .inr ⟨by omega,h6.2⟩
  ·intro b c hz
   rcases h3.Fg b c hz with h6|⟨j,h6⟩|h6
   ·exact .inl h6
   ·obtain⟨k,_,h8⟩:=via' h6
    exact .inr (.inl ⟨k,h8⟩)
   ·exact .inr (.inr h6)
  ·intro b hb hn
   refine h3.frame b hb fun j e=>?_
   obtain⟨k,_,h8⟩:=via' e
   exact hn k h8
  ·intro k b hp hg
   simp only
   cases hx:g2.get k with
   |none=>rfl
   |some x=>
    rcases B.blk k x hx with⟨j,y,e1,e2,e3⟩|⟨e2,e3⟩
    ·have e4:=(B.old k j (hs.pk k b hp).1).1 e1
     have e5:gc.get j=none:=by
      cases hj:gc.get j with
      |none=>rfl
      |some z=>
       obtain⟨i,w,e6,e7,_⟩:=t.blk j z hj
       rw[e4] at e6;cases e6
       rw[hg] at e7;cases e7
     have:=h3.gone j b (hvia e4 hp) e5
     simp only at this
     rw[e2] at this;cases this
    ·rw[hg] at e3;cases e3
  ·intro k x x' hx hx'
   simp only at hx'
   obtain⟨b0,_,hp0,_⟩:=hs.blk k x hx
   have hk:=(hs.pk k b0 hp0).1
   rcases B.blk k x' hx' with⟨j,y',e1,e2,e3⟩|⟨e2,e3⟩
   ·have e4:=(B.old k j hk).1 e1
    cases hj:gc.get j with
    |none=>rw[t.dead j k e4 hj] at hx;cases hx
    |some y=>
     obtain⟨i,w,e6,e7,e8⟩:=t.blk j y hj
     rw[e4] at e6;cases e6
     rw[hx] at e7;cases e7
     obtain⟨new,l1,l2⟩:=h3.log j y y' hj e2
     refine⟨new,B.log k j x x' y y' hk e1 hx hx' hj e2 new l1,fun b z hp hz=>?_⟩
     obtain⟨z',hz',hkp⟩:=l2 b z (hvia e4 hp) hz
     exact⟨z',hz',Iu.rn inv e8.body e3.body hkp⟩
   ·rw[hx] at e3;cases e3
    refine⟨[],rfl,fun b z hp hz=>⟨z,?_,Iu.refl _ _⟩⟩
    show h'.get b=some z
    rw[same k b hk e2 hp];exact hz
 ·exact(kA hr h4).mono (fun _ _ h=>h) ple2
theorem XC.sub {f:Nat} {args argc:List PA} {g gc:Ab} {ρ:Key→Option Key} {R Rc:PA→Ab→Prop} (t:Trim 0 ρ [] g [] gc) (ha:Aa (RnA ρ) argc args) (h:XC F f argc gc Rc)
  (hR:∀rc gc',Rc rc gc'→∃μ r g2,EE ρ μ g gc g2 gc'∧RnA μ r rc∧R r g2):XC F f args g R:=by
 intro s hs hg vs hv
 obtain⟨N,u,h',Z',pc,rc,gc',h1,h2,h3,h4,h5⟩:=h _ (oK t hs hg) rfl vs (cP ha hv)
 obtain⟨μ,r,g2,B,hr,hRr⟩:=hR rc gc' h5
 obtain⟨p2,k1,k2,k3⟩:=oL t hs hg h2 h3 h4 B hr
 exact⟨N,u,h',Z',p2,r,g2,h1,k1,k2,k3,hRr⟩
def G4:List (Key×Key)→List (Key×Key)
 |[]=>[]
 |(j,k)::r=>(k,j)::G4 r
theorem vT:∀{r:List (Key×Key)} {ks js:List Key} {lo nx:Nat} {l:List (Key×Ap)},D3 lo nx l r ks js=true→∀j k,Bu r j=some k↔Bu (G4 r) k=some j
 |[],ks,js,lo,nx,l,_,j,k=>⟨fun h=>(by cases h),fun h=>(by cases h)⟩
 |(a,b)::r,ks,js,lo,nx,l,h,j,k=>by
  simp only[D3,Bool.and_eq_true,Nat.ble_eq,Nat.blt_eq,Bool.not_eq_true',List.any_eq_false] at h
  obtain⟨⟨⟨⟨⟨⟨h1,h2⟩,h3⟩,h4⟩,h5⟩,h6⟩,h7⟩:=h
  obtain⟨i1,i2⟩:=Gz h7
  have ih:=vT h7 j k
  simp only[Bu,G4]
  cases e1:keq a j<;>cases e2:keq b k<;>simp only
  ·exact ih
  ·have:=Cz e2;subst this
   refine⟨fun h=>?_,fun h=>?_⟩
   ·exact absurd (List.mem_cons_self ..) (i1 j b h).2.2.2.2.2
   ·simp only[Sj] at h;subst h;rw[Cs] at e1;cases e1
  ·have:=Cz e1;subst this
   refine⟨fun h=>?_,fun h=>?_⟩
   ·simp only[Sj] at h;subst h;rw[Cs] at e2;cases e2
   ·exact absurd (List.mem_cons_self ..) (i1 a k (ih.2 h)).2.2.2.2.1
  ·rw[Cz e1,Cz e2];simp
def muR (r nw:List (Key×Key)):Key→Option Key:=Bu (G4 r++nw)
theorem Wh:∀(a b:List (Key×Key)) (k:Key),Bu (a++b) k=match Bu a k with
  |some j=>some j
  |none=>Bu b k
 |[],b,k=>rfl
 |(x,y)::a,b,k=>by
  simp only[List.cons_append,Bu]
  cases keq x k
  ·exact Wh a b k
  ·rfl
def K5 (gn nx nx2:Nat):List (Key×Key)→List Key→List Key→Bool
 |[],_,_=>true
 |(k,j)::r,ks,js=>Nat.ble gn k.toNat&&Nat.blt k.toNat nx2&&Nat.ble nx j.toNat&&!ks.any (keq k)&&!js.any (keq j)&&K5 gn nx nx2 r (k::ks) (j::js)
theorem Uq {gn nx nx2:Nat}:∀{r:List (Key×Key)} {ks js:List Key},K5 gn nx nx2 r ks js=true →
  (∀k j,Bu r k=some j→gn≤k.toNat∧k.toNat<nx2∧nx≤j.toNat∧k∉ks∧j∉js)∧(∀k k' j,Bu r k=some j→Bu r k'=some j→k=k')
 |[],ks,js,_=>⟨fun k j h=>(by cases h),fun k k' j h=>(by cases h)⟩
 |(a,b)::r,ks,js,h=>by
  simp only[K5,Bool.and_eq_true,Nat.ble_eq,Nat.blt_eq,Bool.not_eq_true',List.any_eq_false] at h
  obtain⟨⟨⟨⟨⟨h1,h2⟩,h3⟩,h5⟩,h6⟩,h7⟩:=h
  obtain⟨i1,i2⟩:=Uq h7
  have ha:a∉ks:=fun hm=>by have:=h5 a hm;rw[Cs] at this;exact this rfl
  have hb:b∉js:=fun hm=>by have:=h6 b hm;rw[Cs] at this;exact this rfl
  refine⟨fun k j hk=>?_,fun k k' j hk hk'=>?_⟩
  ·simp only[Bu] at hk
   split at hk
   ·next he=>cases hk;rw[←Cz he];exact⟨h1,h2,h3,ha,hb⟩
   ·obtain⟨a1,a2,a3,a5,a6⟩:=i1 k j hk
    exact⟨a1,a2,a3,fun hm=>a5 (List.mem_cons_of_mem _ hm),fun hm=>a6 (List.mem_cons_of_mem _ hm)⟩
  ·simp only[Bu] at hk hk'
   cases e1:keq a k<;>cases e2:keq a k'<;>simp only[e1,e2] at hk hk'
   ·exact i2 k k' j hk hk'
   ·cases hk'
    exact absurd (List.mem_cons_self ..) (i1 k b hk).2.2.2.2
   ·cases hk
    exact absurd (List.mem_cons_self ..) (i1 k' b hk').2.2.2.2
   ·rw[←Cz e1,←Cz e2]
def M4 (mu:Key→Option Key) (g gc':Ab) (l:List (Key×Ap)):List (Key×Key)→List (Option Ap)→Prop
 |[],[]=>True
 |(j,k)::r,some x::xs=>(∃y x0 y0,gc'.get j=some y∧G8 mu gc' x y∧g.get k=some x0∧Hb l j=some y0∧y0.log=[]∧x.log=y.log++x0.log)∧M4 mu g gc' l r xs
 |(j,_)::r,none::xs=>gc'.get j=none∧M4 mu g gc' l r xs
 |_,_=>False
def oM (mu:Key→Option Key) (gc':Ab):List (Key×Key)→List Ap→Prop
 |[],[]=>True
 |(k,j)::r,x::xs=>(∃y,gc'.get j=some y∧G8 mu gc' x y)∧oM mu gc' r xs
 |_,_=>False
def S7 (t:Tr Ap):List (Key×Key)→List (Option Ap)→Tr Ap
 |(_,k)::r,x::xs=>(S7 t r xs).upd k x
 |_,_=>t
def Wi (t:Tr Ap):List (Key×Key)→List Ap→Tr Ap
 |(k,_)::r,x::xs=>(Wi t r xs).upd k (some x)
 |_,_=>t
theorem Ur {mu:Key→Option Key} {g gc':Ab} {l:List (Key×Ap)} (t:Tr Ap):∀{r:List (Key×Key)} {xs:List (Option Ap)},M4 mu g gc' l r xs→∀k,(Bu (G4 r) k=none∧(S7 t r xs).get k=t.get k) ∨
  (∃j x y x0 y0,Bu (G4 r) k=some j∧(S7 t r xs).get k=some x∧gc'.get j=some y∧G8 mu gc' x y∧g.get k=some x0∧Hb l j=some y0∧y0.log=[]∧x.log=y.log++x0.log) ∨
  (∃j,Bu (G4 r) k=some j∧(S7 t r xs).get k=none∧gc'.get j=none)
 |[],[],_,k=>.inl ⟨rfl,rfl⟩
 |[],_::_,h,k=>h.elim
 |_::_,[],h,k=>h.elim
 |(j,i)::r,x::xs,h,k=>by
  cases e:keq i k with
  |true=>
   have:=Cz e;subst this
   cases x with
   |some x=>
    obtain⟨⟨y,x0,y0,h1,h2⟩,h3⟩:=h
    exact .inr (.inl ⟨j,x,y,x0,y0,by simp only[G4,Bu,Cs],by simp only[S7,Tr.Av,if_true],h1,h2⟩)
   |none=>exact .inr (.inr ⟨j,by simp only[G4,Bu,Cs],by simp only[S7,Tr.Av,if_true],h.1⟩)
  |false=>
   have:i≠k:=fun hh=>by subst hh;rw[Cs] at e;cases e
   have h3:M4 mu g gc' l r xs:=by cases x<;>exact h.2
   simp only[G4,Bu,S7,Tr.Av,e,if_neg this]
   exact Ur t h3 k
theorem Us {mu:Key→Option Key} {gc':Ab} (t:Tr Ap):∀{r:List (Key×Key)} {xs:List Ap},oM mu gc' r xs→∀k,(Bu r k=none∧(Wi t r xs).get k=t.get k) ∨
  (∃j x y,Bu r k=some j∧(Wi t r xs).get k=some x∧gc'.get j=some y∧G8 mu gc' x y)
 |[],[],_,k=>.inl ⟨rfl,rfl⟩
 |[],_::_,h,k=>h.elim
 |_::_,[],h,k=>h.elim
 |(i,j)::r,x::xs,h,k=>by
  obtain⟨⟨y,h1,h2⟩,h3⟩:=h
  simp only[Bu,Wi,Tr.Av]
  cases e:keq i k with
  |true=>
   have:=Cz e;subst this
   exact .inr ⟨j,x,y,rfl,if_pos rfl,h1,h2⟩
  |false=>
   have:i≠k:=fun hh=>by subst hh;rw[Cs] at e;cases e
   rw[if_neg this]
   exact Us t h3 k
def sP (n:Nat):List (Key×Key)→Bool
 |[]=>true
 |(_,k)::r=>Nat.blt k.toNat n&&sP n r
theorem Wj {n:Nat}:∀{r:List (Key×Key)},sP n r=true→∀j k,Bu r j=some k→k.toNat<n
 |[],_,j,k,h=>by cases h
 |(a,b)::r,h,j,k,hk=>by
  simp only[sP,Bool.and_eq_true,Nat.blt_eq] at h
  simp only[Bu] at hk
  split at hk
  ·cases hk;exact h.1
  ·exact Wj h.2 j k hk
noncomputable def sQ (k:Key):(Key→Prop)→Prop:=@Key.rec (fun _=>(Key→Prop)→Prop) (fun K=>K .h) (fun _ ih K=>ih fun k=>K (.o k)) (fun _ ih K=>ih fun k=>K (.i k)) k
def EF (v:Option Ap) (K:Option Ap→Prop):Prop:=
 match v with
 |none=>K none
 |some x=>K (some x)
noncomputable def sR (t:Tr Ap):(Tr Ap→Prop)→Prop:=@Tr.rec Ap (fun _=>(Tr Ap→Prop)→Prop) (fun K=>K .z) (fun _ v _ il ir K=>il fun l=>EF v fun v=>ir fun r=>K (.n l v r)) t
noncomputable def Wk (g:Ab) (K:Ab→Prop):Prop:=sR g.mem fun m=>sQ g.next fun k=>K ⟨m,k⟩
theorem Wl:∀(k:Key) {K:Key→Prop},sQ k K→K k
 |.h,_,h=>h
 |.o k,K,h=>Wl k (K:=fun k=>K (.o k)) h
 |.i k,K,h=>Wl k (K:=fun k=>K (.i k)) h
theorem Ra:∀(t:Tr Ap) {K:Tr Ap→Prop},sR t K→K t
 |.z,_,h=>h
 |.n l v r,K,h=>by
  have h1:=Ra l (K:=fun l=>EF v fun v=>sR r fun r=>K (.n l v r)) h
  cases v with
  |none=>exact Ra r (K:=fun r=>K (.n l none r)) h1
  |some x=>exact Ra r (K:=fun r=>K (.n l (some x) r)) h1
theorem Rb {g:Ab} {K:Ab→Prop} (h:Wk g K):K g:=Wl g.next (K:=fun k=>K ⟨g.mem,k⟩) (Ra g.mem (K:=fun m=>sQ g.next fun k=>K ⟨m,k⟩) h)
theorem EG {g:Ab} {l:List (Key×Ap)} {nx:Key} {r:List (Key×Key)} (hn:D3 0 nx.toNat l r [] []=true) (hb:Ou (rho 0 r) g l):Trim 0 (rho 0 r) [] g [] (mkH l nx):=Trim.of r hn (Zl) trivial hb trivial
theorem EH {g gc':Ab} {l:List (Key×Ap)} {nx nx2:Key} {r nw:List (Key×Key)} {xs:List (Option Ap)} {ys:List Ap} (hn:D3 0 nx.toNat l r [] []=true) (hlow:sP g.next.toNat r=true)
  (h1:K5 g.next.toNat nx.toNat nx2.toNat nw [] []=true) (h2:g.next.toNat≤nx2.toNat) (h3:M4 (muR r nw) g gc' l r xs) (h4:oM (muR r nw) gc' nw ys):EE (rho 0 r) (muR r nw) g (mkH l nx) ⟨S7 (Wi g.mem nw ys) r xs,nx2⟩ gc':=by
 have hrho:rho 0 r=Bu r:=by
  funext k
  have:Nat.blt k.toNat 0=false:=by
   cases hh:Nat.blt k.toNat 0 with
   |false=>rfl
   |true=>rw[Nat.blt_eq] at hh;omega
  simp only[rho,this]
 obtain⟨s1,s2⟩:=Gz hn
 have fl:=vT hn
 obtain⟨f1,f2⟩:=Uq h1
 have old:∀k j,Bu (G4 r) k=some j→k.toNat<g.next.toNat:=fun k j e=>Wj hlow j k ((fl j k).2 e)
 have mu1:∀k j,Bu (G4 r) k=some j→muR r nw k=some j:=fun k j e=>by rw[muR,Wh,e]
 have mu2:∀k,Bu (G4 r) k=none→muR r nw k=Bu nw k:=fun k e=>by rw[muR,Wh,e]
 refine⟨?_,?_,?_,?_,?_,?_,?_,h2,?_⟩
 ·intro k j hk
  rw[hrho,fl j k]
  cases e:Bu (G4 r) k with
  |some i=>rw[mu1 k i e]
  |none=>
   rw[mu2 k e]
   refine⟨fun h=>?_,fun h=>by cases h⟩
   have:=(f1 k j h).1;omega
 ·intro k j hk hm
  cases e:Bu (G4 r) k with
  |some i=>exact absurd (old k i e) hk
  |none=>
   rw[mu2 k e] at hm
   have:=(f1 k j hm).2.2.1
   show ¬j.toNat<nx.toNat
   omega
 ·intro j k e
  rw[hrho] at e
  exact Wj hlow j k e
 ·intro k k' j e e'
  cases a:Bu (G4 r) k with
  |some i=>
   rw[mu1 k i a] at e;cases e
   cases a':Bu (G4 r) k' with
   |some i'=>
    rw[mu1 k' i' a'] at e';cases e'
    have b1:=(fl j k).2 a
    have b2:=(fl j k').2 a'
    rw[b1] at b2;cases b2;rfl
   |none=>
    rw[mu2 k' a'] at e'
    have b1:=(s1 j k ((fl j k).2 a)).2.2.1
    have:=(f1 k' j e').2.2.1;omega
  |none=>
   rw[mu2 k a] at e
   cases a':Bu (G4 r) k' with
   |some i'=>
    rw[mu1 k' i' a'] at e';cases e'
    have b1:=(s1 j k' ((fl j k').2 a')).2.2.1
    have:=(f1 k j e).2.2.1;omega
   |none=>rw[mu2 k' a'] at e';exact f2 k k' j e e'
 ·intro k j e _
  cases a:Bu (G4 r) k with
  |some i=>
   have:=old k i a
   show k.toNat<nx2.toNat
   omega
  |none=>
   rw[mu2 k a] at e
   exact(f1 k j e).2.1
 ·intro k x hx
  have hx:(S7 (Wi g.mem nw ys) r xs).get k=some x:=hx
  rcases Ur (Wi g.mem nw ys) h3 k with⟨a1,a2⟩|⟨j,x',y,x0,y0,a1,a2,a3,a4,_⟩|⟨j,a1,a2,a3⟩
  ·rw[a2] at hx
   rcases Us g.mem h4 k with⟨b1,b2⟩|⟨j,x',y,b1,b2,b3,b4⟩
   ·rw[b2] at hx
    exact .inr ⟨by rw[mu2 k a1];exact b1,hx⟩
   ·rw[b2] at hx;cases hx
    exact .inl ⟨j,y,by rw[mu2 k a1];exact b1,b3,b4⟩
  ·rw[a2] at hx;cases hx
   exact .inl ⟨j,y,mu1 k j a1,a3,a4⟩
  ·rw[a2] at hx;cases hx
 ·intro k hx
  have hx:(S7 (Wi g.mem nw ys) r xs).get k=none:=hx
  rcases Ur (Wi g.mem nw ys) h3 k with⟨a1,a2⟩|⟨j,x',y,x0,y0,a1,a2,_⟩|⟨j,a1,a2,a3⟩
  ·rw[a2] at hx
   rcases Us g.mem h4 k with⟨b1,b2⟩|⟨j,x',y,b1,b2,_⟩
   ·rw[b2] at hx
    exact⟨fun j e=>(by rw[mu2 k a1,b1] at e;cases e),fun _ _=>hx⟩
   ·rw[b2] at hx;cases hx
  ·rw[a2] at hx;cases hx
  ·refine⟨fun i e=>?_,fun _ e=>?_⟩
   ·rw[mu1 k j a1] at e;cases e;exact a3
   ·rw[mu1 k j a1] at e;cases e
 ·intro k j x x' y y' hk e hx hx' hy hy' new hl
  have hx':(S7 (Wi g.mem nw ys) r xs).get k=some x':=hx'
  rcases Ur (Wi g.mem nw ys) h3 k with⟨a1,a2⟩|⟨j',x2,y2,x0,y0,a1,a2,a3,a4,a5,a6,a7,a8⟩|⟨j',a1,a2,a3⟩
  ·rw[a2] at hx'
   rw[mu2 k a1] at e
   rcases Us g.mem h4 k with⟨b1,b2⟩|⟨j',x2,y2,b1,b2,b3,b4⟩
   ·rw[b1] at e;cases e
   ·have:=(f1 k j e).1;omega
  ·rw[a2] at hx';cases hx'
   rw[mu1 k j' a1] at e;cases e
   rw[a3] at hy';cases hy'
   rw[a5] at hx;cases hx
   rw[Ih,a6] at hy;cases hy
   rw[a7,List.append_nil] at hl
   rw[a8,hl]
  ·rw[a2] at hx';cases hx'
theorem XC.Be {f:Nat} {args argc:List PA} {g:Ab} {R Rc:PA→Ab→Prop} {l:List (Key×Ap)} {nx:Key} (r:List (Key×Key)) (h:XC F f argc (mkH l nx) Rc) (hn:D3 0 nx.toNat l r [] []=true) (hlow:sP g.next.toNat r=true)
  (hb:Ou (rho 0 r) g l) (ha:Aa (RnA (rho 0 r)) argc args)
  (hR:∀rc gc',Rc rc gc'→∃nw nx2 xs ys r2,K5 g.next.toNat nx.toNat nx2.toNat nw [] []=true∧g.next.toNat≤nx2.toNat∧M4 (muR r nw) g gc' l r xs∧oM (muR r nw) gc' nw ys∧RnA (muR r nw) r2 rc∧Wk ⟨S7 (Wi g.mem nw ys) r xs,nx2⟩ (R r2)):XC F f args g R:=
 XC.sub (EG hn hb) ha h fun rc gc' hrc=>by
  obtain⟨nw,nx2,xs,ys,r2,h1,h2,h3,h4,h5,h6⟩:=hR rc gc' hrc
  exact⟨muR r nw,r2,_,EH hn hlow h1 h2 h3 h4,h5,Rb h6⟩
end Go.Pv
end
section
noncomputable section
namespace Go.Pv
open Go.Vm Go.Vm.C
open Go.Vm.Key (kn)
set_option maxRecDepth 10000
set_option maxHeartbeats 0
theorem Wm:∀d,(dC d).length=2:=fun _=>rfl
theorem vU (l:List Nat):∀v∈Aw dC l,Ae v:=fun v h=>by
 simp only[Aw,List.mem_flatMap,dC,List.mem_cons,List.not_mem_nil,or_false] at h
 obtain⟨d,_,rfl|rfl⟩:=h
 ·exact Ar _ _
 ·exact trivial
theorem vV:∀n,Oj [.Af,.int .i64 (.ofNat 0)] n=Aw dC (List.replicate n 0)
 |0=>rfl
 |n+1=>by rw[Oj,vV n];rfl
def dz:Nat→Nat
 |0=>0
 |_=>15
def dsA (ph n j:Nat):List Nat:=List.replicate j 15++List.replicate (n-j) (dz ph)
theorem vW {ph n j:Nat} (h:j≤n):(dsA ph n j).length=n:=by simp[dsA];omega
theorem QF {ph n j i:Nat} (h:i<j):(dsA ph n j)[i]?=some 15:=by
 unfold dsA;rw[List.getElem?_append_left (by simpa using h)];simp[h]
theorem QG {ph n j:Nat} (h:j<n):(dsA ph n j)[j]?=some (dz ph):=by
 unfold dsA;rw[List.getElem?_append_right (by simp),List.getElem?_replicate,if_pos (by simp;omega)]
theorem KA {ph n j:Nat} (h:j<n):(dsA ph n j).set j 15=dsA ph n (j+1):=by
 unfold dsA
 rw[List.set_append_right _ _ (by simp)]
 simp only[List.length_replicate,Nat.sub_self]
 rw[show n-j=(n-(j+1))+1 from by omega,List.replicate_succ,List.set_cons_zero,List.replicate_succ',List.append_assoc];rfl
theorem Zb {ph n j:Nat} (h:j≤n):dsA (ph+1) n j=List.replicate n 15:=by
 show List.replicate j 15++List.replicate (n-j) 15=_
 rw[List.replicate_append_replicate]
 congr 1;omega
theorem KB {ph n:Nat}:dsA ph n n=List.replicate n 15:=by simp[dsA]
theorem yS (D:S6) {a:Al} (ha:a.ks.length≤2) {l:List Nat} {N:Nat} (hN:N=l.length) (hl:∀k∈a.ks,l[k]?=some 15) (hln:N≤4) :
  XC Fn 164 [.v (.agg (aC a)),.v (.s (.slice k0 0 N 2 (some N)))] (mkH [(k0,ob (Aw dC l))] k1) fun r g'=>r=dA 15∧g'.get k0=some (ob (Aw dC l)):=by
 have d0:=D.con
 have d1:=D.int
 obtain⟨ap,ks,d⟩:=a
 have lt:∀k∈ks,k<N:=fun k hk=>by have:=(Gi.1 (hl k hk)).1;omega
 refine XC.of (pu:=pv) (vf:=C.f164) rfl ?_
 rcases ks with _|⟨x,_|⟨y,_|⟨z,ks⟩⟩⟩
 ·refine Yw1 ?_
  refine XW.Ad (pu:=pv) ?_
  refine Yw1 ?_
  exact⟨rfl,rfl⟩
 ·have hx:=lt x (by simp)
  refine Yw1 ?_
  refine XW.Ad (pu:=pv) ?_
  refine Yw1 ?_
  refine⟨_,_,ldn Wm rfl (hl x (by simp)),?_⟩
  refine Yw1 ?_
  refine XW.Ad (pu:=pv) ?_
  refine Yw1 ?_
  exact⟨rfl,rfl⟩
 ·have hx:=lt x (by simp)
  have hy:=lt y (by simp)
  refine Yw1 ?_
  refine XW.Ad (pu:=pv) ?_
  refine Yw1 ?_
  refine⟨_,_,ldn Wm rfl (hl x (by simp)),?_⟩
  refine Yw1 ?_
  refine XW.Ad (pu:=pv) ?_
  refine Yw1 ?_
  refine⟨_,_,ldn Wm rfl (hl y (by simp)),?_⟩
  refine Yw1 ?_
  refine XW.Ad (pu:=pv) ?_
  refine Yw1 ?_
  exact⟨rfl,rfl⟩
 ·simp at ha
theorem sS (D:S6) {f:Fo} (w:WF0 f) (v:WF f):Ag Fn 90 [foA f] (bA true):=by
 have hlen:(f.ns.map nV).length=f.ns.length:=Lm ..
 have hL:=w.len
 have hn0:0<f.ns.length:=List.length_pos_iff.2 w.n0
 rw[Da w.n0 w.r0]
 have d0:=D.con
 have d1:=D.int
 have d2:=D.NH
 have d3:=D.NI
 refine Am (pu:=pv) (vf:=C.f90) rfl ?_
 refine XC.of (pu:=pv) (vf:=C.f163) rfl ?_
 refine⟨_,_,Dc (n:=f.ns.length) rfl (by rw[hlen]) (by omega) (by omega),?_⟩
 rw[vV]
 generalize hN:f.ns.length=N at *
 have tr:∀{l:List Nat} {L1 L2:Fm} {g1:Ab} {log1:List (Nat×Nat)} {b0 b1:Key},D3 0 k2.toNat [(k0,foB f),(k1,ob (Aw dC l))] [(k0,b0),(k1,b1)] [] []=true→g1.get b0=some (foB f)→g1.get b1=some (obl (Aw dC l) log1)→M1 (rho 0 [(k0,b0),(k1,b1)]) L1 L2→Trim 0 (rho 0 [(k0,b0),(k1,b1)]) L1 g1 L2 (mkH [(k0,foB f),(k1,ob (Aw dC l))] k2):=fun h0 h1 h2 h3=>
  Trim.of _ h0 (Zl) trivial ⟨⟨_,_,rfl,h1,.same Yc⟩,⟨_,_,rfl,h2,.same (Ae.cells (vU _))⟩,trivial⟩ h3
 refine XW.A7 (pu:=pv) (σ:=Nat) (fun ph=>3-ph) (fun ph=>[(k1,.v (.v (.s (.ptr k0 0)))),(k3,.v (.v (.s (.slice k1 0 N 2 (some N))))),(k4,.v (bA (decide (ph<2))))])
  (fun ph g=>g=mkH [(k0,foB f),(k1,ob (Aw dC (dsA ph N 0)))] k2∧ph≤2) 0 (tr (b0:=k0) (b1:=k2) (l:=dsA 0 N 0) rfl rfl rfl Yf) ⟨rfl,by omega⟩ ?_
 rintro ph g ⟨rfl,hph⟩
 refine⟨fun h=>?_,fun h=>?_⟩
 ·have hph:ph<2:=of_decide_eq_true h
  refine XW.A7 (pu:=pv) (σ:=Nat) (fun i=>N-i) (fun i=>[(k1,.v (.v (.s (.ptr k0 0)))),(k3,.v (.v (.s (.slice k1 0 N 2 (some N))))),(k4,.v (bA (decide (ph=0∧0<i)))),(k5,.v (iA i))])
   (fun i g=>g=mkH [(k0,foB f),(k1,ob (Aw dC (dsA ph N i)))] k2∧i≤N) 0 (tr (l:=dsA ph N 0) rfl rfl rfl ⟨⟨_,rfl,rfl⟩,⟨_,rfl,rfl⟩,⟨_,rfl,by simp[RnA,FE.pa,RnC,rnV]⟩,⟨_,rfl,rfl⟩,trivial⟩) ⟨rfl,Zl⟩ ?_
  rintro i g ⟨rfl,hi⟩
  refine⟨fun h=>?_,fun h=>?_⟩
  ·have hi:i<N:=by have:=Ao h;omega
   have hn:f.ns[i]?=some f.ns[i]:=Gg (by omega)
   generalize hnn:f.ns[i]=n at hn
   have hg:=G0 hn
   rw[Ke (v.as0 i n hn)] at hg
   have nlen:(n.az.map aV).length=n.az.length:=Lm ..
   have nL:=w.Iy i n hn
   refine Yw1 ?_
   have tr2:∀{l:List Nat} {L1 L2:Fm} {g1:Ab} {log1 log2:List (Nat×Nat)} {b0 b1 b2:Key},D3 0 k3.toNat [(k0,foB f),(k1,ob (Aw dC l)),(k2,ob (dC 15))] [(k0,b0),(k1,b1),(k2,b2)] [] []=true→g1.get b0=some (foB f)→g1.get b1=some (obl (Aw dC l) log1)→g1.get b2=some (obl (dC 15) log2)→M1 (rho 0 [(k0,b0),(k1,b1),(k2,b2)]) L1 L2→Trim 0 (rho 0 [(k0,b0),(k1,b1),(k2,b2)]) L1 g1 L2 (mkH [(k0,foB f),(k1,ob (Aw dC l)),(k2,ob (dC 15))] k3):=fun h0 h1 h2 h4 h3=>
    Trim.of _ h0 (Zl) trivial ⟨⟨_,_,rfl,h1,.same Yc⟩,⟨_,_,rfl,h2,.same (Ae.cells (vU _))⟩,⟨_,_,rfl,h4,.same Yc⟩,trivial⟩ h3
   refine XW.A7 (pu:=pv) (σ:=Nat) (fun j=>n.az.length-j) (fun j=>[(k1,.v (.v (.s (.ptr k0 0)))),(k3,.v (.v (.s (.slice k1 0 N 2 (some N))))),(k4,.v (bA (decide (ph=0∧0<i)))),(k5,.v (iA i)),(k6,.v (.v (.s (.ptr k2 0)))),(k7,.v (iA j))])
    (fun j g=>g=mkH [(k0,foB f),(k1,ob (Aw dC (dsA ph N i))),(k2,ob (dC 15))] k3∧j≤n.az.length) 0 (tr2 (l:=dsA ph N i) rfl rfl rfl rfl Yf) ⟨rfl,Zl⟩ ?_
   rintro j g ⟨rfl,hj⟩
   refine⟨_,⟨by omega,hg⟩,?_⟩
   refine⟨fun h=>?_,fun h=>?_⟩
   ·have hj:j<n.az.length:=by have:=Ao h;omega
    have ha:n.az[j]?=some n.az[j]:=Gg hj
    generalize haa:n.az[j]=a at ha
    have hga:=Ct ha
    obtain⟨a1,a2,a3,_⟩:=w.al i n hn a (List.mem_of_getElem? ha)
    have c1:=D.NG a.d a3
    have u1:=D.uni (15-a.d) (by omega)
    obtain⟨ap,ks,d⟩:=a
    have hln:=vW (ph:=ph) (Nat.le_of_lt hi)
    refine Yw1 ?_
    refine XC.Be (l:=[(k0,ob (Aw dC (dsA ph N i)))]) (nx:=k1) [(k0,k1)] (yS D a1 hln.symm (fun k hk=>QF (a2 k hk)) hL) rfl rfl ⟨⟨_,_,rfl,rfl,.same (Ae.cells (vU _))⟩,trivial⟩ (.cons Ys (.cons rfl .nil)) ?_
    rintro rc gc' ⟨rfl,hgc⟩
    refine⟨[],_,[some (ob (Aw dC (dsA ph N i)))],[],dA 15,rfl,Rl,⟨⟨_,_,_,hgc,.same (Ae.cells (vU _)),rfl,rfl,rfl,rfl⟩,trivial⟩,trivial,Ys,?_⟩
    refine Yw1 ?_
    exact⟨j+1,_,_,by omega,tr2 rfl rfl rfl rfl Yf,rfl,by omega⟩
   ·refine Yw1 ?_
    refine⟨_,_,ldn Wm rfl (QG hi),?_⟩
    obtain _|_|ph:=ph
    ·refine Yw1 ?_
     refine⟨_,_,stn Wm (y:=15) rfl (by rw[vW (by omega)];omega),?_⟩
     rw[KA hi]
     refine Yw1 ?_
     exact⟨i+1,_,_,by omega,tr rfl rfl rfl ⟨⟨_,rfl,rfl⟩,⟨_,rfl,rfl⟩,⟨_,rfl,by simp[RnA,FE.pa,RnC,rnV]⟩,⟨_,rfl,rfl⟩,trivial⟩,rfl,by omega⟩
    ·refine Yw1 ?_
     exact⟨i+1,_,_,by omega,tr rfl rfl rfl ⟨⟨_,rfl,rfl⟩,⟨_,rfl,rfl⟩,⟨_,rfl,by simp[RnA,FE.pa,RnC,rnV]⟩,⟨_,rfl,rfl⟩,trivial⟩,(by rw[Zb (by omega),Zb (by omega)]),by omega⟩
    ·omega
  ·have hii:i=N:=by have:=A1 h;omega
   subst hii
   refine Yw1 ?_
   refine⟨ph+1,_,_,by omega,tr (l:=dsA (ph+1) i 0) rfl rfl (by rw[Zb (by omega),←KB (ph:=ph)];rfl) ⟨⟨_,rfl,rfl⟩,⟨_,rfl,rfl⟩,⟨_,rfl,?_⟩,trivial⟩,rfl,by omega⟩
   show some _=some _
   rw[show decide (ph+1<2)=decide (ph=0∧0<i) from decide_eq_decide.2 (by omega)]
 ·have hph2:ph=2:=by have:=of_decide_eq_false h;omega
  subst hph2
  rw[Zb (Zl)]
  refine Yw1 ?_
  refine XW.A7 (pu:=pv) (σ:=Nat) (fun j=>N-j) (fun j=>[(k3,.v (.v (.s (.slice k1 0 N 2 (some N))))),(k9,.v (iA j))])
   (fun j g=>g=mkH [(k0,foB f),(k1,ob (Aw dC (List.replicate N 15)))] k2∧j≤N) 0 (tr (b0:=k0) (b1:=k1) rfl rfl rfl Yf) ⟨rfl,Zl⟩ ?_
  rintro j g ⟨rfl,hj⟩
  refine⟨fun h=>?_,fun h=>?_⟩
  ·have hj:j<N:=by have:=Ao h;omega
   refine Yw1 ?_
   refine⟨_,_,ldf (k:=1) Wm rfl (show(List.replicate N 15)[j]?=some 15 by simp[hj]) (by decide) rfl,?_⟩
   refine Yw1 ?_
   exact⟨j+1,_,_,by omega,tr (b0:=k0) (b1:=k1) rfl rfl rfl Yf,rfl,by omega⟩
  ·exact Yw0
theorem fU (D:S6) {f:Fo} (w:WF0 f):Ag Fn 27 [foA f] (bA (f.ns.all fmB)):=by
 have hlen:(f.ns.map nV).length=f.ns.length:=Lm ..
 have hL:=w.len
 have hf:=Da w.n0 w.r0
 have fin:f.ns.all fmB=true→Ag Fn 88 [foA f] (bA true)∧Ag Fn 89 [foA f] (bA true)∧Ag Fn 90 [foA f] (bA true):=fun h=>by
  have v:=w.wf (List.all_eq_true.1 h)
  exact⟨yR D w,sO w v,sS D w v⟩
 have fm:∀(i:Nat) (n:Nd),f.ns[i]?=some n→Ag Fn 87 [foA f,iA i] (bA (fmB n)):=fun i n h=>sN D w h
 rw[hf] at fin fm ⊢
 refine Am (pu:=pv) (vf:=C.f27) rfl ?_
 refine⟨fun h=>absurd (Ao h) (by omega),fun h=>?_⟩
 refine XW.A7 (pu:=pv) (σ:=Nat) (fun i=>f.ns.length-i) (fun i=>[(k1,.v (.v (.s (.ptr k0 0)))),(k3,.v (iA i))])
  (fun i g=>g=mkH [(k0,foB f)] k1∧i≤f.ns.length∧∀j n,j<i→f.ns[j]?=some n→fmB n=true) 0
  (Trim.of (l:=[(k0,foB f)]) (nx:=k1) [(k0,k0)] rfl (Zl) trivial Yb Yf) ⟨rfl,Zl,fun j n h=>absurd h (by omega)⟩ ?_
 rintro i g ⟨rfl,hi,hc⟩
 refine⟨fun h=>?_,fun h=>?_⟩
 ·have hi:i<f.ns.length:=by have:=Ao h;omega
  have hn:f.ns[i]?=some f.ns[i]:=Gg hi
  generalize hnn:f.ns[i]=n at hn
  have fmi:=fm i n hn
  cases hb:fmB n with
  |false=>
   rw[hb] at fmi
   have e:f.ns.all fmB=false:=by
    cases hh:f.ns.all fmB with
    |false=>rfl
    |true=>rw[List.all_eq_true.1 hh n (List.mem_of_getElem? hn)] at hb;cases hb
   rw[e]
   exact Yw0
  |true=>
   rw[hb] at fmi
   refine Yw1 ?_
   refine⟨i+1,_,_,by omega,Trim.of (l:=[(k0,foB f)]) (nx:=k1) [(k0,k0)] rfl (Zl) trivial Yb Yf,rfl,by omega,fun j m hj hm=>?_⟩
   by_cases hji:j<i
   ·exact hc j m hji hm
   ·rw[show j=i from by omega,hn] at hm;cases hm;exact hb
 ·have hii:i=f.ns.length:=by have:=A1 h;omega
  have e:f.ns.all fmB=true:=List.all_eq_true.2 fun n hn=>by
   obtain⟨j,hj,rfl⟩:=List.getElem_of_mem hn
   exact hc j _ (by omega) (Gg hj)
  obtain⟨h1,h2,h3⟩:=fin e
  rw[e]
  exact Yw0
end Go.Pv
end
section
noncomputable section
namespace Go.Pv
open Go.Vm
open Go.Vm.Key (kn)
variable {F:A4} {pu:Nat→Bool}
theorem XW.E6 {lo:Nat} {cd:Ay} {L:Fm} {g g':Ab} {Q:B2→Fm→Ab→Prop} (b:Key) (i:Nat) {c:List PV} {own frz:Bool} {anc:List Key} {log:List (Nat×Nat)} {v v':PV} (hb:lo≤b.toNat)
  (hg:g.get b=some ⟨.cells c,own,frz,anc,log⟩) (hi:c[i]?=some v) (hf:Jt deep v g=some (v',g')) (hg':g'.get b=some ⟨.cells c,own,frz,anc,log⟩)
  (h:XW F lo cd L (g'.upd b (some ⟨.cells (c.set i v'),own,frz,anc,log⟩)) Q):XW F lo cd L g Q:=by
 intro s0 s h0 hlo hs he hgs fr1 hfr
 subst hgs
 obtain⟨bb,y,hp,hy,hbr⟩:=hs.blk b _ hg
 have hbody:=hbr.body
 cases hyb:y.body with
 |cells d m=>
  rw[hyb] at hbody
  obtain⟨hm,hc⟩:=hbody
  obtain⟨sv,hsv,hrel⟩:=hc i v hi
  obtain⟨Z',fz,q⟩:=Y3 deep s hs.toCg v sv v' g' hrel hf
  have g1:Good ⟨Z',s.p,g',s.h⟩:=⟨fz.sim,fz.room hs.toRoom⟩
  have e1:=he.trans h0.toCg (fz.ext s0.g.next.toNat s0.h.next.toNat) (Rl) (Rl)
  have get2:∀k,(g'.upd b (some ⟨.cells (c.set i v'),own,frz,anc,log⟩)).get k=if b=k then some ⟨.cells (c.set i v'),own,frz,anc,log⟩ else g'.get k:=fun k=>Tr.Av ..
  have far:∀k bk,s0.p k=some bk→b≠k:=fun k bk hk e=>by
   have:=(h0.pk k bk hk).1
   subst e;omega
  refine h s0 ⟨Z',s.p,g'.upd b (some ⟨.cells (c.set i v'),own,frz,anc,log⟩),s.h⟩ h0 hlo ⟨⟨g1.inj,?_,g1.z,?_⟩,⟨g1.pk,g1.zr,g1.top⟩⟩ ⟨e1.nx,e1.zle,e1.ple,e1.I7,e1.Fg,e1.frame,?_,?_⟩ rfl fr1 ?_
  ·intro k x hx
   simp only at hx
   rw[get2] at hx
   split at hx
   ·next hk=>
    subst hk;cases hx
    obtain⟨b2,y2,h1,h2,h3⟩:=g1.blk b _ hg'
    refine⟨b2,y2,h1,h2,⟨?_,h3.own,h3.N1,h3.frz⟩⟩
    rw[hp] at h1;cases h1
    rw[hy] at h2;cases h2
    have h4:=h3.body
    rw[hyb] at h4 ⊢
    obtain⟨h5,h6⟩:=h4
    refine⟨by rw[List.length_set];exact h5,fun j x hx=>?_⟩
    by_cases hij:i=j
    ·subst hij
     rw[List.getElem?_set_self (Gi.1 hi).1] at hx;cases hx
     exact⟨sv,hsv,q.v⟩
    ·rw[List.getElem?_set_ne hij] at hx
     exact h6 j x hx
   ·exact g1.blk k x hx
  ·intro k bk hk hx
   simp only at hx
   rw[get2] at hx
   split at hx
   ·cases hx
   ·exact g1.dead k bk hk hx
  ·intro k bk hk hx
   simp only
   rw[get2,if_neg (far k bk hk)]
   exact e1.gone k bk hk hx
  ·intro k x x' hx hx'
   obtain⟨bk,_,hk,_⟩:=h0.blk k x hx
   simp only at hx'
   rw[get2,if_neg (far k bk hk)] at hx'
   exact e1.log k x x' hx hx'
  ·intro k v e
   obtain⟨u,h1,h2⟩:=hfr k v e
   exact⟨u,h1,h2.mono (fz.ext 0 0).zle (fun _ _ h=>h)⟩
 |map l=>rw[hyb] at hbody;exact hbody.elim
 |iter a b' c'=>rw[hyb] at hbody;exact hbody.elim
 |eH a b'=>rw[hyb] at hbody;exact hbody.elim
end Go.Pv
end
section
noncomputable section
namespace Go.Pv
open Go.Vm
open Go.Vm.Key (kn)
variable {F:A4} {pu:Nat→Bool}
theorem XW.N8 {lo:Nat} {cd:Ay} {L:Fm} {g:Ab} {Q:B2→Fm→Ab→Prop} (b:Key) {x:Ap} (hb:lo≤b.toNat) (hg:g.get b=some x) (hf:x.frz=false)
  (h:XW F lo cd L (g.upd b (some { x with frz:=true })) Q):XW F lo cd L g Q:=by
 intro s0 s h0 hlo hs he hgs fr1 hfr
 subst hgs
 obtain⟨bb,y,hp,hy,hbr⟩:=hs.blk b _ hg
 have fz:=Wa hs.toCg hp hg hy hf
 have g1:Good _:=⟨fz.sim,fz.room hs.toRoom⟩
 have e1:=he.trans h0.toCg (fz.ext s0.g.next.toNat s0.h.next.toNat) (Rl) (Rl)
 refine h s0 _ h0 hlo g1 e1 rfl fr1 fun k v e=>?_
 obtain⟨u,h1,h2⟩:=hfr k v e
 exact⟨u,h1,h2.mono (fz.ext 0 0).zle (fun _ _ h=>h)⟩
theorem XW.yT {lo:Nat} {cd:Ay} {L:Fm} {g:Ab} {Q:B2→Fm→Ab→Prop} (b kz:Key) {x z:Ap} (hb:lo≤b.toNat) (hg:g.get b=some x) (hz:g.get kz=some z) (hf:z.frz=true)
  (h:XW F lo cd L (g.upd b (some { x with anc:=[kz] })) Q):XW F lo cd L g Q:=by
 intro s0 s h0 hlo hs he hgs fr1 hfr
 subst hgs
 obtain⟨bb,y,hp,hy,hbr⟩:=hs.blk b _ hg
 obtain⟨bz,yz,hpz,hyz,hbz⟩:=hs.blk kz _ hz
 have get2:∀k,(s.g.upd b (some { x with anc:=[kz] })).get k=if b=k then some { x with anc:=[kz] } else s.g.get k:=fun k=>Tr.Av ..
 have far:∀k bk,s0.p k=some bk→b≠k:=fun k bk hk e=>by
  have:=(h0.pk k bk hk).1
  subst e;omega
 refine h s0 ⟨s.Z,s.p,s.g.upd b (some { x with anc:=[kz] }),s.h⟩ h0 hlo ⟨⟨hs.inj,?_,hs.z,?_⟩,⟨hs.pk,hs.zr,hs.top⟩⟩ ⟨he.nx,he.zle,he.ple,he.I7,he.Fg,he.frame,?_,?_⟩ rfl fr1 hfr
 ·intro k u hu
  simp only at hu
  rw[get2] at hu
  split at hu
  ·next hk=>
   subst hk;cases hu
   refine⟨bb,y,hp,hy,⟨hbr.body,fun ho=>⟨(hbr.own ho).1,.inr ⟨kz,bz,.head _,hpz,?_⟩⟩,hbr.N1,hbr.frz⟩⟩
   rw[hbz.frz hf];simp
  ·exact hs.blk k u hu
 ·intro k bk hk hx
  simp only at hx
  rw[get2] at hx
  split at hx
  ·cases hx
  ·exact hs.dead k bk hk hx
 ·intro k bk hk hx
  simp only
  rw[get2,if_neg (far k bk hk)]
  exact he.gone k bk hk hx
 ·intro k u u' hu hu'
  obtain⟨bk,_,hk,_⟩:=h0.blk k u hu
  simp only at hu'
  rw[get2,if_neg (far k bk hk)] at hu'
  exact he.log k u u' hu hu'
theorem sT {g:Ab} {b:Key} {c:List PV} {frz:Bool} {anc:List Key} {log:List (Nat×Nat)} {n es by' k:Nat} {x:PV} {new:List PV} (hg:g.get b=some ⟨.cells c,true,frz,anc,log⟩) (hc:c.length=n*es) (hx:Vk g es x=some (new,k)) (hk:k≠0) (hr:2*(n+k)*by'≤281474976710656) :
  opP (.append es by') [.v (.s (.slice b 0 n es none)),.v (.s x)] g=some (.v (.s (.slice g.next 0 (n+k) es none)),(g.upd b (some ⟨.cells c,false,frz,anc,log⟩)).Bs (.cells (c++new)) true (b::anc)):=by
 have h1:room (n+k) by'=true:=Nat.ble_eq_true_of_le hr
 have h2:g.grow b 0 (n*es) new=some (g.next,(g.upd b (some ⟨.cells c,false,frz,anc,log⟩)).Bs (.cells (c++new)) true (b::anc)):=by
  unfold Ab.grow
  rw[hg]
  simp only[Ab.copied,hc,Nat.zero_add,Rm,if_true,List.drop_zero]
  rw[List.take_of_length_le (by omega)]
 show D1 es by' [.v (.s (.slice b 0 n es none)),.v (.s x)] g=_
 simp only[D1,hx,Kq,if_true,hk,if_false,h1,h2]
abbrev fzb (c:List PV):Ap:=⟨.cells c,true,true,[],[]⟩
abbrev wld (c:List PV) (k:Key):Ap:=⟨.cells c,true,false,[k],[]⟩
theorem Ep:∀{l:List PV},(∀v∈l,Et v)→N7 l
 |[],_=>trivial
 |v::l,h=>⟨h v (.head _),Ep fun u hu=>h u (.tail _ hu)⟩
theorem Ho {n len es:Nat} {k:Key} {c:List PV} {own frz:Bool} {anc:List Key} {log:List (Nat×Nat)} {cap:Option Nat} {g:Ab} (hg:g.get k=some ⟨.cells c,own,frz,anc,log⟩) (hl:len*es=c.length) (h0:len*es≠0) (hc:Kr len cap=true) (hf:N7 c) :
  Jt (n+2) (.slice k 0 len es cap) g=some (.lst es (chunk es len c) none,if frz then g else g.upd k (some ⟨.cells c,own,true,anc,log⟩)):=by
 have h0':¬c.length=0:=by omega
 rw[Jt]
 simp only[hc,hg,h0',if_false,Bool.true_eq_false,Nat.zero_add,hl,Rm,if_true,List.drop_zero,List.take_length,S4 n hf]
theorem fV:∀l:List PV,chunk 1 l.length l=l.map fun x=>[x]
 |[]=>rfl
 |x::l=>by simp[chunk,fV l]
theorem S8 {l:List PV} {n:Nat} (h:l.length=n):chunk 1 n l=l.map fun x=>[x]:=by rw[←h];exact fV l
theorem Wn {x x':PV} {g g':Ab} (h:Jt 40 x g=some (x',g')):E8 deep (.v (.s x)) g=some (.v (.s x'),g'):=by
 show(match Yn 40 (.s x) g with
  |some (l,h)=>some (PA.v l,h)
  |none=>none)=_
 simp only[Yn,h]
theorem EI {x x':PV} {b:Bool} {g g':Ab} (h:Jt 40 x g=some (x',g')):E8 deep (.tup [.s x,.s (.bool b)]) g=some (.tup [.s x',.s (.bool b)],g'):=by
 show(match Rt 40 [.s x,.s (.bool b)] g with
  |some (l,h)=>some (PA.tup l,h)
  |none=>none)=_
 simp only[Rt,Yn,h];rfl
end Go.Pv
end
section
noncomputable section
namespace Go.Pv
open Go.Vm Go.Vm.C
open Go.Vm.Key (kn)
set_option maxRecDepth 10000
set_option maxHeartbeats 0
abbrev cA (c:Nat):PA:=.v (.s (.int .u64 (c:Nat)))
structure I8:Prop where
 holds:∀d,d<16→∀c,c<4→Ag Fn 59 [dA d,cA c] (bA (d.testBit c))
def Cc (al:List Bool) (c:Nat) (a:Al):Bool:=a.d.testBit c&&!a.ks.any fun k=>!al.getD k false
def alT (c:Nat):List Nd→List Bool→List Bool
 |[],al=>al
 |n::ns,al=>alT c ns (al++[n.az.any (Cc al c)])
theorem vX (c:Nat) (n:Nd):∀(l:List Nd) (al:List Bool),alT c (l++[n]) al=alT c l al++[n.az.any (Cc (alT c l al) c)]
 |[],_=>rfl
 |_::l,_=>vX c n l _
theorem vY (c:Nat):∀(l:List Nd) (al:List Bool),(alT c l al).length=al.length+l.length
 |[],_=>rfl
 |n::l,al=>by rw[alT,vY c l];simp;omega
def alP (c:Nat) (ns:List Nd) (i:Nat):List Bool:=alT c (ns.take i) []
theorem EJ {c:Nat} {ns:List Nd} {i:Nat} {n:Nd} (h:ns[i]?=some n):alP c ns (i+1)=alP c ns i++[n.az.any (Cc (alP c ns i) c)]:=by
 obtain⟨hi,rfl⟩:=Gi.1 h
 rw[alP,List.take_succ_eq_append_getElem hi,vX];rfl
theorem Ut {c:Nat} {ns:List Nd} {i:Nat} (h:i≤ns.length):(alP c ns i).length=i:=by
 rw[alP,vY];simp;omega
def tw:Bool→Int
 |true=>2
 |false=>1
def stL (N:Nat) (al:List Bool):List PV:=al.map (fun b=>.int .i64 (tw b))++List.replicate (N-al.length) (.int .i64 0)
theorem KC {N:Nat} {al:List Bool} (h:al.length≤N):(stL N al).length=N:=by simp[stL];omega
theorem EK {N k:Nat} {al:List Bool} (h:k<al.length):(stL N al)[k]?=some (.int .i64 (tw (al.getD k false))):=by
 unfold stL;rw[List.getElem?_append_left (by simpa using h)];simp[h,List.getD]
theorem QH {N:Nat} {al:List Bool} (h:al.length<N):(stL N al)[al.length]?=some (.int .i64 0):=by
 unfold stL;rw[List.getElem?_append_right (by simp),List.getElem?_replicate,if_pos (by simp;omega)]
theorem EL (N:Nat) (al:List Bool):∀v∈stL N al,Ae v:=fun v h=>by
 rcases List.mem_append.1 h with h|h
 ·obtain⟨b,_,rfl⟩:=List.mem_map.1 h;exact trivial
 ·rw[List.eq_of_mem_replicate h];exact trivial
theorem KE {N:Nat} {al:List Bool} (h:al.length<N) (b:Bool):(stL N al).set al.length (.int .i64 (tw b))=stL N (al++[b]):=by
 unfold stL
 rw[List.set_append_right _ _ (by simp)]
 simp only[Lm,Nat.sub_self,List.map_append,La,List.length_singleton]
 rw[show N-al.length=(N-(al.length+1))+1 from by omega,List.replicate_succ,List.set_cons_zero,List.append_assoc];rfl
abbrev yU:PV:=.func 135 [] [(k3,0),(k0,0),(k4,0),(k1,0)]
abbrev lvL (f:Fo) (N c:Nat) (st:List PV) (l1:List (Nat×Nat)):List (Key×Ap):=[(k0,foB f),(k1,ob [.int .u64 (c:Nat)]),(k2,obl st l1),(k3,ob [.slice k2 0 N 1 (some N)]),(k4,ob [yU])]
abbrev lvX (f:Fo) (N c:Nat) (st:List PV) (l1:List (Nat×Nat)):List (Option Ap):=[some (foB f),some (ob [.int .u64 (c:Nat)]),some (obl st l1),some (ob [.slice k2 0 N 1 (some N)]),some (ob [yU])]
abbrev lvR:List (Key×Key):=[(k0,k0),(k1,k1),(k2,k2),(k3,k3),(k4,k4)]
def QI (f:Fo) (N c:Nat) (st:List PV) (g:Ab):Prop:=g.get k0=some (foB f)∧g.get k1=some (ob [.int .u64 (c:Nat)])∧g.get k2=some (ob st)∧g.get k3=some (ob [.slice k2 0 N 1 (some N)])∧g.get k4=some (ob [yU])
theorem oO {f:Fo} {N c:Nat} {st:List PV} {gc':Ab} (e0:gc'.get k0=some (foB f)) (e1:gc'.get k1=some (ob [.int .u64 (c:Nat)])) (e2:gc'.get k2=some (ob st)) (e3:gc'.get k3=some (ob [.slice k2 0 N 1 (some N)])) (e4:gc'.get k4=some (ob [yU])) (snk:∀v∈st,Ae v)
  {g:Ab} {q0 q1 q2 q3 q4:Ap} {l1:List (Nat×Nat)} (h0:g.get k0=some q0) (h1:g.get k1=some q1) (h2:g.get k2=some q2) (h3:g.get k3=some q3) (h4:g.get k4=some q4)
  (m0:q0.log=[]) (m1:q1.log=[]) (m2:q2.log=l1) (m3:q3.log=[]) (m4:q4.log=[]):M4 (muR lvR []) g gc' (lvL f N c st []) lvR (lvX f N c st l1):=
 ⟨⟨_,_,_,e0,.same Yc,h0,rfl,rfl,m0.symm⟩,⟨_,_,_,e1,.same Yc,h1,rfl,rfl,m1.symm⟩,⟨_,_,_,e2,.same Yc,h2,rfl,rfl,m2.symm⟩,⟨_,_,_,e3,.same Yc,h3,rfl,rfl,m3.symm⟩,⟨_,_,_,e4,.same Yc,h4,rfl,rfl,m4.symm⟩,trivial⟩
theorem QJ {f:Fo} {N c:Nat} {st st2:List PV} {l2:List (Nat×Nat)} {gc':Ab} (e0:gc'.get k0=some (foB f)) (e1:gc'.get k1=some (ob [.int .u64 (c:Nat)])) (e2:gc'.get k2=some (obl st2 l2)) (e3:gc'.get k3=some (ob [.slice k2 0 N 1 (some N)])) (e4:gc'.get k4=some (ob [yU])) (snk:∀v∈st2,Ae v)
  {g:Ab} {q0 q1 q2 q3 q4:Ap} {l1:List (Nat×Nat)} (h0:g.get k0=some q0) (h1:g.get k1=some q1) (h2:g.get k2=some q2) (h3:g.get k3=some q3) (h4:g.get k4=some q4)
  (m0:q0.log=[]) (m1:q1.log=[]) (m2:q2.log=l1) (m3:q3.log=[]) (m4:q4.log=[]):M4 (muR lvR []) g gc' (lvL f N c st []) lvR (lvX f N c st2 (l2++l1)):=
 ⟨⟨_,_,_,e0,.same Yc,h0,rfl,rfl,m0.symm⟩,⟨_,_,_,e1,.same Yc,h1,rfl,rfl,m1.symm⟩,⟨_,_,_,e2,.same Yc,h2,rfl,rfl,by rw[m2]⟩,⟨_,_,_,e3,.same Yc,h3,rfl,rfl,m3.symm⟩,⟨_,_,_,e4,.same Yc,h4,rfl,rfl,m4.symm⟩,trivial⟩
theorem oP {N k c:Nat} {f:Fo} {st:List PV} {b:Bool} (hk:k<N) (hst:st[k]?=some (.int .i64 (tw b))) :
  XC Fn 135 [iA k,.v (.s (.ptr k3 0)),.v (.s (.ptr k0 0)),.v (.s (.ptr k4 0)),.v (.s (.ptr k1 0))] (mkH (lvL f N c st []) k5) fun r g'=>r=bA b∧QI f N c st g':=by
 cases b
 all_goals
  refine XC.of (pu:=pv) (vf:=C.f135) rfl ?_
  refine Yw1 ?_
  refine⟨_,_,Wf rfl hst,?_⟩
  refine Yw1 ?_
  refine⟨_,_,Wf rfl hst,?_⟩
  exact⟨rfl,rfl,rfl,rfl,rfl,rfl⟩
theorem KF {N k c:Nat} {f:Fo} {st:List PV} {b:Bool} (hk:k<N) (hst:st[k]?=some (.int .i64 (tw b))) (snk:∀v∈st,Ae v) :
  XC Fn 136 [.v (.agg (kV k)),.v (.s (.ptr k4 0))] (mkH (lvL f N c st []) k5) fun r g'=>r=bA (!b)∧QI f N c st g':=by
 refine XC.of (pu:=pv) (vf:=C.f136) rfl ?_
 refine Yw1 ?_
 refine XC.Be (l:=lvL f N c st []) (nx:=k5) lvR (oP hk hst) rfl rfl Yb Ya ?_
 rintro rc gc' ⟨rfl,e0,e1,e2,e3,e4⟩
 refine⟨[],_,lvX f N c st [],[],bA b,rfl,Rl,(oO e0 e1 e2 e3 e4 snk rfl rfl rfl rfl rfl rfl rfl rfl rfl rfl),trivial,rfl,?_⟩
 refine Yw1 ?_
 exact⟨rfl,rfl,rfl,rfl,rfl,rfl⟩
theorem oQ {N c:Nat} {f:Fo} {st:List PV} {al:List Bool} {ks:List Nat} (h2:ks.length≤2) (hk:∀k∈ks,k<N∧st[k]?=some (.int .i64 (tw (al.getD k false)))) (snk:∀v∈st,Ae v) :
  XC Fn 137 [.v (.s (ksV ks)),.v (.s (.func 136 [] [(k4,0)]))] (mkH (lvL f N c st []) k5) fun r g'=>r=bA (ks.any fun k=>!al.getD k false)∧QI f N c st g':=by
 have dk:∀k∈ks,_:=fun k h=>KF (f:=f) (c:=c) (hk k h).1 (hk k h).2 snk
 refine XC.of (pu:=pv) (vf:=C.f137) rfl ?_
 rcases ks with _|⟨x,_|⟨y,_|⟨z,ks⟩⟩⟩
 ·refine XC.of (pu:=pv) (vf:=C.f193) rfl ?_
  refine Yw1 ?_
  refine XW.Ad (pu:=pv) ?_
  refine Yw1 ?_
  exact⟨rfl,rfl,rfl,rfl,rfl,rfl⟩
 ·have dx:=dk x (by simp)
  refine XC.of (pu:=pv) (vf:=C.f193) rfl ?_
  refine Yw1 ?_
  refine XW.Ad (pu:=pv) ?_
  refine Yw1 ?_
  refine XC.Be (l:=lvL f N c st []) (nx:=k5) lvR dx rfl rfl Yb Ya ?_
  rintro rc gc' ⟨rfl,e0,e1,e2,e3,e4⟩
  refine⟨[],k5,lvX f N c st [],[],bA _,rfl,Rl,(oO e0 e1 e2 e3 e4 snk rfl rfl rfl rfl rfl rfl rfl rfl rfl rfl),trivial,rfl,?_⟩
  generalize hbx:al.getD x false=bx
  rw[show([x].any fun k=>!al.getD k false)=!bx from by simp only[List.any_cons,List.any_nil,Bool.or_false,hbx]]
  cases bx
  ·refine Yw1 ?_
   exact⟨rfl,rfl,rfl,rfl,rfl,rfl⟩
  ·refine Yw1 ?_
   refine XW.Ad (pu:=pv) ?_
   refine Yw1 ?_
   exact⟨rfl,rfl,rfl,rfl,rfl,rfl⟩
 ·have dx:=dk x (by simp)
  have dy:=dk y (by simp)
  refine XC.of (pu:=pv) (vf:=C.f193) rfl ?_
  refine Yw1 ?_
  refine XW.Ad (pu:=pv) ?_
  refine Yw1 ?_
  refine XC.Be (l:=lvL f N c st []) (nx:=k5) lvR dx rfl rfl Yb Ya ?_
  rintro rc gc' ⟨rfl,e0,e1,e2,e3,e4⟩
  refine⟨[],k5,lvX f N c st [],[],bA _,rfl,Rl,(oO e0 e1 e2 e3 e4 snk rfl rfl rfl rfl rfl rfl rfl rfl rfl rfl),trivial,rfl,?_⟩
  generalize hbx:al.getD x false=bx
  rw[show([x,y].any fun k=>!al.getD k false)=(!bx||!al.getD y false) from by simp only[List.any_cons,List.any_nil,Bool.or_false,hbx]]
  cases bx
  ·refine Yw1 ?_
   exact⟨rfl,rfl,rfl,rfl,rfl,rfl⟩
  ·refine Yw1 ?_
   refine XW.Ad (pu:=pv) ?_
   refine Yw1 ?_
   refine XC.Be (l:=lvL f N c st []) (nx:=k5) lvR dy rfl rfl Yb Ya ?_
   rintro rc gc' ⟨rfl,e0,e1,e2,e3,e4⟩
   refine⟨[],k5,lvX f N c st [],[],bA _,rfl,Rl,(oO e0 e1 e2 e3 e4 snk rfl rfl rfl rfl rfl rfl rfl rfl rfl rfl),trivial,rfl,?_⟩
   generalize hby:al.getD y false=b2
   cases b2
   ·refine Yw1 ?_
    exact⟨rfl,rfl,rfl,rfl,rfl,rfl⟩
   ·refine Yw1 ?_
    refine XW.Ad (pu:=pv) ?_
    refine Yw1 ?_
    exact⟨rfl,rfl,rfl,rfl,rfl,rfl⟩
 ·simp at h2
theorem yV {N i c:Nat} {f:Fo} {n:Nd} {al:List Bool} {b:Bool} (D:I8) (hc:c<4) (hN:f.ns.length=N) (h4:N≤4) (hi:i<N) (hl:al.length=i) (hn:(f.ns.map nV)[(i:Int).toNat]?=some (nC n)) (nL:n.az.length≤3)
  (hal:∀a∈n.az,a.ks.length≤2∧(∀k∈a.ks,k<i)∧a.d<16) (hb:n.az.any (Cc al c)=b) :
  XC Fn 135 [iA i,.v (.s (.ptr k3 0)),.v (.s (.ptr k0 0)),.v (.s (.ptr k4 0)),.v (.s (.ptr k1 0))] (mkH (lvL f N c (stL N al) []) k5)
   fun r g'=>r=bA b∧∃l2,g'.get k0=some (foB f)∧g'.get k1=some (ob [.int .u64 (c:Nat)])∧g'.get k2=some (obl (stL N (al++[b])) l2)∧g'.get k3=some (ob [.slice k2 0 N 1 (some N)])∧g'.get k4=some (ob [yU]):=by
 have nlen:(n.az.map aV).length=n.az.length:=Lm ..
 have hlen:(f.ns.map nV).length=f.ns.length:=Lm ..
 subst hl
 have sat:=QH hi
 have sln:=KC (Nat.le_of_lt hi)
 have slt:=fun k (hk:k<al.length)=>EK (N:=N) hk
 have sset:=KE hi
 have snk:=EL N al
 generalize hst:stL N al=st at sat sln slt sset snk ⊢
 have snk1:∀v∈st.set al.length (.int .i64 1),Ae v:=fun v h=>by
  rcases List.mem_or_eq_of_mem_set h with h|rfl
  ·exact snk v h
  ·exact trivial
 have s1:(st.set al.length (.int .i64 1))[al.length]?=some (.int .i64 1):=List.getElem?_set_self (by omega)
 have sx:∀k,k<al.length→(st.set al.length (.int .i64 1))[k]?=some (.int .i64 (tw (al.getD k false))):=fun k hk=>by rw[List.getElem?_set_ne (by omega)];exact slt k hk
 refine XC.of (pu:=pv) (vf:=C.f135) rfl ?_
 refine Yw1 ?_
 refine⟨_,_,Wf rfl sat,?_⟩
 refine Yw1 ?_
 refine⟨_,_,Wg rfl (by omega) rfl,?_⟩
 refine Yw1 ?_
 refine XW.A7 (pu:=pv) (σ:=Nat) (fun j=>n.az.length-j) (fun j=>[(k0,.v (iA al.length)),(k1,.v (.v (.s (.ptr k3 0)))),(k2,.v (.v (.s (.ptr k0 0)))),(k3,.v (.v (.s (.ptr k4 0)))),(k4,.v (.v (.s (.ptr k1 0)))),(k23,.v (PA.lst 4 (n.az.map aV))),(k24,.v (iA (n.az.map aV).length)),(k25,.v (iA j))])
  (fun j g=>g=mkH (lvL f N c (st.set al.length (.int .i64 1)) [(al.length,1)]) k5∧j≤n.az.length∧(n.az.take j).any (Cc al c)=false) 0
  (Trim.of (lo:=5) (l:=lvL f N c (st.set al.length (.int .i64 1)) [(al.length,1)]) (nx:=k5) [] rfl (Rl) Yl Yb Yf) ⟨rfl,Zl,rfl⟩ ?_
 rintro j g ⟨rfl,hj,hno⟩
 refine⟨fun h=>?_,fun h=>?_⟩
 ·have hj:j<n.az.length:=by have:=Ao h;omega
  have ha:n.az[j]?=some n.az[j]:=Gg hj
  have htk:n.az.take (j+1)=n.az.take j++[n.az[j]]:=List.take_succ_eq_append_getElem hj
  have hin:n.az[j]∈n.az:=List.getElem_mem hj
  generalize n.az[j]=a at ha htk hin
  have hga:=Ct ha
  obtain⟨a1,a2,a3⟩:=hal a hin
  have dh:=D.holds a.d a3 c hc
  have next:Cc al c a=false→(n.az.take (j+1)).any (Cc al c)=false:=fun h=>by rw[htk,List.any_append,hno];simp[h]
  have yes:Cc al c a=true→b=true:=fun h=>by rw[←hb];exact List.any_eq_true.2 ⟨a,hin,h⟩
  have hlb:Cc al c a=(a.d.testBit c&&!a.ks.any fun k=>!al.getD k false):=rfl
  cases hbt:a.d.testBit c
  ·rw[hbt] at dh hlb
   refine Yw1 ?_
   exact⟨j+1,_,_,by omega,Trim.of (lo:=5) (l:=lvL f N c (st.set al.length (.int .i64 1)) [(al.length,1)]) (nx:=k5) [] rfl (Rl) Yl Yb Yf,rfl,by omega,next (by rw[hlb];rfl)⟩
  ·rw[hbt] at dh hlb
   have co:=oQ (f:=f) (c:=c) (al:=al) a1 (fun k hk=>⟨Nat.lt_trans (a2 k hk) hi,sx k (a2 k hk)⟩) snk1
   refine Yw1 ?_
   refine XC.Be (l:=lvL f N c (st.set al.length (.int .i64 1)) []) (nx:=k5) lvR co rfl rfl Yb Ya ?_
   rintro rc gc' ⟨rfl,e0,e1,e2,e3,e4⟩
   refine⟨[],k6,lvX f N c (st.set al.length (.int .i64 1)) [(al.length,1)],[],bA _,rfl,Rl,(oO e0 e1 e2 e3 e4 snk1 rfl rfl rfl rfl rfl rfl rfl rfl rfl rfl),trivial,rfl,?_⟩
   generalize (a.ks.any fun k=>!al.getD k false)=d at hlb
   cases d
   ·have hbb:=yes (by rw[hlb];rfl)
    subst hbb
    refine Yw1 ?_
    refine⟨_,_,Wg (i:=al.length) rfl (by rw[List.length_set];omega) ((List.set_set ..).trans (sset true)),?_⟩
    refine Yw1 ?_
    have s2:(stL N (al++[true]))[al.length]?=some (.int .i64 2):=by rw[EK (by simp)];simp[List.getD,tw]
    refine⟨_,_,Wf rfl s2,?_⟩
    refine Yw1 ?_
    exact⟨rfl,_,rfl,rfl,rfl,rfl,rfl⟩
   ·refine Yw1 ?_
    exact⟨j+1,_,_,by omega,Trim.of (lo:=5) (l:=lvL f N c (st.set al.length (.int .i64 1)) [(al.length,1)]) (nx:=k5) [] rfl (Rl) Yl Yb Yf,rfl,by omega,next (by rw[hlb];rfl)⟩
 ·have hj:j=n.az.length:=by have:=A1 h;omega
  have hbb:b=false:=by rw[←hb,←hno,hj,List.take_length]
  subst hbb
  refine Yw1 ?_
  refine⟨_,_,Wf rfl s1,?_⟩
  refine Yw1 ?_
  have s3:=sset false
  rw[←s3]
  exact⟨rfl,_,rfl,rfl,rfl,rfl,rfl⟩
def otL (N:Nat) (al:List Bool):List PV:=al.map PV.bool++List.replicate (N-al.length) (.bool false)
theorem vZ {N:Nat} {al:List Bool} (h:al.length≤N):(otL N al).length=N:=by simp[otL];omega
theorem QK (N:Nat) (al:List Bool):∀v∈otL N al,Ae v:=fun v h=>by
 rcases List.mem_append.1 h with h|h
 ·obtain⟨b,_,rfl⟩:=List.mem_map.1 h;exact trivial
 ·rw[List.eq_of_mem_replicate h];exact trivial
theorem EM (N:Nat) (al:List Bool):∀v∈otL N al,Et v:=fun v h=>by
 rcases List.mem_append.1 h with h|h
 ·obtain⟨b,_,rfl⟩:=List.mem_map.1 h;exact trivial
 ·rw[List.eq_of_mem_replicate h];exact trivial
theorem KG {N:Nat} {al:List Bool} (h:al.length<N) (b:Bool):(otL N al).set al.length (.bool b)=otL N (al++[b]):=by
 unfold otL
 rw[List.set_append_right _ _ (by simp)]
 simp only[Lm,Nat.sub_self,List.map_append,La,List.length_singleton]
 rw[show N-al.length=(N-(al.length+1))+1 from by omega,List.replicate_succ,List.set_cons_zero,List.append_assoc];rfl
def bL (al:List Bool):List (List PV):=al.map fun b=>[.bool b]
theorem yW (D:I8) {f:Fo} {c:Nat} (hc:c<4) (w:WF0 f) (v:WF f):Ag Fn 70 [foA f,cA c] (PA.lst 1 (bL (alP c f.ns f.ns.length))):=by
 have hlen:(f.ns.map nV).length=f.ns.length:=Lm ..
 have hL:=w.len
 have hn0:0<f.ns.length:=List.length_pos_iff.2 w.n0
 rw[Da w.n0 w.r0]
 refine Am (pu:=pv) (vf:=C.f70) rfl ?_
 refine⟨_,_,Dc (n:=f.ns.length) rfl (by rw[hlen]) (by omega) (by omega),?_⟩
 refine⟨_,_,Dc (n:=f.ns.length) rfl (by rw[hlen]) (by omega) (by omega),?_⟩
 generalize hN:f.ns.length=N at *
 rw[cN,cN]
 have e0:List.replicate N (PV.int .i64 (.ofNat 0))=stL N (alP c f.ns 0):=by simp[stL,alP,alT]
 have e1:List.replicate N (PV.bool false)=otL N (alP c f.ns 0):=by simp[otL,alP,alT]
 rw[e0,e1]
 have snk:=fun i=>EL N (alP c f.ns i)
 have onk:=fun i=>QK N (alP c f.ns i)
 refine XW.A7 (pu:=pv) (σ:=Nat) (fun i=>N-i) (fun i=>[(k2,.v (.v (.s (.ptr k0 0)))),(k3,.v (.v (.s (.ptr k1 0)))),(k5,.v (.v (.s (.ptr k3 0)))),(k6,.v (.v (.s (.ptr k4 0)))),(k7,.v (.v (.s (.slice k5 0 N 1 (some N))))),(k19,.v (iA N)),(k20,.v (iA i))])
  (fun i g=>∃l1 l5,g=mkH (lvL f N c (stL N (alP c f.ns i)) l1++[(k5,obl (otL N (alP c f.ns i)) l5)]) k6∧i≤N) 0
  (Trim.of (l:=lvL f N c (stL N (alP c f.ns 0)) []++[(k5,obl (otL N (alP c f.ns 0)) [])]) (nx:=k6) [(k0,k0),(k1,k1),(k2,k2),(k3,k3),(k4,k4),(k5,k5)] rfl (Zl) trivial (by have:=snk 0;have:=onk 0;exact Yb) Yf) ⟨_,_,rfl,Zl⟩ ?_
 rintro i g ⟨l1,l5,rfl,hi⟩
 refine⟨fun h=>?_,fun h=>?_⟩
 ·have hi:i<N:=by have:=Ao h;omega
  have hn:f.ns[i]?=some f.ns[i]:=Gg (by omega)
  generalize hnn:f.ns[i]=n at hn
  have hg:=G0 hn
  rw[Ke (v.as0 i n hn)] at hg
  have nL:=w.Iy i n hn
  have hal:=w.al i n hn
  have hs:=EJ (c:=c) hn
  have hll:=Ut (c:=c) (ns:=f.ns) (i:=i) (by omega)
  have hv:=yV (al:=alP c f.ns i) D hc hN hL hi hll hg nL (fun a ha=>⟨(hal a ha).1,(hal a ha).2.1,(hal a ha).2.2.1⟩) rfl
  rw[←hs] at hv
  have oset:=KG (N:=N) (al:=alP c f.ns i) (by omega) (n.az.any (Cc (alP c f.ns i) c))
  rw[←hs] at oset
  have oln:=vZ (N:=N) (al:=alP c f.ns i) (by omega)
  have sk:=snk i
  have sk2:=snk (i+1)
  have ok:=onk i
  have ok2:=onk (i+1)
  generalize n.az.any (Cc (alP c f.ns i) c)=b at *
  rw[hll] at oset
  refine Yw1 ?_
  refine XC.Be (l:=lvL f N c (stL N (alP c f.ns i)) []) (nx:=k5) lvR hv rfl rfl Yb Ya ?_
  rintro rc gc' ⟨rfl,l2,e0,e1,e2,e3,e4⟩
  refine⟨[],k6,lvX f N c (stL N (alP c f.ns (i+1))) (l2++l1),[],bA b,rfl,Rl,(QJ e0 e1 e2 e3 e4 sk2 rfl rfl rfl rfl rfl rfl rfl rfl rfl rfl),trivial,rfl,?_⟩
  refine Yw1 ?_
  refine⟨_,_,Wg rfl (by omega) oset,?_⟩
  refine Yw1 ?_
  exact⟨i+1,_,_,by omega,Trim.of (l:=lvL f N c (stL N (alP c f.ns (i+1))) (l2++l1)++[(k5,obl (otL N (alP c f.ns (i+1))) ((i,1)::l5))]) (nx:=k6) [(k0,k0),(k1,k1),(k2,k2),(k3,k3),(k4,k4),(k5,k5)] rfl (Zl) trivial Yb Yf,_,_,rfl,by omega⟩
 ·have hi:i=N:=by have:=A1 h;omega
  subst hi
  have hll:=Ut (c:=c) (ns:=f.ns) (i:=i) (by omega)
  have oln:=vZ (N:=i) (al:=alP c f.ns i) (by omega)
  have hch:chunk 1 i (otL i (alP c f.ns i))=bL (alP c f.ns i):=by
   have h1:otL i (alP c f.ns i)=(alP c f.ns i).map PV.bool:=by conv=>lhs;rw[otL,hll,Nat.sub_self]
                                                               simp
   rw[S8 oln,h1,List.map_map];rfl
  rw[←hch]
  exact⟨_,Wn (Ho rfl (by rw[oln,Nat.mul_one]) (by omega) (by simp[Kr]) (Ep (EM _ _)))⟩
def stC (N i:Nat):List PV:=List.replicate i (.int .i64 2)++List.replicate (N-i) (.int .i64 0)
theorem KH {N i:Nat} (h:i≤N):(stC N i).length=N:=by simp[stC];omega
theorem QL {N i k:Nat} (h:k<i):(stC N i)[k]?=some (.int .i64 2):=by
 unfold stC;rw[List.getElem?_append_left (by simpa using h)];simp[h]
theorem QM {N i:Nat} (h:i<N):(stC N i)[i]?=some (.int .i64 0):=by
 unfold stC;rw[List.getElem?_append_right (by simp),List.getElem?_replicate,if_pos (by simp;omega)]
theorem sU (N i:Nat):∀v∈stC N i,Ae v:=fun v h=>by
 rcases List.mem_append.1 h with h|h<;>(rw[List.eq_of_mem_replicate h];exact trivial)
theorem KI {N i:Nat} (h:i<N) (y:Int):((stC N i).set i (.int .i64 y)).set i (.int .i64 2)=stC N (i+1):=by
 unfold stC
 rw[List.set_set,List.set_append_right _ _ (by simp)]
 simp only[List.length_replicate,Nat.sub_self]
 rw[show N-i=(N-(i+1))+1 from by omega,List.replicate_succ,List.set_cons_zero,List.replicate_succ',List.append_assoc];rfl
abbrev sV:PV:=.func 190 [] [(k2,0),(k4,0),(k0,0),(k5,0),(k3,0)]
def Oz (i:Nat):List PV:=(List.range i).map fun(n:Nat)=>.int .i64 n
theorem kK (i:Nat):∀v∈Oz i,Ae v:=fun v h=>by
 obtain⟨n,_,rfl⟩:=List.mem_map.1 h;exact trivial
theorem yX (i:Nat):Oz i++[.int .i64 (i:Nat)]=Oz (i+1):=by simp[Oz,List.range_succ]
theorem cQ (i:Nat):(Oz i).length=i:=by simp[Oz]
abbrev foZ (f:Fo):Ap:=fzb [.lst 5 (f.ns.map nV) none,.lst 3 (f.rs.map rV) none]
def QN:Nat→PV
 |0=>.Af
 |i+1=>.slice k6 0 (i+1) 1 none
def UE:Nat→List (Key×Ap)
 |0=>[]
 |i+1=>[(k6,wld (Oz (i+1)) k0)]
def XB:Nat→Key
 |0=>k6
 |_=>k7
abbrev poL (f:Fo) (N i:Nat) (st:List PV) (l1 lg:List (Nat×Nat)):List (Key×Ap):=(k0,foZ f)::(k1,obl st l1)::(k2,ob [.slice k1 0 N 1 (some N)])::(k3,ob [QN i])::(k4,obl [.bool true] lg)::(k5,ob [sV])::UE i
theorem P7 {N i k:Nat} {f:Fo} {st:List PV} (hk:k<N) (hst:st[k]?=some (.int .i64 2)) :
  XC Fn 190 [iA k,.v (.s (.ptr k2 0)),.v (.s (.ptr k4 0)),.v (.s (.ptr k0 0)),.v (.s (.ptr k5 0)),.v (.s (.ptr k3 0))]
   (mkH (poL f N (i+1) st [] []) k7)
   fun r g'=>r=.unit∧∃lg,g'=((mkH (poL f N (i+1) st [] []) k7).upd k4 (some (obl [.bool true] lg))):=by
 refine XC.of (pu:=pv) (vf:=C.f190) rfl ?_
 refine Yw1 ?_
 refine⟨_,_,Wf rfl hst,?_⟩
 refine Yw1 ?_
 refine⟨_,_,Wf rfl hst,?_⟩
 exact⟨rfl,_,rfl⟩
abbrev poX (f:Fo) (N i:Nat) (st:List PV) (l1 lg:List (Nat×Nat)):List (Option Ap):=[some (foZ f),some (obl st l1),some (ob [.slice k1 0 N 1 (some N)]),some (ob [QN i]),some (obl [.bool true] lg),some (ob [sV]),some (wld (Oz i) k0)]
abbrev poR:List (Key×Key):=[(k0,k0),(k1,k1),(k2,k2),(k3,k3),(k4,k4),(k5,k5),(k6,k6)]
abbrev poM (f:Fo) (N i:Nat) (st:List PV) (l1 l3 lg:List (Nat×Nat)):List (Key×Ap):=(k0,foZ f)::(k1,obl st l1)::(k2,ob [.slice k1 0 N 1 (some N)])::(k3,obl [QN i] l3)::(k4,obl [.bool true] lg)::(k5,ob [sV])::UE i
abbrev UF (k:Nat):List PA:=[iA k,.v (.s (.ptr k2 0)),.v (.s (.ptr k4 0)),.v (.s (.ptr k0 0)),.v (.s (.ptr k5 0)),.v (.s (.ptr k3 0))]
theorem QO {N:Nat} {f:Fo} {n:Nd} {st st2:List PV} (hN:f.ns.length=N) (h4:N≤4) (h0:0<N) (hn:(f.ns.map nV)[((0:Nat):Int).toNat]?=some (nC n)) (nL:n.az.length≤3) (hal:∀a∈n.az,a.ks=[])
  (sat:st[0]?=some (.int .i64 0)) (sln:st.length=N) (snk1:∀v∈st.set 0 (.int .i64 1),Ae v) (sset:(st.set 0 (.int .i64 1)).set 0 (.int .i64 2)=st2) :
  XC Fn 190 (UF 0) (mkH (poL f N 0 st [] []) k6)
   fun r g'=>r=.unit∧∃l1 l3 l4,g'.get k0=some (foZ f)∧g'.get k1=some (obl st2 l1)∧g'.get k2=some (ob [.slice k1 0 N 1 (some N)])∧g'.get k3=some (obl [.slice k7 0 1 1 none] l3)∧g'.get k4=some (obl [.bool true] l4)∧g'.get k5=some (ob [sV])∧g'.get k7=some (ob (Oz 1)):=by
 have nlen:(n.az.map aV).length=n.az.length:=Lm ..
 have hlen:(f.ns.map nV).length=f.ns.length:=Lm ..
 refine XC.of (pu:=pv) (vf:=C.f190) rfl ?_
 refine Yw1 ?_
 refine⟨_,_,Wf rfl sat,?_⟩
 refine Yw1 ?_
 refine⟨_,_,Wg rfl (by omega) rfl,?_⟩
 refine Yw1 ?_
 refine XW.A7 (pu:=pv) (σ:=Nat) (fun j=>n.az.length-j) (fun j=>[(k0,.v (iA 0)),(k1,.v (.v (.s (.ptr k2 0)))),(k2,.v (.v (.s (.ptr k4 0)))),(k3,.v (.v (.s (.ptr k0 0)))),(k4,.v (.v (.s (.ptr k5 0)))),(k5,.v (.v (.s (.ptr k3 0)))),(k32,.v (PA.lst 4 (n.az.map aV))),(k33,.v (iA (n.az.map aV).length)),(k34,.v (iA j))])
  (fun j g=>∃lg2,g=mkH (poL f N 0 (st.set 0 (.int .i64 1)) [(0,1)] lg2) k6∧j≤n.az.length) 0
  (Trim.of (lo:=6) (l:=poL f N 0 (st.set 0 (.int .i64 1)) [(0,1)] _) (nx:=k6) [] rfl (Rl) Yl Yb Yf) ⟨_,rfl,Zl⟩ ?_
 rintro j g ⟨lg2,rfl,hj⟩
 refine⟨fun h=>?_,fun h=>?_⟩
 ·have hj:j<n.az.length:=by have:=Ao h;omega
  have ha:n.az[j]?=some n.az[j]:=Gg hj
  generalize haa:n.az[j]=a at ha
  have hga:=Ct ha
  have hk:=hal a (List.mem_of_getElem? ha)
  obtain⟨ap,ks,d⟩:=a
  subst hk
  refine Yw1 ?_
  refine XW.Ad (pu:=pv) ?_
  refine Yw1 ?_
  exact⟨j+1,_,_,by omega,Trim.of (lo:=6) (l:=poL f N 0 (st.set 0 (.int .i64 1)) [(0,1)] _) (nx:=k6) [] rfl (Rl) Yl Yb Yf,⟨_,rfl,by omega⟩⟩
 ·refine Yw1 ?_
  refine⟨_,_,Wg (i:=0) rfl (by rw[List.length_set];omega) sset,?_⟩
  refine Yw1 ?_
  exact⟨rfl,_,_,_,rfl,rfl,rfl,rfl,rfl,rfl,rfl⟩
theorem QP {N i:Nat} {f:Fo} {n:Nd} {st st2:List PV} (hN:f.ns.length=N) (h4:N≤4) (h0:i+1<N) (hn:(f.ns.map nV)[((i+1:Nat):Int).toNat]?=some (nC n)) (nL:n.az.length≤3) (hal:∀a∈n.az,a.ks.length≤2∧∀k∈a.ks,k<i+1)
  (sat:st[i+1]?=some (.int .i64 0)) (slt:∀k,k<i+1→st[k]?=some (.int .i64 2)) (sln:st.length=N) (snk1:∀v∈st.set (i+1) (.int .i64 1),Ae v) (sset:(st.set (i+1) (.int .i64 1)).set (i+1) (.int .i64 2)=st2) :
  XC Fn 190 (UF (i+1)) (mkH (poL f N (i+1) st [] []) k7)
   fun r g'=>r=.unit∧∃l1 l3 l4,g'.get k0=some (foZ f)∧g'.get k1=some (obl st2 l1)∧g'.get k2=some (ob [.slice k1 0 N 1 (some N)])∧g'.get k3=some (obl [.slice k8 0 (i+2) 1 none] l3)∧g'.get k4=some (obl [.bool true] l4)∧g'.get k5=some (ob [sV])∧g'.get k6=some ⟨.cells (Oz (i+1)),false,false,[k0],[]⟩∧g'.get k8=some ⟨.cells (Oz (i+2)),true,false,[k6,k0],[]⟩:=by
 have nlen:(n.az.map aV).length=n.az.length:=Lm ..
 have hlen:(f.ns.map nV).length=f.ns.length:=Lm ..
 have sx:∀k,k<i+1→(st.set (i+1) (.int .i64 1))[k]?=some (.int .i64 2):=fun k hk=>by rw[List.getElem?_set_ne (by omega)];exact slt k hk
 have onk:=kK (i+1)
 have oln:=cQ (i+1)
 have osu:=yX (i+1)
 refine XC.of (pu:=pv) (vf:=C.f190) rfl ?_
 refine Yw1 ?_
 refine⟨_,_,Wf rfl sat,?_⟩
 refine Yw1 ?_
 refine⟨_,_,Wg rfl (by omega) rfl,?_⟩
 refine Yw1 ?_
 refine XW.A7 (pu:=pv) (σ:=Nat) (fun j=>n.az.length-j) (fun j=>[(k0,.v (iA (i+1:Nat))),(k1,.v (.v (.s (.ptr k2 0)))),(k2,.v (.v (.s (.ptr k4 0)))),(k3,.v (.v (.s (.ptr k0 0)))),(k4,.v (.v (.s (.ptr k5 0)))),(k5,.v (.v (.s (.ptr k3 0)))),(k32,.v (PA.lst 4 (n.az.map aV))),(k33,.v (iA (n.az.map aV).length)),(k34,.v (iA j))])
  (fun j g=>∃lg2,g=mkH (poL f N (i+1) (st.set (i+1) (.int .i64 1)) [(i+1,1)] lg2) k7∧j≤n.az.length) 0
  (Trim.of (lo:=7) (l:=poL f N (i+1) (st.set (i+1) (.int .i64 1)) [(i+1,1)] _) (nx:=k7) [] rfl (Rl) Yl Yb Yf) ⟨_,rfl,Zl⟩ ?_
 rintro j g ⟨lg2,rfl,hj⟩
 refine⟨fun h=>?_,fun h=>?_⟩
 ·have hj:j<n.az.length:=by have:=Ao h;omega
  have ha:n.az[j]?=some n.az[j]:=Gg hj
  generalize haa:n.az[j]=a at ha
  have hga:=Ct ha
  obtain⟨a1,a2⟩:=hal a (List.mem_of_getElem? ha)
  obtain⟨ap,ks,d⟩:=a
  rcases ks with _|⟨x,_|⟨y,_|⟨z,ks⟩⟩⟩
  ·refine Yw1 ?_
   refine XW.Ad (pu:=pv) ?_
   refine Yw1 ?_
   exact⟨j+1,_,_,by omega,Trim.of (lo:=7) (l:=poL f N (i+1) (st.set (i+1) (.int .i64 1)) [(i+1,1)] _) (nx:=k7) [] rfl (Rl) Yl Yb Yf,⟨_,rfl,by omega⟩⟩
  ·have hx:=a2 x (by simp)
   refine Yw1 ?_
   refine XW.Ad (pu:=pv) ?_
   refine Yw1 ?_
   refine XC.Be (l:=poL f N (i+1) (st.set (i+1) (.int .i64 1)) [] []) (nx:=k7) poR (P7 (by omega) (sx x hx)) rfl rfl Yb Ys ?_
   rintro rc gc' ⟨rfl,lga,rfl⟩
   refine⟨[],_,poX f N (i+1) (st.set (i+1) (.int .i64 1)) [(i+1,1)] (lga++lg2),[],.unit,rfl,Rl,Yo,trivial,Ys,?_⟩
   refine Yw1 ?_
   refine XW.Ad (pu:=pv) ?_
   refine Yw1 ?_
   exact⟨j+1,_,_,by omega,Trim.of (lo:=7) (l:=poL f N (i+1) (st.set (i+1) (.int .i64 1)) [(i+1,1)] (lga++lg2)) (nx:=k7) [] rfl (Rl) Yl Yb Yf,⟨_,rfl,by omega⟩⟩
  ·have hx:=a2 x (by simp)
   have hy:=a2 y (by simp)
   refine Yw1 ?_
   refine XW.Ad (pu:=pv) ?_
   refine Yw1 ?_
   refine XC.Be (l:=poL f N (i+1) (st.set (i+1) (.int .i64 1)) [] []) (nx:=k7) poR (P7 (by omega) (sx x hx)) rfl rfl Yb Ys ?_
   rintro rc gc' ⟨rfl,lga,rfl⟩
   refine⟨[],_,poX f N (i+1) (st.set (i+1) (.int .i64 1)) [(i+1,1)] (lga++lg2),[],.unit,rfl,Rl,Yo,trivial,Ys,?_⟩
   refine Yw1 ?_
   refine XW.Ad (pu:=pv) ?_
   refine Yw1 ?_
   refine XC.Be (l:=poL f N (i+1) (st.set (i+1) (.int .i64 1)) [] []) (nx:=k7) poR (P7 (by omega) (sx y hy)) rfl rfl Yb Ys ?_
   rintro rc gc' ⟨rfl,lgb,rfl⟩
   refine⟨[],_,poX f N (i+1) (st.set (i+1) (.int .i64 1)) [(i+1,1)] (lgb++(lga++lg2)),[],.unit,rfl,Rl,Yo,trivial,Ys,?_⟩
   refine Yw1 ?_
   refine XW.Ad (pu:=pv) ?_
   refine Yw1 ?_
   exact⟨j+1,_,_,by omega,Trim.of (lo:=7) (l:=poL f N (i+1) (st.set (i+1) (.int .i64 1)) [(i+1,1)] (lgb++(lga++lg2))) (nx:=k7) [] rfl (Rl) Yl Yb Yf,⟨_,rfl,by omega⟩⟩
  ·simp at a1
 ·refine Yw1 ?_
  refine⟨_,_,Wg (i:=i+1) rfl (by rw[List.length_set];omega) sset,?_⟩
  refine Yw1 ?_
  refine⟨_,_,sT rfl (by rw[oln,Nat.mul_one]) rfl (by decide) (by omega),?_⟩
  refine Yw1 ?_
  exact⟨rfl,_,_,_,rfl,rfl,rfl,rfl,rfl,rfl,rfl,congrArg (fun c=>some (Ap.mk (.cells c) true false [k6,k0] [])) osu⟩
theorem kO {f:Fo} (w:WF0 f) (v:WF f):Ag Fn 125 [foA f] (.tup [.s (.lst 1 ((Oz f.ns.length).map fun x=>[x]) none),.s (.bool true)]):=by
 have hlen:(f.ns.map nV).length=f.ns.length:=Lm ..
 have hrlen:(f.rs.map rV).length=f.rs.length:=Lm ..
 have hL:=w.len
 have rL:=w.Oy
 have hn0:0<f.ns.length:=List.length_pos_iff.2 w.n0
 rw[Da w.n0 w.r0]
 refine Am (pu:=pv) (vf:=C.f125) rfl ?_
 refine⟨_,_,Dc (n:=f.ns.length) rfl (by rw[hlen]) (by omega) (by omega),?_⟩
 generalize hN:f.ns.length=N at *
 rw[cN]
 have e0:List.replicate N (PV.int .i64 (.ofNat 0))=stC N 0:=by simp[stC]
 rw[e0]
 have snk:=sU N
 refine XW.N8 k0 (Zl) rfl rfl ?_
 refine XW.A7 (pu:=pv) (σ:=Nat) (fun i=>N-i) (fun i=>[(k1,.v (.v (.s (.ptr k0 0)))),(k4,.v (.v (.s (.ptr k2 0)))),(k5,.v (.v (.s (.ptr k3 0)))),(k6,.v (.v (.s (.ptr k4 0)))),(k7,.v (.v (.s (.ptr k5 0)))),(k16,.v (PA.lst 3 (f.rs.map rV))),(k17,.v (iA (f.rs.map rV).length)),(k18,.v (iA i))])
  (fun i g=>∃l1 l3 lg,g=mkH (poM f N i (stC N i) l1 l3 lg) (XB i)∧i≤N) 0
  (Trim.of (l:=poM f N 0 (stC N 0) [] [] []) (nx:=k6) [(k0,k0),(k1,k1),(k2,k2),(k3,k3),(k4,k4),(k5,k5)] rfl (Zl) trivial (by have:=snk 0;exact Yb) Yf) ⟨_,_,_,rfl,Zl⟩ ?_
 rintro i g ⟨l1,l3,lg,rfl,hi⟩
 refine⟨fun h=>?_,fun h=>?_⟩
 ·have hi:i<N:=by have:=Ao h;omega
  have hr:f.rs[i]?=some f.rs[i]:=Gg (by omega)
  generalize hrr:f.rs[i]=r at hr
  have hgr:=Iv hr
  obtain⟨r1,r2,r3⟩:=w.rt i r hr
  rw[r1] at hgr
  have hn:f.ns[i]?=some f.ns[i]:=Gg (by omega)
  generalize hnn:f.ns[i]=n at hn
  have hg:=G0 hn
  rw[Ke (v.as0 i n hn)] at hg
  have nL:=w.Iy i n hn
  have hal:=w.al i n hn
  have sat:=QM hi
  have slt:=fun k (hk:k<i)=>QL (N:=N) hk
  have sln:=KH (Nat.le_of_lt hi)
  have sset:=KI hi 1
  have snk:=sU N i
  have snk2:=sU N (i+1)
  generalize stC N i=st at *
  have snk1:∀v∈st.set i (.int .i64 1),Ae v:=fun v h=>by
   rcases List.mem_or_eq_of_mem_set h with h|rfl
   ·exact snk v h
   ·exact trivial
  obtain _|i:=i
  ·have hv:=QO hN hL hn0 hg nL (fun a ha=>List.eq_nil_iff_forall_not_mem.2 fun k hk=>absurd ((hal a ha).2.1 k hk) (Nat.not_lt_zero _)) sat sln snk1 sset
   refine Yw1 ?_
   refine XC.Be (l:=poL f N 0 st [] []) (nx:=k6) [(k0,k0),(k1,k1),(k2,k2),(k3,k3),(k4,k4),(k5,k5)] hv rfl rfl Yb Ys ?_
   rintro rc gc' ⟨rfl,m1,m3,m4,e0,e1,e2,e3,e4,e5,e7⟩
   refine⟨[(k7,k7)],k8,[some (foZ f),some (obl (stC N 1) (m1++l1)),some (ob [.slice k1 0 N 1 (some N)]),some (obl [.slice k7 0 1 1 none] (m3++l3)),some (obl [.bool true] (m4++lg)),some (ob [sV])],[ob (Oz 1)],.unit,rfl,(show 7≤8 from by decide),⟨⟨_,_,_,e0,⟨Ys,fun _=>⟨rfl,.inl .nil⟩,rfl⟩,rfl,rfl,rfl,rfl⟩,⟨_,_,_,e1,.same Yc,rfl,rfl,rfl,rfl⟩,⟨_,_,_,e2,.same Yc,rfl,rfl,rfl,rfl⟩,⟨_,_,_,e3,.same Yc,rfl,rfl,rfl,rfl⟩,⟨_,_,_,e4,.same Yc,rfl,rfl,rfl,rfl⟩,⟨_,_,_,e5,.same Yc,rfl,rfl,rfl,rfl⟩,trivial⟩,⟨⟨_,e7,.same Yc⟩,trivial⟩,Ys,?_⟩
   refine Yw1 ?_
   exact⟨1,_,_,by omega,Trim.of (l:=poM f N 1 (stC N 1) (m1++l1) (m3++l3) (m4++lg)) (nx:=k7) [(k0,k0),(k1,k1),(k2,k2),(k3,k3),(k4,k4),(k5,k5),(k6,k7)] rfl (Zl) trivial Yb Yf,_,_,_,rfl,by omega⟩
  ·have hv:=QP (i:=i) hN hL hi hg nL (fun a ha=>⟨(hal a ha).1,(hal a ha).2.1⟩) sat slt sln snk1 sset
   have onk:=kK (i+1)
   have onk2:=kK (i+2)
   refine Yw1 ?_
   refine XC.Be (l:=poL f N (i+1) st [] []) (nx:=k7) poR hv rfl rfl Yb Ys ?_
   rintro rc gc' ⟨rfl,m1,m3,m4,e0,e1,e2,e3,e4,e5,e6,e8⟩
   refine⟨[(k8,k8)],k9,[some (foZ f),some (obl (stC N (i+2)) (m1++l1)),some (ob [.slice k1 0 N 1 (some N)]),some (obl [.slice k8 0 (i+2) 1 none] (m3++l3)),some (obl [.bool true] (m4++lg)),some (ob [sV]),some ⟨.cells (Oz (i+1)),false,false,[k0],[]⟩],[wld (Oz (i+2)) k0],.unit,rfl,(show 8≤9 from by decide),⟨⟨_,_,_,e0,⟨Ys,fun _=>⟨rfl,.inl .nil⟩,rfl⟩,rfl,rfl,rfl,rfl⟩,⟨_,_,_,e1,.same Yc,rfl,rfl,rfl,rfl⟩,⟨_,_,_,e2,.same Yc,rfl,rfl,rfl,rfl⟩,⟨_,_,_,e3,.same Yc,rfl,rfl,rfl,rfl⟩,⟨_,_,_,e4,.same Yc,rfl,rfl,rfl,rfl⟩,⟨_,_,_,e5,.same Yc,rfl,rfl,rfl,rfl⟩,⟨_,_,_,e6,⟨Ys,(fun h=>(by cases h)),rfl⟩,rfl,rfl,rfl,rfl⟩,trivial⟩,⟨⟨_,e8,⟨Ys,fun _=>⟨rfl,.inr ⟨_,_,_,.head _,rfl,e0,rfl⟩⟩,rfl⟩⟩,trivial⟩,Ys,?_⟩
   refine Yw1 ?_
   exact⟨i+2,_,_,by omega,Trim.of (l:=poM f N (i+2) (stC N (i+2)) (m1++l1) (m3++l3) (m4++lg)) (nx:=k7) [(k0,k0),(k1,k1),(k2,k2),(k3,k3),(k4,k4),(k5,k5),(k6,k8)] rfl (Zl) trivial Yb Yf,_,_,_,rfl,by omega⟩
 ·have hi:i=N:=by have:=A1 h;omega
  subst hi
  obtain⟨n,rfl⟩:∃n,i=n+1:=⟨i-1,by omega⟩
  have onk:∀v∈Oz (n+1),Et v:=fun v h=>by obtain⟨m,_,rfl⟩:=List.mem_map.1 h;exact trivial
  have oln:=cQ (n+1)
  rw[←S8 oln]
  exact⟨_,EI (Ho rfl (by rw[oln,Nat.mul_one]) (by omega) rfl (Ep onk))⟩
abbrev XD (n:Nat):PV:=.lst 1 ((Oz n).map fun x=>[x]) none
theorem EN (D:S6) {f:Fo} (w:WF0 f) (v:WF f):Ag Fn 69 [foA f] (.tup [.s (XD f.ns.length),.s (.bool true)]):=by
 have hlen:(f.ns.map nV).length=f.ns.length:=Lm ..
 have hol:((Oz f.ns.length).map fun x=>[x]).length=f.ns.length:=by rw[Lm,cQ]
 have hL:=w.len
 have fo:=yP D v
 have po:=kO w v
 rw[Da w.n0 w.r0] at fo po ⊢
 refine Am (pu:=pv) (vf:=C.f69) rfl ?_
 exact Yw0
theorem Dn (D:I8) {a:Al} {c:Nat} {al:List Bool} (hc:c<4) (hd:a.d<16) (h2:a.ks.length≤2) (hk:∀k∈a.ks,k<al.length):Ag Fn 74 [.v (.agg (aC a)),cA c,PA.lst 1 (bL al)] (bA (Cc al c a)):=by
 have hlb:Cc al c a=(a.d.testBit c&&!a.ks.any fun k=>!al.getD k false):=rfl
 have dh:=D.holds a.d hd c hc
 have hbl:(bL al).length=al.length:=Lm ..
 have hget:∀k,k<al.length→(bL al)[(k:Int).toNat]?=some [.bool (al.getD k false)]:=fun k h=>by simp[bL,h,List.getD]
 refine Am (pu:=pv) (vf:=C.f74) rfl ?_
 cases hbt:a.d.testBit c
 ·rw[hbt] at dh hlb
  rw[hlb]
  exact Yw0
 ·rw[hbt] at dh hlb
  rw[hlb]
  refine Yw1 ?_
  refine XC.of (pu:=pv) (vf:=C.f137) rfl ?_
  obtain⟨p,ks,d⟩:=a
  rcases ks with _|⟨x,_|⟨y,_|⟨z,ks⟩⟩⟩
  ·refine XC.of (pu:=pv) (vf:=C.f193) rfl ?_
   refine Yw1 ?_
   refine XW.Ad (pu:=pv) ?_
   exact Yw0
  ·have hx:=hk x (by simp)
   have gx:=hget x hx
   rw[show(true&&!([x].any fun k=>!al.getD k false))=al.getD x false from by simp only[List.any_cons,List.any_nil,Bool.or_false,Bool.true_and,Bool.not_not]]
   generalize al.getD x false=bx at *
   refine XC.of (pu:=pv) (vf:=C.f193) rfl ?_
   refine Yw1 ?_
   refine XW.Ad (pu:=pv) ?_
   refine Yw1 ?_
   refine XC.of (pu:=pv) (vf:=C.f138) rfl ?_
   cases bx
   ·exact Yw0
   ·refine Yw1 ?_
    refine XW.Ad (pu:=pv) ?_
    exact Yw0
  ·have hx:=hk x (by simp)
   have gx:=hget x hx
   have hy:=hk y (by simp)
   have gy:=hget y hy
   rw[show(true&&!([x,y].any fun k=>!al.getD k false))=(al.getD x false&&al.getD y false) from by simp only[List.any_cons,List.any_nil,Bool.or_false,Bool.true_and,Bool.not_or,Bool.not_not]]
   generalize al.getD x false=bx at *
   generalize al.getD y false=b2 at *
   refine XC.of (pu:=pv) (vf:=C.f193) rfl ?_
   refine Yw1 ?_
   refine XW.Ad (pu:=pv) ?_
   refine Yw1 ?_
   refine XC.of (pu:=pv) (vf:=C.f138) rfl ?_
   cases bx
   ·exact Yw0
   ·refine Yw1 ?_
    refine XW.Ad (pu:=pv) ?_
    refine Yw1 ?_
    refine XC.of (pu:=pv) (vf:=C.f138) rfl ?_
    cases b2
    ·exact Yw0
    ·refine Yw1 ?_
     refine XW.Ad (pu:=pv) ?_
     exact Yw0
  ·simp at h2
end Go.Pv
end
section
noncomputable section
namespace Go.Pv
open Go.Vm
open Go.Vm.Key (kn)
variable {F:A4} {pu:Nat→Bool}
theorem N9 {α β:Type} {R:α→β→Prop}:∀{a b:List α} {x:α} {m:List β},Aa R (a++x::b) m→∃m1 y m2,m=m1++y::m2∧Aa R a m1∧R x y∧Aa R b m2
 |[],b,x,_,.cons h1 h2=>⟨[],_,_,rfl,.nil,h1,h2⟩
 |a0::a,b,x,_,.cons h1 h2=>by
  obtain⟨m1,y,m2,rfl,e1,e2,e3⟩:=N9 (a:=a) h2
  exact⟨_::m1,y,m2,rfl,.cons h1 e1,e2,e3⟩
theorem K7 {α β:Type} {R:α→β→Prop} {a:List α} {m:List β} (h:Aa R a m) {b:List α} {x:α} {m2:List β} {y:β} (e:R x y) (h2:Aa R b m2):Aa R (a++x::b) (m++y::m2):=by
 induction h with
 |nil=>exact .cons e h2
 |cons h _ ih=>exact .cons h ih
theorem XC.P8 {f:Nat} {a b:List PA} {x x':PA} {g g1:Ab} {R:PA→Ab→Prop} (hx:E8 deep x g=some (x',g1)) (h:XC F f (a++x'::b) g1 R):XC F f (a++x::b) g R:=by
 intro s hs hg vs hv
 subst hg
 obtain⟨m1,y,m2,rfl,e1,e2,e3⟩:=N9 hv
 obtain⟨Z1,h1,h2⟩:=Ue hs.toCg e2 hx
 have hg:Good ⟨Z1,s.p,g1,s.h⟩:=⟨h1.sim,h1.room hs.toRoom⟩
 have hext:=h1.ext s.g.next.toNat s.h.next.toNat
 obtain⟨N,u,h',Z',p',r,g',h3,h4,h5,h6,h7⟩:=h _ hg rfl _ (K7 (Ak e1 fun _ _=>AR.mono hext.zle fun _ _ h=>h) h2.a (Ak e3 fun _ _=>AR.mono hext.zle fun _ _ h=>h))
 exact⟨N,u,h',Z',p',r,g',h3,h4,hext.trans hs.toCg h5 hext.nx.1 (Rl),h6,h7⟩
theorem QQ {x x':PV} {k:IntKind} {n:Int} {g g':Ab} (h:Jt 40 x g=some (x',g')):E8 deep (.tup [.s x,.s (.int k n)]) g=some (.tup [.s x',.s (.int k n)],g'):=by
 show(match Rt 40 [.s x,.s (.int k n)] g with
  |some (l,h)=>some (PA.tup l,h)
  |none=>none)=_
 simp only[Rt,Yn,h];rfl
theorem XC.XE {f:Nat} {args:List PA} {g:Ab} {R:PA→Ab→Prop} (h:XC F f args g fun r g'=>∃r' g2,E8 deep r g'=some (r',g2)∧R r' g2):XC F f args g R:=by
 intro s hs hg vs hv
 obtain⟨N,u,h',Z',p',r,g',e1,e2,e3,e4,r',g2,hf,hR⟩:=h s hs hg vs hv
 obtain⟨Z2,h1,h2⟩:=Ue e2.toCg e4 hf
 have hext:=h1.ext s.g.next.toNat s.h.next.toNat
 exact⟨N,u,h',Z2,p',r',g2,e1,⟨h1.sim,h1.room e2.toRoom⟩,e3.trans hs.toCg hext (Rl) (Rl),h2.a,hR⟩
theorem QR {es b:Nat} {zero:List SV} {z:List PV} {n:Nat} {g:Ab} (hz:Jo zero=some z) (hn:n≤1000000) (hb:b≤1000000):opP (.Ko es b zero) [.v (.s (.int .i64 ((0:Nat):Int))),.v (.s (.int .i64 (n:Nat)))] g=some (.v (.s (.slice g.next 0 0 es (some n))),g.new (.cells (Oj z n))):=by
 have h1:b*n≤1000000*1000000:=Nat.mul_le_mul hb hn
 simp only[opP,O9,hz,Int.toNat_natCast]
 rw[if_pos ⟨Int.le_refl _,Int.natCast_nonneg n,by omega,by rw[Nat.ble_eq];omega⟩]
theorem Iw {es:Nat} {l:List (List PV)} {g:Ab}:opP (.slice (.slice es) false true true) [.v (.s (.lst es l none)),.v (.s (.int .i64 (l.length:Nat))),.v (.s (.int .i64 (l.length:Nat)))] g=some (.v (.s (.lst es l (some l.length))),g):=by
 simp[opP,Vl,zY,qB,Dr,Jp,bounds,Nk,bnd,Kr]
theorem Fv {es by' k:Nat} {l:List (List PV)} {g:Ab} {x:PV} {new:List PV} (hx:Vk g es x=some (new,k)) (hk:k≠0) (hr:2*(l.length+k)*by'≤281474976710656) :
  opP (.append es by') [.v (.s (.lst es l (some l.length))),.v (.s x)] g=some (.v (.s (.slice g.next 0 (l.length+k) es none)),g.new (.cells (l.flatten++new))):=by
 have h1:room (l.length+k) by'=true:=Nat.ble_eq_true_of_le hr
 have h2:¬l.length+k≤l.length:=by omega
 show D1 es by' [.v (.s (.lst es l (some l.length))),.v (.s x)] g=_
 simp only[D1,hx,Kq,if_true,hk,if_false,h1,h2]
theorem UG {es by' k:Nat} {b:Key} {g:Ab} {x:PV} {new:List PV} (hx:Vk g es x=some (new,k)) (hk:k≠0) (hr:2*k*by'≤281474976710656) :
  opP (.append es by') [.v (.s (.slice b 0 0 es (some 0))),.v (.s x)] g=some (.v (.s (.slice g.next 0 k es none)),g.new (.cells new)):=by
 have h1:room k by'=true:=Nat.ble_eq_true_of_le hr
 have h2:¬k≤0:=by omega
 show D1 es by' [.v (.s (.slice b 0 0 es (some 0))),.v (.s x)] g=_
 simp only[D1,hx,Kq,if_true,hk,if_false,Nat.zero_add,h1,h2,Nat.zero_mul,Ab.renew]
theorem Rd {es:Nat}:∀{l:List (List PV)},(∀x∈l,x.length=es)→chunk es l.length l.flatten=l
 |[],_=>rfl
 |x::l,h=>by
  have hx:=h x (.head _)
  rw[List.length_cons,chunk,List.flatten_cons,List.take_left' hx,List.drop_left' hx,Rd fun y hy=>h y (.tail _ hy)]
theorem cR {es:Nat} {new:List PV} (hn:new.length=es):∀{l:List (List PV)},(∀x∈l,x.length=es)→chunk es (l.length+1) (l.flatten++new)=l++[new]
 |[],_=>by simp[chunk,←hn]
 |x::l,h=>by
  have hx:=h x (.head _)
  rw[List.length_cons,chunk]
  simp only[List.flatten_cons,List.append_assoc,List.cons_append]
  rw[List.take_left' hx,List.drop_left' hx,cR hn fun y hy=>h y (.tail _ hy)]
theorem Gl {es:Nat}:∀{l:List (List PV)},(∀x∈l,x.length=es)→l.flatten.length=l.length*es
 |[],_=>by simp
 |x::l,h=>by
  rw[List.flatten_cons,La,h x (.head _),Gl fun y hy=>h y (.tail _ hy),List.length_cons,Nat.add_mul];omega
end Go.Pv
end
section
noncomputable section
namespace Go.Pv
open Go.Vm Go.Vm.C
open Go.Vm.Key (kn)
set_option maxRecDepth 10000
set_option maxHeartbeats 0
abbrev Tre:=List Nat
def Au (T:Nat→List Tre):List Nat→List Tre
 |[]=>[[]]
 |k::ks=>(T k).flatMap fun s=>(Au T ks).map (s++·)
def Ov (T:Nat→List Tre) (al:List Bool) (c:Nat) (az:List Al):List Tre:=az.flatMap fun a=>if Cc al c a then(Au T a.ks).map (a.p::·) else[]
def M5 (T:Nat→List Tre):List (List Nat)→Tre→List Tre
 |[],t=>[t]
 |l::ls,t=>(Au T l.tail).flatMap fun s=>M5 T ls (t++s)
def D8 (T:Nat→List Tre) (ls:List (List Nat)) (l:List Nat) (t:Tre):List Tre:=(Au T l).flatMap fun s=>M5 T ls (t++s)
def eE (T:Nat→List Tre) (ls:List (List Nat)) (i:Nat) (t:Tre):List Tre:=(T i).flatMap fun s=>M5 T ls (t++s)
theorem yY (T:Nat→List Tre) (ls:List (List Nat)) (t:Tre):D8 T ls [] t=M5 T ls t:=by simp[D8,Au]
theorem sW (T:Nat→List Tre) (ls:List (List Nat)) (k:Nat) (l:List Nat) (t:Tre):D8 T ls (k::l) t=eE T ((k::l)::ls) k t:=by
 simp[D8,Au,eE,M5,List.flatMap_assoc,List.flatMap_map]
theorem KJ {T:Nat→List Tre} {al:List Bool} {c i:Nat} {az:List Al} (h:T i=Ov T al c az) (ls:List (List Nat)) (t:Tre):eE T ls i t=az.flatMap fun a=>if Cc al c a then D8 T ls a.ks (t++[a.p]) else[]:=by
 rw[eE,h,Ov,List.flatMap_assoc]
 congr 1;funext a
 split
 ·simp[D8,List.flatMap_map]
 ·rfl
def tR (t:Tre):List (List PV):=t.map fun p=>[.int .i64 (p:Nat),.int .i64 (-1),.int .i64 0,.int .i64 0]
def tV (t:Tre):PV:=slV 4 (tR t)
def oC (o:List Tre):List PV:=o.map tV
theorem P9 (t:Tre):∀x∈tR t,x.length=4:=fun x h=>by obtain⟨p,_,rfl⟩:=List.mem_map.1 h;rfl
theorem Re (t:Tre) (p:Nat):tR t++[[.int .i64 (p:Nat),.int .i64 (-1),.int .i64 0,.int .i64 0]]=tR (t++[p]):=by simp[tR]
theorem kP (t:Tre):∀v∈(tR t).flatten,Et v:=fun v h=>by
 obtain⟨x,hx,hv⟩:=List.mem_flatten.1 h
 obtain⟨p,_,rfl⟩:=List.mem_map.1 hx
 simp only[List.mem_cons,List.not_mem_nil,or_false] at hv
 rcases hv with rfl|rfl|rfl|rfl<;>exact trivial
theorem Bh (o:List Tre):∀v∈oC o,Ae v:=fun v h=>by obtain⟨t,_,rfl⟩:=List.mem_map.1 h;exact Ar _ _
theorem EO (o:List Tre):(oC o).length=o.length:=Lm ..
theorem KL (o:List Tre) (t:Tre):oC o++[tV t]=oC (o++[t]):=by simp[oC]
theorem KM (p:Nat) (t:Tre):tV (p::t)=.lst 4 (tR (p::t)) none:=rfl
def pt (n:Nat):Bool:=pv n||sJ [76] n
theorem EP (p:Nat) (t:Tre) (ht:t.length<1000000):Ag Fn 76 [.v (.s (tV (p::t)))] (.v (.s (tV (p::t)))):=by
 rw[KM]
 have hl:=Gl (P9 (p::t))
 have hf:=Ep (kP (p::t))
 refine Am (pu:=pv) (vf:=C.f76) rfl ?_
 refine Yw1 ?_
 refine⟨_,_,UG (x:=.lst 4 (tR (p::t)) none) rfl (by simp[tR]) (by simp[tR];omega),?_⟩
 rw[show PA.v (PC.s (PV.lst 4 (tR (p::t)) none))=.v (.s (.lst 4 (chunk 4 (tR (p::t)).length (tR (p::t)).flatten) none)) from by rw[Rd (P9 _)]]
 exact⟨_,Wn (Ho rfl hl.symm (by simp[tR]) rfl hf)⟩
abbrev fW:PV:=.func 73 [] [(k0,0),(k1,0),(k3,0),(k5,0)]
abbrev fX:PV:=.func 71 [] [(k5,0),(k4,0)]
def kL:Nat→Key
 |0=>k8
 |1=>k10
 |_=>k12
def kM:Nat→Key
 |0=>k9
 |1=>k11
 |_=>k13
def nkT:Nat→Key
 |0=>k8
 |1=>k10
 |2=>k12
 |_=>k14
def cV:Nat→PV
 |0=>.func 75 [] [(k6,0),(k2,0)]
 |d+1=>.func 72 [] [(k5,0),(kL d,0),(kM d,0)]
def ouV (o:List Tre):PV:=
 match o with
 |[]=>.Af
 |t::o=>.slice k7 0 (o.length+1) 1 none
def ouB (o:List Tre) (bc:List PV):Ap:=
 match o with
 |[]=>⟨.cells bc,false,false,[],[]⟩
 |t::o=>wld (oC (t::o)) k0
def wA:List (List Nat)→List (Key×Ap)
 |[]=>[]
 |l::ls=>wA ls++[(kL ls.length,ob [ksV l]),(kM ls.length,ob [cV ls.length])]
structure TC where
 f:Fo
 al:List Bool
 c:Nat
 mo:Nat
abbrev hT (x:TC) (o:List Tre) (bc:List PV) (ls:List (List Nat)):List (Key×Ap):=(k0,foZ x.f)::(k1,ob [.int .u64 (x.c:Nat)])::(k2,ob [.int .i64 (x.mo:Nat)])::(k3,ob [.lst 1 (bL x.al) none])::(k4,ob [fW])::(k5,ob [fX])::(k6,ob [ouV o])::(k7,ouB o bc)::wA ls
structure cS (x:TC) (o:List Tre) (bc:List PV) (ls:List (List Nat)) (ts:List Tre) (g:Ab):Prop where
 e0:g.get k0=some (foZ x.f)
 e1:g.get k1=some (ob [.int .u64 (x.c:Nat)])
 e2:g.get k2=some (ob [.int .i64 (x.mo:Nat)])
 e3:g.get k3=some (ob [.lst 1 (bL x.al) none])
 e4:g.get k4=some (ob [fW])
 e5:g.get k5=some (ob [fX])
 el:∀k b,(k,b)∈wA ls→g.get k=some b
 out:(ts=[]∧g.get k6=some (ob [ouV o])∧g.get k7=some (ouB o bc)) ∨
  (ts≠[]∧∃kN l6 c7 ba anc n cc,(nkT ls.length).toNat≤kN.toNat∧g.get k6=some (obl [.slice kN 0 n 1 none] l6)∧(∀v∈c7,Ae v)∧g.get k7=some ⟨.cells c7,false,false,ba,[]⟩∧g.get kN=some ⟨.cells cc,true,false,anc,[]⟩∧n=(o++ts).length∧cc=oC (o++ts))
def sz (i:Nat):Nat:=2 ^ (i+1)-1
def cap (ls:List (List Nat)):Nat:=(ls.map fun l=>(l.tail.map sz).sum).sum
theorem oR (l:List Nat) (ls:List (List Nat)):cap (l::ls)=(l.tail.map sz).sum+cap ls:=rfl
def kQ (x:TC) (T:Nat→List Tre) (ls:List (List Nat)):Prop:=∀o bc t,(∀v∈bc,Ae v)→t≠[]→t.length+cap ls≤1000→o.length+(M5 T ls t).length≤x.mo →
 match cV ls.length with
 |.func f _ cs=>XC Fn f (.v (.s (tV t))::Rs cs) (mkH (hT x o bc ls) (nkT ls.length)) fun r g=>r=bA true∧cS x o bc ls (M5 T ls t) g
 |_=>False
theorem NJ (x:TC) (T:Nat→List Tre) (hm:x.mo≤2000):kQ x T []:=by
 intro o bc t hbc ht hB hlen
 obtain⟨p,t,rfl⟩:∃p u,t=p::u:=by cases t with
  |nil=>exact absurd rfl ht
  |cons p u=>exact⟨p,u,rfl⟩
 have hlen:o.length+1≤x.mo:=hlen
 have cl:=EP p t (by have:(p::t).length=t.length+1:=rfl;omega)
 show XC Fn 75 [.v (.s (tV (p::t))),.v (.s (.ptr k6 0)),.v (.s (.ptr k2 0))] (mkH (hT x o bc []) k8) _
 refine XC.of (pu:=pt) (vf:=C.f75) rfl ?_
 have hne:∀n:Nat,n<x.mo→((n:Int)==(x.mo:Int))=false:=fun n h=>by simp;omega
 obtain _|⟨t0,o⟩:=o
 ·refine Yw1 ?_
  exact⟨rfl,rfl,rfl,rfl,rfl,rfl,rfl,(fun _ _ h=>(by cases h)),.inr ⟨List.cons_ne_nil _ _,k9,_,bc,_,_,_,_,(show 8≤9 by decide),rfl,hbc,rfl,rfl,rfl,rfl⟩⟩
 ·have hlen2:o.length+1+1≤x.mo:=hlen
  refine Yw1 ?_
  refine⟨_,_,sT rfl (by rw[EO,Nat.mul_one];rfl) rfl (by decide) (by omega),?_⟩
  refine Yw1 ?_
  have e1:((t0::o)++M5 T [] (p::t)).length=o.length+1+1:=by simp[M5]
  have e2:oC ((t0::o)++M5 T [] (p::t))=oC (t0::o)++[tV (p::t)]:=(KL _ _).symm
  exact⟨rfl,rfl,rfl,rfl,rfl,rfl,rfl,(fun _ _ h=>(by cases h)),.inr ⟨List.cons_ne_nil _ _,k9,_,oC (t0::o),_,_,_,_,(show 8≤9 by decide),rfl,Bh _,rfl,rfl,e1.symm,e2.symm⟩⟩
def rT (d:Nat):List (Key×Key):=
 (k0,k0)::(k1,k1)::(k2,k2)::(k3,k3)::(k4,k4)::(k5,k5)::(k6,k6)::(k7,k7)::match d with
  |0=>[]
  |1=>[(k8,k8),(k9,k9)]
  |2=>[(k8,k8),(k9,k9),(k10,k10),(k11,k11)]
  |_=>[(k8,k8),(k9,k9),(k10,k10),(k11,k11),(k12,k12),(k13,k13)]
def lkX:List (List Nat)→List (Option Ap)
 |[]=>[]
 |l::ls=>lkX ls++[some (ob [ksV l]),some (ob [cV ls.length])]
abbrev xT (x:TC) (l3 l4 l5:List (Nat×Nat)) (B6 B7:Ap) (ls:List (List Nat)):List (Option Ap):=some (foZ x.f)::some (ob [.int .u64 (x.c:Nat)])::some (ob [.int .i64 (x.mo:Nat)])::some (obl [.lst 1 (bL x.al) none] l3)::some (obl [fW] l4)::some (obl [fX] l5)::some B6::some B7::lkX ls
theorem A9 {gn nx nx2:Nat} {k j:Key} (h1:gn≤k.toNat) (h2:k.toNat<nx2) (h3:nx≤j.toNat):K5 gn nx nx2 [(k,j)] [] []=true:=by
 simp only[K5,List.any_nil,Bool.not_false,Bool.and_true,Bool.and_eq_true]
 exact⟨⟨Nat.ble_eq_true_of_le h1,by rw[Nat.blt_eq];exact h2⟩,Nat.ble_eq_true_of_le h3⟩
def Oa (x:TC) (T:Nat→List Tre) (ls:List (List Nat)) (l:List Nat):Prop:=∀o bc t lv,(∀v∈bc,Ae v)→t≠[]→(lv=ksV l∨lv=.lst 4 (l.map kV) none)→t.length+(l.map sz).sum+cap ls≤1000→o.length+(D8 T ls l t).length≤x.mo →
 XC Fn 71 [.v (.s lv),.v (.s (tV t)),.v (.s (cV ls.length)),.v (.s (.ptr k5 0)),.v (.s (.ptr k4 0))] (mkH (hT x o bc ls) (nkT ls.length)) fun r g=>r=bA true∧cS x o bc ls (D8 T ls l t) g
theorem KN (x:TC) (T:Nat→List Tre) {ls:List (List Nat)} {l:List Nat} (hd:ls.length≤2) (h0:l≠[]) (h2:l.length≤2) (h:Oa x T ls l.tail):kQ x T (l::ls):=by
 intro o bc t hbc ht hB hlen
 have hk:=h o bc t (.lst 4 (l.tail.map kV) none) hbc ht (.inr rfl) (by rw[oR] at hB;omega) hlen
 have hts:M5 T (l::ls) t=D8 T ls l.tail t:=rfl
 rw[hts]
 generalize D8 T ls l.tail t=ts at hk ⊢
 have tnk:Ae (tV t):=Ar _ _
 obtain⟨y,l,rfl⟩:∃y u,l=y::u:=by cases l with
  |nil=>exact absurd rfl h0
  |cons p u=>exact⟨p,u,rfl⟩
 have hl:l=[]∨∃z,l=[z]:=by
  rcases l with _|⟨z,_|⟨w,l⟩⟩
  ·exact .inl rfl
  ·exact .inr ⟨z,rfl⟩
  ·simp at h2
 have ocn1:=Bh o
 obtain _|⟨l1,_|⟨l2,_|⟨l3,ls⟩⟩⟩:=ls
 ·show XC Fn 72 [.v (.s (tV t)),.v (.s (.ptr k5 0)),.v (.s (.ptr k8 0)),.v (.s (.ptr k9 0))] (mkH (hT x o bc [y::l]) k10) _
  refine XC.of (pu:=pt) (vf:=C.f72) rfl ?_
  obtain rfl|⟨z,rfl⟩:=hl
  all_goals
   obtain _|⟨t0,o⟩:=o
   all_goals
    refine Yw1 ?_
    refine XC.Be (l:=hT x _ bc []) (nx:=k8) (rT 0) hk rfl rfl Yb Ya ?_
    rintro rc gc' ⟨rfl,hp⟩
    obtain⟨rfl,e6,e7⟩|⟨hts,kN,l6,c7,ba,anc,n,cc,hle,e6,n7,e7,e8,rfl,rfl⟩:=hp.out
    ·refine⟨[],k10,xT x [] [] [] (ob [ouV _]) (ouB _ bc) [],[],bA true,rfl,Rl,(by
      exact Yj0),trivial,rfl,?_⟩
     refine Yw1 ?_
     exact⟨rfl,rfl,rfl,rfl,rfl,rfl,rfl,Yk,.inl ⟨rfl,rfl,rfl⟩⟩
    ·have ocn:=fun u:List Tre=>Bh (u++ts)
     refine⟨[(k10,kN)],k11,xT x [] [] [] (obl [.slice k10 0 _ 1 none] (l6++[])) ⟨.cells c7,false,false,[],[]⟩ [],[wld (oC _) k0],bA true,A9 (Rl) (by decide) hle,(show 10≤11 by decide),(by
      exact Yj1),⟨⟨_,e8,⟨Ae.cells (ocn _),fun _=>⟨rfl,.inr ⟨_,_,_,.head _,rfl,hp.e0,rfl⟩⟩,rfl⟩⟩,trivial⟩,rfl,?_⟩
     refine Yw1 ?_
     exact⟨rfl,rfl,rfl,rfl,rfl,rfl,rfl,Yk,.inr ⟨hts,k10,_,c7,_,_,_,_,(show 10≤10 by decide),rfl,n7,rfl,rfl,rfl,rfl⟩⟩
 ·show XC Fn 72 [.v (.s (tV t)),.v (.s (.ptr k5 0)),.v (.s (.ptr k10 0)),.v (.s (.ptr k11 0))] (mkH (hT x o bc [y::l,l1]) k12) _
  refine XC.of (pu:=pt) (vf:=C.f72) rfl ?_
  obtain rfl|⟨z,rfl⟩:=hl
  all_goals
   obtain _|⟨t0,o⟩:=o
   all_goals
    refine Yw1 ?_
    refine XC.Be (l:=hT x _ bc [l1]) (nx:=k10) (rT 1) hk rfl rfl Yb Ya ?_
    rintro rc gc' ⟨rfl,hp⟩
    obtain⟨rfl,e6,e7⟩|⟨hts,kN,l6,c7,ba,anc,n,cc,hle,e6,n7,e7,e8,rfl,rfl⟩:=hp.out
    ·refine⟨[],k12,xT x [] [] [] (ob [ouV _]) (ouB _ bc) [l1],[],bA true,rfl,Rl,(by
      exact Yj0),trivial,rfl,?_⟩
     refine Yw1 ?_
     exact⟨rfl,rfl,rfl,rfl,rfl,rfl,rfl,Yk,.inl ⟨rfl,rfl,rfl⟩⟩
    ·have ocn:=fun u:List Tre=>Bh (u++ts)
     refine⟨[(k12,kN)],k13,xT x [] [] [] (obl [.slice k12 0 _ 1 none] (l6++[])) ⟨.cells c7,false,false,[],[]⟩ [l1],[wld (oC _) k0],bA true,A9 (Rl) (by decide) hle,(show 12≤13 by decide),(by
      exact Yj1),⟨⟨_,e8,⟨Ae.cells (ocn _),fun _=>⟨rfl,.inr ⟨_,_,_,.head _,rfl,hp.e0,rfl⟩⟩,rfl⟩⟩,trivial⟩,rfl,?_⟩
     refine Yw1 ?_
     exact⟨rfl,rfl,rfl,rfl,rfl,rfl,rfl,Yk,.inr ⟨hts,k12,_,c7,_,_,_,_,(show 12≤12 by decide),rfl,n7,rfl,rfl,rfl,rfl⟩⟩
 ·show XC Fn 72 [.v (.s (tV t)),.v (.s (.ptr k5 0)),.v (.s (.ptr k12 0)),.v (.s (.ptr k13 0))] (mkH (hT x o bc [y::l,l1,l2]) k14) _
  refine XC.of (pu:=pt) (vf:=C.f72) rfl ?_
  obtain rfl|⟨z,rfl⟩:=hl
  all_goals
   obtain _|⟨t0,o⟩:=o
   all_goals
    refine Yw1 ?_
    refine XC.Be (l:=hT x _ bc [l1,l2]) (nx:=k12) (rT 2) hk rfl rfl Yb Ya ?_
    rintro rc gc' ⟨rfl,hp⟩
    obtain⟨rfl,e6,e7⟩|⟨hts,kN,l6,c7,ba,anc,n,cc,hle,e6,n7,e7,e8,rfl,rfl⟩:=hp.out
    ·refine⟨[],k14,xT x [] [] [] (ob [ouV _]) (ouB _ bc) [l1,l2],[],bA true,rfl,Rl,(by
      exact Yj0),trivial,rfl,?_⟩
     refine Yw1 ?_
     exact⟨rfl,rfl,rfl,rfl,rfl,rfl,rfl,Yk,.inl ⟨rfl,rfl,rfl⟩⟩
    ·have ocn:=fun u:List Tre=>Bh (u++ts)
     refine⟨[(k14,kN)],k15,xT x [] [] [] (obl [.slice k14 0 _ 1 none] (l6++[])) ⟨.cells c7,false,false,[],[]⟩ [l1,l2],[wld (oC _) k0],bA true,A9 (Rl) (by decide) hle,(show 14≤15 by decide),(by
      exact Yj1),⟨⟨_,e8,⟨Ae.cells (ocn _),fun _=>⟨rfl,.inr ⟨_,_,_,.head _,rfl,hp.e0,rfl⟩⟩,rfl⟩⟩,trivial⟩,rfl,?_⟩
     refine Yw1 ?_
     exact⟨rfl,rfl,rfl,rfl,rfl,rfl,rfl,Yk,.inr ⟨hts,k14,_,c7,_,_,_,_,(show 14≤14 by decide),rfl,n7,rfl,rfl,rfl,rfl⟩⟩
 ·simp at hd
def ER (x:TC) (T:Nat→List Tre) (ls:List (List Nat)) (i:Nat):Prop:=∀o bc t,(∀v∈bc,Ae v)→(ls≠[]→t≠[])→t.length+sz i+cap ls≤1000→o.length+(eE T ls i t).length≤x.mo →
 XC Fn 73 [iA i,.v (.s (tV t)),.v (.s (cV ls.length)),.v (.s (.ptr k0 0)),.v (.s (.ptr k1 0)),.v (.s (.ptr k3 0)),.v (.s (.ptr k5 0))] (mkH (hT x o bc ls) (nkT ls.length)) fun r g=>r=bA true∧cS x o bc ls (eE T ls i t) g
theorem ES (x:TC) (T:Nat→List Tre) {ls:List (List Nat)} (hd:ls.length≤3) (h:kQ x T ls):Oa x T ls []:=by
 intro o bc t lv hbc ht hlv hB hlen
 rw[yY] at hlen ⊢
 have hk:=h o bc t hbc ht (by simpa using hB) hlen
 generalize M5 T ls t=ts at hk ⊢
 have ocn1:=Bh o
 obtain _|⟨l1,_|⟨l2,_|⟨l3,_|⟨l4,ls⟩⟩⟩⟩:=ls
 ·refine XC.of (pu:=pt) (vf:=C.f71) rfl ?_
  obtain rfl|rfl:=hlv
  all_goals
   obtain _|⟨t0,o⟩:=o
   all_goals
    refine Yw1 ?_
    refine XC.Be (l:=hT x _ bc []) (nx:=k8) (rT 0) hk rfl rfl Yb Ya ?_
    rintro rc gc' ⟨rfl,hp⟩
    obtain⟨rfl,e6,e7⟩|⟨hts,kN,l6,c7,ba,anc,n,cc,hle,e6,n7,e7,e8,rfl,rfl⟩:=hp.out
    ·refine⟨[],k10,xT x [] [] [] (ob [ouV _]) (ouB _ bc) [],[],bA true,rfl,Rl,(by
      exact Yj0),trivial,rfl,?_⟩
     refine Yw1 ?_
     exact⟨rfl,rfl,rfl,rfl,rfl,rfl,rfl,Yk,.inl ⟨rfl,rfl,rfl⟩⟩
    ·have ocn:=fun u:List Tre=>Bh (u++ts)
     refine⟨[(k10,kN)],k11,xT x [] [] [] (obl [.slice k10 0 _ 1 none] (l6++[])) ⟨.cells c7,false,false,[],[]⟩ [],[wld (oC _) k0],bA true,A9 (Rl) (by decide) hle,(show 10≤11 by decide),(by
      exact Yj1),⟨⟨_,e8,⟨Ae.cells (ocn _),fun _=>⟨rfl,.inr ⟨_,_,_,.head _,rfl,hp.e0,rfl⟩⟩,rfl⟩⟩,trivial⟩,rfl,?_⟩
     refine Yw1 ?_
     exact⟨rfl,rfl,rfl,rfl,rfl,rfl,rfl,Yk,.inr ⟨hts,k10,_,c7,_,_,_,_,(show 8≤10 by decide),rfl,n7,rfl,rfl,rfl,rfl⟩⟩
 ·refine XC.of (pu:=pt) (vf:=C.f71) rfl ?_
  obtain rfl|rfl:=hlv
  all_goals
   obtain _|⟨t0,o⟩:=o
   all_goals
    refine Yw1 ?_
    refine XC.Be (l:=hT x _ bc [l1]) (nx:=k10) (rT 1) hk rfl rfl Yb Ya ?_
    rintro rc gc' ⟨rfl,hp⟩
    obtain⟨rfl,e6,e7⟩|⟨hts,kN,l6,c7,ba,anc,n,cc,hle,e6,n7,e7,e8,rfl,rfl⟩:=hp.out
    ·refine⟨[],k12,xT x [] [] [] (ob [ouV _]) (ouB _ bc) [l1],[],bA true,rfl,Rl,(by
      exact Yj0),trivial,rfl,?_⟩
     refine Yw1 ?_
     exact⟨rfl,rfl,rfl,rfl,rfl,rfl,rfl,Yk,.inl ⟨rfl,rfl,rfl⟩⟩
    ·have ocn:=fun u:List Tre=>Bh (u++ts)
     refine⟨[(k12,kN)],k13,xT x [] [] [] (obl [.slice k12 0 _ 1 none] (l6++[])) ⟨.cells c7,false,false,[],[]⟩ [l1],[wld (oC _) k0],bA true,A9 (Rl) (by decide) hle,(show 12≤13 by decide),(by
      exact Yj1),⟨⟨_,e8,⟨Ae.cells (ocn _),fun _=>⟨rfl,.inr ⟨_,_,_,.head _,rfl,hp.e0,rfl⟩⟩,rfl⟩⟩,trivial⟩,rfl,?_⟩
     refine Yw1 ?_
     exact⟨rfl,rfl,rfl,rfl,rfl,rfl,rfl,Yk,.inr ⟨hts,k12,_,c7,_,_,_,_,(show 10≤12 by decide),rfl,n7,rfl,rfl,rfl,rfl⟩⟩
 ·refine XC.of (pu:=pt) (vf:=C.f71) rfl ?_
  obtain rfl|rfl:=hlv
  all_goals
   obtain _|⟨t0,o⟩:=o
   all_goals
    refine Yw1 ?_
    refine XC.Be (l:=hT x _ bc [l1,l2]) (nx:=k12) (rT 2) hk rfl rfl Yb Ya ?_
    rintro rc gc' ⟨rfl,hp⟩
    obtain⟨rfl,e6,e7⟩|⟨hts,kN,l6,c7,ba,anc,n,cc,hle,e6,n7,e7,e8,rfl,rfl⟩:=hp.out
    ·refine⟨[],k14,xT x [] [] [] (ob [ouV _]) (ouB _ bc) [l1,l2],[],bA true,rfl,Rl,(by
      exact Yj0),trivial,rfl,?_⟩
     refine Yw1 ?_
     exact⟨rfl,rfl,rfl,rfl,rfl,rfl,rfl,Yk,.inl ⟨rfl,rfl,rfl⟩⟩
    ·have ocn:=fun u:List Tre=>Bh (u++ts)
     refine⟨[(k14,kN)],k15,xT x [] [] [] (obl [.slice k14 0 _ 1 none] (l6++[])) ⟨.cells c7,false,false,[],[]⟩ [l1,l2],[wld (oC _) k0],bA true,A9 (Rl) (by decide) hle,(show 14≤15 by decide),(by
      exact Yj1),⟨⟨_,e8,⟨Ae.cells (ocn _),fun _=>⟨rfl,.inr ⟨_,_,_,.head _,rfl,hp.e0,rfl⟩⟩,rfl⟩⟩,trivial⟩,rfl,?_⟩
     refine Yw1 ?_
     exact⟨rfl,rfl,rfl,rfl,rfl,rfl,rfl,Yk,.inr ⟨hts,k14,_,c7,_,_,_,_,(show 12≤14 by decide),rfl,n7,rfl,rfl,rfl,rfl⟩⟩
 ·refine XC.of (pu:=pt) (vf:=C.f71) rfl ?_
  obtain rfl|rfl:=hlv
  all_goals
   obtain _|⟨t0,o⟩:=o
   all_goals
    refine Yw1 ?_
    refine XC.Be (l:=hT x _ bc [l1,l2,l3]) (nx:=k14) (rT 3) hk rfl rfl Yb Ya ?_
    rintro rc gc' ⟨rfl,hp⟩
    obtain⟨rfl,e6,e7⟩|⟨hts,kN,l6,c7,ba,anc,n,cc,hle,e6,n7,e7,e8,rfl,rfl⟩:=hp.out
    ·refine⟨[],k16,xT x [] [] [] (ob [ouV _]) (ouB _ bc) [l1,l2,l3],[],bA true,rfl,Rl,(by
      exact Yj0),trivial,rfl,?_⟩
     refine Yw1 ?_
     exact⟨rfl,rfl,rfl,rfl,rfl,rfl,rfl,Yk,.inl ⟨rfl,rfl,rfl⟩⟩
    ·have ocn:=fun u:List Tre=>Bh (u++ts)
     refine⟨[(k16,kN)],k17,xT x [] [] [] (obl [.slice k16 0 _ 1 none] (l6++[])) ⟨.cells c7,false,false,[],[]⟩ [l1,l2,l3],[wld (oC _) k0],bA true,A9 (Rl) (by decide) hle,(show 16≤17 by decide),(by
      exact Yj1),⟨⟨_,e8,⟨Ae.cells (ocn _),fun _=>⟨rfl,.inr ⟨_,_,_,.head _,rfl,hp.e0,rfl⟩⟩,rfl⟩⟩,trivial⟩,rfl,?_⟩
     refine Yw1 ?_
     exact⟨rfl,rfl,rfl,rfl,rfl,rfl,rfl,Yk,.inr ⟨hts,k16,_,c7,_,_,_,_,(show 14≤16 by decide),rfl,n7,rfl,rfl,rfl,rfl⟩⟩
 ·simp at hd
theorem yZ (x:TC) (T:Nat→List Tre) {ls:List (List Nat)} {k:Nat} {l:List Nat} (hd:ls.length≤2) (h:ER x T ((k::l)::ls) k):Oa x T ls (k::l):=by
 intro o bc t lv hbc ht hlv hB hlen
 rw[sW] at hlen ⊢
 have hk:=h o bc t hbc (fun _=>ht) (by rw[oR];simp only[List.map_cons,List.sum_cons,List.tail_cons] at hB ⊢;omega) hlen
 generalize eE T ((k::l)::ls) k t=ts at hk ⊢
 have ocn1:=Bh o
 obtain rfl:lv=ksV (k::l):=hlv.elim id id
 obtain _|⟨l1,_|⟨l2,_|⟨l3,ls⟩⟩⟩:=ls
 ·refine XC.of (pu:=pt) (vf:=C.f71) rfl ?_
  obtain _|⟨t0,o⟩:=o
  all_goals
   refine Yw1 ?_
   refine XC.Be (l:=hT x _ bc [k::l]) (nx:=k10) (rT 1) hk rfl rfl Yb Ya ?_
   rintro rc gc' ⟨rfl,hp⟩
   obtain⟨rfl,e6,e7⟩|⟨hts,kN,l6,c7,ba,anc,n,cc,hle,e6,n7,e7,e8,rfl,rfl⟩:=hp.out
   ·refine⟨[],k11,xT x [] [] [] (ob [ouV _]) (ouB _ bc) [k::l],[],bA true,rfl,Rl,(by
     exact Yj0),trivial,rfl,?_⟩
    refine Yw1 ?_
    exact⟨rfl,rfl,rfl,rfl,rfl,rfl,rfl,Yk,.inl ⟨rfl,rfl,rfl⟩⟩
   ·have ocn:=fun u:List Tre=>Bh (u++ts)
    refine⟨[(k11,kN)],k12,xT x [] [] [] (obl [.slice k11 0 _ 1 none] (l6++[])) ⟨.cells c7,false,false,[],[]⟩ [k::l],[wld (oC _) k0],bA true,A9 (Rl) (by decide) hle,(show 11≤12 by decide),(by
     exact Yj1),⟨⟨_,e8,⟨Ae.cells (ocn _),fun _=>⟨rfl,.inr ⟨_,_,_,.head _,rfl,hp.e0,rfl⟩⟩,rfl⟩⟩,trivial⟩,rfl,?_⟩
    refine Yw1 ?_
    exact⟨rfl,rfl,rfl,rfl,rfl,rfl,rfl,Yk,.inr ⟨hts,k11,_,c7,_,_,_,_,(show 8≤11 by decide),rfl,n7,rfl,rfl,rfl,rfl⟩⟩
 ·refine XC.of (pu:=pt) (vf:=C.f71) rfl ?_
  obtain _|⟨t0,o⟩:=o
  all_goals
   refine Yw1 ?_
   refine XC.Be (l:=hT x _ bc [k::l,l1]) (nx:=k12) (rT 2) hk rfl rfl Yb Ya ?_
   rintro rc gc' ⟨rfl,hp⟩
   obtain⟨rfl,e6,e7⟩|⟨hts,kN,l6,c7,ba,anc,n,cc,hle,e6,n7,e7,e8,rfl,rfl⟩:=hp.out
   ·refine⟨[],k13,xT x [] [] [] (ob [ouV _]) (ouB _ bc) [k::l,l1],[],bA true,rfl,Rl,(by
     exact Yj0),trivial,rfl,?_⟩
    refine Yw1 ?_
    exact⟨rfl,rfl,rfl,rfl,rfl,rfl,rfl,Yk,.inl ⟨rfl,rfl,rfl⟩⟩
   ·have ocn:=fun u:List Tre=>Bh (u++ts)
    refine⟨[(k13,kN)],k14,xT x [] [] [] (obl [.slice k13 0 _ 1 none] (l6++[])) ⟨.cells c7,false,false,[],[]⟩ [k::l,l1],[wld (oC _) k0],bA true,A9 (Rl) (by decide) hle,(show 13≤14 by decide),(by
     exact Yj1),⟨⟨_,e8,⟨Ae.cells (ocn _),fun _=>⟨rfl,.inr ⟨_,_,_,.head _,rfl,hp.e0,rfl⟩⟩,rfl⟩⟩,trivial⟩,rfl,?_⟩
    refine Yw1 ?_
    exact⟨rfl,rfl,rfl,rfl,rfl,rfl,rfl,Yk,.inr ⟨hts,k13,_,c7,_,_,_,_,(show 10≤13 by decide),rfl,n7,rfl,rfl,rfl,rfl⟩⟩
 ·refine XC.of (pu:=pt) (vf:=C.f71) rfl ?_
  obtain _|⟨t0,o⟩:=o
  all_goals
   refine Yw1 ?_
   refine XC.Be (l:=hT x _ bc [k::l,l1,l2]) (nx:=k14) (rT 3) hk rfl rfl Yb Ya ?_
   rintro rc gc' ⟨rfl,hp⟩
   obtain⟨rfl,e6,e7⟩|⟨hts,kN,l6,c7,ba,anc,n,cc,hle,e6,n7,e7,e8,rfl,rfl⟩:=hp.out
   ·refine⟨[],k15,xT x [] [] [] (ob [ouV _]) (ouB _ bc) [k::l,l1,l2],[],bA true,rfl,Rl,(by
     exact Yj0),trivial,rfl,?_⟩
    refine Yw1 ?_
    exact⟨rfl,rfl,rfl,rfl,rfl,rfl,rfl,Yk,.inl ⟨rfl,rfl,rfl⟩⟩
   ·have ocn:=fun u:List Tre=>Bh (u++ts)
    refine⟨[(k15,kN)],k16,xT x [] [] [] (obl [.slice k15 0 _ 1 none] (l6++[])) ⟨.cells c7,false,false,[],[]⟩ [k::l,l1,l2],[wld (oC _) k0],bA true,A9 (Rl) (by decide) hle,(show 15≤16 by decide),(by
     exact Yj1),⟨⟨_,e8,⟨Ae.cells (ocn _),fun _=>⟨rfl,.inr ⟨_,_,_,.head _,rfl,hp.e0,rfl⟩⟩,rfl⟩⟩,trivial⟩,rfl,?_⟩
    refine Yw1 ?_
    exact⟨rfl,rfl,rfl,rfl,rfl,rfl,rfl,Yk,.inr ⟨hts,k15,_,c7,_,_,_,_,(show 12≤15 by decide),rfl,n7,rfl,rfl,rfl,rfl⟩⟩
 ·simp at hd
abbrev hG (x:TC) (B6 B7:Ap) (ls:List (List Nat)) (E:List (Key×Ap)):List (Key×Ap):=(k0,foZ x.f)::(k1,ob [.int .u64 (x.c:Nat)])::(k2,ob [.int .i64 (x.mo:Nat)])::(k3,ob [.lst 1 (bL x.al) none])::(k4,ob [fW])::(k5,ob [fX])::(k6,B6)::(k7,B7)::(wA ls++E)
def rU (d:Nat) (k:Key):List (Key×Key):=
 (k0,k0)::(k1,k1)::(k2,k2)::(k3,k3)::(k4,k4)::(k5,k5)::(k6,k6)::(k7,k)::match d with
  |0=>[]
  |1=>[(k8,k8),(k9,k9)]
  |2=>[(k8,k8),(k9,k9),(k10,k10),(k11,k11)]
  |_=>[(k8,k8),(k9,k9),(k10,k10),(k11,k11),(k12,k12),(k13,k13)]
def Cd (x:TC) (T:Nat→List Tre) (ls:List (List Nat)) (t:Tre) (az:List Al):List Tre:=az.flatMap fun a=>if Cc x.al x.c a then D8 T ls a.ks (t++[a.p]) else[]
theorem Dp (x:TC) (T:Nat→List Tre) (ls:List (List Nat)) (t:Tre) (az:List Al) (a:Al):Cd x T ls t (az++[a])=Cd x T ls t az++(if Cc x.al x.c a then D8 T ls a.ks (t++[a.p]) else[]):=by
 simp[Cd]
theorem Fw (x:TC) (T:Nat→List Tre) (ls:List (List Nat)) (t:Tre) (az:List Al) (j:Nat):(Cd x T ls t (az.take j)).length≤(Cd x T ls t az).length:=by
 have h:Cd x T ls t az=Cd x T ls t (az.take j)++Cd x T ls t (az.drop j):=by
  conv=>lhs;rw[←List.take_append_drop j az]
  rw[Cd,List.flatMap_append];rfl
 rw[h,La];omega
abbrev hdC (p:Nat):List PV:=[.int .i64 (p:Nat),.int .i64 (-1),.int .i64 0,.int .i64 0]
theorem Kg {k:Key} {g:Ab} {log:List (Nat×Nat)} (t:Tre) (p:Nat) (hg:g.get k=some ⟨.cells ((tR t).flatten++hdC p),true,false,[],log⟩) :
  E8 deep (.v (.s (.slice k 0 ((tR t).length+1) 4 none))) g=some (.v (.s (tV (t++[p]))),g.upd k (some ⟨.cells ((tR t).flatten++hdC p),true,true,[],log⟩)):=by
 have hl:=Gl (P9 t)
 have e:tV (t++[p])=.lst 4 (chunk 4 ((tR t).length+1) ((tR t).flatten++hdC p)) none:=by
  rw[cR (es:=4) (new:=hdC p) rfl (P9 t),Re]
  cases t<;>rfl
 rw[e]
 refine Wn (Ho hg (by rw[La,hl,Nat.add_mul];rfl) (by omega) rfl (Ep fun v h=>?_))
 rcases List.mem_append.1 h with h|h
 ·exact kP t v h
 ·simp only[List.mem_cons,List.not_mem_nil,or_false] at h
  rcases h with rfl|rfl|rfl|rfl<;>exact trivial
def UH:Nat→Key
 |0=>k7
 |1=>k13
 |2=>k18
 |_=>k23
def XF:Nat→Key
 |0=>k9
 |1=>k14
 |2=>k19
 |_=>k24
theorem UI (x:TC) (T:Nat→List Tre) {i:Nat} {n:Nd} (D:I8) (hc:x.c<4) (hlf:x.f.ns.length≤4) (hi:i<x.f.ns.length) (hla:x.al.length=x.f.ns.length) (hn:(x.f.ns.map nV)[(i:Int).toNat]?=some (nC n)) (nL:n.az.length≤3) (hal:∀a∈n.az,a.ks.length≤2∧(∀k∈a.ks,k<i)∧a.d<16)
  (o:List Tre) (bc:List PV) (t:Tre) (htl:t.length<100000) (hbc:∀v∈bc,Ae v) (hB:∀a∈n.az,t.length+1+(a.ks.map sz).sum+cap []≤1000) (hlen:o.length+(Cd x T [] t n.az).length≤x.mo) (hk:∀a∈n.az,Oa x T [] a.ks) :
  XC Fn 73 [iA i,.v (.s (tV t)),.v (.s (cV 0)),.v (.s (.ptr k0 0)),.v (.s (.ptr k1 0)),.v (.s (.ptr k3 0)),.v (.s (.ptr k5 0))] (mkH (hT x o bc []) k8) fun r g=>r=bA true∧cS x o bc [] (Cd x T [] t n.az) g:=by
 have nlen:(n.az.map aV).length=n.az.length:=Lm ..
 have hlen0:(x.f.ns.map nV).length=x.f.ns.length:=Lm ..
 have ocn1:=Bh o
 have ocn:=fun u=>Bh (o++u)
 have tnk:Ae (tV t):=Ar _ _
 refine XC.of (pu:=pt) (vf:=C.f73) rfl ?_
 refine Yw1 ?_
 refine XW.A7 (pu:=pt) (σ:=Nat×Nat) (fun q=>n.az.length-q.1) (fun q=>[(k0,.v (iA i)),(k1,.v (.v (.s (tV t)))),(k2,.v (.v (.s (cV 0)))),(k3,.v (.v (.s (.ptr k0 0)))),(k4,.v (.v (.s (.ptr k1 0)))),(k5,.v (.v (.s (.ptr k3 0)))),(k6,.v (.v (.s (.ptr k5 0)))),(k11,.v (.v (.s (.ptr k8 0)))),(k21,.v (PA.lst 4 (n.az.map aV))),(k22,.v (iA (n.az.map aV).length)),(k23,.v (iA q.1))])
  (fun q g=>q.1≤n.az.length∧q.2≤q.1∧((q.2=0∧Cd x T [] t (n.az.take q.1)=[]∧g=mkH (hG x (ob [ouV o]) (ouB o bc) [] [(k8,obl (nC n) [(0,5)])]) k9)∨(q.2≠0∧Cd x T [] t (n.az.take q.1)≠[]∧∃l6 c7,(∀v∈c7,Ae v)∧g=mkH (hG x (obl [.slice (UH q.2) 0 (o++Cd x T [] t (n.az.take q.1)).length 1 none] l6) ⟨.cells c7,false,false,[],[]⟩ [] [(k8,obl (nC n) [(0,5)]),((UH q.2),wld (oC (o++Cd x T [] t (n.az.take q.1))) k0)]) (XF q.2)))) (0,0)
  (Trim.of (lo:=8) (l:=hG x (ob [ouV o]) (ouB o bc) [] [(k8,obl (nC n) [(0,5)])]) (nx:=k9) [(k8,k8)] rfl (show 8≤9 by decide) Yl (by obtain _|⟨t0,o⟩:=o<;>exact Yb) Yf) ⟨Zl,Rl,.inl ⟨rfl,rfl,rfl⟩⟩ ?_
 rintro⟨j,m⟩ g ⟨hj,hm,hg⟩
 replace hj:j≤n.az.length:=hj
 replace hm:m≤j:=hm
 obtain⟨rfl,hts0,rfl⟩|⟨hm0,hts0,l6,c7,n7,rfl⟩:=hg
 ·replace hts0:Cd x T [] t (n.az.take j)=[]:=hts0
  refine⟨fun h=>?_,fun h=>?_⟩
  ·have hj:j<n.az.length:=by have:=Ao h;omega
   have ha:n.az[j]?=some n.az[j]:=Gg hj
   have htk:n.az.take (j+1)=n.az.take j++[n.az[j]]:=List.take_succ_eq_append_getElem hj
   have hin:n.az[j]∈n.az:=List.getElem_mem hj
   generalize n.az[j]=a at ha htk hin
   have hga:=Ct ha
   obtain⟨a1,a2,a3⟩:=hal a hin
   have us:=Dn (al:=x.al) D hc a3 a1 (fun k hk=>by have:=a2 k hk;omega)
   have hs:=Dp x T [] t (n.az.take j) a
   rw[←htk] at hs
   have hle:=Fw x T [] t n.az (j+1)
   have hka:=hk a hin
   generalize Cd x T [] t n.az=full at hlen hle
   cases hbt:Cc x.al x.c a
   ·rw[hbt] at us hs
    simp only[Fj,if_false] at hs
    refine Yw1 ?_
    exact⟨(j+1,0),_,_,(show _-_<_-_ by omega),Trim.of (lo:=8) (l:=hG x (ob [ouV o]) (ouB o bc) [] [(k8,obl (nC n) [(0,5)])]) (nx:=k9) [(k8,k8)] rfl (show 8≤9 by decide) Yl (by obtain _|⟨t0,o⟩:=o<;>exact Yb) Yf,hj,(show 0≤j+1 by omega),.inl ⟨rfl,by rw[hs,hts0];rfl,rfl⟩⟩
   ·rw[hbt] at us hs
    simp only[if_true] at hs
    obtain _|⟨p0,t⟩:=t
    ·refine Yw1 ?_
     refine XC.P8 (a:=[.v (.s (ksV a.ks))]) (Kg ([]) a.p rfl) ?_
     have hkc:=hka o bc ([]++[a.p]) _ hbc (by simp) (.inl rfl) (by have:=hB a hin;simp at this ⊢;omega) (by have e:=congrArg List.length hs;simp only[La] at e;omega)
     generalize D8 T [] a.ks ([]++[a.p])=ts2 at *
     refine XC.Be (l:=hT x o bc []) (nx:=k8) (rU 0 k7) hkc rfl rfl (by obtain _|⟨t0,o⟩:=o<;>exact Yb) Ya ?_
     rintro rc gc' ⟨rfl,hp⟩
     obtain⟨rfl,e6,e7⟩|⟨hn2,kN,m6,m7,ba,anc,m,cc,hle2,e6,nm7,e7,e8,rfl,rfl⟩:=hp.out
     ·refine⟨[],k13,xT x [] [] [] (ob [ouV o]) (ouB o bc) [],[],bA true,rfl,Rl,(by
       obtain _|⟨t0,o⟩:=o
       all_goals
        exact Yj0),trivial,rfl,?_⟩
      refine Yw1 ?_
      exact⟨(j+1,0),_,_,(show _-_<_-_ by omega),Trim.of (lo:=8) (l:=hG x (ob [ouV o]) (ouB o bc) [] [(k8,obl (nC n) [(0,5)])]) (nx:=k9) [(k8,k8)] rfl (show 8≤9 by decide) Yl (by obtain _|⟨t0,o⟩:=o<;>exact Yb) Yf,hj,Zl,.inl ⟨rfl,by rw[hs,hts0];rfl,rfl⟩⟩
     ·have ocn2:=Bh (o++ts2)
      refine⟨[(k13,kN)],k14,xT x [] [] [] (obl [.slice k13 0 (o++ts2).length 1 none] (m6++[])) ⟨.cells m7,false,false,[],[]⟩ [],[wld (oC (o++ts2)) k0],bA true,A9 (Rl) (by decide) hle2,(show 13≤14 by decide),(by
       obtain _|⟨t0,o⟩:=o
       all_goals
        exact Yj1),⟨⟨_,e8,⟨Ae.cells (by assumption),fun _=>⟨rfl,.inr ⟨_,_,_,.head _,rfl,hp.e0,rfl⟩⟩,rfl⟩⟩,trivial⟩,rfl,?_⟩
      refine Yw1 ?_
      exact⟨(j+1,1),_,_,(show _-_<_-_ by omega),Trim.of (lo:=8) (l:=hG x (obl [.slice k13 0 (o++ts2).length 1 none] (m6++[])) ⟨.cells m7,false,false,[],[]⟩ [] [(k8,obl (nC n) [(0,5)]),(k13,wld (oC (o++ts2)) k0)]) (nx:=k14) [(k8,k8),(k13,k13)] rfl (show 8≤14 by decide) Yl Yb Yf,hj,(show 1≤j+1 by omega),.inr ⟨by simp,by rw[hs,hts0];exact hn2,_,m7,nm7,by rw[hs,hts0];rfl⟩⟩
    ·refine Yw1 ?_
     refine⟨_,_,Iw (es:=4) (l:=tR (p0::t)),?_⟩
     refine Yw1 ?_
     refine⟨_,_,Fv rfl (by decide) (by have e:(tR (p0::t)).length=(p0::t).length:=Lm ..;omega),?_⟩
     refine Yw1 ?_
     refine XC.P8 (a:=[.v (.s (ksV a.ks))]) (Kg (p0::t) a.p rfl) ?_
     have hkc:=hka o bc (p0::t++[a.p]) _ hbc (by simp) (.inl rfl) (by have:=hB a hin;simp at this ⊢;omega) (by have e:=congrArg List.length hs;simp only[La] at e;omega)
     generalize D8 T [] a.ks (p0::t++[a.p])=ts2 at *
     refine XC.Be (l:=hT x o bc []) (nx:=k8) (rU 0 k7) hkc rfl rfl (by obtain _|⟨t0,o⟩:=o<;>exact Yb) Ya ?_
     rintro rc gc' ⟨rfl,hp⟩
     obtain⟨rfl,e6,e7⟩|⟨hn2,kN,m6,m7,ba,anc,m,cc,hle2,e6,nm7,e7,e8,rfl,rfl⟩:=hp.out
     ·refine⟨[],k13,xT x [] [] [] (ob [ouV o]) (ouB o bc) [],[],bA true,rfl,Rl,(by
       obtain _|⟨t0,o⟩:=o
       all_goals
        exact Yj0),trivial,rfl,?_⟩
      refine Yw1 ?_
      exact⟨(j+1,0),_,_,(show _-_<_-_ by omega),Trim.of (lo:=8) (l:=hG x (ob [ouV o]) (ouB o bc) [] [(k8,obl (nC n) [(0,5)])]) (nx:=k9) [(k8,k8)] rfl (show 8≤9 by decide) Yl (by obtain _|⟨t0,o⟩:=o<;>exact Yb) Yf,hj,Zl,.inl ⟨rfl,by rw[hs,hts0];rfl,rfl⟩⟩
     ·have ocn2:=Bh (o++ts2)
      refine⟨[(k13,kN)],k14,xT x [] [] [] (obl [.slice k13 0 (o++ts2).length 1 none] (m6++[])) ⟨.cells m7,false,false,[],[]⟩ [],[wld (oC (o++ts2)) k0],bA true,A9 (Rl) (by decide) hle2,(show 13≤14 by decide),(by
       obtain _|⟨t0,o⟩:=o
       all_goals
        exact Yj1),⟨⟨_,e8,⟨Ae.cells (by assumption),fun _=>⟨rfl,.inr ⟨_,_,_,.head _,rfl,hp.e0,rfl⟩⟩,rfl⟩⟩,trivial⟩,rfl,?_⟩
      refine Yw1 ?_
      exact⟨(j+1,1),_,_,(show _-_<_-_ by omega),Trim.of (lo:=8) (l:=hG x (obl [.slice k13 0 (o++ts2).length 1 none] (m6++[])) ⟨.cells m7,false,false,[],[]⟩ [] [(k8,obl (nC n) [(0,5)]),(k13,wld (oC (o++ts2)) k0)]) (nx:=k14) [(k8,k8),(k13,k13)] rfl (show 8≤14 by decide) Yl Yb Yf,hj,(show 1≤j+1 by omega),.inr ⟨by simp,by rw[hs,hts0];exact hn2,_,m7,nm7,by rw[hs,hts0];rfl⟩⟩
  ·have hfull:n.az.take j=n.az:=by rw[show j=n.az.length from by have:=A1 h;omega];exact List.take_length
   rw[hfull] at hts0
   rw[hts0]
   refine Yw1 ?_
   exact⟨rfl,rfl,rfl,rfl,rfl,rfl,rfl,Yk,.inl ⟨rfl,rfl,rfl⟩⟩
 ·replace hts0:Cd x T [] t (n.az.take j)≠[]:=hts0
  obtain _|_|_|_|m:=m
  ·exact absurd rfl hm0
  ·refine⟨fun h=>?_,fun h=>?_⟩
   ·have hj:j<n.az.length:=by have:=Ao h;omega
    have ha:n.az[j]?=some n.az[j]:=Gg hj
    have htk:n.az.take (j+1)=n.az.take j++[n.az[j]]:=List.take_succ_eq_append_getElem hj
    have hin:n.az[j]∈n.az:=List.getElem_mem hj
    generalize n.az[j]=a at ha htk hin
    have hga:=Ct ha
    obtain⟨a1,a2,a3⟩:=hal a hin
    have us:=Dn (al:=x.al) D hc a3 a1 (fun k hk=>by have:=a2 k hk;omega)
    have hs:=Dp x T [] t (n.az.take j) a
    rw[←htk] at hs
    have hle:=Fw x T [] t n.az (j+1)
    have hka:=hk a hin
    generalize Cd x T [] t n.az=full at hlen hle
    generalize hts:Cd x T [] t (n.az.take j)=ts at *
    generalize ho:o++ts=w at *
    obtain⟨t0,w,rfl⟩:∃p u,w=p::u:=by cases w with
     |nil=>exact absurd (List.append_eq_nil_iff.1 ho).2 hts0
     |cons p u=>exact⟨p,u,rfl⟩
    cases hbt:Cc x.al x.c a
    ·rw[hbt] at us hs
     simp only[Fj,if_false] at hs
     refine Yw1 ?_
     exact⟨(j+1,1),_,_,(show _-_<_-_ by omega),Trim.of (lo:=8) (l:=hG x (obl [.slice k13 0 (t0::w).length 1 none] l6) ⟨.cells c7,false,false,[],[]⟩ [] [(k8,obl (nC n) [(0,5)]),(k13,wld (oC (t0::w)) k0)]) (nx:=k14) [(k8,k8),(k13,k13)] rfl (show 8≤14 by decide) Yl (by have ocn1:=Bh (t0::w);exact Yb) Yf,hj,(show 1≤j+1 by omega),.inr ⟨by simp,by rw[hs];simpa using hts0,l6,c7,n7,by rw[hs,List.append_nil,ho];rfl⟩⟩
    ·rw[hbt] at us hs
     simp only[if_true] at hs
     obtain _|⟨p0,t⟩:=t
     ·refine Yw1 ?_
      refine XC.P8 (a:=[.v (.s (ksV a.ks))]) (Kg ([]) a.p rfl) ?_
      have hkc:=hka (t0::w) c7 ([]++[a.p]) _ n7 (by simp) (.inl rfl) (by have:=hB a hin;simp at this ⊢;omega) (by have e:=congrArg List.length hs;have e2:=congrArg List.length ho;simp only[La] at e e2;omega)
      generalize D8 T [] a.ks ([]++[a.p])=ts2 at *
      have ocn1:=Bh (t0::w)
      refine XC.Be (l:=hT x (t0::w) c7 []) (nx:=k8) (rU 0 k13) hkc rfl rfl Yb Ya ?_
      rintro rc gc' ⟨rfl,hp⟩
      obtain⟨rfl,e6,e7⟩|⟨hn2,kN,m6,m7,ba,anc,m,cc,hle2,e6,nm7,e7,e8,rfl,rfl⟩:=hp.out
      ·refine⟨[],k18,xT x [] [] [] (obl [.slice k13 0 (t0::w).length 1 none] l6) (wld (oC (t0::w)) k0) [],[],bA true,rfl,Rl,(by
        exact Yj2),trivial,rfl,?_⟩
       refine Yw1 ?_
       exact⟨(j+1,1),_,_,(show _-_<_-_ by omega),Trim.of (lo:=8) (l:=hG x (obl [.slice k13 0 (t0::w).length 1 none] l6) ⟨.cells c7,false,false,[],[]⟩ [] [(k8,obl (nC n) [(0,5)]),(k13,wld (oC (t0::w)) k0)]) (nx:=k14) [(k8,k8),(k13,k13)] rfl (show 8≤14 by decide) Yl Yb Yf,hj,(show 1≤j+1 by omega),.inr ⟨by simp,by rw[hs];simpa using hts0,_,c7,n7,by rw[hs,List.append_nil,ho];rfl⟩⟩
      ·have ocn2:=Bh (t0::w++ts2)
       refine⟨[(k18,kN)],k19,xT x [] [] [] (obl [.slice k18 0 (t0::w++ts2).length 1 none] (m6++l6)) ⟨.cells m7,false,false,[],[]⟩ [],[wld (oC (t0::w++ts2)) k0],bA true,A9 (Rl) (by decide) hle2,(show 18≤19 by decide),(by
        exact Yj1),⟨⟨_,e8,⟨Ae.cells (by assumption),fun _=>⟨rfl,.inr ⟨_,_,_,.head _,rfl,hp.e0,rfl⟩⟩,rfl⟩⟩,trivial⟩,rfl,?_⟩
       refine Yw1 ?_
       exact⟨(j+1,2),_,_,(show _-_<_-_ by omega),Trim.of (lo:=8) (l:=hG x (obl [.slice k18 0 (t0::w++ts2).length 1 none] (m6++l6)) ⟨.cells c7,false,false,[],[]⟩ [] [(k8,obl (nC n) [(0,5)]),(k18,wld (oC (t0::w++ts2)) k0)]) (nx:=k19) [(k8,k8),(k18,k18)] rfl (show 8≤19 by decide) Yl Yb Yf,hj,(show 2≤j+1 by omega),.inr ⟨by simp,by rw[hs];simpa using fun h=>absurd h hts0,_,c7,n7,by rw[hs,←List.append_assoc,ho];rfl⟩⟩
     ·refine Yw1 ?_
      refine⟨_,_,Iw (es:=4) (l:=tR (p0::t)),?_⟩
      refine Yw1 ?_
      refine⟨_,_,Fv rfl (by decide) (by have e:(tR (p0::t)).length=(p0::t).length:=Lm ..;omega),?_⟩
      refine Yw1 ?_
      refine XC.P8 (a:=[.v (.s (ksV a.ks))]) (Kg (p0::t) a.p rfl) ?_
      have hkc:=hka (t0::w) c7 (p0::t++[a.p]) _ n7 (by simp) (.inl rfl) (by have:=hB a hin;simp at this ⊢;omega) (by have e:=congrArg List.length hs;have e2:=congrArg List.length ho;simp only[La] at e e2;omega)
      generalize D8 T [] a.ks (p0::t++[a.p])=ts2 at *
      have ocn1:=Bh (t0::w)
      refine XC.Be (l:=hT x (t0::w) c7 []) (nx:=k8) (rU 0 k13) hkc rfl rfl Yb Ya ?_
      rintro rc gc' ⟨rfl,hp⟩
      obtain⟨rfl,e6,e7⟩|⟨hn2,kN,m6,m7,ba,anc,m,cc,hle2,e6,nm7,e7,e8,rfl,rfl⟩:=hp.out
      ·refine⟨[],k18,xT x [] [] [] (obl [.slice k13 0 (t0::w).length 1 none] l6) (wld (oC (t0::w)) k0) [],[],bA true,rfl,Rl,(by
        exact Yj2),trivial,rfl,?_⟩
       refine Yw1 ?_
       exact⟨(j+1,1),_,_,(show _-_<_-_ by omega),Trim.of (lo:=8) (l:=hG x (obl [.slice k13 0 (t0::w).length 1 none] l6) ⟨.cells c7,false,false,[],[]⟩ [] [(k8,obl (nC n) [(0,5)]),(k13,wld (oC (t0::w)) k0)]) (nx:=k14) [(k8,k8),(k13,k13)] rfl (show 8≤14 by decide) Yl Yb Yf,hj,(show 1≤j+1 by omega),.inr ⟨by simp,by rw[hs];simpa using hts0,_,c7,n7,by rw[hs,List.append_nil,ho];rfl⟩⟩
      ·have ocn2:=Bh (t0::w++ts2)
       refine⟨[(k18,kN)],k19,xT x [] [] [] (obl [.slice k18 0 (t0::w++ts2).length 1 none] (m6++l6)) ⟨.cells m7,false,false,[],[]⟩ [],[wld (oC (t0::w++ts2)) k0],bA true,A9 (Rl) (by decide) hle2,(show 18≤19 by decide),(by
        exact Yj1),⟨⟨_,e8,⟨Ae.cells (by assumption),fun _=>⟨rfl,.inr ⟨_,_,_,.head _,rfl,hp.e0,rfl⟩⟩,rfl⟩⟩,trivial⟩,rfl,?_⟩
       refine Yw1 ?_
       exact⟨(j+1,2),_,_,(show _-_<_-_ by omega),Trim.of (lo:=8) (l:=hG x (obl [.slice k18 0 (t0::w++ts2).length 1 none] (m6++l6)) ⟨.cells c7,false,false,[],[]⟩ [] [(k8,obl (nC n) [(0,5)]),(k18,wld (oC (t0::w++ts2)) k0)]) (nx:=k19) [(k8,k8),(k18,k18)] rfl (show 8≤19 by decide) Yl Yb Yf,hj,(show 2≤j+1 by omega),.inr ⟨by simp,by rw[hs];simpa using fun h=>absurd h hts0,_,c7,n7,by rw[hs,←List.append_assoc,ho];rfl⟩⟩
   ·have hfull:n.az.take j=n.az:=by rw[show j=n.az.length from by have:=A1 h;omega];exact List.take_length
    simp only[hfull] at hts0 ⊢
    refine Yw1 ?_
    exact⟨rfl,rfl,rfl,rfl,rfl,rfl,rfl,Yk,.inr ⟨hts0,k13,_,c7,_,_,_,_,(show 8≤13 by decide),rfl,n7,rfl,rfl,rfl,rfl⟩⟩
  ·refine⟨fun h=>?_,fun h=>?_⟩
   ·have hj:j<n.az.length:=by have:=Ao h;omega
    have ha:n.az[j]?=some n.az[j]:=Gg hj
    have htk:n.az.take (j+1)=n.az.take j++[n.az[j]]:=List.take_succ_eq_append_getElem hj
    have hin:n.az[j]∈n.az:=List.getElem_mem hj
    generalize n.az[j]=a at ha htk hin
    have hga:=Ct ha
    obtain⟨a1,a2,a3⟩:=hal a hin
    have us:=Dn (al:=x.al) D hc a3 a1 (fun k hk=>by have:=a2 k hk;omega)
    have hs:=Dp x T [] t (n.az.take j) a
    rw[←htk] at hs
    have hle:=Fw x T [] t n.az (j+1)
    have hka:=hk a hin
    generalize Cd x T [] t n.az=full at hlen hle
    generalize hts:Cd x T [] t (n.az.take j)=ts at *
    generalize ho:o++ts=w at *
    obtain⟨t0,w,rfl⟩:∃p u,w=p::u:=by cases w with
     |nil=>exact absurd (List.append_eq_nil_iff.1 ho).2 hts0
     |cons p u=>exact⟨p,u,rfl⟩
    cases hbt:Cc x.al x.c a
    ·rw[hbt] at us hs
     simp only[Fj,if_false] at hs
     refine Yw1 ?_
     exact⟨(j+1,2),_,_,(show _-_<_-_ by omega),Trim.of (lo:=8) (l:=hG x (obl [.slice k18 0 (t0::w).length 1 none] l6) ⟨.cells c7,false,false,[],[]⟩ [] [(k8,obl (nC n) [(0,5)]),(k18,wld (oC (t0::w)) k0)]) (nx:=k19) [(k8,k8),(k18,k18)] rfl (show 8≤19 by decide) Yl (by have ocn1:=Bh (t0::w);exact Yb) Yf,hj,(show 2≤j+1 by omega),.inr ⟨by simp,by rw[hs];simpa using hts0,l6,c7,n7,by rw[hs,List.append_nil,ho];rfl⟩⟩
    ·rw[hbt] at us hs
     simp only[if_true] at hs
     obtain _|⟨p0,t⟩:=t
     ·refine Yw1 ?_
      refine XC.P8 (a:=[.v (.s (ksV a.ks))]) (Kg ([]) a.p rfl) ?_
      have hkc:=hka (t0::w) c7 ([]++[a.p]) _ n7 (by simp) (.inl rfl) (by have:=hB a hin;simp at this ⊢;omega) (by have e:=congrArg List.length hs;have e2:=congrArg List.length ho;simp only[La] at e e2;omega)
      generalize D8 T [] a.ks ([]++[a.p])=ts2 at *
      have ocn1:=Bh (t0::w)
      refine XC.Be (l:=hT x (t0::w) c7 []) (nx:=k8) (rU 0 k18) hkc rfl rfl Yb Ya ?_
      rintro rc gc' ⟨rfl,hp⟩
      obtain⟨rfl,e6,e7⟩|⟨hn2,kN,m6,m7,ba,anc,m,cc,hle2,e6,nm7,e7,e8,rfl,rfl⟩:=hp.out
      ·refine⟨[],k23,xT x [] [] [] (obl [.slice k18 0 (t0::w).length 1 none] l6) (wld (oC (t0::w)) k0) [],[],bA true,rfl,Rl,(by
        exact Yj2),trivial,rfl,?_⟩
       refine Yw1 ?_
       exact⟨(j+1,2),_,_,(show _-_<_-_ by omega),Trim.of (lo:=8) (l:=hG x (obl [.slice k18 0 (t0::w).length 1 none] l6) ⟨.cells c7,false,false,[],[]⟩ [] [(k8,obl (nC n) [(0,5)]),(k18,wld (oC (t0::w)) k0)]) (nx:=k19) [(k8,k8),(k18,k18)] rfl (show 8≤19 by decide) Yl Yb Yf,hj,(show 2≤j+1 by omega),.inr ⟨by simp,by rw[hs];simpa using hts0,_,c7,n7,by rw[hs,List.append_nil,ho];rfl⟩⟩
      ·have ocn2:=Bh (t0::w++ts2)
       refine⟨[(k23,kN)],k24,xT x [] [] [] (obl [.slice k23 0 (t0::w++ts2).length 1 none] (m6++l6)) ⟨.cells m7,false,false,[],[]⟩ [],[wld (oC (t0::w++ts2)) k0],bA true,A9 (Rl) (by decide) hle2,(show 23≤24 by decide),(by
        exact Yj1),⟨⟨_,e8,⟨Ae.cells (by assumption),fun _=>⟨rfl,.inr ⟨_,_,_,.head _,rfl,hp.e0,rfl⟩⟩,rfl⟩⟩,trivial⟩,rfl,?_⟩
       refine Yw1 ?_
       exact⟨(j+1,3),_,_,(show _-_<_-_ by omega),Trim.of (lo:=8) (l:=hG x (obl [.slice k23 0 (t0::w++ts2).length 1 none] (m6++l6)) ⟨.cells c7,false,false,[],[]⟩ [] [(k8,obl (nC n) [(0,5)]),(k23,wld (oC (t0::w++ts2)) k0)]) (nx:=k24) [(k8,k8),(k23,k23)] rfl (show 8≤24 by decide) Yl Yb Yf,hj,(show 3≤j+1 by omega),.inr ⟨by simp,by rw[hs];simpa using fun h=>absurd h hts0,_,c7,n7,by rw[hs,←List.append_assoc,ho];rfl⟩⟩
     ·refine Yw1 ?_
      refine⟨_,_,Iw (es:=4) (l:=tR (p0::t)),?_⟩
      refine Yw1 ?_
      refine⟨_,_,Fv rfl (by decide) (by have e:(tR (p0::t)).length=(p0::t).length:=Lm ..;omega),?_⟩
      refine Yw1 ?_
      refine XC.P8 (a:=[.v (.s (ksV a.ks))]) (Kg (p0::t) a.p rfl) ?_
      have hkc:=hka (t0::w) c7 (p0::t++[a.p]) _ n7 (by simp) (.inl rfl) (by have:=hB a hin;simp at this ⊢;omega) (by have e:=congrArg List.length hs;have e2:=congrArg List.length ho;simp only[La] at e e2;omega)
      generalize D8 T [] a.ks (p0::t++[a.p])=ts2 at *
      have ocn1:=Bh (t0::w)
      refine XC.Be (l:=hT x (t0::w) c7 []) (nx:=k8) (rU 0 k18) hkc rfl rfl Yb Ya ?_
      rintro rc gc' ⟨rfl,hp⟩
      obtain⟨rfl,e6,e7⟩|⟨hn2,kN,m6,m7,ba,anc,m,cc,hle2,e6,nm7,e7,e8,rfl,rfl⟩:=hp.out
      ·refine⟨[],k23,xT x [] [] [] (obl [.slice k18 0 (t0::w).length 1 none] l6) (wld (oC (t0::w)) k0) [],[],bA true,rfl,Rl,(by
        exact Yj2),trivial,rfl,?_⟩
       refine Yw1 ?_
       exact⟨(j+1,2),_,_,(show _-_<_-_ by omega),Trim.of (lo:=8) (l:=hG x (obl [.slice k18 0 (t0::w).length 1 none] l6) ⟨.cells c7,false,false,[],[]⟩ [] [(k8,obl (nC n) [(0,5)]),(k18,wld (oC (t0::w)) k0)]) (nx:=k19) [(k8,k8),(k18,k18)] rfl (show 8≤19 by decide) Yl Yb Yf,hj,(show 2≤j+1 by omega),.inr ⟨by simp,by rw[hs];simpa using hts0,_,c7,n7,by rw[hs,List.append_nil,ho];rfl⟩⟩
      ·have ocn2:=Bh (t0::w++ts2)
       refine⟨[(k23,kN)],k24,xT x [] [] [] (obl [.slice k23 0 (t0::w++ts2).length 1 none] (m6++l6)) ⟨.cells m7,false,false,[],[]⟩ [],[wld (oC (t0::w++ts2)) k0],bA true,A9 (Rl) (by decide) hle2,(show 23≤24 by decide),(by
        exact Yj1),⟨⟨_,e8,⟨Ae.cells (by assumption),fun _=>⟨rfl,.inr ⟨_,_,_,.head _,rfl,hp.e0,rfl⟩⟩,rfl⟩⟩,trivial⟩,rfl,?_⟩
       refine Yw1 ?_
       exact⟨(j+1,3),_,_,(show _-_<_-_ by omega),Trim.of (lo:=8) (l:=hG x (obl [.slice k23 0 (t0::w++ts2).length 1 none] (m6++l6)) ⟨.cells c7,false,false,[],[]⟩ [] [(k8,obl (nC n) [(0,5)]),(k23,wld (oC (t0::w++ts2)) k0)]) (nx:=k24) [(k8,k8),(k23,k23)] rfl (show 8≤24 by decide) Yl Yb Yf,hj,(show 3≤j+1 by omega),.inr ⟨by simp,by rw[hs];simpa using fun h=>absurd h hts0,_,c7,n7,by rw[hs,←List.append_assoc,ho];rfl⟩⟩
   ·have hfull:n.az.take j=n.az:=by rw[show j=n.az.length from by have:=A1 h;omega];exact List.take_length
    simp only[hfull] at hts0 ⊢
    refine Yw1 ?_
    exact⟨rfl,rfl,rfl,rfl,rfl,rfl,rfl,Yk,.inr ⟨hts0,k18,_,c7,_,_,_,_,(show 8≤18 by decide),rfl,n7,rfl,rfl,rfl,rfl⟩⟩
  ·refine⟨fun h=>?_,fun h=>?_⟩
   ·have:=Ao h;omega
   ·have hfull:n.az.take j=n.az:=by rw[show j=n.az.length from by have:=A1 h;omega];exact List.take_length
    simp only[hfull] at hts0 ⊢
    refine Yw1 ?_
    exact⟨rfl,rfl,rfl,rfl,rfl,rfl,rfl,Yk,.inr ⟨hts0,k23,_,c7,_,_,_,_,(show 8≤23 by decide),rfl,n7,rfl,rfl,rfl,rfl⟩⟩
  ·omega
end Go.Pv
end
