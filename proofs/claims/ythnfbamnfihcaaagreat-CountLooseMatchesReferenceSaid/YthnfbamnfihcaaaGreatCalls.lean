/- A part of the proof. No condition. -/
import Derived.Test.YthnfbamnfihcaaaGreatBase
import Derived.Test.YthnfbamnfihcaaaGreatTab
set_option linter.unusedVariables false
section
noncomputable section
set_option maxRecDepth 100000
namespace Go.Pv.E2
open Go.Vm Go.Pv.K
abbrev i (n:Nat):PV:=.int .i64 (.ofNat n)
abbrev u (n:Nat):PV:=.int .u32 (.ofNat n)
abbrev j:PV:=.int .i64 (.negSucc 0)
abbrev L (n:Nat) (l:List (List PV)):PV:=.lst n l none
abbrev V (x:PV):PA:=.v (.s x)
abbrev A (x:List PV):PA:=.v (.agg x)
abbrev B (b:Bool):PA:=.v (.s (.bool b))
abbrev I (n:Nat):PA:=.v (.s (i n))
abbrev U (n:Nat):PA:=.v (.s (.int .u64 (.ofNat n)))
abbrev T (x:PV) (n:Nat):PA:=.tup [.s x,.s (i n)]
abbrev G (x:List PV) (n:Nat):PA:=.tup [.agg x,.s (i n)]
abbrev D:=List PA×PA
def e:PA:=I 0
def f:PA:=I 1
def b:PV:=i 1
def a:PV:=i 0
def d:PV:=i 2
def c:PV:=i 3
def h:PV:=i 4
def l:PA:=V j
def g:PV:=i 10
def k:PV:=i 14
def m:PA:=B true
def al:PA:=V .A4
def ac:PV:=.str []
def a2:PV:=.bool true
def bm:PA:=V (L 1 [])
def p:PV:=.bool false
def bw:PV:=L 1 [[a]]
def c0:PA:=T (L 1 []) 0
def n:PA:=A [.A4,b]
def o:PA:=A [.A4,a]
def aq:PV:=.str [105,102]
def ar:PA:=V (L 1 [[u 1]])
def c1:PA:=V (L 1 [[u 2]])
def c2:PA:=V (L 1 [[u 3]])
def bx:PA:=T (L 1 [[u 1]]) 0
def c3:PA:=T (L 1 [[u 5]]) 0
def c4:PA:=T (L 1 [[u 4]]) 0
def a4:PV:=L 3 [[b,b,a]]
def bn:PA:=V (L 2 [[.A4,a]])
def b8:PV:=L 4 [[j,a,a,b]]
def b9:PV:=L 4 [[j,a,h,i 5]]
def ba:PV:=L 4 [[j,a,i 8,i 9]]
def aw:PV:=L 3 [[a,.A4,b]]
def bo:PV:=L 3 [[b,.A4,b]]
def bb:PV:=.str [101,108,115,101]
def bc:PV:=L 4 [[j,a,i 12,i 13]]
def c5:PV:=.str [115,112,97,99,101]
def aa:PA:=A [a4,d]
def bd:PA:=A [L 3 [[a,b,a]],d]
def ag:PA:=A [L 3 [[b,a,b]],d]
def q:PA:=V (L 1 [[a],[d],[a]])
def r:PA:=V (L 1 [[h],[i 6],[a]])
def s:PA:=V (L 1 [[a],[i 6],[a]])
def bp:PA:=A [L 3 [[a,a,b]],d]
def t:PA:=V (L 1 [[a],[k],[a]])
def w:PA:=V (L 1 [[h],[k],[a]])
def x:PA:=V (L 1 [[i 8],[k],[a]])
def y:PA:=V (L 1 [[i 8],[g],[a]])
def z:PA:=V (L 1 [[h],[g],[a]])
def a0:PA:=V (L 1 [[a],[g],[a]])
def c6:PV:=L 1 [[.str [65]],[.str [66]]]
def cc:PV:=.str [114,101,109,97,114,107]
def a1:PA:=V (L 1 [[i 12],[k],[a]])
def c7:PA:=A [.A4,L 3 [[a,.A4,a]]]
def a5:PV:=L 3 [[b,b,a],[a,d,a]]
def a6:PV:=L 3 [[b,b,a],[a,a,d]]
def a7:PV:=L 3 [[b,a,b],[a,d,a]]
def a8:PV:=L 3 [[b,b,a],[a,b,d]]
def a9:PV:=L 3 [[b,a,b],[a,a,d]]
def ax:PA:=V (L 1 [[a],[a],[b],[a]])
def ay:PA:=V (L 1 [[a],[h],[i 5],[a]])
def az:PA:=V (L 1 [[a],[i 8],[i 9],[a]])
def b0:PA:=V (L 1 [[a],[i 12],[i 13],[a]])
def cd:PA:=A [d,c,d,p,L 1 [[b]]]
def ce:PA:=A [i 6,i 7,i 6,p,L 1 [[b]]]
def ap:PA:=A [a5,c]
def bq:PA:=A [a6,c]
def br:PA:=A [a7,c]
def bs:PA:=A [a8,c]
def bt:PA:=A [a9,c]
def cf:PA:=A [g,i 11,g,p,L 1 [[b]]]
def c8:PV:=L 4 [[a,b8,.A4,b]]
def c9:PV:=L 4 [[a,b9,.A4,b]]
def ca:PV:=L 4 [[a,ba,.A4,b]]
def cg:PA:=V (L 2 [[a2,b],[p,a]])
def ch:PA:=V (L 2 [[p,a],[a2,b]])
def cb:PV:=L 4 [[a,bc,.A4,b]]
def be:PV:=L 4 [[a,j,a,d],[j,b,d,c],[a,j,h,i 6]]
def b1:PV:=L 4 [[a,j,h,i 6],[j,b,i 6,i 7],[a,j,i 8,k]]
def b2:PV:=L 4 [[a,j,a,i 6],[j,b,i 6,i 7],[a,j,i 8,k]]
def b3:PV:=L 4 [[a,j,a,d],[j,b,d,c],[a,j,h,k]]
def bf:PV:=L 4 [[a,j,a,i 6],[j,b,i 6,i 7],[a,j,i 8,g]]
def b4:PV:=L 4 [[a,j,a,d],[j,b,d,c],[a,j,h,g]]
def bg:PV:=L 4 [[a,j,h,i 6],[j,b,i 6,i 7],[a,j,i 8,g]]
def bz:PV:=L 2 [[p,a],[a2,b],[p,a]]
def bh:PV:=L 4 [[a,j,h,g],[j,b,g,i 11],[a,j,i 12,k]]
def bk:PV:=L 4 [[a,j,a,g],[j,b,g,i 11],[a,j,i 12,k]]
def bl:PV:=L 4 [[a,j,i 8,g],[j,b,g,i 11],[a,j,i 12,k]]
def b5:PA:=V (L 1 [[b],[a],[d],[j],[d],[c],[b],[h],[i 6],[j]])
def ah:PA:=V (L 1 [[b],[h],[i 6],[j],[i 6],[i 7],[b],[i 8],[k],[j]])
def ad:PA:=V (L 1 [[b],[a],[i 6],[j],[i 6],[i 7],[b],[i 8],[k],[j]])
def ae:PA:=V (L 1 [[b],[a],[d],[j],[d],[c],[b],[h],[k],[j]])
def am:PA:=V (L 1 [[b],[a],[i 6],[j],[i 6],[i 7],[b],[i 8],[g],[j]])
def ak:PA:=V (L 1 [[b],[a],[d],[j],[d],[c],[b],[h],[g],[j]])
def b6:PA:=V (L 1 [[b],[h],[i 6],[j],[i 6],[i 7],[b],[i 8],[g],[j]])
def an:PA:=V (L 1 [[b],[h],[g],[j],[g],[i 11],[b],[i 12],[k],[j]])
def af:PA:=V (L 1 [[b],[a],[g],[j],[g],[i 11],[b],[i 12],[k],[j]])
def b7:PA:=V (L 1 [[b],[i 8],[g],[j],[g],[i 11],[b],[i 12],[k],[j]])
def ck:PV:=L 5 [[b,i 97,i 122,a,a],[b,i 97,i 122,a,a],[h,a,a,b,a],[d,a,a,a,d]]
def cl:PV:=L 5 [[b,i 37,i 37,a,a],[b,i 97,i 122,a,a],[b,i 32,i 32,a,a],[c,a,a,b,d],[h,a,a,c,a],[d,a,a,a,h]]
def cm:PV:=L 5 [[b,i 9,g,a,a],[b,i 32,i 32,a,a],[c,a,a,a,b],[b,i 9,g,a,a],[b,i 32,i 32,a,a],[c,a,a,c,h],[h,a,a,i 5,a],[d,a,a,d,i 6]]
def cn:PV:=L 4 [[b,j,a,k],[b,j,a,g],[b,j,a,i 6],[a,j,a,d],[j,a,a,b],[j,b,d,c],[a,j,h,i 6],[j,a,h,i 5],[j,b,i 6,i 7],[a,j,i 8,g],[j,a,i 8,i 9],[j,b,g,i 11],[a,j,i 12,k],[j,a,i 12,i 13]]
def co:PA:=T (L 4 [[b,j,a,k],[b,j,a,g],[a,j,a,d],[j,a,a,b],[j,b,d,c],[b,j,h,g],[a,j,h,i 6],[j,a,h,i 5],[j,b,i 6,i 7],[a,j,i 8,g],[j,a,i 8,i 9],[j,b,g,i 11],[a,j,i 12,k],[j,a,i 12,i 13]]) 0
def ao:PA:=V (L 4 [[a,a,d,c8],[a,a,i 6,L 4 [[b,be,.A4,b]]],[a,a,g,L 4 [[b,b4,.A4,b],[b,bf,.A4,b]]],[a,a,k,L 4 [[b,b3,.A4,b],[b,b2,.A4,b],[b,bk,.A4,b]]],[a,h,i 6,c9],[a,h,g,L 4 [[b,bg,.A4,b]]],[a,h,k,L 4 [[b,b1,.A4,b],[b,bh,.A4,b]]],[a,i 8,g,ca],[a,i 8,k,L 4 [[b,bl,.A4,b]]],[a,i 12,k,cb]])
def ab:PA:=A [L 5 [[a,a,d,a,c8],[a,a,i 6,a,L 4 [[b,L 4 [[a,j,a,d],[j,b,d,c],[h,j,h,i 6]],.A4,b]]],[a,a,g,a,L 4 [[b,L 4 [[a,j,a,d],[j,b,d,c],[i 5,j,h,g]],.A4,b],[b,L 4 [[b,j,a,i 6],[j,b,i 6,i 7],[i 7,j,i 8,g]],.A4,b]]],[a,a,k,a,L 4 [[b,L 4 [[a,j,a,d],[j,b,d,c],[i 6,j,h,k]],.A4,b],[b,L 4 [[b,j,a,i 6],[j,b,i 6,i 7],[i 8,j,i 8,k]],.A4,b],[b,L 4 [[d,j,a,g],[j,b,g,i 11],[i 9,j,i 12,k]],.A4,b]]],[a,h,i 6,a,c9],[a,h,g,a,L 4 [[b,L 4 [[h,j,h,i 6],[j,b,i 6,i 7],[i 7,j,i 8,g]],.A4,b]]],[a,h,k,a,L 4 [[b,L 4 [[h,j,h,i 6],[j,b,i 6,i 7],[i 8,j,i 8,k]],.A4,b],[b,L 4 [[i 5,j,h,g],[j,b,g,i 11],[i 9,j,i 12,k]],.A4,b]]],[a,i 8,g,a,ca],[a,i 8,k,a,L 4 [[b,L 4 [[i 7,j,i 8,g],[j,b,g,i 11],[i 9,j,i 12,k]],.A4,b]]],[a,i 12,k,a,cb]],L 3 [[c,.A4,b]]]
def a3:PA:=A [c6,.A4,b,L 7 [[.str [105,100],a,ac,ck,.str [120],.A4,b],[.str [43],a,.str [43],.A4,ac,.A4,b],[.str [42],a,.str [42],.A4,ac,.A4,b],[.str [40],a,.str [40],.A4,ac,.A4,b],[.str [41],a,.str [41],.A4,ac,.A4,b],[aq,a,aq,.A4,ac,.A4,b],[bb,a,bb,.A4,ac,.A4,b],[.str [59],a,.str [59],.A4,ac,.A4,b],[.str [94],a,.str [94],.A4,ac,.A4,b],[c5,b,ac,cm,ac,.A4,b],[cc,d,ac,cl,ac,.A4,b]],L 1 [[.str [69]]],L 13 [[.str [97],a,L 2 [[a2,a]],.A4,b,p,a,.A4,p,a,a,a,a],[.str [97,100,100],a,bz,.A4,b,p,a,.A4,p,a,a,a,a]],a,.A4,.A4]
abbrev pT:Tr Bool:=.n .z (some true) .z
abbrev pU (l r:Tr Bool):Tr Bool:=.n l (some true) r
abbrev pM (l r:Tr Bool):Tr Bool:=.n l none r
def UC:Tr Bool:=(pM (pM (pU (pU (pU (pM (pM (pM pT .z) pT) (pU (pU pT .z) pT)) (pU (pU (pU pT .z) pT) (pU .z pT))) (pU (pU (pM (pM pT .z) pT) (pU .z pT)) (pM (pU (pM pT .z) .z) (pM .z pT)))) (pU (pU (pU (pM (pU pT .z) pT) (pM pT pT)) (pU (pU (pU pT .z) .z) (pM pT .z))) (pU (pU (pM (pU pT .z) pT) (pU pT pT)) (pU (pU (pM pT .z) .z) (pU pT pT))))) (pU (pU (pU (pU (pM (pM pT .z) .z) (pU (pU pT .z) pT)) (pU (pU (pU pT .z) pT) (pU pT .z))) (pU (pU (pM (pM pT .z) pT) (pU pT pT)) (pU (pU (pM pT .z) .z) (pM pT pT)))) (pU (pU (pM (pU (pM pT .z) pT) (pM .z pT)) (pU (pM (pM pT .z) pT) (pU pT .z))) (pM (pU (pU (pU pT .z) pT) (pU .z pT)) (pM (pU (pM pT .z) .z) (pU pT pT)))))) (pM (pU (pU (pU (pM (pM (pU pT .z) .z) (pM pT .z)) (pU (pU (pU pT .z) .z) (pM pT .z))) (pU (pM (pM (pM pT .z) pT) (pU .z pT)) (pM (pU (pM pT .z) pT) (pU .z pT)))) (pU (pU (pU (pM (pM pT .z) pT) (pU pT pT)) (pU (pU (pU pT .z) .z) (pU .z pT))) (pU (pU (pM (pU pT .z) pT) (pU pT pT)) (pM (pM pT pT) (pU pT pT))))) (pU (pU (pU (pU (pM (pM pT .z) pT) (pU pT pT)) (pM (pU (pU pT .z) pT) (pM pT .z))) (pM (pU (pU (pM pT .z) pT) (pU (pU pT .z) pT)) (pM (pU (pU pT .z) .z) (pU .z pT)))) (pU (pU (pU (pU (pU pT .z) pT) (pM .z pT)) (pU (pU (pU pT .z) .z) (pU pT pT))) (pM (pU (pU (pU pT .z) pT) (pM .z pT)) (pM (pM pT pT) (pM .z pT)))))))
def F0:D5:=λf=>C.tab.get (Key.kn f)
abbrev R (t:Tr Ent) (f:Nat) (d:D):Prop:=runK F0 (known UC t) 1000000 f d.1 (λv=>eqA v d.2)=true
def YW (t:Tr Ent) (f:Nat):Ent->Bool:=@List.rec D (λ_=>Bool) true (λd _ ih=>Ja (runK F0 (known UC t) 1000000 f d.1 (λv=>eqA v d.2)) ih false)
def lA (t:Tr Ent):List (Nat×Ent)->Bool:=@List.rec (Nat×Ent) (λ_=>Bool) true (λd _ ih=>Ja (YW t d.1 d.2) ih false)
def nx (t:Tr Ent):List (Nat×Ent)->Tr Ent:=@List.rec (Nat×Ent) (λ_=>Tr Ent) t (λd _ t=>t.upd (Key.kn d.1) (some (d.2++((t.get (Key.kn d.1)).getD []))))
def xt0:Tr Ent:=.z
def xg1:List (Nat×Ent):=[(117,[([al,ar],bx),([ar,ar],T (L 1 [[u 2]]) 0),([al,c1],T (L 1 [[u 2]]) 0),([c1,ar],T (L 1 [[u 3]]) 0),([c2,c1],c3),([al,V (L 1 [[u 5]])],c3),([bm,al],c0),([al,bm],c0),([bm,bm],c0),([ar,bm],bx),([bm,ar],bx),([ar,al],bx),([c2,ar],c4),([al,V (L 1 [[u 4]])],c4)]),(59,[([n,U 0],m)]),(125,[([ab],.tup [.s (L 1 [[a],[h],[i 7],[i 9],[i 8],[i 5],[i 6],[b],[d],[c]]),.s a2])]),(124,[([ab],m),([c7],B false)]),(156,[([ao,e,e,I 2],e),([ao,e,I 4,I 6],I 4),([ao,e,I 4,I 10],I 5),([ao,e,e,I 6],f),([ao,e,I 8,I 10],I 7),([ao,e,I 4,I 14],I 6),([ao,e,I 8,I 14],I 8),([ao,e,e,I 10],I 2),([ao,e,I 12,I 14],I 9),([ao,e,e,I 14],I 3)]),(262,[([A [b,bh,a5,c]],an),([A [b,b1,a5,c]],ah),([A [b,b2,a5,c]],ad),([A [b,b3,a5,c]],ae),([A [b,bk,a5,c]],af),([A [b,bf,a5,c]],am),([A [b,b4,a5,c]],ak),([A [b,b3,a6,c]],ae),([A [a,b8,a6,c]],ax),([A [a,b8,a5,c]],ax),([A [b,b1,a6,c]],ah),([A [a,b9,a6,c]],ay),([A [a,b9,a5,c]],ay),([A [b,bl,a6,c]],b7),([A [b,bl,a5,c]],b7),([A [a,ba,a6,c]],az),([A [a,ba,a5,c]],az),([A [a,bc,a6,c]],b0),([A [a,bc,a5,c]],b0),([A [b,bh,a6,c]],an),([A [b,b1,a4,d]],ah),([A [b,bg,a6,c]],b6),([A [b,bg,a5,c]],b6),([A [b,b2,a6,c]],ad),([A [b,b3,a4,d]],ae),([A [b,be,a6,c]],b5),([A [b,be,a5,c]],b5),([A [b,bk,a6,c]],af),([A [b,b2,a4,d]],ad),([A [b,b4,a6,c]],ak),([A [b,bf,a6,c]],am),([A [b,b4,a4,d]],ak),([A [b,b3,a7,c]],ae),([A [b,bk,a4,d]],af),([A [a,b8,a7,c]],ax),([A [a,b8,a4,d]],ax),([A [b,b1,a7,c]],ah),([A [b,bh,a4,d]],an),([A [a,b9,a7,c]],ay),([A [a,b9,a4,d]],ay),([A [b,bl,a7,c]],b7),([A [b,bl,a4,d]],b7),([A [a,ba,a7,c]],az),([A [a,ba,a4,d]],az),([A [a,bc,a7,c]],b0),([A [a,bc,a4,d]],b0),([A [b,bh,a7,c]],an),([A [b,b1,a8,c]],ah),([A [b,bg,a7,c]],b6),([A [b,bg,a4,d]],b6),([A [b,b2,a7,c]],ad),([A [b,b3,a8,c]],ae),([A [b,be,a7,c]],b5),([A [b,be,a4,d]],b5),([A [b,bk,a7,c]],af),([A [b,b2,a8,c]],ad),([A [b,b4,a7,c]],ak),([A [b,bf,a4,d]],am),([A [b,bf,a7,c]],am),([A [b,b4,a8,c]],ak),([A [b,b3,a9,c]],ae),([A [b,bk,a8,c]],af),([A [a,b8,a9,c]],ax),([A [a,b8,a8,c]],ax),([A [b,b1,a9,c]],ah),([A [b,bh,a8,c]],an),([A [a,b9,a9,c]],ay),([A [a,b9,a8,c]],ay),([A [b,bl,a9,c]],b7),([A [b,bl,a8,c]],b7),([A [a,ba,a9,c]],az),([A [a,ba,a8,c]],az),([A [a,bc,a9,c]],b0),([A [a,bc,a8,c]],b0),([A [b,bh,a9,c]],an),([A [b,b1,.A4,b]],ah),([A [b,bg,a9,c]],b6),([A [b,bg,a8,c]],b6),([A [b,b2,a9,c]],ad),([A [b,b3,.A4,b]],ae),([A [b,be,a9,c]],b5),([A [b,be,a8,c]],b5),([A [b,bk,a9,c]],af),([A [b,b2,.A4,b]],ad),([A [b,b4,a9,c]],ak),([A [b,bf,a8,c]],am),([A [b,bf,a9,c]],am),([A [b,b4,.A4,b]],ak)]),(159,[([q,t],l),([w,q],f),([w,t],f),([r,q],f),([r,t],f),([r,w],l),([x,q],f),([x,t],f),([x,r],f),([x,w],f),([y,q],f),([y,t],f),([y,r],f),([y,w],f),([y,x],l),([a1,q],f),([a1,t],f),([a1,r],f),([a1,w],f),([a1,y],f),([a1,x],f),([w,r],f),([w,w],e),([an,ah],f),([w,y],l),([w,x],l),([w,a1],l),([z,q],f),([z,t],f),([z,r],f),([z,w],l),([z,y],l),([z,x],l),([z,a1],l),([t,q],f),([t,t],e),([ad,ae],f),([t,r],l),([t,z],l),([t,w],l),([t,y],l),([t,x],l),([t,a1],l),([s,q],f),([s,t],l),([s,r],l),([s,z],l),([s,w],l),([s,y],l),([s,x],l),([s,a1],l),([t,s],f),([af,ae],f),([af,ad],f),([a0,q],f),([a0,s],f),([a0,t],l),([a0,r],l),([a0,z],l),([a0,w],l),([a0,y],l),([a0,x],l),([a0,a1],l),([a0,a0],e),([am,ak],f),([t,a0],f),([ae,ae],e),([ae,ad],l),([ae,af],l),([q,q],e),([ax,ax],e),([q,s],l),([q,a0],l),([q,r],l),([q,z],l),([q,w],l),([q,y],l),([q,x],l),([q,a1],l),([w,s],f),([w,a0],f),([w,z],f),([ah,ah],e),([ah,an],l),([r,s],f),([r,a0],f),([r,r],e),([ay,ay],e),([r,z],l),([r,y],l),([r,x],l),([r,a1],l),([x,s],f),([x,a0],f),([x,z],f),([x,y],f),([x,x],e),([b7,b7],e),([x,a1],l),([y,s],f),([y,a0],f),([y,z],f),([y,y],e),([az,az],e),([y,a1],l),([a1,s],f),([a1,a0],f),([a1,z],f),([a1,a1],e),([b0,b0],e),([an,an],e),([z,s],f),([z,a0],f),([z,z],e),([b6,b6],e),([ad,ad],e),([ad,af],l),([s,s],e),([b5,b5],e),([s,a0],l),([af,af],e),([ak,ak],e),([ak,am],l),([am,am],e)]),(261,[([A [a,b,a,a2,bw],e],m),([cd,e],B false),([A [h,i 5,h,p,bw],e],m),([ce,e],B false),([A [i 8,i 9,i 8,p,bw],e],m),([cf,e],B false),([A [i 12,i 13,i 12,p,bw],e],m),([cd,f],m),([ce,f],m),([cf,f],m)]),(104,[([f],G [L 3 [[b,a,b]],d] 0),([e],G [L 3 [[a,a,b]],d] 0)]),(54,[([n,U 0],m),([n,U 1],m),([n,U 2],m),([n,U 3],m)]),(258,[([V bz,e],cg),([V bz,I 2],ch)]),(256,[([n,V (L 2 [[a2,a]]),bn,m],o)]),(255,[([f],bn)]),(253,[([a3],m)]),(252,[([a3],m)]),(273,[([V ck],e),([V cm],e),([V cl],e)]),(48,[([n,n],m),([o,o],m)]),(178,[([al,f],n),([al,e],o),([V a4,I 2],aa),([V (L 3 [[a,b,a]]),I 2],bd),([V a5,I 3],ap),([V a6,I 3],bq),([V (L 3 [[b,a,b]]),I 2],ag),([V a7,I 3],br),([V a8,I 3],bs),([V a9,I 3],bt)]),(264,[([V c6,e],m),([V c6,f],m),([V (L 1 [[.str [105,100]]]),e],m),([V (L 1 [[.str [105,100]],[.str [43]]]),f],m),([V (L 1 [[.str [105,100]],[.str [43]],[.str [42]]]),I 2],m),([V (L 1 [[.str [105,100]],[.str [43]],[.str [42]],[.str [40]]]),I 3],m),([V (L 1 [[.str [105,100]],[.str [43]],[.str [42]],[.str [40]],[.str [41]]]),I 4],m),([V (L 1 [[.str [105,100]],[.str [43]],[.str [42]],[.str [40]],[.str [41]],[aq]]),I 5],m),([V (L 1 [[.str [105,100]],[.str [43]],[.str [42]],[.str [40]],[.str [41]],[aq],[bb]]),I 6],m),([V (L 1 [[.str [105,100]],[.str [43]],[.str [42]],[.str [40]],[.str [41]],[aq],[bb],[.str [59]]]),I 7],m),([V (L 1 [[.str [105,100]],[.str [43]],[.str [42]],[.str [40]],[.str [41]],[aq],[bb],[.str [59]],[.str [94]]]),I 8],m),([V (L 1 [[.str [105,100]],[.str [43]],[.str [42]],[.str [40]],[.str [41]],[aq],[bb],[.str [59]],[.str [94]],[c5]]),I 9],m),([V (L 1 [[.str [105,100]],[.str [43]],[.str [42]],[.str [40]],[.str [41]],[aq],[bb],[.str [59]],[.str [94]],[c5],[cc]]),I 10],m),([V (L 1 [[.str [69]]]),e],m),([V (L 1 [[.str [97]],[.str [97,100,100]]]),f],m)])]
def xt1:=nx xt0 xg1
def xg2:List (Nat×Ent):=[(91,[([c7,U 0],A [.A4,.A4])]),(70,[([ab,U 0],V (L 1 [[a2],[a2],[a2],[a2],[a2],[a2],[a2],[a2],[a2],[a2]]))]),(239,[([a3,U 0,e],m),([a3,U 0,f],m),([a3,U 1,e],m),([a3,U 1,f],m),([a3,U 2,e],m),([a3,U 2,f],m),([a3,U 3,e],m),([a3,U 3,f],m)]),(176,[([n,n,e],n),([o,o,f],o),([n,o,e],o),([o,o,e],o),([ag,n,I 2],aa),([aa,n,e],aa),([bp,n,I 2],bd),([bd,aa,e],ap),([o,ap,f],ap),([bp,aa,e],bq),([ap,bq,f],aa),([ag,n,e],ag),([bd,ag,e],br),([aa,br,f],bs),([bp,ag,e],bt),([bs,bt,f],n),([n,n,I 2],o)]),(250,[([a3],m)]),(107,[([n],m)])]
def xt2:=nx xt1 xg2
def xg3:List (Nat×Ent):=[(7,[([c7,U 0],T .A4 110)]),(91,[([ab,U 0],ab)]),(109,[([ag],aa),([bp],bd),([n],o)]),(105,[([o,o],o),([o,ap],ap),([ap,bq],aa),([aa,br],bs),([bs,bt],n)]),(106,[([n,n],n),([n,o],o),([o,o],o),([aa,n],aa),([bd,aa],ap),([bp,aa],bq),([ag,n],ag),([bd,ag],br),([bp,ag],bt)]),(43,[([n],e)])]
def xt3:=nx xt2 xg3
def xg4:List (Nat×Ent):=[(14,[([ab,U 0,c2],co)]),(14,[([ab,U 0,al],T (L 4 [[b,j,a,k],[a,j,a,d],[j,a,a,b],[j,b,d,c],[b,j,h,k],[a,j,h,i 6],[j,a,h,i 5],[j,b,i 6,i 7],[b,j,i 8,k],[a,j,i 8,g],[j,a,i 8,i 9],[j,b,g,i 11],[a,j,i 12,k],[j,a,i 12,i 13]]) 0),([ab,U 0,V (L 1 [[u 5]])],T .A4 120),([ab,U 0,V (L 1 [[u 4]])],T cn 0)]),(7,[([ab,U 0],c3)]),(46,[([n,n],o)]),(256,[([n,V bz,bn,m],o),([n,cg,bn,m],o),([n,ch,bn,m],o)]),(257,[([a3,e],n),([a3,f],n)]),(251,[([a3],e)])]
def xt4:=nx xt3 xg4
def xg5:List (Nat×Ent):=[(9,[([ab,n],T (L 3 [[L 1 [[u 5]],.A4,b]]) 0)]),(24,[([ab,U 0,V (L 1 [[u 5],[u 7],[u 3]])],co),([ab,U 0,V (L 1 [[u 6]])],T .A4 120)]),(18,[([ab,U 0,V cn],c4)])]
def xt5:=nx xt4 xg5
def xg6:List (Nat×Ent):=[(254,[([a3,m],bn)])]
def xt6:=nx xt5 xg6
def xg7:List (Nat×Ent):=[(80,[([a3,A [.str [97,32,43,32,97,32,43,32,97,32,43,32,97,10],L 6 [[a,k,a,a,.A4,b]]]],G [L 7 [[a,b,a,a2,.A4,b,aw],[d,c,d,p,.A4,b,bo],[h,i 5,h,p,.A4,b,aw],[i 6,i 7,i 6,p,.A4,b,bo],[i 8,i 9,i 8,p,.A4,b,aw],[g,i 11,g,p,.A4,b,bo],[i 12,i 13,i 12,p,.A4,b,aw]],.A4,.A4,.A4,b,k] 0)])]
def xt7:=nx xt6 xg7
def xg8:List (Nat×Ent):=[(82,[([a3,A [L 7 [[a,b,a,a2,.A4,b,aw],[d,c,d,p,.A4,b,bo],[h,i 5,h,p,.A4,b,aw],[i 6,i 7,i 6,p,.A4,b,bo],[i 8,i 9,i 8,p,.A4,b,aw],[g,i 11,g,p,.A4,b,bo],[i 12,i 13,i 12,p,.A4,b,aw]],.A4,.A4,.A4,b,k]],G [L 5 [[a,a,d,a,c8],[a,a,i 6,a,L 4 [[b,L 4 [[a,j,a,d],[j,b,d,c],[h,j,h,i 6]],.A4,b]]],[a,a,g,a,L 4 [[b,L 4 [[a,j,a,d],[j,b,d,c],[i 5,j,h,g]],.A4,b],[b,L 4 [[b,j,a,i 6],[j,b,i 6,i 7],[i 7,j,i 8,g]],.A4,b]]],[a,a,k,a,L 4 [[b,L 4 [[a,j,a,d],[j,b,d,c],[i 6,j,h,k]],.A4,b],[b,L 4 [[b,j,a,i 6],[j,b,i 6,i 7],[i 8,j,i 8,k]],.A4,b],[b,L 4 [[d,j,a,g],[j,b,g,i 11],[i 9,j,i 12,k]],.A4,b]]],[a,h,i 6,a,c9],[a,h,g,a,L 4 [[b,L 4 [[h,j,h,i 6],[j,b,i 6,i 7],[i 7,j,i 8,g]],.A4,b]]],[a,h,k,a,L 4 [[b,L 4 [[h,j,h,i 6],[j,b,i 6,i 7],[i 8,j,i 8,k]],.A4,b],[b,L 4 [[i 5,j,h,g],[j,b,g,i 11],[i 9,j,i 12,k]],.A4,b]]],[a,i 8,g,a,ca],[a,i 8,k,a,L 4 [[b,L 4 [[i 7,j,i 8,g],[j,b,g,i 11],[i 9,j,i 12,k]],.A4,b]]],[a,i 12,k,a,cb]],L 3 [[c,.A4,b]]] 0)])]
def xt8:=nx xt7 xg8
def xg9:List (Nat×Ent):=[(23,[([],ab)])]
def xt9:=nx xt8 xg9
end Go.Pv.E2
end
