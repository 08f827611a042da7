/-
  Part of the proof.
-/
import Derived.Test.YteplnamfpodmlaaRT2
import Derived.Test.YteplnamfpodmlaaRA4
set_option linter.unusedVariables false
set_option linter.unusedSimpArgs false
set_option maxRecDepth 100000
open Go.ChangeShapes Go.WideShapes Go.ChangeAt Go.RowKit
namespace Go.Proofs.Yteplnamfpodmlaa.T2
def Qbu(m:Nat→Bool)(v:Bool)(k:Nat):Nat→Int
 |0=> -1
 |n+1=>if v=m k then(k:Int)else Qbu m v (k+1) n
def JL(m:Nat→Bool)(n:Nat)(v:Bool):Int:=Qbu m v 0 n
def QbJ(m:Nat→Bool)(n:Nat)(v:Bool)(k:Int):Prop:=0≤k∧k≤n∧Qbu m v k.toNat (n - k.toNat)=JL m n v
theorem Qol{m:Nat→Bool}{n:Nat}{v:Bool}{k:Int}(h:QbJ m n v k)(hk:k < n)(hv:¬v=m k.toNat):QbJ m n v (k+1):=by
 obtain⟨h1,h2,h3⟩:=h
 refine⟨by omega,by omega,?_⟩
 rw [←h3,show n - k.toNat=(n - (k+1).toNat)+1 by omega,show(k+1).toNat=k.toNat+1 by omega]
 rw [Qbu,if_neg hv]
theorem Qok{m:Nat→Bool}{n:Nat}{v:Bool}{k:Int}(h:QbJ m n v k)(hk:k < n)(hv:v=m k.toNat):k=JL m n v:=by
 obtain⟨h1,h2,h3⟩:=h
 rw [←h3,show n - k.toNat=(n - (k+1).toNat)+1 by omega]
 rw [Qbu,if_pos hv]
 omega
theorem QqY{m:Nat→Bool}{n:Nat}{v:Bool}{k:Int}(h:QbJ m n v k)(hk:¬k < n):(-1:Int)=JL m n v:=by
 obtain⟨h1,h2,h3⟩:=h
 rw [←h3,show n - k.toNat=0 by omega]
 rfl
theorem QnB{n:Nat}(h:(n:Int) < 2 ^ 63){k:Int}(h0:0≤k)(hk:k < n):IntKind.i64.wrap (k+1)=k+1:=by
 rw [IntKind.wrap_i64];omega
def QpQ:List Sg:= []
def QjM:List PX:= [.l (.sl 0 (.v 2 0)),.l (.t (.v 1 0))]
def QmK:List Rw:= [⟨0,[none],(.v 2 0)⟩]
def QmI:Cfg:=⟨4,QpQ,[⟨40,2,0,[.num (.s 8) (some .i64)],8,.inr (.v 2 0),false⟩],[],[]⟩
def QpO:List Lf:= [⟨[.c (.eq (.v 1 0) (.r 0 1 0 (.v 20 0))) true,.c (.c .geq (.v 20 0) (.i 0)) true,.c (.c .geq (.v 2 0) (.i 0)) true,.c (.c .lss (.v 20 0) (.v 2 0)) true,.g 20 0 0],.v (.l (.n .i64 (.v 20 0))),[]⟩,
 ⟨[.c (.c .lss (.v 20 0) (.v 2 0)) false,.g 20 0 0],.v (.l (.n .i64 (.i (-1)))),[]⟩]
def QpP:List Ob:=
 let z0:SX:= .c .geq (.v 2 0) (.i 0)
 let z1:List Cd:= [.c (.c .lss (.v 20 0) (.v 2 0)) true,.g 20 0 0]
 let z2:List Cd:=(.c (.eq (.v 1 0) (.r 0 1 0 (.v 20 0))) false :: .c (.c .geq (.v 20 0) (.i 0)) true :: .c z0 true :: z1)
 [.cl [] z0,.inv [.c z0 true] 0 20 [.n .i64 (.i 0)] [],.cl z1 (.c .geq (.v 20 0) (.i 0)),.cl z1 z0,.inv z2 0 20 [.n .i64 (.o .add .i64 (.v 20 0) (.i 1))] [],.cl z2 (.c .lss (.v 20 0) (.o .add .i64 (.v 20 0) (.i 1))),.cl z2 (.c .lss (.v 20 0) (.v 2 0))]
theorem QmJ:QP Try.prog QmI 1000 4 40 Try.f40 QjM QmK=some (QpO,QpP):=by kernel_rfl
theorem Qon(base:Option Addr)(cap:Nat)(int:Nat→Int)(m:Nat→Bool)(n:Nat)(v:Bool)(hn:(n:Int) < 2 ^ 63)(w:World)(hr:Xn w base n [none] int m) :
 Calls Try.prog 40 #[.slice base n cap,.bool v] w (Ret (.int .i64 (JL m n v)) w):=by
 refine ZK (C:= []) (I:= [fun d e=>QbJ m n v (e.int d 0)]) Qr rfl Try.func40 QmJ (Kh [nmR base cap int m,nmT v,nmN n]) w ?_ ?_ _ ?_ ?_
 ·rfl
 ·intro r hr0
  rw [List.mem_singleton.1 hr0]
  exact hr
 ·refine⟨?_,?_,?_,?_,?_,?_,?_,trivial⟩
  all_goals
   intro e he hc
   have h0:e.nm 0=nmR base cap int m:=he 0 (by decide)
   have h1:e.nm 1=nmT v:=he 1 (by decide)
   have h2:e.nm 2=nmN n:=he 2 (by decide)
   simp only [QC,Zb,Cd.holds,dv1,dv2,di1,db2,dr1,dr2,dq1,dq2,do1,Z1,Z0,Zx,Zw,Zz,Zy,Zv,Zu,Zt,Zs,Z3,Z2,Xt,Xs,Xp,Xo,Xr,Xq,List.map_cons,List.map_nil,Nat.mul_one,Nat.add_zero,List.getElem?_cons_zero,List.getElem?_cons_succ,Option.some.injEq,exists_eq_left',and_true,Env.int,Env.bool,h0,h1,h2,nmR,nmT,nmN,nmI,nmB,Jp,Wy,X8 (Nat.le_refl _)]at hc ⊢
   first
    |omega
    |(refine⟨by omega,by omega,rfl⟩;done)
    |(rw [QnB hn hc.2.2.2.2.1 hc.2.2.2.1];first|exact Qol hc.2.2.2.2 hc.2.2.2.1 hc.1|omega)
    |exact hc.2.1
    |exact hc.2.2.2.2.1
    |exact hc.2.2.2.2.2.1
 ·refine⟨?_,?_,trivial⟩
  all_goals
   intro e u he hc hs
   have h0:e.nm 0=nmR base cap int m:=he 0 (by decide)
   have h1:e.nm 1=nmT v:=he 1 (by decide)
   have h2:e.nm 2=nmN n:=he 2 (by decide)
   simp only [QC,Zb,Cd.holds,dv1,dv2,di1,db2,dr1,dr2,dq1,dq2,do1,Z1,Z0,Zx,Zw,Zz,Zy,Zv,Zu,Zt,Zs,Z3,Z2,Xt,Xs,Xp,Xo,Xr,Xq,List.map_cons,List.map_nil,Nat.mul_one,Nat.add_zero,List.getElem?_cons_zero,List.getElem?_cons_succ,Option.some.injEq,exists_eq_left',and_true,Env.int,Env.bool,h0,h1,h2,nmR,nmT,nmN,nmI,nmB,X8 (Nat.le_refl _)]at hc
   rw [show u=_ from hs]
   simp only [PX.den,LX.den,dv1,di1]
   have hI:QbJ m n v ((e.nm 20).int 0):=by(have hpq:=hc;(repeat (first|exact hpq|exact hpq.1|replace hpq:=hpq.2));done)
   first
    |rw [Qok hI (by(have hpq:=hc;(repeat (first|exact hpq|exact hpq.1|replace hpq:=hpq.2));done)) (by(have hpq:=hc;(repeat (first|exact hpq|exact hpq.1|replace hpq:=hpq.2));done))]
    |rw [QqY hI (by(have hpq:=hc;(repeat (first|exact hpq|exact hpq.1|replace hpq:=hpq.2));done))]
def QfO:Kon Try.prog:=Kon.fn 40 [.sl [none],.l none] (.l (some .i64)) false (fun ads=>match ads with| [d1,_]=>(J6 d1.val:Int) < 2 ^ 63|_=>False)
 (fun ads=>match ads with| [d1,d2]=>fun _=>JL d1.bool (J6 d1.val) (QcL d2)|_=>fun _=>0) (fun _ _=>false) ⟨_,Try.func40,by kernel_rfl,by kernel_rfl⟩ (fun h=>by cases h) (fun ads w hf hp=>by
   obtain⟨d1,_,rfl,f1,hf⟩:=Qf hf
   obtain⟨d2,_,rfl,f2,hf⟩:=Qf hf
   obtain rfl:=Qn hf
   obtain⟨g1,g2⟩:=Wj f1
   show Calls _ _ #[d1.val,d2.val] w _
   rw [g1,Qhy f2]
   exact Qon _ _ d1.int _ _ _ hp w g2)
def Q7(i:Ins):List Int:=if Qj i=true then(if KJ i=true then [i.imm]else []) ++ (if JK i=true then []else [ZY i])else []
def JE(l:List Int)(m m':Nm):Prop:=m.int 0=(l.length:Int)∧∀k x,l[k]?=some x→m'.int k=x
theorem Qgd{e:Env}{B:Nat}{w:World}{ks:List (Option IntKind)}:∃m m',PX.den e (.l .ns)=RZ.val m m' (.s ks)∧JE [] m m'∧RZ.mem B w m m' (.s ks):=
 ⟨Nm.zero,Nm.zero,rfl,⟨rfl,fun k x h=>by simp at h⟩,Nat.le_refl _,.inl ⟨rfl,rfl⟩⟩
theorem Qge{e:Env}{B:Nat}{w:World}{ks:List (Option IntKind)}{d n:Nat}(h:Own B w (e.base d) n (e.cap d) ks (e.int d) (e.bool d))(l:List Int)(hl:l.length=n)(hc:∀k x,l[k]?=some x→e.int d k=x) :
 ∃m m',PX.den e (.l (.sl d (.i n)))=RZ.val m m' (.s ks)∧JE l m m'∧RZ.mem B w m m' (.s ks):=
 ⟨nmN n,e.nm d,rfl,⟨by rw [hl];rfl,hc⟩,h⟩
def QjU:List Sg:= [⟨48,[.a Qb],.b (.l none),true,false⟩,⟨126,[.a Qb],.b (.tp [.inl (some .u32),.inl none]),true,false⟩,⟨127,[.a Qb],.b (.l none),true,false⟩,⟨128,[.a Qb],.b (.l (some .u32)),true,false⟩]
def QeO:List PX:= [.a (Qa 0 0 Qb)]
def Qha:List Rw:= []
def QgY:Cfg:=⟨2,QjU,[],[],[]⟩
def QjS:List Lf:=
 let z0:PX:= .a (Qa 0 0 Qb)
 [⟨[.c (.v 14 0) false,.f 14 0 [(z0,0)]],.v (.l (.ns)),[⟨2,.cells 39 (Qa 0 0 Qb)⟩]⟩,⟨[.u 106 (some 70) (.i 1) 1 0 [.n .u32 (.v 98 0)],.f 98 3 [(z0,0)],.c (.v 82 0) false,.f 82 2 [(z0,0)],.u 70 none (.i 0) 1 0 [.n .u32 (.v 30 0)],.c (.v 30 1) true,.f 30 1 [(z0,0)],.c (.v 14 0) true,.f 14 0 [(z0,0)]],.v (.l (.sl 106 (.i 2))),[⟨2,.cells 39 (Qa 0 0 Qb)⟩,⟨66,.cells 23 [.n .u32 (.v 30 0)]⟩,⟨102,.cells 23 [.n .u32 (.v 98 0)]⟩,⟨106,.row [some .u32] (.i 2) 106⟩]⟩,⟨[.c (.v 82 0) true,.f 82 2 [(z0,0)],.u 70 none (.i 0) 1 0 [.n .u32 (.v 30 0)],.c (.v 30 1) true,.f 30 1 [(z0,0)],.c (.v 14 0) true,.f 14 0 [(z0,0)]],.v (.l (.sl 70 (.i 1))),[⟨2,.cells 39 (Qa 0 0 Qb)⟩,⟨66,.cells 23 [.n .u32 (.v 30 0)]⟩,⟨70,.row [some .u32] (.i 1) 70⟩]⟩,⟨[.u 86 none (.i 0) 1 0 [.n .u32 (.v 78 0)],.f 78 3 [(z0,0)],.c (.v 62 0) false,.f 62 2 [(z0,0)],.c (.v 30 1) false,.f 30 1 [(z0,0)],.c (.v 14 0) true,.f 14 0 [(z0,0)]],.v (.l (.sl 86 (.i 1))),[⟨2,.cells 39 (Qa 0 0 Qb)⟩,⟨82,.cells 23 [.n .u32 (.v 78 0)]⟩,⟨86,.row [some .u32] (.i 1) 86⟩]⟩,⟨[.c (.v 62 0) true,.f 62 2 [(z0,0)],.c (.v 30 1) false,.f 30 1 [(z0,0)],.c (.v 14 0) true,.f 14 0 [(z0,0)]],.v (.l (.ns)),[⟨2,.cells 39 (Qa 0 0 Qb)⟩]⟩]
def QjT:List Ob:=
 let z0:PX:= .a (Qa 0 0 Qb)
 [.pre [] 0 [(z0,0)],.pre [.c (.v 14 0) true,.f 14 0 [(z0,0)]] 1 [(z0,0)],.pre [.u 70 none (.i 0) 1 0 [.n .u32 (.v 30 0)],.c (.v 30 1) true,.f 30 1 [(z0,0)],.c (.v 14 0) true,.f 14 0 [(z0,0)]] 2 [(z0,0)],.pre [.c (.v 82 0) false,.f 82 2 [(z0,0)],.u 70 none (.i 0) 1 0 [.n .u32 (.v 30 0)],.c (.v 30 1) true,.f 30 1 [(z0,0)],.c (.v 14 0) true,.f 14 0 [(z0,0)]] 3 [(z0,0)],.pre [.c (.v 30 1) false,.f 30 1 [(z0,0)],.c (.v 14 0) true,.f 14 0 [(z0,0)]] 2 [(z0,0)],.pre [.c (.v 62 0) false,.f 62 2 [(z0,0)],.c (.v 30 1) false,.f 30 1 [(z0,0)],.c (.v 14 0) true,.f 14 0 [(z0,0)]] 3 [(z0,0)]]
theorem QgZ:QP Try.prog QgY 1000 4 83 Try.f83 QeO Qha=some (QjS,QjT):=by kernel_rfl
theorem Qir(i:Ins)(w:World):Calls Try.prog 83 #[i.val] w fun en w'=>∃m m',en= .returned ((RZ.s [some .u32]).val m m')∧Below w.heap.size w w'∧JE (Q7 i) m m'∧(RZ.s [some .u32]).mem w.heap.size w' m m':=by
 refine Qcf (C:= [Yf.kon,QhD.kon,Qrj.kon,Qrl.kon]) (I:= []) Qr rfl Try.func83 QgZ (Kh [nmI (Q9 i)]) w rfl (fun r hr=>(List.not_mem_nil hr).elim) (.s [some .u32]) _ ?_ ?_
 ·refine⟨?_,?_,?_,?_,?_,?_,trivial⟩
  all_goals
   intro e he hc
   trivial
 ·refine⟨?_,?_,?_,?_,?_,trivial⟩
  all_goals
   intro e u w' he hc hs hb
   have h0:e.nm 0=nmI (Q9 i):=he 0 (by decide)
   have hi:QcI e 0=i:=ZE e 0 (show(e.nm 0).int=_ by rw [h0];rfl)
   rw [show u=_ from hs]
   simp only [QC,Zb,Cd.holds,dv1,dv2,di1,db2,dr1,dr2,dq1,dq2,do1,Z1,Z0,Zx,Zw,Zz,Zy,Zv,Zu,Zt,Zs,Z3,Z2,Xt,Xs,Xp,Xo,Xr,Xq,List.map_cons,List.map_nil,Nat.mul_one,Nat.add_zero,List.getElem?_cons_zero,List.getElem?_cons_succ,Option.some.injEq,exists_eq_left',and_true,Env.int,Env.bool,Con.kon_post,QI,Yf,QhD,Qrj,Qrl,Q3,hi,Ji]at hc
  ·rw [show Q7 i= []by unfold Q7;rw [if_neg];rw [←congrFun hc.2.2 0,hc.1];decide]
   exact Qgd
  ·obtain⟨⟨c1, -⟩,⟨c2, -⟩,c3,⟨-,c4⟩,⟨c5, -⟩,c6,⟨c7,c8⟩,c9, -,c10⟩:=hc
   replace c9:Qj i=true:=by rw [c10]at c9;exact c9
   replace c6:=(congrFun c8 1).symm.trans c6
   replace c3:=(congrFun c4 0).symm.trans c3
   rw [show Q7 i= [i.imm,ZY i]by unfold Q7;rw [if_pos c9,if_pos c6,c3];rfl]
   refine Qge (n:=2) hb.2.2.2.1 _ rfl fun k x hk=>?_
   rw [show e.int 106 k=_ from congrFun c1 k,c5]
   simp only [li,dv1,c2,c7,if_pos c6]
   match k,hk with
   |0,hk=>cases hk;rfl
   |1,hk=>cases hk;rfl
  ·obtain⟨c3,⟨-,c4⟩,⟨c5, -⟩,c6,⟨c7,c8⟩,c9, -,c10⟩:=hc
   replace c9:Qj i=true:=by rw [c10]at c9;exact c9
   replace c6:=(congrFun c8 1).symm.trans c6
   replace c3:=(congrFun c4 0).symm.trans c3
   rw [show Q7 i= [i.imm]by unfold Q7;rw [if_pos c9,if_pos c6,c3];rfl]
   refine Qge (n:=1) hb.2.2.1 _ rfl fun k x hk=>?_
   rw [show e.int 70 k=_ from congrFun c5 k]
   simp only [li,dv1,c7,if_pos c6]
   match k,hk with
   |0,hk=>cases hk;rfl
  ·obtain⟨⟨c1, -⟩,⟨c2, -⟩,c3,⟨-,c4⟩,c6,⟨c7,c8⟩,c9, -,c10⟩:=hc
   replace c9:Qj i=true:=by rw [c10]at c9;exact c9
   replace c6:=(congrFun c8 1).symm.trans c6
   replace c3:=(congrFun c4 0).symm.trans c3
   rw [show Q7 i= [ZY i]by unfold Q7;rw [if_pos c9,c6,c3];rfl]
   refine Qge (n:=1) hb.2.2.1 _ rfl fun k x hk=>?_
   rw [show e.int 86 k=_ from congrFun c1 k]
   simp only [li,dv1,c2]
   match k,hk with
   |0,hk=>cases hk;rfl
  ·obtain⟨c3,⟨-,c4⟩,c6,⟨c7,c8⟩,c9, -,c10⟩:=hc
   replace c9:Qj i=true:=by rw [c10]at c9;exact c9
   replace c6:=(congrFun c8 1).symm.trans c6
   replace c3:=(congrFun c4 0).symm.trans c3
   rw [show Q7 i= []by unfold Q7;rw [if_pos c9,c6,c3];rfl]
   exact Qgd
def QbX:Kon Try.prog where
 sg:=⟨83,[.a Qb],.s [some .u32],false,true⟩
 pre _:=True
 post ads m m':=match ads with| [d1]=>JE (Q7 (Q0 d1)) m m'|_=>True
 body:=⟨_,Try.func83,by kernel_rfl,by kernel_rfl⟩
 free _ _:=trivial
 flat h:=by cases h
 total h:=by cases h
 same h:=by cases h
 sound ads w hf hp:=by
  obtain⟨d1,_,rfl,f1,hf⟩:=Qf hf
  obtain rfl:=Qn hf
  show Calls _ _ #[d1.val] w _
  rw [Zc f1]
  exact Qir _ w
end Go.Proofs.Yteplnamfpodmlaa.T2
