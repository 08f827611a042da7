/-
  Part of the proof.
-/
import Derived.Test.YteplnamfpodmlaaRB
import Derived.Test.YteplnamfpodmlaaRA01
import Derived.Test.YteplnamfpodmlaaRA6
set_option linter.unusedVariables false
set_option linter.unusedSimpArgs false
set_option maxRecDepth 100000
open Go.ChangeShapes Go.WideShapes Go.ChangeAt Go.RowKit
section
namespace Go.Proofs.Yteplnamfpodmlaa.T2
def Q1(I:Nat→Ins)(N:Nat)(a:Int):Int:=match Qv I a N with|some k=>(k:Int)|none=> -1
def XU(I:Nat→Ins)(N:Nat)(a k:Int):Prop:=0≤k∧k≤N∧Qv I a k.toNat=none
section
variable{I:Nat→Ins}{N:Nat}{a k:Int}
theorem QaB(h:XU I N a k)(hk:k < N)(hv:¬(I k.toNat).addr=a):XU I N a (k+1):=by
 obtain⟨h1,h2,h3⟩:=h
 refine⟨by omega,by omega,?_⟩
 rw [show(k+1).toNat=k.toNat+1 by omega]
 unfold Qv
 rw [h3]
 exact if_neg hv
theorem Wi(h:XU I N a k)(hk:k < N)(hv:(I k.toNat).addr=a):k=Q1 I N a:=by
 obtain⟨h1,h2,h3⟩:=h
 have h4:Qv I a (k.toNat+1)=some k.toNat:=by
  unfold Qv
  rw [h3]
  exact if_pos hv
 have h5:=QaC h4 (m:=N) (by omega)
 unfold Q1
 rw [h5]
 show k=((k.toNat:Nat):Int)
 omega
theorem QbQ(h:XU I N a k)(hk:¬k < N):(-1:Int)=Q1 I N a:=by
 obtain⟨h1,h2,h3⟩:=h
 unfold Q1
 rw [show N=k.toNat by omega,h3]
theorem Qhx:XU I N a 0:=⟨by omega,by omega,rfl⟩
theorem QE(h:0≤Q1 I N a):∃t:Nat,Qv I a N=some t∧Q1 I N a=t∧t < N:=by
 unfold Q1 at h ⊢
 cases hf:Qv I a N with
 |none=>rw [hf]at h;exact absurd h (by decide)
 |some t=>exact⟨t,rfl,rfl,(XL hf).1⟩
end
def Qqy:List Sg:= []
def QjZ:List PX:= [.l (.sl 0 (.v 2 0)),.l (.n .u32 (.v 1 0))]
def Qng:List Rw:= [⟨0,Qb,(.v 2 0)⟩]
def Qne:Cfg:=⟨4,Qqy,[⟨42,2,0,[.num (.s 5) (some .i64)],5,.inr (.v 2 0),false⟩],[],[]⟩
def Qqw:List Lf:= [⟨[.c (.c .eql (.r 0 9 0 (.v 12 0)) (.v 1 0)) true,.c (.c .geq (.v 12 0) (.i 0)) true,.c (.c .lss (.v 12 0) (.v 2 0)) true,.c (.c .geq (.v 2 0) (.i 0)) true,.g 12 0 0],.v (.l (.n .i64 (.v 12 0))),[]⟩,
 ⟨[.c (.c .lss (.v 12 0) (.v 2 0)) false,.c (.c .geq (.v 2 0) (.i 0)) true,.g 12 0 0],.v (.l (.n .i64 (.i (-1)))),[]⟩]
def Qqx:List Ob:=
 let z0:List Cd:= [.c (.c .eql (.r 0 9 0 (.v 12 0)) (.v 1 0)) false,.c (.c .geq (.v 12 0) (.i 0)) true,.c (.c .lss (.v 12 0) (.v 2 0)) true,.c (.c .geq (.v 2 0) (.i 0)) true,.g 12 0 0]
 [.inv [] 0 12 [.n .i64 (.i 0)] [],.cl [.g 12 0 0] (.c .geq (.v 2 0) (.i 0)),.cl [.c (.c .lss (.v 12 0) (.v 2 0)) true,.c (.c .geq (.v 2 0) (.i 0)) true,.g 12 0 0] (.c .geq (.v 12 0) (.i 0)),.inv z0 0 12 [.n .i64 (.o .add .i64 (.v 12 0) (.i 1))] [],.cl z0 (.c .lss (.v 12 0) (.o .add .i64 (.v 12 0) (.i 1))),.cl z0 (.c .lss (.v 12 0) (.v 2 0))]
theorem Qnf:QP Try.prog Qne 1000 4 42 Try.f42 QjZ Qng=some (Qqw,Qqx):=by kernel_rfl
theorem QoO(base:Option Addr)(cap:Nat)(int:Nat→Int)(bool:Nat→Bool)(n:Nat)(a:Int)(hn:(n:Int) < 2 ^ 63)(w:World)(hr:Xn w base n Qb int bool) :
 Calls Try.prog 42 #[.slice base n cap,.int .u32 a] w (Ret (.int .i64 (Q1 (Qe int) n a)) w):=by
 refine ZK (C:= []) (I:= [fun d e=>XU (Qe int) n a (e.int d 0)]) Qr rfl Try.func42 Qnf (Kh [nmR base cap int bool,nmN a,nmN n]) w ?_ ?_ _ ?_ ?_
 ·rfl
 ·intro r hr0
  rw [List.mem_singleton.1 hr0]
  exact hr
 ·refine⟨?_,?_,?_,?_,?_,?_,trivial⟩
  all_goals
   intro e he hc
   have h0:e.nm 0=nmR base cap int bool:=he 0 (by decide)
   have h1:e.nm 1=nmN a:=he 1 (by decide)
   have h2:e.nm 2=nmN n:=he 2 (by decide)
   simp only [QC,Zb,Cd.holds,dv1,dv2,di1,db2,dr1,dr2,dq1,dq2,do1,Z1,Z0,Zx,Zw,Zz,Zy,Zv,Zu,Zt,Zs,Z3,Z2,Xt,Xs,Xp,Xo,Xr,Xq,List.map_cons,List.map_nil,Nat.mul_one,Nat.add_zero,List.getElem?_cons_zero,List.getElem?_cons_succ,Option.some.injEq,exists_eq_left',and_true,Env.int,Env.bool,h0,h1,h2,nmR,nmN,nmI,nmB,Jp,Wy,X8 (Nat.le_refl _)]at hc ⊢
   first
    |omega
    |(refine⟨by omega,by omega,rfl⟩;done)
    |(rw [QnB hn (by(have hpq:=hc;(repeat (first|exact hpq|exact hpq.1|replace hpq:=hpq.2));done)) (by(have hpq:=hc;(repeat (first|exact hpq|exact hpq.1|replace hpq:=hpq.2));done))]
      have hI:XU (Qe int) n a ((e.nm 12).int 0):=by(have hpq:=hc;(repeat (first|exact hpq|exact hpq.1|replace hpq:=hpq.2));done)
      first|exact QaB hI (by(have hpq:=hc;(repeat (first|exact hpq|exact hpq.1|replace hpq:=hpq.2));done)) hc.1|omega)
    |(have hI:XU (Qe int) n a ((e.nm 12).int 0):=by(have hpq:=hc;(repeat (first|exact hpq|exact hpq.1|replace hpq:=hpq.2));done)
      exact hI.1)
    |(have hpq:=hc;(repeat (first|exact hpq|exact hpq.1|replace hpq:=hpq.2));done)
 ·refine⟨?_,?_,trivial⟩
  all_goals
   intro e u he hc hs
   have h0:e.nm 0=nmR base cap int bool:=he 0 (by decide)
   have h1:e.nm 1=nmN a:=he 1 (by decide)
   have h2:e.nm 2=nmN n:=he 2 (by decide)
   simp only [QC,Zb,Cd.holds,dv1,dv2,di1,db2,dr1,dr2,dq1,dq2,do1,Z1,Z0,Zx,Zw,Zz,Zy,Zv,Zu,Zt,Zs,Z3,Z2,Xt,Xs,Xp,Xo,Xr,Xq,List.map_cons,List.map_nil,Nat.mul_one,Nat.add_zero,List.getElem?_cons_zero,List.getElem?_cons_succ,Option.some.injEq,exists_eq_left',and_true,Env.int,Env.bool,h0,h1,h2,nmR,nmN,nmI,nmB,X8 (Nat.le_refl _)]at hc
   rw [show u=_ from hs]
   simp only [PX.den,LX.den,dv1,di1]
   have hI:XU (Qe int) n a ((e.nm 12).int 0):=by(have hpq:=hc;(repeat (first|exact hpq|exact hpq.1|replace hpq:=hpq.2));done)
   first
    |rw [Wi hI (by(have hpq:=hc;(repeat (first|exact hpq|exact hpq.1|replace hpq:=hpq.2));done)) hc.1]
    |rw [QbQ hI hc.1]
def QfR:Kon Try.prog:=Kon.fn 42 [.sl Qb,.l (some .u32)] (.l (some .i64)) false (fun ads=>match ads with| [d1,_]=>(J6 d1.val:Int) < 2 ^ 63|_=>False)
 (fun ads=>match ads with| [d1,d2]=>fun _=>Q1 (Qe d1.int) (J6 d1.val) (Q8 d2)|_=>fun _=>0) (fun _ _=>false) ⟨_,Try.func42,by kernel_rfl,by kernel_rfl⟩ (fun h=>by cases h) (fun ads w hf hp=>by
   obtain⟨d1,_,rfl,f1,hf⟩:=Qf hf
   obtain⟨d2,_,rfl,f2,hf⟩:=Qf hf
   obtain rfl:=Qn hf
   obtain⟨g1,g2⟩:=Wj f1
   show Calls _ _ #[d1.val,d2.val] w _
   rw [g1,QH f2]
   exact QoO _ _ d1.int d1.bool _ _ hp w g2)
end Go.Proofs.Yteplnamfpodmlaa.T2
end
section
namespace Go.Proofs.Yteplnamfpodmlaa.T2
def Kq(I:Nat→Ins)(N M:Nat)(a:Int):Option Nat:=match Qv I a N with|some k=>if k < M then some k else none|none=>none
def Ys(o:Option Nat)(int:Nat→Int):Nat→Int:=fun j=>match o with|some k=>int (k * 40+j)|none=>0
def Yr(o:Option Nat)(bool:Nat→Bool):Nat→Bool:=fun j=>match o with|some k=>if j=40 then true else bool (k * 40+j)|none=>false
theorem KE{I:Nat→Ins}{N M t:Nat}{a:Int}(h:Qv I a N=some t)(ht:t < M):Kq I N M a=some t:=by unfold Kq;rw [h];exact if_pos ht
theorem QeR{I:Nat→Ins}{N M:Nat}{a:Int}(h:Q1 I N a < 0∨(M:Int)≤Q1 I N a):Kq I N M a=none:=by
 unfold Kq
 unfold Q1 at h
 cases hf:Qv I a N with
 |none=>rfl
 |some t=>
  rw [hf]at h
  simp only at h
  exact if_neg (by omega)
theorem Qtj{e:Env}{d:Nat}{x:SX}{k:Nat}(hx:(x.den e).1.toNat=k):VX.sat e (.tp [.a (rxL d 40 x 0 stK),.l (.t (.b true))]) (RS.val (Ys (some k) (e.int d)) (Yr (some k) (e.bool d)) (.tp [.inr stK,.inl none])):=by
 subst hx
 rfl
def Qx4:List Sg:= [⟨42,[.sl Qb,.l (some .u32)],.b (.l (some .i64)),true,false⟩]
def Qwu:List PX:= [.l (.sl 0 (.v 3 0)),.l (.sl 1 (.v 4 0)),.l (.n .u32 (.v 2 0))]
def QwU:List Rw:= [⟨0,Qb,(.v 3 0)⟩,⟨1,stK,(.v 4 0)⟩]
def QwS:Cfg:=⟨6,Qx4,[],[],[]⟩
def Qx2:List Lf:=
 let z0:LX:= .t (.b false)
 let z1:LX:= .n .u32 (.i 0)
 [⟨[.c (.an (.no (.c .lss (.v 22 0) (.i 0))) (.no (.c .geq (.v 22 0) (.v 4 0)))) false,.f 22 0 [(.l (.sl 0 (.v 3 0)),0),(.l (.n .u32 (.v 2 0)),0)]],.tp [.a [z0,z0,z1,z1,z1,z0,z0,z1,z1,z1,z0,z0,z1,z1,z1,z0,z0,z1,z1,z1,z0,z0,z1,z1,z1,z0,z0,z1,z1,z1,z0,z0,z1,z1,z1,z0,z0,z1,z1,z1],.l z0],[⟨6,.cells 46 [z0,z0,z1,z1,z1,z0,z0,z1,z1,z1,z0,z0,z1,z1,z1,z0,z0,z1,z1,z1,z0,z0,z1,z1,z1,z0,z0,z1,z1,z1,z0,z0,z1,z1,z1,z0,z0,z1,z1,z1]⟩]⟩,⟨[.c (.c .lss (.v 22 0) (.v 4 0)) true,.c (.c .geq (.v 4 0) (.i 0)) true,.c (.c .lss (.v 22 0) (.i 0)) false,.c (.c .geq (.v 22 0) (.v 4 0)) false,.f 22 0 [(.l (.sl 0 (.v 3 0)),0),(.l (.n .u32 (.v 2 0)),0)]],.tp [.a (rxL 1 40 (.v 22 0) 0 stK),.l (.t (.b true))],[⟨6,.cells 46 ((rxL 1 40 (.v 22 0) 0 stK))⟩]⟩]
def Qx3:List Ob:=
 [.pre [] 0 [(.l (.sl 0 (.v 3 0)),0),(.l (.n .u32 (.v 2 0)),0)],.cl [.c (.no (.c .lss (.v 22 0) (.i 0))) true,.f 22 0 [(.l (.sl 0 (.v 3 0)),0),(.l (.n .u32 (.v 2 0)),0)]] (.c .geq (.v 4 0) (.i 0)),.cl [.c (.c .lss (.v 22 0) (.i 0)) false,.c (.c .geq (.v 22 0) (.v 4 0)) false,.f 22 0 [(.l (.sl 0 (.v 3 0)),0),(.l (.n .u32 (.v 2 0)),0)]] (.c .lss (.v 22 0) (.v 4 0)),.cl [.c (.c .lss (.v 22 0) (.i 0)) false,.c (.c .geq (.v 22 0) (.v 4 0)) false,.f 22 0 [(.l (.sl 0 (.v 3 0)),0),(.l (.n .u32 (.v 2 0)),0)]] (.c .geq (.v 4 0) (.i 0))]
theorem QwT:QP Try.prog QwS 1000 4 23 Try.f23 Qwu QwU=some (Qx2,Qx3):=by kernel_rfl
theorem QwZ(b1 b2:Option Addr)(c1 c2:Nat)(i1 i2:Nat→Int)(o1 o2:Nat→Bool)(n m:Nat)(a:Int)(hn:(n:Int) < 2 ^ 63)(w:World)(h1:Xn w b1 n Qb i1 o1)(h2:Xn w b2 m stK i2 o2) :
 Calls Try.prog 23 #[.slice b1 n c1,.slice b2 m c2,.int .u32 a] w (Ret (RS.val (Ys (Kq (Qe i1) n m a) i2) (Yr (Kq (Qe i1) n m a) o2) (.tp [.inr stK,.inl none])) w):=by
 refine ZK (C:= [QfR]) (I:= []) Qr rfl Try.func23 QwT (Kh [nmR b1 c1 i1 o1,nmR b2 c2 i2 o2,nmN a,nmN n,nmN m]) w ?_ ?_ _ ?_ ?_
 ·rfl
 ·intro r hr0
  rcases List.mem_cons.1 hr0 with rfl|hr0
  ·exact h1
  ·rw [List.mem_singleton.1 hr0]
   exact h2
 ·refine⟨?_,?_,?_,?_,trivial⟩
  all_goals
   intro e he hc
   have x0:e.nm 0=nmR b1 c1 i1 o1:=he 0 (by decide)
   have x3:e.nm 3=nmN n:=he 3 (by decide)
   have x4:e.nm 4=nmN m:=he 4 (by decide)
   first
    |(show((e.int 3 0).toNat:Int) < 2 ^ 63;simp only [Env.int,x3,nmN,nmI];omega)
    |(simp only [QC,Zb,Cd.holds,dv1,dv2,di1,db2,dr1,dr2,dq1,dq2,do1,Z1,Z0,Zx,Zw,Zz,Zy,Zv,Zu,Zt,Zs,Z3,Z2,Xt,Xs,Xp,Xo,Xr,Xq,List.map_cons,List.map_nil,Nat.mul_one,Nat.add_zero,List.getElem?_cons_zero,List.getElem?_cons_succ,Option.some.injEq,exists_eq_left',and_true,and_assoc,Env.int,Env.bool,X8,Nat.reduceLeDiff,Nat.reduceAdd,x0,x3,x4,nmR,nmN,nmI]at hc ⊢;omega)
 ·refine⟨?_,?_,trivial⟩
  all_goals
   intro e u he hc hs
   have x0:e.nm 0=nmR b1 c1 i1 o1:=he 0 (by decide)
   have x1:e.nm 1=nmR b2 c2 i2 o2:=he 1 (by decide)
   have x2:e.nm 2=nmN a:=he 2 (by decide)
   have x3:e.nm 3=nmN n:=he 3 (by decide)
   have x4:e.nm 4=nmN m:=he 4 (by decide)
   have hf:(e.nm 22).int 0=Q1 (Qe i1) n a:=by
    have hq:Cd.holds [QfR] [] e (.f 22 0 [(.l (.sl 0 (.v 3 0)),0),(.l (.n .u32 (.v 2 0)),0)]):=by(have hpq:=hc;(repeat (first|exact hpq|exact hpq.1|replace hpq:=hpq.2));done)
    obtain⟨c,hk,hp⟩:=hq
    cases hk
    have hp1:(e.nm 22).int=fun _=>Q1 (Qe (e.nm 0).int) ((e.nm 3).int 0).toNat ((e.nm 2).int 0):=hp.1
    rw [hp1,x0,x2,x3]
    rfl
   simp only [QC,Zb,Cd.holds,dv1,dv2,di1,db2,dr1,dr2,dq1,dq2,do1,Z1,Z0,Zx,Zw,Zz,Zy,Zv,Zu,Zt,Zs,Z3,Z2,Xt,Xs,Xp,Xo,Xr,Xq,List.map_cons,List.map_nil,Nat.mul_one,Nat.add_zero,List.getElem?_cons_zero,List.getElem?_cons_succ,Option.some.injEq,exists_eq_left',and_true,and_assoc,Env.int,Env.bool,X8,Nat.reduceLeDiff,Nat.reduceAdd,x4,nmN,nmI]at hc
  ·rw [show u=_ from hs,QeR (by rw [←hf];omega)]
   rfl
  ·obtain⟨t,t1,t2,t3⟩:=QE (I:=Qe i1) (N:=n) (a:=a) (by rw [←hf];omega)
   rw [KE t1 (by omega),show i2=e.int 1 by rw [show e.int 1=(e.nm 1).int from rfl,x1];rfl,show o2=e.bool 1 by rw [show e.bool 1=(e.nm 1).bool from rfl,x1];rfl]
   rw [show u=_ from hs]
   exact(Qtj (show((SX.v 22 0).den e).1.toNat=t by show((e.nm 22).int 0).toNat=t;omega)).symm
def QmE:List Sg:= []
def QgU:List PX:= [.l (.sl 0 (.v 3 0)),.l (.sl 1 (.v 4 0)),.l (.n .u32 (.v 2 0))]
def QjK:List Rw:= [⟨0,Qb,(.v 3 0)⟩,⟨1,stK,(.v 4 0)⟩]
def QjI:Cfg:=⟨6,QmE,[⟨45,2,0,[.num (.s 8) (some .i64)],8,.inr (.v 3 0),false⟩],[45,46],[]⟩
def QmC:List Lf:=
 let z0:LX:= .t (.b false)
 let z1:LX:= .n .u32 (.i 0)
 let z2:List LX:= [z0,z0,z1,z1,z1,z0,z0,z1,z1,z1,z0,z0,z1,z1,z1,z0,z0,z1,z1,z1,z0,z0,z1,z1,z1,z0,z0,z1,z1,z1,z0,z0,z1,z1,z1,z0,z0,z1,z1,z1]
 [⟨[.c (.c .geq (.v 50 0) (.v 4 0)) true,.c (.c .geq (.v 4 0) (.i 0)) true,.c (.c .eql (.r 0 9 0 (.v 50 0)) (.v 2 0)) true,.c (.c .geq (.v 50 0) (.i 0)) true,.c (.c .geq (.v 3 0) (.i 0)) true,.c (.c .lss (.v 50 0) (.v 3 0)) true,.g 50 0 0],.tp [.a z2,.l z0],[⟨6,.cells 23 [.n .u32 (.v 2 0)]⟩,⟨10,.cells 37 z2⟩,⟨87,.cells 39 ((rxL 0 9 (.v 50 0) 0 Qb))⟩]⟩,⟨[.c (.c .lss (.v 50 0) (.v 4 0)) true,.c (.c .geq (.v 50 0) (.v 4 0)) false,.c (.c .geq (.v 4 0) (.i 0)) true,.c (.c .eql (.r 0 9 0 (.v 50 0)) (.v 2 0)) true,.c (.c .geq (.v 50 0) (.i 0)) true,.c (.c .geq (.v 3 0) (.i 0)) true,.c (.c .lss (.v 50 0) (.v 3 0)) true,.g 50 0 0],.tp [.a (rxL 1 40 (.v 50 0) 0 stK),.l (.t (.b true))],[⟨6,.cells 23 [.n .u32 (.v 2 0)]⟩,⟨10,.cells 37 ((rxL 1 40 (.v 50 0) 0 stK))⟩,⟨87,.cells 39 ((rxL 0 9 (.v 50 0) 0 Qb))⟩]⟩,⟨[.c (.c .lss (.v 50 0) (.v 3 0)) false,.g 50 0 0],.tp [.a z2,.l z0],[⟨6,.cells 23 [.n .u32 (.v 2 0)]⟩,⟨10,.cells 37 z2⟩]⟩]
def QmD:List Ob:=
 let z0:SX:= .c .geq (.v 3 0) (.i 0)
 let z1:List Cd:= [.c (.c .lss (.v 50 0) (.v 3 0)) true,.g 50 0 0]
 let z2:List Cd:=(.c (.c .eql (.r 0 9 0 (.v 50 0)) (.v 2 0)) false :: .c (.c .geq (.v 50 0) (.i 0)) true :: .c z0 true :: z1)
 [.cl [] z0,.inv [.c z0 true] 0 50 [.n .i64 (.i 0)] [],.cl z1 (.c .geq (.v 50 0) (.i 0)),.cl z1 z0,.inv z2 0 50 [.n .i64 (.o .add .i64 (.v 50 0) (.i 1))] [],.cl z2 (.c .lss (.v 50 0) (.o .add .i64 (.v 50 0) (.i 1))),.cl z2 (.c .lss (.v 50 0) (.v 3 0)),.cl (.c (.c .eql (.r 0 9 0 (.v 50 0)) (.v 2 0)) true :: .c (.c .geq (.v 50 0) (.i 0)) true :: .c z0 true :: z1) (.c .geq (.v 4 0) (.i 0)),.cl (.c (.c .geq (.v 50 0) (.v 4 0)) false :: .c (.c .geq (.v 4 0) (.i 0)) true :: .c (.c .eql (.r 0 9 0 (.v 50 0)) (.v 2 0)) true :: .c (.c .geq (.v 50 0) (.i 0)) true :: .c z0 true :: z1) (.c .lss (.v 50 0) (.v 4 0))]
theorem QjJ:QP Try.prog QjI 1000 4 16 Try.f16 QgU QjK=some (QmC,QmD):=by kernel_rfl
theorem Qkj(b1 b2:Option Addr)(c1 c2:Nat)(i1 i2:Nat→Int)(o1 o2:Nat→Bool)(n m:Nat)(a:Int)(hn:(n:Int) < 2 ^ 63)(w:World)(h1:Xn w b1 n Qb i1 o1)(h2:Xn w b2 m stK i2 o2) :
 Calls Try.prog 16 #[.slice b1 n c1,.slice b2 m c2,.int .u32 a] w (Ret (RS.val (Ys (Kq (Qe i1) n m a) i2) (Yr (Kq (Qe i1) n m a) o2) (.tp [.inr stK,.inl none])) w):=by
 refine ZK (C:= []) (I:= [fun d e=>XU (Qe i1) n a (e.int d 0)]) Qr rfl Try.func16 QjJ (Kh [nmR b1 c1 i1 o1,nmR b2 c2 i2 o2,nmN a,nmN n,nmN m]) w ?_ ?_ _ ?_ ?_
 ·rfl
 ·intro r hr0
  rcases List.mem_cons.1 hr0 with rfl|hr0
  ·exact h1
  ·rw [List.mem_singleton.1 hr0]
   exact h2
 ·refine⟨?_,?_,?_,?_,?_,?_,?_,?_,?_,trivial⟩
  all_goals
   intro e he hc
   have x0:e.nm 0=nmR b1 c1 i1 o1:=he 0 (by decide)
   have x2:e.nm 2=nmN a:=he 2 (by decide)
   have x3:e.nm 3=nmN n:=he 3 (by decide)
   have x4:e.nm 4=nmN m:=he 4 (by decide)
   simp only [QC,Zb,Cd.holds,dv1,dv2,di1,db2,dr1,dr2,dq1,dq2,do1,Z1,Z0,Zx,Zw,Zz,Zy,Zv,Zu,Zt,Zs,Z3,Z2,Xt,Xs,Xp,Xo,Xr,Xq,List.map_cons,List.map_nil,Nat.mul_one,Nat.add_zero,List.getElem?_cons_zero,List.getElem?_cons_succ,Option.some.injEq,exists_eq_left',and_true,and_assoc,Env.int,Env.bool,X8,Nat.reduceLeDiff,Nat.reduceAdd,x0,x2,x3,x4,nmR,nmN,nmI,Jp,Wy]at hc ⊢
   first
    |omega
    |exact Qhx
    |(have hI:XU (Qe i1) n a ((e.nm 50).int 0):=by(have hpq:=hc;(repeat (first|exact hpq|exact hpq.1|replace hpq:=hpq.2));done)
      have g1:=hI.1
      first
       |omega
       |(rw [QnB hn (by(have hpq:=hc;(repeat (first|exact hpq|exact hpq.1|replace hpq:=hpq.2));done)) (by(have hpq:=hc;(repeat (first|exact hpq|exact hpq.1|replace hpq:=hpq.2));done))]
         first|exact QaB hI (by(have hpq:=hc;(repeat (first|exact hpq|exact hpq.1|replace hpq:=hpq.2));done)) hc.1|omega))
    |fail ""
 ·refine⟨?_,?_,?_,trivial⟩
  all_goals
   intro e u he hc hs
   have x0:e.nm 0=nmR b1 c1 i1 o1:=he 0 (by decide)
   have x1:e.nm 1=nmR b2 c2 i2 o2:=he 1 (by decide)
   have x2:e.nm 2=nmN a:=he 2 (by decide)
   have x3:e.nm 3=nmN n:=he 3 (by decide)
   have x4:e.nm 4=nmN m:=he 4 (by decide)
   simp only [QC,Zb,Cd.holds,dv1,dv2,di1,db2,dr1,dr2,dq1,dq2,do1,Z1,Z0,Zx,Zw,Zz,Zy,Zv,Zu,Zt,Zs,Z3,Z2,Xt,Xs,Xp,Xo,Xr,Xq,List.map_cons,List.map_nil,Nat.mul_one,Nat.add_zero,List.getElem?_cons_zero,List.getElem?_cons_succ,Option.some.injEq,exists_eq_left',and_true,and_assoc,Env.int,Env.bool,X8,Nat.reduceLeDiff,Nat.reduceAdd,x0,x2,x3,x4,nmR,nmN,nmI]at hc
   have hI:XU (Qe i1) n a ((e.nm 50).int 0):=by(have hpq:=hc;(repeat (first|exact hpq|exact hpq.1|replace hpq:=hpq.2));done)
  ·have hf:=Wi hI (by(have hpq:=hc;(repeat (first|exact hpq|exact hpq.1|replace hpq:=hpq.2));done)) (by(have hpq:=hc;(repeat (first|exact hpq|exact hpq.1|replace hpq:=hpq.2));done))
   rw [show u=_ from hs,QeR (by rw [←hf];omega)]
   rfl
  ·have hf:=Wi hI (by(have hpq:=hc;(repeat (first|exact hpq|exact hpq.1|replace hpq:=hpq.2));done)) (by(have hpq:=hc;(repeat (first|exact hpq|exact hpq.1|replace hpq:=hpq.2));done))
   obtain⟨t,t1,t2,t3⟩:=QE (I:=Qe i1) (N:=n) (a:=a) (by rw [←hf];exact hI.1)
   rw [KE t1 (by omega),show i2=e.int 1 by rw [show e.int 1=(e.nm 1).int from rfl,x1];rfl,show o2=e.bool 1 by rw [show e.bool 1=(e.nm 1).bool from rfl,x1];rfl]
   rw [show u=_ from hs]
   exact(Qtj (show((SX.v 50 0).den e).1.toNat=t by show((e.nm 50).int 0).toNat=t;omega)).symm
  ·have hf:=QbQ hI (by(have hpq:=hc;(repeat (first|exact hpq|exact hpq.1|replace hpq:=hpq.2));done))
   rw [show u=_ from hs,QeR (by rw [←hf];omega)]
   rfl
def YG:Kon Try.prog:=Kon.fn 16 [.sl Qb,.sl stK,.l (some .u32)] (.tp [.inr stK,.inl none]) false (fun ads=>match ads with| [d1,_,_]=>(J6 d1.val:Int) < 2 ^ 63|_=>False)
 (fun ads=>match ads with| [d1,d2,d3]=>Ys (Kq (Qe d1.int) (J6 d1.val) (J6 d2.val) (Q8 d3)) d2.int|_=>fun _=>0)
 (fun ads=>match ads with| [d1,d2,d3]=>Yr (Kq (Qe d1.int) (J6 d1.val) (J6 d2.val) (Q8 d3)) d2.bool|_=>fun _=>false) ⟨_,Try.func16,by kernel_rfl,by kernel_rfl⟩ (fun h=>by cases h) (fun ads w hf hp=>by
   obtain⟨d1,_,rfl,f1,hf⟩:=Qf hf
   obtain⟨d2,_,rfl,f2,hf⟩:=Qf hf
   obtain⟨d3,_,rfl,f3,hf⟩:=Qf hf
   obtain rfl:=Qn hf
   obtain⟨g1,g2⟩:=Wj f1
   obtain⟨k1,k2⟩:=Wj f2
   show Calls _ _ #[d1.val,d2.val,d3.val] w _
   rw [g1,k1,QH f3]
   exact Qkj _ _ _ _ d1.int d2.int d1.bool d2.bool _ _ _ hp w g2 k2)
def Qwy:Kon Try.prog:=Kon.fn 23 [.sl Qb,.sl stK,.l (some .u32)] (.tp [.inr stK,.inl none]) false (fun ads=>match ads with| [d1,_,_]=>(J6 d1.val:Int) < 2 ^ 63|_=>False)
 (fun ads=>match ads with| [d1,d2,d3]=>Ys (Kq (Qe d1.int) (J6 d1.val) (J6 d2.val) (Q8 d3)) d2.int|_=>fun _=>0)
 (fun ads=>match ads with| [d1,d2,d3]=>Yr (Kq (Qe d1.int) (J6 d1.val) (J6 d2.val) (Q8 d3)) d2.bool|_=>fun _=>false) ⟨_,Try.func23,by kernel_rfl,by kernel_rfl⟩ (fun h=>by cases h) (fun ads w hf hp=>by
   obtain⟨d1,_,rfl,f1,hf⟩:=Qf hf
   obtain⟨d2,_,rfl,f2,hf⟩:=Qf hf
   obtain⟨d3,_,rfl,f3,hf⟩:=Qf hf
   obtain rfl:=Qn hf
   obtain⟨g1,g2⟩:=Wj f1
   obtain⟨k1,k2⟩:=Wj f2
   show Calls _ _ #[d1.val,d2.val,d3.val] w _
   rw [g1,k1,QH f3]
   exact QwZ _ _ _ _ d1.int d2.int d1.bool d2.bool _ _ _ hp w g2 k2)
end Go.Proofs.Yteplnamfpodmlaa.T2
end
