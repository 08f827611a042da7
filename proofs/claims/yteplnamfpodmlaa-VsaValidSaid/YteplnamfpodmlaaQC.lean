/-
  Part of the proof.
-/
import Derived.Test.YteplnamfpodmlaaQB
import Derived.Test.YteplnamfpodmlaaQA01
import Derived.Test.YteplnamfpodmlaaQA6
set_option linter.unusedVariables false
set_option linter.unusedSimpArgs false
set_option maxRecDepth 100000
open Go.ChangeShapes Go.WideShapes Go.ChangeAt Go.RowKit
section
namespace Go.Proofs.Yteplnamfpodmlaa.T2
def Q1(I:Nat→Ins)(N:Nat)(a:Int):Int:=match Qv I a N with|some k=>(k:Int)|none=> -1
def XU(I:Nat→Ins)(N:Nat)(a k:Int):Prop:=0≤k∧k≤N∧Qv I a k.toNat=none
section
variable{I:Nat→Ins}{N:Nat}{a k:Int}
theorem QaB(h:XU I N a k)(hk:k < N)(hv:¬(I k.toNat).addr=a):XU I N a (k+1):=by
 obtain⟨h1,h2,h3⟩:=h
 refine⟨by omega,by omega,?_⟩
 rw [show(k+1).toNat=k.toNat+1 by omega]
 unfold Qv
 rw [h3]
 exact if_neg hv
theorem Wi(h:XU I N a k)(hk:k < N)(hv:(I k.toNat).addr=a):k=Q1 I N a:=by
 obtain⟨h1,h2,h3⟩:=h
 have h4:Qv I a (k.toNat+1)=some k.toNat:=by
  unfold Qv
  rw [h3]
  exact if_pos hv
 have h5:=QaC h4 (m:=N) (by omega)
 unfold Q1
 rw [h5]
 show k=((k.toNat:Nat):Int)
 omega
theorem QbQ(h:XU I N a k)(hk:¬k < N):(-1:Int)=Q1 I N a:=by
 obtain⟨h1,h2,h3⟩:=h
 unfold Q1
 rw [show N=k.toNat by omega,h3]
theorem Qhx:XU I N a 0:=⟨by omega,by omega,rfl⟩
theorem Qdv{t:Nat}(h:Qv I a N=some t):Q1 I N a=t:=by unfold Q1;rw [h]
theorem QE(h:0≤Q1 I N a):∃t:Nat,Qv I a N=some t∧Q1 I N a=t∧t < N:=by
 unfold Q1 at h ⊢
 cases hf:Qv I a N with
 |none=>rw [hf]at h;exact absurd h (by decide)
 |some t=>exact⟨t,rfl,rfl,(XL hf).1⟩
end
def Qqy:List Sg:= []
def QjZ:List PX:= [.l (.sl 0 (.v 2 0)),.l (.n .u32 (.v 1 0))]
def Qng:List Rw:= [⟨0,Qb,(.v 2 0)⟩]
def Qne:Cfg:=⟨4,Qqy,[⟨42,2,0,[.num (.s 5) (some .i64)],5,.inr (.v 2 0),false⟩],[],[]⟩
def Qqw:List Lf:= [⟨[.c (.c .eql (.r 0 9 0 (.v 12 0)) (.v 1 0)) true,.c (.c .geq (.v 12 0) (.i 0)) true,.c (.c .lss (.v 12 0) (.v 2 0)) true,.c (.c .geq (.v 2 0) (.i 0)) true,.g 12 0 0],.v (.l (.n .i64 (.v 12 0))),[]⟩,
 ⟨[.c (.c .lss (.v 12 0) (.v 2 0)) false,.c (.c .geq (.v 2 0) (.i 0)) true,.g 12 0 0],.v (.l (.n .i64 (.i (-1)))),[]⟩]
def Qqx:List Ob:=
 let z0:List Cd:= [.c (.c .eql (.r 0 9 0 (.v 12 0)) (.v 1 0)) false,.c (.c .geq (.v 12 0) (.i 0)) true,.c (.c .lss (.v 12 0) (.v 2 0)) true,.c (.c .geq (.v 2 0) (.i 0)) true,.g 12 0 0]
 [.inv [] 0 12 [.n .i64 (.i 0)] [],.cl [.g 12 0 0] (.c .geq (.v 2 0) (.i 0)),.cl [.c (.c .lss (.v 12 0) (.v 2 0)) true,.c (.c .geq (.v 2 0) (.i 0)) true,.g 12 0 0] (.c .geq (.v 12 0) (.i 0)),.inv z0 0 12 [.n .i64 (.o .add .i64 (.v 12 0) (.i 1))] [],.cl z0 (.c .lss (.v 12 0) (.o .add .i64 (.v 12 0) (.i 1))),.cl z0 (.c .lss (.v 12 0) (.v 2 0))]
theorem Qnf:QP Try.prog Qne 1000 4 42 Try.f42 QjZ Qng=some (Qqw,Qqx):=by kernel_rfl
theorem QoO(base:Option Addr)(cap:Nat)(int:Nat→Int)(bool:Nat→Bool)(n:Nat)(a:Int)(hn:(n:Int) < 2 ^ 63)(w:World)(hr:Xn w base n Qb int bool) :
 Calls Try.prog 42 #[.slice base n cap,.int .u32 a] w (Ret (.int .i64 (Q1 (Qe int) n a)) w):=by
 refine ZK (C:= []) (I:= [fun d e=>XU (Qe int) n a (e.int d 0)]) Qr rfl Try.func42 Qnf (Kh [nmR base cap int bool,nmN a,nmN n]) w ?_ ?_ _ ?_ ?_
 ·rfl
 ·intro r hr0
  rw [List.mem_singleton.1 hr0]
  exact hr
 ·refine⟨?_,?_,?_,?_,?_,?_,trivial⟩
  all_goals
   intro e he hc
   have h0:e.nm 0=nmR base cap int bool:=he 0 (by decide)
   have h1:e.nm 1=nmN a:=he 1 (by decide)
   have h2:e.nm 2=nmN n:=he 2 (by decide)
   simp only [QC,Zb,Cd.holds,dv1,dv2,di1,db2,dr1,dr2,dq1,dq2,do1,Z1,Z0,Zx,Zw,Zz,Zy,Zv,Zu,Zt,Zs,Z3,Z2,Xt,Xs,Xp,Xo,Xr,Xq,List.map_cons,List.map_nil,Nat.mul_one,Nat.add_zero,List.getElem?_cons_zero,List.getElem?_cons_succ,Option.some.injEq,exists_eq_left',and_true,Env.int,Env.bool,h0,h1,h2,nmR,nmN,nmI,nmB,Jp,Wy,X8 (Nat.le_refl _)]at hc ⊢
   first
    |omega
    |(refine⟨by omega,by omega,rfl⟩;done)
    |(rw [QnB hn (by(have hpq:=hc;(repeat (first|exact hpq|exact hpq.1|replace hpq:=hpq.2));done)) (by(have hpq:=hc;(repeat (first|exact hpq|exact hpq.1|replace hpq:=hpq.2));done))]
      have hI:XU (Qe int) n a ((e.nm 12).int 0):=by(have hpq:=hc;(repeat (first|exact hpq|exact hpq.1|replace hpq:=hpq.2));done)
      first|exact QaB hI (by(have hpq:=hc;(repeat (first|exact hpq|exact hpq.1|replace hpq:=hpq.2));done)) hc.1|omega)
    |(have hI:XU (Qe int) n a ((e.nm 12).int 0):=by(have hpq:=hc;(repeat (first|exact hpq|exact hpq.1|replace hpq:=hpq.2));done)
      exact hI.1)
    |(have hpq:=hc;(repeat (first|exact hpq|exact hpq.1|replace hpq:=hpq.2));done)
 ·refine⟨?_,?_,trivial⟩
  all_goals
   intro e u he hc hs
   have h0:e.nm 0=nmR base cap int bool:=he 0 (by decide)
   have h1:e.nm 1=nmN a:=he 1 (by decide)
   have h2:e.nm 2=nmN n:=he 2 (by decide)
   simp only [QC,Zb,Cd.holds,dv1,dv2,di1,db2,dr1,dr2,dq1,dq2,do1,Z1,Z0,Zx,Zw,Zz,Zy,Zv,Zu,Zt,Zs,Z3,Z2,Xt,Xs,Xp,Xo,Xr,Xq,List.map_cons,List.map_nil,Nat.mul_one,Nat.add_zero,List.getElem?_cons_zero,List.getElem?_cons_succ,Option.some.injEq,exists_eq_left',and_true,Env.int,Env.bool,h0,h1,h2,nmR,nmN,nmI,nmB,X8 (Nat.le_refl _)]at hc
   rw [show u=_ from hs]
   simp only [PX.den,LX.den,dv1,di1]
   have hI:XU (Qe int) n a ((e.nm 12).int 0):=by(have hpq:=hc;(repeat (first|exact hpq|exact hpq.1|replace hpq:=hpq.2));done)
   first
    |rw [Wi hI (by(have hpq:=hc;(repeat (first|exact hpq|exact hpq.1|replace hpq:=hpq.2));done)) hc.1]
    |rw [QbQ hI hc.1]
def QfR:Kon Try.prog:=Kon.fn 42 [.sl Qb,.l (some .u32)] (.l (some .i64)) false (fun ads=>match ads with| [d1,_]=>(J6 d1.val:Int) < 2 ^ 63|_=>False)
 (fun ads=>match ads with| [d1,d2]=>fun _=>Q1 (Qe d1.int) (J6 d1.val) (Q8 d2)|_=>fun _=>0) (fun _ _=>false) ⟨_,Try.func42,by kernel_rfl,by kernel_rfl⟩ (fun h=>by cases h) (fun ads w hf hp=>by
   obtain⟨d1,_,rfl,f1,hf⟩:=Qf hf
   obtain⟨d2,_,rfl,f2,hf⟩:=Qf hf
   obtain rfl:=Qn hf
   obtain⟨g1,g2⟩:=Wj f1
   show Calls _ _ #[d1.val,d2.val] w _
   rw [g1,QH f2]
   exact QoO _ _ d1.int d1.bool _ _ hp w g2)
def QmY:List Sg:= []
def Qhb:List PX:= [.l (.sl 0 (.v 2 0)),.l (.n .u32 (.v 1 0))]
def QjX:List Rw:= [⟨0,Qb,(.v 2 0)⟩]
def QjV:Cfg:=⟨4,QmY,[⟨35,2,0,[.num (.s 5) (some .i64)],5,.inr (.v 2 0),false⟩],[],[]⟩
def QmW:List Lf:= [⟨[.c (.c .eql (.r 0 9 0 (.v 12 0)) (.v 1 0)) true,.c (.c .geq (.v 12 0) (.i 0)) true,.c (.c .lss (.v 12 0) (.v 2 0)) true,.c (.c .geq (.v 2 0) (.i 0)) true,.g 12 0 0],.v (.l (.n .i64 (.v 12 0))),[]⟩,
 ⟨[.c (.c .lss (.v 12 0) (.v 2 0)) false,.c (.c .geq (.v 2 0) (.i 0)) true,.g 12 0 0],.v (.l (.n .i64 (.i (-1)))),[]⟩]
def QmX:List Ob:=
 let z0:List Cd:= [.c (.c .eql (.r 0 9 0 (.v 12 0)) (.v 1 0)) false,.c (.c .geq (.v 12 0) (.i 0)) true,.c (.c .lss (.v 12 0) (.v 2 0)) true,.c (.c .geq (.v 2 0) (.i 0)) true,.g 12 0 0]
 [.inv [] 0 12 [.n .i64 (.i 0)] [],.cl [.g 12 0 0] (.c .geq (.v 2 0) (.i 0)),.cl [.c (.c .lss (.v 12 0) (.v 2 0)) true,.c (.c .geq (.v 2 0) (.i 0)) true,.g 12 0 0] (.c .geq (.v 12 0) (.i 0)),.inv z0 0 12 [.n .i64 (.o .add .i64 (.v 12 0) (.i 1))] [],.cl z0 (.c .lss (.v 12 0) (.o .add .i64 (.v 12 0) (.i 1))),.cl z0 (.c .lss (.v 12 0) (.v 2 0))]
theorem QjW:QP Try.prog QjV 1000 4 35 Try.f35 Qhb QjX=some (QmW,QmX):=by kernel_rfl
theorem QkG(base:Option Addr)(cap:Nat)(int:Nat→Int)(bool:Nat→Bool)(n:Nat)(a:Int)(hn:(n:Int) < 2 ^ 63)(w:World)(hr:Xn w base n Qb int bool) :
 Calls Try.prog 35 #[.slice base n cap,.int .u32 a] w (Ret (.int .i64 (Q1 (Qe int) n a)) w):=by
 refine ZK (C:= []) (I:= [fun d e=>XU (Qe int) n a (e.int d 0)]) Qr rfl Try.func35 QjW (Kh [nmR base cap int bool,nmN a,nmN n]) w ?_ ?_ _ ?_ ?_
 ·rfl
 ·intro r hr0
  rw [List.mem_singleton.1 hr0]
  exact hr
 ·refine⟨?_,?_,?_,?_,?_,?_,trivial⟩
  all_goals
   intro e he hc
   have h0:e.nm 0=nmR base cap int bool:=he 0 (by decide)
   have h1:e.nm 1=nmN a:=he 1 (by decide)
   have h2:e.nm 2=nmN n:=he 2 (by decide)
   simp only [QC,Zb,Cd.holds,dv1,dv2,di1,db2,dr1,dr2,dq1,dq2,do1,Z1,Z0,Zx,Zw,Zz,Zy,Zv,Zu,Zt,Zs,Z3,Z2,Xt,Xs,Xp,Xo,Xr,Xq,List.map_cons,List.map_nil,Nat.mul_one,Nat.add_zero,List.getElem?_cons_zero,List.getElem?_cons_succ,Option.some.injEq,exists_eq_left',and_true,Env.int,Env.bool,h0,h1,h2,nmR,nmN,nmI,nmB,Jp,Wy,X8 (Nat.le_refl _)]at hc ⊢
   first
    |omega
    |(refine⟨by omega,by omega,rfl⟩;done)
    |(rw [QnB hn (by(have hpq:=hc;(repeat (first|exact hpq|exact hpq.1|replace hpq:=hpq.2));done)) (by(have hpq:=hc;(repeat (first|exact hpq|exact hpq.1|replace hpq:=hpq.2));done))]
      have hI:XU (Qe int) n a ((e.nm 12).int 0):=by(have hpq:=hc;(repeat (first|exact hpq|exact hpq.1|replace hpq:=hpq.2));done)
      first|exact QaB hI (by(have hpq:=hc;(repeat (first|exact hpq|exact hpq.1|replace hpq:=hpq.2));done)) hc.1|omega)
    |(have hI:XU (Qe int) n a ((e.nm 12).int 0):=by(have hpq:=hc;(repeat (first|exact hpq|exact hpq.1|replace hpq:=hpq.2));done)
      exact hI.1)
    |(have hpq:=hc;(repeat (first|exact hpq|exact hpq.1|replace hpq:=hpq.2));done)
 ·refine⟨?_,?_,trivial⟩
  all_goals
   intro e u he hc hs
   have h0:e.nm 0=nmR base cap int bool:=he 0 (by decide)
   have h1:e.nm 1=nmN a:=he 1 (by decide)
   have h2:e.nm 2=nmN n:=he 2 (by decide)
   simp only [QC,Zb,Cd.holds,dv1,dv2,di1,db2,dr1,dr2,dq1,dq2,do1,Z1,Z0,Zx,Zw,Zz,Zy,Zv,Zu,Zt,Zs,Z3,Z2,Xt,Xs,Xp,Xo,Xr,Xq,List.map_cons,List.map_nil,Nat.mul_one,Nat.add_zero,List.getElem?_cons_zero,List.getElem?_cons_succ,Option.some.injEq,exists_eq_left',and_true,Env.int,Env.bool,h0,h1,h2,nmR,nmN,nmI,nmB,X8 (Nat.le_refl _)]at hc
   rw [show u=_ from hs]
   simp only [PX.den,LX.den,dv1,di1]
   have hI:XU (Qe int) n a ((e.nm 12).int 0):=by(have hpq:=hc;(repeat (first|exact hpq|exact hpq.1|replace hpq:=hpq.2));done)
   first
    |rw [Wi hI (by(have hpq:=hc;(repeat (first|exact hpq|exact hpq.1|replace hpq:=hpq.2));done)) hc.1]
    |rw [QbQ hI hc.1]
def QdC:Kon Try.prog:=Kon.fn 35 [.sl Qb,.l (some .u32)] (.l (some .i64)) false (fun ads=>match ads with| [d1,_]=>(J6 d1.val:Int) < 2 ^ 63|_=>False)
 (fun ads=>match ads with| [d1,d2]=>fun _=>Q1 (Qe d1.int) (J6 d1.val) (Q8 d2)|_=>fun _=>0) (fun _ _=>false) ⟨_,Try.func35,by kernel_rfl,by kernel_rfl⟩ (fun h=>by cases h) (fun ads w hf hp=>by
   obtain⟨d1,_,rfl,f1,hf⟩:=Qf hf
   obtain⟨d2,_,rfl,f2,hf⟩:=Qf hf
   obtain rfl:=Qn hf
   obtain⟨g1,g2⟩:=Wj f1
   show Calls _ _ #[d1.val,d2.val] w _
   rw [g1,QH f2]
   exact QkG _ _ d1.int d1.bool _ _ hp w g2)
end Go.Proofs.Yteplnamfpodmlaa.T2
end
section
namespace Go.Proofs.Yteplnamfpodmlaa.T2
def Kq(I:Nat→Ins)(N M:Nat)(a:Int):Option Nat:=match Qv I a N with|some k=>if k < M then some k else none|none=>none
def Ys(o:Option Nat)(int:Nat→Int):Nat→Int:=fun j=>match o with|some k=>int (k * 40+j)|none=>0
def Yr(o:Option Nat)(bool:Nat→Bool):Nat→Bool:=fun j=>match o with|some k=>if j=40 then true else bool (k * 40+j)|none=>false
theorem KE{I:Nat→Ins}{N M t:Nat}{a:Int}(h:Qv I a N=some t)(ht:t < M):Kq I N M a=some t:=by unfold Kq;rw [h];exact if_pos ht
theorem QeR{I:Nat→Ins}{N M:Nat}{a:Int}(h:Q1 I N a < 0∨(M:Int)≤Q1 I N a):Kq I N M a=none:=by
 unfold Kq
 unfold Q1 at h
 cases hf:Qv I a N with
 |none=>rfl
 |some t=>
  rw [hf]at h
  simp only at h
  exact if_neg (by omega)
theorem Qtj{e:Env}{d:Nat}{x:SX}{k:Nat}(hx:(x.den e).1.toNat=k):VX.sat e (.tp [.a (rxL d 40 x 0 stK),.l (.t (.b true))]) (RS.val (Ys (some k) (e.int d)) (Yr (some k) (e.bool d)) (.tp [.inr stK,.inl none])):=by
 subst hx
 rfl
def QmE:List Sg:= []
def QgU:List PX:= [.l (.sl 0 (.v 3 0)),.l (.sl 1 (.v 4 0)),.l (.n .u32 (.v 2 0))]
def QjK:List Rw:= [⟨0,Qb,(.v 3 0)⟩,⟨1,stK,(.v 4 0)⟩]
def QjI:Cfg:=⟨6,QmE,[⟨45,2,0,[.num (.s 8) (some .i64)],8,.inr (.v 3 0),false⟩],[45,46],[]⟩
def QmC:List Lf:=
 let z0:LX:= .t (.b false)
 let z1:LX:= .n .u32 (.i 0)
 let z2:List LX:= [z0,z0,z1,z1,z1,z0,z0,z1,z1,z1,z0,z0,z1,z1,z1,z0,z0,z1,z1,z1,z0,z0,z1,z1,z1,z0,z0,z1,z1,z1,z0,z0,z1,z1,z1,z0,z0,z1,z1,z1]
 [⟨[.c (.c .geq (.v 50 0) (.v 4 0)) true,.c (.c .geq (.v 4 0) (.i 0)) true,.c (.c .eql (.r 0 9 0 (.v 50 0)) (.v 2 0)) true,.c (.c .geq (.v 50 0) (.i 0)) true,.c (.c .geq (.v 3 0) (.i 0)) true,.c (.c .lss (.v 50 0) (.v 3 0)) true,.g 50 0 0],.tp [.a z2,.l z0],[⟨6,.cells 23 [.n .u32 (.v 2 0)]⟩,⟨10,.cells 37 z2⟩,⟨87,.cells 39 ((rxL 0 9 (.v 50 0) 0 Qb))⟩]⟩,⟨[.c (.c .lss (.v 50 0) (.v 4 0)) true,.c (.c .geq (.v 50 0) (.v 4 0)) false,.c (.c .geq (.v 4 0) (.i 0)) true,.c (.c .eql (.r 0 9 0 (.v 50 0)) (.v 2 0)) true,.c (.c .geq (.v 50 0) (.i 0)) true,.c (.c .geq (.v 3 0) (.i 0)) true,.c (.c .lss (.v 50 0) (.v 3 0)) true,.g 50 0 0],.tp [.a (rxL 1 40 (.v 50 0) 0 stK),.l (.t (.b true))],[⟨6,.cells 23 [.n .u32 (.v 2 0)]⟩,⟨10,.cells 37 ((rxL 1 40 (.v 50 0) 0 stK))⟩,⟨87,.cells 39 ((rxL 0 9 (.v 50 0) 0 Qb))⟩]⟩,⟨[.c (.c .lss (.v 50 0) (.v 3 0)) false,.g 50 0 0],.tp [.a z2,.l z0],[⟨6,.cells 23 [.n .u32 (.v 2 0)]⟩,⟨10,.cells 37 z2⟩]⟩]
def QmD:List Ob:=
 let z0:SX:= .c .geq (.v 3 0) (.i 0)
 let z1:List Cd:= [.c (.c .lss (.v 50 0) (.v 3 0)) true,.g 50 0 0]
 let z2:List Cd:=(.c (.c .eql (.r 0 9 0 (.v 50 0)) (.v 2 0)) false :: .c (.c .geq (.v 50 0) (.i 0)) true :: .c z0 true :: z1)
 [.cl [] z0,.inv [.c z0 true] 0 50 [.n .i64 (.i 0)] [],.cl z1 (.c .geq (.v 50 0) (.i 0)),.cl z1 z0,.inv z2 0 50 [.n .i64 (.o .add .i64 (.v 50 0) (.i 1))] [],.cl z2 (.c .lss (.v 50 0) (.o .add .i64 (.v 50 0) (.i 1))),.cl z2 (.c .lss (.v 50 0) (.v 3 0)),.cl (.c (.c .eql (.r 0 9 0 (.v 50 0)) (.v 2 0)) true :: .c (.c .geq (.v 50 0) (.i 0)) true :: .c z0 true :: z1) (.c .geq (.v 4 0) (.i 0)),.cl (.c (.c .geq (.v 50 0) (.v 4 0)) false :: .c (.c .geq (.v 4 0) (.i 0)) true :: .c (.c .eql (.r 0 9 0 (.v 50 0)) (.v 2 0)) true :: .c (.c .geq (.v 50 0) (.i 0)) true :: .c z0 true :: z1) (.c .lss (.v 50 0) (.v 4 0))]
theorem QjJ:QP Try.prog QjI 1000 4 16 Try.f16 QgU QjK=some (QmC,QmD):=by kernel_rfl
theorem Qkj(b1 b2:Option Addr)(c1 c2:Nat)(i1 i2:Nat→Int)(o1 o2:Nat→Bool)(n m:Nat)(a:Int)(hn:(n:Int) < 2 ^ 63)(w:World)(h1:Xn w b1 n Qb i1 o1)(h2:Xn w b2 m stK i2 o2) :
 Calls Try.prog 16 #[.slice b1 n c1,.slice b2 m c2,.int .u32 a] w (Ret (RS.val (Ys (Kq (Qe i1) n m a) i2) (Yr (Kq (Qe i1) n m a) o2) (.tp [.inr stK,.inl none])) w):=by
 refine ZK (C:= []) (I:= [fun d e=>XU (Qe i1) n a (e.int d 0)]) Qr rfl Try.func16 QjJ (Kh [nmR b1 c1 i1 o1,nmR b2 c2 i2 o2,nmN a,nmN n,nmN m]) w ?_ ?_ _ ?_ ?_
 ·rfl
 ·intro r hr0
  rcases List.mem_cons.1 hr0 with rfl|hr0
  ·exact h1
  ·rw [List.mem_singleton.1 hr0]
   exact h2
 ·refine⟨?_,?_,?_,?_,?_,?_,?_,?_,?_,trivial⟩
  all_goals
   intro e he hc
   have x0:e.nm 0=nmR b1 c1 i1 o1:=he 0 (by decide)
   have x2:e.nm 2=nmN a:=he 2 (by decide)
   have x3:e.nm 3=nmN n:=he 3 (by decide)
   have x4:e.nm 4=nmN m:=he 4 (by decide)
   simp only [QC,Zb,Cd.holds,dv1,dv2,di1,db2,dr1,dr2,dq1,dq2,do1,Z1,Z0,Zx,Zw,Zz,Zy,Zv,Zu,Zt,Zs,Z3,Z2,Xt,Xs,Xp,Xo,Xr,Xq,List.map_cons,List.map_nil,Nat.mul_one,Nat.add_zero,List.getElem?_cons_zero,List.getElem?_cons_succ,Option.some.injEq,exists_eq_left',and_true,and_assoc,Env.int,Env.bool,X8,Nat.reduceLeDiff,Nat.reduceAdd,x0,x2,x3,x4,nmR,nmN,nmI,Jp,Wy]at hc ⊢
   first
    |omega
    |exact Qhx
    |(have hI:XU (Qe i1) n a ((e.nm 50).int 0):=by(have hpq:=hc;(repeat (first|exact hpq|exact hpq.1|replace hpq:=hpq.2));done)
      have g1:=hI.1
      first
       |omega
       |(rw [QnB hn (by(have hpq:=hc;(repeat (first|exact hpq|exact hpq.1|replace hpq:=hpq.2));done)) (by(have hpq:=hc;(repeat (first|exact hpq|exact hpq.1|replace hpq:=hpq.2));done))]
         first|exact QaB hI (by(have hpq:=hc;(repeat (first|exact hpq|exact hpq.1|replace hpq:=hpq.2));done)) hc.1|omega))
    |fail ""
 ·refine⟨?_,?_,?_,trivial⟩
  all_goals
   intro e u he hc hs
   have x0:e.nm 0=nmR b1 c1 i1 o1:=he 0 (by decide)
   have x1:e.nm 1=nmR b2 c2 i2 o2:=he 1 (by decide)
   have x2:e.nm 2=nmN a:=he 2 (by decide)
   have x3:e.nm 3=nmN n:=he 3 (by decide)
   have x4:e.nm 4=nmN m:=he 4 (by decide)
   simp only [QC,Zb,Cd.holds,dv1,dv2,di1,db2,dr1,dr2,dq1,dq2,do1,Z1,Z0,Zx,Zw,Zz,Zy,Zv,Zu,Zt,Zs,Z3,Z2,Xt,Xs,Xp,Xo,Xr,Xq,List.map_cons,List.map_nil,Nat.mul_one,Nat.add_zero,List.getElem?_cons_zero,List.getElem?_cons_succ,Option.some.injEq,exists_eq_left',and_true,and_assoc,Env.int,Env.bool,X8,Nat.reduceLeDiff,Nat.reduceAdd,x0,x2,x3,x4,nmR,nmN,nmI]at hc
   have hI:XU (Qe i1) n a ((e.nm 50).int 0):=by(have hpq:=hc;(repeat (first|exact hpq|exact hpq.1|replace hpq:=hpq.2));done)
  ·have hf:=Wi hI (by(have hpq:=hc;(repeat (first|exact hpq|exact hpq.1|replace hpq:=hpq.2));done)) (by(have hpq:=hc;(repeat (first|exact hpq|exact hpq.1|replace hpq:=hpq.2));done))
   rw [show u=_ from hs,QeR (by rw [←hf];omega)]
   rfl
  ·have hf:=Wi hI (by(have hpq:=hc;(repeat (first|exact hpq|exact hpq.1|replace hpq:=hpq.2));done)) (by(have hpq:=hc;(repeat (first|exact hpq|exact hpq.1|replace hpq:=hpq.2));done))
   obtain⟨t,t1,t2,t3⟩:=QE (I:=Qe i1) (N:=n) (a:=a) (by rw [←hf];exact hI.1)
   rw [KE t1 (by omega),show i2=e.int 1 by rw [show e.int 1=(e.nm 1).int from rfl,x1];rfl,show o2=e.bool 1 by rw [show e.bool 1=(e.nm 1).bool from rfl,x1];rfl]
   rw [show u=_ from hs]
   exact(Qtj (show((SX.v 50 0).den e).1.toNat=t by show((e.nm 50).int 0).toNat=t;omega)).symm
  ·have hf:=QbQ hI (by(have hpq:=hc;(repeat (first|exact hpq|exact hpq.1|replace hpq:=hpq.2));done))
   rw [show u=_ from hs,QeR (by rw [←hf];omega)]
   rfl
def YG:Kon Try.prog:=Kon.fn 16 [.sl Qb,.sl stK,.l (some .u32)] (.tp [.inr stK,.inl none]) false (fun ads=>match ads with| [d1,_,_]=>(J6 d1.val:Int) < 2 ^ 63|_=>False)
 (fun ads=>match ads with| [d1,d2,d3]=>Ys (Kq (Qe d1.int) (J6 d1.val) (J6 d2.val) (Q8 d3)) d2.int|_=>fun _=>0)
 (fun ads=>match ads with| [d1,d2,d3]=>Yr (Kq (Qe d1.int) (J6 d1.val) (J6 d2.val) (Q8 d3)) d2.bool|_=>fun _=>false) ⟨_,Try.func16,by kernel_rfl,by kernel_rfl⟩ (fun h=>by cases h) (fun ads w hf hp=>by
   obtain⟨d1,_,rfl,f1,hf⟩:=Qf hf
   obtain⟨d2,_,rfl,f2,hf⟩:=Qf hf
   obtain⟨d3,_,rfl,f3,hf⟩:=Qf hf
   obtain rfl:=Qn hf
   obtain⟨g1,g2⟩:=Wj f1
   obtain⟨k1,k2⟩:=Wj f2
   show Calls _ _ #[d1.val,d2.val,d3.val] w _
   rw [g1,k1,QH f3]
   exact Qkj _ _ _ _ d1.int d2.int d1.bool d2.bool _ _ _ hp w g2 k2)
end Go.Proofs.Yteplnamfpodmlaa.T2
end
section
namespace Go.Proofs.Yteplnamfpodmlaa.T2
def lIs(l:List Int)(n:Int)(c:Nat→Int):Prop:=n=(l.length:Int)∧∀k x,l[k]?=some x→c k=x
theorem Qn7{c:Nat→Int}:lIs [] 0 c:=⟨rfl,fun k x h=>by simp at h⟩
theorem lIs.push{l:List Int}{n x:Int}{c c':Nat→Int}(h:lIs l n c)(hc:c'=QD c n.toNat [x]):lIs (l ++ [x]) (n+1) c':=by
 obtain⟨h1,h2⟩:=h
 refine⟨by rw [h1,List.length_append];simp,fun k y hk=>?_⟩
 have e:n.toNat=l.length:=by rw [h1];rfl
 rw [hc,e,Jj]
 rw [List.getElem?_append]at hk
 split at hk
 ·rw [if_neg (by omega)]
  exact h2 k y hk
 ·rename_i hlt
  have hk2:=(List.getElem?_eq_some_iff.1 hk).1
  simp only [List.length_cons,List.length_nil]at hk2
  have hk0:k=l.length:=by omega
  subst hk0
  rw [if_pos rfl]
  simpa using hk
def hasA(I:Nat→Ins)(N:Nat)(x:Int):Bool:=(Qv I x N).isSome
def YN(I:Nat→Ins)(N k:Nat):List Int:=if Qv I (I k).addr N=some k then(Q7 (I k)).filter (hasA I N)else []
structure J2(I:Nat→Ins)(N k:Nat)(h a o:Nm):Prop where
 v:Qj (I k)=true
 s:Qv I (I k).addr N=some k
 al:lIs (Q7 (I k)) (h.int 1) a.int
 i0:0≤h.int 0
 i1:h.int 0≤h.int 1
 ol:lIs (((Q7 (I k)).take (h.int 0).toNat).filter (hasA I N)) (h.int 2) o.int
theorem Qej(i:Ins):(Q7 i).length≤2:=by
 unfold Q7
 (repeat' split) <;> simp
section
variable{I:Nat→Ins}{N k:Nat}{h h' a a' o o':Nm}
theorem J2.b1(H:J2 I N k h a o):h.int 1≤2:=by
 have:=H.al.1
 have:=Qej (I k)
 omega
theorem J2.b2(H:J2 I N k h a o):0≤h.int 2∧h.int 2≤h.int 0:=by
 have h1:=H.ol.1
 have h2:(((Q7 (I k)).take (h.int 0).toNat).filter (hasA I N)).length≤(h.int 0).toNat:=Nat.le_trans (List.length_filter_le _ _) (by rw [List.length_take];exact Nat.min_le_left _ _)
 have:=H.i0
 omega
theorem J2.get(H:J2 I N k h a o)(hi:h.int 0 < h.int 1):∃x,(Q7 (I k))[(h.int 0).toNat]?=some x∧a.int (h.int 0).toNat=x:=by
 have h0:=H.i0
 have h1:=H.al.1
 have hl:(h.int 0).toNat < (Q7 (I k)).length:=by omega
 exact⟨_,List.getElem?_eq_getElem hl,H.al.2 _ _ (List.getElem?_eq_getElem hl)⟩
theorem Qf3{l:List Int}{n:Nat}{x:Int}(hx:l[n]?=some x):l.take (n+1)=l.take n ++ [x]:=by
 rw [List.take_add_one,hx]
 rfl
theorem J2.more(H:J2 I N k h a o)(hi:h.int 0 < h.int 1)(hf:0≤Q1 I N (a.int (h.int 0).toNat))(h0:h'.int 0=h.int 0+1)(h1:h'.int 1=h.int 1)(h2:h'.int 2=h.int 2+1)(ha:a'.int=a.int)(ho:o'.int=QD o.int (h.int 2).toNat [a.int (h.int 0).toNat]):J2 I N k h' a' o' where
 v:=H.v
 s:=H.s
 al:=by rw [h1,ha];exact H.al
 i0:=by have:=H.i0;omega
 i1:=by omega
 ol:=by
  obtain⟨x,hx,hx2⟩:=H.get hi
  have:=H.i0
  rw [h0,show(h.int 0+1).toNat=(h.int 0).toNat+1 by omega,Qf3 hx,List.filter_append,h2]
  obtain⟨t,ht, -⟩:=QE hf
  rw [hx2]at ht ho
  have hq:List.filter (hasA I N) [x]= [x]:=by simp [hasA,ht]
  rw [hq]
  exact H.ol.push ho
theorem J2.less(H:J2 I N k h a o)(hi:h.int 0 < h.int 1)(hf:¬0≤Q1 I N (a.int (h.int 0).toNat))(h0:h'.int 0=h.int 0+1)(h1:h'.int 1=h.int 1)(h2:h'.int 2=h.int 2)(ha:a'.int=a.int)(ho:o'.int=o.int):J2 I N k h' a' o' where
 v:=H.v
 s:=H.s
 al:=by rw [h1,ha];exact H.al
 i0:=by have:=H.i0;omega
 i1:=by omega
 ol:=by
  obtain⟨x,hx,hx2⟩:=H.get hi
  have:=H.i0
  rw [h0,show(h.int 0+1).toNat=(h.int 0).toNat+1 by omega,Qf3 hx,List.filter_append,h2,ho]
  rw [hx2]at hf
  have hn:Qv I x N=none:=by
   cases hq:Qv I x N with
   |none=>rfl
   |some t=>exact absurd (by rw [Qdv hq];omega) hf
  have hq:List.filter (hasA I N) [x]= []:=by simp [hasA,hn]
  rw [hq,List.append_nil]
  exact H.ol
theorem J2.fin(H:J2 I N k h a o)(hi:¬h.int 0 < h.int 1):lIs (YN I N k) (h.int 2) o.int:=by
 have:=H.ol
 have h1:=H.al.1
 rw [List.take_of_length_le (by omega)]at this
 unfold YN
 rw [if_pos H.s]
 exact this
theorem J2.start(v:Qj (I k)=true)(s:Qv I (I k).addr N=some k)(al:lIs (Q7 (I k)) (h.int 1) a.int)(h0:h.int 0=0)(h2:h.int 2=0):J2 I N k h a o where
 v:=v
 s:=s
 al:=al
 i0:=by omega
 i1:=by have:=al.1;omega
 ol:=by rw [h0,h2];exact Qn7
end
theorem QnQ{i:Ins}(v:Qj i=true):Q7 i=(if KJ i=true then [i.imm]else []) ++ (if JK i=true then []else [ZY i]):=by unfold Q7;rw [if_pos v]
theorem Qby{i:Ins}:KJ i=true↔i.op=20∨i.op=23:=by unfold KJ;simp
theorem Qvj{c:Nat→Int}{x:Int}(h:c 0=x):lIs [x] 1 c:=⟨rfl,fun k y hk=>by
 match k,hk with
 |0,hk=>cases hk;exact h⟩
theorem Qvw{c:Nat→Int}{x z:Int}(h:c 0=x)(h1:c 1=z):lIs [x,z] 2 c:=⟨rfl,fun k y hk=>by
 match k,hk with
 |0,hk=>cases hk;exact h
 |1,hk=>cases hk;exact h1⟩
theorem QrM{d:AD}{m m':Nm}:KF.kon.post [d] m m'↔(m.int=fun _=>0)∧(m.bool=fun _=>Qj (Q0 d)):=Iff.rfl
theorem QrN{d1 d2:AD}{m m':Nm}:QfR.post [d1,d2] m m'↔(m.int=fun _=>Q1 (Qe d1.int) (J6 d1.val) (Q8 d2))∧m.bool=fun _=>false:=Iff.rfl
theorem QrO{d:AD}{m m':Nm}:Qgf.kon.post [d] m m'↔(m.int=fun _=>0)∧(m.bool=fun _=>JK (Q0 d)):=Iff.rfl
theorem QrP{d:AD}{m m':Nm}:QcU.kon.post [d] m m'↔(m.int=fun _=>ZY (Q0 d))∧(m.bool=fun _=>false):=Iff.rfl
def edC:List (Kon Try.prog):= [KF.kon,QfR,Qgf.kon,QcU.kon]
theorem ed0:edC[0]?=some KF.kon:=rfl
theorem ed1:edC[1]?=some QfR:=rfl
theorem ed2:edC[2]?=some Qgf.kon:=rfl
theorem ed3:edC[3]?=some QcU.kon:=rfl
def QpN:List Sg:= [⟨25,[.a Qb],.b (.l none),true,false⟩,⟨42,[.sl Qb,.l (some .u32)],.b (.l (some .i64)),true,false⟩,⟨43,[.a Qb],.b (.l none),true,false⟩,⟨44,[.a Qb],.b (.l (some .u32)),true,false⟩]
def QjL:List PX:= [.l (.sl 0 (.v 2 0)),.l (.n .i64 (.v 1 0))]
def QmH:List Rw:= [⟨0,Qb,(.v 2 0)⟩]
def QmF:Cfg:=⟨4,QpN,[⟨14,10,0,[.num (.s 8) (some .i64),.row (.s 5) [some .u32],.row (.s 6) [some .u32]],8,.inr (.i 4),false⟩],[],[]⟩
def QpL:List Lf:=
 [⟨[.c (.an (.v 44 0) (.no (.c .neq (.v 68 0) (.v 1 0)))) false,.f 68 1 [(.l (.sl 0 (.v 2 0)),0),(.l (.n .u32 (.r 0 9 0 (.v 1 0))),0)],.f 44 0 [(.a (rxL 0 9 (.v 1 0) 0 Qb),0)],.c (.c .geq (.v 1 0) (.i 0)) true,.c (.c .lss (.v 1 0) (.v 2 0)) true,.c (.c .geq (.v 2 0) (.i 0)) true],.v (.l (.ns)),[⟨32,.cells 39 ((rxL 0 9 (.v 1 0) 0 Qb))⟩]⟩,⟨[.c (.c .lss (.v 180 0) (.v 180 1)) false,.c (.c .geq (.v 180 1) (.i 0)) true,.g 180 2 0],.v (.l (.sl 182 (.v 180 2))),[⟨32,.cells 39 ((rxL 0 9 (.v 1 0) 0 Qb))⟩,⟨128,.cells 23 [.n .u32 (.r 0 9 1 (.v 1 0))]⟩,⟨164,.cells 23 [.n .u32 (.v 160 0)]⟩,⟨181,.row [some .u32] (.v 180 1) 181⟩,⟨182,.row [some .u32] (.v 180 2) 182⟩]⟩,⟨[.c (.c .lss (.v 156 0) (.v 156 1)) false,.c (.c .geq (.v 156 1) (.i 0)) true,.g 156 2 0],.v (.l (.sl 158 (.v 156 2))),[⟨32,.cells 39 ((rxL 0 9 (.v 1 0) 0 Qb))⟩,⟨128,.cells 23 [.n .u32 (.r 0 9 1 (.v 1 0))]⟩,⟨157,.row [some .u32] (.v 156 1) 157⟩,⟨158,.row [some .u32] (.v 156 2) 158⟩]⟩,⟨[.c (.c .lss (.v 156 0) (.v 156 1)) false,.c (.c .geq (.v 156 1) (.i 0)) true,.g 156 2 0],.v (.l (.sl 158 (.v 156 2))),[⟨32,.cells 39 ((rxL 0 9 (.v 1 0) 0 Qb))⟩,⟨140,.cells 23 [.n .u32 (.v 136 0)]⟩,⟨157,.row [some .u32] (.v 156 1) 157⟩,⟨158,.row [some .u32] (.v 156 2) 158⟩]⟩,⟨[.c (.c .lss (.v 132 0) (.v 132 1)) false,.c (.c .geq (.v 132 1) (.i 0)) true,.g 132 2 0],.v (.l (.sl 134 (.v 132 2))),[⟨32,.cells 39 ((rxL 0 9 (.v 1 0) 0 Qb))⟩,⟨133,.row [some .u32] (.v 132 1) 133⟩,⟨134,.row [some .u32] (.v 132 2) 134⟩]⟩]
def QpM:List Ob:=
 let z0:PX:= .a (rxL 0 9 (.v 1 0) 0 Qb)
 let z1:PX:= .l (.sl 0 (.v 2 0))
 let z2:LX:= .n .i64 (.i 0)
 let z3:List Cd:= [.c (.c .geq (.v 219 0) (.i 0)) true,.f 219 1 [(z1,0),(.l (.n .u32 (.r 181 1 0 (.v 180 0))),0)],.c (.c .geq (.v 180 0) (.i 0)) true,.c (.c .lss (.v 180 0) (.v 180 1)) true,.c (.c .geq (.v 180 1) (.i 0)) true,.g 180 2 0]
 let z4:List Cd:=(.u 251 (some 182) (.v 180 2) 1 0 [.n .u32 (.r 181 1 0 (.v 180 0))] :: .c (.c .geq (.v 180 2) (.i 0)) true :: .c (.c .leq (.v 180 2) (.i 1000000)) true :: z3)
 let z5:List Cd:= [.c (.c .geq (.v 219 0) (.i 0)) false,.f 219 1 [(z1,0),(.l (.n .u32 (.r 181 1 0 (.v 180 0))),0)],.c (.c .geq (.v 180 0) (.i 0)) true,.c (.c .lss (.v 180 0) (.v 180 1)) true,.c (.c .geq (.v 180 1) (.i 0)) true,.g 180 2 0]
 let z6:List Cd:= [.c (.c .geq (.v 195 0) (.i 0)) true,.f 195 1 [(z1,0),(.l (.n .u32 (.r 157 1 0 (.v 156 0))),0)],.c (.c .geq (.v 156 0) (.i 0)) true,.c (.c .lss (.v 156 0) (.v 156 1)) true,.c (.c .geq (.v 156 1) (.i 0)) true,.g 156 2 0]
 let z7:List Cd:=(.u 227 (some 158) (.v 156 2) 1 0 [.n .u32 (.r 157 1 0 (.v 156 0))] :: .c (.c .geq (.v 156 2) (.i 0)) true :: .c (.c .leq (.v 156 2) (.i 1000000)) true :: z6)
 let z8:List Cd:= [.c (.c .geq (.v 195 0) (.i 0)) false,.f 195 1 [(z1,0),(.l (.n .u32 (.r 157 1 0 (.v 156 0))),0)],.c (.c .geq (.v 156 0) (.i 0)) true,.c (.c .lss (.v 156 0) (.v 156 1)) true,.c (.c .geq (.v 156 1) (.i 0)) true,.g 156 2 0]
 let z9:List Cd:= [.c (.c .geq (.v 171 0) (.i 0)) true,.f 171 1 [(z1,0),(.l (.n .u32 (.r 133 1 0 (.v 132 0))),0)],.c (.c .geq (.v 132 0) (.i 0)) true,.c (.c .lss (.v 132 0) (.v 132 1)) true,.c (.c .geq (.v 132 1) (.i 0)) true,.g 132 2 0]
 let z10:List Cd:=(.u 203 (some 134) (.v 132 2) 1 0 [.n .u32 (.r 133 1 0 (.v 132 0))] :: .c (.c .geq (.v 132 2) (.i 0)) true :: .c (.c .leq (.v 132 2) (.i 1000000)) true :: z9)
 let z11:List Cd:= [.c (.c .geq (.v 171 0) (.i 0)) false,.f 171 1 [(z1,0),(.l (.n .u32 (.r 133 1 0 (.v 132 0))),0)],.c (.c .geq (.v 132 0) (.i 0)) true,.c (.c .lss (.v 132 0) (.v 132 1)) true,.c (.c .geq (.v 132 1) (.i 0)) true,.g 132 2 0]
 [.cl [] (.c .geq (.v 1 0) (.i 0)),.cl [] (.c .lss (.v 1 0) (.v 2 0)),.cl [] (.c .geq (.v 2 0) (.i 0)),.pre [.c (.c .geq (.v 1 0) (.i 0)) true,.c (.c .lss (.v 1 0) (.v 2 0)) true,.c (.c .geq (.v 2 0) (.i 0)) true] 0 [(z0,0)],.pre [.c (.v 44 0) true,.f 44 0 [(z0,0)],.c (.c .geq (.v 1 0) (.i 0)) true,.c (.c .lss (.v 1 0) (.v 2 0)) true,.c (.c .geq (.v 2 0) (.i 0)) true] 1 [(z1,0),(.l (.n .u32 (.r 0 9 0 (.v 1 0))),0)],.pre [.u 132 none (.i 0) 1 0 [.n .u32 (.r 0 9 1 (.v 1 0))],.c (.an (.no (.c .eql (.r 0 9 2 (.v 1 0)) (.i 20))) (.no (.c .eql (.r 0 9 2 (.v 1 0)) (.i 23)))) false,.c (.v 44 0) true,.c (.c .neq (.v 68 0) (.v 1 0)) false,.f 68 1 [(z1,0),(.l (.n .u32 (.r 0 9 0 (.v 1 0))),0)],.f 44 0 [(z0,0)],.c (.c .geq (.v 1 0) (.i 0)) true,.c (.c .lss (.v 1 0) (.v 2 0)) true,.c (.c .geq (.v 2 0) (.i 0)) true] 2 [(z0,0)],.pre [.c (.v 144 0) false,.f 144 2 [(z0,0)],.u 132 none (.i 0) 1 0 [.n .u32 (.r 0 9 1 (.v 1 0))],.c (.an (.no (.c .eql (.r 0 9 2 (.v 1 0)) (.i 20))) (.no (.c .eql (.r 0 9 2 (.v 1 0)) (.i 23)))) false,.c (.v 44 0) true,.c (.c .neq (.v 68 0) (.v 1 0)) false,.f 68 1 [(z1,0),(.l (.n .u32 (.r 0 9 0 (.v 1 0))),0)],.f 44 0 [(z0,0)],.c (.c .geq (.v 1 0) (.i 0)) true,.c (.c .lss (.v 1 0) (.v 2 0)) true,.c (.c .geq (.v 2 0) (.i 0)) true] 3 [(z0,0)],.inv [.u 168 (some 132) (.i 1) 1 0 [.n .u32 (.v 160 0)],.f 160 3 [(z0,0)],.c (.v 144 0) false,.f 144 2 [(z0,0)],.u 132 none (.i 0) 1 0 [.n .u32 (.r 0 9 1 (.v 1 0))],.c (.an (.no (.c .eql (.r 0 9 2 (.v 1 0)) (.i 20))) (.no (.c .eql (.r 0 9 2 (.v 1 0)) (.i 23)))) false,.c (.v 44 0) true,.c (.c .neq (.v 68 0) (.v 1 0)) false,.f 68 1 [(z1,0),(.l (.n .u32 (.r 0 9 0 (.v 1 0))),0)],.f 44 0 [(z0,0)],.c (.c .geq (.v 1 0) (.i 0)) true,.c (.c .lss (.v 1 0) (.v 2 0)) true,.c (.c .geq (.v 2 0) (.i 0)) true] 0 180 [z2,.n .i64 (.i 2),z2] [some (168,168),none],.cl [.g 180 2 0] (.c .geq (.v 180 1) (.i 0)),.cl [.c (.c .lss (.v 180 0) (.v 180 1)) true,.c (.c .geq (.v 180 1) (.i 0)) true,.g 180 2 0] (.c .geq (.v 180 0) (.i 0)),.pre [.c (.c .geq (.v 180 0) (.i 0)) true,.c (.c .lss (.v 180 0) (.v 180 1)) true,.c (.c .geq (.v 180 1) (.i 0)) true,.g 180 2 0] 1 [(z1,0),(.l (.n .u32 (.r 181 1 0 (.v 180 0))),0)],.cl z3 (.c .geq (.v 180 2) (.i 0)),.cl z3 (.c .leq (.v 180 2) (.i 1000000)),.inv z4 0 180 [.n .i64 (.o .add .i64 (.v 180 0) (.i 1)),.n .i64 (.v 180 1),.n .i64 (.o .add .i64 (.v 180 2) (.i 1))] [some (181,181),some (251,251)],.cl z4 (.c .lss (.v 180 0) (.o .add .i64 (.v 180 0) (.i 1))),.cl z4 (.c .lss (.v 180 0) (.i 4)),.inv z5 0 180 [.n .i64 (.o .add .i64 (.v 180 0) (.i 1)),.n .i64 (.v 180 1),.n .i64 (.v 180 2)] [some (181,181),some (182,182)],.cl z5 (.c .lss (.v 180 0) (.o .add .i64 (.v 180 0) (.i 1))),.cl z5 (.c .lss (.v 180 0) (.i 4)),.inv [.c (.v 144 0) true,.f 144 2 [(z0,0)],.u 132 none (.i 0) 1 0 [.n .u32 (.r 0 9 1 (.v 1 0))],.c (.an (.no (.c .eql (.r 0 9 2 (.v 1 0)) (.i 20))) (.no (.c .eql (.r 0 9 2 (.v 1 0)) (.i 23)))) false,.c (.v 44 0) true,.c (.c .neq (.v 68 0) (.v 1 0)) false,.f 68 1 [(z1,0),(.l (.n .u32 (.r 0 9 0 (.v 1 0))),0)],.f 44 0 [(z0,0)],.c (.c .geq (.v 1 0) (.i 0)) true,.c (.c .lss (.v 1 0) (.v 2 0)) true,.c (.c .geq (.v 2 0) (.i 0)) true] 0 156 [z2,.n .i64 (.i 1),z2] [some (132,132),none],.pre [.c (.c .eql (.r 0 9 2 (.v 1 0)) (.i 20)) false,.c (.c .eql (.r 0 9 2 (.v 1 0)) (.i 23)) false,.c (.v 44 0) true,.c (.c .neq (.v 68 0) (.v 1 0)) false,.f 68 1 [(z1,0),(.l (.n .u32 (.r 0 9 0 (.v 1 0))),0)],.f 44 0 [(z0,0)],.c (.c .geq (.v 1 0) (.i 0)) true,.c (.c .lss (.v 1 0) (.v 2 0)) true,.c (.c .geq (.v 2 0) (.i 0)) true] 2 [(z0,0)],.pre [.c (.v 120 0) false,.f 120 2 [(z0,0)],.c (.c .eql (.r 0 9 2 (.v 1 0)) (.i 20)) false,.c (.c .eql (.r 0 9 2 (.v 1 0)) (.i 23)) false,.c (.v 44 0) true,.c (.c .neq (.v 68 0) (.v 1 0)) false,.f 68 1 [(z1,0),(.l (.n .u32 (.r 0 9 0 (.v 1 0))),0)],.f 44 0 [(z0,0)],.c (.c .geq (.v 1 0) (.i 0)) true,.c (.c .lss (.v 1 0) (.v 2 0)) true,.c (.c .geq (.v 2 0) (.i 0)) true] 3 [(z0,0)],.inv [.u 144 none (.i 0) 1 0 [.n .u32 (.v 136 0)],.f 136 3 [(z0,0)],.c (.v 120 0) false,.f 120 2 [(z0,0)],.c (.c .eql (.r 0 9 2 (.v 1 0)) (.i 20)) false,.c (.c .eql (.r 0 9 2 (.v 1 0)) (.i 23)) false,.c (.v 44 0) true,.c (.c .neq (.v 68 0) (.v 1 0)) false,.f 68 1 [(z1,0),(.l (.n .u32 (.r 0 9 0 (.v 1 0))),0)],.f 44 0 [(z0,0)],.c (.c .geq (.v 1 0) (.i 0)) true,.c (.c .lss (.v 1 0) (.v 2 0)) true,.c (.c .geq (.v 2 0) (.i 0)) true] 0 156 [z2,.n .i64 (.i 1),z2] [some (144,144),none],.cl [.g 156 2 0] (.c .geq (.v 156 1) (.i 0)),.cl [.c (.c .lss (.v 156 0) (.v 156 1)) true,.c (.c .geq (.v 156 1) (.i 0)) true,.g 156 2 0] (.c .geq (.v 156 0) (.i 0)),.pre [.c (.c .geq (.v 156 0) (.i 0)) true,.c (.c .lss (.v 156 0) (.v 156 1)) true,.c (.c .geq (.v 156 1) (.i 0)) true,.g 156 2 0] 1 [(z1,0),(.l (.n .u32 (.r 157 1 0 (.v 156 0))),0)],.cl z6 (.c .geq (.v 156 2) (.i 0)),.cl z6 (.c .leq (.v 156 2) (.i 1000000)),.inv z7 0 156 [.n .i64 (.o .add .i64 (.v 156 0) (.i 1)),.n .i64 (.v 156 1),.n .i64 (.o .add .i64 (.v 156 2) (.i 1))] [some (157,157),some (227,227)],.cl z7 (.c .lss (.v 156 0) (.o .add .i64 (.v 156 0) (.i 1))),.cl z7 (.c .lss (.v 156 0) (.i 4)),.inv z8 0 156 [.n .i64 (.o .add .i64 (.v 156 0) (.i 1)),.n .i64 (.v 156 1),.n .i64 (.v 156 2)] [some (157,157),some (158,158)],.cl z8 (.c .lss (.v 156 0) (.o .add .i64 (.v 156 0) (.i 1))),.cl z8 (.c .lss (.v 156 0) (.i 4)),.inv [.c (.v 120 0) true,.f 120 2 [(z0,0)],.c (.c .eql (.r 0 9 2 (.v 1 0)) (.i 20)) false,.c (.c .eql (.r 0 9 2 (.v 1 0)) (.i 23)) false,.c (.v 44 0) true,.c (.c .neq (.v 68 0) (.v 1 0)) false,.f 68 1 [(z1,0),(.l (.n .u32 (.r 0 9 0 (.v 1 0))),0)],.f 44 0 [(z0,0)],.c (.c .geq (.v 1 0) (.i 0)) true,.c (.c .lss (.v 1 0) (.v 2 0)) true,.c (.c .geq (.v 2 0) (.i 0)) true] 0 132 [z2,z2,z2] [none,none],.cl [.g 132 2 0] (.c .geq (.v 132 1) (.i 0)),.cl [.c (.c .lss (.v 132 0) (.v 132 1)) true,.c (.c .geq (.v 132 1) (.i 0)) true,.g 132 2 0] (.c .geq (.v 132 0) (.i 0)),.pre [.c (.c .geq (.v 132 0) (.i 0)) true,.c (.c .lss (.v 132 0) (.v 132 1)) true,.c (.c .geq (.v 132 1) (.i 0)) true,.g 132 2 0] 1 [(z1,0),(.l (.n .u32 (.r 133 1 0 (.v 132 0))),0)],.cl z9 (.c .geq (.v 132 2) (.i 0)),.cl z9 (.c .leq (.v 132 2) (.i 1000000)),.inv z10 0 132 [.n .i64 (.o .add .i64 (.v 132 0) (.i 1)),.n .i64 (.v 132 1),.n .i64 (.o .add .i64 (.v 132 2) (.i 1))] [some (133,133),some (203,203)],.cl z10 (.c .lss (.v 132 0) (.o .add .i64 (.v 132 0) (.i 1))),.cl z10 (.c .lss (.v 132 0) (.i 4)),.inv z11 0 132 [.n .i64 (.o .add .i64 (.v 132 0) (.i 1)),.n .i64 (.v 132 1),.n .i64 (.v 132 2)] [some (133,133),some (134,134)],.cl z11 (.c .lss (.v 132 0) (.o .add .i64 (.v 132 0) (.i 1))),.cl z11 (.c .lss (.v 132 0) (.i 4))]
theorem QmG:QP Try.prog QmF 1000 4 14 Try.f14 QjL QmH=some (QpL,QpM):=by kernel_rfl
set_option maxHeartbeats 4000000 in
theorem QkV(base:Option Addr)(cap:Nat)(int:Nat→Int)(bool:Nat→Bool)(n k:Nat)(hk:k < n)(hn:(n:Int) < 2 ^ 63)(w:World)(hr:Xn w base n Qb int bool) :
 Calls Try.prog 14 #[.slice base n cap,.int .i64 k] w fun en w'=>∃m m',en= .returned ((RZ.s [some .u32]).val m m')∧Below w.heap.size w w'∧JE (YN (Qe int) n k) m m'∧(RZ.s [some .u32]).mem w.heap.size w' m m':=by
 refine Qcf (C:=edC) (I:= [fun d e=>J2 (Qe int) n k (e.nm d) (e.nm (d+1)) (e.nm (d+2))]) Qr rfl Try.func14 QmG (Kh [nmR base cap int bool,nmN k,nmN n]) w rfl ?_ (.s [some .u32]) _ ?_ ?_
 ·intro r hr0
  rw [List.mem_singleton.1 hr0]
  exact hr
 ·refine⟨?_,?_,?_,?_,?_,?_,?_,?_,?_,?_,?_,?_,?_,?_,?_,?_,?_,?_,?_,?_,?_,?_,?_,?_,?_,?_,?_,?_,?_,?_,?_,?_,?_,?_,?_,?_,?_,?_,?_,?_,?_,?_,?_,?_,?_,?_,trivial⟩
  all_goals
   intro e he hc
   have h0:e.nm 0=nmR base cap int bool:=he 0 (by decide)
   have h1:e.nm 1=nmN k:=he 1 (by decide)
   have h2:e.nm 2=nmN n:=he 2 (by decide)
   have hD:Q0 (PX.dat e 0 (.a (rxL 0 9 (.v 1 0) 0 Qb)))=Qe int k:=by
    rw [Xb]
    show Qe (e.nm 0).int ((e.nm 1).int 0).toNat=_
    rw [h0,h1]
    rfl
   simp only [QC,Zb,Cd.holds,dv1,dv2,di1,db2,dr1,dr2,dq1,dq2,do1,Z1,Z0,Zx,Zw,Zz,Zy,Zv,Zu,Zt,Zs,Z3,Z2,Xt,Xs,Xp,Xo,Xr,Xq,List.map_cons,List.map_nil,Nat.mul_one,Nat.add_zero,List.getElem?_cons_zero,List.getElem?_cons_succ,Option.some.injEq,exists_eq_left',and_true,and_assoc,Env.int,Env.bool,X8,Nat.reduceLeDiff,Nat.reduceAdd,ed0,ed1,ed2,ed3,QrM,QrN,QrO,QrP,Ji,hD,h0,h1,h2,nmR,nmN,nmI]at hc
   first
    |exact True.intro
    |(show(((e.nm 2).int 0).toNat:Int) < 2 ^ 63;rw [h2];show((n:Int).toNat:Int) < 2 ^ 63;omega)
    |(simp only [QC,Zb,Cd.holds,dv1,dv2,di1,db2,dr1,dr2,dq1,dq2,do1,Z1,Z0,Zx,Zw,Zz,Zy,Zv,Zu,Zt,Zs,Z3,Z2,Xt,Xs,Xp,Xo,Xr,Xq,List.map_cons,List.map_nil,Nat.mul_one,Nat.add_zero,List.getElem?_cons_zero,List.getElem?_cons_succ,Option.some.injEq,exists_eq_left',and_true,and_assoc,Env.int,Env.bool,X8,Nat.reduceLeDiff,Nat.reduceAdd,h0,h1,h2,nmR,nmN,nmI];first
       |omega
       |(first
          |(have H:J2 (Qe int) n k (e.nm 180) (e.nm 181) (e.nm 182):=by(have hpq:=hc;(repeat (first|exact hpq|exact hpq.1|replace hpq:=hpq.2));done)
            have b0:=H.i0;have b1:=H.b1;have b2:=H.b2;have b3:=H.i1
            first|omega|(rw [Qx (by omega) (by omega)];omega))
          |(have H:J2 (Qe int) n k (e.nm 156) (e.nm 157) (e.nm 158):=by(have hpq:=hc;(repeat (first|exact hpq|exact hpq.1|replace hpq:=hpq.2));done)
            have b0:=H.i0;have b1:=H.b1;have b2:=H.b2;have b3:=H.i1
            first|omega|(rw [Qx (by omega) (by omega)];omega))
          |(have H:J2 (Qe int) n k (e.nm 132) (e.nm 133) (e.nm 134):=by(have hpq:=hc;(repeat (first|exact hpq|exact hpq.1|replace hpq:=hpq.2));done)
            have b0:=H.i0;have b1:=H.b1;have b2:=H.b2;have b3:=H.i1
            first|omega|(rw [Qx (by omega) (by omega)];omega))
          |fail ""))
    |skip
  all_goals
   try (have c44:(e.nm 44).bool 0=true:=by(have hpq:=hc;(repeat (first|exact hpq|exact hpq.1|replace hpq:=hpq.2));done)
        have f44:(e.nm 44).bool=fun _=>Qj (Qe int k):=by(have hpq:=hc;(repeat (first|exact hpq|exact hpq.1|replace hpq:=hpq.2));done)
        have hv:Qj (Qe int k)=true:=by rw [←congrFun f44 0];exact c44
        have c68:(e.nm 68).int 0=(k:Int):=by(have hpq:=hc;(repeat (first|exact hpq|exact hpq.1|replace hpq:=hpq.2));done)
        have f68:(e.nm 68).int=fun _=>Q1 (Qe (e.nm 0).int) ((e.nm 2).int 0).toNat ((e.nm 0).int (((e.nm 1).int 0).toNat * 9+0)):=by(have hpq:=hc;(repeat (first|exact hpq|exact hpq.1|replace hpq:=hpq.2));done)
        have s68:(e.nm 68).int 0=Q1 (Qe int) n (Qe int k).addr:=by rw [f68,h0,h1,h2];rfl
        obtain⟨t,t1,t2,t3⟩:=QE (I:=Qe int) (N:=n) (a:=(Qe int k).addr) (by rw [←s68,c68];omega)
        have hs:Qv (Qe int) (Qe int k).addr n=some k:=by rw [t1];congr 1;omega)
  ·have T:Q7 (Qe int k)= [(Qe int k).imm,ZY (Qe int k)]:=by
    have c1:¬(¬int ((k:Int).toNat * 9+2)=20∧¬int ((k:Int).toNat * 9+2)=23):=by(have hpq:=hc;(repeat (first|exact hpq|exact hpq.1|replace hpq:=hpq.2));done)
    have f2:(e.nm 144).bool=fun _=>JK (Qe int k):=by(have hpq:=hc;(repeat (first|exact hpq|exact hpq.1|replace hpq:=hpq.2));done)
    have c2:(e.nm 144).bool 0=false:=by(have hpq:=hc;(repeat (first|exact hpq|exact hpq.1|replace hpq:=hpq.2));done)
    have c3:JK (Qe int k)=false:=by rw [←congrFun f2 0];exact c2
    rw [QnQ hv,if_pos (Qby.2 (by show int (k * 9+2)=20∨int (k * 9+2)=23;rw [Int.toNat_natCast]at c1;omega)),c3]
    rfl
   refine J2.start hv hs ?_ rfl rfl
   rw [T]
   have u1:(e.nm 168).int=QD (e.nm 132).int (Int.toNat 1) [QW e (LX.n IntKind.u32 (SX.v 160 0))]:=by(have hpq:=hc;(repeat (first|exact hpq|exact hpq.1|replace hpq:=hpq.2));done)
   have u2:(e.nm 132).int=QD (fun _=>0) (Int.toNat 0) [QW e (LX.n IntKind.u32 (SX.r 0 9 1 (SX.v 1 0)))]:=by(have hpq:=hc;(repeat (first|exact hpq|exact hpq.1|replace hpq:=hpq.2));done)
   have f3:(e.nm 160).int=fun _=>ZY (Qe int k):=by(have hpq:=hc;(repeat (first|exact hpq|exact hpq.1|replace hpq:=hpq.2));done)
   refine Qvw (c:=(e.nm 168).int) ?_ ?_
   ·rw [u1,Jj,if_neg (by decide),u2,Jj,if_pos (by decide)]
    show(e.nm 0).int (((e.nm 1).int 0).toNat * 9+1)=_
    rw [h0,h1]
    rfl
   ·rw [u1,Jj,if_pos (by decide)]
    show(e.nm 160).int 0=_
    rw [f3]
  ·have H:J2 (Qe int) n k (e.nm 180) (e.nm 181) (e.nm 182):=by(have hpq:=hc;(repeat (first|exact hpq|exact hpq.1|replace hpq:=hpq.2));done)
   have hlt:(e.nm 180).int 0 < (e.nm 180).int 1:=by(have hpq:=hc;(repeat (first|exact hpq|exact hpq.1|replace hpq:=hpq.2));done)
   have b0:=H.i0;have b1:=H.b1;have b2:=H.b2
   have f1:(e.nm 219).int=fun _=>Q1 (Qe (e.nm 0).int) ((e.nm 2).int 0).toNat ((e.nm 181).int (((e.nm 180).int 0).toNat * 1+0)):=by(have hpq:=hc;(repeat (first|exact hpq|exact hpq.1|replace hpq:=hpq.2));done)
   have hf:(e.nm 219).int 0=Q1 (Qe int) n ((e.nm 181).int ((e.nm 180).int 0).toNat):=by rw [f1,h0,h2,Nat.mul_one,Nat.add_zero];rfl
   have c1:0≤(e.nm 219).int 0:=by(have hpq:=hc;(repeat (first|exact hpq|exact hpq.1|replace hpq:=hpq.2));done)
   have u1:(e.nm 251).int=QD (e.nm 182).int ((e.nm 180).int 2).toNat [QW e (LX.n IntKind.u32 (SX.r 181 1 0 (SX.v 180 0)))]:=by(have hpq:=hc;(repeat (first|exact hpq|exact hpq.1|replace hpq:=hpq.2));done)
   have hl:QW e (LX.n IntKind.u32 (SX.r 181 1 0 (SX.v 180 0)))=(e.nm 181).int ((e.nm 180).int 0).toNat:=by
    show(e.nm 181).int (((e.nm 180).int 0).toNat * 1+0)=_
    rw [Nat.mul_one,Nat.add_zero]
   rw [hl]at u1
   have s0:IntKind.i64.wrap ((e.nm 180).int 0+1)=(e.nm 180).int 0+1:=Qx b0 (by omega)
   have s2:IntKind.i64.wrap ((e.nm 180).int 2+1)=(e.nm 180).int 2+1:=Qx b2.1 (by omega)
   exact H.more hlt (by rw [←hf];exact c1) s0 rfl s2 rfl u1
  ·have H:J2 (Qe int) n k (e.nm 180) (e.nm 181) (e.nm 182):=by(have hpq:=hc;(repeat (first|exact hpq|exact hpq.1|replace hpq:=hpq.2));done)
   have hlt:(e.nm 180).int 0 < (e.nm 180).int 1:=by(have hpq:=hc;(repeat (first|exact hpq|exact hpq.1|replace hpq:=hpq.2));done)
   have b0:=H.i0;have b1:=H.b1;have b2:=H.b2
   have f1:(e.nm 219).int=fun _=>Q1 (Qe (e.nm 0).int) ((e.nm 2).int 0).toNat ((e.nm 181).int (((e.nm 180).int 0).toNat * 1+0)):=by(have hpq:=hc;(repeat (first|exact hpq|exact hpq.1|replace hpq:=hpq.2));done)
   have hf:(e.nm 219).int 0=Q1 (Qe int) n ((e.nm 181).int ((e.nm 180).int 0).toNat):=by rw [f1,h0,h2,Nat.mul_one,Nat.add_zero];rfl
   have c1:¬0≤(e.nm 219).int 0:=by(have hpq:=hc;(repeat (first|exact hpq|exact hpq.1|replace hpq:=hpq.2));done)
   have s0:IntKind.i64.wrap ((e.nm 180).int 0+1)=(e.nm 180).int 0+1:=Qx b0 (by omega)
   exact H.less hlt (by rw [←hf];exact c1) s0 rfl rfl rfl rfl
  ·have T:Q7 (Qe int k)= [(Qe int k).imm]:=by
    have c1:¬(¬int ((k:Int).toNat * 9+2)=20∧¬int ((k:Int).toNat * 9+2)=23):=by(have hpq:=hc;(repeat (first|exact hpq|exact hpq.1|replace hpq:=hpq.2));done)
    have f2:(e.nm 144).bool=fun _=>JK (Qe int k):=by(have hpq:=hc;(repeat (first|exact hpq|exact hpq.1|replace hpq:=hpq.2));done)
    have c2:(e.nm 144).bool 0=true:=by(have hpq:=hc;(repeat (first|exact hpq|exact hpq.1|replace hpq:=hpq.2));done)
    have c3:JK (Qe int k)=true:=by rw [←congrFun f2 0];exact c2
    rw [QnQ hv,if_pos (Qby.2 (by show int (k * 9+2)=20∨int (k * 9+2)=23;rw [Int.toNat_natCast]at c1;omega)),c3]
    rfl
   refine J2.start hv hs ?_ rfl rfl
   rw [T]
   have u2:(e.nm 132).int=QD (fun _=>0) (Int.toNat 0) [QW e (LX.n IntKind.u32 (SX.r 0 9 1 (SX.v 1 0)))]:=by(have hpq:=hc;(repeat (first|exact hpq|exact hpq.1|replace hpq:=hpq.2));done)
   refine Qvj (c:=(e.nm 132).int) ?_
   rw [u2,Jj,if_pos (by decide)]
   show(e.nm 0).int (((e.nm 1).int 0).toNat * 9+1)=_
   rw [h0,h1]
   rfl
  ·have T:Q7 (Qe int k)= [ZY (Qe int k)]:=by
    have c1:¬int ((k:Int).toNat * 9+2)=20:=by(have hpq:=hc;(repeat (first|exact hpq|exact hpq.1|replace hpq:=hpq.2));done)
    have c1':¬int ((k:Int).toNat * 9+2)=23:=by(have hpq:=hc;(repeat (first|exact hpq|exact hpq.1|replace hpq:=hpq.2));done)
    have f2:(e.nm 120).bool=fun _=>JK (Qe int k):=by(have hpq:=hc;(repeat (first|exact hpq|exact hpq.1|replace hpq:=hpq.2));done)
    have c2:(e.nm 120).bool 0=false:=by(have hpq:=hc;(repeat (first|exact hpq|exact hpq.1|replace hpq:=hpq.2));done)
    have c3:JK (Qe int k)=false:=by rw [←congrFun f2 0];exact c2
    rw [QnQ hv,if_neg (fun h=>(Qby.1 h).elim c1 c1'),c3]
    rfl
   refine J2.start hv hs ?_ rfl rfl
   rw [T]
   have u1:(e.nm 144).int=QD (fun _=>0) (Int.toNat 0) [QW e (LX.n IntKind.u32 (SX.v 136 0))]:=by(have hpq:=hc;(repeat (first|exact hpq|exact hpq.1|replace hpq:=hpq.2));done)
   have f3:(e.nm 136).int=fun _=>ZY (Qe int k):=by(have hpq:=hc;(repeat (first|exact hpq|exact hpq.1|replace hpq:=hpq.2));done)
   refine Qvj (c:=(e.nm 144).int) ?_
   rw [u1,Jj,if_pos (by decide)]
   show(e.nm 136).int 0=_
   rw [f3]
  ·have H:J2 (Qe int) n k (e.nm 156) (e.nm 157) (e.nm 158):=by(have hpq:=hc;(repeat (first|exact hpq|exact hpq.1|replace hpq:=hpq.2));done)
   have hlt:(e.nm 156).int 0 < (e.nm 156).int 1:=by(have hpq:=hc;(repeat (first|exact hpq|exact hpq.1|replace hpq:=hpq.2));done)
   have b0:=H.i0;have b1:=H.b1;have b2:=H.b2
   have f1:(e.nm 195).int=fun _=>Q1 (Qe (e.nm 0).int) ((e.nm 2).int 0).toNat ((e.nm 157).int (((e.nm 156).int 0).toNat * 1+0)):=by(have hpq:=hc;(repeat (first|exact hpq|exact hpq.1|replace hpq:=hpq.2));done)
   have hf:(e.nm 195).int 0=Q1 (Qe int) n ((e.nm 157).int ((e.nm 156).int 0).toNat):=by rw [f1,h0,h2,Nat.mul_one,Nat.add_zero];rfl
   have c1:0≤(e.nm 195).int 0:=by(have hpq:=hc;(repeat (first|exact hpq|exact hpq.1|replace hpq:=hpq.2));done)
   have u1:(e.nm 227).int=QD (e.nm 158).int ((e.nm 156).int 2).toNat [QW e (LX.n IntKind.u32 (SX.r 157 1 0 (SX.v 156 0)))]:=by(have hpq:=hc;(repeat (first|exact hpq|exact hpq.1|replace hpq:=hpq.2));done)
   have hl:QW e (LX.n IntKind.u32 (SX.r 157 1 0 (SX.v 156 0)))=(e.nm 157).int ((e.nm 156).int 0).toNat:=by
    show(e.nm 157).int (((e.nm 156).int 0).toNat * 1+0)=_
    rw [Nat.mul_one,Nat.add_zero]
   rw [hl]at u1
   have s0:IntKind.i64.wrap ((e.nm 156).int 0+1)=(e.nm 156).int 0+1:=Qx b0 (by omega)
   have s2:IntKind.i64.wrap ((e.nm 156).int 2+1)=(e.nm 156).int 2+1:=Qx b2.1 (by omega)
   exact H.more hlt (by rw [←hf];exact c1) s0 rfl s2 rfl u1
  ·have H:J2 (Qe int) n k (e.nm 156) (e.nm 157) (e.nm 158):=by(have hpq:=hc;(repeat (first|exact hpq|exact hpq.1|replace hpq:=hpq.2));done)
   have hlt:(e.nm 156).int 0 < (e.nm 156).int 1:=by(have hpq:=hc;(repeat (first|exact hpq|exact hpq.1|replace hpq:=hpq.2));done)
   have b0:=H.i0;have b1:=H.b1;have b2:=H.b2
   have f1:(e.nm 195).int=fun _=>Q1 (Qe (e.nm 0).int) ((e.nm 2).int 0).toNat ((e.nm 157).int (((e.nm 156).int 0).toNat * 1+0)):=by(have hpq:=hc;(repeat (first|exact hpq|exact hpq.1|replace hpq:=hpq.2));done)
   have hf:(e.nm 195).int 0=Q1 (Qe int) n ((e.nm 157).int ((e.nm 156).int 0).toNat):=by rw [f1,h0,h2,Nat.mul_one,Nat.add_zero];rfl
   have c1:¬0≤(e.nm 195).int 0:=by(have hpq:=hc;(repeat (first|exact hpq|exact hpq.1|replace hpq:=hpq.2));done)
   have s0:IntKind.i64.wrap ((e.nm 156).int 0+1)=(e.nm 156).int 0+1:=Qx b0 (by omega)
   exact H.less hlt (by rw [←hf];exact c1) s0 rfl rfl rfl rfl
  ·have T:Q7 (Qe int k)= []:=by
    have c1:¬int ((k:Int).toNat * 9+2)=20:=by(have hpq:=hc;(repeat (first|exact hpq|exact hpq.1|replace hpq:=hpq.2));done)
    have c1':¬int ((k:Int).toNat * 9+2)=23:=by(have hpq:=hc;(repeat (first|exact hpq|exact hpq.1|replace hpq:=hpq.2));done)
    have f2:(e.nm 120).bool=fun _=>JK (Qe int k):=by(have hpq:=hc;(repeat (first|exact hpq|exact hpq.1|replace hpq:=hpq.2));done)
    have c2:(e.nm 120).bool 0=true:=by(have hpq:=hc;(repeat (first|exact hpq|exact hpq.1|replace hpq:=hpq.2));done)
    have c3:JK (Qe int k)=true:=by rw [←congrFun f2 0];exact c2
    rw [QnQ hv,if_neg (fun h=>(Qby.1 h).elim c1 c1'),c3]
    rfl
   refine J2.start hv hs ?_ rfl rfl
   rw [T]
   exact Qn7
  ·have H:J2 (Qe int) n k (e.nm 132) (e.nm 133) (e.nm 134):=by(have hpq:=hc;(repeat (first|exact hpq|exact hpq.1|replace hpq:=hpq.2));done)
   have hlt:(e.nm 132).int 0 < (e.nm 132).int 1:=by(have hpq:=hc;(repeat (first|exact hpq|exact hpq.1|replace hpq:=hpq.2));done)
   have b0:=H.i0;have b1:=H.b1;have b2:=H.b2
   have f1:(e.nm 171).int=fun _=>Q1 (Qe (e.nm 0).int) ((e.nm 2).int 0).toNat ((e.nm 133).int (((e.nm 132).int 0).toNat * 1+0)):=by(have hpq:=hc;(repeat (first|exact hpq|exact hpq.1|replace hpq:=hpq.2));done)
   have hf:(e.nm 171).int 0=Q1 (Qe int) n ((e.nm 133).int ((e.nm 132).int 0).toNat):=by rw [f1,h0,h2,Nat.mul_one,Nat.add_zero];rfl
   have c1:0≤(e.nm 171).int 0:=by(have hpq:=hc;(repeat (first|exact hpq|exact hpq.1|replace hpq:=hpq.2));done)
   have u1:(e.nm 203).int=QD (e.nm 134).int ((e.nm 132).int 2).toNat [QW e (LX.n IntKind.u32 (SX.r 133 1 0 (SX.v 132 0)))]:=by(have hpq:=hc;(repeat (first|exact hpq|exact hpq.1|replace hpq:=hpq.2));done)
   have hl:QW e (LX.n IntKind.u32 (SX.r 133 1 0 (SX.v 132 0)))=(e.nm 133).int ((e.nm 132).int 0).toNat:=by
    show(e.nm 133).int (((e.nm 132).int 0).toNat * 1+0)=_
    rw [Nat.mul_one,Nat.add_zero]
   rw [hl]at u1
   have s0:IntKind.i64.wrap ((e.nm 132).int 0+1)=(e.nm 132).int 0+1:=Qx b0 (by omega)
   have s2:IntKind.i64.wrap ((e.nm 132).int 2+1)=(e.nm 132).int 2+1:=Qx b2.1 (by omega)
   exact H.more hlt (by rw [←hf];exact c1) s0 rfl s2 rfl u1
  ·have H:J2 (Qe int) n k (e.nm 132) (e.nm 133) (e.nm 134):=by(have hpq:=hc;(repeat (first|exact hpq|exact hpq.1|replace hpq:=hpq.2));done)
   have hlt:(e.nm 132).int 0 < (e.nm 132).int 1:=by(have hpq:=hc;(repeat (first|exact hpq|exact hpq.1|replace hpq:=hpq.2));done)
   have b0:=H.i0;have b1:=H.b1;have b2:=H.b2
   have f1:(e.nm 171).int=fun _=>Q1 (Qe (e.nm 0).int) ((e.nm 2).int 0).toNat ((e.nm 133).int (((e.nm 132).int 0).toNat * 1+0)):=by(have hpq:=hc;(repeat (first|exact hpq|exact hpq.1|replace hpq:=hpq.2));done)
   have hf:(e.nm 171).int 0=Q1 (Qe int) n ((e.nm 133).int ((e.nm 132).int 0).toNat):=by rw [f1,h0,h2,Nat.mul_one,Nat.add_zero];rfl
   have c1:¬0≤(e.nm 171).int 0:=by(have hpq:=hc;(repeat (first|exact hpq|exact hpq.1|replace hpq:=hpq.2));done)
   have s0:IntKind.i64.wrap ((e.nm 132).int 0+1)=(e.nm 132).int 0+1:=Qx b0 (by omega)
   exact H.less hlt (by rw [←hf];exact c1) s0 rfl rfl rfl rfl
 ·refine⟨?_,?_,?_,?_,?_,trivial⟩
  all_goals
   intro e u w' he hc hs hb
   have h0:e.nm 0=nmR base cap int bool:=he 0 (by decide)
   have h1:e.nm 1=nmN k:=he 1 (by decide)
   have h2:e.nm 2=nmN n:=he 2 (by decide)
   have hD:Q0 (PX.dat e 0 (.a (rxL 0 9 (.v 1 0) 0 Qb)))=Qe int k:=by
    rw [Xb]
    show Qe (e.nm 0).int ((e.nm 1).int 0).toNat=_
    rw [h0,h1]
    rfl
   rw [show u=_ from hs]
   simp only [QC,Zb,Cd.holds,dv1,dv2,di1,db2,dr1,dr2,dq1,dq2,do1,Z1,Z0,Zx,Zw,Zz,Zy,Zv,Zu,Zt,Zs,Z3,Z2,Xt,Xs,Xp,Xo,Xr,Xq,List.map_cons,List.map_nil,Nat.mul_one,Nat.add_zero,List.getElem?_cons_zero,List.getElem?_cons_succ,Option.some.injEq,exists_eq_left',and_true,and_assoc,Env.int,Env.bool,X8,Nat.reduceLeDiff,Nat.reduceAdd,ed0,ed1,ed2,ed3,QrM,QrN,QrO,QrP,Ji,hD,h0,h1,h2,nmR,nmN,nmI]at hc
  ·have f44:(e.nm 44).bool=fun _=>Qj (Qe int k):=by(have hpq:=hc;(repeat (first|exact hpq|exact hpq.1|replace hpq:=hpq.2));done)
   have f68:(e.nm 68).int=fun _=>Q1 (Qe (e.nm 0).int) ((e.nm 2).int 0).toNat ((e.nm 0).int (((e.nm 1).int 0).toNat * 9+0)):=by(have hpq:=hc;(repeat (first|exact hpq|exact hpq.1|replace hpq:=hpq.2));done)
   have s68:(e.nm 68).int 0=Q1 (Qe int) n (Qe int k).addr:=by rw [f68,h0,h1,h2];rfl
   have hq:=hc.1
   have hO:YN (Qe int) n k= []:=by
    unfold YN
    split
    ·rename_i hf
     have hv:Qj (Qe int k)=false:=by
      cases hv:Qj (Qe int k)with
      |false=>rfl
      |true=>
       refine absurd ⟨?_,?_⟩ hq
       ·rw [f44];exact hv
       ·rw [s68,Qdv hf]
     unfold Q7
     rw [if_neg (by rw [hv];decide)]
     rfl
    ·rfl
   rw [hO]
   exact Qgd
  ·have H:J2 (Qe int) n k (e.nm 180) (e.nm 181) (e.nm 182):=by(have hpq:=hc;(repeat (first|exact hpq|exact hpq.1|replace hpq:=hpq.2));done)
   have L:=H.fin (by(have hpq:=hc;(repeat (first|exact hpq|exact hpq.1|replace hpq:=hpq.2));done))
   exact⟨nmN ((e.nm 180).int 2),e.nm 182,rfl,⟨L.1,L.2⟩,hb.2.2.2.2.1⟩
  ·have H:J2 (Qe int) n k (e.nm 156) (e.nm 157) (e.nm 158):=by(have hpq:=hc;(repeat (first|exact hpq|exact hpq.1|replace hpq:=hpq.2));done)
   have L:=H.fin (by(have hpq:=hc;(repeat (first|exact hpq|exact hpq.1|replace hpq:=hpq.2));done))
   exact⟨nmN ((e.nm 156).int 2),e.nm 158,rfl,⟨L.1,L.2⟩,hb.2.2.2.1⟩
  ·have H:J2 (Qe int) n k (e.nm 156) (e.nm 157) (e.nm 158):=by(have hpq:=hc;(repeat (first|exact hpq|exact hpq.1|replace hpq:=hpq.2));done)
   have L:=H.fin (by(have hpq:=hc;(repeat (first|exact hpq|exact hpq.1|replace hpq:=hpq.2));done))
   exact⟨nmN ((e.nm 156).int 2),e.nm 158,rfl,⟨L.1,L.2⟩,hb.2.2.2.1⟩
  ·have H:J2 (Qe int) n k (e.nm 132) (e.nm 133) (e.nm 134):=by(have hpq:=hc;(repeat (first|exact hpq|exact hpq.1|replace hpq:=hpq.2));done)
   have L:=H.fin (by(have hpq:=hc;(repeat (first|exact hpq|exact hpq.1|replace hpq:=hpq.2));done))
   exact⟨nmN ((e.nm 132).int 2),e.nm 134,rfl,⟨L.1,L.2⟩,hb.2.2.1⟩
def QfN:Kon Try.prog where
 sg:=⟨14,[.sl Qb,.l (some .i64)],.s [some .u32],false,false⟩
 pre ads:=match ads with| [d1,d2]=>(0≤Q8 d2∧Q8 d2 < J6 d1.val)∧(J6 d1.val:Int) < 2 ^ 63|_=>False
 post ads m m':=match ads with| [d1,d2]=>JE (YN (Qe d1.int) (J6 d1.val) (Q8 d2).toNat) m m'|_=>True
 body:=⟨_,Try.func14,by kernel_rfl,by kernel_rfl⟩
 free h:=by cases h
 flat h:=by cases h
 total h:=by cases h
 same h:=by cases h
 sound ads w hf hp:=by
  obtain⟨d1,_,rfl,f1,hf⟩:=Qf hf
  obtain⟨d2,_,rfl,f2,hf⟩:=Qf hf
  obtain rfl:=Qn hf
  obtain⟨g1,g2⟩:=Wj f1
  obtain⟨⟨p1,p2⟩,p3⟩:=hp
  show Calls _ _ #[d1.val,d2.val] w _
  rw [g1,QH f2,show Value.int .i64 (Q8 d2)=Value.int .i64 (((Q8 d2).toNat:Nat):Int)by rw [Int.toNat_of_nonneg p1]]
  exact QkV _ _ d1.int d1.bool _ _ (by omega) p3 w g2
end Go.Proofs.Yteplnamfpodmlaa.T2
end
