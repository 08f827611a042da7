/-
  Part of the proof.
-/
import Derived.Test.YteplnamfpodmlaaRA4
set_option linter.unusedVariables false
set_option linter.unusedSimpArgs false
set_option maxRecDepth 100000
open Go.ChangeShapes Go.WideShapes Go.ChangeAt Go.RowKit
namespace Go.Proofs.Yteplnamfpodmlaa
def Qyi:List Sg:= [⟨56,[.a Qc,.a Qc],.a Qc,true⟩]
def Qxj:List PX:= [.a (Qa 0 0 stK),.a (Qa 1 0 stK)]
def QxN:List Rw:= []
def QxL:Cfg:=⟨2,Qyi,[]⟩
def Qyg:List Lf:= [⟨[.f 143 0 [.a (Qa 0 35 Qc),.a (Qa 1 35 Qc)],.f 125 0 [.a (Qa 0 30 Qc),.a (Qa 1 30 Qc)],.f 107 0 [.a (Qa 0 25 Qc),.a (Qa 1 25 Qc)],.f 89 0 [.a (Qa 0 20 Qc),.a (Qa 1 20 Qc)],.f 71 0 [.a (Qa 0 15 Qc),.a (Qa 1 15 Qc)],.f 53 0 [.a (Qa 0 10 Qc),.a (Qa 1 10 Qc)],.f 35 0 [.a (Qa 0 5 Qc),.a (Qa 1 5 Qc)],.f 17 0 [.a (Qa 0 0 Qc),.a (Qa 1 0 Qc)]],.v (.a (Qik [(17,0),(35,0),(53,0),(71,0),(89,0),(107,0),(125,0),(143,0)]))⟩]
def Qyh:List Ob:=
 [.pre [] 0 [.a (Qa 0 0 Qc),.a (Qa 1 0 Qc)],.pre [.f 17 0 [.a (Qa 0 0 Qc),.a (Qa 1 0 Qc)]] 0 [.a (Qa 0 5 Qc),.a (Qa 1 5 Qc)],.pre [.f 35 0 [.a (Qa 0 5 Qc),.a (Qa 1 5 Qc)],.f 17 0 [.a (Qa 0 0 Qc),.a (Qa 1 0 Qc)]] 0 [.a (Qa 0 10 Qc),.a (Qa 1 10 Qc)],.pre [.f 53 0 [.a (Qa 0 10 Qc),.a (Qa 1 10 Qc)],.f 35 0 [.a (Qa 0 5 Qc),.a (Qa 1 5 Qc)],.f 17 0 [.a (Qa 0 0 Qc),.a (Qa 1 0 Qc)]] 0 [.a (Qa 0 15 Qc),.a (Qa 1 15 Qc)],.pre [.f 71 0 [.a (Qa 0 15 Qc),.a (Qa 1 15 Qc)],.f 53 0 [.a (Qa 0 10 Qc),.a (Qa 1 10 Qc)],.f 35 0 [.a (Qa 0 5 Qc),.a (Qa 1 5 Qc)],.f 17 0 [.a (Qa 0 0 Qc),.a (Qa 1 0 Qc)]] 0 [.a (Qa 0 20 Qc),.a (Qa 1 20 Qc)],.pre [.f 89 0 [.a (Qa 0 20 Qc),.a (Qa 1 20 Qc)],.f 71 0 [.a (Qa 0 15 Qc),.a (Qa 1 15 Qc)],.f 53 0 [.a (Qa 0 10 Qc),.a (Qa 1 10 Qc)],.f 35 0 [.a (Qa 0 5 Qc),.a (Qa 1 5 Qc)],.f 17 0 [.a (Qa 0 0 Qc),.a (Qa 1 0 Qc)]] 0 [.a (Qa 0 25 Qc),.a (Qa 1 25 Qc)],.pre [.f 107 0 [.a (Qa 0 25 Qc),.a (Qa 1 25 Qc)],.f 89 0 [.a (Qa 0 20 Qc),.a (Qa 1 20 Qc)],.f 71 0 [.a (Qa 0 15 Qc),.a (Qa 1 15 Qc)],.f 53 0 [.a (Qa 0 10 Qc),.a (Qa 1 10 Qc)],.f 35 0 [.a (Qa 0 5 Qc),.a (Qa 1 5 Qc)],.f 17 0 [.a (Qa 0 0 Qc),.a (Qa 1 0 Qc)]] 0 [.a (Qa 0 30 Qc),.a (Qa 1 30 Qc)],.pre [.f 125 0 [.a (Qa 0 30 Qc),.a (Qa 1 30 Qc)],.f 107 0 [.a (Qa 0 25 Qc),.a (Qa 1 25 Qc)],.f 89 0 [.a (Qa 0 20 Qc),.a (Qa 1 20 Qc)],.f 71 0 [.a (Qa 0 15 Qc),.a (Qa 1 15 Qc)],.f 53 0 [.a (Qa 0 10 Qc),.a (Qa 1 10 Qc)],.f 35 0 [.a (Qa 0 5 Qc),.a (Qa 1 5 Qc)],.f 17 0 [.a (Qa 0 0 Qc),.a (Qa 1 0 Qc)]] 0 [.a (Qa 0 35 Qc),.a (Qa 1 35 Qc)]]
theorem QxM:QP Try.prog QxL 2000 Try.f21 Qxj QxN=some (Qyg,Qyh):=by kernel_rfl
set_option maxHeartbeats 1000000 in
theorem QxA(a b:Nat→Qd)(h:(∀k,(a k).wf)∧∀k,(b k).wf)(w:World):Calls Try.prog 21 #[ZT a,ZT b] w (Ret (ZT (Vb a b)) w):=by
 refine QG (C:= [QxX]) (I:= []) Qr rfl Try.func21 QxM (QqH a b) w rfl (fun r hr=>(List.not_mem_nil hr).elim) _ ?_ ?_
 ·have wfs:∀e:Env,Env.agr 2 (QqH a b) e→∀k,(Zg e 0 (5 * k)).wf∧(Zg e 1 (5 * k)).wf:=fun e he k=>by
   rw [ZA (he 0 (by decide)).1 (he 0 (by decide)).2.1,ZA (he 1 (by decide)).1 (he 1 (by decide)).2.1];exact⟨h.1 k,h.2 k⟩
  exact⟨fun e he _=>wfs e he 0,fun e he _=>wfs e he 1,fun e he _=>wfs e he 2,fun e he _=>wfs e he 3,fun e he _=>wfs e he 4,fun e he _=>wfs e he 5,fun e he _=>wfs e he 6,fun e he _=>wfs e he 7,trivial⟩
 refine⟨?_,trivial⟩
 all_goals
  intro e u he hc hs
  rw [VP hs]
  have k0:=ZA (he 0 (by decide)).1 (he 0 (by decide)).2.1
  have k1:=ZA (he 1 (by decide)).1 (he 1 (by decide)).2.1
  simp only [QC,Cd.holds,List.getElem?_cons_zero,List.getElem?_cons_succ,Option.some.injEq,exists_eq_left',QI,QT,Q3,QS,QX,Xv,QB,QY,QxX,List.map_cons,List.map_nil]at hc
  obtain⟨c7,c6,c5,c4,c3,c2,c1,c0,_⟩:=hc
  rw [Qbp]
  refine Zr fun k hk=>?_
  match k,hk with
  |0,_=>exact(QA c0.1 c0.2).trans (by rw [Vb,←k0 0,←k1 0])
  |1,_=>exact(QA c1.1 c1.2).trans (by rw [Vb,←k0 1,←k1 1])
  |2,_=>exact(QA c2.1 c2.2).trans (by rw [Vb,←k0 2,←k1 2])
  |3,_=>exact(QA c3.1 c3.2).trans (by rw [Vb,←k0 3,←k1 3])
  |4,_=>exact(QA c4.1 c4.2).trans (by rw [Vb,←k0 4,←k1 4])
  |5,_=>exact(QA c5.1 c5.2).trans (by rw [Vb,←k0 5,←k1 5])
  |6,_=>exact(QA c6.1 c6.2).trans (by rw [Vb,←k0 6,←k1 6])
  |7,_=>exact(QA c7.1 c7.2).trans (by rw [Vb,←k0 7,←k1 7])
def Qxc:Con Try.prog:= .mk' ⟨21,[.a stK,.a stK],.a stK,true⟩
 (fun ads=>match ads with| [d1,d2]=>(∀k,((stD d1) k).wf)∧∀k,((stD d2) k).wf|_=>False)
 (fun ads=>match ads with| [d1,d2]=>ZH (Vb (stD d1) (stD d2))|_=>fun _=>0)
 (fun ads=>match ads with| [d1,d2]=>QU (Vb (stD d1) (stD d2))|_=>fun _=>false)
 ⟨_,Try.func21,by kernel_rfl,by kernel_rfl⟩ (fun ads w hf hp=>by
   obtain⟨d1,_,rfl,f1,hf⟩:=Qf hf
   obtain⟨d2,_,rfl,f2,hf⟩:=Qf hf
   obtain rfl:=Qn hf
   show Calls _ _ #[d1.val,d2.val] w _
   rw [Vq f1,Vq f2]
   exact QxA (stD d1) (stD d2) hp w)
def Qwl:List Sg:= [⟨123,[.a Qc],.l none,true⟩,⟨124,[.a Qc,.a Qc],.a Qc,true⟩,⟨58,[.l (some .u32)],.a Qc,true⟩,⟨125,[.a Qc,.l (some .u32)],.a Qc,true⟩,⟨82,[],.a Qc,true⟩,⟨65,[.l (some .u32),.l (some .u32),.l (some .u32)],.a Qc,true⟩]
def QvL:List PX:= [.l (.n .i64 (.v 0 0)),.a (Qa 1 0 Qc),.l (.n .u32 (.v 2 0))]
def QvW:List Rw:= []
def QvU:Cfg:=⟨3,Qwl,[]⟩
def Qwj:List Lf:=
 let z0:PX:= .a (Qa 1 0 Qc)
 let z1:Cd:= .c (.c .eql (.v 2 0) (.i 0)) true
 let z2:PX:= .l (.n .u32 (.i 0))
 let z3:PX:= .l (.n .u32 (.o .sub .u32 (.v 2 0) (.i 1)))
 let z4:PX:= .l (.n .u32 (.i 1))
 let z5:Cd:= .c (.c .eql (.v 2 0) (.i 0)) false
 let z6:PX:= .l (.n .u32 (.v 2 0))
 let z7:PX:= .l (.n .u32 (.i 4294967295))
 let z8:PX:= .l (.n .u32 (.o .add .u32 (.v 2 0) (.i 1)))
 [⟨[.c (.an (.an (.v 12 0) (.no (.c .geq (.v 1 3) (.i 2147483648)))) (.no (.c .geq (.v 2 0) (.i 2147483648)))) false,.f 12 0 [z0],.c (.c .geq (.v 0 0) (.i 3)) true,.c (.c .leq (.v 0 0) (.i 6)) true],.v z0⟩,⟨[.f 34 4 [],z1,.c (.c .eql (.v 0 0) (.i 3)) true,.c (.v 12 0) true,.c (.c .geq (.v 1 3) (.i 2147483648)) false,.c (.c .geq (.v 2 0) (.i 2147483648)) false,.f 12 0 [z0],.c (.c .geq (.v 0 0) (.i 3)) true,.c (.c .leq (.v 0 0) (.i 6)) true],.v (.a (Qa 34 0 Qc))⟩,⟨[.f 38 1 [z0,.a (Qa 37 0 Qc)],.f 37 5 [z2,z3,z4],z5,.c (.c .eql (.v 0 0) (.i 3)) true,.c (.v 12 0) true,.c (.c .geq (.v 1 3) (.i 2147483648)) false,.c (.c .geq (.v 2 0) (.i 2147483648)) false,.f 12 0 [z0],.c (.c .geq (.v 0 0) (.i 3)) true,.c (.c .leq (.v 0 0) (.i 6)) true],.v (.a (Qa 38 0 Qc))⟩,⟨[.f 39 1 [z0,.a (Qa 38 0 Qc)],.f 38 5 [z2,z6,z4],.c (.c .eql (.v 0 0) (.i 5)) true,.c (.c .eql (.v 0 0) (.i 3)) false,.c (.v 12 0) true,.c (.c .geq (.v 1 3) (.i 2147483648)) false,.c (.c .geq (.v 2 0) (.i 2147483648)) false,.f 12 0 [z0],.c (.c .geq (.v 0 0) (.i 3)) true,.c (.c .leq (.v 0 0) (.i 6)) true],.v (.a (Qa 39 0 Qc))⟩,⟨[.f 43 1 [z0,.a (Qa 42 0 Qc)],.f 42 5 [z6,z7,z4],.c (.c .eql (.v 0 0) (.i 4)) true,.c (.c .eql (.v 0 0) (.i 5)) false,.c (.c .eql (.v 0 0) (.i 3)) false,.c (.v 12 0) true,.c (.c .geq (.v 1 3) (.i 2147483648)) false,.c (.c .geq (.v 2 0) (.i 2147483648)) false,.f 12 0 [z0],.c (.c .geq (.v 0 0) (.i 3)) true,.c (.c .leq (.v 0 0) (.i 6)) true],.v (.a (Qa 43 0 Qc))⟩,⟨[.f 50 1 [z0,.a (Qa 49 0 Qc)],.f 49 5 [z8,z7,z4],.c (.c .eql (.v 0 0) (.i 6)) true,.c (.c .eql (.v 0 0) (.i 4)) false,.c (.c .eql (.v 0 0) (.i 5)) false,.c (.c .eql (.v 0 0) (.i 3)) false,.c (.v 12 0) true,.c (.c .geq (.v 1 3) (.i 2147483648)) false,.c (.c .geq (.v 2 0) (.i 2147483648)) false,.f 12 0 [z0],.c (.c .geq (.v 0 0) (.i 3)) true,.c (.c .leq (.v 0 0) (.i 6)) true],.v (.a (Qa 50 0 Qc))⟩,⟨[.c (.c .eql (.v 0 0) (.i 6)) false,.c (.c .eql (.v 0 0) (.i 4)) false,.c (.c .eql (.v 0 0) (.i 5)) false,.c (.c .eql (.v 0 0) (.i 3)) false,.c (.v 12 0) true,.c (.c .geq (.v 1 3) (.i 2147483648)) false,.c (.c .geq (.v 2 0) (.i 2147483648)) false,.f 12 0 [z0],.c (.c .geq (.v 0 0) (.i 3)) true,.c (.c .leq (.v 0 0) (.i 6)) true],.v z0⟩,⟨[.f 17 1 [z0,.a (Qa 16 0 Qc)],.f 16 2 [z6],.c (.c .eql (.v 0 0) (.i 1)) true,.c (.an (.c .geq (.v 0 0) (.i 3)) (.c .leq (.v 0 0) (.i 6))) false],.v (.a (Qa 17 0 Qc))⟩,⟨[.f 18 3 [z0,z6],.c (.c .eql (.v 0 0) (.i 2)) true,.c (.c .eql (.v 0 0) (.i 1)) false,.c (.an (.c .geq (.v 0 0) (.i 3)) (.c .leq (.v 0 0) (.i 6))) false],.v (.a (Qa 18 0 Qc))⟩,⟨[.f 20 4 [],z1,.c (.c .eql (.v 0 0) (.i 7)) true,.c (.c .eql (.v 0 0) (.i 2)) false,.c (.c .eql (.v 0 0) (.i 1)) false,.c (.an (.c .geq (.v 0 0) (.i 3)) (.c .leq (.v 0 0) (.i 6))) false],.v (.a (Qa 20 0 Qc))⟩,⟨[.f 24 1 [z0,.a (Qa 23 0 Qc)],.f 23 5 [z2,z3,z4],z5,.c (.c .eql (.v 0 0) (.i 7)) true,.c (.c .eql (.v 0 0) (.i 2)) false,.c (.c .eql (.v 0 0) (.i 1)) false,.c (.an (.c .geq (.v 0 0) (.i 3)) (.c .leq (.v 0 0) (.i 6))) false],.v (.a (Qa 24 0 Qc))⟩,⟨[.f 22 4 [],z1,.c (.c .eql (.v 0 0) (.i 3)) true,.c (.c .eql (.v 0 0) (.i 7)) false,.c (.c .eql (.v 0 0) (.i 2)) false,.c (.c .eql (.v 0 0) (.i 1)) false,.c (.an (.c .geq (.v 0 0) (.i 3)) (.c .leq (.v 0 0) (.i 6))) false],.v (.a (Qa 22 0 Qc))⟩,⟨[.f 26 1 [z0,.a (Qa 25 0 Qc)],.f 25 5 [z2,z3,z4],z5,.c (.c .eql (.v 0 0) (.i 3)) true,.c (.c .eql (.v 0 0) (.i 7)) false,.c (.c .eql (.v 0 0) (.i 2)) false,.c (.c .eql (.v 0 0) (.i 1)) false,.c (.an (.c .geq (.v 0 0) (.i 3)) (.c .leq (.v 0 0) (.i 6))) false],.v (.a (Qa 26 0 Qc))⟩,⟨[.f 25 1 [z0,.a (Qa 24 0 Qc)],.f 24 5 [z2,z6,z4],.c (.c .eql (.v 0 0) (.i 9)) true,.c (.c .eql (.v 0 0) (.i 3)) false,.c (.c .eql (.v 0 0) (.i 7)) false,.c (.c .eql (.v 0 0) (.i 2)) false,.c (.c .eql (.v 0 0) (.i 1)) false,.c (.an (.c .geq (.v 0 0) (.i 3)) (.c .leq (.v 0 0) (.i 6))) false],.v (.a (Qa 25 0 Qc))⟩,⟨[.f 27 1 [z0,.a (Qa 26 0 Qc)],.f 26 5 [z2,z6,z4],.c (.c .eql (.v 0 0) (.i 5)) true,.c (.c .eql (.v 0 0) (.i 9)) false,.c (.c .eql (.v 0 0) (.i 3)) false,.c (.c .eql (.v 0 0) (.i 7)) false,.c (.c .eql (.v 0 0) (.i 2)) false,.c (.c .eql (.v 0 0) (.i 1)) false,.c (.an (.c .geq (.v 0 0) (.i 3)) (.c .leq (.v 0 0) (.i 6))) false],.v (.a (Qa 27 0 Qc))⟩,⟨[.f 29 1 [z0,.a (Qa 28 0 Qc)],.f 28 5 [z6,z7,z4],.c (.c .eql (.v 0 0) (.i 8)) true,.c (.c .eql (.v 0 0) (.i 5)) false,.c (.c .eql (.v 0 0) (.i 9)) false,.c (.c .eql (.v 0 0) (.i 3)) false,.c (.c .eql (.v 0 0) (.i 7)) false,.c (.c .eql (.v 0 0) (.i 2)) false,.c (.c .eql (.v 0 0) (.i 1)) false,.c (.an (.c .geq (.v 0 0) (.i 3)) (.c .leq (.v 0 0) (.i 6))) false],.v (.a (Qa 29 0 Qc))⟩,⟨[.f 31 1 [z0,.a (Qa 30 0 Qc)],.f 30 5 [z6,z7,z4],.c (.c .eql (.v 0 0) (.i 4)) true,.c (.c .eql (.v 0 0) (.i 8)) false,.c (.c .eql (.v 0 0) (.i 5)) false,.c (.c .eql (.v 0 0) (.i 9)) false,.c (.c .eql (.v 0 0) (.i 3)) false,.c (.c .eql (.v 0 0) (.i 7)) false,.c (.c .eql (.v 0 0) (.i 2)) false,.c (.c .eql (.v 0 0) (.i 1)) false,.c (.an (.c .geq (.v 0 0) (.i 3)) (.c .leq (.v 0 0) (.i 6))) false],.v (.a (Qa 31 0 Qc))⟩,⟨[.f 32 4 [],.c (.c .eql (.v 2 0) (.i 4294967295)) true,.c (.c .eql (.v 0 0) (.i 10)) true,.c (.c .eql (.v 0 0) (.i 4)) false,.c (.c .eql (.v 0 0) (.i 8)) false,.c (.c .eql (.v 0 0) (.i 5)) false,.c (.c .eql (.v 0 0) (.i 9)) false,.c (.c .eql (.v 0 0) (.i 3)) false,.c (.c .eql (.v 0 0) (.i 7)) false,.c (.c .eql (.v 0 0) (.i 2)) false,.c (.c .eql (.v 0 0) (.i 1)) false,.c (.an (.c .geq (.v 0 0) (.i 3)) (.c .leq (.v 0 0) (.i 6))) false],.v (.a (Qa 32 0 Qc))⟩,⟨[.f 36 1 [z0,.a (Qa 35 0 Qc)],.f 35 5 [z8,z7,z4],.c (.c .eql (.v 2 0) (.i 4294967295)) false,.c (.c .eql (.v 0 0) (.i 10)) true,.c (.c .eql (.v 0 0) (.i 4)) false,.c (.c .eql (.v 0 0) (.i 8)) false,.c (.c .eql (.v 0 0) (.i 5)) false,.c (.c .eql (.v 0 0) (.i 9)) false,.c (.c .eql (.v 0 0) (.i 3)) false,.c (.c .eql (.v 0 0) (.i 7)) false,.c (.c .eql (.v 0 0) (.i 2)) false,.c (.c .eql (.v 0 0) (.i 1)) false,.c (.an (.c .geq (.v 0 0) (.i 3)) (.c .leq (.v 0 0) (.i 6))) false],.v (.a (Qa 36 0 Qc))⟩,⟨[.f 34 4 [],.c (.c .eql (.v 2 0) (.i 4294967295)) true,.c (.c .eql (.v 0 0) (.i 6)) true,.c (.c .eql (.v 0 0) (.i 10)) false,.c (.c .eql (.v 0 0) (.i 4)) false,.c (.c .eql (.v 0 0) (.i 8)) false,.c (.c .eql (.v 0 0) (.i 5)) false,.c (.c .eql (.v 0 0) (.i 9)) false,.c (.c .eql (.v 0 0) (.i 3)) false,.c (.c .eql (.v 0 0) (.i 7)) false,.c (.c .eql (.v 0 0) (.i 2)) false,.c (.c .eql (.v 0 0) (.i 1)) false,.c (.an (.c .geq (.v 0 0) (.i 3)) (.c .leq (.v 0 0) (.i 6))) false],.v (.a (Qa 34 0 Qc))⟩,⟨[.f 38 1 [z0,.a (Qa 37 0 Qc)],.f 37 5 [z8,z7,z4],.c (.c .eql (.v 2 0) (.i 4294967295)) false,.c (.c .eql (.v 0 0) (.i 6)) true,.c (.c .eql (.v 0 0) (.i 10)) false,.c (.c .eql (.v 0 0) (.i 4)) false,.c (.c .eql (.v 0 0) (.i 8)) false,.c (.c .eql (.v 0 0) (.i 5)) false,.c (.c .eql (.v 0 0) (.i 9)) false,.c (.c .eql (.v 0 0) (.i 3)) false,.c (.c .eql (.v 0 0) (.i 7)) false,.c (.c .eql (.v 0 0) (.i 2)) false,.c (.c .eql (.v 0 0) (.i 1)) false,.c (.an (.c .geq (.v 0 0) (.i 3)) (.c .leq (.v 0 0) (.i 6))) false],.v (.a (Qa 38 0 Qc))⟩,⟨[.c (.c .eql (.v 0 0) (.i 6)) false,.c (.c .eql (.v 0 0) (.i 10)) false,.c (.c .eql (.v 0 0) (.i 4)) false,.c (.c .eql (.v 0 0) (.i 8)) false,.c (.c .eql (.v 0 0) (.i 5)) false,.c (.c .eql (.v 0 0) (.i 9)) false,.c (.c .eql (.v 0 0) (.i 3)) false,.c (.c .eql (.v 0 0) (.i 7)) false,.c (.c .eql (.v 0 0) (.i 2)) false,.c (.c .eql (.v 0 0) (.i 1)) false,.c (.an (.c .geq (.v 0 0) (.i 3)) (.c .leq (.v 0 0) (.i 6))) false],.v z0⟩]
def Qwk:List Ob:=
 let z0:PX:= .a (Qa 1 0 Qc)
 let z1:Cd:= .c (.c .eql (.v 2 0) (.i 0)) true
 let z2:Cd:= .c (.c .eql (.v 2 0) (.i 0)) false
 let z3:PX:= .l (.n .u32 (.i 0))
 let z4:PX:= .l (.n .u32 (.o .sub .u32 (.v 2 0) (.i 1)))
 let z5:PX:= .l (.n .u32 (.i 1))
 let z6:PX:= .l (.n .u32 (.v 2 0))
 let z7:PX:= .l (.n .u32 (.i 4294967295))
 let z8:PX:= .l (.n .u32 (.o .add .u32 (.v 2 0) (.i 1)))
 [.pre [.c (.c .geq (.v 0 0) (.i 3)) true,.c (.c .leq (.v 0 0) (.i 6)) true] 0 [z0],.pre [z1,.c (.c .eql (.v 0 0) (.i 3)) true,.c (.v 12 0) true,.c (.c .geq (.v 1 3) (.i 2147483648)) false,.c (.c .geq (.v 2 0) (.i 2147483648)) false,.f 12 0 [z0],.c (.c .geq (.v 0 0) (.i 3)) true,.c (.c .leq (.v 0 0) (.i 6)) true] 4 [],.pre [z2,.c (.c .eql (.v 0 0) (.i 3)) true,.c (.v 12 0) true,.c (.c .geq (.v 1 3) (.i 2147483648)) false,.c (.c .geq (.v 2 0) (.i 2147483648)) false,.f 12 0 [z0],.c (.c .geq (.v 0 0) (.i 3)) true,.c (.c .leq (.v 0 0) (.i 6)) true] 5 [z3,z4,z5],.pre [.f 37 5 [z3,z4,z5],z2,.c (.c .eql (.v 0 0) (.i 3)) true,.c (.v 12 0) true,.c (.c .geq (.v 1 3) (.i 2147483648)) false,.c (.c .geq (.v 2 0) (.i 2147483648)) false,.f 12 0 [z0],.c (.c .geq (.v 0 0) (.i 3)) true,.c (.c .leq (.v 0 0) (.i 6)) true] 1 [z0,.a (Qa 37 0 Qc)],.pre [.c (.c .eql (.v 0 0) (.i 5)) true,.c (.c .eql (.v 0 0) (.i 3)) false,.c (.v 12 0) true,.c (.c .geq (.v 1 3) (.i 2147483648)) false,.c (.c .geq (.v 2 0) (.i 2147483648)) false,.f 12 0 [z0],.c (.c .geq (.v 0 0) (.i 3)) true,.c (.c .leq (.v 0 0) (.i 6)) true] 5 [z3,z6,z5],.pre [.f 38 5 [z3,z6,z5],.c (.c .eql (.v 0 0) (.i 5)) true,.c (.c .eql (.v 0 0) (.i 3)) false,.c (.v 12 0) true,.c (.c .geq (.v 1 3) (.i 2147483648)) false,.c (.c .geq (.v 2 0) (.i 2147483648)) false,.f 12 0 [z0],.c (.c .geq (.v 0 0) (.i 3)) true,.c (.c .leq (.v 0 0) (.i 6)) true] 1 [z0,.a (Qa 38 0 Qc)],.pre [.c (.c .eql (.v 0 0) (.i 4)) true,.c (.c .eql (.v 0 0) (.i 5)) false,.c (.c .eql (.v 0 0) (.i 3)) false,.c (.v 12 0) true,.c (.c .geq (.v 1 3) (.i 2147483648)) false,.c (.c .geq (.v 2 0) (.i 2147483648)) false,.f 12 0 [z0],.c (.c .geq (.v 0 0) (.i 3)) true,.c (.c .leq (.v 0 0) (.i 6)) true] 5 [z6,z7,z5],.pre [.f 42 5 [z6,z7,z5],.c (.c .eql (.v 0 0) (.i 4)) true,.c (.c .eql (.v 0 0) (.i 5)) false,.c (.c .eql (.v 0 0) (.i 3)) false,.c (.v 12 0) true,.c (.c .geq (.v 1 3) (.i 2147483648)) false,.c (.c .geq (.v 2 0) (.i 2147483648)) false,.f 12 0 [z0],.c (.c .geq (.v 0 0) (.i 3)) true,.c (.c .leq (.v 0 0) (.i 6)) true] 1 [z0,.a (Qa 42 0 Qc)],.pre [.c (.c .eql (.v 0 0) (.i 6)) true,.c (.c .eql (.v 0 0) (.i 4)) false,.c (.c .eql (.v 0 0) (.i 5)) false,.c (.c .eql (.v 0 0) (.i 3)) false,.c (.v 12 0) true,.c (.c .geq (.v 1 3) (.i 2147483648)) false,.c (.c .geq (.v 2 0) (.i 2147483648)) false,.f 12 0 [z0],.c (.c .geq (.v 0 0) (.i 3)) true,.c (.c .leq (.v 0 0) (.i 6)) true] 5 [z8,z7,z5],.pre [.f 49 5 [z8,z7,z5],.c (.c .eql (.v 0 0) (.i 6)) true,.c (.c .eql (.v 0 0) (.i 4)) false,.c (.c .eql (.v 0 0) (.i 5)) false,.c (.c .eql (.v 0 0) (.i 3)) false,.c (.v 12 0) true,.c (.c .geq (.v 1 3) (.i 2147483648)) false,.c (.c .geq (.v 2 0) (.i 2147483648)) false,.f 12 0 [z0],.c (.c .geq (.v 0 0) (.i 3)) true,.c (.c .leq (.v 0 0) (.i 6)) true] 1 [z0,.a (Qa 49 0 Qc)],.pre [.c (.c .eql (.v 0 0) (.i 1)) true,.c (.an (.c .geq (.v 0 0) (.i 3)) (.c .leq (.v 0 0) (.i 6))) false] 2 [z6],.pre [.f 16 2 [z6],.c (.c .eql (.v 0 0) (.i 1)) true,.c (.an (.c .geq (.v 0 0) (.i 3)) (.c .leq (.v 0 0) (.i 6))) false] 1 [z0,.a (Qa 16 0 Qc)],.pre [.c (.c .eql (.v 0 0) (.i 2)) true,.c (.c .eql (.v 0 0) (.i 1)) false,.c (.an (.c .geq (.v 0 0) (.i 3)) (.c .leq (.v 0 0) (.i 6))) false] 3 [z0,z6],.pre [z1,.c (.c .eql (.v 0 0) (.i 7)) true,.c (.c .eql (.v 0 0) (.i 2)) false,.c (.c .eql (.v 0 0) (.i 1)) false,.c (.an (.c .geq (.v 0 0) (.i 3)) (.c .leq (.v 0 0) (.i 6))) false] 4 [],.pre [z2,.c (.c .eql (.v 0 0) (.i 7)) true,.c (.c .eql (.v 0 0) (.i 2)) false,.c (.c .eql (.v 0 0) (.i 1)) false,.c (.an (.c .geq (.v 0 0) (.i 3)) (.c .leq (.v 0 0) (.i 6))) false] 5 [z3,z4,z5],.pre [.f 23 5 [z3,z4,z5],z2,.c (.c .eql (.v 0 0) (.i 7)) true,.c (.c .eql (.v 0 0) (.i 2)) false,.c (.c .eql (.v 0 0) (.i 1)) false,.c (.an (.c .geq (.v 0 0) (.i 3)) (.c .leq (.v 0 0) (.i 6))) false] 1 [z0,.a (Qa 23 0 Qc)],.pre [z1,.c (.c .eql (.v 0 0) (.i 3)) true,.c (.c .eql (.v 0 0) (.i 7)) false,.c (.c .eql (.v 0 0) (.i 2)) false,.c (.c .eql (.v 0 0) (.i 1)) false,.c (.an (.c .geq (.v 0 0) (.i 3)) (.c .leq (.v 0 0) (.i 6))) false] 4 [],.pre [z2,.c (.c .eql (.v 0 0) (.i 3)) true,.c (.c .eql (.v 0 0) (.i 7)) false,.c (.c .eql (.v 0 0) (.i 2)) false,.c (.c .eql (.v 0 0) (.i 1)) false,.c (.an (.c .geq (.v 0 0) (.i 3)) (.c .leq (.v 0 0) (.i 6))) false] 5 [z3,z4,z5],.pre [.f 25 5 [z3,z4,z5],z2,.c (.c .eql (.v 0 0) (.i 3)) true,.c (.c .eql (.v 0 0) (.i 7)) false,.c (.c .eql (.v 0 0) (.i 2)) false,.c (.c .eql (.v 0 0) (.i 1)) false,.c (.an (.c .geq (.v 0 0) (.i 3)) (.c .leq (.v 0 0) (.i 6))) false] 1 [z0,.a (Qa 25 0 Qc)],.pre [.c (.c .eql (.v 0 0) (.i 9)) true,.c (.c .eql (.v 0 0) (.i 3)) false,.c (.c .eql (.v 0 0) (.i 7)) false,.c (.c .eql (.v 0 0) (.i 2)) false,.c (.c .eql (.v 0 0) (.i 1)) false,.c (.an (.c .geq (.v 0 0) (.i 3)) (.c .leq (.v 0 0) (.i 6))) false] 5 [z3,z6,z5],.pre [.f 24 5 [z3,z6,z5],.c (.c .eql (.v 0 0) (.i 9)) true,.c (.c .eql (.v 0 0) (.i 3)) false,.c (.c .eql (.v 0 0) (.i 7)) false,.c (.c .eql (.v 0 0) (.i 2)) false,.c (.c .eql (.v 0 0) (.i 1)) false,.c (.an (.c .geq (.v 0 0) (.i 3)) (.c .leq (.v 0 0) (.i 6))) false] 1 [z0,.a (Qa 24 0 Qc)],.pre [.c (.c .eql (.v 0 0) (.i 5)) true,.c (.c .eql (.v 0 0) (.i 9)) false,.c (.c .eql (.v 0 0) (.i 3)) false,.c (.c .eql (.v 0 0) (.i 7)) false,.c (.c .eql (.v 0 0) (.i 2)) false,.c (.c .eql (.v 0 0) (.i 1)) false,.c (.an (.c .geq (.v 0 0) (.i 3)) (.c .leq (.v 0 0) (.i 6))) false] 5 [z3,z6,z5],.pre [.f 26 5 [z3,z6,z5],.c (.c .eql (.v 0 0) (.i 5)) true,.c (.c .eql (.v 0 0) (.i 9)) false,.c (.c .eql (.v 0 0) (.i 3)) false,.c (.c .eql (.v 0 0) (.i 7)) false,.c (.c .eql (.v 0 0) (.i 2)) false,.c (.c .eql (.v 0 0) (.i 1)) false,.c (.an (.c .geq (.v 0 0) (.i 3)) (.c .leq (.v 0 0) (.i 6))) false] 1 [z0,.a (Qa 26 0 Qc)],.pre [.c (.c .eql (.v 0 0) (.i 8)) true,.c (.c .eql (.v 0 0) (.i 5)) false,.c (.c .eql (.v 0 0) (.i 9)) false,.c (.c .eql (.v 0 0) (.i 3)) false,.c (.c .eql (.v 0 0) (.i 7)) false,.c (.c .eql (.v 0 0) (.i 2)) false,.c (.c .eql (.v 0 0) (.i 1)) false,.c (.an (.c .geq (.v 0 0) (.i 3)) (.c .leq (.v 0 0) (.i 6))) false] 5 [z6,z7,z5],.pre [.f 28 5 [z6,z7,z5],.c (.c .eql (.v 0 0) (.i 8)) true,.c (.c .eql (.v 0 0) (.i 5)) false,.c (.c .eql (.v 0 0) (.i 9)) false,.c (.c .eql (.v 0 0) (.i 3)) false,.c (.c .eql (.v 0 0) (.i 7)) false,.c (.c .eql (.v 0 0) (.i 2)) false,.c (.c .eql (.v 0 0) (.i 1)) false,.c (.an (.c .geq (.v 0 0) (.i 3)) (.c .leq (.v 0 0) (.i 6))) false] 1 [z0,.a (Qa 28 0 Qc)],.pre [.c (.c .eql (.v 0 0) (.i 4)) true,.c (.c .eql (.v 0 0) (.i 8)) false,.c (.c .eql (.v 0 0) (.i 5)) false,.c (.c .eql (.v 0 0) (.i 9)) false,.c (.c .eql (.v 0 0) (.i 3)) false,.c (.c .eql (.v 0 0) (.i 7)) false,.c (.c .eql (.v 0 0) (.i 2)) false,.c (.c .eql (.v 0 0) (.i 1)) false,.c (.an (.c .geq (.v 0 0) (.i 3)) (.c .leq (.v 0 0) (.i 6))) false] 5 [z6,z7,z5],.pre [.f 30 5 [z6,z7,z5],.c (.c .eql (.v 0 0) (.i 4)) true,.c (.c .eql (.v 0 0) (.i 8)) false,.c (.c .eql (.v 0 0) (.i 5)) false,.c (.c .eql (.v 0 0) (.i 9)) false,.c (.c .eql (.v 0 0) (.i 3)) false,.c (.c .eql (.v 0 0) (.i 7)) false,.c (.c .eql (.v 0 0) (.i 2)) false,.c (.c .eql (.v 0 0) (.i 1)) false,.c (.an (.c .geq (.v 0 0) (.i 3)) (.c .leq (.v 0 0) (.i 6))) false] 1 [z0,.a (Qa 30 0 Qc)],.pre [.c (.c .eql (.v 2 0) (.i 4294967295)) true,.c (.c .eql (.v 0 0) (.i 10)) true,.c (.c .eql (.v 0 0) (.i 4)) false,.c (.c .eql (.v 0 0) (.i 8)) false,.c (.c .eql (.v 0 0) (.i 5)) false,.c (.c .eql (.v 0 0) (.i 9)) false,.c (.c .eql (.v 0 0) (.i 3)) false,.c (.c .eql (.v 0 0) (.i 7)) false,.c (.c .eql (.v 0 0) (.i 2)) false,.c (.c .eql (.v 0 0) (.i 1)) false,.c (.an (.c .geq (.v 0 0) (.i 3)) (.c .leq (.v 0 0) (.i 6))) false] 4 [],.pre [.c (.c .eql (.v 2 0) (.i 4294967295)) false,.c (.c .eql (.v 0 0) (.i 10)) true,.c (.c .eql (.v 0 0) (.i 4)) false,.c (.c .eql (.v 0 0) (.i 8)) false,.c (.c .eql (.v 0 0) (.i 5)) false,.c (.c .eql (.v 0 0) (.i 9)) false,.c (.c .eql (.v 0 0) (.i 3)) false,.c (.c .eql (.v 0 0) (.i 7)) false,.c (.c .eql (.v 0 0) (.i 2)) false,.c (.c .eql (.v 0 0) (.i 1)) false,.c (.an (.c .geq (.v 0 0) (.i 3)) (.c .leq (.v 0 0) (.i 6))) false] 5 [z8,z7,z5],.pre [.f 35 5 [z8,z7,z5],.c (.c .eql (.v 2 0) (.i 4294967295)) false,.c (.c .eql (.v 0 0) (.i 10)) true,.c (.c .eql (.v 0 0) (.i 4)) false,.c (.c .eql (.v 0 0) (.i 8)) false,.c (.c .eql (.v 0 0) (.i 5)) false,.c (.c .eql (.v 0 0) (.i 9)) false,.c (.c .eql (.v 0 0) (.i 3)) false,.c (.c .eql (.v 0 0) (.i 7)) false,.c (.c .eql (.v 0 0) (.i 2)) false,.c (.c .eql (.v 0 0) (.i 1)) false,.c (.an (.c .geq (.v 0 0) (.i 3)) (.c .leq (.v 0 0) (.i 6))) false] 1 [z0,.a (Qa 35 0 Qc)],.pre [.c (.c .eql (.v 2 0) (.i 4294967295)) true,.c (.c .eql (.v 0 0) (.i 6)) true,.c (.c .eql (.v 0 0) (.i 10)) false,.c (.c .eql (.v 0 0) (.i 4)) false,.c (.c .eql (.v 0 0) (.i 8)) false,.c (.c .eql (.v 0 0) (.i 5)) false,.c (.c .eql (.v 0 0) (.i 9)) false,.c (.c .eql (.v 0 0) (.i 3)) false,.c (.c .eql (.v 0 0) (.i 7)) false,.c (.c .eql (.v 0 0) (.i 2)) false,.c (.c .eql (.v 0 0) (.i 1)) false,.c (.an (.c .geq (.v 0 0) (.i 3)) (.c .leq (.v 0 0) (.i 6))) false] 4 [],.pre [.c (.c .eql (.v 2 0) (.i 4294967295)) false,.c (.c .eql (.v 0 0) (.i 6)) true,.c (.c .eql (.v 0 0) (.i 10)) false,.c (.c .eql (.v 0 0) (.i 4)) false,.c (.c .eql (.v 0 0) (.i 8)) false,.c (.c .eql (.v 0 0) (.i 5)) false,.c (.c .eql (.v 0 0) (.i 9)) false,.c (.c .eql (.v 0 0) (.i 3)) false,.c (.c .eql (.v 0 0) (.i 7)) false,.c (.c .eql (.v 0 0) (.i 2)) false,.c (.c .eql (.v 0 0) (.i 1)) false,.c (.an (.c .geq (.v 0 0) (.i 3)) (.c .leq (.v 0 0) (.i 6))) false] 5 [z8,z7,z5],.pre [.f 37 5 [z8,z7,z5],.c (.c .eql (.v 2 0) (.i 4294967295)) false,.c (.c .eql (.v 0 0) (.i 6)) true,.c (.c .eql (.v 0 0) (.i 10)) false,.c (.c .eql (.v 0 0) (.i 4)) false,.c (.c .eql (.v 0 0) (.i 8)) false,.c (.c .eql (.v 0 0) (.i 5)) false,.c (.c .eql (.v 0 0) (.i 9)) false,.c (.c .eql (.v 0 0) (.i 3)) false,.c (.c .eql (.v 0 0) (.i 7)) false,.c (.c .eql (.v 0 0) (.i 2)) false,.c (.c .eql (.v 0 0) (.i 1)) false,.c (.an (.c .geq (.v 0 0) (.i 3)) (.c .leq (.v 0 0) (.i 6))) false] 1 [z0,.a (Qa 37 0 Qc)]]
theorem QvV:QP Try.prog QvU 2000 Try.f80 QvL QvW=some (Qwj,Qwk):=by kernel_rfl
def QyM(c:Int)(s:Qd)(n:Int):Env:=⟨fun d=>match d with|0=>fun _=>c|1=>ZC s|2=>fun _=>n|_=>fun _=>0,fun d=>match d with|1=>Xc s|_=>fun _=>false,fun _=>0,fun _=>none⟩
set_option maxHeartbeats 8000000 in
theorem Qwc(c:Int)(s:Qd)(n:Int)(h:s.wf∧Q5 n)(w:World):Calls Try.prog 80 #[.int .i64 c,s.val,.int .u32 n] w (Ret (YQ c s n).val w):=by
 refine QG (C:= [Qv8,Qw3,Qv0,QvE,Qv7,Qvz]) (I:= []) Qr rfl Try.func80 QvV (QyM c s n) w rfl (fun r hr=>(List.not_mem_nil hr).elim) _ ?_ ?_
 ·refine⟨?_,?_,?_,?_,?_,?_,?_,?_,?_,?_,?_,?_,?_,?_,?_,?_,?_,?_,?_,?_,?_,?_,?_,?_,?_,?_,?_,?_,?_,?_,?_,?_,?_,trivial⟩
  all_goals
   intro e he hc
   have h0:e.int 0 0=c:=congrFun (he 0 (by decide)).1 0
   have h1:Zg e 1 0=s:=QA (he 1 (by decide)).1 (he 1 (by decide)).2.1
   have i1:e.int 1=ZC s:=(he 1 (by decide)).1
   have h2:e.int 2 0=n:=congrFun (he 2 (by decide)).1 0
   clear he
   simp only [QC,Zb,Cd.holds,SX.den,cmI,PX.den,LX.den,VX.sat,List.map_cons,List.map_nil,List.append_nil,beq_iff_eq,bne_iff_ne,beq_eq_false_iff_ne,bne_eq_false_iff_eq,decide_eq_true_eq,decide_eq_false_iff_not,Bool.and_eq_true,Bool.and_eq_false_iff,ne_eq,List.getElem?_cons_zero,List.getElem?_cons_succ,Option.some.injEq,exists_eq_left',QI,QT,Q3,QS,QX,Xv,QB,QY,Qv8,Qw3,Qv0,QvE,Qv7,Qvz,h0,h1,i1,h2,ZC,arI]at hc ⊢
  all_goals
   first
    |trivial
    |exact h.1
    |exact h.2
    |exact h
    |(refine⟨by simp only [Q5];omega,QR _,by simp only [Q5];omega⟩)
    |(refine⟨QR _,by simp only [Q5];omega,by simp only [Q5];omega⟩)
    |(refine⟨by simp only [Q5];omega,h.2,by simp only [Q5];omega⟩)
    |(refine⟨h.2,by simp only [Q5];omega,by simp only [Q5];omega⟩)
    |(refine⟨h.1,?_⟩;rw [QA hc.1.1 hc.1.2];exact ZR h.2)
    |(refine⟨h.1,?_⟩;rw [QA hc.1.1 hc.1.2];exact ZW _ _ _ (by first|omega|exact h.2.1|exact(QR _).1) (by first|omega|exact h.2.2|exact(QR _).2) (by first|omega|exact h.2.1|exact(QR _).1) (by first|omega|exact h.2.2|exact(QR _).2) (by omega) (by omega))
 refine⟨?_,?_,?_,?_,?_,?_,?_,?_,?_,?_,?_,?_,?_,?_,?_,?_,?_,?_,?_,?_,?_,?_,trivial⟩
 all_goals
  intro e u he hc hs
  have h0:e.int 0 0=c:=congrFun (he 0 (by decide)).1 0
  have h1:Zg e 1 0=s:=QA (he 1 (by decide)).1 (he 1 (by decide)).2.1
  have i1:e.int 1=ZC s:=(he 1 (by decide)).1
  have h2:e.int 2 0=n:=congrFun (he 2 (by decide)).1 0
  rw [VP hs,Qbo]
  clear hs he
  simp only [QC,Zb,Cd.holds,SX.den,cmI,PX.den,LX.den,VX.sat,List.map_cons,List.map_nil,List.append_nil,beq_iff_eq,bne_iff_ne,beq_eq_false_iff_ne,bne_eq_false_iff_eq,decide_eq_true_eq,decide_eq_false_iff_not,Bool.and_eq_true,Bool.and_eq_false_iff,ne_eq,List.getElem?_cons_zero,List.getElem?_cons_succ,Option.some.injEq,exists_eq_left',QI,QT,Q3,QS,QX,Xv,QB,QY,Qv8,Qw3,Qv0,QvE,Qv7,Qvz,h0,h1,i1,h2,ZC,arI]at hc
  congr 1
  clear h0 h2 i1
 all_goals
  have g3:QcK 3=7:=by decide
  have g4:QcK 4=8:=by decide
  have g5:QcK 5=9:=by decide
  have g6:QcK 6=10:=by decide
  first
   |(rw [QA hc.1.1 hc.1.2,QA hc.2.1.1 hc.2.1.2];clear h1 h;grind [YQ,KL])
   |(rw [QA hc.1.1 hc.1.2];clear h1 h;grind [YQ,KL])
   |(rw [h1];clear h1 h;grind [YQ,KL])
def QvB:Con Try.prog:= .mk' ⟨80,[.l (some .i64),.a Qc,.l (some .u32)],.a Qc,true⟩
 (fun ads=>match ads with| [d1,d2,d3]=>(Z4 d2).wf∧Q5 (Q8 d3)|_=>False)
 (fun ads=>match ads with| [d1,d2,d3]=>ZC (YQ (Q8 d1) (Z4 d2) (Q8 d3))|_=>fun _=>0)
 (fun ads=>match ads with| [d1,d2,d3]=>Xc (YQ (Q8 d1) (Z4 d2) (Q8 d3))|_=>fun _=>false)
 ⟨_,Try.func80,by kernel_rfl,by kernel_rfl⟩ (fun ads w hf hp=>by
   obtain⟨d1,_,rfl,f1,hf⟩:=Qf hf
   obtain⟨d2,_,rfl,f2,hf⟩:=Qf hf
   obtain⟨d3,_,rfl,f3,hf⟩:=Qf hf
   obtain rfl:=Qn hf
   show Calls _ _ #[d1.val,d2.val,d3.val] w _
   rw [QH f1,X0 f2,QH f3]
   exact Qwc (Q8 d1) (Z4 d2) (Q8 d3) hp w)
def Qxv:List Sg:= [⟨78,[.a Qb],.l none,true⟩,⟨79,[.l (some .i64)],.l (some .i64),true⟩,⟨80,[.l (some .i64),.a Qc,.l (some .u32)],.a Qc,true⟩]
def Qwi:List PX:= [.l (.n .i64 (.v 0 0)),.a (Qa 1 0 Qb),.a (Qa 2 0 stK),.l (.t (.v 3 0))]
def QwI:List Rw:= []
def QwG:Cfg:=⟨4,Qxv,[]⟩
def Qxt:List Lf:=
 [⟨[.c (.v 8 0) false,.f 8 0 [.a (Qa 1 0 Qb)]],.v (.a (Qa 2 0 stK))⟩,⟨[.f 27 2 [.l (.n .i64 (.v 15 0)),.a (Qi 2 (.v 1 6)),.l (.n .u32 (.v 1 1))],.f 15 1 [.l (.n .i64 (.v 0 0))],.c (.v 3 0) false,.c (.v 8 0) true,.f 8 0 [.a (Qa 1 0 Qb)]],.v (.a (Z6 (.v 1 6) (27,0) [(2,0),(2,5),(2,10),(2,15),(2,20),(2,25),(2,30),(2,35)]))⟩,⟨[.f 24 2 [.l (.n .i64 (.v 0 0)),.a (Qi 2 (.v 1 6)),.l (.n .u32 (.v 1 1))],.c (.v 3 0) true,.c (.v 8 0) true,.f 8 0 [.a (Qa 1 0 Qb)]],.v (.a (Z6 (.v 1 6) (24,0) [(2,0),(2,5),(2,10),(2,15),(2,20),(2,25),(2,30),(2,35)]))⟩]
def Qxu:List Ob:=
 let z0:PX:= .l (.n .i64 (.v 0 0))
 let z1:List Cd:= [.f 15 1 [z0],.c (.v 3 0) false,.c (.v 8 0) true,.f 8 0 [.a (Qa 1 0 Qb)]]
 let z2:SX:= .c .geq (.v 1 6) (.i 0)
 let z3:SX:= .c .lss (.v 1 6) (.i 8)
 let z4:PX:= .a (Qi 2 (.v 1 6))
 let z5:PX:= .l (.n .u32 (.v 1 1))
 let z6:List Cd:= [.c (.v 3 0) true,.c (.v 8 0) true,.f 8 0 [.a (Qa 1 0 Qb)]]
 [.pre [] 0 [.a (Qa 1 0 Qb)],.pre [.c (.v 3 0) false,.c (.v 8 0) true,.f 8 0 [.a (Qa 1 0 Qb)]] 1 [z0],.cl z1 z2,.cl z1 z3,.pre z1 2 [.l (.n .i64 (.v 15 0)),z4,z5],.cl (.f 27 2 [.l (.n .i64 (.v 15 0)),z4,z5] :: z1) z2,.cl (.f 27 2 [.l (.n .i64 (.v 15 0)),z4,z5] :: z1) z3,.cl z6 z2,.cl z6 z3,.pre z6 2 [z0,z4,z5],.cl (.f 24 2 [z0,z4,z5] :: z6) z2,.cl (.f 24 2 [z0,z4,z5] :: z6) z3]
theorem QwH:QP Try.prog QwG 2000 Try.f29 Qwi QwI=some (Qxt,Qxu):=by kernel_rfl
set_option maxHeartbeats 8000000 in
theorem Qxf(cc:Int)(i:Ins)(s:Nat→Qd)(tk:Bool)(h:Yx cc∧i.wf∧∀k,(s k).wf)(w:World):Calls Try.prog 29 #[.int .i64 cc,i.val,ZT s,.bool tk] w (Ret (ZT (X3 cc i s tk)) w):=by
 refine QG (C:= [QvD,QvG,QvB]) (I:= []) Qr rfl Try.func29 QwH (Qu4 cc i s tk) w rfl (fun r hr=>(List.not_mem_nil hr).elim) _ ?_ ?_
 ·refine⟨?_,?_,?_,?_,?_,?_,?_,?_,?_,?_,?_,?_,trivial⟩
  all_goals
   intro e he hc
   have h00:e.int 0 0=cc:=congrFun (he 0 (by decide)).1 0
   have h0:e.int 1=Q9 i:=(he 1 (by decide)).1
   have hi:=ZE h0
   have h3:e.bool 3 0=tk:=congrFun (he 3 (by decide)).2.1 0
   have k1:=ZA (he 2 (by decide)).1 (he 2 (by decide)).2.1
   have k5:∀n,Zg e 2 (n * 5)=s n:=fun n=>by rw [Nat.mul_comm];exact k1 n
   clear he
   simp only [QC,Zb,Cd.holds,SX.den,cmI,PX.den,LX.den,VX.sat,List.map_cons,List.map_nil,List.append_nil,beq_iff_eq,bne_iff_ne,beq_eq_false_iff_ne,bne_eq_false_iff_eq,decide_eq_true_eq,decide_eq_false_iff_not,Bool.and_eq_true,Bool.and_eq_false_iff,ne_eq,List.getElem?_cons_zero,List.getElem?_cons_succ,Option.some.injEq,exists_eq_left',QI,QT,Q3,QS,QX,Xv,QB,QY,QvD,QvG,QvB,h0,Q9,hi,h00,h3,arI,true_and,k5]at hc ⊢
  all_goals
   first
    |exact h.1
    |(have hcm:Yt i=true:=by clear h0 hi k1 h00 h3 k5;grind
      have hr:=Qbj hcm
      first|omega|exact⟨h.2.2 _,h.2.1.2.1⟩|exact h.1)
 refine⟨?_,?_,?_,trivial⟩
 all_goals
  intro e u he hc hs
  have h00:e.int 0 0=cc:=congrFun (he 0 (by decide)).1 0
  have h0:e.int 1=Q9 i:=(he 1 (by decide)).1
  have hi:=ZE h0
  have h3:e.bool 3 0=tk:=congrFun (he 3 (by decide)).2.1 0
  have k1:=ZA (he 2 (by decide)).1 (he 2 (by decide)).2.1
  have h6:e.int 1 6=i.a:=by rw [h0];rfl
  rw [VP hs]
  clear hs he
  have k5:∀n,Zg e 2 (n * 5)=s n:=fun n=>by rw [Nat.mul_comm];exact k1 n
  simp only [QC,Zb,Cd.holds,SX.den,cmI,PX.den,LX.den,VX.sat,List.map_cons,List.map_nil,List.append_nil,beq_iff_eq,bne_iff_ne,beq_eq_false_iff_ne,bne_eq_false_iff_eq,decide_eq_true_eq,decide_eq_false_iff_not,Bool.and_eq_true,Bool.and_eq_false_iff,ne_eq,List.getElem?_cons_zero,List.getElem?_cons_succ,Option.some.injEq,exists_eq_left',QI,QT,Q3,QS,QX,Xv,QB,QY,QvD,QvG,QvB,h0,Q9,hi,h00,h3,arI,true_and,k5]at hc
  clear h0 h00 h3 hi
 all_goals
  first
   |(have hcm:Yt i=false:=by clear h6 k1 k5;grind
     rw [XK,X3,if_neg (by rw [hcm];decide)]
     exact Zr fun k _=>k1 k)
   |(have hcm:Yt i=true:=by clear h6 k1 k5;grind
     rw [X3,if_pos hcm,Qel k1 h6 (QA hc.1.1 hc.1.2)]
     refine congrArg ZT (congrArg (Ks s i.a) ?_)
     clear k1 h6 k5 h
     grind)
def Qwz:Con Try.prog:= .mk' ⟨29,[.l (some .i64),.a Qb,.a stK,.l none],.a stK,true⟩
 (fun ads=>match ads with| [d1,d2,d3,d4]=>Yx (Q8 d1)∧(Q0 d2).wf∧∀k,((stD d3) k).wf|_=>False)
 (fun ads=>match ads with| [d1,d2,d3,d4]=>ZH (X3 (Q8 d1) (Q0 d2) (stD d3) (QcL d4))|_=>fun _=>0)
 (fun ads=>match ads with| [d1,d2,d3,d4]=>QU (X3 (Q8 d1) (Q0 d2) (stD d3) (QcL d4))|_=>fun _=>false)
 ⟨_,Try.func29,by kernel_rfl,by kernel_rfl⟩ (fun ads w hf hp=>by
   obtain⟨d1,_,rfl,f1,hf⟩:=Qf hf
   obtain⟨d2,_,rfl,f2,hf⟩:=Qf hf
   obtain⟨d3,_,rfl,f3,hf⟩:=Qf hf
   obtain⟨d4,_,rfl,f4,hf⟩:=Qf hf
   obtain rfl:=Qn hf
   show Calls _ _ #[d1.val,d2.val,d3.val,d4.val] w _
   rw [QH f1,Zc f2,Vq f3,Qhy f4]
   exact Qxf (Q8 d1) (Q0 d2) (stD d3) (QcL d4) hp w)
end Go.Proofs.Yteplnamfpodmlaa
