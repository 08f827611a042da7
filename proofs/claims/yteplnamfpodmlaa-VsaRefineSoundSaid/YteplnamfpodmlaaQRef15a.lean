/-
  Part of the proof.
-/
import Derived.Test.YteplnamfpodmlaaQVsa3
set_option linter.unusedVariables false
set_option linter.unusedSimpArgs false
set_option maxRecDepth 100000
open Go.ChangeShapes Go.WideShapes Go.ChangeAt Go.RowKit
namespace Go.Proofs.Yteplnamfpodmlaa
def Qvu(s:Qd):Env:=⟨fun d=>match d with|0=>ZC s|_=>fun _=>0,fun d=>match d with|0=>Xc s|_=>fun _=>false,fun _=>0,fun _=>none⟩
def QpH:List Sg:= []
def Qj7:List PX:= [.l (.n .i64 (.v 0 0))]
def Qm2:List Rw:= []
def Qm0:Cfg:=⟨1,QpH,[]⟩
def QpF:List Lf:=
 [⟨[.c (.c .eql (.v 0 0) (.i 6)) true],.v (.l (.n .i64 (.i 3)))⟩,⟨[.c (.c .eql (.v 0 0) (.i 7)) true,.c (.c .eql (.v 0 0) (.i 6)) false],.v (.l (.n .i64 (.i 4)))⟩,⟨[.c (.c .eql (.v 0 0) (.i 8)) true,.c (.c .eql (.v 0 0) (.i 7)) false,.c (.c .eql (.v 0 0) (.i 6)) false],.v (.l (.n .i64 (.i 6)))⟩,⟨[.c (.c .eql (.v 0 0) (.i 9)) true,.c (.c .eql (.v 0 0) (.i 8)) false,.c (.c .eql (.v 0 0) (.i 7)) false,.c (.c .eql (.v 0 0) (.i 6)) false],.v (.l (.n .i64 (.i 7)))⟩,⟨[.c (.c .eql (.v 0 0) (.i 10)) true,.c (.c .eql (.v 0 0) (.i 9)) false,.c (.c .eql (.v 0 0) (.i 8)) false,.c (.c .eql (.v 0 0) (.i 7)) false,.c (.c .eql (.v 0 0) (.i 6)) false],.v (.l (.n .i64 (.i 8)))⟩,⟨[.c (.c .eql (.v 0 0) (.i 11)) true,.c (.c .eql (.v 0 0) (.i 10)) false,.c (.c .eql (.v 0 0) (.i 9)) false,.c (.c .eql (.v 0 0) (.i 8)) false,.c (.c .eql (.v 0 0) (.i 7)) false,.c (.c .eql (.v 0 0) (.i 6)) false],.v (.l (.n .i64 (.i 5)))⟩,⟨[.c (.c .eql (.v 0 0) (.i 12)) true,.c (.c .eql (.v 0 0) (.i 11)) false,.c (.c .eql (.v 0 0) (.i 10)) false,.c (.c .eql (.v 0 0) (.i 9)) false,.c (.c .eql (.v 0 0) (.i 8)) false,.c (.c .eql (.v 0 0) (.i 7)) false,.c (.c .eql (.v 0 0) (.i 6)) false],.v (.l (.n .i64 (.i 9)))⟩,⟨[.c (.c .eql (.v 0 0) (.i 13)) true,.c (.c .eql (.v 0 0) (.i 12)) false,.c (.c .eql (.v 0 0) (.i 11)) false,.c (.c .eql (.v 0 0) (.i 10)) false,.c (.c .eql (.v 0 0) (.i 9)) false,.c (.c .eql (.v 0 0) (.i 8)) false,.c (.c .eql (.v 0 0) (.i 7)) false,.c (.c .eql (.v 0 0) (.i 6)) false],.v (.l (.n .i64 (.i 10)))⟩,⟨[.c (.c .eql (.v 0 0) (.i 13)) false,.c (.c .eql (.v 0 0) (.i 12)) false,.c (.c .eql (.v 0 0) (.i 11)) false,.c (.c .eql (.v 0 0) (.i 10)) false,.c (.c .eql (.v 0 0) (.i 9)) false,.c (.c .eql (.v 0 0) (.i 8)) false,.c (.c .eql (.v 0 0) (.i 7)) false,.c (.c .eql (.v 0 0) (.i 6)) false],.v (.l (.n .i64 (.i 11)))⟩]
def QpG:List Ob:= []
theorem Qm1:QP Try.prog Qm0 2000 Try.f61 Qj7 Qm2=some (QpF,QpG):=by kernel_rfl
theorem QoQ(n:Int)(w:World):Calls Try.prog 61 #[.int .i64 n] w (Ret (.int .i64 (opL n)) w):=by
 refine QG (C:= []) (I:= []) Qr rfl Try.func61 Qm1 (Qdr n) w rfl (fun r hr=>(List.not_mem_nil hr).elim) _ ?_ ?_
 ·refine trivial
 refine⟨?_,?_,?_,?_,?_,?_,?_,?_,?_,trivial⟩
 all_goals
  intro e u he hc hs
  have h0:e.int 0 0=n:=by rw [(he 0 (by decide)).1];rfl
  simp only [QC,Zb,Cd.holds,SX.den,cmI,PX.den,LX.den,VX.sat,List.map_cons,List.map_nil,List.append_nil,beq_iff_eq,bne_iff_ne,beq_eq_false_iff_ne,bne_eq_false_iff_eq,decide_eq_true_eq,decide_eq_false_iff_not,Bool.and_eq_true,Bool.and_eq_false_iff,ne_eq,List.getElem?_cons_zero,List.getElem?_cons_succ,Option.some.injEq,exists_eq_left',QI,QT,Q3,QS,QX,Xv,QB,QY,h0]at hc
  rw [VP hs]
  simp only [PX.den,LX.den,SX.den,opL]
  congr 1
  grind
def Qgg:Con Try.prog:= .mk' ⟨61,[.l (some .i64)],.l (some .i64),true⟩
 (fun ads=>match ads with| [d1]=>True|_=>False)
 (fun ads=>match ads with| [d1]=>fun _=>opL (Q8 d1)|_=>fun _=>0)
 (fun ads=>match ads with| [d1]=>fun _=>false|_=>fun _=>false)
 ⟨_,Try.func61,by kernel_rfl,by kernel_rfl⟩ (fun ads w hf hp=>by
   obtain⟨d1,_,rfl,f1,hf⟩:=Qf hf
   obtain rfl:=Qn hf
   show Calls _ _ #[d1.val] w _
   rw [QH f1]
   exact QoQ (Q8 d1) w)
end Go.Proofs.Yteplnamfpodmlaa
