/-
  Part of the proof.
-/
import Derived.Test.YteplnamfpodmlaaRIsB
import Derived.Test.YteplnamfpodmlaaRKit
import Derived.Test.YteplnamfpodmlaaRT2
set_option linter.unusedVariables false
set_option linter.unusedSimpArgs false
set_option maxRecDepth 100000
open Go.ChangeShapes Go.WideShapes Go.ChangeAt Go.RowKit
section
namespace Go.Proofs.Yteplnamfpodmlaa
def QnJ(n:Int):Int:=if n=0 then 1 else if n=1 then 1 else if n=2 then 2 else if n=3 then 2 else if n=4 then 3 else if n=5 then 3 else if n=6 then 6 else if n=7 then 2 else 5
theorem Qsf(n:Int)(h:0≤n∧n≤8)(w:World):Calls Try.prog 145 #[.int .i64 n] w (Ret (.int .i64 (QnJ n)) w):=by
 rcases (by omega:n=0∨n=1∨n=2∨n=3∨n=4∨n=5∨n=6∨n=7∨n=8)with rfl|rfl|rfl|rfl|rfl|rfl|rfl|rfl|rfl
 all_goals
  go_enter Try.func145,Try.ntmps145
  go_wp2
  go_ret
  exact⟨rfl,Below.refl _ _⟩
theorem Qtx(n:Int)(w:World):Calls Try.prog 73 #[.int .i64 n] w (Ret (.int .i64 (Qe4 n)) w):=by
 by_cases h:1≤n∧n≤14
 ·rcases (by omega:n=1∨n=2∨n=3∨n=4∨n=5∨n=6∨n=7∨n=8∨n=9∨n=10∨n=11∨n=12∨n=13∨n=14)with rfl|rfl|rfl|rfl|rfl|rfl|rfl|rfl|rfl|rfl|rfl|rfl|rfl|rfl
  all_goals
   go_enter Try.func73,Try.ntmps73
   go_wp2
   go_ret
   exact⟨rfl,Below.refl _ _⟩
 ·have e:Qe4 n= -1:=by unfold Qe4;rw [if_neg];omega
  rw [e]
  clear e
  by_cases h1:n < 1
  ·clear h
   go_enter Try.func73,Try.ntmps73
   go_wp2
   go_ret
   exact⟨rfl,Below.refl _ _⟩
  ·have h2:15≤n:=by omega
   clear h
   go_enter Try.func73,Try.ntmps73
   go_wp2
   go_ret
   exact⟨rfl,Below.refl _ _⟩
def Qrm:Con Try.prog:= .mk' ⟨73,[.l (some .i64)],.l (some .i64),true⟩
 (fun ads=>match ads with| [d1]=>True|_=>False)
 (fun ads=>match ads with| [d1]=>fun _=>Qe4 (Q8 d1)|_=>fun _=>0)
 (fun ads=>match ads with| [d1]=>fun _=>false|_=>fun _=>false)
 ⟨_,Try.func73,by kernel_rfl,by kernel_rfl⟩ (fun ads w hf hp=>by
   obtain⟨d1,_,rfl,f1,hf⟩:=Qf hf
   obtain rfl:=Qn hf
   show Calls _ _ #[d1.val] w _
   rw [QH f1]
   exact Qtx (Q8 d1) w)
def QkD:Con Try.prog:= .mk' ⟨145,[.l (some .i64)],.l (some .i64),true⟩
 (fun ads=>match ads with| [d1]=>0≤(Q8 d1)∧(Q8 d1)≤8|_=>False)
 (fun ads=>match ads with| [d1]=>fun _=>QnJ (Q8 d1)|_=>fun _=>0)
 (fun ads=>match ads with| [d1]=>fun _=>false|_=>fun _=>false)
 ⟨_,Try.func145,by kernel_rfl,by kernel_rfl⟩ (fun ads w hf hp=>by
   obtain⟨d1,_,rfl,f1,hf⟩:=Qf hf
   obtain rfl:=Qn hf
   show Calls _ _ #[d1.val] w _
   rw [QH f1]
   exact Qsf (Q8 d1) hp w)
def JK(i:Ins):Bool:=i.op==1 || i.op==2 || i.op==21 || i.op==22 || (i.op==20 && i.cc==0)
def QsC:List Sg:= []
def Qme:List PX:= [.a (Qa 0 0 Qb)]
def Qp2:List Rw:= []
def Qp0:Cfg:=⟨1,QsC,[]⟩
def QsA:List Lf:=
 let z0:VX:= .v (.l (.t (.b true)))
 [⟨[.c (.c .eql (.v 0 2) (.i 1)) true],z0⟩,⟨[.c (.c .eql (.v 0 2) (.i 2)) true,.c (.c .eql (.v 0 2) (.i 1)) false],z0⟩,⟨[.c (.c .eql (.v 0 2) (.i 21)) true,.c (.c .eql (.v 0 2) (.i 2)) false,.c (.c .eql (.v 0 2) (.i 1)) false],z0⟩,⟨[.c (.c .eql (.v 0 2) (.i 22)) true,.c (.c .eql (.v 0 2) (.i 21)) false,.c (.c .eql (.v 0 2) (.i 2)) false,.c (.c .eql (.v 0 2) (.i 1)) false],z0⟩,⟨[.c (.c .eql (.v 0 2) (.i 22)) false,.c (.c .eql (.v 0 2) (.i 21)) false,.c (.c .eql (.v 0 2) (.i 2)) false,.c (.c .eql (.v 0 2) (.i 1)) false],.v (.l (.t (.an (.c .eql (.v 0 2) (.i 20)) (.c .eql (.v 0 5) (.i 0)))))⟩]
def QsB:List Ob:= []
theorem Qp1:QP Try.prog Qp0 2000 Try.f127 Qme Qp2=some (QsA,QsB):=by kernel_rfl
set_option maxHeartbeats 4000000 in
theorem QqG(i:Ins)(w:World):Calls Try.prog 127 #[i.val] w (Ret (.bool (JK i)) w):=by
 refine QG (C:= []) (I:= []) Qr rfl Try.func127 Qp1 (XX i) w rfl (fun r hr=>(List.not_mem_nil hr).elim) _ ?_ ?_
 ·refine trivial
  all_goals exact fun e he _=>trivial
 refine⟨?_,?_,?_,?_,?_,trivial⟩
 all_goals
  intro e u he hc hs
  have h0:=Zp he (by decide)
  have hi:=ZE h0
  simp only [QC,Zb,Cd.holds,SX.den,cmI,PX.den,LX.den,VX.sat,List.map_cons,List.map_nil,List.append_nil,beq_iff_eq,bne_iff_ne,beq_eq_false_iff_ne,bne_eq_false_iff_eq,decide_eq_true_eq,decide_eq_false_iff_not,Bool.and_eq_true,Bool.and_eq_false_iff,ne_eq,List.getElem?_cons_zero,List.getElem?_cons_succ,Option.some.injEq,exists_eq_left',QI,QT,Q3,QB,h0,Q9,hi,arI]at hc hs
  rw [hs]
  refine congrArg _ ?_
  clear hs he
  (repeat (rcases hc with ⟨_,hc⟩))
  (simp_all [Q9,JK]) <;> grind
def Qrj:Con Try.prog:= .mk' ⟨127,[.a Qb],.l none,true⟩
 (fun ads=>match ads with| [d1]=>True|_=>False)
 (fun ads=>match ads with| [d1]=>fun _=>0|_=>fun _=>0)
 (fun ads=>match ads with| [d1]=>fun _=>JK (Q0 d1)|_=>fun _=>false)
 ⟨_,Try.func127,by kernel_rfl,by kernel_rfl⟩ (fun ads w hf hp=>by
   obtain⟨d1,_,rfl,f1,hf⟩:=Qf hf
   obtain rfl:=Qn hf
   show Calls _ _ #[d1.val] w _
   rw [Zc f1]
   exact QqG (Q0 d1) w)
def KJ(i:Ins):Bool:=i.op==20 || i.op==23
def QlU:List Sg:= []
def Qg1:List PX:= [.a (Qa 0 0 Qb)]
def QiX:List Rw:= []
def QiV:Cfg:=⟨1,QlU,[]⟩
def QlS:List Lf:= [⟨[.c (.an (.no (.c .eql (.v 0 2) (.i 20))) (.no (.c .eql (.v 0 2) (.i 23)))) false],.tp [.l (.n .u32 (.v 0 1)),.l (.t (.b true))]⟩,
 ⟨[.c (.c .eql (.v 0 2) (.i 20)) false,.c (.c .eql (.v 0 2) (.i 23)) false],.tp [.l (.n .u32 (.i 0)),.l (.t (.b false))]⟩]
def QlT:List Ob:= []
theorem QiW:QP Try.prog QiV 2000 Try.f126 Qg1 QiX=some (QlS,QlT):=by kernel_rfl
theorem Qlq(i:Ins)(w:World):Calls Try.prog 126 #[i.val] w (Ret (.tuple #[.int .u32 (if KJ i then i.imm else 0),.bool (KJ i)]) w):=by
 refine QG (C:= []) (I:= []) Qr rfl Try.func126 QiW (XX i) w rfl (fun r hr=>(List.not_mem_nil hr).elim) _ trivial ?_
 refine⟨?_,?_,trivial⟩
 all_goals
  intro e u he hc hs
  have h0:=Zp he (by decide)
  simp only [QC,Zb,Cd.holds,SX.den,cmI,PX.den,LX.den,VX.sat,List.map_cons,List.map_nil,List.append_nil,beq_iff_eq,bne_iff_ne,beq_eq_false_iff_ne,bne_eq_false_iff_eq,decide_eq_true_eq,decide_eq_false_iff_not,Bool.and_eq_true,Bool.and_eq_false_iff,ne_eq,h0,Q9]at hc hs
  rw [hs]
  refine Qvq (congrArg _ ?_) (congrArg _ ?_) <;> grind [KJ]
def QhD:Con Try.prog:= .mk' ⟨126,[.a Qb],.tp [.inl (some .u32),.inl none],true⟩
 (fun ads=>match ads with| [d1]=>True|_=>False)
 (fun ads=>match ads with| [d1]=>fun _=>if KJ (Q0 d1)then((Q0 d1)).imm else 0|_=>fun _=>0)
 (fun ads=>match ads with| [d1]=>fun _=>KJ (Q0 d1)|_=>fun _=>false)
 ⟨_,Try.func126,by kernel_rfl,by kernel_rfl⟩ (fun ads w hf hp=>by
   obtain⟨d1,_,rfl,f1,hf⟩:=Qf hf
   obtain rfl:=Qn hf
   show Calls _ _ #[d1.val] w _
   rw [Zc f1]
   exact Qlq (Q0 d1) w)
def QdH(i:Ins):Int:=if V7 i=0 then QnJ (XP i)else 0
theorem Qt7(i:Ins):0≤XP i∧XP i≤8:=by
 unfold XP
 (repeat' split) <;> first|omega|decide|(simp [Qc4];(repeat' split) <;> omega)
def QlB:List Sg:= [⟨88,[.a Qb],.tp [.inl (some .u8),.inl (some .i64),.inl (some .i64)],false⟩,⟨145,[.l (some .i64)],.l (some .i64),true⟩]
def Qgu:List PX:= [.a (Qa 0 0 Qb)]
def QiF:List Rw:= []
def QiD:Cfg:=⟨1,QlB,[]⟩
def Ql9:List Lf:= [⟨[.c (.c .neq (.v 4 2) (.i 0)) true,.f 4 0 [.a (Qa 0 0 Qb)]],.v (.l (.n .i64 (.i 0)))⟩,
 ⟨[.f 15 1 [.l (.n .i64 (.v 4 1))],.c (.c .neq (.v 4 2) (.i 0)) false,.f 4 0 [.a (Qa 0 0 Qb)]],.v (.l (.n .i64 (.v 15 0)))⟩]
def QlA:List Ob:= [.pre [] 0 [.a (Qa 0 0 Qb)],
 .pre [.c (.c .neq (.v 4 2) (.i 0)) false,.f 4 0 [.a (Qa 0 0 Qb)]] 1 [.l (.n .i64 (.v 4 1))]]
theorem QiE:QP Try.prog QiD 2000 Try.f138 Qgu QiF=some (Ql9,QlA):=by kernel_rfl
theorem QkF(i:Ins)(w:World):Calls Try.prog 138 #[i.val] w (Ret (.int .i64 (QdH i)) w):=by
 refine QG (C:= [YD,QkD]) (I:= []) Qr rfl Try.func138 QiE (XX i) w rfl (fun r hr=>(List.not_mem_nil hr).elim) _ ?_ ?_
 ·refine⟨?_,?_,trivial⟩
  all_goals
   intro e he hc
   have h0:=Zp he (by decide)
   have hi:=ZE h0
   have hsr:=Qt7 i
   simp only [QC,Zb,Cd.holds,SX.den,cmI,PX.den,LX.den,VX.sat,List.map_cons,List.map_nil,List.append_nil,beq_iff_eq,bne_iff_ne,beq_eq_false_iff_ne,bne_eq_false_iff_eq,decide_eq_true_eq,decide_eq_false_iff_not,Bool.and_eq_true,Bool.and_eq_false_iff,ne_eq,List.getElem?_cons_zero,List.getElem?_cons_succ,Option.some.injEq,exists_eq_left',QI,QT,Q3,QB,YD,QkD,h0,Q9,hi]at hc ⊢
   all_goals first
    |trivial
    |(have:Wd i=XP i∨Wd i=0:=by(unfold Wd;split <;> simp)
      grind)
 refine⟨?_,?_,trivial⟩
 all_goals
  intro e u he hc hs
  have h0:=Zp he (by decide)
  have hi:=ZE h0
  simp only [QC,Zb,Cd.holds,SX.den,cmI,PX.den,LX.den,VX.sat,List.map_cons,List.map_nil,List.append_nil,beq_iff_eq,bne_iff_ne,beq_eq_false_iff_ne,bne_eq_false_iff_eq,decide_eq_true_eq,decide_eq_false_iff_not,Bool.and_eq_true,Bool.and_eq_false_iff,ne_eq,List.getElem?_cons_zero,List.getElem?_cons_succ,Option.some.injEq,exists_eq_left',QI,QT,Q3,QB,YD,QkD,h0,Q9,hi]at hc hs
  rw [hs]
  refine congrArg _ ?_
  clear hs he
  have hS:V7 i=0→Wd i=XP i:=fun h=>by unfold Wd;rw [if_pos h]
  unfold QdH
  grind
def QhC:Con Try.prog:= .mk' ⟨138,[.a Qb],.l (some .i64),true⟩
 (fun ads=>match ads with| [d1]=>True|_=>False)
 (fun ads=>match ads with| [d1]=>fun _=>QdH (Q0 d1)|_=>fun _=>0)
 (fun ads=>match ads with| [d1]=>fun _=>false|_=>fun _=>false)
 ⟨_,Try.func138,by kernel_rfl,by kernel_rfl⟩ (fun ads w hf hp=>by
   obtain⟨d1,_,rfl,f1,hf⟩:=Qf hf
   obtain rfl:=Qn hf
   show Calls _ _ #[d1.val] w _
   rw [Zc f1]
   exact QkF (Q0 d1) w)
def ZY(i:Ins):Int:=IntKind.u32.wrap (i.addr+IntKind.u32.wrap (QdH i))
def Qs6:List Sg:= [⟨138,[.a Qb],.l (some .i64),true⟩]
def QlI:List PX:= [.a (Qa 0 0 Qb)]
def Qpv:List Rw:= []
def Qpt:Cfg:=⟨1,Qs6,[]⟩
def Qs4:List Lf:= [⟨[.f 6 0 [.a (Qa 0 0 Qb)]],.v (.l (.n .u32 (.o .add .u32 (.v 0 0) (.cv .u32 (.v 6 0)))))⟩]
def Qs5:List Ob:= [.pre [] 0 [.a (Qa 0 0 Qb)]]
theorem Qpu:QP Try.prog Qpt 2000 Try.f128 QlI Qpv=some (Qs4,Qs5):=by kernel_rfl
theorem Qr2(i:Ins)(w:World):Calls Try.prog 128 #[i.val] w (Ret (.int .u32 (ZY i)) w):=by
 refine QG (C:= [QhC]) (I:= []) Qr rfl Try.func128 Qpu (XX i) w rfl (fun r hr=>(List.not_mem_nil hr).elim) _ ?_ ?_
 ·refine⟨?_,trivial⟩
  all_goals exact fun e he _=>trivial
 refine⟨?_,trivial⟩
 all_goals
  intro e u he hc hs
  have h0:=Zp he (by decide)
  have hi:=ZE h0
  simp only [QC,Zb,Cd.holds,SX.den,cmI,PX.den,LX.den,VX.sat,List.map_cons,List.map_nil,List.append_nil,beq_iff_eq,bne_iff_ne,beq_eq_false_iff_ne,bne_eq_false_iff_eq,decide_eq_true_eq,decide_eq_false_iff_not,Bool.and_eq_true,Bool.and_eq_false_iff,ne_eq,List.getElem?_cons_zero,List.getElem?_cons_succ,Option.some.injEq,exists_eq_left',QI,QT,Q3,QB,QhC,h0,Q9,hi,arI]at hc hs
  rw [hs,hc.1.1]
  rfl
def Qrl:Con Try.prog:= .mk' ⟨128,[.a Qb],.l (some .u32),true⟩
 (fun ads=>match ads with| [d1]=>True|_=>False)
 (fun ads=>match ads with| [d1]=>fun _=>ZY (Q0 d1)|_=>fun _=>0)
 (fun ads=>match ads with| [d1]=>fun _=>false|_=>fun _=>false)
 ⟨_,Try.func128,by kernel_rfl,by kernel_rfl⟩ (fun ads w hf hp=>by
   obtain⟨d1,_,rfl,f1,hf⟩:=Qf hf
   obtain rfl:=Qn hf
   show Calls _ _ #[d1.val] w _
   rw [Zc f1]
   exact Qr2 (Q0 d1) w)
end Go.Proofs.Yteplnamfpodmlaa
end
section
namespace Go.Proofs.Yteplnamfpodmlaa
end Go.Proofs.Yteplnamfpodmlaa
namespace Go.Proofs.Yteplnamfpodmlaa.T2
end Go.Proofs.Yteplnamfpodmlaa.T2
namespace Go.Proofs.Yteplnamfpodmlaa
end Go.Proofs.Yteplnamfpodmlaa
namespace Go.Proofs.Yteplnamfpodmlaa.T2
end Go.Proofs.Yteplnamfpodmlaa.T2
namespace Go.Proofs.Yteplnamfpodmlaa
end Go.Proofs.Yteplnamfpodmlaa
end
