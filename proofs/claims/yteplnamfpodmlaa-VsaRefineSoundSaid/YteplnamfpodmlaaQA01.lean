/-
  Part of the proof.
-/
import Derived.Test.YteplnamfpodmlaaQIsB
import Derived.Test.YteplnamfpodmlaaQKit
import Derived.Test.YteplnamfpodmlaaQT2
set_option linter.unusedVariables false
set_option linter.unusedSimpArgs false
set_option maxRecDepth 100000
open Go.ChangeShapes Go.WideShapes Go.ChangeAt Go.RowKit
section
namespace Go.Proofs.Yteplnamfpodmlaa
def QnJ(n:Int):Int:=if n=0 then 1 else if n=1 then 1 else if n=2 then 2 else if n=3 then 2 else if n=4 then 3 else if n=5 then 3 else if n=6 then 6 else if n=7 then 2 else 5
theorem Qsf(n:Int)(h:0≤n∧n≤8)(w:World):Calls Try.prog 145 #[.int .i64 n] w (Ret (.int .i64 (QnJ n)) w):=by
 rcases (by omega:n=0∨n=1∨n=2∨n=3∨n=4∨n=5∨n=6∨n=7∨n=8)with rfl|rfl|rfl|rfl|rfl|rfl|rfl|rfl|rfl
 all_goals
  go_enter Try.func145,Try.ntmps145
  go_wp2
  go_ret
  exact⟨rfl,Below.refl _ _⟩
theorem Qtx(n:Int)(w:World):Calls Try.prog 73 #[.int .i64 n] w (Ret (.int .i64 (Qe4 n)) w):=by
 by_cases h:1≤n∧n≤14
 ·rcases (by omega:n=1∨n=2∨n=3∨n=4∨n=5∨n=6∨n=7∨n=8∨n=9∨n=10∨n=11∨n=12∨n=13∨n=14)with rfl|rfl|rfl|rfl|rfl|rfl|rfl|rfl|rfl|rfl|rfl|rfl|rfl|rfl
  all_goals
   go_enter Try.func73,Try.ntmps73
   go_wp2
   go_ret
   exact⟨rfl,Below.refl _ _⟩
 ·have e:Qe4 n= -1:=by unfold Qe4;rw [if_neg];omega
  rw [e]
  clear e
  by_cases h1:n < 1
  ·clear h
   go_enter Try.func73,Try.ntmps73
   go_wp2
   go_ret
   exact⟨rfl,Below.refl _ _⟩
  ·have h2:15≤n:=by omega
   clear h
   go_enter Try.func73,Try.ntmps73
   go_wp2
   go_ret
   exact⟨rfl,Below.refl _ _⟩
def Qrm:Con Try.prog:= .mk' ⟨73,[.l (some .i64)],.l (some .i64),true⟩
 (fun ads=>match ads with| [d1]=>True|_=>False)
 (fun ads=>match ads with| [d1]=>fun _=>Qe4 (Q8 d1)|_=>fun _=>0)
 (fun ads=>match ads with| [d1]=>fun _=>false|_=>fun _=>false)
 ⟨_,Try.func73,by kernel_rfl,by kernel_rfl⟩ (fun ads w hf hp=>by
   obtain⟨d1,_,rfl,f1,hf⟩:=Qf hf
   obtain rfl:=Qn hf
   show Calls _ _ #[d1.val] w _
   rw [QH f1]
   exact Qtx (Q8 d1) w)
def QkD:Con Try.prog:= .mk' ⟨145,[.l (some .i64)],.l (some .i64),true⟩
 (fun ads=>match ads with| [d1]=>0≤(Q8 d1)∧(Q8 d1)≤8|_=>False)
 (fun ads=>match ads with| [d1]=>fun _=>QnJ (Q8 d1)|_=>fun _=>0)
 (fun ads=>match ads with| [d1]=>fun _=>false|_=>fun _=>false)
 ⟨_,Try.func145,by kernel_rfl,by kernel_rfl⟩ (fun ads w hf hp=>by
   obtain⟨d1,_,rfl,f1,hf⟩:=Qf hf
   obtain rfl:=Qn hf
   show Calls _ _ #[d1.val] w _
   rw [QH f1]
   exact Qsf (Q8 d1) hp w)
def JK(i:Ins):Bool:=i.op==1 || i.op==2 || i.op==21 || i.op==22 || (i.op==20 && i.cc==0)
def QsC:List Sg:= []
def Qme:List PX:= [.a (Qa 0 0 Qb)]
def Qp2:List Rw:= []
def Qp0:Cfg:=⟨1,QsC,[]⟩
def QsA:List Lf:=
 let z0:VX:= .v (.l (.t (.b true)))
 [⟨[.c (.c .eql (.v 0 2) (.i 1)) true],z0⟩,⟨[.c (.c .eql (.v 0 2) (.i 2)) true,.c (.c .eql (.v 0 2) (.i 1)) false],z0⟩,⟨[.c (.c .eql (.v 0 2) (.i 21)) true,.c (.c .eql (.v 0 2) (.i 2)) false,.c (.c .eql (.v 0 2) (.i 1)) false],z0⟩,⟨[.c (.c .eql (.v 0 2) (.i 22)) true,.c (.c .eql (.v 0 2) (.i 21)) false,.c (.c .eql (.v 0 2) (.i 2)) false,.c (.c .eql (.v 0 2) (.i 1)) false],z0⟩,⟨[.c (.c .eql (.v 0 2) (.i 22)) false,.c (.c .eql (.v 0 2) (.i 21)) false,.c (.c .eql (.v 0 2) (.i 2)) false,.c (.c .eql (.v 0 2) (.i 1)) false],.v (.l (.t (.an (.c .eql (.v 0 2) (.i 20)) (.c .eql (.v 0 5) (.i 0)))))⟩]
def QsB:List Ob:= []
theorem Qp1:QP Try.prog Qp0 2000 Try.f127 Qme Qp2=some (QsA,QsB):=by kernel_rfl
set_option maxHeartbeats 4000000 in
theorem QqG(i:Ins)(w:World):Calls Try.prog 127 #[i.val] w (Ret (.bool (JK i)) w):=by
 refine QG (C:= []) (I:= []) Qr rfl Try.func127 Qp1 (XX i) w rfl (fun r hr=>(List.not_mem_nil hr).elim) _ ?_ ?_
 ·refine trivial
  all_goals exact fun e he _=>trivial
 refine⟨?_,?_,?_,?_,?_,trivial⟩
 all_goals
  intro e u he hc hs
  have h0:=Zp he (by decide)
  have hi:=ZE h0
  simp only [QC,Zb,Cd.holds,SX.den,cmI,PX.den,LX.den,VX.sat,List.map_cons,List.map_nil,List.append_nil,beq_iff_eq,bne_iff_ne,beq_eq_false_iff_ne,bne_eq_false_iff_eq,decide_eq_true_eq,decide_eq_false_iff_not,Bool.and_eq_true,Bool.and_eq_false_iff,ne_eq,List.getElem?_cons_zero,List.getElem?_cons_succ,Option.some.injEq,exists_eq_left',QI,QT,Q3,QB,h0,Q9,hi,arI]at hc hs
  rw [hs]
  refine congrArg _ ?_
  clear hs he
  (repeat (rcases hc with ⟨_,hc⟩))
  (simp_all [Q9,JK]) <;> grind
def QpK:List Sg:= []
def Qj8:List PX:= [.a (Qa 0 0 Qb)]
def Qm5:List Rw:= []
def Qm3:Cfg:=⟨1,QpK,[]⟩
def QpI:List Lf:= [⟨[],.v (.l (.t (.no (.an (.an (.an (.an (.no (.c .eql (.v 0 2) (.i 1))) (.no (.c .eql (.v 0 2) (.i 2)))) (.no (.c .eql (.v 0 2) (.i 21)))) (.no (.c .eql (.v 0 2) (.i 22)))) (.no (.an (.c .eql (.v 0 2) (.i 20)) (.c .eql (.v 0 5) (.i 0))))))))⟩]
def QpJ:List Ob:= []
theorem Qm4:QP Try.prog Qm3 2000 Try.f43 Qj8 Qm5=some (QpI,QpJ):=by kernel_rfl
set_option maxHeartbeats 4000000 in
theorem QoM(i:Ins)(w:World):Calls Try.prog 43 #[i.val] w (Ret (.bool (JK i)) w):=by
 refine QG (C:= []) (I:= []) Qr rfl Try.func43 Qm4 (XX i) w rfl (fun r hr=>(List.not_mem_nil hr).elim) _ ?_ ?_
 ·refine trivial
  all_goals exact fun e he _=>trivial
 refine⟨?_,trivial⟩
 all_goals
  intro e u he hc hs
  have h0:=Zp he (by decide)
  have hi:=ZE h0
  simp only [QC,Zb,Cd.holds,SX.den,cmI,PX.den,LX.den,VX.sat,List.map_cons,List.map_nil,List.append_nil,beq_iff_eq,bne_iff_ne,beq_eq_false_iff_ne,bne_eq_false_iff_eq,decide_eq_true_eq,decide_eq_false_iff_not,Bool.and_eq_true,Bool.and_eq_false_iff,ne_eq,List.getElem?_cons_zero,List.getElem?_cons_succ,Option.some.injEq,exists_eq_left',QI,QT,Q3,QB,h0,Q9,hi,arI]at hc hs
  rw [hs]
  refine congrArg _ ?_
  clear hs he
  (repeat (rcases hc with ⟨_,hc⟩))
  (simp_all [Q9,JK]) <;> grind
def Qrj:Con Try.prog:= .mk' ⟨127,[.a Qb],.l none,true⟩
 (fun ads=>match ads with| [d1]=>True|_=>False)
 (fun ads=>match ads with| [d1]=>fun _=>0|_=>fun _=>0)
 (fun ads=>match ads with| [d1]=>fun _=>JK (Q0 d1)|_=>fun _=>false)
 ⟨_,Try.func127,by kernel_rfl,by kernel_rfl⟩ (fun ads w hf hp=>by
   obtain⟨d1,_,rfl,f1,hf⟩:=Qf hf
   obtain rfl:=Qn hf
   show Calls _ _ #[d1.val] w _
   rw [Zc f1]
   exact QqG (Q0 d1) w)
def Qgf:Con Try.prog:= .mk' ⟨43,[.a Qb],.l none,true⟩
 (fun ads=>match ads with| [d1]=>True|_=>False)
 (fun ads=>match ads with| [d1]=>fun _=>0|_=>fun _=>0)
 (fun ads=>match ads with| [d1]=>fun _=>JK (Q0 d1)|_=>fun _=>false)
 ⟨_,Try.func43,by kernel_rfl,by kernel_rfl⟩ (fun ads w hf hp=>by
   obtain⟨d1,_,rfl,f1,hf⟩:=Qf hf
   obtain rfl:=Qn hf
   show Calls _ _ #[d1.val] w _
   rw [Zc f1]
   exact QoM (Q0 d1) w)
def KJ(i:Ins):Bool:=i.op==20 || i.op==23
def QlU:List Sg:= []
def Qg1:List PX:= [.a (Qa 0 0 Qb)]
def QiX:List Rw:= []
def QiV:Cfg:=⟨1,QlU,[]⟩
def QlS:List Lf:= [⟨[.c (.an (.no (.c .eql (.v 0 2) (.i 20))) (.no (.c .eql (.v 0 2) (.i 23)))) false],.tp [.l (.n .u32 (.v 0 1)),.l (.t (.b true))]⟩,
 ⟨[.c (.c .eql (.v 0 2) (.i 20)) false,.c (.c .eql (.v 0 2) (.i 23)) false],.tp [.l (.n .u32 (.i 0)),.l (.t (.b false))]⟩]
def QlT:List Ob:= []
theorem QiW:QP Try.prog QiV 2000 Try.f126 Qg1 QiX=some (QlS,QlT):=by kernel_rfl
theorem Qlq(i:Ins)(w:World):Calls Try.prog 126 #[i.val] w (Ret (.tuple #[.int .u32 (if KJ i then i.imm else 0),.bool (KJ i)]) w):=by
 refine QG (C:= []) (I:= []) Qr rfl Try.func126 QiW (XX i) w rfl (fun r hr=>(List.not_mem_nil hr).elim) _ trivial ?_
 refine⟨?_,?_,trivial⟩
 all_goals
  intro e u he hc hs
  have h0:=Zp he (by decide)
  simp only [QC,Zb,Cd.holds,SX.den,cmI,PX.den,LX.den,VX.sat,List.map_cons,List.map_nil,List.append_nil,beq_iff_eq,bne_iff_ne,beq_eq_false_iff_ne,bne_eq_false_iff_eq,decide_eq_true_eq,decide_eq_false_iff_not,Bool.and_eq_true,Bool.and_eq_false_iff,ne_eq,h0,Q9]at hc hs
  rw [hs]
  refine Qvq (congrArg _ ?_) (congrArg _ ?_) <;> grind [KJ]
def QhD:Con Try.prog:= .mk' ⟨126,[.a Qb],.tp [.inl (some .u32),.inl none],true⟩
 (fun ads=>match ads with| [d1]=>True|_=>False)
 (fun ads=>match ads with| [d1]=>fun _=>if KJ (Q0 d1)then((Q0 d1)).imm else 0|_=>fun _=>0)
 (fun ads=>match ads with| [d1]=>fun _=>KJ (Q0 d1)|_=>fun _=>false)
 ⟨_,Try.func126,by kernel_rfl,by kernel_rfl⟩ (fun ads w hf hp=>by
   obtain⟨d1,_,rfl,f1,hf⟩:=Qf hf
   obtain rfl:=Qn hf
   show Calls _ _ #[d1.val] w _
   rw [Zc f1]
   exact Qlq (Q0 d1) w)
def QdH(i:Ins):Int:=if V7 i=0 then QnJ (XP i)else 0
theorem Qt7(i:Ins):0≤XP i∧XP i≤8:=by
 unfold XP
 (repeat' split) <;> first|omega|decide|(simp [Qc4];(repeat' split) <;> omega)
def QlB:List Sg:= [⟨88,[.a Qb],.tp [.inl (some .u8),.inl (some .i64),.inl (some .i64)],false⟩,⟨145,[.l (some .i64)],.l (some .i64),true⟩]
def Qgu:List PX:= [.a (Qa 0 0 Qb)]
def QiF:List Rw:= []
def QiD:Cfg:=⟨1,QlB,[]⟩
def Ql9:List Lf:= [⟨[.c (.c .neq (.v 4 2) (.i 0)) true,.f 4 0 [.a (Qa 0 0 Qb)]],.v (.l (.n .i64 (.i 0)))⟩,
 ⟨[.f 15 1 [.l (.n .i64 (.v 4 1))],.c (.c .neq (.v 4 2) (.i 0)) false,.f 4 0 [.a (Qa 0 0 Qb)]],.v (.l (.n .i64 (.v 15 0)))⟩]
def QlA:List Ob:= [.pre [] 0 [.a (Qa 0 0 Qb)],
 .pre [.c (.c .neq (.v 4 2) (.i 0)) false,.f 4 0 [.a (Qa 0 0 Qb)]] 1 [.l (.n .i64 (.v 4 1))]]
theorem QiE:QP Try.prog QiD 2000 Try.f138 Qgu QiF=some (Ql9,QlA):=by kernel_rfl
theorem QkF(i:Ins)(w:World):Calls Try.prog 138 #[i.val] w (Ret (.int .i64 (QdH i)) w):=by
 refine QG (C:= [YD,QkD]) (I:= []) Qr rfl Try.func138 QiE (XX i) w rfl (fun r hr=>(List.not_mem_nil hr).elim) _ ?_ ?_
 ·refine⟨?_,?_,trivial⟩
  all_goals
   intro e he hc
   have h0:=Zp he (by decide)
   have hi:=ZE h0
   have hsr:=Qt7 i
   simp only [QC,Zb,Cd.holds,SX.den,cmI,PX.den,LX.den,VX.sat,List.map_cons,List.map_nil,List.append_nil,beq_iff_eq,bne_iff_ne,beq_eq_false_iff_ne,bne_eq_false_iff_eq,decide_eq_true_eq,decide_eq_false_iff_not,Bool.and_eq_true,Bool.and_eq_false_iff,ne_eq,List.getElem?_cons_zero,List.getElem?_cons_succ,Option.some.injEq,exists_eq_left',QI,QT,Q3,QB,YD,QkD,h0,Q9,hi]at hc ⊢
   all_goals first
    |trivial
    |(have:Wd i=XP i∨Wd i=0:=by(unfold Wd;split <;> simp)
      grind)
 refine⟨?_,?_,trivial⟩
 all_goals
  intro e u he hc hs
  have h0:=Zp he (by decide)
  have hi:=ZE h0
  simp only [QC,Zb,Cd.holds,SX.den,cmI,PX.den,LX.den,VX.sat,List.map_cons,List.map_nil,List.append_nil,beq_iff_eq,bne_iff_ne,beq_eq_false_iff_ne,bne_eq_false_iff_eq,decide_eq_true_eq,decide_eq_false_iff_not,Bool.and_eq_true,Bool.and_eq_false_iff,ne_eq,List.getElem?_cons_zero,List.getElem?_cons_succ,Option.some.injEq,exists_eq_left',QI,QT,Q3,QB,YD,QkD,h0,Q9,hi]at hc hs
  rw [hs]
  refine congrArg _ ?_
  clear hs he
  have hS:V7 i=0→Wd i=XP i:=fun h=>by unfold Wd;rw [if_pos h]
  unfold QdH
  grind
def QhC:Con Try.prog:= .mk' ⟨138,[.a Qb],.l (some .i64),true⟩
 (fun ads=>match ads with| [d1]=>True|_=>False)
 (fun ads=>match ads with| [d1]=>fun _=>QdH (Q0 d1)|_=>fun _=>0)
 (fun ads=>match ads with| [d1]=>fun _=>false|_=>fun _=>false)
 ⟨_,Try.func138,by kernel_rfl,by kernel_rfl⟩ (fun ads w hf hp=>by
   obtain⟨d1,_,rfl,f1,hf⟩:=Qf hf
   obtain rfl:=Qn hf
   show Calls _ _ #[d1.val] w _
   rw [Zc f1]
   exact QkF (Q0 d1) w)
def ZY(i:Ins):Int:=IntKind.u32.wrap (i.addr+IntKind.u32.wrap (QdH i))
def Qs6:List Sg:= [⟨138,[.a Qb],.l (some .i64),true⟩]
def QlI:List PX:= [.a (Qa 0 0 Qb)]
def Qpv:List Rw:= []
def Qpt:Cfg:=⟨1,Qs6,[]⟩
def Qs4:List Lf:= [⟨[.f 6 0 [.a (Qa 0 0 Qb)]],.v (.l (.n .u32 (.o .add .u32 (.v 0 0) (.cv .u32 (.v 6 0)))))⟩]
def Qs5:List Ob:= [.pre [] 0 [.a (Qa 0 0 Qb)]]
theorem Qpu:QP Try.prog Qpt 2000 Try.f128 QlI Qpv=some (Qs4,Qs5):=by kernel_rfl
theorem Qr2(i:Ins)(w:World):Calls Try.prog 128 #[i.val] w (Ret (.int .u32 (ZY i)) w):=by
 refine QG (C:= [QhC]) (I:= []) Qr rfl Try.func128 Qpu (XX i) w rfl (fun r hr=>(List.not_mem_nil hr).elim) _ ?_ ?_
 ·refine⟨?_,trivial⟩
  all_goals exact fun e he _=>trivial
 refine⟨?_,trivial⟩
 all_goals
  intro e u he hc hs
  have h0:=Zp he (by decide)
  have hi:=ZE h0
  simp only [QC,Zb,Cd.holds,SX.den,cmI,PX.den,LX.den,VX.sat,List.map_cons,List.map_nil,List.append_nil,beq_iff_eq,bne_iff_ne,beq_eq_false_iff_ne,bne_eq_false_iff_eq,decide_eq_true_eq,decide_eq_false_iff_not,Bool.and_eq_true,Bool.and_eq_false_iff,ne_eq,List.getElem?_cons_zero,List.getElem?_cons_succ,Option.some.injEq,exists_eq_left',QI,QT,Q3,QB,QhC,h0,Q9,hi,arI]at hc hs
  rw [hs,hc.1.1]
  rfl
def Qrl:Con Try.prog:= .mk' ⟨128,[.a Qb],.l (some .u32),true⟩
 (fun ads=>match ads with| [d1]=>True|_=>False)
 (fun ads=>match ads with| [d1]=>fun _=>ZY (Q0 d1)|_=>fun _=>0)
 (fun ads=>match ads with| [d1]=>fun _=>false|_=>fun _=>false)
 ⟨_,Try.func128,by kernel_rfl,by kernel_rfl⟩ (fun ads w hf hp=>by
   obtain⟨d1,_,rfl,f1,hf⟩:=Qf hf
   obtain rfl:=Qn hf
   show Calls _ _ #[d1.val] w _
   rw [Zc f1]
   exact Qr2 (Q0 d1) w)
end Go.Proofs.Yteplnamfpodmlaa
end
section
namespace Go.Proofs.Yteplnamfpodmlaa
def QuD(i:Ins):Int:=
 if VD i.op=true then(if i.form=0 then 2 else if i.form=1 then 3 else 6)
 else if XZ i.op=true then 3 else if i.op=19 then 3 else if i.op=20 then(if i.form=1 then 2 else 5)else if i.op=23 then 5 else if i.op=22 then 6
 else if i.op=24∨i.op=21∨i.op=25∨i.op=26∨i.op=27 then 2 else 1
theorem QoL{i:Ins}(h:Qj i=true):0≤i.op∧i.op≤27∧Qbs i=true∧(W7 i.op=true→Qbw i.cc=true):=by
 unfold Qj at h
 rw [beq_iff_eq]at h
 unfold Qga at h
 by_cases h1:i.op < 0∨27 < i.op∨Qbs i=false∨Wu i=false
 ·rw [if_pos h1]at h;cases h
 rw [if_neg h1]at h
 refine⟨by omega,by omega,?_,fun hc=>?_⟩
 ·cases hf:Qbs i with
  |true=>rfl
  |false=>exact absurd (Or.inr (Or.inr (Or.inl hf))) h1
 ·cases hf:Qbw i.cc with
  |true=>rfl
  |false=>
   split at h
   ·cases h
   ·rw [if_pos (.inl ⟨hc,hf⟩)]at h;cases h
theorem Qtt{i:Ins}(h:Qj i=true):QdH i=QuD i:=by
 obtain⟨h1,h2,h3,h4⟩:=QoL h
 rw [←Qen]at h
 unfold YF at h
 rw [beq_iff_eq]at h
 unfold QdH
 rw [if_pos h]
 clear h
 unfold Qbs VD at h3
 unfold W7 Qbw at h4
 obtain⟨addr,imm,op,form,width,cc,a,b,size⟩:=i
 simp only at h1 h2 h3 h4
 have h5:op=0∨op=1∨op=2∨op=3∨op=4∨op=5∨op=6∨op=7∨op=8∨op=9∨op=10∨op=11∨op=12∨op=13∨op=14∨op=15∨op=16∨op=17∨op=18∨op=19∨op=20∨op=21∨op=22∨op=23∨op=24∨op=25∨op=26∨op=27:=by omega
 clear h1 h2
 rcases h5 with rfl|rfl|rfl|rfl|rfl|rfl|rfl|rfl|rfl|rfl|rfl|rfl|rfl|rfl|rfl|rfl|rfl|rfl|rfl|rfl|rfl|rfl|rfl|rfl|rfl|rfl|rfl|rfl
 all_goals
  simp [XP,QnJ,Qc4,QuD,VD,XZ]at h3 h4 ⊢
  try grind
theorem Qvx{i:Ins}(h:Qj i=false):QdH i=0:=by
 rw [←Qen]at h
 unfold YF at h
 unfold QdH
 rw [if_neg (by simpa using h)]
end Go.Proofs.Yteplnamfpodmlaa
namespace Go.Proofs.Yteplnamfpodmlaa.T2
def QsY:List Sg:= [⟨25,[.a Qb],.b (.l none),true,false⟩,⟨113,[.l (some .i64)],.b (.l none),true,false⟩,⟨114,[.l (some .i64)],.b (.l none),true,false⟩]
def QmZ:List PX:= [.a (Qa 0 0 Qb)]
def Qqp:List Rw:= []
def Qqn:Cfg:=⟨2,QsY,[],[129,139,141,140],[]⟩
def QsW:List Lf:=
 let z0:Cd:= .f 14 0 [(.a (Qa 0 0 Qb),0)]
 let z1:Cd:= .f 86 1 [(.l (.n .i64 (.v 0 2)),0)]
 let z2:Cd:= .c (.v 14 0) true
 let z3:VX:= .v (.l (.n .i64 (.i 2)))
 let z4:SX:= .o .sub .i64 (.v 0 2) (.i 5)
 let z5:VX:= .v (.l (.n .i64 (.i 3)))
 let z6:List LX:= [.n .u8 (.cv .u8 (.v 0 6))]
 let z7:Cd:= .f 98 2 [(.l (.n .i64 (.v 0 2)),0)]
 let z8:Cd:= .c (.v 98 0) true
 let z9:Cd:= .c (.v 86 0) false
 let z10:List LX:= [.n .u8 (.cv .u8 (.o .add .i64 (.o .mul .i64 (.i 16) (.v 0 6)) (.v 0 7))),.n .u8 (.cv .u8 (.o .rem .u32 (.v 0 1) (.i 256)))]
 let z11:List Bk:= [⟨142,.cells 39 (Qa 0 0 Qb)⟩]
 let z12:Cd:= .c (.c .eql (.v 0 2) (.i 18)) true
 let z13:Cd:= .c (.c .eql (.v 0 2) (.i 17)) false
 let z14:SX:= .c .eql (.v 0 4) (.i 2)
 let z15:Cd:= .c (.an z14 (.c .eql (.v 0 2) (.i 16))) false
 let z16:Cd:= .c (.c .eql (.v 0 2) (.i 18)) false
 let z17:Cd:= .c (.c .eql (.v 0 2) (.i 19)) false
 let z18:SX:= .o .sub .u32 (.o .sub .u32 (.v 0 1) (.v 0 0)) (.i 5)
 let z19:VX:= .v (.l (.n .i64 (.i 1)))
 [⟨[.c (.v 14 0) false,z0],.v (.l (.n .i64 (.i 0))),[⟨2,.cells 39 (Qa 0 0 Qb)⟩]⟩,⟨[.c (.c .eql (.v 0 3) (.i 0)) true,.c (.v 86 0) true,z1,z2,z0],z3,[⟨2,.cells 39 (Qa 0 0 Qb)⟩,⟨38,.cells 39 (Qa 0 0 Qb)⟩,⟨134,.cells 5 [.n .u8 (.cv .u8 (.o .add .i64 (.i 32) z4)),.n .u8 (.cv .u8 (.o .add .i64 (.o .mul .i64 (.i 16) (.v 0 6)) (.v 0 7)))]⟩]⟩,⟨[.c (.c .eql (.v 0 3) (.i 1)) true,.c (.c .eql (.v 0 3) (.i 0)) false,.c (.v 86 0) true,z1,z2,z0],z5,[⟨2,.cells 39 (Qa 0 0 Qb)⟩,⟨38,.cells 39 (Qa 0 0 Qb)⟩,⟨170,.cells 5 [.n .u8 (.cv .u8 (.o .add .i64 (.i 48) z4)),.n .u8 (.cv .u8 (.v 0 6)),.n .u8 (.cv .u8 (.o .rem .u32 (.v 0 1) (.i 256)))]⟩]⟩,⟨[z1,z0,.c (.v 86 0) true,z2,.c (.c .eql (.v 0 3) (.i 1)) false,.c (.c .eql (.v 0 3) (.i 0)) false],.v (.l (.n .i64 (.i 6))),[⟨2,.cells 39 (Qa 0 0 Qb)⟩,⟨38,.cells 39 (Qa 0 0 Qb)⟩,⟨154,.cells 5 (.n .u8 (.cv .u8 (.o .add .i64 (.i 64) z4)) :: z6)⟩,⟨170,.row [some .u8] (.i 6) 170⟩,⟨238,.cells 5 [.n .u8 (.cv .u8 (.o .rem .u32 (.v 0 1) (.i 256))),.n .u8 (.cv .u8 (.o .rem .u32 (.o .quo .u32 (.v 0 1) (.i 256)) (.i 256))),.n .u8 (.cv .u8 (.o .rem .u32 (.o .quo .u32 (.v 0 1) (.i 65536)) (.i 256))),.n .u8 (.cv .u8 (.o .quo .u32 (.v 0 1) (.i 16777216)))]⟩]⟩,⟨[z7,z1,z0,z8,z9,z2,.c (.c .eql (.v 0 2) (.i 17)) true],z5,(⟨2,.cells 39 (Qa 0 0 Qb)⟩ :: ⟨38,.cells 39 (Qa 0 0 Qb)⟩ :: ⟨134,.cells 5 (.n .u8 (.cv .u8 (.o .add .i64 (.i 80) (.o .mul .i64 (.i 2) (.v 0 4)))) :: z10)⟩ :: z11)⟩,⟨[z7,z1,z0,z8,z9,z2,z12,z13,.c (.c .eql (.v 0 4) (.i 1)) true],z5,(⟨2,.cells 39 (Qa 0 0 Qb)⟩ :: ⟨38,.cells 39 (Qa 0 0 Qb)⟩ :: ⟨134,.cells 5 (.n .u8 (.i 86) :: z10)⟩ :: z11)⟩,⟨[z7,z1,z0,z8,z9,z2,z12,z13,.c (.c .eql (.v 0 2) (.i 16)) true,.c z14 true,.c (.c .eql (.v 0 4) (.i 1)) false],z5,(⟨2,.cells 39 (Qa 0 0 Qb)⟩ :: ⟨38,.cells 39 (Qa 0 0 Qb)⟩ :: ⟨134,.cells 5 (.n .u8 (.i 88) :: z10)⟩ :: z11)⟩,⟨[z7,z1,z0,z8,z9,z15,z2,z12,z13,.c z14 true,.c (.c .eql (.v 0 4) (.i 1)) false],z5,(⟨2,.cells 39 (Qa 0 0 Qb)⟩ :: ⟨38,.cells 39 (Qa 0 0 Qb)⟩ :: ⟨134,.cells 5 (.n .u8 (.i 87) :: z10)⟩ :: z11)⟩,⟨[z7,z1,z0,z8,z9,z15,z2,z12,z13,.c z14 false,.c (.c .eql (.v 0 4) (.i 1)) false],z5,(⟨2,.cells 39 (Qa 0 0 Qb)⟩ :: ⟨38,.cells 39 (Qa 0 0 Qb)⟩ :: ⟨134,.cells 5 (.n .u8 (.i 85) :: z10)⟩ :: z11)⟩,⟨[z7,z1,z0,z8,z9,z2,z16,z13,.c (.c .eql (.v 0 4) (.i 1)) true],z5,(⟨2,.cells 39 (Qa 0 0 Qb)⟩ :: ⟨38,.cells 39 (Qa 0 0 Qb)⟩ :: ⟨134,.cells 5 (.n .u8 (.i 81) :: z10)⟩ :: z11)⟩,⟨[z7,z1,z0,z8,z9,z2,z16,z13,.c (.c .eql (.v 0 2) (.i 16)) true,.c z14 true,.c (.c .eql (.v 0 4) (.i 1)) false],z5,(⟨2,.cells 39 (Qa 0 0 Qb)⟩ :: ⟨38,.cells 39 (Qa 0 0 Qb)⟩ :: ⟨134,.cells 5 (.n .u8 (.i 83) :: z10)⟩ :: z11)⟩,⟨[z7,z1,z0,z8,z9,z15,z2,z16,z13,.c z14 true,.c (.c .eql (.v 0 4) (.i 1)) false],z5,(⟨2,.cells 39 (Qa 0 0 Qb)⟩ :: ⟨38,.cells 39 (Qa 0 0 Qb)⟩ :: ⟨134,.cells 5 (.n .u8 (.i 82) :: z10)⟩ :: z11)⟩,⟨[z7,z1,z0,z8,z9,z15,z2,z16,z13,.c z14 false,.c (.c .eql (.v 0 4) (.i 1)) false],z5,(⟨2,.cells 39 (Qa 0 0 Qb)⟩ :: ⟨38,.cells 39 (Qa 0 0 Qb)⟩ :: ⟨134,.cells 5 (.n .u8 (.i 80) :: z10)⟩ :: z11)⟩,⟨[.c (.c .eql (.v 0 2) (.i 19)) true,.c (.v 98 0) false,z7,z9,z1,z2,z0],z5,[⟨2,.cells 39 (Qa 0 0 Qb)⟩,⟨38,.cells 39 (Qa 0 0 Qb)⟩,⟨138,.cells 5 (.n .u8 (.i 90) :: z10)⟩]⟩,⟨[.c (.c .eql (.v 0 3) (.i 1)) true,.c (.c .eql (.v 0 2) (.i 20)) true,z17,.c (.v 98 0) false,z7,z9,z1,z2,z0],z3,[⟨2,.cells 39 (Qa 0 0 Qb)⟩,⟨38,.cells 39 (Qa 0 0 Qb)⟩,⟨186,.cells 5 [.n .u8 (.cv .u8 (.o .add .i64 (.i 96) (.v 0 5))),.n .u8 (.cv .u8 (.o .rem .u32 (.o .sub .u32 (.o .sub .u32 (.v 0 1) (.v 0 0)) (.i 2)) (.i 256)))]⟩]⟩,⟨[z7,z1,z0,.c (.v 98 0) false,z9,z2,.c (.c .eql (.v 0 2) (.i 20)) true,z17,.c (.c .eql (.v 0 3) (.i 1)) false],.v (.l (.n .i64 (.i 5))),[⟨2,.cells 39 (Qa 0 0 Qb)⟩,⟨38,.cells 39 (Qa 0 0 Qb)⟩,⟨154,.cells 5 [.n .u8 (.cv .u8 (.o .add .i64 (.i 112) (.v 0 5)))]⟩,⟨186,.row [some .u8] (.i 5) 186⟩,⟨254,.cells 5 [.n .u8 (.cv .u8 (.o .rem .u32 z18 (.i 256))),.n .u8 (.cv .u8 (.o .rem .u32 (.o .quo .u32 z18 (.i 256)) (.i 256))),.n .u8 (.cv .u8 (.o .rem .u32 (.o .quo .u32 z18 (.i 65536)) (.i 256))),.n .u8 (.cv .u8 (.o .quo .u32 z18 (.i 16777216)))]⟩]⟩,⟨[.c (.c .eql (.v 0 2) (.i 23)) true,.c (.c .eql (.v 0 2) (.i 20)) false,z17,.c (.v 98 0) false,z7,z9,z1,z2,z0],.v (.l (.n .i64 (.i 5))),[⟨2,.cells 39 (Qa 0 0 Qb)⟩,⟨38,.cells 39 (Qa 0 0 Qb)⟩,⟨134,.cells 5 [.n .u8 (.i 128)]⟩,⟨166,.row [some .u8] (.i 5) 166⟩,⟨234,.cells 5 [.n .u8 (.cv .u8 (.o .rem .u32 z18 (.i 256))),.n .u8 (.cv .u8 (.o .rem .u32 (.o .quo .u32 z18 (.i 256)) (.i 256))),.n .u8 (.cv .u8 (.o .rem .u32 (.o .quo .u32 z18 (.i 65536)) (.i 256))),.n .u8 (.cv .u8 (.o .quo .u32 z18 (.i 16777216)))]⟩]⟩,⟨[z7,z1,z0,.c (.v 98 0) false,z9,z2,.c (.c .eql (.v 0 2) (.i 23)) false,.c (.c .eql (.v 0 2) (.i 22)) true,.c (.c .eql (.v 0 2) (.i 20)) false,z17],.v (.l (.n .i64 (.i 6))),[⟨2,.cells 39 (Qa 0 0 Qb)⟩,⟨38,.cells 39 (Qa 0 0 Qb)⟩,⟨154,.cells 5 (.n .u8 (.i 131) :: z6)⟩,⟨170,.row [some .u8] (.i 6) 170⟩,⟨238,.cells 5 [.n .u8 (.cv .u8 (.o .rem .u32 (.v 0 1) (.i 256))),.n .u8 (.cv .u8 (.o .rem .u32 (.o .quo .u32 (.v 0 1) (.i 256)) (.i 256))),.n .u8 (.cv .u8 (.o .rem .u32 (.o .quo .u32 (.v 0 1) (.i 65536)) (.i 256))),.n .u8 (.cv .u8 (.o .quo .u32 (.v 0 1) (.i 16777216)))]⟩]⟩,⟨[.c (.c .eql (.v 0 2) (.i 3)) true,.c (.c .eql (.v 0 2) (.i 22)) false,.c (.c .eql (.v 0 2) (.i 23)) false,.c (.c .eql (.v 0 2) (.i 20)) false,z17,.c (.v 98 0) false,z7,z9,z1,z2,z0],z19,[⟨2,.cells 39 (Qa 0 0 Qb)⟩,⟨38,.cells 39 (Qa 0 0 Qb)⟩,⟨154,.cells 39 (Qa 0 0 Qb)⟩,⟨202,.cells 5 [.n .u8 (.o .add .u8 (.i 8) (.cv .u8 (.v 0 6)))]⟩]⟩,⟨[.c (.c .eql (.v 0 2) (.i 4)) true,.c (.c .eql (.v 0 2) (.i 3)) false,.c (.c .eql (.v 0 2) (.i 22)) false,.c (.c .eql (.v 0 2) (.i 23)) false,.c (.c .eql (.v 0 2) (.i 20)) false,z17,.c (.v 98 0) false,z7,z9,z1,z2,z0],z19,[⟨2,.cells 39 (Qa 0 0 Qb)⟩,⟨38,.cells 39 (Qa 0 0 Qb)⟩,⟨154,.cells 39 (Qa 0 0 Qb)⟩,⟨210,.cells 5 [.n .u8 (.o .add .u8 (.i 16) (.cv .u8 (.v 0 6)))]⟩]⟩,⟨[.c (.c .eql (.v 0 2) (.i 24)) true,.c (.c .eql (.v 0 2) (.i 4)) false,.c (.c .eql (.v 0 2) (.i 3)) false,.c (.c .eql (.v 0 2) (.i 22)) false,.c (.c .eql (.v 0 2) (.i 23)) false,.c (.c .eql (.v 0 2) (.i 20)) false,z17,.c (.v 98 0) false,z7,z9,z1,z2,z0],z3,[⟨2,.cells 39 (Qa 0 0 Qb)⟩,⟨38,.cells 39 (Qa 0 0 Qb)⟩,⟨154,.cells 39 (Qa 0 0 Qb)⟩,⟨214,.cells 5 (.n .u8 (.i 129) :: z6)⟩]⟩,⟨[.c (.c .eql (.v 0 2) (.i 21)) true,.c (.c .eql (.v 0 2) (.i 24)) false,.c (.c .eql (.v 0 2) (.i 4)) false,.c (.c .eql (.v 0 2) (.i 3)) false,.c (.c .eql (.v 0 2) (.i 22)) false,.c (.c .eql (.v 0 2) (.i 23)) false,.c (.c .eql (.v 0 2) (.i 20)) false,z17,.c (.v 98 0) false,z7,z9,z1,z2,z0],z3,[⟨2,.cells 39 (Qa 0 0 Qb)⟩,⟨38,.cells 39 (Qa 0 0 Qb)⟩,⟨154,.cells 39 (Qa 0 0 Qb)⟩,⟨222,.cells 5 (.n .u8 (.i 130) :: z6)⟩]⟩,⟨[.c (.c .eql (.v 0 2) (.i 25)) true,.c (.c .eql (.v 0 2) (.i 21)) false,.c (.c .eql (.v 0 2) (.i 24)) false,.c (.c .eql (.v 0 2) (.i 4)) false,.c (.c .eql (.v 0 2) (.i 3)) false,.c (.c .eql (.v 0 2) (.i 22)) false,.c (.c .eql (.v 0 2) (.i 23)) false,.c (.c .eql (.v 0 2) (.i 20)) false,z17,.c (.v 98 0) false,z7,z9,z1,z2,z0],z3,[⟨2,.cells 39 (Qa 0 0 Qb)⟩,⟨38,.cells 39 (Qa 0 0 Qb)⟩,⟨154,.cells 39 (Qa 0 0 Qb)⟩,⟨246,.cells 5 (.n .u8 (.cv .u8 (.o .add .i64 (.i 144) (.v 0 5))) :: z6)⟩]⟩,⟨[.c (.c .eql (.v 0 2) (.i 26)) true,.c (.c .eql (.v 0 2) (.i 25)) false,.c (.c .eql (.v 0 2) (.i 21)) false,.c (.c .eql (.v 0 2) (.i 24)) false,.c (.c .eql (.v 0 2) (.i 4)) false,.c (.c .eql (.v 0 2) (.i 3)) false,.c (.c .eql (.v 0 2) (.i 22)) false,.c (.c .eql (.v 0 2) (.i 23)) false,.c (.c .eql (.v 0 2) (.i 20)) false,z17,.c (.v 98 0) false,z7,z9,z1,z2,z0],z3,[⟨2,.cells 39 (Qa 0 0 Qb)⟩,⟨38,.cells 39 (Qa 0 0 Qb)⟩,⟨154,.cells 39 (Qa 0 0 Qb)⟩,⟨238,.cells 5 (.n .u8 (.i 160) :: z6)⟩]⟩,⟨[.c (.c .eql (.v 0 2) (.i 27)) true,.c (.c .eql (.v 0 2) (.i 26)) false,.c (.c .eql (.v 0 2) (.i 25)) false,.c (.c .eql (.v 0 2) (.i 21)) false,.c (.c .eql (.v 0 2) (.i 24)) false,.c (.c .eql (.v 0 2) (.i 4)) false,.c (.c .eql (.v 0 2) (.i 3)) false,.c (.c .eql (.v 0 2) (.i 22)) false,.c (.c .eql (.v 0 2) (.i 23)) false,.c (.c .eql (.v 0 2) (.i 20)) false,z17,.c (.v 98 0) false,z7,z9,z1,z2,z0],z3,[⟨2,.cells 39 (Qa 0 0 Qb)⟩,⟨38,.cells 39 (Qa 0 0 Qb)⟩,⟨154,.cells 39 (Qa 0 0 Qb)⟩,⟨246,.cells 5 (.n .u8 (.i 161) :: z6)⟩]⟩,⟨[.c (.c .eql (.v 0 2) (.i 27)) false,.c (.c .eql (.v 0 2) (.i 26)) false,.c (.c .eql (.v 0 2) (.i 25)) false,.c (.c .eql (.v 0 2) (.i 21)) false,.c (.c .eql (.v 0 2) (.i 24)) false,.c (.c .eql (.v 0 2) (.i 4)) false,.c (.c .eql (.v 0 2) (.i 3)) false,.c (.c .eql (.v 0 2) (.i 22)) false,.c (.c .eql (.v 0 2) (.i 23)) false,.c (.c .eql (.v 0 2) (.i 20)) false,z17,.c (.v 98 0) false,z7,z9,z1,z2,z0],z19,[⟨2,.cells 39 (Qa 0 0 Qb)⟩,⟨38,.cells 39 (Qa 0 0 Qb)⟩,⟨154,.cells 39 (Qa 0 0 Qb)⟩,⟨254,.cells 5 [.n .u8 (.cv .u8 (.v 0 2))]⟩]⟩]
def QsX:List Ob:=
 [.pre [] 0 [(.a (Qa 0 0 Qb),0)],.pre [.c (.v 14 0) true,.f 14 0 [(.a (Qa 0 0 Qb),0)]] 1 [(.l (.n .i64 (.v 0 2)),0)],.pre [.c (.v 86 0) false,.f 86 1 [(.l (.n .i64 (.v 0 2)),0)],.c (.v 14 0) true,.f 14 0 [(.a (Qa 0 0 Qb),0)]] 2 [(.l (.n .i64 (.v 0 2)),0)]]
theorem Qqo:QP Try.prog Qqn 1000 4 86 Try.f86 QmZ Qqp=some (QsW,QsX):=by kernel_rfl
set_option maxHeartbeats 4000000 in
theorem rlength_any(i:Ins)(w:World):Calls Try.prog 86 #[i.val] w (Ret (.int .i64 (QdH i)) w):=by
 refine ZK (C:= [KF.kon,XR.kon,ZP.kon]) (I:= []) Qr rfl Try.func86 Qqo (Kh [nmI (Q9 i)]) w rfl (fun r hr=>(List.not_mem_nil hr).elim) _ ?_ ?_
 ·refine⟨?_,?_,?_,trivial⟩
  all_goals
   intro e he hc
   trivial
 ·refine⟨?_,?_,?_,?_,?_,?_,?_,?_,?_,?_,?_,?_,?_,?_,?_,?_,?_,?_,?_,?_,?_,?_,?_,?_,?_,?_,trivial⟩
  all_goals
   intro e u he hc hs
   have h0:e.nm 0=nmI (Q9 i):=he 0 (by decide)
   have hi:QcI e 0=i:=ZE e 0 (show(e.nm 0).int=_ by rw [h0];rfl)
   rw [show u=_ from hs]
   simp only [QC,Zb,Cd.holds,dv1,dv2,di1,db2,dr1,dr2,dq1,dq2,do1,Z1,Z0,Zx,Zw,Zz,Zy,Zv,Zu,Zt,Zs,Z3,Z2,Xt,Xs,Xp,Xo,Xr,Xq,List.map_cons,List.map_nil,Nat.mul_one,Nat.add_zero,List.getElem?_cons_zero,List.getElem?_cons_succ,Option.some.injEq,exists_eq_left',and_true,Env.int,Env.bool,Con.kon_post,QI,KF,XR,ZP,Q3,QB,hi,Ji,h0,nmI,Q9]at hc
   simp only [PX.den,LX.den,di1]
   refine congrArg (Value.int .i64) ?_
   clear hs he
   (repeat (rcases hc with ⟨_,hc⟩))
   (simp_all) <;> first
     |exact(Qvx (by assumption)).symm
     |(rw [Qtt (by assumption)];unfold QuD;grind)
end Go.Proofs.Yteplnamfpodmlaa.T2
namespace Go.Proofs.Yteplnamfpodmlaa
theorem Qgh(i:Ins)(w:World):Calls Try.prog 86 #[i.val] w (Ret (.int .i64 (QdH i)) w):=T2.rlength_any i w
def Qfv:Con Try.prog:= .mk' ⟨86,[.a Qb],.l (some .i64),true⟩
 (fun ads=>match ads with| [d1]=>True|_=>False)
 (fun ads=>match ads with| [d1]=>fun _=>QdH (Q0 d1)|_=>fun _=>0)
 (fun ads=>match ads with| [d1]=>fun _=>false|_=>fun _=>false)
 ⟨_,Try.func86,by kernel_rfl,by kernel_rfl⟩ (fun ads w hf hp=>by
   obtain⟨d1,_,rfl,f1,hf⟩:=Qf hf
   obtain rfl:=Qn hf
   show Calls _ _ #[d1.val] w _
   rw [Zc f1]
   exact Qgh (Q0 d1) w)
end Go.Proofs.Yteplnamfpodmlaa
namespace Go.Proofs.Yteplnamfpodmlaa.T2
def Qqs:List Sg:= [⟨86,[.a Qb],.b (.l (some .i64)),true,false⟩]
def QjY:List PX:= [.a (Qa 0 0 Qb)]
def Qnc:List Rw:= []
def Qna:Cfg:=⟨2,Qqs,[],[],[]⟩
def Qqq:List Lf:= [⟨[.f 22 0 [(.a (Qa 0 0 Qb),0)]],.v (.l (.n .u32 (.o .add .u32 (.v 0 0) (.cv .u32 (.v 22 0))))),[⟨2,.cells 39 (Qa 0 0 Qb)⟩]⟩]
def Qqr:List Ob:= [.pre [] 0 [(.a (Qa 0 0 Qb),0)]]
theorem Qnb:QP Try.prog Qna 1000 4 44 Try.f44 QjY Qnc=some (Qqq,Qqr):=by kernel_rfl
theorem rnext_any(i:Ins)(w:World):Calls Try.prog 44 #[i.val] w (Ret (.int .u32 (ZY i)) w):=by
 refine ZK (C:= [Qfv.kon]) (I:= []) Qr rfl Try.func44 Qnb (Kh [nmI (Q9 i)]) w rfl (fun r hr=>(List.not_mem_nil hr).elim) _ ?_ ?_
 ·refine⟨?_,trivial⟩
  all_goals
   intro e he hc
   trivial
 ·refine⟨?_,trivial⟩
  all_goals
   intro e u he hc hs
   have h0:e.nm 0=nmI (Q9 i):=he 0 (by decide)
   have hi:QcI e 0=i:=ZE e 0 (show(e.nm 0).int=_ by rw [h0];rfl)
   rw [show u=_ from hs]
   simp only [QC,Zb,Cd.holds,dv1,dv2,di1,db2,dr1,dr2,dq1,dq2,do1,Z1,Z0,Zx,Zw,Zz,Zy,Zv,Zu,Zt,Zs,Z3,Z2,Xt,Xs,Xp,Xo,Xr,Xq,List.map_cons,List.map_nil,Nat.mul_one,Nat.add_zero,List.getElem?_cons_zero,List.getElem?_cons_succ,Option.some.injEq,exists_eq_left',and_true,Env.int,Env.bool,Con.kon_post,QI,Qfv,Q3,hi,Ji]at hc
   simp only [PX.den,LX.den,SX.den,Env.int,h0,hc.1]
   rfl
end Go.Proofs.Yteplnamfpodmlaa.T2
namespace Go.Proofs.Yteplnamfpodmlaa
theorem Qlc(i:Ins)(w:World):Calls Try.prog 44 #[i.val] w (Ret (.int .u32 (ZY i)) w):=T2.rnext_any i w
def QcU:Con Try.prog:= .mk' ⟨44,[.a Qb],.l (some .u32),true⟩
 (fun ads=>match ads with| [d1]=>True|_=>False)
 (fun ads=>match ads with| [d1]=>fun _=>ZY (Q0 d1)|_=>fun _=>0)
 (fun ads=>match ads with| [d1]=>fun _=>false|_=>fun _=>false)
 ⟨_,Try.func44,by kernel_rfl,by kernel_rfl⟩ (fun ads w hf hp=>by
   obtain⟨d1,_,rfl,f1,hf⟩:=Qf hf
   obtain rfl:=Qn hf
   show Calls _ _ #[d1.val] w _
   rw [Zc f1]
   exact Qlc (Q0 d1) w)
end Go.Proofs.Yteplnamfpodmlaa
end
