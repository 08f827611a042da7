/-
  Part of the proof.
-/
import Derived.Test.YteplnamfpodmlaaGreatQIs
import Derived.Test.YteplnamfpodmlaaGreatQVaD
import Derived.Test.YteplnamfpodmlaaGreatQVaE
import Derived.Test.YteplnamfpodmlaaGreatQVal25
set_option linter.unusedVariables false
set_option linter.unusedSimpArgs false
set_option maxRecDepth 100000
open Go.ChangeShapes Go.WideShapes Go.ChangeAt Go.RowKit
section
namespace Go.Proofs.YteplnamfpodmlaaGreat
def QhN:Con Tryz.prog:= .mk' ⟨36,[],.a Qb,true⟩
 (fun ads=>match ads with| []=>True|_=>False)
 (fun ads=>match ads with| []=>QJ Qp|_=>fun _=>0)
 (fun ads=>match ads with| []=>QO Qp|_=>fun _=>false)
 ⟨_,Tryz.func36,by kernel_rfl,by kernel_rfl⟩ (fun ads w hf hp=>by
   obtain rfl:=Qm hf;exact Xy  w)
def VQ:Con Tryz.prog:= .mk' ⟨32,[],.a Qb,true⟩
 (fun ads=>match ads with| []=>True|_=>False)
 (fun ads=>match ads with| []=>QJ Qt|_=>fun _=>0)
 (fun ads=>match ads with| []=>QO Qt|_=>fun _=>false)
 ⟨_,Tryz.func32,by kernel_rfl,by kernel_rfl⟩ (fun ads w hf hp=>by
   obtain rfl:=Qm hf;exact JZ  w)
def JR:Con Tryz.prog:= .mk' ⟨29,[.l (some .u32)],.a Qb,true⟩
 (fun ads=>match ads with| [d1]=>True|_=>False)
 (fun ads=>match ads with| [d1]=>QJ (Zs (Q3 d1))|_=>fun _=>0)
 (fun ads=>match ads with| [d1]=>QO (Zs (Q3 d1))|_=>fun _=>false)
 ⟨_,Tryz.func29,by kernel_rfl,by kernel_rfl⟩ (fun ads w hf hp=>by
   obtain⟨d1,_,rfl,f1,hf⟩:=Qg hf;obtain rfl:=Qm hf;show Calls _ _ #[d1.val] w _;rw [QB f1];exact WG (Q3 d1) w)
theorem Qfy(lo hi st:Int)(h:Zk lo∧Zk hi∧Zk st)(w:World):Calls Tryz.prog 31 #[.int .u32 lo,.int .u32 hi,.int .u32 st] w (Ret (Qj lo hi st).val w):=
 Z8 lo hi st h.1.1 h.1.2 h.2.1.1 h.2.1.2 h.2.2.1 h.2.2.2 w
def J5:Con Tryz.prog:= .mk' ⟨31,[.l (some .u32),.l (some .u32),.l (some .u32)],.a Qb,true⟩
 (fun ads=>match ads with| [d1,d2,d3]=>Zk (Q3 d1)∧Zk (Q3 d2)∧Zk (Q3 d3)|_=>False)
 (fun ads=>match ads with| [d1,d2,d3]=>QJ (Qj (Q3 d1) (Q3 d2) (Q3 d3))|_=>fun _=>0)
 (fun ads=>match ads with| [d1,d2,d3]=>QO (Qj (Q3 d1) (Q3 d2) (Q3 d3))|_=>fun _=>false)
 ⟨_,Tryz.func31,by kernel_rfl,by kernel_rfl⟩ (fun ads w hf hp=>by
   obtain⟨d1,_,rfl,f1,hf⟩:=Qg hf;obtain⟨d2,_,rfl,f2,hf⟩:=Qg hf;obtain⟨d3,_,rfl,f3,hf⟩:=Qg hf;obtain rfl:=Qm hf;show Calls _ _ #[d1.val,d2.val,d3.val] w _;rw [QB f1,QB f2,QB f3];exact Qfy (Q3 d1) (Q3 d2) (Q3 d3) hp w)
def Qbt:Con Tryz.prog:= .mk' ⟨51,[.a Qb],.l none,true⟩
 (fun ads=>match ads with| [d1]=>(QK d1).wf|_=>False)
 (fun ads=>match ads with| [d1]=>fun _=>0|_=>fun _=>0)
 (fun ads=>match ads with| [d1]=>fun _=>Qx (QK d1)|_=>fun _=>false)
 ⟨_,Tryz.func51,by kernel_rfl,by kernel_rfl⟩ (fun ads w hf hp=>by
   obtain⟨d1,_,rfl,f1,hf⟩:=Qg hf;obtain rfl:=Qm hf;show Calls _ _ #[d1.val] w _;rw [Zg f1];exact Qfp (QK d1) hp w)
theorem Qo3(a b:Qd)(h:a.wf∧b.wf)(w:World):Calls Tryz.prog 56 #[a.val,b.val] w (Ret (Jp a b).val w):=QaP a b h.1 h.2 w
def QqL:Con Tryz.prog:= .mk' ⟨56,[.a Qb,.a Qb],.a Qb,true⟩
 (fun ads=>match ads with| [d1,d2]=>(QK d1).wf∧(QK d2).wf|_=>False)
 (fun ads=>match ads with| [d1,d2]=>QJ (Jp (QK d1) (QK d2))|_=>fun _=>0)
 (fun ads=>match ads with| [d1,d2]=>QO (Jp (QK d1) (QK d2))|_=>fun _=>false)
 ⟨_,Tryz.func56,by kernel_rfl,by kernel_rfl⟩ (fun ads w hf hp=>by
   obtain⟨d1,_,rfl,f1,hf⟩:=Qg hf;obtain⟨d2,_,rfl,f2,hf⟩:=Qg hf;obtain rfl:=Qm hf;show Calls _ _ #[d1.val,d2.val] w _;rw [Zg f1,Zg f2];exact Qo3 (QK d1) (QK d2) hp w)
theorem Qkz(op:Int)(a b:Qd)(h:a.wf∧b.wf)(w:World):Calls Tryz.prog 35 #[.int .i64 op,a.val,b.val] w (Ret (Js op a b).val w):=Qof op a b h.1 h.2 w
def WK:Con Tryz.prog:= .mk' ⟨35,[.l (some .i64),.a Qb,.a Qb],.a Qb,true⟩
 (fun ads=>match ads with| [d1,d2,d3]=>(QK d2).wf∧(QK d3).wf|_=>False)
 (fun ads=>match ads with| [d1,d2,d3]=>QJ (Js (Q3 d1) (QK d2) (QK d3))|_=>fun _=>0)
 (fun ads=>match ads with| [d1,d2,d3]=>QO (Js (Q3 d1) (QK d2) (QK d3))|_=>fun _=>false)
 ⟨_,Tryz.func35,by kernel_rfl,by kernel_rfl⟩ (fun ads w hf hp=>by
   obtain⟨d1,_,rfl,f1,hf⟩:=Qg hf;obtain⟨d2,_,rfl,f2,hf⟩:=Qg hf;obtain⟨d3,_,rfl,f3,hf⟩:=Qg hf;obtain rfl:=Qm hf;show Calls _ _ #[d1.val,d2.val,d3.val] w _;rw [QB f1,Zg f2,Zg f3];exact Qkz (Q3 d1) (QK d2) (QK d3) hp w)
theorem QdW(i:Ins)(w:World):Calls Tryz.prog 33 #[i.val] w (Ret (.bool (Qv i)) w):=by
 rw [←QdB];exact QfC i w
def VT:Con Tryz.prog:= .mk' ⟨33,[.a Qc],.l none,true⟩
 (fun ads=>match ads with| [d1]=>True|_=>False)
 (fun ads=>match ads with| [d1]=>fun _=>0|_=>fun _=>0)
 (fun ads=>match ads with| [d1]=>fun _=>Qv (QL d1)|_=>fun _=>false)
 ⟨_,Tryz.func33,by kernel_rfl,by kernel_rfl⟩ (fun ads w hf hp=>by
   obtain⟨d1,_,rfl,f1,hf⟩:=Qg hf;obtain rfl:=Qm hf;show Calls _ _ #[d1.val] w _;rw [Zd f1];exact QdW (QL d1) w)
def Qjl:List Sg:= [⟨36,[],.a Qb,true⟩]
def Qek:List PX:= []
def Qg9:List Rw:= []
def Qg7:Cfg:=⟨0,Qjl,[]⟩
def Qjj:List Lf:= [⟨[.f 7 0 []],.v (.a (QbD [(7,0),(7,0),(7,0),(7,0),(7,0),(7,0),(7,0),(7,0)]))⟩]
def Qjk:List Ob:= [.pre [] 0 [],
 .pre [.f 7 0 []] 0 []]
theorem Qg8:QS Tryz.prog Qg7 2000 Tryz.f13 Qek Qg9=some (Qjj,Qjk):=by kernel_rfl
def Qpe:List Sg:= [⟨32,[],.a Qb,true⟩]
def QiN:List PX:= []
def QlR:List Rw:= []
def QlP:Cfg:=⟨0,Qpe,[]⟩
def Qpc:List Lf:= [⟨[.f 7 0 []],.v (.a (QbD [(7,0),(7,0),(7,0),(7,0),(7,0),(7,0),(7,0),(7,0)]))⟩]
def Qpd:List Ob:= [.pre [] 0 [],
 .pre [.f 7 0 []] 0 []]
theorem QlQ:QS Tryz.prog QlP 2000 Tryz.f11 QiN QlR=some (Qpc,Qpd):=by kernel_rfl
theorem Qi7(w:World):Calls Tryz.prog 13 #[] w (Ret (Zm fun _=>Qp) w):=by
 refine Q5 (C:= [QhN]) (I:= []) Qo rfl Tryz.func13 Qg8 Qh2 w rfl (fun r hr=>(List.not_mem_nil hr).elim) _ ?_ ?_
 ·refine⟨?_,?_,trivial⟩;all_goals exact fun e he _=>trivial
 refine⟨?_,trivial⟩
 all_goals
  intro e u he hc hs;simp only [QC,Cd.holds,List.map_nil,List.getElem?_cons_zero,List.getElem?_cons_succ,Option.some.injEq,exists_eq_left',Q1,QH,Qr,Q0,QE,Qy,QF,QhN]at hc;rw [Jh hs,Vx];refine QQ fun k hk=>?_
  match k,hk with
  |0,_|1,_|2,_|3,_|4,_|5,_|6,_|7,_=>exact Qk hc.1.1 hc.1.2
theorem Qf4(w:World):Calls Tryz.prog 11 #[] w (Ret (Zm fun _=>Qt) w):=by
 refine Q5 (C:= [VQ]) (I:= []) Qo rfl Tryz.func11 QlQ Qh2 w rfl (fun r hr=>(List.not_mem_nil hr).elim) _ ?_ ?_
 ·refine⟨?_,?_,trivial⟩;all_goals exact fun e he _=>trivial
 refine⟨?_,trivial⟩
 all_goals
  intro e u he hc hs;simp only [QC,Cd.holds,List.map_nil,List.getElem?_cons_zero,List.getElem?_cons_succ,Option.some.injEq,exists_eq_left',Q1,QH,Qr,Q0,QE,Qy,QF,VQ]at hc;rw [Jh hs,Vx];refine QQ fun k hk=>?_
  match k,hk with
  |0,_|1,_|2,_|3,_|4,_|5,_|6,_|7,_=>exact Qk hc.1.1 hc.1.2
end Go.Proofs.YteplnamfpodmlaaGreat
end
section
namespace Go.Proofs.YteplnamfpodmlaaGreat
def Qug(s:Nat→Qd)(i:Ins):Env:=⟨fun d=>match d with|0=>QU s|1=>Q2 i|_=>fun _=>0,fun d=>match d with|0=>QI s|_=>fun _=>false,fun _=>0,fun _=>none⟩
def Qq5(i:Ins)(s:Nat→Qd):Env:=⟨fun d=>match d with|0=>Q2 i|1=>QU s|_=>fun _=>0,fun d=>match d with|1=>QI s|_=>fun _=>false,fun _=>0,fun _=>none⟩
def QnE(s:Qd)(n:Int):Env:=⟨fun d=>match d with|0=>QJ s|1=>fun _=>n|_=>fun _=>0,fun d=>match d with|0=>QO s|_=>fun _=>false,fun _=>0,fun _=>none⟩
def QeG(a b:Nat→Qd):Env:=⟨fun d=>match d with|0=>QU a|1=>QU b|_=>fun _=>0,fun d=>match d with|0=>QI a|1=>QI b|_=>fun _=>false,fun _=>0,fun _=>none⟩
theorem QR(x:Int):Zk (IntKind.u32.wrap x):=by
 rw [IntKind.wrap_u32];exact⟨Int.emod_nonneg _ (by decide),Int.emod_lt_of_pos _ (by decide)⟩
theorem ZJ{n:Int}(h:Zk n):(Zs n).wf:=⟨h.1,h.2,h.1,h.2,by show(0:Int)≤0;omega,by show(0:Int) < 4294967296;omega⟩
def VC(i:Ins)(s:Nat→Qd):Qd:=if i.form=0 then s i.b.toNat else Zs i.imm
def Qmm:List Sg:= [⟨29,[.l (some .u32)],.a Qb,true⟩]
def Qg2:List PX:= [.a (Qa 0 0 stK),.a (Qa 1 0 Qc)]
def Qjf:List Rw:= []
def Qjd:Cfg:=⟨2,Qmm,[]⟩
def Qmk:List Lf:= [⟨[.c (.c .eql (.v 1 3) (.i 0)) true],.v (.a (Qh 0 (.v 1 7)))⟩,
 ⟨[.f 10 0 [.l (.n .u32 (.v 1 1))],.c (.c .eql (.v 1 3) (.i 0)) false],.v (.a (Qa 10 0 Qb))⟩]
def Qml:List Ob:=
 let z0:List Cd:= [.c (.c .eql (.v 1 3) (.i 0)) true]
 [.cl z0 (.c .geq (.v 1 7) (.i 0)),.cl z0 (.c .lss (.v 1 7) (.i 8)),.pre [.c (.c .eql (.v 1 3) (.i 0)) false] 0 [.l (.n .u32 (.v 1 1))]]
theorem Qje:QS Tryz.prog Qjd 2000 Tryz.f34 Qg2 Qjf=some (Qmk,Qml):=by kernel_rfl
theorem Ql4(s:Nat→Qd)(i:Ins)(hb:0≤i.b∧i.b < 8)(w:World):Calls Tryz.prog 34 #[Zm s,i.val] w (Ret (VC i s).val w):=by
 refine Q5 (C:= [JR]) (I:= []) Qo rfl Tryz.func34 Qje (Qug s i) w rfl (fun r hr=>(List.not_mem_nil hr).elim) _ ?_ ?_
 ·refine⟨?_,?_,?_,trivial⟩
  all_goals
   intro e he;have h1:e.int 1=Q2 i:=(he 1 (by decide)).1
   simp only [QC,Ze,Cd.holds,SX.den,cmI,PX.den,LX.den,VX.sat,List.map_cons,List.map_nil,List.append_nil,beq_iff_eq,bne_iff_ne,beq_eq_false_iff_ne,bne_eq_false_iff_eq,decide_eq_true_eq,decide_eq_false_iff_not,Bool.and_eq_true,Bool.and_eq_false_iff,ne_eq,List.getElem?_cons_zero,List.getElem?_cons_succ,Option.some.injEq,exists_eq_left',Q1,QH,Qr,Q0,QE,QY,Qy,QF,JR,h1,Q2];intro hc
   first|trivial|omega
 refine⟨?_,?_,trivial⟩
 all_goals
  intro e u he hc hs;have h1:e.int 1=Q2 i:=(he 1 (by decide)).1
  have h0:=QW (he 0 (by decide)).1 (he 0 (by decide)).2.1
  rw [Jh hs]
  first
   |(rw [Qq2]
     simp only [QC,Ze,Cd.holds,SX.den,cmI,PX.den,LX.den,VX.sat,List.map_cons,List.map_nil,List.append_nil,beq_iff_eq,bne_iff_ne,beq_eq_false_iff_ne,bne_eq_false_iff_eq,decide_eq_true_eq,decide_eq_false_iff_not,Bool.and_eq_true,Bool.and_eq_false_iff,ne_eq,List.getElem?_cons_zero,List.getElem?_cons_succ,Option.some.injEq,exists_eq_left',Q1,QH,Qr,Q0,QE,QY,Qy,QF,h1,Q2]at hc
     have hk:(SX.den e (.v 1 7)).1.toNat * 5=5 * i.b.toNat:=by simp only [SX.den,h1,Q2];omega
     rw [hk,h0,VC,if_pos (by simp_all)])
   |(rw [KJ]
     simp only [QC,Ze,Cd.holds,SX.den,cmI,PX.den,LX.den,VX.sat,List.map_cons,List.map_nil,List.append_nil,beq_iff_eq,bne_iff_ne,beq_eq_false_iff_ne,bne_eq_false_iff_eq,decide_eq_true_eq,decide_eq_false_iff_not,Bool.and_eq_true,Bool.and_eq_false_iff,ne_eq,List.getElem?_cons_zero,List.getElem?_cons_succ,Option.some.injEq,exists_eq_left',Q1,QH,Qr,Q0,QE,QY,Qy,QF,JR,h1,Q2]at hc
     rw [Qk hc.1.1 hc.1.2,VC,if_neg (by simp_all)])
theorem Qcu{i:Ins}{s:Nat→Qd}(hi:i.wf)(hs:∀k,(s k).wf):(VC i s).wf:=by
 unfold VC;split
 ·exact hs _
 ·exact ZJ hi.2.1
def QcV:Con Tryz.prog:= .mk' ⟨34,[.a stK,.a Qc],.a Qb,true⟩
 (fun ads=>match ads with| [d1,d2]=>0≤(QL d2).b∧(QL d2).b < 8|_=>False)
 (fun ads=>match ads with| [d1,d2]=>QJ (VC (QL d2) (stD d1))|_=>fun _=>0)
 (fun ads=>match ads with| [d1,d2]=>QO (VC (QL d2) (stD d1))|_=>fun _=>false)
 ⟨_,Tryz.func34,by kernel_rfl,by kernel_rfl⟩ (fun ads w hf hp=>by
   obtain⟨d1,_,rfl,f1,hf⟩:=Qg hf;obtain⟨d2,_,rfl,f2,hf⟩:=Qg hf;obtain rfl:=Qm hf;show Calls _ _ #[d1.val,d2.val] w _;rw [Jn f1,Zd f2];exact Ql4 (stD d1) (QL d2) hp w)
def Va(a:Qd)(n:Int):Qd:=if n < 2147483648 then Js 3 a (Zs n)else Js 4 a (Zs (IntKind.u32.wrap (0 - n)))
def Qpn:List Sg:= [⟨29,[.l (some .u32)],.a Qb,true⟩,⟨35,[.l (some .i64),.a Qb,.a Qb],.a Qb,true⟩]
def QiU:List PX:= [.a (Qa 0 0 Qb),.l (.n .u32 (.v 1 0))]
def QlZ:List Rw:= []
def QlX:Cfg:=⟨2,Qpn,[]⟩
def Qpl:List Lf:=
 let z0:SX:= .c .lss (.v 1 0) (.i 2147483648)
 [⟨[.f 9 1 [.l (.n .i64 (.i 3)),.a (Qa 0 0 Qb),.a (Qa 8 0 Qb)],.f 8 0 [.l (.n .u32 (.v 1 0))],.c z0 true],.v (.a (Qa 9 0 Qb))⟩,⟨[.f 10 1 [.l (.n .i64 (.i 4)),.a (Qa 0 0 Qb),.a (Qa 9 0 Qb)],.f 9 0 [.l (.n .u32 (.o .sub .u32 (.i 0) (.v 1 0)))],.c z0 false],.v (.a (Qa 10 0 Qb))⟩]
def Qpm:List Ob:=
 let z0:SX:= .c .lss (.v 1 0) (.i 2147483648)
 let z1:PX:= .l (.n .u32 (.o .sub .u32 (.i 0) (.v 1 0)))
 [.pre [.c z0 true] 0 [.l (.n .u32 (.v 1 0))],.pre [.f 8 0 [.l (.n .u32 (.v 1 0))],.c z0 true] 1 [.l (.n .i64 (.i 3)),.a (Qa 0 0 Qb),.a (Qa 8 0 Qb)],.pre [.c z0 false] 0 [z1],.pre [.f 9 0 [z1],.c z0 false] 1 [.l (.n .i64 (.i 4)),.a (Qa 0 0 Qb),.a (Qa 9 0 Qb)]]
theorem QlY:QS Tryz.prog QlX 2000 Tryz.f37 QiU QlZ=some (Qpl,Qpm):=by kernel_rfl
theorem QoE(a:Qd)(n:Int)(h:a.wf∧Zk n)(w:World):Calls Tryz.prog 37 #[a.val,.int .u32 n] w (Ret (Va a n).val w):=by
 refine Q5 (C:= [JR,WK]) (I:= []) Qo rfl Tryz.func37 QlY (QnE a n) w rfl (fun r hr=>(List.not_mem_nil hr).elim) _ ?_ ?_
 ·refine⟨?_,?_,?_,?_,trivial⟩
  all_goals
   intro e he;have h0:=Qk (he 0 (by decide)).1 (he 0 (by decide)).2.1
   have h1:e.int 1=fun _=>n:=(he 1 (by decide)).1
   simp only [QC,Ze,Cd.holds,SX.den,cmI,PX.den,LX.den,VX.sat,List.map_cons,List.map_nil,List.append_nil,beq_iff_eq,bne_iff_ne,beq_eq_false_iff_ne,bne_eq_false_iff_eq,decide_eq_true_eq,decide_eq_false_iff_not,Bool.and_eq_true,Bool.and_eq_false_iff,ne_eq,List.getElem?_cons_zero,List.getElem?_cons_succ,Option.some.injEq,exists_eq_left',Q1,QH,Qr,Q0,QE,QY,Qy,QF,JR,WK,h0,h1,arI];intro hc
   first
    |trivial
    |(rw [Qk hc.1.1 hc.1.2];exact⟨h.1,ZJ h.2⟩)
    |(rw [Qk hc.1.1 hc.1.2];exact⟨h.1,ZJ (QR _)⟩)
 refine⟨?_,?_,trivial⟩
 all_goals
  intro e u he hc hs;have h0:=Qk (he 0 (by decide)).1 (he 0 (by decide)).2.1
  have h1:e.int 1=fun _=>n:=(he 1 (by decide)).1
  rw [Jh hs,KJ];simp only [QC,Ze,Cd.holds,SX.den,cmI,PX.den,LX.den,VX.sat,List.map_cons,List.map_nil,List.append_nil,beq_iff_eq,bne_iff_ne,beq_eq_false_iff_ne,bne_eq_false_iff_eq,decide_eq_true_eq,decide_eq_false_iff_not,Bool.and_eq_true,Bool.and_eq_false_iff,ne_eq,List.getElem?_cons_zero,List.getElem?_cons_succ,Option.some.injEq,exists_eq_left',Q1,QH,Qr,Q0,QE,QY,Qy,QF,JR,WK,h0,h1,arI]at hc
  rw [Qk hc.1.1 hc.1.2,Qk hc.2.1.1 hc.2.1.2,Va]
  first|rw [if_pos hc.2.2.1]|rw [if_neg hc.2.2.1]
def QfG:Con Tryz.prog:= .mk' ⟨37,[.a Qb,.l (some .u32)],.a Qb,true⟩
 (fun ads=>match ads with| [d1,d2]=>(QK d1).wf∧Zk (Q3 d2)|_=>False)
 (fun ads=>match ads with| [d1,d2]=>QJ (Va (QK d1) (Q3 d2))|_=>fun _=>0)
 (fun ads=>match ads with| [d1,d2]=>QO (Va (QK d1) (Q3 d2))|_=>fun _=>false)
 ⟨_,Tryz.func37,by kernel_rfl,by kernel_rfl⟩ (fun ads w hf hp=>by
   obtain⟨d1,_,rfl,f1,hf⟩:=Qg hf;obtain⟨d2,_,rfl,f2,hf⟩:=Qg hf;obtain rfl:=Qm hf;show Calls _ _ #[d1.val,d2.val] w _;rw [Zg f1,QB f2];exact QoE (QK d1) (Q3 d2) hp w)
def Xs(a b:Nat→Qd):Nat→Qd:=fun k=>Jp (a k) (b k)
def QrB:List Sg:= [⟨56,[.a Qb,.a Qb],.a Qb,true⟩]
def QlS:List PX:= [.a (Qa 0 0 stK),.a (Qa 1 0 stK)]
def Qph:List Rw:= []
def Qpf:Cfg:=⟨2,QrB,[]⟩
def Qr9:List Lf:= [⟨[.f 144 0 [.a (Qa 0 35 Qb),.a (Qa 1 35 Qb)],.f 126 0 [.a (Qa 0 30 Qb),.a (Qa 1 30 Qb)],.f 108 0 [.a (Qa 0 25 Qb),.a (Qa 1 25 Qb)],.f 90 0 [.a (Qa 0 20 Qb),.a (Qa 1 20 Qb)],.f 72 0 [.a (Qa 0 15 Qb),.a (Qa 1 15 Qb)],.f 54 0 [.a (Qa 0 10 Qb),.a (Qa 1 10 Qb)],.f 36 0 [.a (Qa 0 5 Qb),.a (Qa 1 5 Qb)],.f 18 0 [.a (Qa 0 0 Qb),.a (Qa 1 0 Qb)]],.v (.a (QbD [(18,0),(36,0),(54,0),(72,0),(90,0),(108,0),(126,0),(144,0)]))⟩]
def QrA:List Ob:=
 let z0:List Cd:= [.f 18 0 [.a (Qa 0 0 Qb),.a (Qa 1 0 Qb)]]
 let z1:List Cd:=(.f 36 0 [.a (Qa 0 5 Qb),.a (Qa 1 5 Qb)] :: z0)
 let z2:List Cd:=(.f 54 0 [.a (Qa 0 10 Qb),.a (Qa 1 10 Qb)] :: z1)
 let z3:List Cd:=(.f 72 0 [.a (Qa 0 15 Qb),.a (Qa 1 15 Qb)] :: z2)
 let z4:List Cd:=(.f 90 0 [.a (Qa 0 20 Qb),.a (Qa 1 20 Qb)] :: z3)
 let z5:List Cd:=(.f 108 0 [.a (Qa 0 25 Qb),.a (Qa 1 25 Qb)] :: z4)
 [.pre [] 0 [.a (Qa 0 0 Qb),.a (Qa 1 0 Qb)],.pre z0 0 [.a (Qa 0 5 Qb),.a (Qa 1 5 Qb)],.pre z1 0 [.a (Qa 0 10 Qb),.a (Qa 1 10 Qb)],.pre z2 0 [.a (Qa 0 15 Qb),.a (Qa 1 15 Qb)],.pre z3 0 [.a (Qa 0 20 Qb),.a (Qa 1 20 Qb)],.pre z4 0 [.a (Qa 0 25 Qb),.a (Qa 1 25 Qb)],.pre z5 0 [.a (Qa 0 30 Qb),.a (Qa 1 30 Qb)],.pre (.f 126 0 [.a (Qa 0 30 Qb),.a (Qa 1 30 Qb)] :: z5) 0 [.a (Qa 0 35 Qb),.a (Qa 1 35 Qb)]]
theorem Qpg:QS Tryz.prog Qpf 2000 Tryz.f39 QlS Qph=some (Qr9,QrA):=by kernel_rfl
set_option maxHeartbeats 1000000 in
theorem Qo2(a b:Nat→Qd)(h:(∀k,(a k).wf)∧∀k,(b k).wf)(w:World):Calls Tryz.prog 39 #[Zm a,Zm b] w (Ret (Zm (Xs a b)) w):=by
 refine Q5 (C:= [QqL]) (I:= []) Qo rfl Tryz.func39 Qpg (QeG a b) w rfl (fun r hr=>(List.not_mem_nil hr).elim) _ ?_ ?_
 ·have wfs:∀e:Env,Env.agr 2 (QeG a b) e→∀k,(QV e 0 (5 * k)).wf∧(QV e 1 (5 * k)).wf:=fun e he k=>by
   rw [QW (he 0 (by decide)).1 (he 0 (by decide)).2.1,QW (he 1 (by decide)).1 (he 1 (by decide)).2.1];exact⟨h.1 k,h.2 k⟩
  exact⟨fun e he _=>wfs e he 0,fun e he _=>wfs e he 1,fun e he _=>wfs e he 2,fun e he _=>wfs e he 3,fun e he _=>wfs e he 4,fun e he _=>wfs e he 5,fun e he _=>wfs e he 6,fun e he _=>wfs e he 7,trivial⟩
 refine⟨?_,trivial⟩
 all_goals
  intro e u he hc hs;rw [Jh hs];have k0:=QW (he 0 (by decide)).1 (he 0 (by decide)).2.1
  have k1:=QW (he 1 (by decide)).1 (he 1 (by decide)).2.1
  simp only [QC,Cd.holds,List.getElem?_cons_zero,List.getElem?_cons_succ,Option.some.injEq,exists_eq_left',Q1,QH,Qr,Q0,QE,QY,Qy,QF,QqL,List.map_cons,List.map_nil]at hc;obtain⟨c7,c6,c5,c4,c3,c2,c1,c0,_⟩:=hc;rw [Vx];refine QQ fun k hk=>?_
  match k,hk with
  |0,_=>exact(Qk c0.1 c0.2).trans (by rw [Xs,←k0 0,←k1 0])
  |1,_=>exact(Qk c1.1 c1.2).trans (by rw [Xs,←k0 1,←k1 1])
  |2,_=>exact(Qk c2.1 c2.2).trans (by rw [Xs,←k0 2,←k1 2])
  |3,_=>exact(Qk c3.1 c3.2).trans (by rw [Xs,←k0 3,←k1 3])
  |4,_=>exact(Qk c4.1 c4.2).trans (by rw [Xs,←k0 4,←k1 4])
  |5,_=>exact(Qk c5.1 c5.2).trans (by rw [Xs,←k0 5,←k1 5])
  |6,_=>exact(Qk c6.1 c6.2).trans (by rw [Xs,←k0 6,←k1 6])
  |7,_=>exact(Qk c7.1 c7.2).trans (by rw [Xs,←k0 7,←k1 7])
end Go.Proofs.YteplnamfpodmlaaGreat
end
section
namespace Go.Proofs.YteplnamfpodmlaaGreat
theorem Qgo(w:World):Calls Tryz.prog 13 #[] w (Ret (Zm fun _=>Qp) w):=Qi7 w
def WM:Con Tryz.prog:= .mk' ⟨13,[],.a stK,true⟩
 (fun ads=>match ads with| []=>True|_=>False)
 (fun ads=>match ads with| []=>QU fun _=>Qp|_=>fun _=>0)
 (fun ads=>match ads with| []=>QI fun _=>Qp|_=>fun _=>false)
 ⟨_,Tryz.func13,by kernel_rfl,by kernel_rfl⟩ (fun ads w hf hp=>by
   obtain rfl:=Qm hf;exact Qgo  w)
def opL(op:Int):Int:=if op=6 then 3 else if op=7 then 4 else if op=8 then 6 else if op=9 then 7 else if op=10 then 8 else if op=11 then 5 else if op=12 then 9 else if op=13 then 10 else 11
def Kj(s:Nat→Qd)(r:Int)(v:Qd):Nat→Qd:=fun k=>if r=(k:Int)then v else s k
def YC(i:Ins):Int:=IntKind.u32.wrap (IntKind.u32.wrap (1 * 2 ^ (min (IntKind.i64.wrap (8 * i.width)).toNat IntKind.u32.bits)) - 1)
def Qu(i:Ins)(s:Nat→Qd):Nat→Qd:=
 if Qv i=false then s
 else if i.op=5 then Kj s i.a (VC i s)
 else if 6≤i.op∧i.op≤14 then Kj s i.a (Js (opL i.op) (s i.a.toNat) (VC i s))
 else if i.op=16∧i.width < 4 then Kj s i.a (Qj 0 (YC i) 1)
 else if i.op=16∨i.op=17∨i.op=26 then Kj s i.a Qp
 else if i.op=19 then Kj s i.a (Va (s i.b.toNat) i.imm)
 else if i.op=25 then Kj s i.a (Qj 0 1 1)
 else if i.op=3 then Kj s 7 (Js 4 (s 7) (Zs 4))
 else if i.op=4 then Kj (Kj s 7 (Js 3 (s 7) (Zs 4))) i.a Qp
 else if i.op=2 then Kj s 7 (Js 3 (s 7) (Zs 4))
 else if i.op=23∨i.op=24 then fun _=>Qp
 else s
theorem XV{i:Ins}(h:Qv i=true):0≤i.a∧i.a < 8∧0≤i.b∧i.b < 8∧(i.op=16→i.width=1∨i.width=2∨i.width=4)∧(i.op=17→i.width=1∨i.width=2):=by
 unfold Qv at h;rw [beq_iff_eq]at h;unfold QfU at h;split at h
 ·cases h
 ·rename_i h1;split at h
  ·cases h
  ·rename_i h2;have ha:Qav i.a=true→0≤i.a∧i.a < 8:=fun h=>by simpa [Qav] using h
   have hb:Qav i.b=true→0≤i.b∧i.b < 8:=fun h=>by simpa [Qav] using h
   have hw:Wb i=true:=by grind
   refine⟨?_,?_,?_,?_,?_,?_⟩
   ·grind
   ·grind
   ·grind
   ·grind
   ·intro h16;simp [Wb,XJ,h16]at hw;omega
   ·intro h17;simp [Wb,h17]at hw;omega
theorem QsC{e:Env}{s:Nat→Qd}(h:∀k,QV e 1 (5 * k)=s k){k:Nat}(hk:k < 8):Qij e [(1,0),(1,5),(1,10),(1,15),(1,20),(1,25),(1,30),(1,35)] k=s k:=by
 match k,hk with
 |0,_=>exact h 0
 |1,_=>exact h 1
 |2,_=>exact h 2
 |3,_=>exact h 3
 |4,_=>exact h 4
 |5,_=>exact h 5
 |6,_=>exact h 6
 |7,_=>exact h 7
theorem QnT{e:Env}{s:Nat→Qd}{v:Qd}{d:Nat}(h:∀k,QV e 1 (5 * k)=s k)(hv:QV e d 0=v){k:Nat}(hk:k < 8):Qij e [(1,0),(1,5),(1,10),(1,15),(1,20),(1,25),(1,30),(d,0)] k=Kj s 7 v k:=by
 match k,hk with
 |0,_=>exact h 0
 |1,_=>exact h 1
 |2,_=>exact h 2
 |3,_=>exact h 3
 |4,_=>exact h 4
 |5,_=>exact h 5
 |6,_=>exact h 6
 |7,_=>exact hv
theorem KG{i:Ins}{s t:Nat→Qd}(h:∀k,k < 8→s k=t k)(hb:0≤i.b∧i.b < 8):VC i s=VC i t:=by
 unfold VC;split
 ·exact h _ (by omega)
 ·rfl
theorem Jq{e:Env}{s:Nat→Qd}{a:Int}{X:Qd}{d:Nat}(k1:∀k,QV e 1 (5 * k)=s k)(ha:e.int 0 6=a)(hX:QV e d 0=X) :
 PX.den e (.a (Zf (.v 0 6) (d,0) [(1,0),(1,5),(1,10),(1,15),(1,20),(1,25),(1,30),(1,35)]))=Zm (Kj s a X):=by
 rw [Qbn];refine QQ fun k hk=>?_
 simp only [SX.den,ha,hX,QsC k1 hk,Kj,beq_iff_eq]
theorem Qgk{e:Env}{s:Nat→Qd}{X:Qd}{d:Nat}(k1:∀k,QV e 1 (5 * k)=s k)(hX:QV e d 0=X) :
 PX.den e (.a (QbD [(1,0),(1,5),(1,10),(1,15),(1,20),(1,25),(1,30),(d,0)]))=Zm (Kj s 7 X):=by
 rw [Vx];exact QQ fun k hk=>QnT k1 hX hk
theorem Qd3{e:Env}{s:Nat→Qd}{a:Int}{X Y:Qd}{d d':Nat}(k1:∀k,QV e 1 (5 * k)=s k)(ha:e.int 0 6=a)(hX:QV e d 0=X)(hY:QV e d' 0=Y) :
 PX.den e (.a (Zf (.v 0 6) (d,0) [(1,0),(1,5),(1,10),(1,15),(1,20),(1,25),(1,30),(d',0)]))=Zm (Kj (Kj s 7 Y) a X):=by
 rw [Qbn];refine QQ fun k hk=>?_
 simp only [SX.den,ha,hX,QnT k1 hY hk,beq_iff_eq];rfl
theorem QtQ{op:Int}(h1:6≤op)(h2:op≤14):(if IntKind.i64.wrap (op - 6)=0 then((3:Int),false)else if IntKind.i64.wrap (op - 6)=1 then(4,false)else if IntKind.i64.wrap (op - 6)=2 then(6,false)else if IntKind.i64.wrap (op - 6)=3 then(7,false)
 else if IntKind.i64.wrap (op - 6)=4 then(8,false)else if IntKind.i64.wrap (op - 6)=5 then(5,false)else if IntKind.i64.wrap (op - 6)=6 then(9,false)else if IntKind.i64.wrap (op - 6)=7 then(10,false)else(11,false)).1=opL op:=by
 rcases (by omega:op=6∨op=7∨op=8∨op=9∨op=10∨op=11∨op=12∨op=13∨op=14)with rfl|rfl|rfl|rfl|rfl|rfl|rfl|rfl|rfl <;> decide
def Qg6:List Sg:= [⟨33,[.a Qc],.l none,true⟩,⟨34,[.a stK,.a Qc],.a Qb,true⟩,⟨35,[.l (some .i64),.a Qb,.a Qb],.a Qb,true⟩,⟨31,[.l (some .u32),.l (some .u32),.l (some .u32)],.a Qb,true⟩,⟨36,[],.a Qb,true⟩,⟨37,[.a Qb,.l (some .u32)],.a Qb,true⟩,⟨29,[.l (some .u32)],.a Qb,true⟩,⟨13,[],.a stK,true⟩]
def QdE:List PX:= [.a (Qa 0 0 Qc),.a (Qa 1 0 stK)]
def Qej:List Rw:= []
def Qeh:Cfg:=⟨2,Qg6,[]⟩
def Qg4:List Lf:=
 let z0:PX:= .a (Qa 0 0 Qc)
 let z1:PX:= .a (Qa 1 0 stK)
 let z2:List Cd:= [.c (.v 6 0) true,.f 6 0 [z0]]
 let z3:SX:= .o .sub .i64 (.v 0 2) (.i 6)
 let z4:List Cd:=(.c (.c .eql (.v 0 2) (.i 5)) false :: z2)
 let z5:PX:= .l (.n .u32 (.i 1))
 let z6:SX:= .c .eql (.v 0 2) (.i 16)
 let z7:List Cd:=(.c (.an (.c .geq (.v 0 2) (.i 6)) (.c .leq (.v 0 2) (.i 14))) false :: z4)
 let z8:List Cd:=(.c (.an z6 (.c .lss (.v 0 4) (.i 4))) false :: z7)
 let z9:List Cd:=(.c (.c .eql (.v 0 2) (.i 17)) false :: .c z6 false :: z8)
 let z10:List Cd:=(.c (.c .eql (.v 0 2) (.i 26)) false :: z9)
 let z11:List Cd:=(.c (.c .eql (.v 0 2) (.i 19)) false :: z10)
 let z12:PX:= .a (Qa 1 35 Qb)
 let z13:PX:= .l (.n .u32 (.i 4))
 let z14:List Cd:=(.c (.c .eql (.v 0 2) (.i 25)) false :: z11)
 let z15:List Cd:=(.c (.c .eql (.v 0 2) (.i 3)) false :: z14)
 let z16:List Cd:=(.c (.c .eql (.v 0 2) (.i 4)) false :: z15)
 let z17:List Cd:=(.c (.c .eql (.v 0 2) (.i 2)) false :: z16)
 let z18:List Cd:=(.c (.c .eql (.v 0 2) (.i 23)) false :: z17)
 [⟨[.c (.v 6 0) false,.f 6 0 [z0]],.v z1⟩,⟨(.f 21 1 [z1,z0] :: .c (.c .eql (.v 0 2) (.i 5)) true :: z2),.v (.a (Zf (.v 0 6) (21,0) [(1,0),(1,5),(1,10),(1,15),(1,20),(1,25),(1,30),(1,35)]))⟩,⟨(.f 40 2 [.l (.n .i64 (.it (.c .eql z3 (.i 0)) (.i 3) (.it (.c .eql z3 (.i 1)) (.i 4) (.it (.c .eql z3 (.i 2)) (.i 6) (.it (.c .eql z3 (.i 3)) (.i 7) (.it (.c .eql z3 (.i 4)) (.i 8) (.it (.c .eql z3 (.i 5)) (.i 5) (.it (.c .eql z3 (.i 6)) (.i 9) (.it (.c .eql z3 (.i 7)) (.i 10) (.i 11)))))))))),.a (Qh 1 (.v 0 6)),.a (Qa 39 0 Qb)] :: .f 39 1 [z1,z0] :: .c (.c .geq (.v 0 2) (.i 6)) true :: .c (.c .leq (.v 0 2) (.i 14)) true :: z4),.v (.a (Zf (.v 0 6) (40,0) [(1,0),(1,5),(1,10),(1,15),(1,20),(1,25),(1,30),(1,35)]))⟩,⟨(.f 42 3 [.l (.n .u32 (.i 0)),.l (.n .u32 (.o .sub .u32 (.o .shl .u32 (.i 1) (.o .mul .i64 (.i 8) (.v 0 4))) (.i 1))),z5] :: .c z6 true :: .c (.c .lss (.v 0 4) (.i 4)) true :: z7),.v (.a (Zf (.v 0 6) (42,0) [(1,0),(1,5),(1,10),(1,15),(1,20),(1,25),(1,30),(1,35)]))⟩,⟨(.f 41 4 [] :: .c z6 true :: z8),.v (.a (Zf (.v 0 6) (41,0) [(1,0),(1,5),(1,10),(1,15),(1,20),(1,25),(1,30),(1,35)]))⟩,⟨(.f 45 4 [] :: .c (.c .eql (.v 0 2) (.i 17)) true :: .c z6 false :: z8),.v (.a (Zf (.v 0 6) (45,0) [(1,0),(1,5),(1,10),(1,15),(1,20),(1,25),(1,30),(1,35)]))⟩,⟨(.f 49 4 [] :: .c (.c .eql (.v 0 2) (.i 26)) true :: z9),.v (.a (Zf (.v 0 6) (49,0) [(1,0),(1,5),(1,10),(1,15),(1,20),(1,25),(1,30),(1,35)]))⟩,⟨(.f 60 5 [.a (Qh 1 (.v 0 7)),.l (.n .u32 (.v 0 1))] :: .c (.c .eql (.v 0 2) (.i 19)) true :: z10),.v (.a (Zf (.v 0 6) (60,0) [(1,0),(1,5),(1,10),(1,15),(1,20),(1,25),(1,30),(1,35)]))⟩,⟨(.f 57 3 [.l (.n .u32 (.i 0)),z5,z5] :: .c (.c .eql (.v 0 2) (.i 25)) true :: z11),.v (.a (Zf (.v 0 6) (57,0) [(1,0),(1,5),(1,10),(1,15),(1,20),(1,25),(1,30),(1,35)]))⟩,⟨(.f 65 2 [.l (.n .i64 (.i 4)),z12,.a (Qa 64 0 Qb)] :: .f 64 6 [z13] :: .c (.c .eql (.v 0 2) (.i 3)) true :: z14),.v (.a (QbD [(1,0),(1,5),(1,10),(1,15),(1,20),(1,25),(1,30),(65,0)]))⟩,⟨(.f 78 4 [] :: .f 69 2 [.l (.n .i64 (.i 3)),z12,.a (Qa 68 0 Qb)] :: .f 68 6 [z13] :: .c (.c .eql (.v 0 2) (.i 4)) true :: z15),.v (.a (Zf (.v 0 6) (78,0) [(1,0),(1,5),(1,10),(1,15),(1,20),(1,25),(1,30),(69,0)]))⟩,⟨(.f 73 2 [.l (.n .i64 (.i 3)),z12,.a (Qa 72 0 Qb)] :: .f 72 6 [z13] :: .c (.c .eql (.v 0 2) (.i 2)) true :: z16),.v (.a (QbD [(1,0),(1,5),(1,10),(1,15),(1,20),(1,25),(1,30),(73,0)]))⟩,⟨(.f 73 7 [] :: .c (.c .eql (.v 0 2) (.i 23)) true :: z17),.v (.a (Qa 73 0 stK))⟩,⟨(.f 77 7 [] :: .c (.c .eql (.v 0 2) (.i 24)) true :: z18),.v (.a (Qa 77 0 stK))⟩,⟨(.c (.c .eql (.v 0 2) (.i 24)) false :: z18),.v z1⟩]
def Qg5:List Ob:=
 let z0:PX:= .a (Qa 0 0 Qc)
 let z1:List Cd:= [.c (.v 6 0) true,.f 6 0 [z0]]
 let z2:SX:= .c .geq (.v 0 6) (.i 0)
 let z3:SX:= .c .lss (.v 0 6) (.i 8)
 let z4:List Cd:=(.c (.c .eql (.v 0 2) (.i 5)) true :: z1)
 let z5:PX:= .a (Qa 1 0 stK)
 let z6:List Cd:=(.c (.c .eql (.v 0 2) (.i 5)) false :: z1)
 let z7:List Cd:=(.c (.c .geq (.v 0 2) (.i 6)) true :: .c (.c .leq (.v 0 2) (.i 14)) true :: z6)
 let z8:SX:= .o .sub .i64 (.v 0 2) (.i 6)
 let z9:List Cd:=(.f 39 1 [z5,z0] :: z7)
 let z10:PX:= .l (.n .i64 (.it (.c .eql z8 (.i 0)) (.i 3) (.it (.c .eql z8 (.i 1)) (.i 4) (.it (.c .eql z8 (.i 2)) (.i 6) (.it (.c .eql z8 (.i 3)) (.i 7) (.it (.c .eql z8 (.i 4)) (.i 8) (.it (.c .eql z8 (.i 5)) (.i 5) (.it (.c .eql z8 (.i 6)) (.i 9) (.it (.c .eql z8 (.i 7)) (.i 10) (.i 11))))))))))
 let z11:SX:= .c .eql (.v 0 2) (.i 16)
 let z12:List Cd:=(.c (.an (.c .geq (.v 0 2) (.i 6)) (.c .leq (.v 0 2) (.i 14))) false :: z6)
 let z13:List Cd:=(.c z11 true :: .c (.c .lss (.v 0 4) (.i 4)) true :: z12)
 let z14:PX:= .l (.n .u32 (.i 0))
 let z15:PX:= .l (.n .u32 (.o .sub .u32 (.o .shl .u32 (.i 1) (.o .mul .i64 (.i 8) (.v 0 4))) (.i 1)))
 let z16:PX:= .l (.n .u32 (.i 1))
 let z17:List Cd:=(.c (.an z11 (.c .lss (.v 0 4) (.i 4))) false :: z12)
 let z18:List Cd:=(.c (.c .eql (.v 0 2) (.i 17)) true :: .c z11 false :: z17)
 let z19:List Cd:=(.c (.c .eql (.v 0 2) (.i 17)) false :: .c z11 false :: z17)
 let z20:List Cd:=(.c (.c .eql (.v 0 2) (.i 26)) true :: z19)
 let z21:List Cd:=(.c (.c .eql (.v 0 2) (.i 26)) false :: z19)
 let z22:List Cd:=(.c (.c .eql (.v 0 2) (.i 19)) true :: z21)
 let z23:List Cd:=(.c (.c .eql (.v 0 2) (.i 19)) false :: z21)
 let z24:List Cd:=(.c (.c .eql (.v 0 2) (.i 25)) true :: z23)
 let z25:List Cd:=(.c (.c .eql (.v 0 2) (.i 25)) false :: z23)
 let z26:List Cd:=(.c (.c .eql (.v 0 2) (.i 3)) true :: z25)
 let z27:PX:= .l (.n .u32 (.i 4))
 let z28:PX:= .a (Qa 1 35 Qb)
 let z29:List Cd:=(.c (.c .eql (.v 0 2) (.i 3)) false :: z25)
 let z30:List Cd:=(.c (.c .eql (.v 0 2) (.i 4)) true :: z29)
 let z31:PX:= .l (.n .i64 (.i 3))
 let z32:List Cd:=(.f 69 2 [z31,z28,.a (Qa 68 0 Qb)] :: .f 68 6 [z27] :: z30)
 let z33:List Cd:=(.c (.c .eql (.v 0 2) (.i 4)) false :: z29)
 let z34:List Cd:=(.c (.c .eql (.v 0 2) (.i 2)) true :: z33)
 let z35:List Cd:=(.c (.c .eql (.v 0 2) (.i 2)) false :: z33)
 let z36:List Cd:=(.f 40 2 [z10,.a (Qh 1 (.v 0 6)),.a (Qa 39 0 Qb)] :: z9)
 let z37:List Cd:=(.f 42 3 [z14,z15,z16] :: z13)
 let z38:List Cd:=(.f 41 4 [] :: .c z11 true :: z17)
 let z39:List Cd:=(.f 60 5 [.a (Qh 1 (.v 0 7)),.l (.n .u32 (.v 0 1))] :: z22)
 let z40:List Cd:=(.f 57 3 [z14,z16,z16] :: z24)
 [.pre [] 0 [z0],.cl z1 z2,.cl z1 z3,.pre z4 1 [z5,z0],.cl z7 (.c .geq z8 (.i 0)),.cl z7 (.c .lss z8 (.i 9)),.pre z7 1 [z5,z0],.cl z9 (.c .geq z8 (.i 0)),.cl z9 (.c .lss z8 (.i 9)),.pre z9 2 [z10,.a (Qh 1 (.v 0 6)),.a (Qa 39 0 Qb)],.cl z13 (.c .geq (.o .mul .i64 (.i 8) (.v 0 4)) (.i 0)),.pre z13 3 [z14,z15,z16],.pre (.c z11 true :: z17) 4 [],.pre z18 4 [],.pre z20 4 [],.cl z22 (.c .geq (.v 0 7) (.i 0)),.cl z22 (.c .lss (.v 0 7) (.i 8)),.pre z22 5 [.a (Qh 1 (.v 0 7)),.l (.n .u32 (.v 0 1))],.pre z24 3 [z14,z16,z16],.pre z26 6 [z27],.pre (.f 64 6 [z27] :: z26) 2 [.l (.n .i64 (.i 4)),z28,.a (Qa 64 0 Qb)],.pre z30 6 [z27],.pre (.f 68 6 [z27] :: z30) 2 [z31,z28,.a (Qa 68 0 Qb)],.pre z32 4 [],.cl (.f 78 4 [] :: z32) z2,.cl (.f 78 4 [] :: z32) z3,.pre z34 6 [z27],.pre (.f 72 6 [z27] :: z34) 2 [z31,z28,.a (Qa 72 0 Qb)],.pre (.c (.c .eql (.v 0 2) (.i 23)) true :: z35) 7 [],.pre (.c (.c .eql (.v 0 2) (.i 24)) true :: .c (.c .eql (.v 0 2) (.i 23)) false :: z35) 7 [],.cl (.f 21 1 [z5,z0] :: z4) z2,.cl (.f 21 1 [z5,z0] :: z4) z3,.cl z36 z2,.cl z36 z3,.cl z37 z2,.cl z37 z3,.cl z38 z2,.cl z38 z3,.cl (.f 45 4 [] :: z18) z2,.cl (.f 45 4 [] :: z18) z3,.cl (.f 49 4 [] :: z20) z2,.cl (.f 49 4 [] :: z20) z3,.cl z39 z2,.cl z39 z3,.cl z40 z2,.cl z40 z3]
theorem Qei:QS Tryz.prog Qeh 2000 Tryz.f10 QdE Qej=some (Qg4,Qg5):=by kernel_rfl
set_option maxHeartbeats 8000000 in
theorem Qgn(i:Ins)(s:Nat→Qd)(h:i.wf∧∀k,(s k).wf)(w:World):Calls Tryz.prog 10 #[i.val,Zm s] w (Ret (Zm (Qu i s)) w):=by
 refine Q5 (C:= [VT,QcV,WK,J5,QhN,QfG,JR,WM]) (I:= []) Qo rfl Tryz.func10 Qei (Qq5 i s) w rfl (fun r hr=>(List.not_mem_nil hr).elim) _ ?_ ?_
 ·refine⟨?_,?_,?_,?_,?_,?_,?_,?_,?_,?_,?_,?_,?_,?_,?_,?_,?_,?_,?_,?_,?_,?_,?_,?_,?_,?_,?_,?_,?_,?_,?_,?_,?_,?_,?_,?_,?_,?_,?_,?_,?_,?_,?_,?_,?_,?_,trivial⟩
  all_goals
   intro e he hc;have h0:e.int 0=Q2 i:=(he 0 (by decide)).1
   have hi:=Zi h0;have k1:=QW (he 1 (by decide)).1 (he 1 (by decide)).2.1
   have kD:=Qgm (he 1 (by decide)).1 (he 1 (by decide)).2.1
   have k5:∀n,QV e 1 (n * 5)=s n:=fun n=>by rw [Nat.mul_comm];exact k1 n
   have k35:QV e 1 35=s 7:=k1 7;clear he
   simp only [QC,Ze,Cd.holds,SX.den,cmI,PX.den,LX.den,VX.sat,List.map_cons,List.map_nil,List.append_nil,beq_iff_eq,bne_iff_ne,beq_eq_false_iff_ne,bne_eq_false_iff_eq,decide_eq_true_eq,decide_eq_false_iff_not,Bool.and_eq_true,Bool.and_eq_false_iff,ne_eq,List.getElem?_cons_zero,List.getElem?_cons_succ,Option.some.injEq,exists_eq_left',Q1,QH,Qr,Q0,QE,QY,Qy,QF,VT,QcV,WK,J5,QhN,QfG,JR,WM,h0,Q2,hi,arI,true_and]at hc ⊢
  all_goals
   (try simp only [k5,k35]at hc)
   (try simp only [k5,k35])
  all_goals
   have hv1:Qv i=true:=by clear h0 hi k1 kD k5 k35;grind
   have hr:=XV hv1;have hb:0≤i.b∧i.b < 8:=⟨hr.2.2.1,hr.2.2.2.1⟩;have hS:VC i (stD (PX.dat e (PX.a (Qa 1 0 stK))))=VC i s:=KG kD hb;have hsw:(VC i s).wf:=Qcu h.1 h.2
   first
    |omega
    |(simp only [IntKind.wrap_i64];omega)
    |(simp only [Zk];omega)
    |exact⟨h.2 _,h.1.2.1⟩
    |(refine⟨h.2 _,?_⟩;rw [hS]at hc;rw [Qk hc.1.1 hc.1.2];exact hsw)
    |(refine⟨h.2 _,?_⟩;rw [Qk hc.1.1 hc.1.2];exact ZJ ⟨by decide,by decide⟩)
    |exact⟨by simp only [Zk];omega,QR _,by simp only [Zk];omega⟩
 refine⟨?_,?_,?_,?_,?_,?_,?_,?_,?_,?_,?_,?_,?_,?_,?_,trivial⟩
 all_goals
  intro e u he hc hs;have h0:e.int 0=Q2 i:=(he 0 (by decide)).1
  have hi:=Zi h0;have k1:=QW (he 1 (by decide)).1 (he 1 (by decide)).2.1
  have kD:=Qgm (he 1 (by decide)).1 (he 1 (by decide)).2.1
  simp only [QC,Ze,Cd.holds,SX.den,cmI,PX.den,LX.den,VX.sat,List.map_cons,List.map_nil,List.append_nil,beq_iff_eq,bne_iff_ne,beq_eq_false_iff_ne,bne_eq_false_iff_eq,decide_eq_true_eq,decide_eq_false_iff_not,Bool.and_eq_true,Bool.and_eq_false_iff,ne_eq,List.getElem?_cons_zero,List.getElem?_cons_succ,Option.some.injEq,exists_eq_left',Q1,QH,Qr,Q0,QE,QY,Qy,QF,VT,QcV,WK,J5,QhN,QfG,JR,WM,h0,Q2,hi,arI]at hc
  rw [Jh hs];clear hs he;have hv:Qv i=e.bool 6 0:=by grind
  have h6:e.int 0 6=i.a:=by rw [h0];rfl
  have k5:∀n,QV e 1 (n * 5)=s n:=fun n=>by rw [Nat.mul_comm];exact k1 n
  have k35:QV e 1 35=s 7:=k1 7
  (try simp only [k5,k35]at hc)
 ·rw [Zy,Qu,if_pos (by rw [hv];exact hc.1)]
  exact QQ fun k _=>k1 k
 ·obtain⟨c1,h5,c2⟩:=hc;have hv1:Qv i=true:=by grind
  have hr:=XV hv1;rw [Jq k1 h6 (Qk c1.1 c1.2),KG kD ⟨hr.2.2.1,hr.2.2.2.1⟩];simp [Qu,hv1,h5]
 ·obtain⟨c1,c2,g1,g2,g3,c3⟩:=hc;have hv1:Qv i=true:=by grind
  have hr:=XV hv1;rw [QtQ g1 g2,Qk c2.1 c2.2,KG kD ⟨hr.2.2.1,hr.2.2.2.1⟩]at c1;rw [Jq k1 h6 (Qk c1.1 c1.2)];simp [Qu,hv1,g1,g2,g3]
 ·obtain⟨c1,g1,g2,c3⟩:=hc;have hv1:Qv i=true:=by grind
  rw [Jq k1 h6 (Qk c1.1 c1.2)];simp [Qu,hv1,g1,g2,YC]
 ·obtain⟨c1,g1,g2,c3⟩:=hc;have hv1:Qv i=true:=by grind
  have g3:¬i.width < 4:=by grind
  rw [Jq k1 h6 (Qk c1.1 c1.2)];simp [Qu,hv1,g1,g3]
 ·obtain⟨c1,g1,c3⟩:=hc;have hv1:Qv i=true:=by grind
  rw [Jq k1 h6 (Qk c1.1 c1.2)];simp [Qu,hv1,g1]
 ·obtain⟨c1,g1,c3⟩:=hc;have hv1:Qv i=true:=by grind
  rw [Jq k1 h6 (Qk c1.1 c1.2)];simp [Qu,hv1,g1]
 ·obtain⟨c1,g1,c3⟩:=hc;have hv1:Qv i=true:=by grind
  rw [Jq k1 h6 (Qk c1.1 c1.2)];simp [Qu,hv1,g1]
 ·obtain⟨c1,g1,c3⟩:=hc;have hv1:Qv i=true:=by grind
  rw [Jq k1 h6 (Qk c1.1 c1.2)];simp [Qu,hv1,g1]
 ·obtain⟨c1,c2,g1,c3⟩:=hc;have hv1:Qv i=true:=by grind
  rw [Qk c2.1 c2.2]at c1;rw [Qgk k1 (Qk c1.1 c1.2)];simp [Qu,hv1,g1]
 ·obtain⟨c1,c2,c4,g1,c3⟩:=hc;have hv1:Qv i=true:=by grind
  rw [Qk c4.1 c4.2]at c2;rw [Qd3 k1 h6 (Qk c1.1 c1.2) (Qk c2.1 c2.2)];simp [Qu,hv1,g1]
 ·obtain⟨c1,c2,g1,c3⟩:=hc;have hv1:Qv i=true:=by grind
  rw [Qk c2.1 c2.2]at c1;rw [Qgk k1 (Qk c1.1 c1.2)];simp [Qu,hv1,g1]
 ·obtain⟨c1,g1,c3⟩:=hc;have hv1:Qv i=true:=by grind
  rw [Zy];have T:Qu i s=fun _=>Qp:=by simp [Qu,hv1,g1]
  rw [T];exact QQ fun k _=>QW c1.1 c1.2 k
 ·obtain⟨c1,g1,c3⟩:=hc;have hv1:Qv i=true:=by grind
  rw [Zy];have T:Qu i s=fun _=>Qp:=by simp [Qu,hv1,g1]
  rw [T];exact QQ fun k _=>QW c1.1 c1.2 k
 ·have T:Qu i s=s:=by
   have hv1:Qv i=true:=by grind
   grind [Qu]
  rw [Zy,T];exact QQ fun k _=>k1 k
end Go.Proofs.YteplnamfpodmlaaGreat
end
section
namespace Go.Proofs.YteplnamfpodmlaaGreat
def V9:Con Tryz.prog:= .mk' ⟨19,[],.a Qb,true⟩
 (fun ads=>match ads with| []=>True|_=>False)
 (fun ads=>match ads with| []=>QJ Qp|_=>fun _=>0)
 (fun ads=>match ads with| []=>QO Qp|_=>fun _=>false)
 ⟨_,Tryz.func19,by kernel_rfl,by kernel_rfl⟩ (fun ads w hf hp=>by
   obtain rfl:=Qm hf;exact Z1  w)
def Ky:Con Tryz.prog:= .mk' ⟨18,[],.a Qb,true⟩
 (fun ads=>match ads with| []=>True|_=>False)
 (fun ads=>match ads with| []=>QJ Qt|_=>fun _=>0)
 (fun ads=>match ads with| []=>QO Qt|_=>fun _=>false)
 ⟨_,Tryz.func18,by kernel_rfl,by kernel_rfl⟩ (fun ads w hf hp=>by
   obtain rfl:=Qm hf;exact KB  w)
def Jg:Con Tryz.prog:= .mk' ⟨76,[.l (some .u32)],.a Qb,true⟩
 (fun ads=>match ads with| [d1]=>True|_=>False)
 (fun ads=>match ads with| [d1]=>QJ (Zs (Q3 d1))|_=>fun _=>0)
 (fun ads=>match ads with| [d1]=>QO (Zs (Q3 d1))|_=>fun _=>false)
 ⟨_,Tryz.func76,by kernel_rfl,by kernel_rfl⟩ (fun ads w hf hp=>by
   obtain⟨d1,_,rfl,f1,hf⟩:=Qg hf;obtain rfl:=Qm hf;show Calls _ _ #[d1.val] w _;rw [QB f1];exact YV (Q3 d1) w)
theorem Qih(op:Int)(a b:Qd)(h:a.wf∧b.wf)(w:World):Calls Tryz.prog 78 #[.int .i64 op,a.val,b.val] w (Ret (Js op a b).val w):=Qlm op a b h.1 h.2 w
def Y6:Con Tryz.prog:= .mk' ⟨78,[.l (some .i64),.a Qb,.a Qb],.a Qb,true⟩
 (fun ads=>match ads with| [d1,d2,d3]=>(QK d2).wf∧(QK d3).wf|_=>False)
 (fun ads=>match ads with| [d1,d2,d3]=>QJ (Js (Q3 d1) (QK d2) (QK d3))|_=>fun _=>0)
 (fun ads=>match ads with| [d1,d2,d3]=>QO (Js (Q3 d1) (QK d2) (QK d3))|_=>fun _=>false)
 ⟨_,Tryz.func78,by kernel_rfl,by kernel_rfl⟩ (fun ads w hf hp=>by
   obtain⟨d1,_,rfl,f1,hf⟩:=Qg hf;obtain⟨d2,_,rfl,f2,hf⟩:=Qg hf;obtain⟨d3,_,rfl,f3,hf⟩:=Qg hf;obtain rfl:=Qm hf;show Calls _ _ #[d1.val,d2.val,d3.val] w _;rw [QB f1,Zg f2,Zg f3];exact Qih (Q3 d1) (QK d2) (QK d3) hp w)
theorem QdZ(lo hi st:Int)(h:Zk lo∧Zk hi∧Zk st)(w:World):Calls Tryz.prog 82 #[.int .u32 lo,.int .u32 hi,.int .u32 st] w (Ret (Qj lo hi st).val w):=
 QfR lo hi st h.1.1 h.1.2 h.2.1.1 h.2.1.2 h.2.2.1 h.2.2.2 w
def Xf:Con Tryz.prog:= .mk' ⟨82,[.l (some .u32),.l (some .u32),.l (some .u32)],.a Qb,true⟩
 (fun ads=>match ads with| [d1,d2,d3]=>Zk (Q3 d1)∧Zk (Q3 d2)∧Zk (Q3 d3)|_=>False)
 (fun ads=>match ads with| [d1,d2,d3]=>QJ (Qj (Q3 d1) (Q3 d2) (Q3 d3))|_=>fun _=>0)
 (fun ads=>match ads with| [d1,d2,d3]=>QO (Qj (Q3 d1) (Q3 d2) (Q3 d3))|_=>fun _=>false)
 ⟨_,Tryz.func82,by kernel_rfl,by kernel_rfl⟩ (fun ads w hf hp=>by
   obtain⟨d1,_,rfl,f1,hf⟩:=Qg hf;obtain⟨d2,_,rfl,f2,hf⟩:=Qg hf;obtain⟨d3,_,rfl,f3,hf⟩:=Qg hf;obtain rfl:=Qm hf;show Calls _ _ #[d1.val,d2.val,d3.val] w _;rw [QB f1,QB f2,QB f3];exact QdZ (Q3 d1) (Q3 d2) (Q3 d3) hp w)
def QrQ:List Sg:= []
def QmI:List PX:= [.a (Qa 0 0 Qb)]
def QpC:List Rw:= []
def QpA:Cfg:=⟨1,QrQ,[]⟩
def QrO:List Lf:= [⟨[],.v (.a (QbD [(0,0),(0,0),(0,0),(0,0),(0,0),(0,0),(0,0),(0,0)]))⟩]
def QrP:List Ob:= []
theorem QpB:QS Tryz.prog QpA 2000 Tryz.f17 QmI QpC=some (QrO,QrP):=by kernel_rfl
def QtG(s:Qd):Env:=⟨fun d=>match d with|0=>QJ s|_=>fun _=>0,fun d=>match d with|0=>QO s|_=>fun _=>false,fun _=>0,fun _=>none⟩
theorem Qrj(s:Qd)(w:World):Calls Tryz.prog 17 #[s.val] w (Ret (Zm fun _=>s) w):=by
 refine Q5 (C:= []) (I:= []) Qo rfl Tryz.func17 QpB (QtG s) w rfl (fun r hr=>(List.not_mem_nil hr).elim) _ ?_ ?_
 ·refine trivial
 refine⟨?_,trivial⟩
 all_goals
  intro e u he hc hs;have h0:QV e 0 0=s:=Qk (he 0 (by decide)).1 (he 0 (by decide)).2.1
  rw [Jh hs,Vx];refine QQ fun k hk=>?_
  match k,hk with
  |0,_|1,_|2,_|3,_|4,_|5,_|6,_|7,_=>exact h0
def Wy:Con Tryz.prog:= .mk' ⟨17,[.a Qb],.a stK,true⟩
 (fun ads=>match ads with| [d1]=>True|_=>False)
 (fun ads=>match ads with| [d1]=>QU (fun _=>(QK d1))|_=>fun _=>0)
 (fun ads=>match ads with| [d1]=>QI (fun _=>(QK d1))|_=>fun _=>false)
 ⟨_,Tryz.func17,by kernel_rfl,by kernel_rfl⟩ (fun ads w hf hp=>by
   obtain⟨d1,_,rfl,f1,hf⟩:=Qg hf;obtain rfl:=Qm hf;show Calls _ _ #[d1.val] w _;rw [Zg f1];exact Qrj (QK d1) w)
def QjS:List Sg:= [⟨76,[.l (some .u32)],.a Qb,true⟩]
def Qez:List PX:= [.a (Qa 0 0 Qc),.a (Qa 1 0 stK)]
def Qha:List Rw:= []
def QgY:Cfg:=⟨2,QjS,[]⟩
def QjQ:List Lf:= [⟨[.c (.c .eql (.v 0 3) (.i 0)) true],.v (.a (Qh 1 (.v 0 7)))⟩,
 ⟨[.f 10 0 [.l (.n .u32 (.v 0 1))],.c (.c .eql (.v 0 3) (.i 0)) false],.v (.a (Qa 10 0 Qb))⟩]
def QjR:List Ob:=
 let z0:List Cd:= [.c (.c .eql (.v 0 3) (.i 0)) true]
 [.cl z0 (.c .geq (.v 0 7) (.i 0)),.cl z0 (.c .lss (.v 0 7) (.i 8)),.pre [.c (.c .eql (.v 0 3) (.i 0)) false] 0 [.l (.n .u32 (.v 0 1))]]
theorem QgZ:QS Tryz.prog QgY 2000 Tryz.f77 Qez Qha=some (QjQ,QjR):=by kernel_rfl
theorem Qip(i:Ins)(s:Nat→Qd)(hb:0≤i.b∧i.b < 8)(w:World):Calls Tryz.prog 77 #[i.val,Zm s] w (Ret (VC i s).val w):=by
 refine Q5 (C:= [Jg]) (I:= []) Qo rfl Tryz.func77 QgZ (Qq5 i s) w rfl (fun r hr=>(List.not_mem_nil hr).elim) _ ?_ ?_
 ·refine⟨?_,?_,?_,trivial⟩
  all_goals
   intro e he;have h1:e.int 0=Q2 i:=(he 0 (by decide)).1
   simp only [QC,Ze,Cd.holds,SX.den,cmI,PX.den,LX.den,VX.sat,List.map_cons,List.map_nil,List.append_nil,beq_iff_eq,bne_iff_ne,beq_eq_false_iff_ne,bne_eq_false_iff_eq,decide_eq_true_eq,decide_eq_false_iff_not,Bool.and_eq_true,Bool.and_eq_false_iff,ne_eq,List.getElem?_cons_zero,List.getElem?_cons_succ,Option.some.injEq,exists_eq_left',Q1,QH,Qr,Q0,QE,QY,Qy,QF,Jg,h1,Q2];intro hc
   first|trivial|omega
 refine⟨?_,?_,trivial⟩
 all_goals
  intro e u he hc hs;have h1:e.int 0=Q2 i:=(he 0 (by decide)).1
  have h0:=QW (he 1 (by decide)).1 (he 1 (by decide)).2.1
  rw [Jh hs]
  first
   |(rw [Qq2]
     simp only [QC,Ze,Cd.holds,SX.den,cmI,PX.den,LX.den,VX.sat,List.map_cons,List.map_nil,List.append_nil,beq_iff_eq,bne_iff_ne,beq_eq_false_iff_ne,bne_eq_false_iff_eq,decide_eq_true_eq,decide_eq_false_iff_not,Bool.and_eq_true,Bool.and_eq_false_iff,ne_eq,List.getElem?_cons_zero,List.getElem?_cons_succ,Option.some.injEq,exists_eq_left',Q1,QH,Qr,Q0,QE,QY,Qy,QF,h1,Q2]at hc
     have hk:(SX.den e (.v 0 7)).1.toNat * 5=5 * i.b.toNat:=by simp only [SX.den,h1,Q2];omega
     rw [hk,h0,VC,if_pos (by simp_all)])
   |(rw [KJ]
     simp only [QC,Ze,Cd.holds,SX.den,cmI,PX.den,LX.den,VX.sat,List.map_cons,List.map_nil,List.append_nil,beq_iff_eq,bne_iff_ne,beq_eq_false_iff_ne,bne_eq_false_iff_eq,decide_eq_true_eq,decide_eq_false_iff_not,Bool.and_eq_true,Bool.and_eq_false_iff,ne_eq,List.getElem?_cons_zero,List.getElem?_cons_succ,Option.some.injEq,exists_eq_left',Q1,QH,Qr,Q0,QE,QY,Qy,QF,Jg,h1,Q2]at hc
     rw [Qk hc.1.1 hc.1.2,VC,if_neg (by simp_all)])
def Qb8:Con Tryz.prog:= .mk' ⟨77,[.a Qc,.a stK],.a Qb,true⟩
 (fun ads=>match ads with| [d1,d2]=>0≤(QL d1).b∧(QL d1).b < 8|_=>False)
 (fun ads=>match ads with| [d1,d2]=>QJ (VC (QL d1) (stD d2))|_=>fun _=>0)
 (fun ads=>match ads with| [d1,d2]=>QO (VC (QL d1) (stD d2))|_=>fun _=>false)
 ⟨_,Tryz.func77,by kernel_rfl,by kernel_rfl⟩ (fun ads w hf hp=>by
   obtain⟨d1,_,rfl,f1,hf⟩:=Qg hf;obtain⟨d2,_,rfl,f2,hf⟩:=Qg hf;obtain rfl:=Qm hf;show Calls _ _ #[d1.val,d2.val] w _;rw [Zd f1,Jn f2];exact Qip (QL d1) (stD d2) hp w)
def QpI:List Sg:= []
def QjJ:List PX:= [.l (.n .i64 (.v 0 0))]
def QmR:List Rw:= []
def QmP:Cfg:=⟨1,QpI,[]⟩
def QpG:List Lf:=
 let z0:List Cd:= [.c (.c .eql (.v 0 0) (.i 6)) false]
 let z1:List Cd:=(.c (.c .eql (.v 0 0) (.i 7)) false :: z0)
 let z2:List Cd:=(.c (.c .eql (.v 0 0) (.i 8)) false :: z1)
 let z3:List Cd:=(.c (.c .eql (.v 0 0) (.i 9)) false :: z2)
 let z4:List Cd:=(.c (.c .eql (.v 0 0) (.i 10)) false :: z3)
 let z5:List Cd:=(.c (.c .eql (.v 0 0) (.i 11)) false :: z4)
 let z6:List Cd:=(.c (.c .eql (.v 0 0) (.i 12)) false :: z5)
 [⟨[.c (.c .eql (.v 0 0) (.i 6)) true],.v (.l (.n .i64 (.i 3)))⟩,⟨(.c (.c .eql (.v 0 0) (.i 7)) true :: z0),.v (.l (.n .i64 (.i 4)))⟩,⟨(.c (.c .eql (.v 0 0) (.i 8)) true :: z1),.v (.l (.n .i64 (.i 6)))⟩,⟨(.c (.c .eql (.v 0 0) (.i 9)) true :: z2),.v (.l (.n .i64 (.i 7)))⟩,⟨(.c (.c .eql (.v 0 0) (.i 10)) true :: z3),.v (.l (.n .i64 (.i 8)))⟩,⟨(.c (.c .eql (.v 0 0) (.i 11)) true :: z4),.v (.l (.n .i64 (.i 5)))⟩,⟨(.c (.c .eql (.v 0 0) (.i 12)) true :: z5),.v (.l (.n .i64 (.i 9)))⟩,⟨(.c (.c .eql (.v 0 0) (.i 13)) true :: z6),.v (.l (.n .i64 (.i 10)))⟩,⟨(.c (.c .eql (.v 0 0) (.i 13)) false :: z6),.v (.l (.n .i64 (.i 11)))⟩]
def QpH:List Ob:= []
theorem QmQ:QS Tryz.prog QmP 2000 Tryz.f79 QjJ QmR=some (QpG,QpH):=by kernel_rfl
def QmO:List Sg:= [⟨76,[.l (some .u32)],.a Qb,true⟩,⟨78,[.l (some .i64),.a Qb,.a Qb],.a Qb,true⟩]
def QgT:List PX:= [.a (Qa 0 0 Qb),.l (.n .u32 (.v 1 0))]
def QjI:List Rw:= []
def QjG:Cfg:=⟨2,QmO,[]⟩
def QmM:List Lf:=
 let z0:SX:= .c .lss (.v 1 0) (.i 2147483648)
 [⟨[.f 9 1 [.l (.n .i64 (.i 3)),.a (Qa 0 0 Qb),.a (Qa 8 0 Qb)],.f 8 0 [.l (.n .u32 (.v 1 0))],.c z0 true],.v (.a (Qa 9 0 Qb))⟩,⟨[.f 10 1 [.l (.n .i64 (.i 4)),.a (Qa 0 0 Qb),.a (Qa 9 0 Qb)],.f 9 0 [.l (.n .u32 (.o .sub .u32 (.i 0) (.v 1 0)))],.c z0 false],.v (.a (Qa 10 0 Qb))⟩]
def QmN:List Ob:=
 let z0:SX:= .c .lss (.v 1 0) (.i 2147483648)
 let z1:PX:= .l (.n .u32 (.o .sub .u32 (.i 0) (.v 1 0)))
 [.pre [.c z0 true] 0 [.l (.n .u32 (.v 1 0))],.pre [.f 8 0 [.l (.n .u32 (.v 1 0))],.c z0 true] 1 [.l (.n .i64 (.i 3)),.a (Qa 0 0 Qb),.a (Qa 8 0 Qb)],.pre [.c z0 false] 0 [z1],.pre [.f 9 0 [z1],.c z0 false] 1 [.l (.n .i64 (.i 4)),.a (Qa 0 0 Qb),.a (Qa 9 0 Qb)]]
theorem QjH:QS Tryz.prog QjG 2000 Tryz.f81 QgT QjI=some (QmM,QmN):=by kernel_rfl
def QjF:List Sg:= [⟨82,[.l (some .u32),.l (some .u32),.l (some .u32)],.a Qb,true⟩,⟨19,[],.a Qb,true⟩]
def Qeu:List PX:= [.l (.n .i64 (.v 0 0))]
def QgS:List Rw:= []
def QgQ:Cfg:=⟨1,QjF,[]⟩
def QjD:List Lf:= [⟨[.f 4 0 [.l (.n .u32 (.i 0)),.l (.n .u32 (.i 255)),.l (.n .u32 (.i 1))],.c (.c .eql (.v 0 0) (.i 1)) true],.v (.a (Qa 4 0 Qb))⟩,
 ⟨[.f 6 0 [.l (.n .u32 (.i 0)),.l (.n .u32 (.i 65535)),.l (.n .u32 (.i 1))],.c (.c .eql (.v 0 0) (.i 2)) true,.c (.c .eql (.v 0 0) (.i 1)) false],.v (.a (Qa 6 0 Qb))⟩,
 ⟨[.f 6 1 [],.c (.c .eql (.v 0 0) (.i 2)) false,.c (.c .eql (.v 0 0) (.i 1)) false],.v (.a (Qa 6 0 Qb))⟩]
def QjE:List Ob:=
 let z0:List Cd:= [.c (.c .eql (.v 0 0) (.i 1)) false]
 [.pre [.c (.c .eql (.v 0 0) (.i 1)) true] 0 [.l (.n .u32 (.i 0)),.l (.n .u32 (.i 255)),.l (.n .u32 (.i 1))],.pre (.c (.c .eql (.v 0 0) (.i 2)) true :: z0) 0 [.l (.n .u32 (.i 0)),.l (.n .u32 (.i 65535)),.l (.n .u32 (.i 1))],.pre (.c (.c .eql (.v 0 0) (.i 2)) false :: z0) 1 []]
theorem QgR:QS Tryz.prog QgQ 2000 Tryz.f80 Qeu QgS=some (QjD,QjE):=by kernel_rfl
theorem QoQ(n:Int)(w:World):Calls Tryz.prog 79 #[.int .i64 n] w (Ret (.int .i64 (opL n)) w):=by
 refine Q5 (C:= []) (I:= []) Qo rfl Tryz.func79 QmQ (Qcf n) w rfl (fun r hr=>(List.not_mem_nil hr).elim) _ ?_ ?_
 ·refine trivial
 refine⟨?_,?_,?_,?_,?_,?_,?_,?_,?_,trivial⟩
 all_goals
  intro e u he hc hs;have h0:e.int 0 0=n:=by rw [(he 0 (by decide)).1];rfl
  simp only [QC,Ze,Cd.holds,SX.den,cmI,PX.den,LX.den,VX.sat,List.map_cons,List.map_nil,List.append_nil,beq_iff_eq,bne_iff_ne,beq_eq_false_iff_ne,bne_eq_false_iff_eq,decide_eq_true_eq,decide_eq_false_iff_not,Bool.and_eq_true,Bool.and_eq_false_iff,ne_eq,List.getElem?_cons_zero,List.getElem?_cons_succ,Option.some.injEq,exists_eq_left',Q1,QH,Qr,Q0,QE,QY,Qy,QF,h0]at hc;rw [Jh hs]
  simp only [PX.den,LX.den,SX.den,opL];congr 1
  grind
def Qgc:Con Tryz.prog:= .mk' ⟨79,[.l (some .i64)],.l (some .i64),true⟩
 (fun ads=>match ads with| [d1]=>True|_=>False)
 (fun ads=>match ads with| [d1]=>fun _=>opL (Q3 d1)|_=>fun _=>0)
 (fun ads=>match ads with| [d1]=>fun _=>false|_=>fun _=>false)
 ⟨_,Tryz.func79,by kernel_rfl,by kernel_rfl⟩ (fun ads w hf hp=>by
   obtain⟨d1,_,rfl,f1,hf⟩:=Qg hf;obtain rfl:=Qm hf;show Calls _ _ #[d1.val] w _;rw [QB f1];exact QoQ (Q3 d1) w)
def YR(n:Int):Qd:=if n=1 then Qj 0 255 1 else if n=2 then Qj 0 65535 1 else Qp
theorem Qim(n:Int)(w:World):Calls Tryz.prog 80 #[.int .i64 n] w (Ret (YR n).val w):=by
 refine Q5 (C:= [Xf,V9]) (I:= []) Qo rfl Tryz.func80 QgR (Qcf n) w rfl (fun r hr=>(List.not_mem_nil hr).elim) _ ?_ ?_
 ·refine⟨?_,?_,?_,trivial⟩
  all_goals
   intro e he;simp only [QC,Ze,Cd.holds,SX.den,cmI,PX.den,LX.den,VX.sat,List.map_cons,List.map_nil,List.append_nil,beq_iff_eq,bne_iff_ne,beq_eq_false_iff_ne,bne_eq_false_iff_eq,decide_eq_true_eq,decide_eq_false_iff_not,Bool.and_eq_true,Bool.and_eq_false_iff,ne_eq,List.getElem?_cons_zero,List.getElem?_cons_succ,Option.some.injEq,exists_eq_left',Q1,QH,Qr,Q0,QE,QY,Qy,QF,Xf,V9,Zk];intro hc
   first|trivial|omega
 refine⟨?_,?_,?_,trivial⟩
 all_goals
  intro e u he hc hs;have h0:e.int 0 0=n:=by rw [(he 0 (by decide)).1];rfl
  simp only [QC,Ze,Cd.holds,SX.den,cmI,PX.den,LX.den,VX.sat,List.map_cons,List.map_nil,List.append_nil,beq_iff_eq,bne_iff_ne,beq_eq_false_iff_ne,bne_eq_false_iff_eq,decide_eq_true_eq,decide_eq_false_iff_not,Bool.and_eq_true,Bool.and_eq_false_iff,ne_eq,List.getElem?_cons_zero,List.getElem?_cons_succ,Option.some.injEq,exists_eq_left',Q1,QH,Qr,Q0,QE,QY,Qy,QF,Xf,V9,h0]at hc
  rw [Jh hs,KJ,Qk hc.1.1 hc.1.2,YR];congr 1;simp_all
def Qb4:Con Tryz.prog:= .mk' ⟨80,[.l (some .i64)],.a Qb,true⟩
 (fun ads=>match ads with| [d1]=>True|_=>False)
 (fun ads=>match ads with| [d1]=>QJ (YR (Q3 d1))|_=>fun _=>0)
 (fun ads=>match ads with| [d1]=>QO (YR (Q3 d1))|_=>fun _=>false)
 ⟨_,Tryz.func80,by kernel_rfl,by kernel_rfl⟩ (fun ads w hf hp=>by
   obtain⟨d1,_,rfl,f1,hf⟩:=Qg hf;obtain rfl:=Qm hf;show Calls _ _ #[d1.val] w _;rw [QB f1];exact Qim (Q3 d1) w)
theorem Qlx(a:Qd)(n:Int)(h:a.wf∧Zk n)(w:World):Calls Tryz.prog 81 #[a.val,.int .u32 n] w (Ret (Va a n).val w):=by
 refine Q5 (C:= [Jg,Y6]) (I:= []) Qo rfl Tryz.func81 QjH (QnE a n) w rfl (fun r hr=>(List.not_mem_nil hr).elim) _ ?_ ?_
 ·refine⟨?_,?_,?_,?_,trivial⟩
  all_goals
   intro e he;have h0:=Qk (he 0 (by decide)).1 (he 0 (by decide)).2.1
   have h1:e.int 1=fun _=>n:=(he 1 (by decide)).1
   simp only [QC,Ze,Cd.holds,SX.den,cmI,PX.den,LX.den,VX.sat,List.map_cons,List.map_nil,List.append_nil,beq_iff_eq,bne_iff_ne,beq_eq_false_iff_ne,bne_eq_false_iff_eq,decide_eq_true_eq,decide_eq_false_iff_not,Bool.and_eq_true,Bool.and_eq_false_iff,ne_eq,List.getElem?_cons_zero,List.getElem?_cons_succ,Option.some.injEq,exists_eq_left',Q1,QH,Qr,Q0,QE,QY,Qy,QF,Jg,Y6,h0,h1,arI];intro hc
   first
    |trivial
    |(rw [Qk hc.1.1 hc.1.2];exact⟨h.1,ZJ h.2⟩)
    |(rw [Qk hc.1.1 hc.1.2];exact⟨h.1,ZJ (QR _)⟩)
 refine⟨?_,?_,trivial⟩
 all_goals
  intro e u he hc hs;have h0:=Qk (he 0 (by decide)).1 (he 0 (by decide)).2.1
  have h1:e.int 1=fun _=>n:=(he 1 (by decide)).1
  rw [Jh hs,KJ];simp only [QC,Ze,Cd.holds,SX.den,cmI,PX.den,LX.den,VX.sat,List.map_cons,List.map_nil,List.append_nil,beq_iff_eq,bne_iff_ne,beq_eq_false_iff_ne,bne_eq_false_iff_eq,decide_eq_true_eq,decide_eq_false_iff_not,Bool.and_eq_true,Bool.and_eq_false_iff,ne_eq,List.getElem?_cons_zero,List.getElem?_cons_succ,Option.some.injEq,exists_eq_left',Q1,QH,Qr,Q0,QE,QY,Qy,QF,Jg,Y6,h0,h1,arI]at hc
  rw [Qk hc.1.1 hc.1.2,Qk hc.2.1.1 hc.2.1.2,Va]
  first|rw [if_pos hc.2.2.1]|rw [if_neg hc.2.2.1]
def Qdq:Con Tryz.prog:= .mk' ⟨81,[.a Qb,.l (some .u32)],.a Qb,true⟩
 (fun ads=>match ads with| [d1,d2]=>(QK d1).wf∧Zk (Q3 d2)|_=>False)
 (fun ads=>match ads with| [d1,d2]=>QJ (Va (QK d1) (Q3 d2))|_=>fun _=>0)
 (fun ads=>match ads with| [d1,d2]=>QO (Va (QK d1) (Q3 d2))|_=>fun _=>false)
 ⟨_,Tryz.func81,by kernel_rfl,by kernel_rfl⟩ (fun ads w hf hp=>by
   obtain⟨d1,_,rfl,f1,hf⟩:=Qg hf;obtain⟨d2,_,rfl,f2,hf⟩:=Qg hf;obtain rfl:=Qm hf;show Calls _ _ #[d1.val,d2.val] w _;rw [Zg f1,QB f2];exact Qlx (QK d1) (Q3 d2) hp w)
end Go.Proofs.YteplnamfpodmlaaGreat
end
section
namespace Go.Proofs.YteplnamfpodmlaaGreat
def Qe2:List Sg:= [⟨42,[.a Qc],.l none,true⟩,⟨76,[.l (some .u32)],.a Qb,true⟩,⟨77,[.a Qc,.a stK],.a Qb,true⟩,⟨78,[.l (some .i64),.a Qb,.a Qb],.a Qb,true⟩,⟨79,[.l (some .i64)],.l (some .i64),true⟩,⟨80,[.l (some .i64)],.a Qb,true⟩,⟨19,[],.a Qb,true⟩,⟨81,[.a Qb,.l (some .u32)],.a Qb,true⟩,⟨82,[.l (some .u32),.l (some .u32),.l (some .u32)],.a Qb,true⟩,⟨17,[.a Qb],.a stK,true⟩]
def Qcn:List PX:= [.a (Qa 0 0 Qc),.a (Qa 1 0 stK)]
def QdO:List Rw:= []
def QdM:Cfg:=⟨2,Qe2,[]⟩
def Qe0:List Lf:=
 let z0:PX:= .a (Qa 0 0 Qc)
 let z1:PX:= .a (Qa 1 0 stK)
 let z2:List Cd:= [.f 8 1 [.l (.n .u32 (.i 4))],.c (.v 6 0) true,.f 6 0 [z0]]
 let z3:List Cd:=(.c (.c .eql (.v 0 2) (.i 5)) false :: z2)
 let z4:List Cd:=(.c (.an (.c .geq (.v 0 2) (.i 6)) (.c .leq (.v 0 2) (.i 14))) false :: z3)
 let z5:List Cd:=(.c (.c .eql (.v 0 2) (.i 16)) false :: z4)
 let z6:List Cd:=(.c (.c .eql (.v 0 2) (.i 17)) false :: .c (.c .eql (.v 0 2) (.i 26)) false :: z5)
 let z7:List Cd:=(.c (.c .eql (.v 0 2) (.i 19)) false :: z6)
 let z8:List Cd:=(.c (.c .eql (.v 0 2) (.i 25)) false :: z7)
 let z9:SX:= .c .eql (.v 0 2) (.i 4)
 let z10:List Cd:=(.c (.c .eql (.v 0 2) (.i 3)) false :: z8)
 let z11:List Cd:=(.f 62 3 [.l (.n .i64 (.i 3)),.a (Qa 1 35 Qb),.a (Qa 8 0 Qb)] :: .c (.an (.no z9) (.no (.c .eql (.v 0 2) (.i 2)))) false :: z10)
 let z12:List Cd:=(.c z9 false :: .c (.c .eql (.v 0 2) (.i 2)) false :: z10)
 [⟨[.c (.v 6 0) false,.f 6 0 [z0]],.v z1⟩,⟨(.f 19 2 [z0,z1] :: .c (.c .eql (.v 0 2) (.i 5)) true :: z2),.v (.a (Zf (.v 0 6) (19,0) [(1,0),(1,5),(1,10),(1,15),(1,20),(1,25),(1,30),(1,35)]))⟩,⟨(.f 37 3 [.l (.n .i64 (.v 28 0)),.a (Qh 1 (.v 0 6)),.a (Qa 36 0 Qb)] :: .f 36 2 [z0,z1] :: .f 28 4 [.l (.n .i64 (.v 0 2))] :: .c (.c .geq (.v 0 2) (.i 6)) true :: .c (.c .leq (.v 0 2) (.i 14)) true :: z3),.v (.a (Zf (.v 0 6) (37,0) [(1,0),(1,5),(1,10),(1,15),(1,20),(1,25),(1,30),(1,35)]))⟩,⟨(.f 32 5 [.l (.n .i64 (.v 0 4))] :: .c (.c .eql (.v 0 2) (.i 16)) true :: z4),.v (.a (Zf (.v 0 6) (32,0) [(1,0),(1,5),(1,10),(1,15),(1,20),(1,25),(1,30),(1,35)]))⟩,⟨(.f 39 6 [] :: .c (.an (.no (.c .eql (.v 0 2) (.i 17))) (.no (.c .eql (.v 0 2) (.i 26)))) false :: z5),.v (.a (Zf (.v 0 6) (39,0) [(1,0),(1,5),(1,10),(1,15),(1,20),(1,25),(1,30),(1,35)]))⟩,⟨(.f 50 7 [.a (Qh 1 (.v 0 7)),.l (.n .u32 (.v 0 1))] :: .c (.c .eql (.v 0 2) (.i 19)) true :: z6),.v (.a (Zf (.v 0 6) (50,0) [(1,0),(1,5),(1,10),(1,15),(1,20),(1,25),(1,30),(1,35)]))⟩,⟨(.f 47 8 [.l (.n .u32 (.i 0)),.l (.n .u32 (.i 1)),.l (.n .u32 (.i 1))] :: .c (.c .eql (.v 0 2) (.i 25)) true :: z7),.v (.a (Zf (.v 0 6) (47,0) [(1,0),(1,5),(1,10),(1,15),(1,20),(1,25),(1,30),(1,35)]))⟩,⟨(.f 53 3 [.l (.n .i64 (.i 4)),.a (Qa 1 35 Qb),.a (Qa 8 0 Qb)] :: .c (.c .eql (.v 0 2) (.i 3)) true :: z8),.v (.a (QbD [(1,0),(1,5),(1,10),(1,15),(1,20),(1,25),(1,30),(53,0)]))⟩,⟨(.f 71 6 [] :: .c z9 true :: z11),.v (.a (Zf (.v 0 6) (71,0) [(1,0),(1,5),(1,10),(1,15),(1,20),(1,25),(1,30),(62,0)]))⟩,⟨(.c z9 false :: z11),.v (.a (QbD [(1,0),(1,5),(1,10),(1,15),(1,20),(1,25),(1,30),(62,0)]))⟩,⟨(.f 68 9 [.a (Qa 67 0 Qb)] :: .f 67 6 [] :: .c (.an (.no (.c .eql (.v 0 2) (.i 23))) (.no (.c .eql (.v 0 2) (.i 24)))) false :: z12),.v (.a (Qa 68 0 stK))⟩,⟨(.c (.c .eql (.v 0 2) (.i 23)) false :: .c (.c .eql (.v 0 2) (.i 24)) false :: z12),.v z1⟩]
def Qe1:List Ob:=
 let z0:PX:= .a (Qa 0 0 Qc)
 let z1:List Cd:= [.c (.v 6 0) true,.f 6 0 [z0]]
 let z2:List Cd:=(.f 8 1 [.l (.n .u32 (.i 4))] :: z1)
 let z3:List Cd:=(.c (.c .eql (.v 0 2) (.i 5)) true :: z2)
 let z4:PX:= .a (Qa 1 0 stK)
 let z5:SX:= .c .geq (.v 0 6) (.i 0)
 let z6:SX:= .c .lss (.v 0 6) (.i 8)
 let z7:List Cd:=(.c (.c .eql (.v 0 2) (.i 5)) false :: z2)
 let z8:List Cd:=(.c (.c .geq (.v 0 2) (.i 6)) true :: .c (.c .leq (.v 0 2) (.i 14)) true :: z7)
 let z9:List Cd:=(.f 28 4 [.l (.n .i64 (.v 0 2))] :: z8)
 let z10:List Cd:=(.f 36 2 [z0,z4] :: z9)
 let z11:List Cd:=(.f 37 3 [.l (.n .i64 (.v 28 0)),.a (Qh 1 (.v 0 6)),.a (Qa 36 0 Qb)] :: z10)
 let z12:List Cd:=(.c (.an (.c .geq (.v 0 2) (.i 6)) (.c .leq (.v 0 2) (.i 14))) false :: z7)
 let z13:List Cd:=(.c (.c .eql (.v 0 2) (.i 16)) true :: z12)
 let z14:List Cd:=(.f 32 5 [.l (.n .i64 (.v 0 4))] :: z13)
 let z15:List Cd:=(.c (.c .eql (.v 0 2) (.i 16)) false :: z12)
 let z16:List Cd:=(.c (.an (.no (.c .eql (.v 0 2) (.i 17))) (.no (.c .eql (.v 0 2) (.i 26)))) false :: z15)
 let z17:List Cd:=(.c (.c .eql (.v 0 2) (.i 17)) false :: .c (.c .eql (.v 0 2) (.i 26)) false :: z15)
 let z18:List Cd:=(.c (.c .eql (.v 0 2) (.i 19)) true :: z17)
 let z19:List Cd:=(.f 50 7 [.a (Qh 1 (.v 0 7)),.l (.n .u32 (.v 0 1))] :: z18)
 let z20:List Cd:=(.c (.c .eql (.v 0 2) (.i 19)) false :: z17)
 let z21:List Cd:=(.c (.c .eql (.v 0 2) (.i 25)) true :: z20)
 let z22:PX:= .l (.n .u32 (.i 1))
 let z23:List Cd:=(.f 47 8 [.l (.n .u32 (.i 0)),z22,z22] :: z21)
 let z24:List Cd:=(.c (.c .eql (.v 0 2) (.i 25)) false :: z20)
 let z25:PX:= .a (Qa 1 35 Qb)
 let z26:PX:= .a (Qa 8 0 Qb)
 let z27:SX:= .c .eql (.v 0 2) (.i 4)
 let z28:List Cd:=(.c (.c .eql (.v 0 2) (.i 3)) false :: z24)
 let z29:List Cd:=(.c (.an (.no z27) (.no (.c .eql (.v 0 2) (.i 2)))) false :: z28)
 let z30:List Cd:=(.c z27 true :: .f 62 3 [.l (.n .i64 (.i 3)),z25,z26] :: z29)
 let z31:List Cd:=(.c (.an (.no (.c .eql (.v 0 2) (.i 23))) (.no (.c .eql (.v 0 2) (.i 24)))) false :: .c z27 false :: .c (.c .eql (.v 0 2) (.i 2)) false :: z28)
 [.pre [] 0 [z0],.pre z1 1 [.l (.n .u32 (.i 4))],.pre z3 2 [z0,z4],.cl (.f 19 2 [z0,z4] :: z3) z5,.cl (.f 19 2 [z0,z4] :: z3) z6,.cl z8 z5,.cl z8 z6,.cl z9 z5,.cl z9 z6,.pre z8 4 [.l (.n .i64 (.v 0 2))],.pre z9 2 [z0,z4],.cl z10 z5,.cl z10 z6,.pre z10 3 [.l (.n .i64 (.v 28 0)),.a (Qh 1 (.v 0 6)),.a (Qa 36 0 Qb)],.cl z11 z5,.cl z11 z6,.pre z13 5 [.l (.n .i64 (.v 0 4))],.cl z14 z5,.cl z14 z6,.pre z16 6 [],.cl (.f 39 6 [] :: z16) z5,.cl (.f 39 6 [] :: z16) z6,.cl z18 (.c .geq (.v 0 7) (.i 0)),.cl z18 (.c .lss (.v 0 7) (.i 8)),.pre z18 7 [.a (Qh 1 (.v 0 7)),.l (.n .u32 (.v 0 1))],.cl z19 z5,.cl z19 z6,.pre z21 8 [.l (.n .u32 (.i 0)),z22,z22],.cl z23 z5,.cl z23 z6,.pre (.c (.c .eql (.v 0 2) (.i 3)) true :: z24) 3 [.l (.n .i64 (.i 4)),z25,z26],.pre z29 3 [.l (.n .i64 (.i 3)),z25,z26],.pre z30 6 [],.cl (.f 71 6 [] :: z30) z5,.cl (.f 71 6 [] :: z30) z6,.pre z31 6 [],.pre (.f 67 6 [] :: z31) 9 [.a (Qa 67 0 Qb)]]
theorem QdN:QS Tryz.prog QdM 2000 Tryz.f49 Qcn QdO=some (Qe0,Qe1):=by kernel_rfl
set_option maxHeartbeats 8000000 in
theorem Qec(i:Ins)(s:Nat→Qd)(h:i.wf∧∀k,(s k).wf)(w:World):Calls Tryz.prog 49 #[i.val,Zm s] w (Ret (Zm (Qu i s)) w):=by
 refine Q5 (C:= [XA,Jg,Qb8,Y6,Qgc,Qb4,V9,Qdq,Xf,Wy]) (I:= []) Qo rfl Tryz.func49 QdN (Qq5 i s) w rfl (fun r hr=>(List.not_mem_nil hr).elim) _ ?_ ?_
 ·refine⟨?_,?_,?_,?_,?_,?_,?_,?_,?_,?_,?_,?_,?_,?_,?_,?_,?_,?_,?_,?_,?_,?_,?_,?_,?_,?_,?_,?_,?_,?_,?_,?_,?_,?_,?_,?_,?_,trivial⟩
  all_goals
   intro e he hc;have h0:e.int 0=Q2 i:=(he 0 (by decide)).1
   have hi:=Zi h0;have k1:=QW (he 1 (by decide)).1 (he 1 (by decide)).2.1
   have kD:=Qgm (he 1 (by decide)).1 (he 1 (by decide)).2.1
   have k5:∀n,QV e 1 (n * 5)=s n:=fun n=>by rw [Nat.mul_comm];exact k1 n
   have k35:QV e 1 35=s 7:=k1 7;clear he
   simp only [QC,Ze,Cd.holds,SX.den,cmI,PX.den,LX.den,VX.sat,List.map_cons,List.map_nil,List.append_nil,beq_iff_eq,bne_iff_ne,beq_eq_false_iff_ne,bne_eq_false_iff_eq,decide_eq_true_eq,decide_eq_false_iff_not,Bool.and_eq_true,Bool.and_eq_false_iff,Bool.not_eq_false',ne_eq,List.getElem?_cons_zero,List.getElem?_cons_succ,Option.some.injEq,exists_eq_left',Q1,QH,Qr,Q0,QE,QY,Qy,QF,XA,Jg,Qb8,Y6,Qgc,Qb4,V9,Qdq,Xf,Wy,h0,Q2,hi,arI,true_and]at hc ⊢
  all_goals
   (try simp only [k5,k35]at hc)
   (try simp only [k5,k35])
  all_goals
   have hv1:Qv i=true:=by clear h0 hi k1 kD k5 k35;grind
   have hr:=XV hv1;have hb:0≤i.b∧i.b < 8:=⟨hr.2.2.1,hr.2.2.2.1⟩;have hS:VC i (stD (PX.dat e (PX.a (Qa 1 0 stK))))=VC i s:=KG kD hb;have hsw:(VC i s).wf:=Qcu h.1 h.2
   first
    |omega
    |(simp only [IntKind.wrap_i64];omega)
    |(simp only [Zk];omega)
    |exact⟨h.2 _,h.1.2.1⟩
    |(refine⟨h.2 _,?_⟩;rw [hS]at hc;rw [Qk hc.1.1 hc.1.2];exact hsw)
    |(have h8:QV e 8 0=Zs 4:=by
       have f8:(e.int 8=QJ (Zs 4)∧e.bool 8=QO (Zs 4))→QV e 8 0=Zs 4:=fun h=>Qk h.1 h.2
       clear h0 hi k1 kD k5 k35 hr hb hS hsw hv1
       grind
      rw [h8];exact⟨h.2 _,ZJ ⟨by decide,by decide⟩⟩)
 refine⟨?_,?_,?_,?_,?_,?_,?_,?_,?_,?_,?_,?_,trivial⟩
 all_goals
  intro e u he hc hs;have h0:e.int 0=Q2 i:=(he 0 (by decide)).1
  have hi:=Zi h0;have k1:=QW (he 1 (by decide)).1 (he 1 (by decide)).2.1
  have kD:=Qgm (he 1 (by decide)).1 (he 1 (by decide)).2.1
  simp only [QC,Ze,Cd.holds,SX.den,cmI,PX.den,LX.den,VX.sat,List.map_cons,List.map_nil,List.append_nil,beq_iff_eq,bne_iff_ne,beq_eq_false_iff_ne,bne_eq_false_iff_eq,decide_eq_true_eq,decide_eq_false_iff_not,Bool.and_eq_true,Bool.and_eq_false_iff,Bool.not_eq_false',ne_eq,List.getElem?_cons_zero,List.getElem?_cons_succ,Option.some.injEq,exists_eq_left',Q1,QH,Qr,Q0,QE,QY,Qy,QF,XA,Jg,Qb8,Y6,Qgc,Qb4,V9,Qdq,Xf,Wy,h0,Q2,hi,arI]at hc
  rw [Jh hs];clear hs he;have hv:Qv i=e.bool 6 0:=by grind
  have h6:e.int 0 6=i.a:=by rw [h0];rfl
  have k5:∀n,QV e 1 (n * 5)=s n:=fun n=>by rw [Nat.mul_comm];exact k1 n
  have k35:QV e 1 35=s 7:=k1 7
  (try simp only [k5,k35]at hc)
 all_goals
  have f8:(e.int 8=QJ (Zs 4)∧e.bool 8=QO (Zs 4))→QV e 8 0=Zs 4:=fun h=>Qk h.1 h.2
 ·rw [Zy,Qu,if_pos (by rw [hv];exact hc.1)]
  exact QQ fun k _=>k1 k
 ·obtain⟨c1,h5,c2⟩:=hc;have hv1:Qv i=true:=by grind
  have hr:=XV hv1;rw [Jq k1 h6 (Qk c1.1 c1.2),KG kD ⟨hr.2.2.1,hr.2.2.2.1⟩];simp [Qu,hv1,h5]
 ·obtain⟨c1,c2,c3,g1,g2,g3,c4⟩:=hc;have hv1:Qv i=true:=by grind
  have hr:=XV hv1;rw [c3.1,Qk c2.1 c2.2,KG kD ⟨hr.2.2.1,hr.2.2.2.1⟩]at c1;rw [Jq k1 h6 (Qk c1.1 c1.2)];simp [Qu,hv1,g1,g2,g3]
 ·obtain⟨c1,g1,c3⟩:=hc;have hv1:Qv i=true:=by grind
  have hr:=XV hv1;rw [Jq k1 h6 (Qk c1.1 c1.2)];congr 1;rcases hr.2.2.2.2.1 g1 with hw|hw|hw
  ·have e1:YC i=255:=by unfold YC;rw [hw];decide
   simp [Qu,hv1,g1,hw,e1,YR]
  ·have e1:YC i=65535:=by unfold YC;rw [hw];decide
   simp [Qu,hv1,g1,hw,e1,YR]
  ·simp [Qu,hv1,g1,hw,YR]
 ·obtain⟨c1,c3⟩:=hc;have hv1:Qv i=true:=by grind
  rw [Jq k1 h6 (Qk c1.1 c1.2)];have T:Qu i s=Kj s i.a Qp:=by grind [Qu]
  rw [T]
 ·obtain⟨c1,c3⟩:=hc;have hv1:Qv i=true:=by grind
  rw [Jq k1 h6 (Qk c1.1 c1.2)];have T:Qu i s=Kj s i.a (Va (s i.b.toNat) i.imm):=by grind [Qu]
  rw [T]
 ·obtain⟨c1,c3⟩:=hc;have hv1:Qv i=true:=by grind
  rw [Jq k1 h6 (Qk c1.1 c1.2)];have T:Qu i s=Kj s i.a (Qj 0 1 1):=by grind [Qu]
  rw [T]
 ·have h8:QV e 8 0=Zs 4:=by grind
  obtain⟨c1,g1,c3⟩:=hc;have hv1:Qv i=true:=by grind
  rw [h8]at c1;rw [Qgk k1 (Qk c1.1 c1.2)];simp [Qu,hv1,g1]
 ·have h8:QV e 8 0=Zs 4:=by grind
  obtain⟨c1,g1,c2,c3⟩:=hc;have hv1:Qv i=true:=by grind
  rw [h8]at c2;rw [Qd3 k1 h6 (Qk c1.1 c1.2) (Qk c2.1 c2.2)];simp [Qu,hv1,g1]
 ·have h8:QV e 8 0=Zs 4:=by grind
  obtain⟨g1,c2,g2,c3⟩:=hc;have hv1:Qv i=true:=by grind
  have g3:i.op=2:=by grind
  rw [h8]at c2;rw [Qgk k1 (Qk c2.1 c2.2)];simp [Qu,hv1,g3]
 ·obtain⟨c1,c2,g1,c3⟩:=hc;have hv1:Qv i=true:=by grind
  rw [Qk c2.1 c2.2]at c1;rw [Zy];have T:Qu i s=fun _=>Qp:=by grind [Qu]
  rw [T];exact QQ fun k _=>QW c1.1 c1.2 k
 ·have T:Qu i s=s:=by
   have hv1:Qv i=true:=by grind
   grind [Qu]
  rw [Zy,T];exact QQ fun k _=>k1 k
end Go.Proofs.YteplnamfpodmlaaGreat
end
section
namespace Go.Proofs.YteplnamfpodmlaaGreat
theorem Qls(a b:Qd)(h:a.wf∧b.wf)(w:World):Calls Tryz.prog 45 #[a.val,b.val] w (Ret (Jp a b).val w):=Qb3 a b h.1 h.2 w
def QnU:Con Tryz.prog:= .mk' ⟨45,[.a Qb,.a Qb],.a Qb,true⟩
 (fun ads=>match ads with| [d1,d2]=>(QK d1).wf∧(QK d2).wf|_=>False)
 (fun ads=>match ads with| [d1,d2]=>QJ (Jp (QK d1) (QK d2))|_=>fun _=>0)
 (fun ads=>match ads with| [d1,d2]=>QO (Jp (QK d1) (QK d2))|_=>fun _=>false)
 ⟨_,Tryz.func45,by kernel_rfl,by kernel_rfl⟩ (fun ads w hf hp=>by
   obtain⟨d1,_,rfl,f1,hf⟩:=Qg hf;obtain⟨d2,_,rfl,f2,hf⟩:=Qg hf;obtain rfl:=Qm hf;show Calls _ _ #[d1.val,d2.val] w _;rw [Zg f1,Zg f2];exact Qls (QK d1) (QK d2) hp w)
def Qax:Con Tryz.prog:= .mk' ⟨103,[.a Qb],.l none,true⟩
 (fun ads=>match ads with| [d1]=>(QK d1).wf|_=>False)
 (fun ads=>match ads with| [d1]=>fun _=>0|_=>fun _=>0)
 (fun ads=>match ads with| [d1]=>fun _=>Qx (QK d1)|_=>fun _=>false)
 ⟨_,Tryz.func103,by kernel_rfl,by kernel_rfl⟩ (fun ads w hf hp=>by
   obtain⟨d1,_,rfl,f1,hf⟩:=Qg hf;obtain rfl:=Qm hf;show Calls _ _ #[d1.val] w _;rw [Zg f1];exact Qdt (QK d1) hp w)
def Vf(i:Ins):Bool:=i.op==15 && i.form != 0 && Qv i
def QiM:List Sg:= [⟨33,[.a Qc],.l none,true⟩]
def Qeg:List PX:= [.a (Qa 0 0 Qc)]
def Qgv:List Rw:= []
def Qgt:Cfg:=⟨1,QiM,[]⟩
def QiK:List Lf:= [⟨[.f 13 0 [.a (Qa 0 0 Qc)]],.v (.l (.t (.an (.an (.c .eql (.v 0 2) (.i 15)) (.c .neq (.v 0 3) (.i 0))) (.v 13 0))))⟩]
def QiL:List Ob:= [.pre [] 0 [.a (Qa 0 0 Qc)]]
theorem Qgu:QS Tryz.prog Qgt 2000 Tryz.f25 Qeg Qgv=some (QiK,QiL):=by kernel_rfl
def QgP:List Sg:= [⟨42,[.a Qc],.l none,true⟩]
def QdI:List PX:= [.a (Qa 0 0 Qc)]
def Qet:List Rw:= []
def Qer:Cfg:=⟨1,QgP,[]⟩
def QgN:List Lf:= [⟨[.f 4 0 [.a (Qa 0 0 Qc)]],.v (.l (.t (.an (.an (.v 4 0) (.c .eql (.v 0 2) (.i 15))) (.c .neq (.v 0 3) (.i 0)))))⟩]
def QgO:List Ob:= [.pre [] 0 [.a (Qa 0 0 Qc)]]
theorem Qes:QS Tryz.prog Qer 2000 Tryz.f47 QdI Qet=some (QgN,QgO):=by kernel_rfl
theorem Qhx(i:Ins)(w:World):Calls Tryz.prog 25 #[i.val] w (Ret (.bool (Vf i)) w):=by
 refine Q5 (C:= [VT]) (I:= []) Qo rfl Tryz.func25 Qgu (XB i) w rfl (fun r hr=>(List.not_mem_nil hr).elim) _ ?_ ?_
 ·refine⟨?_,trivial⟩;all_goals exact fun e he _=>trivial
 refine⟨?_,trivial⟩
 all_goals
  intro e u he hc hs;have h0:e.int 0=Q2 i:=(he 0 (by decide)).1
  have hi:=Zi h0
  simp only [QC,Ze,Cd.holds,SX.den,cmI,PX.den,LX.den,VX.sat,List.map_cons,List.map_nil,List.append_nil,beq_iff_eq,bne_iff_ne,beq_eq_false_iff_ne,bne_eq_false_iff_eq,decide_eq_true_eq,decide_eq_false_iff_not,Bool.and_eq_true,Bool.and_eq_false_iff,Bool.not_eq_false',ne_eq,List.getElem?_cons_zero,List.getElem?_cons_succ,Option.some.injEq,exists_eq_left',Q1,QH,Qr,Q0,QE,QY,Qy,QF,VT,h0,Q2,hi]at hc
  rw [Jh hs];simp only [PX.den,LX.den,SX.den,Vf,cmI,h0,Q2]
  grind
theorem QfT(i:Ins)(w:World):Calls Tryz.prog 47 #[i.val] w (Ret (.bool (Vf i)) w):=by
 refine Q5 (C:= [XA]) (I:= []) Qo rfl Tryz.func47 Qes (XB i) w rfl (fun r hr=>(List.not_mem_nil hr).elim) _ ?_ ?_
 ·refine⟨?_,trivial⟩;all_goals exact fun e he _=>trivial
 refine⟨?_,trivial⟩
 all_goals
  intro e u he hc hs;have h0:e.int 0=Q2 i:=(he 0 (by decide)).1
  have hi:=Zi h0
  simp only [QC,Ze,Cd.holds,SX.den,cmI,PX.den,LX.den,VX.sat,List.map_cons,List.map_nil,List.append_nil,beq_iff_eq,bne_iff_ne,beq_eq_false_iff_ne,bne_eq_false_iff_eq,decide_eq_true_eq,decide_eq_false_iff_not,Bool.and_eq_true,Bool.and_eq_false_iff,Bool.not_eq_false',ne_eq,List.getElem?_cons_zero,List.getElem?_cons_succ,Option.some.injEq,exists_eq_left',Q1,QH,Qr,Q0,QE,QY,Qy,QF,XA,h0,Q2,hi]at hc
  rw [Jh hs];simp only [PX.den,LX.den,SX.den,Vf,cmI,h0,Q2]
  grind
def WL:Con Tryz.prog:= .mk' ⟨25,[.a Qc],.l none,true⟩
 (fun ads=>match ads with| [d1]=>True|_=>False)
 (fun ads=>match ads with| [d1]=>fun _=>0|_=>fun _=>0)
 (fun ads=>match ads with| [d1]=>fun _=>Vf (QL d1)|_=>fun _=>false)
 ⟨_,Tryz.func25,by kernel_rfl,by kernel_rfl⟩ (fun ads w hf hp=>by
   obtain⟨d1,_,rfl,f1,hf⟩:=Qg hf;obtain rfl:=Qm hf;show Calls _ _ #[d1.val] w _;rw [Zd f1];exact Qhx (QL d1) w)
def KD:Con Tryz.prog:= .mk' ⟨47,[.a Qc],.l none,true⟩
 (fun ads=>match ads with| [d1]=>True|_=>False)
 (fun ads=>match ads with| [d1]=>fun _=>0|_=>fun _=>0)
 (fun ads=>match ads with| [d1]=>fun _=>Vf (QL d1)|_=>fun _=>false)
 ⟨_,Tryz.func47,by kernel_rfl,by kernel_rfl⟩ (fun ads w hf hp=>by
   obtain⟨d1,_,rfl,f1,hf⟩:=Qg hf;obtain rfl:=Qm hf;show Calls _ _ #[d1.val] w _;rw [Zd f1];exact QfT (QL d1) w)
def Yf(s:Qd):Bool:=Qx s && !s.t && !s.e
def QiI:List Sg:= [⟨51,[.a Qb],.l none,true⟩]
def Qef:List PX:= [.a (Qa 0 0 Qb)]
def Qgs:List Rw:= []
def Qgq:Cfg:=⟨1,QiI,[]⟩
def QiG:List Lf:= [⟨[.f 4 0 [.a (Qa 0 0 Qb)]],.v (.l (.t (.an (.an (.v 4 0) (.no (.v 0 1))) (.no (.v 0 0)))))⟩]
def QiH:List Ob:= [.pre [] 0 [.a (Qa 0 0 Qb)]]
theorem Qgr:QS Tryz.prog Qgq 2000 Tryz.f27 Qef Qgs=some (QiG,QiH):=by kernel_rfl
def QmU:List Sg:= [⟨103,[.a Qb],.l none,true⟩]
def QgU:List PX:= [.a (Qa 0 0 Qb)]
def QjM:List Rw:= []
def QjK:Cfg:=⟨1,QmU,[]⟩
def QmS:List Lf:= [⟨[.f 4 0 [.a (Qa 0 0 Qb)]],.v (.l (.t (.an (.an (.v 4 0) (.no (.v 0 1))) (.no (.v 0 0)))))⟩]
def QmT:List Ob:= [.pre [] 0 [.a (Qa 0 0 Qb)]]
theorem QjL:QS Tryz.prog QjK 2000 Tryz.f104 QgU QjM=some (QmS,QmT):=by kernel_rfl
theorem Qhv(s:Qd)(h:s.wf)(w:World):Calls Tryz.prog 27 #[s.val] w (Ret (.bool (Yf s)) w):=by
 refine Q5 (C:= [Qbt]) (I:= []) Qo rfl Tryz.func27 Qgr (QtG s) w rfl (fun r hr=>(List.not_mem_nil hr).elim) _ ?_ ?_
 ·refine⟨?_,trivial⟩
  all_goals
   intro e he hc;have h0:QV e 0 0=s:=Qk (he 0 (by decide)).1 (he 0 (by decide)).2.1
   simp only [QC,Ze,Cd.holds,SX.den,cmI,PX.den,LX.den,VX.sat,List.map_cons,List.map_nil,List.append_nil,beq_iff_eq,bne_iff_ne,beq_eq_false_iff_ne,bne_eq_false_iff_eq,decide_eq_true_eq,decide_eq_false_iff_not,Bool.and_eq_true,Bool.and_eq_false_iff,Bool.not_eq_false',ne_eq,List.getElem?_cons_zero,List.getElem?_cons_succ,Option.some.injEq,exists_eq_left',Q1,QH,Qr,Q0,QE,QY,Qy,QF,Qbt,h0];exact h
 refine⟨?_,trivial⟩
 all_goals
  intro e u he hc hs;have h0:QV e 0 0=s:=Qk (he 0 (by decide)).1 (he 0 (by decide)).2.1
  have ht:e.bool 0 1=s.t:=by rw [(he 0 (by decide)).2.1];rfl
  have hE:e.bool 0 0=s.e:=by rw [(he 0 (by decide)).2.1];rfl
  simp only [QC,Ze,Cd.holds,SX.den,cmI,PX.den,LX.den,VX.sat,List.map_cons,List.map_nil,List.append_nil,beq_iff_eq,bne_iff_ne,beq_eq_false_iff_ne,bne_eq_false_iff_eq,decide_eq_true_eq,decide_eq_false_iff_not,Bool.and_eq_true,Bool.and_eq_false_iff,Bool.not_eq_false',ne_eq,List.getElem?_cons_zero,List.getElem?_cons_succ,Option.some.injEq,exists_eq_left',Q1,QH,Qr,Q0,QE,QY,Qy,QF,Qbt,h0]at hc;rw [Jh hs]
  simp only [PX.den,LX.den,SX.den,Yf,ht,hE]
  grind
theorem Ql0(s:Qd)(h:s.wf)(w:World):Calls Tryz.prog 104 #[s.val] w (Ret (.bool (Yf s)) w):=by
 refine Q5 (C:= [Qax]) (I:= []) Qo rfl Tryz.func104 QjL (QtG s) w rfl (fun r hr=>(List.not_mem_nil hr).elim) _ ?_ ?_
 ·refine⟨?_,trivial⟩
  all_goals
   intro e he hc;have h0:QV e 0 0=s:=Qk (he 0 (by decide)).1 (he 0 (by decide)).2.1
   simp only [QC,Ze,Cd.holds,SX.den,cmI,PX.den,LX.den,VX.sat,List.map_cons,List.map_nil,List.append_nil,beq_iff_eq,bne_iff_ne,beq_eq_false_iff_ne,bne_eq_false_iff_eq,decide_eq_true_eq,decide_eq_false_iff_not,Bool.and_eq_true,Bool.and_eq_false_iff,Bool.not_eq_false',ne_eq,List.getElem?_cons_zero,List.getElem?_cons_succ,Option.some.injEq,exists_eq_left',Q1,QH,Qr,Q0,QE,QY,Qy,QF,Qax,h0];exact h
 refine⟨?_,trivial⟩
 all_goals
  intro e u he hc hs;have h0:QV e 0 0=s:=Qk (he 0 (by decide)).1 (he 0 (by decide)).2.1
  have ht:e.bool 0 1=s.t:=by rw [(he 0 (by decide)).2.1];rfl
  have hE:e.bool 0 0=s.e:=by rw [(he 0 (by decide)).2.1];rfl
  simp only [QC,Ze,Cd.holds,SX.den,cmI,PX.den,LX.den,VX.sat,List.map_cons,List.map_nil,List.append_nil,beq_iff_eq,bne_iff_ne,beq_eq_false_iff_ne,bne_eq_false_iff_eq,decide_eq_true_eq,decide_eq_false_iff_not,Bool.and_eq_true,Bool.and_eq_false_iff,Bool.not_eq_false',ne_eq,List.getElem?_cons_zero,List.getElem?_cons_succ,Option.some.injEq,exists_eq_left',Q1,QH,Qr,Q0,QE,QY,Qy,QF,Qax,h0]at hc;rw [Jh hs]
  simp only [PX.den,LX.den,SX.den,Yf,ht,hE]
  grind
def Vo:Con Tryz.prog:= .mk' ⟨27,[.a Qb],.l none,true⟩
 (fun ads=>match ads with| [d1]=>(QK d1).wf|_=>False)
 (fun ads=>match ads with| [d1]=>fun _=>0|_=>fun _=>0)
 (fun ads=>match ads with| [d1]=>fun _=>Yf (QK d1)|_=>fun _=>false)
 ⟨_,Tryz.func27,by kernel_rfl,by kernel_rfl⟩ (fun ads w hf hp=>by
   obtain⟨d1,_,rfl,f1,hf⟩:=Qg hf;obtain rfl:=Qm hf;show Calls _ _ #[d1.val] w _;rw [Zg f1];exact Qhv (QK d1) hp w)
def Y7:Con Tryz.prog:= .mk' ⟨104,[.a Qb],.l none,true⟩
 (fun ads=>match ads with| [d1]=>(QK d1).wf|_=>False)
 (fun ads=>match ads with| [d1]=>fun _=>0|_=>fun _=>0)
 (fun ads=>match ads with| [d1]=>fun _=>Yf (QK d1)|_=>fun _=>false)
 ⟨_,Tryz.func104,by kernel_rfl,by kernel_rfl⟩ (fun ads w hf hp=>by
   obtain⟨d1,_,rfl,f1,hf⟩:=Qg hf;obtain rfl:=Qm hf;show Calls _ _ #[d1.val] w _;rw [Zg f1];exact Ql0 (QK d1) hp w)
end Go.Proofs.YteplnamfpodmlaaGreat
end
section
namespace Go.Proofs.YteplnamfpodmlaaGreat
def XK(s:Qd)(n:Int):Qd:=if Yf s=false∨(n≠s.lo∧n≠s.hi)then s else if s.st=0 then Qt else if n=s.lo then Qj (IntKind.u32.wrap (s.lo+s.st)) s.hi s.st else Qj s.lo (IntKind.u32.wrap (s.hi - s.st)) s.st
theorem Qhu{s:Qd}(h:Yf s=true):s.st=0↔s.lo=s.hi:=by
 unfold Yf at h;simp only [Bool.and_eq_true,Bool.not_eq_true']at h;rcases Zc h.1.1 with rfl|rfl|hr
 ·exact absurd h.1.2 (by decide)
 ·exact absurd h.2 (by decide)
 ·exact hr.2.2.2.2.1
def Qjp:List Sg:= [⟨27,[.a Qb],.l none,true⟩,⟨32,[],.a Qb,true⟩,⟨31,[.l (some .u32),.l (some .u32),.l (some .u32)],.a Qb,true⟩]
def Qel:List PX:= [.a (Qa 0 0 Qb),.l (.n .u32 (.v 1 0))]
def QgC:List Rw:= []
def QgA:Cfg:=⟨2,Qjp,[]⟩
def Qjn:List Lf:=
 let z0:SX:= .an (.c .neq (.v 1 0) (.v 0 2)) (.c .neq (.v 1 0) (.v 0 3))
 let z1:List Cd:= [.f 5 0 [.a (Qa 0 0 Qb)]]
 let z2:List Cd:=(.c (.v 5 0) true :: .c z0 false :: z1)
 let z3:List Cd:=(.c (.c .eql (.v 0 4) (.i 0)) false :: z2)
 [⟨(.c (.an (.v 5 0) (.no z0)) false :: z1),.v (.a (Qa 0 0 Qb))⟩,⟨(.f 24 1 [] :: .c (.c .eql (.v 0 4) (.i 0)) true :: z2),.v (.a (Qa 24 0 Qb))⟩,⟨(.f 38 2 [.l (.n .u32 (.o .add .u32 (.v 0 2) (.v 0 4))),.l (.n .u32 (.v 0 3)),.l (.n .u32 (.v 0 4))] :: .c (.c .eql (.v 1 0) (.v 0 2)) true :: z3),.v (.a (Qa 38 0 Qb))⟩,⟨(.f 38 2 [.l (.n .u32 (.v 0 2)),.l (.n .u32 (.o .sub .u32 (.v 0 3) (.v 0 4))),.l (.n .u32 (.v 0 4))] :: .c (.c .eql (.v 1 0) (.v 0 2)) false :: z3),.v (.a (Qa 38 0 Qb))⟩]
def Qjo:List Ob:=
 let z0:List Cd:= [.c (.v 5 0) true,.c (.an (.c .neq (.v 1 0) (.v 0 2)) (.c .neq (.v 1 0) (.v 0 3))) false,.f 5 0 [.a (Qa 0 0 Qb)]]
 let z1:List Cd:=(.c (.c .eql (.v 0 4) (.i 0)) false :: z0)
 [.pre [] 0 [.a (Qa 0 0 Qb)],.pre (.c (.c .eql (.v 0 4) (.i 0)) true :: z0) 1 [],.pre (.c (.c .eql (.v 1 0) (.v 0 2)) true :: z1) 2 [.l (.n .u32 (.o .add .u32 (.v 0 2) (.v 0 4))),.l (.n .u32 (.v 0 3)),.l (.n .u32 (.v 0 4))],.pre (.c (.c .eql (.v 1 0) (.v 0 2)) false :: z1) 2 [.l (.n .u32 (.v 0 2)),.l (.n .u32 (.o .sub .u32 (.v 0 3) (.v 0 4))),.l (.n .u32 (.v 0 4))]]
theorem QgB:QS Tryz.prog QgA 2000 Tryz.f30 Qel QgC=some (Qjn,Qjo):=by kernel_rfl
def Qhe:List Sg:= [⟨104,[.a Qb],.l none,true⟩,⟨18,[],.a Qb,true⟩,⟨82,[.l (some .u32),.l (some .u32),.l (some .u32)],.a Qb,true⟩]
def QdP:List PX:= [.a (Qa 0 0 Qb),.l (.n .u32 (.v 1 0))]
def Qe5:List Rw:= []
def Qe3:Cfg:=⟨2,Qhe,[]⟩
def Qhc:List Lf:=
 let z0:SX:= .an (.c .neq (.v 1 0) (.v 0 2)) (.c .neq (.v 1 0) (.v 0 3))
 let z1:List Cd:= [.f 5 0 [.a (Qa 0 0 Qb)]]
 let z2:List Cd:=(.c (.v 5 0) true :: .c z0 false :: z1)
 let z3:List Cd:=(.c (.c .eql (.v 0 2) (.v 0 3)) false :: z2)
 [⟨(.c (.an (.v 5 0) (.no z0)) false :: z1),.v (.a (Qa 0 0 Qb))⟩,⟨(.f 24 1 [] :: .c (.c .eql (.v 0 2) (.v 0 3)) true :: z2),.v (.a (Qa 24 0 Qb))⟩,⟨(.f 37 2 [.l (.n .u32 (.o .add .u32 (.v 0 2) (.v 0 4))),.l (.n .u32 (.v 0 3)),.l (.n .u32 (.v 0 4))] :: .c (.c .eql (.v 1 0) (.v 0 2)) true :: z3),.v (.a (Qa 37 0 Qb))⟩,⟨(.f 37 2 [.l (.n .u32 (.v 0 2)),.l (.n .u32 (.o .sub .u32 (.v 0 3) (.v 0 4))),.l (.n .u32 (.v 0 4))] :: .c (.c .eql (.v 1 0) (.v 0 2)) false :: z3),.v (.a (Qa 37 0 Qb))⟩]
def Qhd:List Ob:=
 let z0:List Cd:= [.c (.v 5 0) true,.c (.an (.c .neq (.v 1 0) (.v 0 2)) (.c .neq (.v 1 0) (.v 0 3))) false,.f 5 0 [.a (Qa 0 0 Qb)]]
 let z1:List Cd:=(.c (.c .eql (.v 0 2) (.v 0 3)) false :: z0)
 [.pre [] 0 [.a (Qa 0 0 Qb)],.pre (.c (.c .eql (.v 0 2) (.v 0 3)) true :: z0) 1 [],.pre (.c (.c .eql (.v 1 0) (.v 0 2)) true :: z1) 2 [.l (.n .u32 (.o .add .u32 (.v 0 2) (.v 0 4))),.l (.n .u32 (.v 0 3)),.l (.n .u32 (.v 0 4))],.pre (.c (.c .eql (.v 1 0) (.v 0 2)) false :: z1) 2 [.l (.n .u32 (.v 0 2)),.l (.n .u32 (.o .sub .u32 (.v 0 3) (.v 0 4))),.l (.n .u32 (.v 0 4))]]
theorem Qe4:QS Tryz.prog Qe3 2000 Tryz.f106 QdP Qe5=some (Qhc,Qhd):=by kernel_rfl
theorem QiC(s:Qd)(n:Int)(h:s.wf∧Zk n)(w:World):Calls Tryz.prog 30 #[s.val,.int .u32 n] w (Ret (XK s n).val w):=by
 refine Q5 (C:= [Vo,VQ,J5]) (I:= []) Qo rfl Tryz.func30 QgB (QnE s n) w rfl (fun r hr=>(List.not_mem_nil hr).elim) _ ?_ ?_
 ·refine⟨?_,?_,?_,?_,trivial⟩
  all_goals
   intro e he hc;have h0:QV e 0 0=s:=Qk (he 0 (by decide)).1 (he 0 (by decide)).2.1
   have i0:e.int 0=QJ s:=(he 0 (by decide)).1
   have h2:e.int 1 0=n:=by rw [(he 1 (by decide)).1];rfl
   simp only [QC,Ze,Cd.holds,SX.den,cmI,PX.den,LX.den,VX.sat,List.map_cons,List.map_nil,List.append_nil,beq_iff_eq,bne_iff_ne,beq_eq_false_iff_ne,bne_eq_false_iff_eq,decide_eq_true_eq,decide_eq_false_iff_not,Bool.and_eq_true,Bool.and_eq_false_iff,Bool.not_eq_false',ne_eq,List.getElem?_cons_zero,List.getElem?_cons_succ,Option.some.injEq,exists_eq_left',Q1,QH,Qr,Q0,QE,QY,Qy,QF,Vo,VQ,J5,h0,i0,h2,QJ,arI]
  all_goals
   first
    |trivial
    |exact h.1
    |exact⟨QR _,⟨h.1.2.2.1,h.1.2.2.2.1⟩,⟨h.1.2.2.2.2.1,h.1.2.2.2.2.2⟩⟩
    |exact⟨⟨h.1.1,h.1.2.1⟩,QR _,⟨h.1.2.2.2.2.1,h.1.2.2.2.2.2⟩⟩
 refine⟨?_,?_,?_,?_,trivial⟩
 all_goals
  intro e u he hc hs;have h0:QV e 0 0=s:=Qk (he 0 (by decide)).1 (he 0 (by decide)).2.1
  have i0:e.int 0=QJ s:=(he 0 (by decide)).1
  have h2:e.int 1 0=n:=by rw [(he 1 (by decide)).1];rfl
  simp only [QC,Ze,Cd.holds,SX.den,cmI,PX.den,LX.den,VX.sat,List.map_cons,List.map_nil,List.append_nil,beq_iff_eq,bne_iff_ne,beq_eq_false_iff_ne,bne_eq_false_iff_eq,decide_eq_true_eq,decide_eq_false_iff_not,Bool.and_eq_true,Bool.and_eq_false_iff,Bool.not_eq_false',ne_eq,List.getElem?_cons_zero,List.getElem?_cons_succ,Option.some.injEq,exists_eq_left',Q1,QH,Qr,Q0,QE,QY,Qy,QF,Vo,VQ,J5,h0,i0,h2,QJ,arI]at hc
  rw [Jh hs,KJ];congr 1;have hb:=Qhu (s:=s);clear he hs i0
  first
   |(rw [h0];clear h0;grind [XK])
   |(rw [Qk hc.1.1 hc.1.2];clear h0;grind [XK])
theorem Qgg(s:Qd)(n:Int)(h:s.wf∧Zk n)(w:World):Calls Tryz.prog 106 #[s.val,.int .u32 n] w (Ret (XK s n).val w):=by
 refine Q5 (C:= [Y7,Ky,Xf]) (I:= []) Qo rfl Tryz.func106 Qe4 (QnE s n) w rfl (fun r hr=>(List.not_mem_nil hr).elim) _ ?_ ?_
 ·refine⟨?_,?_,?_,?_,trivial⟩
  all_goals
   intro e he hc;have h0:QV e 0 0=s:=Qk (he 0 (by decide)).1 (he 0 (by decide)).2.1
   have i0:e.int 0=QJ s:=(he 0 (by decide)).1
   have h2:e.int 1 0=n:=by rw [(he 1 (by decide)).1];rfl
   simp only [QC,Ze,Cd.holds,SX.den,cmI,PX.den,LX.den,VX.sat,List.map_cons,List.map_nil,List.append_nil,beq_iff_eq,bne_iff_ne,beq_eq_false_iff_ne,bne_eq_false_iff_eq,decide_eq_true_eq,decide_eq_false_iff_not,Bool.and_eq_true,Bool.and_eq_false_iff,Bool.not_eq_false',ne_eq,List.getElem?_cons_zero,List.getElem?_cons_succ,Option.some.injEq,exists_eq_left',Q1,QH,Qr,Q0,QE,QY,Qy,QF,Y7,Ky,Xf,h0,i0,h2,QJ,arI]
  all_goals
   first
    |trivial
    |exact h.1
    |exact⟨QR _,⟨h.1.2.2.1,h.1.2.2.2.1⟩,⟨h.1.2.2.2.2.1,h.1.2.2.2.2.2⟩⟩
    |exact⟨⟨h.1.1,h.1.2.1⟩,QR _,⟨h.1.2.2.2.2.1,h.1.2.2.2.2.2⟩⟩
 refine⟨?_,?_,?_,?_,trivial⟩
 all_goals
  intro e u he hc hs;have h0:QV e 0 0=s:=Qk (he 0 (by decide)).1 (he 0 (by decide)).2.1
  have i0:e.int 0=QJ s:=(he 0 (by decide)).1
  have h2:e.int 1 0=n:=by rw [(he 1 (by decide)).1];rfl
  simp only [QC,Ze,Cd.holds,SX.den,cmI,PX.den,LX.den,VX.sat,List.map_cons,List.map_nil,List.append_nil,beq_iff_eq,bne_iff_ne,beq_eq_false_iff_ne,bne_eq_false_iff_eq,decide_eq_true_eq,decide_eq_false_iff_not,Bool.and_eq_true,Bool.and_eq_false_iff,Bool.not_eq_false',ne_eq,List.getElem?_cons_zero,List.getElem?_cons_succ,Option.some.injEq,exists_eq_left',Q1,QH,Qr,Q0,QE,QY,Qy,QF,Y7,Ky,Xf,h0,i0,h2,QJ,arI]at hc
  rw [Jh hs,KJ];congr 1;have hb:=Qhu (s:=s);clear he hs i0
  first
   |(rw [h0];clear h0;grind [XK])
   |(rw [Qk hc.1.1 hc.1.2];clear h0;grind [XK])
def Qbu:Con Tryz.prog:= .mk' ⟨30,[.a Qb,.l (some .u32)],.a Qb,true⟩
 (fun ads=>match ads with| [d1,d2]=>(QK d1).wf∧Zk (Q3 d2)|_=>False)
 (fun ads=>match ads with| [d1,d2]=>QJ (XK (QK d1) (Q3 d2))|_=>fun _=>0)
 (fun ads=>match ads with| [d1,d2]=>QO (XK (QK d1) (Q3 d2))|_=>fun _=>false)
 ⟨_,Tryz.func30,by kernel_rfl,by kernel_rfl⟩ (fun ads w hf hp=>by
   obtain⟨d1,_,rfl,f1,hf⟩:=Qg hf;obtain⟨d2,_,rfl,f2,hf⟩:=Qg hf;obtain rfl:=Qm hf;show Calls _ _ #[d1.val,d2.val] w _;rw [Zg f1,QB f2];exact QiC (QK d1) (Q3 d2) hp w)
def Qay:Con Tryz.prog:= .mk' ⟨106,[.a Qb,.l (some .u32)],.a Qb,true⟩
 (fun ads=>match ads with| [d1,d2]=>(QK d1).wf∧Zk (Q3 d2)|_=>False)
 (fun ads=>match ads with| [d1,d2]=>QJ (XK (QK d1) (Q3 d2))|_=>fun _=>0)
 (fun ads=>match ads with| [d1,d2]=>QO (XK (QK d1) (Q3 d2))|_=>fun _=>false)
 ⟨_,Tryz.func106,by kernel_rfl,by kernel_rfl⟩ (fun ads w hf hp=>by
   obtain⟨d1,_,rfl,f1,hf⟩:=Qg hf;obtain⟨d2,_,rfl,f2,hf⟩:=Qg hf;obtain rfl:=Qm hf;show Calls _ _ #[d1.val,d2.val] w _;rw [Zg f1,QB f2];exact Qgg (QK d1) (Q3 d2) hp w)
end Go.Proofs.YteplnamfpodmlaaGreat
end
