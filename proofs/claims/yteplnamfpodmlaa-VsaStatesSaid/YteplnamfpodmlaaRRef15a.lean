/-
  Part of the proof.
-/
import Derived.Test.YteplnamfpodmlaaRVsa3
set_option linter.unusedVariables false
set_option linter.unusedSimpArgs false
set_option maxRecDepth 100000
open Go.ChangeShapes Go.WideShapes Go.ChangeAt Go.RowKit
namespace Go.Proofs.Yteplnamfpodmlaa
def QvI:Con Try.prog:= .mk' ⟨63,[],.a Qc,true⟩
 (fun ads=>match ads with| []=>True|_=>False)
 (fun ads=>match ads with| []=>ZC Qy|_=>fun _=>0)
 (fun ads=>match ads with| []=>Xc Qy|_=>fun _=>false)
 ⟨_,Try.func63,by kernel_rfl,by kernel_rfl⟩ (fun ads w hf hp=>by
   obtain rfl:=Qn hf
   exact QdV  w)
def Qv7:Con Try.prog:= .mk' ⟨82,[],.a Qc,true⟩
 (fun ads=>match ads with| []=>True|_=>False)
 (fun ads=>match ads with| []=>ZC Q4|_=>fun _=>0)
 (fun ads=>match ads with| []=>Xc Q4|_=>fun _=>false)
 ⟨_,Try.func82,by kernel_rfl,by kernel_rfl⟩ (fun ads w hf hp=>by
   obtain rfl:=Qn hf
   exact QdS  w)
def Qv0:Con Try.prog:= .mk' ⟨58,[.l (some .u32)],.a Qc,true⟩
 (fun ads=>match ads with| [d1]=>True|_=>False)
 (fun ads=>match ads with| [d1]=>ZC (X2 (Q8 d1))|_=>fun _=>0)
 (fun ads=>match ads with| [d1]=>Xc (X2 (Q8 d1))|_=>fun _=>false)
 ⟨_,Try.func58,by kernel_rfl,by kernel_rfl⟩ (fun ads w hf hp=>by
   obtain⟨d1,_,rfl,f1,hf⟩:=Qf hf
   obtain rfl:=Qn hf
   show Calls _ _ #[d1.val] w _
   rw [QH f1]
   exact QvA (Q8 d1) w)
theorem QwY(op:Int)(a b:Qd)(h:a.wf∧b.wf)(w:World):Calls Try.prog 60 #[.int .i64 op,a.val,b.val] w (Ret (JW op a b).val w):=Qx9 op a b h.1 h.2 w
def Qv6:Con Try.prog:= .mk' ⟨60,[.l (some .i64),.a Qc,.a Qc],.a Qc,true⟩
 (fun ads=>match ads with| [d1,d2,d3]=>(Z4 d2).wf∧(Z4 d3).wf|_=>False)
 (fun ads=>match ads with| [d1,d2,d3]=>ZC (JW (Q8 d1) (Z4 d2) (Z4 d3))|_=>fun _=>0)
 (fun ads=>match ads with| [d1,d2,d3]=>Xc (JW (Q8 d1) (Z4 d2) (Z4 d3))|_=>fun _=>false)
 ⟨_,Try.func60,by kernel_rfl,by kernel_rfl⟩ (fun ads w hf hp=>by
   obtain⟨d1,_,rfl,f1,hf⟩:=Qf hf
   obtain⟨d2,_,rfl,f2,hf⟩:=Qf hf
   obtain⟨d3,_,rfl,f3,hf⟩:=Qf hf
   obtain rfl:=Qn hf
   show Calls _ _ #[d1.val,d2.val,d3.val] w _
   rw [QH f1,X0 f2,X0 f3]
   exact QwY (Q8 d1) (Z4 d2) (Z4 d3) hp w)
theorem Qwb(lo hi st:Int)(h:Q5 lo∧Q5 hi∧Q5 st)(w:World):Calls Try.prog 65 #[.int .u32 lo,.int .u32 hi,.int .u32 st] w (Ret (Qs lo hi st).val w):=
 Qw1 lo hi st h.1.1 h.1.2 h.2.1.1 h.2.1.2 h.2.2.1 h.2.2.2 w
def Qvz:Con Try.prog:= .mk' ⟨65,[.l (some .u32),.l (some .u32),.l (some .u32)],.a Qc,true⟩
 (fun ads=>match ads with| [d1,d2,d3]=>Q5 (Q8 d1)∧Q5 (Q8 d2)∧Q5 (Q8 d3)|_=>False)
 (fun ads=>match ads with| [d1,d2,d3]=>ZC (Qs (Q8 d1) (Q8 d2) (Q8 d3))|_=>fun _=>0)
 (fun ads=>match ads with| [d1,d2,d3]=>Xc (Qs (Q8 d1) (Q8 d2) (Q8 d3))|_=>fun _=>false)
 ⟨_,Try.func65,by kernel_rfl,by kernel_rfl⟩ (fun ads w hf hp=>by
   obtain⟨d1,_,rfl,f1,hf⟩:=Qf hf
   obtain⟨d2,_,rfl,f2,hf⟩:=Qf hf
   obtain⟨d3,_,rfl,f3,hf⟩:=Qf hf
   obtain rfl:=Qn hf
   show Calls _ _ #[d1.val,d2.val,d3.val] w _
   rw [QH f1,QH f2,QH f3]
   exact Qwb (Q8 d1) (Q8 d2) (Q8 d3) hp w)
def Qyz:List Sg:= []
def QxK:List PX:= [.a (Qa 0 0 Qc)]
def Qyf:List Rw:= []
def Qyd:Cfg:=⟨1,Qyz,[]⟩
def Qyx:List Lf:= [⟨[],.v (.a (Qik [(0,0),(0,0),(0,0),(0,0),(0,0),(0,0),(0,0),(0,0)]))⟩]
def Qyy:List Ob:= []
theorem Qye:QP Try.prog Qyd 2000 Try.f66 QxK Qyf=some (Qyx,Qyy):=by kernel_rfl
def Qvu(s:Qd):Env:=⟨fun d=>match d with|0=>ZC s|_=>fun _=>0,fun d=>match d with|0=>Xc s|_=>fun _=>false,fun _=>0,fun _=>none⟩
theorem Qyu(s:Qd)(w:World):Calls Try.prog 66 #[s.val] w (Ret (ZT fun _=>s) w):=by
 refine QG (C:= []) (I:= []) Qr rfl Try.func66 Qye (Qvu s) w rfl (fun r hr=>(List.not_mem_nil hr).elim) _ ?_ ?_
 ·refine trivial
 refine⟨?_,trivial⟩
 all_goals
  intro e u he hc hs
  have h0:Zg e 0 0=s:=QA (he 0 (by decide)).1 (he 0 (by decide)).2.1
  rw [VP hs,Qbp]
  refine Zr fun k hk=>?_
  match k,hk with
  |0,_|1,_|2,_|3,_|4,_|5,_|6,_|7,_=>exact h0
def QxD:Con Try.prog:= .mk' ⟨66,[.a Qc],.a stK,true⟩
 (fun ads=>match ads with| [d1]=>True|_=>False)
 (fun ads=>match ads with| [d1]=>ZH (fun _=>(Z4 d1))|_=>fun _=>0)
 (fun ads=>match ads with| [d1]=>QU (fun _=>(Z4 d1))|_=>fun _=>false)
 ⟨_,Try.func66,by kernel_rfl,by kernel_rfl⟩ (fun ads w hf hp=>by
   obtain⟨d1,_,rfl,f1,hf⟩:=Qf hf
   obtain rfl:=Qn hf
   show Calls _ _ #[d1.val] w _
   rw [X0 f1]
   exact Qyu (Z4 d1) w)
def Qxy:List Sg:= [⟨58,[.l (some .u32)],.a Qc,true⟩]
def Qwm:List PX:= [.a (Qa 0 0 Qb),.a (Qa 1 0 stK)]
def QwL:List Rw:= []
def QwJ:Cfg:=⟨2,Qxy,[]⟩
def Qxw:List Lf:= [⟨[.c (.c .eql (.v 0 3) (.i 0)) true],.v (.a (Qi 1 (.v 0 7)))⟩,
 ⟨[.f 10 0 [.l (.n .u32 (.v 0 1))],.c (.c .eql (.v 0 3) (.i 0)) false],.v (.a (Qa 10 0 Qc))⟩]
def Qxx:List Ob:=
 [.cl [.c (.c .eql (.v 0 3) (.i 0)) true] (.c .geq (.v 0 7) (.i 0)),.cl [.c (.c .eql (.v 0 3) (.i 0)) true] (.c .lss (.v 0 7) (.i 8)),.pre [.c (.c .eql (.v 0 3) (.i 0)) false] 0 [.l (.n .u32 (.v 0 1))]]
theorem QwK:QP Try.prog QwJ 2000 Try.f59 Qwm QwL=some (Qxw,Qxx):=by kernel_rfl
theorem Qxg(i:Ins)(s:Nat→Qd)(hb:0≤i.b∧i.b < 8)(w:World):Calls Try.prog 59 #[i.val,ZT s] w (Ret (WT i s).val w):=by
 refine QG (C:= [Qv0]) (I:= []) Qr rfl Try.func59 QwK (QuY i s) w rfl (fun r hr=>(List.not_mem_nil hr).elim) _ ?_ ?_
 ·refine⟨?_,?_,?_,trivial⟩
  all_goals
   intro e he
   have h1:e.int 0=Q9 i:=(he 0 (by decide)).1
   simp only [QC,Zb,Cd.holds,SX.den,cmI,PX.den,LX.den,VX.sat,List.map_cons,List.map_nil,List.append_nil,beq_iff_eq,bne_iff_ne,beq_eq_false_iff_ne,bne_eq_false_iff_eq,decide_eq_true_eq,decide_eq_false_iff_not,Bool.and_eq_true,Bool.and_eq_false_iff,ne_eq,List.getElem?_cons_zero,List.getElem?_cons_succ,Option.some.injEq,exists_eq_left',QI,QT,Q3,QS,QX,Xv,QB,QY,Qv0,h1,Q9]
   intro hc
   first|trivial|omega
 refine⟨?_,?_,trivial⟩
 all_goals
  intro e u he hc hs
  have h1:e.int 0=Q9 i:=(he 0 (by decide)).1
  have h0:=ZA (he 1 (by decide)).1 (he 1 (by decide)).2.1
  rw [VP hs]
  first
   |(rw [Qu1]
     simp only [QC,Zb,Cd.holds,SX.den,cmI,PX.den,LX.den,VX.sat,List.map_cons,List.map_nil,List.append_nil,beq_iff_eq,bne_iff_ne,beq_eq_false_iff_ne,bne_eq_false_iff_eq,decide_eq_true_eq,decide_eq_false_iff_not,Bool.and_eq_true,Bool.and_eq_false_iff,ne_eq,List.getElem?_cons_zero,List.getElem?_cons_succ,Option.some.injEq,exists_eq_left',QI,QT,Q3,QS,QX,Xv,QB,QY,h1,Q9]at hc
     have hk:(SX.den e (.v 0 7)).1.toNat * 5=5 * i.b.toNat:=by simp only [SX.den,h1,Q9];omega
     rw [hk,h0,WT,if_pos (by simp_all)])
   |(rw [Qbo]
     simp only [QC,Zb,Cd.holds,SX.den,cmI,PX.den,LX.den,VX.sat,List.map_cons,List.map_nil,List.append_nil,beq_iff_eq,bne_iff_ne,beq_eq_false_iff_ne,bne_eq_false_iff_eq,decide_eq_true_eq,decide_eq_false_iff_not,Bool.and_eq_true,Bool.and_eq_false_iff,ne_eq,List.getElem?_cons_zero,List.getElem?_cons_succ,Option.some.injEq,exists_eq_left',QI,QT,Q3,QS,QX,Xv,QB,QY,Qv0,h1,Q9]at hc
     rw [QA hc.1.1 hc.1.2,WT,if_neg (by simp_all)])
def QvH:Con Try.prog:= .mk' ⟨59,[.a Qb,.a stK],.a Qc,true⟩
 (fun ads=>match ads with| [d1,d2]=>0≤(Q0 d1).b∧(Q0 d1).b < 8|_=>False)
 (fun ads=>match ads with| [d1,d2]=>ZC (WT (Q0 d1) (stD d2))|_=>fun _=>0)
 (fun ads=>match ads with| [d1,d2]=>Xc (WT (Q0 d1) (stD d2))|_=>fun _=>false)
 ⟨_,Try.func59,by kernel_rfl,by kernel_rfl⟩ (fun ads w hf hp=>by
   obtain⟨d1,_,rfl,f1,hf⟩:=Qf hf
   obtain⟨d2,_,rfl,f2,hf⟩:=Qf hf
   obtain rfl:=Qn hf
   show Calls _ _ #[d1.val,d2.val] w _
   rw [Zc f1,Vq f2]
   exact Qxg (Q0 d1) (stD d2) hp w)
def QpH:List Sg:= []
def Qj7:List PX:= [.l (.n .i64 (.v 0 0))]
def Qm2:List Rw:= []
def Qm0:Cfg:=⟨1,QpH,[]⟩
def QpF:List Lf:=
 [⟨[.c (.c .eql (.v 0 0) (.i 6)) true],.v (.l (.n .i64 (.i 3)))⟩,⟨[.c (.c .eql (.v 0 0) (.i 7)) true,.c (.c .eql (.v 0 0) (.i 6)) false],.v (.l (.n .i64 (.i 4)))⟩,⟨[.c (.c .eql (.v 0 0) (.i 8)) true,.c (.c .eql (.v 0 0) (.i 7)) false,.c (.c .eql (.v 0 0) (.i 6)) false],.v (.l (.n .i64 (.i 6)))⟩,⟨[.c (.c .eql (.v 0 0) (.i 9)) true,.c (.c .eql (.v 0 0) (.i 8)) false,.c (.c .eql (.v 0 0) (.i 7)) false,.c (.c .eql (.v 0 0) (.i 6)) false],.v (.l (.n .i64 (.i 7)))⟩,⟨[.c (.c .eql (.v 0 0) (.i 10)) true,.c (.c .eql (.v 0 0) (.i 9)) false,.c (.c .eql (.v 0 0) (.i 8)) false,.c (.c .eql (.v 0 0) (.i 7)) false,.c (.c .eql (.v 0 0) (.i 6)) false],.v (.l (.n .i64 (.i 8)))⟩,⟨[.c (.c .eql (.v 0 0) (.i 11)) true,.c (.c .eql (.v 0 0) (.i 10)) false,.c (.c .eql (.v 0 0) (.i 9)) false,.c (.c .eql (.v 0 0) (.i 8)) false,.c (.c .eql (.v 0 0) (.i 7)) false,.c (.c .eql (.v 0 0) (.i 6)) false],.v (.l (.n .i64 (.i 5)))⟩,⟨[.c (.c .eql (.v 0 0) (.i 12)) true,.c (.c .eql (.v 0 0) (.i 11)) false,.c (.c .eql (.v 0 0) (.i 10)) false,.c (.c .eql (.v 0 0) (.i 9)) false,.c (.c .eql (.v 0 0) (.i 8)) false,.c (.c .eql (.v 0 0) (.i 7)) false,.c (.c .eql (.v 0 0) (.i 6)) false],.v (.l (.n .i64 (.i 9)))⟩,⟨[.c (.c .eql (.v 0 0) (.i 13)) true,.c (.c .eql (.v 0 0) (.i 12)) false,.c (.c .eql (.v 0 0) (.i 11)) false,.c (.c .eql (.v 0 0) (.i 10)) false,.c (.c .eql (.v 0 0) (.i 9)) false,.c (.c .eql (.v 0 0) (.i 8)) false,.c (.c .eql (.v 0 0) (.i 7)) false,.c (.c .eql (.v 0 0) (.i 6)) false],.v (.l (.n .i64 (.i 10)))⟩,⟨[.c (.c .eql (.v 0 0) (.i 13)) false,.c (.c .eql (.v 0 0) (.i 12)) false,.c (.c .eql (.v 0 0) (.i 11)) false,.c (.c .eql (.v 0 0) (.i 10)) false,.c (.c .eql (.v 0 0) (.i 9)) false,.c (.c .eql (.v 0 0) (.i 8)) false,.c (.c .eql (.v 0 0) (.i 7)) false,.c (.c .eql (.v 0 0) (.i 6)) false],.v (.l (.n .i64 (.i 11)))⟩]
def QpG:List Ob:= []
theorem Qm1:QP Try.prog Qm0 2000 Try.f61 Qj7 Qm2=some (QpF,QpG):=by kernel_rfl
def QxQ:List Sg:= [⟨58,[.l (some .u32)],.a Qc,true⟩,⟨60,[.l (some .i64),.a Qc,.a Qc],.a Qc,true⟩]
def QwE:List PX:= [.a (Qa 0 0 Qc),.l (.n .u32 (.v 1 0))]
def Qxp:List Rw:= []
def Qxn:Cfg:=⟨2,QxQ,[]⟩
def QxO:List Lf:= [⟨[.f 9 1 [.l (.n .i64 (.i 3)),.a (Qa 0 0 Qc),.a (Qa 8 0 Qc)],.f 8 0 [.l (.n .u32 (.v 1 0))],.c (.c .lss (.v 1 0) (.i 2147483648)) true],.v (.a (Qa 9 0 Qc))⟩,
 ⟨[.f 10 1 [.l (.n .i64 (.i 4)),.a (Qa 0 0 Qc),.a (Qa 9 0 Qc)],.f 9 0 [.l (.n .u32 (.o .sub .u32 (.i 0) (.v 1 0)))],.c (.c .lss (.v 1 0) (.i 2147483648)) false],.v (.a (Qa 10 0 Qc))⟩]
def QxP:List Ob:=
 [.pre [.c (.c .lss (.v 1 0) (.i 2147483648)) true] 0 [.l (.n .u32 (.v 1 0))],.pre [.f 8 0 [.l (.n .u32 (.v 1 0))],.c (.c .lss (.v 1 0) (.i 2147483648)) true] 1 [.l (.n .i64 (.i 3)),.a (Qa 0 0 Qc),.a (Qa 8 0 Qc)],.pre [.c (.c .lss (.v 1 0) (.i 2147483648)) false] 0 [.l (.n .u32 (.o .sub .u32 (.i 0) (.v 1 0)))],.pre [.f 9 0 [.l (.n .u32 (.o .sub .u32 (.i 0) (.v 1 0)))],.c (.c .lss (.v 1 0) (.i 2147483648)) false] 1 [.l (.n .i64 (.i 4)),.a (Qa 0 0 Qc),.a (Qa 9 0 Qc)]]
theorem Qxo:QP Try.prog Qxn 2000 Try.f64 QwE Qxp=some (QxO,QxP):=by kernel_rfl
def Qxm:List Sg:= [⟨65,[.l (some .u32),.l (some .u32),.l (some .u32)],.a Qc,true⟩,⟨63,[],.a Qc,true⟩]
def Qwh:List PX:= [.l (.n .i64 (.v 0 0))]
def QwD:List Rw:= []
def QwB:Cfg:=⟨1,Qxm,[]⟩
def Qxk:List Lf:=
 [⟨[.f 4 0 [.l (.n .u32 (.i 0)),.l (.n .u32 (.i 255)),.l (.n .u32 (.i 1))],.c (.c .eql (.v 0 0) (.i 1)) true],.v (.a (Qa 4 0 Qc))⟩,⟨[.f 6 0 [.l (.n .u32 (.i 0)),.l (.n .u32 (.i 65535)),.l (.n .u32 (.i 1))],.c (.c .eql (.v 0 0) (.i 2)) true,.c (.c .eql (.v 0 0) (.i 1)) false],.v (.a (Qa 6 0 Qc))⟩,⟨[.f 6 1 [],.c (.c .eql (.v 0 0) (.i 2)) false,.c (.c .eql (.v 0 0) (.i 1)) false],.v (.a (Qa 6 0 Qc))⟩]
def Qxl:List Ob:=
 [.pre [.c (.c .eql (.v 0 0) (.i 1)) true] 0 [.l (.n .u32 (.i 0)),.l (.n .u32 (.i 255)),.l (.n .u32 (.i 1))],.pre [.c (.c .eql (.v 0 0) (.i 2)) true,.c (.c .eql (.v 0 0) (.i 1)) false] 0 [.l (.n .u32 (.i 0)),.l (.n .u32 (.i 65535)),.l (.n .u32 (.i 1))],.pre [.c (.c .eql (.v 0 0) (.i 2)) false,.c (.c .eql (.v 0 0) (.i 1)) false] 1 []]
theorem QwC:QP Try.prog QwB 2000 Try.f62 Qwh QwD=some (Qxk,Qxl):=by kernel_rfl
theorem QoQ(n:Int)(w:World):Calls Try.prog 61 #[.int .i64 n] w (Ret (.int .i64 (opL n)) w):=by
 refine QG (C:= []) (I:= []) Qr rfl Try.func61 Qm1 (Qdr n) w rfl (fun r hr=>(List.not_mem_nil hr).elim) _ ?_ ?_
 ·refine trivial
 refine⟨?_,?_,?_,?_,?_,?_,?_,?_,?_,trivial⟩
 all_goals
  intro e u he hc hs
  have h0:e.int 0 0=n:=by rw [(he 0 (by decide)).1];rfl
  simp only [QC,Zb,Cd.holds,SX.den,cmI,PX.den,LX.den,VX.sat,List.map_cons,List.map_nil,List.append_nil,beq_iff_eq,bne_iff_ne,beq_eq_false_iff_ne,bne_eq_false_iff_eq,decide_eq_true_eq,decide_eq_false_iff_not,Bool.and_eq_true,Bool.and_eq_false_iff,ne_eq,List.getElem?_cons_zero,List.getElem?_cons_succ,Option.some.injEq,exists_eq_left',QI,QT,Q3,QS,QX,Xv,QB,QY,h0]at hc
  rw [VP hs]
  simp only [PX.den,LX.den,SX.den,opL]
  congr 1
  grind
def Qgg:Con Try.prog:= .mk' ⟨61,[.l (some .i64)],.l (some .i64),true⟩
 (fun ads=>match ads with| [d1]=>True|_=>False)
 (fun ads=>match ads with| [d1]=>fun _=>opL (Q8 d1)|_=>fun _=>0)
 (fun ads=>match ads with| [d1]=>fun _=>false|_=>fun _=>false)
 ⟨_,Try.func61,by kernel_rfl,by kernel_rfl⟩ (fun ads w hf hp=>by
   obtain⟨d1,_,rfl,f1,hf⟩:=Qf hf
   obtain rfl:=Qn hf
   show Calls _ _ #[d1.val] w _
   rw [QH f1]
   exact QoQ (Q8 d1) w)
def Qv9(n:Int):Qd:=if n=1 then Qs 0 255 1 else if n=2 then Qs 0 65535 1 else Qy
theorem Qxd(n:Int)(w:World):Calls Try.prog 62 #[.int .i64 n] w (Ret (Qv9 n).val w):=by
 refine QG (C:= [Qvz,QvI]) (I:= []) Qr rfl Try.func62 QwC (Qdr n) w rfl (fun r hr=>(List.not_mem_nil hr).elim) _ ?_ ?_
 ·refine⟨?_,?_,?_,trivial⟩
  all_goals
   intro e he
   simp only [QC,Zb,Cd.holds,SX.den,cmI,PX.den,LX.den,VX.sat,List.map_cons,List.map_nil,List.append_nil,beq_iff_eq,bne_iff_ne,beq_eq_false_iff_ne,bne_eq_false_iff_eq,decide_eq_true_eq,decide_eq_false_iff_not,Bool.and_eq_true,Bool.and_eq_false_iff,ne_eq,List.getElem?_cons_zero,List.getElem?_cons_succ,Option.some.injEq,exists_eq_left',QI,QT,Q3,QS,QX,Xv,QB,QY,Qvz,QvI,Q5]
   intro hc
   first|trivial|omega
 refine⟨?_,?_,?_,trivial⟩
 all_goals
  intro e u he hc hs
  have h0:e.int 0 0=n:=by rw [(he 0 (by decide)).1];rfl
  simp only [QC,Zb,Cd.holds,SX.den,cmI,PX.den,LX.den,VX.sat,List.map_cons,List.map_nil,List.append_nil,beq_iff_eq,bne_iff_ne,beq_eq_false_iff_ne,bne_eq_false_iff_eq,decide_eq_true_eq,decide_eq_false_iff_not,Bool.and_eq_true,Bool.and_eq_false_iff,ne_eq,List.getElem?_cons_zero,List.getElem?_cons_succ,Option.some.injEq,exists_eq_left',QI,QT,Q3,QS,QX,Xv,QB,QY,Qvz,QvI,h0]at hc
  rw [VP hs,Qbo,QA hc.1.1 hc.1.2,Qv9]
  congr 1
  simp_all
def QvF:Con Try.prog:= .mk' ⟨62,[.l (some .i64)],.a Qc,true⟩
 (fun ads=>match ads with| [d1]=>True|_=>False)
 (fun ads=>match ads with| [d1]=>ZC (Qv9 (Q8 d1))|_=>fun _=>0)
 (fun ads=>match ads with| [d1]=>Xc (Qv9 (Q8 d1))|_=>fun _=>false)
 ⟨_,Try.func62,by kernel_rfl,by kernel_rfl⟩ (fun ads w hf hp=>by
   obtain⟨d1,_,rfl,f1,hf⟩:=Qf hf
   obtain rfl:=Qn hf
   show Calls _ _ #[d1.val] w _
   rw [QH f1]
   exact Qxd (Q8 d1) w)
theorem QxH(a:Qd)(n:Int)(h:a.wf∧Q5 n)(w:World):Calls Try.prog 64 #[a.val,.int .u32 n] w (Ret (Wn a n).val w):=by
 refine QG (C:= [Qv0,Qv6]) (I:= []) Qr rfl Try.func64 Qxo (QtP a n) w rfl (fun r hr=>(List.not_mem_nil hr).elim) _ ?_ ?_
 ·refine⟨?_,?_,?_,?_,trivial⟩
  all_goals
   intro e he
   have h0:=QA (he 0 (by decide)).1 (he 0 (by decide)).2.1
   have h1:e.int 1=fun _=>n:=(he 1 (by decide)).1
   simp only [QC,Zb,Cd.holds,SX.den,cmI,PX.den,LX.den,VX.sat,List.map_cons,List.map_nil,List.append_nil,beq_iff_eq,bne_iff_ne,beq_eq_false_iff_ne,bne_eq_false_iff_eq,decide_eq_true_eq,decide_eq_false_iff_not,Bool.and_eq_true,Bool.and_eq_false_iff,ne_eq,List.getElem?_cons_zero,List.getElem?_cons_succ,Option.some.injEq,exists_eq_left',QI,QT,Q3,QS,QX,Xv,QB,QY,Qv0,Qv6,h0,h1,arI]
   intro hc
   first
    |trivial
    |(rw [QA hc.1.1 hc.1.2];exact⟨h.1,ZR h.2⟩)
    |(rw [QA hc.1.1 hc.1.2];exact⟨h.1,ZR (QR _)⟩)
 refine⟨?_,?_,trivial⟩
 all_goals
  intro e u he hc hs
  have h0:=QA (he 0 (by decide)).1 (he 0 (by decide)).2.1
  have h1:e.int 1=fun _=>n:=(he 1 (by decide)).1
  rw [VP hs,Qbo]
  simp only [QC,Zb,Cd.holds,SX.den,cmI,PX.den,LX.den,VX.sat,List.map_cons,List.map_nil,List.append_nil,beq_iff_eq,bne_iff_ne,beq_eq_false_iff_ne,bne_eq_false_iff_eq,decide_eq_true_eq,decide_eq_false_iff_not,Bool.and_eq_true,Bool.and_eq_false_iff,ne_eq,List.getElem?_cons_zero,List.getElem?_cons_succ,Option.some.injEq,exists_eq_left',QI,QT,Q3,QS,QX,Xv,QB,QY,Qv0,Qv6,h0,h1,arI]at hc
  rw [QA hc.1.1 hc.1.2,QA hc.2.1.1 hc.2.1.2,Wn]
  first|rw [if_pos hc.2.2.1]|rw [if_neg hc.2.2.1]
def QvQ:Con Try.prog:= .mk' ⟨64,[.a Qc,.l (some .u32)],.a Qc,true⟩
 (fun ads=>match ads with| [d1,d2]=>(Z4 d1).wf∧Q5 (Q8 d2)|_=>False)
 (fun ads=>match ads with| [d1,d2]=>ZC (Wn (Z4 d1) (Q8 d2))|_=>fun _=>0)
 (fun ads=>match ads with| [d1,d2]=>Xc (Wn (Z4 d1) (Q8 d2))|_=>fun _=>false)
 ⟨_,Try.func64,by kernel_rfl,by kernel_rfl⟩ (fun ads w hf hp=>by
   obtain⟨d1,_,rfl,f1,hf⟩:=Qf hf
   obtain⟨d2,_,rfl,f2,hf⟩:=Qf hf
   obtain rfl:=Qn hf
   show Calls _ _ #[d1.val,d2.val] w _
   rw [X0 f1,QH f2]
   exact QxH (Z4 d1) (Q8 d2) hp w)
end Go.Proofs.Yteplnamfpodmlaa
