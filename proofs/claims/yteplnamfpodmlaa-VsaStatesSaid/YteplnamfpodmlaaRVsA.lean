/-
  Part of the proof.
-/
import Derived.Test.YteplnamfpodmlaaRIsB
import Derived.Test.YteplnamfpodmlaaRVaD
import Derived.Test.YteplnamfpodmlaaRVaE
import Derived.Test.YteplnamfpodmlaaRVal25
set_option linter.unusedVariables false
set_option linter.unusedSimpArgs false
set_option maxRecDepth 100000
open Go.ChangeShapes Go.WideShapes Go.ChangeAt Go.RowKit
section
namespace Go.Proofs.Yteplnamfpodmlaa
def QhE:Con Try.prog:= .mk' ⟨52,[],.a Qc,true⟩
 (fun ads=>match ads with| []=>True|_=>False)
 (fun ads=>match ads with| []=>ZC Qy|_=>fun _=>0)
 (fun ads=>match ads with| []=>Xc Qy|_=>fun _=>false)
 ⟨_,Try.func52,by kernel_rfl,by kernel_rfl⟩ (fun ads w hf hp=>by
   obtain rfl:=Qn hf
   exact XG  w)
def Ye:Con Try.prog:= .mk' ⟨77,[],.a Qc,true⟩
 (fun ads=>match ads with| []=>True|_=>False)
 (fun ads=>match ads with| []=>ZC Q4|_=>fun _=>0)
 (fun ads=>match ads with| []=>Xc Q4|_=>fun _=>false)
 ⟨_,Try.func77,by kernel_rfl,by kernel_rfl⟩ (fun ads w hf hp=>by
   obtain rfl:=Qn hf
   exact Kg  w)
def JT:Con Try.prog:= .mk' ⟨54,[.l (some .u32)],.a Qc,true⟩
 (fun ads=>match ads with| [d1]=>True|_=>False)
 (fun ads=>match ads with| [d1]=>ZC (X2 (Q8 d1))|_=>fun _=>0)
 (fun ads=>match ads with| [d1]=>Xc (X2 (Q8 d1))|_=>fun _=>false)
 ⟨_,Try.func54,by kernel_rfl,by kernel_rfl⟩ (fun ads w hf hp=>by
   obtain⟨d1,_,rfl,f1,hf⟩:=Qf hf
   obtain rfl:=Qn hf
   show Calls _ _ #[d1.val] w _
   rw [QH f1]
   exact WY (Q8 d1) w)
theorem Qf9(lo hi st:Int)(h:Q5 lo∧Q5 hi∧Q5 st)(w:World):Calls Try.prog 51 #[.int .u32 lo,.int .u32 hi,.int .u32 st] w (Ret (Qs lo hi st).val w):=
 ZI lo hi st h.1.1 h.1.2 h.2.1.1 h.2.1.2 h.2.2.1 h.2.2.2 w
def J4:Con Try.prog:= .mk' ⟨51,[.l (some .u32),.l (some .u32),.l (some .u32)],.a Qc,true⟩
 (fun ads=>match ads with| [d1,d2,d3]=>Q5 (Q8 d1)∧Q5 (Q8 d2)∧Q5 (Q8 d3)|_=>False)
 (fun ads=>match ads with| [d1,d2,d3]=>ZC (Qs (Q8 d1) (Q8 d2) (Q8 d3))|_=>fun _=>0)
 (fun ads=>match ads with| [d1,d2,d3]=>Xc (Qs (Q8 d1) (Q8 d2) (Q8 d3))|_=>fun _=>false)
 ⟨_,Try.func51,by kernel_rfl,by kernel_rfl⟩ (fun ads w hf hp=>by
   obtain⟨d1,_,rfl,f1,hf⟩:=Qf hf
   obtain⟨d2,_,rfl,f2,hf⟩:=Qf hf
   obtain⟨d3,_,rfl,f3,hf⟩:=Qf hf
   obtain rfl:=Qn hf
   show Calls _ _ #[d1.val,d2.val,d3.val] w _
   rw [QH f1,QH f2,QH f3]
   exact Qf9 (Q8 d1) (Q8 d2) (Q8 d3) hp w)
def QbY:Con Try.prog:= .mk' ⟨120,[.a Qc],.l none,true⟩
 (fun ads=>match ads with| [d1]=>(Z4 d1).wf|_=>False)
 (fun ads=>match ads with| [d1]=>fun _=>0|_=>fun _=>0)
 (fun ads=>match ads with| [d1]=>fun _=>Qq (Z4 d1)|_=>fun _=>false)
 ⟨_,Try.func120,by kernel_rfl,by kernel_rfl⟩ (fun ads w hf hp=>by
   obtain⟨d1,_,rfl,f1,hf⟩:=Qf hf
   obtain rfl:=Qn hf
   show Calls _ _ #[d1.val] w _
   rw [X0 f1]
   exact Qf5 (Z4 d1) hp w)
theorem Qo2(a b:Qd)(h:a.wf∧b.wf)(w:World):Calls Try.prog 55 #[a.val,b.val] w (Ret (Va a b).val w):=Qbx a b h.1 h.2 w
def Qrk:Con Try.prog:= .mk' ⟨55,[.a Qc,.a Qc],.a Qc,true⟩
 (fun ads=>match ads with| [d1,d2]=>(Z4 d1).wf∧(Z4 d2).wf|_=>False)
 (fun ads=>match ads with| [d1,d2]=>ZC (Va (Z4 d1) (Z4 d2))|_=>fun _=>0)
 (fun ads=>match ads with| [d1,d2]=>Xc (Va (Z4 d1) (Z4 d2))|_=>fun _=>false)
 ⟨_,Try.func55,by kernel_rfl,by kernel_rfl⟩ (fun ads w hf hp=>by
   obtain⟨d1,_,rfl,f1,hf⟩:=Qf hf
   obtain⟨d2,_,rfl,f2,hf⟩:=Qf hf
   obtain rfl:=Qn hf
   show Calls _ _ #[d1.val,d2.val] w _
   rw [X0 f1,X0 f2]
   exact Qo2 (Z4 d1) (Z4 d2) hp w)
theorem Qix(a b:Qd)(h:a.wf∧b.wf)(w:World):Calls Try.prog 47 #[a.val,b.val] w (Ret (.bool (ZF a b)) w):=Qeo a b h.1 h.2 w
def QdE:Con Try.prog:= .mk' ⟨47,[.a Qc,.a Qc],.l none,true⟩
 (fun ads=>match ads with| [d1,d2]=>(Z4 d1).wf∧(Z4 d2).wf|_=>False)
 (fun ads=>match ads with| [d1,d2]=>fun _=>0|_=>fun _=>0)
 (fun ads=>match ads with| [d1,d2]=>fun _=>ZF (Z4 d1) (Z4 d2)|_=>fun _=>false)
 ⟨_,Try.func47,by kernel_rfl,by kernel_rfl⟩ (fun ads w hf hp=>by
   obtain⟨d1,_,rfl,f1,hf⟩:=Qf hf
   obtain⟨d2,_,rfl,f2,hf⟩:=Qf hf
   obtain rfl:=Qn hf
   show Calls _ _ #[d1.val,d2.val] w _
   rw [X0 f1,X0 f2]
   exact Qix (Z4 d1) (Z4 d2) hp w)
theorem Qkh(op:Int)(a b:Qd)(h:a.wf∧b.wf)(w:World):Calls Try.prog 50 #[.int .i64 op,a.val,b.val] w (Ret (JW op a b).val w):=QnU op a b h.1 h.2 w
def Qad:Con Try.prog:= .mk' ⟨50,[.l (some .i64),.a Qc,.a Qc],.a Qc,true⟩
 (fun ads=>match ads with| [d1,d2,d3]=>(Z4 d2).wf∧(Z4 d3).wf|_=>False)
 (fun ads=>match ads with| [d1,d2,d3]=>ZC (JW (Q8 d1) (Z4 d2) (Z4 d3))|_=>fun _=>0)
 (fun ads=>match ads with| [d1,d2,d3]=>Xc (JW (Q8 d1) (Z4 d2) (Z4 d3))|_=>fun _=>false)
 ⟨_,Try.func50,by kernel_rfl,by kernel_rfl⟩ (fun ads w hf hp=>by
   obtain⟨d1,_,rfl,f1,hf⟩:=Qf hf
   obtain⟨d2,_,rfl,f2,hf⟩:=Qf hf
   obtain⟨d3,_,rfl,f3,hf⟩:=Qf hf
   obtain rfl:=Qn hf
   show Calls _ _ #[d1.val,d2.val,d3.val] w _
   rw [QH f1,X0 f2,X0 f3]
   exact Qkh (Q8 d1) (Z4 d2) (Z4 d3) hp w)
theorem Qe1(i:Ins)(w:World):Calls Try.prog 48 #[i.val] w (Ret (.bool (Qj i)) w):=by
 rw [←Qen];exact QfL i w
def Yf:Con Try.prog:= .mk' ⟨48,[.a Qb],.l none,true⟩
 (fun ads=>match ads with| [d1]=>True|_=>False)
 (fun ads=>match ads with| [d1]=>fun _=>0|_=>fun _=>0)
 (fun ads=>match ads with| [d1]=>fun _=>Qj (Q0 d1)|_=>fun _=>false)
 ⟨_,Try.func48,by kernel_rfl,by kernel_rfl⟩ (fun ads w hf hp=>by
   obtain⟨d1,_,rfl,f1,hf⟩:=Qf hf
   obtain rfl:=Qn hf
   show Calls _ _ #[d1.val] w _
   rw [Zc f1]
   exact Qe1 (Q0 d1) w)
def Qja:List Sg:= [⟨52,[],.a Qc,true⟩]
def QeE:List PX:= []
def Qg7:List Rw:= []
def Qg5:Cfg:=⟨0,Qja,[]⟩
def QiY:List Lf:= [⟨[.f 7 0 []],.v (.a (Qik [(7,0),(7,0),(7,0),(7,0),(7,0),(7,0),(7,0),(7,0)]))⟩]
def QiZ:List Ob:= [.pre [] 0 [],
 .pre [.f 7 0 []] 0 []]
theorem Qg6:QP Try.prog Qg5 2000 Try.f39 QeE Qg7=some (QiY,QiZ):=by kernel_rfl
def Qpj:List Sg:= [⟨77,[],.a Qc,true⟩]
def QiC:List PX:= []
def Ql6:List Rw:= []
def Ql4:Cfg:=⟨0,Qpj,[]⟩
def Qph:List Lf:= [⟨[.f 7 0 []],.v (.a (Qik [(7,0),(7,0),(7,0),(7,0),(7,0),(7,0),(7,0),(7,0)]))⟩]
def Qpi:List Ob:= [.pre [] 0 [],
 .pre [.f 7 0 []] 0 []]
theorem Ql5:QP Try.prog Ql4 2000 Try.f37 QiC Ql6=some (Qph,Qpi):=by kernel_rfl
theorem Qit(w:World):Calls Try.prog 39 #[] w (Ret (ZT fun _=>Qy) w):=by
 refine QG (C:= [QhE]) (I:= []) Qr rfl Try.func39 Qg6 Qht w rfl (fun r hr=>(List.not_mem_nil hr).elim) _ ?_ ?_
 ·refine⟨?_,?_,trivial⟩
  all_goals exact fun e he _=>trivial
 refine⟨?_,trivial⟩
 all_goals
  intro e u he hc hs
  simp only [QC,Cd.holds,List.map_nil,List.getElem?_cons_zero,List.getElem?_cons_succ,Option.some.injEq,exists_eq_left',QI,QT,Q3,QS,QX,QB,QY,QhE]at hc
  rw [VP hs,Qbp]
  refine Zr fun k hk=>?_
  match k,hk with
  |0,_|1,_|2,_|3,_|4,_|5,_|6,_|7,_=>exact QA hc.1.1 hc.1.2
theorem QfD(w:World):Calls Try.prog 37 #[] w (Ret (ZT fun _=>Q4) w):=by
 refine QG (C:= [Ye]) (I:= []) Qr rfl Try.func37 Ql5 Qht w rfl (fun r hr=>(List.not_mem_nil hr).elim) _ ?_ ?_
 ·refine⟨?_,?_,trivial⟩
  all_goals exact fun e he _=>trivial
 refine⟨?_,trivial⟩
 all_goals
  intro e u he hc hs
  simp only [QC,Cd.holds,List.map_nil,List.getElem?_cons_zero,List.getElem?_cons_succ,Option.some.injEq,exists_eq_left',QI,QT,Q3,QS,QX,QB,QY,Ye]at hc
  rw [VP hs,Qbp]
  refine Zr fun k hk=>?_
  match k,hk with
  |0,_|1,_|2,_|3,_|4,_|5,_|6,_|7,_=>exact QA hc.1.1 hc.1.2
end Go.Proofs.Yteplnamfpodmlaa
end
section
namespace Go.Proofs.Yteplnamfpodmlaa
def QuZ(s:Nat→Qd)(i:Ins):Env:=⟨fun d=>match d with|0=>ZH s|1=>Q9 i|_=>fun _=>0,fun d=>match d with|0=>QU s|_=>fun _=>false,fun _=>0,fun _=>none⟩
def QuY(i:Ins)(s:Nat→Qd):Env:=⟨fun d=>match d with|0=>Q9 i|1=>ZH s|_=>fun _=>0,fun d=>match d with|1=>QU s|_=>fun _=>false,fun _=>0,fun _=>none⟩
def QtP(s:Qd)(n:Int):Env:=⟨fun d=>match d with|0=>ZC s|1=>fun _=>n|_=>fun _=>0,fun d=>match d with|0=>Xc s|_=>fun _=>false,fun _=>0,fun _=>none⟩
def QqH(a b:Nat→Qd):Env:=⟨fun d=>match d with|0=>ZH a|1=>ZH b|_=>fun _=>0,fun d=>match d with|0=>QU a|1=>QU b|_=>fun _=>false,fun _=>0,fun _=>none⟩
theorem QR(x:Int):Q5 (IntKind.u32.wrap x):=by
 rw [IntKind.wrap_u32]
 exact⟨Int.emod_nonneg _ (by decide),Int.emod_lt_of_pos _ (by decide)⟩
theorem ZR{n:Int}(h:Q5 n):(X2 n).wf:=⟨h.1,h.2,h.1,h.2,by show(0:Int)≤0;omega,by show(0:Int) < 4294967296;omega⟩
def WT(i:Ins)(s:Nat→Qd):Qd:=if i.form=0 then s i.b.toNat else X2 i.imm
def QlR:List Sg:= [⟨54,[.l (some .u32)],.a Qc,true⟩]
def Qg0:List PX:= [.a (Qa 0 0 stK),.a (Qa 1 0 Qb)]
def QiU:List Rw:= []
def QiS:Cfg:=⟨2,QlR,[]⟩
def QlP:List Lf:= [⟨[.c (.c .eql (.v 1 3) (.i 0)) true],.v (.a (Qi 0 (.v 1 7)))⟩,
 ⟨[.f 10 0 [.l (.n .u32 (.v 1 1))],.c (.c .eql (.v 1 3) (.i 0)) false],.v (.a (Qa 10 0 Qc))⟩]
def QlQ:List Ob:=
 [.cl [.c (.c .eql (.v 1 3) (.i 0)) true] (.c .geq (.v 1 7) (.i 0)),.cl [.c (.c .eql (.v 1 3) (.i 0)) true] (.c .lss (.v 1 7) (.i 8)),.pre [.c (.c .eql (.v 1 3) (.i 0)) false] 0 [.l (.n .u32 (.v 1 1))]]
theorem QiT:QP Try.prog QiS 2000 Try.f49 Qg0 QiU=some (QlP,QlQ):=by kernel_rfl
theorem Qlj(s:Nat→Qd)(i:Ins)(hb:0≤i.b∧i.b < 8)(w:World):Calls Try.prog 49 #[ZT s,i.val] w (Ret (WT i s).val w):=by
 refine QG (C:= [JT]) (I:= []) Qr rfl Try.func49 QiT (QuZ s i) w rfl (fun r hr=>(List.not_mem_nil hr).elim) _ ?_ ?_
 ·refine⟨?_,?_,?_,trivial⟩
  all_goals
   intro e he
   have h1:e.int 1=Q9 i:=(he 1 (by decide)).1
   simp only [QC,Zb,Cd.holds,SX.den,cmI,PX.den,LX.den,VX.sat,List.map_cons,List.map_nil,List.append_nil,beq_iff_eq,bne_iff_ne,beq_eq_false_iff_ne,bne_eq_false_iff_eq,decide_eq_true_eq,decide_eq_false_iff_not,Bool.and_eq_true,Bool.and_eq_false_iff,ne_eq,List.getElem?_cons_zero,List.getElem?_cons_succ,Option.some.injEq,exists_eq_left',QI,QT,Q3,QS,QX,Xv,QB,QY,JT,h1,Q9]
   intro hc
   first|trivial|omega
 refine⟨?_,?_,trivial⟩
 all_goals
  intro e u he hc hs
  have h1:e.int 1=Q9 i:=(he 1 (by decide)).1
  have h0:=ZA (he 0 (by decide)).1 (he 0 (by decide)).2.1
  rw [VP hs]
  first
   |(rw [Qu1]
     simp only [QC,Zb,Cd.holds,SX.den,cmI,PX.den,LX.den,VX.sat,List.map_cons,List.map_nil,List.append_nil,beq_iff_eq,bne_iff_ne,beq_eq_false_iff_ne,bne_eq_false_iff_eq,decide_eq_true_eq,decide_eq_false_iff_not,Bool.and_eq_true,Bool.and_eq_false_iff,ne_eq,List.getElem?_cons_zero,List.getElem?_cons_succ,Option.some.injEq,exists_eq_left',QI,QT,Q3,QS,QX,Xv,QB,QY,h1,Q9]at hc
     have hk:(SX.den e (.v 1 7)).1.toNat * 5=5 * i.b.toNat:=by simp only [SX.den,h1,Q9];omega
     rw [hk,h0,WT,if_pos (by simp_all)])
   |(rw [Qbo]
     simp only [QC,Zb,Cd.holds,SX.den,cmI,PX.den,LX.den,VX.sat,List.map_cons,List.map_nil,List.append_nil,beq_iff_eq,bne_iff_ne,beq_eq_false_iff_ne,bne_eq_false_iff_eq,decide_eq_true_eq,decide_eq_false_iff_not,Bool.and_eq_true,Bool.and_eq_false_iff,ne_eq,List.getElem?_cons_zero,List.getElem?_cons_succ,Option.some.injEq,exists_eq_left',QI,QT,Q3,QS,QX,Xv,QB,QY,JT,h1,Q9]at hc
     rw [QA hc.1.1 hc.1.2,WT,if_neg (by simp_all)])
theorem QcV{i:Ins}{s:Nat→Qd}(hi:i.wf)(hs:∀k,(s k).wf):(WT i s).wf:=by
 unfold WT;split
 ·exact hs _
 ·exact ZR hi.2.1
def QdD:Con Try.prog:= .mk' ⟨49,[.a stK,.a Qb],.a Qc,true⟩
 (fun ads=>match ads with| [d1,d2]=>0≤(Q0 d2).b∧(Q0 d2).b < 8|_=>False)
 (fun ads=>match ads with| [d1,d2]=>ZC (WT (Q0 d2) (stD d1))|_=>fun _=>0)
 (fun ads=>match ads with| [d1,d2]=>Xc (WT (Q0 d2) (stD d1))|_=>fun _=>false)
 ⟨_,Try.func49,by kernel_rfl,by kernel_rfl⟩ (fun ads w hf hp=>by
   obtain⟨d1,_,rfl,f1,hf⟩:=Qf hf
   obtain⟨d2,_,rfl,f2,hf⟩:=Qf hf
   obtain rfl:=Qn hf
   show Calls _ _ #[d1.val,d2.val] w _
   rw [Vq f1,Zc f2]
   exact Qlj (stD d1) (Q0 d2) hp w)
def Wn(a:Qd)(n:Int):Qd:=if n < 2147483648 then JW 3 a (X2 n)else JW 4 a (X2 (IntKind.u32.wrap (0 - n)))
def Qps:List Sg:= [⟨54,[.l (some .u32)],.a Qc,true⟩,⟨50,[.l (some .i64),.a Qc,.a Qc],.a Qc,true⟩]
def QiJ:List PX:= [.a (Qa 0 0 Qc),.l (.n .u32 (.v 1 0))]
def QlE:List Rw:= []
def QlC:Cfg:=⟨2,Qps,[]⟩
def Qpq:List Lf:= [⟨[.f 9 1 [.l (.n .i64 (.i 3)),.a (Qa 0 0 Qc),.a (Qa 8 0 Qc)],.f 8 0 [.l (.n .u32 (.v 1 0))],.c (.c .lss (.v 1 0) (.i 2147483648)) true],.v (.a (Qa 9 0 Qc))⟩,
 ⟨[.f 10 1 [.l (.n .i64 (.i 4)),.a (Qa 0 0 Qc),.a (Qa 9 0 Qc)],.f 9 0 [.l (.n .u32 (.o .sub .u32 (.i 0) (.v 1 0)))],.c (.c .lss (.v 1 0) (.i 2147483648)) false],.v (.a (Qa 10 0 Qc))⟩]
def Qpr:List Ob:=
 [.pre [.c (.c .lss (.v 1 0) (.i 2147483648)) true] 0 [.l (.n .u32 (.v 1 0))],.pre [.f 8 0 [.l (.n .u32 (.v 1 0))],.c (.c .lss (.v 1 0) (.i 2147483648)) true] 1 [.l (.n .i64 (.i 3)),.a (Qa 0 0 Qc),.a (Qa 8 0 Qc)],.pre [.c (.c .lss (.v 1 0) (.i 2147483648)) false] 0 [.l (.n .u32 (.o .sub .u32 (.i 0) (.v 1 0)))],.pre [.f 9 0 [.l (.n .u32 (.o .sub .u32 (.i 0) (.v 1 0)))],.c (.c .lss (.v 1 0) (.i 2147483648)) false] 1 [.l (.n .i64 (.i 4)),.a (Qa 0 0 Qc),.a (Qa 9 0 Qc)]]
theorem QlD:QP Try.prog QlC 2000 Try.f53 QiJ QlE=some (Qpq,Qpr):=by kernel_rfl
theorem QoG(a:Qd)(n:Int)(h:a.wf∧Q5 n)(w:World):Calls Try.prog 53 #[a.val,.int .u32 n] w (Ret (Wn a n).val w):=by
 refine QG (C:= [JT,Qad]) (I:= []) Qr rfl Try.func53 QlD (QtP a n) w rfl (fun r hr=>(List.not_mem_nil hr).elim) _ ?_ ?_
 ·refine⟨?_,?_,?_,?_,trivial⟩
  all_goals
   intro e he
   have h0:=QA (he 0 (by decide)).1 (he 0 (by decide)).2.1
   have h1:e.int 1=fun _=>n:=(he 1 (by decide)).1
   simp only [QC,Zb,Cd.holds,SX.den,cmI,PX.den,LX.den,VX.sat,List.map_cons,List.map_nil,List.append_nil,beq_iff_eq,bne_iff_ne,beq_eq_false_iff_ne,bne_eq_false_iff_eq,decide_eq_true_eq,decide_eq_false_iff_not,Bool.and_eq_true,Bool.and_eq_false_iff,ne_eq,List.getElem?_cons_zero,List.getElem?_cons_succ,Option.some.injEq,exists_eq_left',QI,QT,Q3,QS,QX,Xv,QB,QY,JT,Qad,h0,h1,arI]
   intro hc
   first
    |trivial
    |(rw [QA hc.1.1 hc.1.2];exact⟨h.1,ZR h.2⟩)
    |(rw [QA hc.1.1 hc.1.2];exact⟨h.1,ZR (QR _)⟩)
 refine⟨?_,?_,trivial⟩
 all_goals
  intro e u he hc hs
  have h0:=QA (he 0 (by decide)).1 (he 0 (by decide)).2.1
  have h1:e.int 1=fun _=>n:=(he 1 (by decide)).1
  rw [VP hs,Qbo]
  simp only [QC,Zb,Cd.holds,SX.den,cmI,PX.den,LX.den,VX.sat,List.map_cons,List.map_nil,List.append_nil,beq_iff_eq,bne_iff_ne,beq_eq_false_iff_ne,bne_eq_false_iff_eq,decide_eq_true_eq,decide_eq_false_iff_not,Bool.and_eq_true,Bool.and_eq_false_iff,ne_eq,List.getElem?_cons_zero,List.getElem?_cons_succ,Option.some.injEq,exists_eq_left',QI,QT,Q3,QS,QX,Xv,QB,QY,JT,Qad,h0,h1,arI]at hc
  rw [QA hc.1.1 hc.1.2,QA hc.2.1.1 hc.2.1.2,Wn]
  first|rw [if_pos hc.2.2.1]|rw [if_neg hc.2.2.1]
def QfQ:Con Try.prog:= .mk' ⟨53,[.a Qc,.l (some .u32)],.a Qc,true⟩
 (fun ads=>match ads with| [d1,d2]=>(Z4 d1).wf∧Q5 (Q8 d2)|_=>False)
 (fun ads=>match ads with| [d1,d2]=>ZC (Wn (Z4 d1) (Q8 d2))|_=>fun _=>0)
 (fun ads=>match ads with| [d1,d2]=>Xc (Wn (Z4 d1) (Q8 d2))|_=>fun _=>false)
 ⟨_,Try.func53,by kernel_rfl,by kernel_rfl⟩ (fun ads w hf hp=>by
   obtain⟨d1,_,rfl,f1,hf⟩:=Qf hf
   obtain⟨d2,_,rfl,f2,hf⟩:=Qf hf
   obtain rfl:=Qn hf
   show Calls _ _ #[d1.val,d2.val] w _
   rw [X0 f1,QH f2]
   exact QoG (Z4 d1) (Q8 d2) hp w)
def Vb(a b:Nat→Qd):Nat→Qd:=fun k=>Va (a k) (b k)
def Qs0:List Sg:= [⟨55,[.a Qc,.a Qc],.a Qc,true⟩]
def Ql7:List PX:= [.a (Qa 0 0 stK),.a (Qa 1 0 stK)]
def Qpm:List Rw:= []
def Qpk:Cfg:=⟨2,Qs0,[]⟩
def Qsy:List Lf:= [⟨[.f 144 0 [.a (Qa 0 35 Qc),.a (Qa 1 35 Qc)],.f 126 0 [.a (Qa 0 30 Qc),.a (Qa 1 30 Qc)],.f 108 0 [.a (Qa 0 25 Qc),.a (Qa 1 25 Qc)],.f 90 0 [.a (Qa 0 20 Qc),.a (Qa 1 20 Qc)],.f 72 0 [.a (Qa 0 15 Qc),.a (Qa 1 15 Qc)],.f 54 0 [.a (Qa 0 10 Qc),.a (Qa 1 10 Qc)],.f 36 0 [.a (Qa 0 5 Qc),.a (Qa 1 5 Qc)],.f 18 0 [.a (Qa 0 0 Qc),.a (Qa 1 0 Qc)]],.v (.a (Qik [(18,0),(36,0),(54,0),(72,0),(90,0),(108,0),(126,0),(144,0)]))⟩]
def Qsz:List Ob:=
 [.pre [] 0 [.a (Qa 0 0 Qc),.a (Qa 1 0 Qc)],.pre [.f 18 0 [.a (Qa 0 0 Qc),.a (Qa 1 0 Qc)]] 0 [.a (Qa 0 5 Qc),.a (Qa 1 5 Qc)],.pre [.f 36 0 [.a (Qa 0 5 Qc),.a (Qa 1 5 Qc)],.f 18 0 [.a (Qa 0 0 Qc),.a (Qa 1 0 Qc)]] 0 [.a (Qa 0 10 Qc),.a (Qa 1 10 Qc)],.pre [.f 54 0 [.a (Qa 0 10 Qc),.a (Qa 1 10 Qc)],.f 36 0 [.a (Qa 0 5 Qc),.a (Qa 1 5 Qc)],.f 18 0 [.a (Qa 0 0 Qc),.a (Qa 1 0 Qc)]] 0 [.a (Qa 0 15 Qc),.a (Qa 1 15 Qc)],.pre [.f 72 0 [.a (Qa 0 15 Qc),.a (Qa 1 15 Qc)],.f 54 0 [.a (Qa 0 10 Qc),.a (Qa 1 10 Qc)],.f 36 0 [.a (Qa 0 5 Qc),.a (Qa 1 5 Qc)],.f 18 0 [.a (Qa 0 0 Qc),.a (Qa 1 0 Qc)]] 0 [.a (Qa 0 20 Qc),.a (Qa 1 20 Qc)],.pre [.f 90 0 [.a (Qa 0 20 Qc),.a (Qa 1 20 Qc)],.f 72 0 [.a (Qa 0 15 Qc),.a (Qa 1 15 Qc)],.f 54 0 [.a (Qa 0 10 Qc),.a (Qa 1 10 Qc)],.f 36 0 [.a (Qa 0 5 Qc),.a (Qa 1 5 Qc)],.f 18 0 [.a (Qa 0 0 Qc),.a (Qa 1 0 Qc)]] 0 [.a (Qa 0 25 Qc),.a (Qa 1 25 Qc)],.pre [.f 108 0 [.a (Qa 0 25 Qc),.a (Qa 1 25 Qc)],.f 90 0 [.a (Qa 0 20 Qc),.a (Qa 1 20 Qc)],.f 72 0 [.a (Qa 0 15 Qc),.a (Qa 1 15 Qc)],.f 54 0 [.a (Qa 0 10 Qc),.a (Qa 1 10 Qc)],.f 36 0 [.a (Qa 0 5 Qc),.a (Qa 1 5 Qc)],.f 18 0 [.a (Qa 0 0 Qc),.a (Qa 1 0 Qc)]] 0 [.a (Qa 0 30 Qc),.a (Qa 1 30 Qc)],.pre [.f 126 0 [.a (Qa 0 30 Qc),.a (Qa 1 30 Qc)],.f 108 0 [.a (Qa 0 25 Qc),.a (Qa 1 25 Qc)],.f 90 0 [.a (Qa 0 20 Qc),.a (Qa 1 20 Qc)],.f 72 0 [.a (Qa 0 15 Qc),.a (Qa 1 15 Qc)],.f 54 0 [.a (Qa 0 10 Qc),.a (Qa 1 10 Qc)],.f 36 0 [.a (Qa 0 5 Qc),.a (Qa 1 5 Qc)],.f 18 0 [.a (Qa 0 0 Qc),.a (Qa 1 0 Qc)]] 0 [.a (Qa 0 35 Qc),.a (Qa 1 35 Qc)]]
theorem Qpl:QP Try.prog Qpk 2000 Try.f20 Ql7 Qpm=some (Qsy,Qsz):=by kernel_rfl
set_option maxHeartbeats 1000000 in
theorem Qo1(a b:Nat→Qd)(h:(∀k,(a k).wf)∧∀k,(b k).wf)(w:World):Calls Try.prog 20 #[ZT a,ZT b] w (Ret (ZT (Vb a b)) w):=by
 refine QG (C:= [Qrk]) (I:= []) Qr rfl Try.func20 Qpl (QqH a b) w rfl (fun r hr=>(List.not_mem_nil hr).elim) _ ?_ ?_
 ·have wfs:∀e:Env,Env.agr 2 (QqH a b) e→∀k,(Zg e 0 (5 * k)).wf∧(Zg e 1 (5 * k)).wf:=fun e he k=>by
   rw [ZA (he 0 (by decide)).1 (he 0 (by decide)).2.1,ZA (he 1 (by decide)).1 (he 1 (by decide)).2.1];exact⟨h.1 k,h.2 k⟩
  exact⟨fun e he _=>wfs e he 0,fun e he _=>wfs e he 1,fun e he _=>wfs e he 2,fun e he _=>wfs e he 3,fun e he _=>wfs e he 4,fun e he _=>wfs e he 5,fun e he _=>wfs e he 6,fun e he _=>wfs e he 7,trivial⟩
 refine⟨?_,trivial⟩
 all_goals
  intro e u he hc hs
  rw [VP hs]
  have k0:=ZA (he 0 (by decide)).1 (he 0 (by decide)).2.1
  have k1:=ZA (he 1 (by decide)).1 (he 1 (by decide)).2.1
  simp only [QC,Cd.holds,List.getElem?_cons_zero,List.getElem?_cons_succ,Option.some.injEq,exists_eq_left',QI,QT,Q3,QS,QX,Xv,QB,QY,Qrk,List.map_cons,List.map_nil]at hc
  obtain⟨c7,c6,c5,c4,c3,c2,c1,c0,_⟩:=hc
  rw [Qbp]
  refine Zr fun k hk=>?_
  match k,hk with
  |0,_=>exact(QA c0.1 c0.2).trans (by rw [Vb,←k0 0,←k1 0])
  |1,_=>exact(QA c1.1 c1.2).trans (by rw [Vb,←k0 1,←k1 1])
  |2,_=>exact(QA c2.1 c2.2).trans (by rw [Vb,←k0 2,←k1 2])
  |3,_=>exact(QA c3.1 c3.2).trans (by rw [Vb,←k0 3,←k1 3])
  |4,_=>exact(QA c4.1 c4.2).trans (by rw [Vb,←k0 4,←k1 4])
  |5,_=>exact(QA c5.1 c5.2).trans (by rw [Vb,←k0 5,←k1 5])
  |6,_=>exact(QA c6.1 c6.2).trans (by rw [Vb,←k0 6,←k1 6])
  |7,_=>exact(QA c7.1 c7.2).trans (by rw [Vb,←k0 7,←k1 7])
end Go.Proofs.Yteplnamfpodmlaa
end
