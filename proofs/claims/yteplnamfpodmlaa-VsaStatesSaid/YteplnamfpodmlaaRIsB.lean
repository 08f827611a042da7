/-
  Part of the proof.
-/
import Derived.Test.YteplnamfpodmlaaRIsa2
set_option linter.unusedVariables false
set_option linter.unusedSimpArgs false
set_option maxRecDepth 100000
open Go.ChangeShapes Go.WideShapes Go.ChangeAt Go.RowKit
section
namespace Go.Proofs.Yteplnamfpodmlaa
def Qbw(n:Int):Bool:=decide (0≤n) && decide (n≤14)
def VD(n:Int):Bool:=decide (5≤n) && decide (n≤15)
def XZ(n:Int):Bool:=decide (n=16) || decide (n=17) || decide (n=18)
def Qfb(n:Int):Bool:=decide (3≤n) && decide (n≤27) && !decide (n=20) && !decide (n=23)
def W7(n:Int):Bool:=decide (n=20) || decide (n=25)
def Qmw:List Sg:= []
def QgK:List PX:= [.l (.n .i64 (.v 0 0))]
def Qj0:List Rw:= []
def Qjy:Cfg:=⟨1,Qmw,[]⟩
def Qmu:List Lf:= [⟨[],.v (.l (.t (.an (.c .geq (.v 0 0) (.i 0)) (.c .lss (.v 0 0) (.i 8)))))⟩]
def Qmv:List Ob:= []
theorem Qjz:QP Try.prog Qjy 2000 Try.f108 QgK Qj0=some (Qmu,Qmv):=by kernel_rfl
theorem Qk6(n:Int)(w:World):Calls Try.prog 108 #[.int .i64 n] w (Ret (.bool (QaK n)) w):=by
 refine QG (C:= []) (I:= []) Qr rfl Try.func108 Qjz (Qdr n) w rfl (fun r hr=>(List.not_mem_nil hr).elim) _ trivial ?_
 refine⟨?_,trivial⟩
 all_goals
  intro e u he hc hs
  have h0:=Ku he (by decide)
  simp only [QC,Cd.holds,SX.den,cmI,PX.den,LX.den,VX.sat,List.map_cons,List.map_nil,List.append_nil,beq_iff_eq,bne_iff_ne,beq_eq_false_iff_ne,bne_eq_false_iff_eq,decide_eq_true_eq,decide_eq_false_iff_not,Bool.and_eq_true,Bool.and_eq_false_iff,ne_eq,h0]at hc hs
  rw [hs]
  refine congrArg _ ?_
  grind [QaK]
def Qdi:Con Try.prog:= .mk' ⟨108,[.l (some .i64)],.l none,true⟩
 (fun ads=>match ads with| [d1]=>True|_=>False)
 (fun ads=>match ads with| [d1]=>fun _=>0|_=>fun _=>0)
 (fun ads=>match ads with| [d1]=>fun _=>QaK (Q8 d1)|_=>fun _=>false)
 ⟨_,Try.func108,by kernel_rfl,by kernel_rfl⟩ (fun ads w hf hp=>by
   obtain⟨d1,_,rfl,f1,hf⟩:=Qf hf
   obtain rfl:=Qn hf
   show Calls _ _ #[d1.val] w _
   rw [QH f1]
   exact Qk6 (Q8 d1) w)
def Qjw:List Sg:= []
def QeK:List PX:= [.l (.n .u32 (.v 0 0))]
def QgJ:List Rw:= []
def QgH:Cfg:=⟨1,Qjw,[]⟩
def Qju:List Lf:= [⟨[],.v (.l (.t (.no (.an (.no (.c .leq (.v 0 0) (.i 127))) (.no (.c .geq (.v 0 0) (.i 4294967168)))))))⟩]
def Qjv:List Ob:= []
theorem QgI:QP Try.prog QgH 2000 Try.f115 QeK QgJ=some (Qju,Qjv):=by kernel_rfl
theorem Qh7(n:Int)(w:World):Calls Try.prog 115 #[.int .u32 n] w (Ret (.bool (KR n)) w):=by
 refine QG (C:= []) (I:= []) Qr rfl Try.func115 QgI (Qdr n) w rfl (fun r hr=>(List.not_mem_nil hr).elim) _ trivial ?_
 refine⟨?_,trivial⟩
 all_goals
  intro e u he hc hs
  have h0:=Ku he (by decide)
  simp only [QC,Cd.holds,SX.den,cmI,PX.den,LX.den,VX.sat,List.map_cons,List.map_nil,List.append_nil,beq_iff_eq,bne_iff_ne,beq_eq_false_iff_ne,bne_eq_false_iff_eq,decide_eq_true_eq,decide_eq_false_iff_not,Bool.and_eq_true,Bool.and_eq_false_iff,ne_eq,h0]at hc hs
  rw [hs]
  refine congrArg _ ?_
  grind [KR]
def Qc3:Con Try.prog:= .mk' ⟨115,[.l (some .u32)],.l none,true⟩
 (fun ads=>match ads with| [d1]=>True|_=>False)
 (fun ads=>match ads with| [d1]=>fun _=>0|_=>fun _=>0)
 (fun ads=>match ads with| [d1]=>fun _=>KR (Q8 d1)|_=>fun _=>false)
 ⟨_,Try.func115,by kernel_rfl,by kernel_rfl⟩ (fun ads w hf hp=>by
   obtain⟨d1,_,rfl,f1,hf⟩:=Qf hf
   obtain rfl:=Qn hf
   show Calls _ _ #[d1.val] w _
   rw [QH f1]
   exact Qh7 (Q8 d1) w)
def QpE:List Sg:= []
def Qjx:List PX:= [.l (.n .i64 (.v 0 0))]
def Qmt:List Rw:= []
def Qmr:Cfg:=⟨1,QpE,[]⟩
def QpC:List Lf:= [⟨[],.v (.l (.t (.an (.c .geq (.v 0 0) (.i 0)) (.c .leq (.v 0 0) (.i 14)))))⟩]
def QpD:List Ob:= []
theorem Qms:QP Try.prog Qmr 2000 Try.f111 Qjx Qmt=some (QpC,QpD):=by kernel_rfl
theorem Qo0(n:Int)(w:World):Calls Try.prog 111 #[.int .i64 n] w (Ret (.bool (Qbw n)) w):=by
 refine QG (C:= []) (I:= []) Qr rfl Try.func111 Qms (Qdr n) w rfl (fun r hr=>(List.not_mem_nil hr).elim) _ trivial ?_
 refine⟨?_,trivial⟩
 all_goals
  intro e u he hc hs
  have h0:=Ku he (by decide)
  simp only [QC,Cd.holds,SX.den,cmI,PX.den,LX.den,VX.sat,List.map_cons,List.map_nil,List.append_nil,beq_iff_eq,bne_iff_ne,beq_eq_false_iff_ne,bne_eq_false_iff_eq,decide_eq_true_eq,decide_eq_false_iff_not,Bool.and_eq_true,Bool.and_eq_false_iff,ne_eq,h0]at hc hs
  rw [hs]
  refine congrArg _ ?_
  grind [Qbw]
def QeX:Con Try.prog:= .mk' ⟨111,[.l (some .i64)],.l none,true⟩
 (fun ads=>match ads with| [d1]=>True|_=>False)
 (fun ads=>match ads with| [d1]=>fun _=>0|_=>fun _=>0)
 (fun ads=>match ads with| [d1]=>fun _=>Qbw (Q8 d1)|_=>fun _=>false)
 ⟨_,Try.func111,by kernel_rfl,by kernel_rfl⟩ (fun ads w hf hp=>by
   obtain⟨d1,_,rfl,f1,hf⟩:=Qf hf
   obtain rfl:=Qn hf
   show Calls _ _ #[d1.val] w _
   rw [QH f1]
   exact Qo0 (Q8 d1) w)
def Qmz:List Sg:= []
def QgL:List PX:= [.l (.n .i64 (.v 0 0))]
def Qj3:List Rw:= []
def Qj1:Cfg:=⟨1,Qmz,[]⟩
def Qmx:List Lf:= [⟨[],.v (.l (.t (.an (.c .geq (.v 0 0) (.i 5)) (.c .leq (.v 0 0) (.i 15)))))⟩]
def Qmy:List Ob:= []
theorem Qj2:QP Try.prog Qj1 2000 Try.f113 QgL Qj3=some (Qmx,Qmy):=by kernel_rfl
theorem Qk7(n:Int)(w:World):Calls Try.prog 113 #[.int .i64 n] w (Ret (.bool (VD n)) w):=by
 refine QG (C:= []) (I:= []) Qr rfl Try.func113 Qj2 (Qdr n) w rfl (fun r hr=>(List.not_mem_nil hr).elim) _ trivial ?_
 refine⟨?_,trivial⟩
 all_goals
  intro e u he hc hs
  have h0:=Ku he (by decide)
  simp only [QC,Cd.holds,SX.den,cmI,PX.den,LX.den,VX.sat,List.map_cons,List.map_nil,List.append_nil,beq_iff_eq,bne_iff_ne,beq_eq_false_iff_ne,bne_eq_false_iff_eq,decide_eq_true_eq,decide_eq_false_iff_not,Bool.and_eq_true,Bool.and_eq_false_iff,ne_eq,h0]at hc hs
  rw [hs]
  refine congrArg _ ?_
  grind [VD]
def XR:Con Try.prog:= .mk' ⟨113,[.l (some .i64)],.l none,true⟩
 (fun ads=>match ads with| [d1]=>True|_=>False)
 (fun ads=>match ads with| [d1]=>fun _=>0|_=>fun _=>0)
 (fun ads=>match ads with| [d1]=>fun _=>VD (Q8 d1)|_=>fun _=>false)
 ⟨_,Try.func113,by kernel_rfl,by kernel_rfl⟩ (fun ads w hf hp=>by
   obtain⟨d1,_,rfl,f1,hf⟩:=Qf hf
   obtain rfl:=Qn hf
   show Calls _ _ #[d1.val] w _
   rw [QH f1]
   exact Qk7 (Q8 d1) w)
def QeJ:List Sg:= []
def QcP:List PX:= [.l (.n .i64 (.v 0 0))]
def Qet:List Rw:= []
def Qer:Cfg:=⟨1,QeJ,[]⟩
def QeH:List Lf:= [⟨[],.v (.l (.t (.no (.an (.an (.no (.c .eql (.v 0 0) (.i 16))) (.no (.c .eql (.v 0 0) (.i 17)))) (.no (.c .eql (.v 0 0) (.i 18)))))))⟩]
def QeI:List Ob:= []
theorem Qes:QP Try.prog Qer 2000 Try.f114 QcP Qet=some (QeH,QeI):=by kernel_rfl
theorem Qe0(n:Int)(w:World):Calls Try.prog 114 #[.int .i64 n] w (Ret (.bool (XZ n)) w):=by
 refine QG (C:= []) (I:= []) Qr rfl Try.func114 Qes (Qdr n) w rfl (fun r hr=>(List.not_mem_nil hr).elim) _ trivial ?_
 refine⟨?_,trivial⟩
 all_goals
  intro e u he hc hs
  have h0:=Ku he (by decide)
  simp only [QC,Cd.holds,SX.den,cmI,PX.den,LX.den,VX.sat,List.map_cons,List.map_nil,List.append_nil,beq_iff_eq,bne_iff_ne,beq_eq_false_iff_ne,bne_eq_false_iff_eq,decide_eq_true_eq,decide_eq_false_iff_not,Bool.and_eq_true,Bool.and_eq_false_iff,ne_eq,h0]at hc hs
  rw [hs]
  refine congrArg _ ?_
  grind [XZ]
def ZP:Con Try.prog:= .mk' ⟨114,[.l (some .i64)],.l none,true⟩
 (fun ads=>match ads with| [d1]=>True|_=>False)
 (fun ads=>match ads with| [d1]=>fun _=>0|_=>fun _=>0)
 (fun ads=>match ads with| [d1]=>fun _=>XZ (Q8 d1)|_=>fun _=>false)
 ⟨_,Try.func114,by kernel_rfl,by kernel_rfl⟩ (fun ads w hf hp=>by
   obtain⟨d1,_,rfl,f1,hf⟩:=Qf hf
   obtain rfl:=Qn hf
   show Calls _ _ #[d1.val] w _
   rw [QH f1]
   exact Qe0 (Q8 d1) w)
def Qp8:List Sg:= []
def Qjm:List PX:= [.l (.n .i64 (.v 0 0))]
def Qmk:List Rw:= []
def Qmi:Cfg:=⟨1,Qp8,[]⟩
def Qp6:List Lf:= [⟨[],.v (.l (.t (.an (.an (.an (.c .geq (.v 0 0) (.i 3)) (.c .leq (.v 0 0) (.i 27))) (.c .neq (.v 0 0) (.i 20))) (.c .neq (.v 0 0) (.i 23)))))⟩]
def Qp7:List Ob:= []
theorem Qmj:QP Try.prog Qmi 2000 Try.f107 Qjm Qmk=some (Qp6,Qp7):=by kernel_rfl
theorem Qog(n:Int)(w:World):Calls Try.prog 107 #[.int .i64 n] w (Ret (.bool (Qfb n)) w):=by
 refine QG (C:= []) (I:= []) Qr rfl Try.func107 Qmj (Qdr n) w rfl (fun r hr=>(List.not_mem_nil hr).elim) _ trivial ?_
 refine⟨?_,trivial⟩
 all_goals
  intro e u he hc hs
  have h0:=Ku he (by decide)
  simp only [QC,Cd.holds,SX.den,cmI,PX.den,LX.den,VX.sat,List.map_cons,List.map_nil,List.append_nil,beq_iff_eq,bne_iff_ne,beq_eq_false_iff_ne,bne_eq_false_iff_eq,decide_eq_true_eq,decide_eq_false_iff_not,Bool.and_eq_true,Bool.and_eq_false_iff,ne_eq,h0]at hc hs
  rw [hs]
  refine congrArg _ ?_
  grind [Qfb]
def QeV:Con Try.prog:= .mk' ⟨107,[.l (some .i64)],.l none,true⟩
 (fun ads=>match ads with| [d1]=>True|_=>False)
 (fun ads=>match ads with| [d1]=>fun _=>0|_=>fun _=>0)
 (fun ads=>match ads with| [d1]=>fun _=>Qfb (Q8 d1)|_=>fun _=>false)
 ⟨_,Try.func107,by kernel_rfl,by kernel_rfl⟩ (fun ads w hf hp=>by
   obtain⟨d1,_,rfl,f1,hf⟩:=Qf hf
   obtain rfl:=Qn hf
   show Calls _ _ #[d1.val] w _
   rw [QH f1]
   exact Qog (Q8 d1) w)
def Qmq:List Sg:= []
def QgD:List PX:= [.l (.n .i64 (.v 0 0))]
def Qjq:List Rw:= []
def Qjo:Cfg:=⟨1,Qmq,[]⟩
def Qmo:List Lf:= [⟨[],.v (.l (.t (.no (.an (.no (.c .eql (.v 0 0) (.i 20))) (.no (.c .eql (.v 0 0) (.i 25)))))))⟩]
def Qmp:List Ob:= []
theorem Qjp:QP Try.prog Qjo 2000 Try.f110 QgD Qjq=some (Qmo,Qmp):=by kernel_rfl
theorem Qkv(n:Int)(w:World):Calls Try.prog 110 #[.int .i64 n] w (Ret (.bool (W7 n)) w):=by
 refine QG (C:= []) (I:= []) Qr rfl Try.func110 Qjp (Qdr n) w rfl (fun r hr=>(List.not_mem_nil hr).elim) _ trivial ?_
 refine⟨?_,trivial⟩
 all_goals
  intro e u he hc hs
  have h0:=Ku he (by decide)
  simp only [QC,Cd.holds,SX.den,cmI,PX.den,LX.den,VX.sat,List.map_cons,List.map_nil,List.append_nil,beq_iff_eq,bne_iff_ne,beq_eq_false_iff_ne,bne_eq_false_iff_eq,decide_eq_true_eq,decide_eq_false_iff_not,Bool.and_eq_true,Bool.and_eq_false_iff,ne_eq,h0]at hc hs
  rw [hs]
  refine congrArg _ ?_
  grind [W7]
def Qdh:Con Try.prog:= .mk' ⟨110,[.l (some .i64)],.l none,true⟩
 (fun ads=>match ads with| [d1]=>True|_=>False)
 (fun ads=>match ads with| [d1]=>fun _=>0|_=>fun _=>0)
 (fun ads=>match ads with| [d1]=>fun _=>W7 (Q8 d1)|_=>fun _=>false)
 ⟨_,Try.func110,by kernel_rfl,by kernel_rfl⟩ (fun ads w hf hp=>by
   obtain⟨d1,_,rfl,f1,hf⟩:=Qf hf
   obtain rfl:=Qn hf
   show Calls _ _ #[d1.val] w _
   rw [QH f1]
   exact Qkv (Q8 d1) w)
def Qfc(i:Ins):Bool:=VD i.op && decide (i.form=0) || XZ i.op || decide (i.op=19)
def Qbt(i:Ins):Bool:=VD i.op && !decide (i.form=0) || XZ i.op || decide (i.op=19) || decide (i.op=20) || decide (i.op=22) || decide (i.op=23)
def Qbs(i:Ins):Bool:=if VD i.op then decide (0≤i.form) && decide (i.form≤2)else if i.op=20 then decide (i.form=1) || decide (i.form=2)else decide (i.form=0)
def Wu(i:Ins):Bool:=if i.op=17 then decide (i.width=1) || decide (i.width=2)else if XZ i.op then decide (i.width=1) || decide (i.width=2) || decide (i.width=4)else decide (i.width=0)
def QpB:List Sg:= [⟨113,[.l (some .i64)],.l none,true⟩,⟨114,[.l (some .i64)],.l none,true⟩]
def Qjn:List PX:= [.a (Qa 0 0 Qb)]
def Qmn:List Rw:= []
def Qml:Cfg:=⟨1,QpB,[]⟩
def Qp9:List Lf:= [⟨[.f 14 1 [.l (.n .i64 (.v 0 2))],.f 5 0 [.l (.n .i64 (.v 0 2))]],.v (.l (.t (.no (.an (.an (.no (.an (.v 5 0) (.c .eql (.v 0 3) (.i 0)))) (.no (.v 14 0))) (.no (.c .eql (.v 0 2) (.i 19)))))))⟩]
def QpA:List Ob:= [.pre [] 0 [.l (.n .i64 (.v 0 2))],
 .pre [.f 5 0 [.l (.n .i64 (.v 0 2))]] 1 [.l (.n .i64 (.v 0 2))]]
theorem Qmm:QP Try.prog Qml 2000 Try.f109 Qjn Qmn=some (Qp9,QpA):=by kernel_rfl
set_option maxHeartbeats 4000000 in
theorem Qoh(i:Ins)(w:World):Calls Try.prog 109 #[i.val] w (Ret (.bool (Qfc i)) w):=by
 refine QG (C:= [XR,ZP]) (I:= []) Qr rfl Try.func109 Qmm (XX i) w rfl (fun r hr=>(List.not_mem_nil hr).elim) _ ?_ ?_
 ·refine⟨?_,?_,trivial⟩
  all_goals exact fun e he _=>trivial
 refine⟨?_,trivial⟩
 all_goals
  intro e u he hc hs
  have h0:=Zp he (by decide)
  have hi:=ZE h0
  simp only [QC,Cd.holds,SX.den,cmI,PX.den,LX.den,VX.sat,List.map_cons,List.map_nil,List.append_nil,beq_iff_eq,bne_iff_ne,beq_eq_false_iff_ne,bne_eq_false_iff_eq,decide_eq_true_eq,decide_eq_false_iff_not,Bool.and_eq_true,Bool.and_eq_false_iff,ne_eq,List.getElem?_cons_zero,List.getElem?_cons_succ,Option.some.injEq,exists_eq_left',QI,QT,Q3,QB,h0,Q9,hi,arI,XR,ZP]at hc hs
  rw [hs]
  refine congrArg _ ?_
  clear hs he
  (repeat (rcases hc with ⟨_,hc⟩))
  (simp_all [Q9,Qfc]) <;> grind
def QeW:Con Try.prog:= .mk' ⟨109,[.a Qb],.l none,true⟩
 (fun ads=>match ads with| [d1]=>True|_=>False)
 (fun ads=>match ads with| [d1]=>fun _=>0|_=>fun _=>0)
 (fun ads=>match ads with| [d1]=>fun _=>Qfc (Q0 d1)|_=>fun _=>false)
 ⟨_,Try.func109,by kernel_rfl,by kernel_rfl⟩ (fun ads w hf hp=>by
   obtain⟨d1,_,rfl,f1,hf⟩:=Qf hf
   obtain rfl:=Qn hf
   show Calls _ _ #[d1.val] w _
   rw [Zc f1]
   exact Qoh (Q0 d1) w)
def Qjt:List Sg:= [⟨113,[.l (some .i64)],.l none,true⟩,⟨114,[.l (some .i64)],.l none,true⟩]
def QeG:List PX:= [.a (Qa 0 0 Qb)]
def QgG:List Rw:= []
def QgE:Cfg:=⟨1,Qjt,[]⟩
def Qjr:List Lf:= [⟨[.f 14 1 [.l (.n .i64 (.v 0 2))],.f 5 0 [.l (.n .i64 (.v 0 2))]],.v (.l (.t (.no (.an (.an (.an (.an (.an (.no (.an (.v 5 0) (.c .neq (.v 0 3) (.i 0)))) (.no (.v 14 0))) (.no (.c .eql (.v 0 2) (.i 19)))) (.no (.c .eql (.v 0 2) (.i 20)))) (.no (.c .eql (.v 0 2) (.i 22)))) (.no (.c .eql (.v 0 2) (.i 23)))))))⟩]
def Qjs:List Ob:= [.pre [] 0 [.l (.n .i64 (.v 0 2))],
 .pre [.f 5 0 [.l (.n .i64 (.v 0 2))]] 1 [.l (.n .i64 (.v 0 2))]]
theorem QgF:QP Try.prog QgE 2000 Try.f112 QeG QgG=some (Qjr,Qjs):=by kernel_rfl
set_option maxHeartbeats 4000000 in
theorem Qh3(i:Ins)(w:World):Calls Try.prog 112 #[i.val] w (Ret (.bool (Qbt i)) w):=by
 refine QG (C:= [XR,ZP]) (I:= []) Qr rfl Try.func112 QgF (XX i) w rfl (fun r hr=>(List.not_mem_nil hr).elim) _ ?_ ?_
 ·refine⟨?_,?_,trivial⟩
  all_goals exact fun e he _=>trivial
 refine⟨?_,trivial⟩
 all_goals
  intro e u he hc hs
  have h0:=Zp he (by decide)
  have hi:=ZE h0
  simp only [QC,Cd.holds,SX.den,cmI,PX.den,LX.den,VX.sat,List.map_cons,List.map_nil,List.append_nil,beq_iff_eq,bne_iff_ne,beq_eq_false_iff_ne,bne_eq_false_iff_eq,decide_eq_true_eq,decide_eq_false_iff_not,Bool.and_eq_true,Bool.and_eq_false_iff,ne_eq,List.getElem?_cons_zero,List.getElem?_cons_succ,Option.some.injEq,exists_eq_left',QI,QT,Q3,QB,h0,Q9,hi,arI,XR,ZP]at hc hs
  rw [hs]
  refine congrArg _ ?_
  clear hs he
  (repeat (rcases hc with ⟨_,hc⟩))
  (simp_all [Q9,Qbt]) <;> grind
def Qc2:Con Try.prog:= .mk' ⟨112,[.a Qb],.l none,true⟩
 (fun ads=>match ads with| [d1]=>True|_=>False)
 (fun ads=>match ads with| [d1]=>fun _=>0|_=>fun _=>0)
 (fun ads=>match ads with| [d1]=>fun _=>Qbt (Q0 d1)|_=>fun _=>false)
 ⟨_,Try.func112,by kernel_rfl,by kernel_rfl⟩ (fun ads w hf hp=>by
   obtain⟨d1,_,rfl,f1,hf⟩:=Qf hf
   obtain rfl:=Qn hf
   show Calls _ _ #[d1.val] w _
   rw [Zc f1]
   exact Qh3 (Q0 d1) w)
def Qp5:List Sg:= [⟨113,[.l (some .i64)],.l none,true⟩]
def Qjl:List PX:= [.a (Qa 0 0 Qb)]
def Qmh:List Rw:= []
def Qmf:Cfg:=⟨1,Qp5,[]⟩
def Qp3:List Lf:=
 [⟨[.c (.v 5 0) true,.f 5 0 [.l (.n .i64 (.v 0 2))]],.v (.l (.t (.an (.c .geq (.v 0 3) (.i 0)) (.c .leq (.v 0 3) (.i 2)))))⟩,⟨[.c (.c .eql (.v 0 2) (.i 20)) true,.c (.v 5 0) false,.f 5 0 [.l (.n .i64 (.v 0 2))]],.v (.l (.t (.no (.an (.no (.c .eql (.v 0 3) (.i 1))) (.no (.c .eql (.v 0 3) (.i 2)))))))⟩,⟨[.c (.c .eql (.v 0 2) (.i 20)) false,.c (.v 5 0) false,.f 5 0 [.l (.n .i64 (.v 0 2))]],.v (.l (.t (.c .eql (.v 0 3) (.i 0))))⟩]
def Qp4:List Ob:= [.pre [] 0 [.l (.n .i64 (.v 0 2))]]
theorem Qmg:QP Try.prog Qmf 2000 Try.f105 Qjl Qmh=some (Qp3,Qp4):=by kernel_rfl
set_option maxHeartbeats 4000000 in
theorem Qod(i:Ins)(w:World):Calls Try.prog 105 #[i.val] w (Ret (.bool (Qbs i)) w):=by
 refine QG (C:= [XR]) (I:= []) Qr rfl Try.func105 Qmg (XX i) w rfl (fun r hr=>(List.not_mem_nil hr).elim) _ ?_ ?_
 ·refine⟨?_,trivial⟩
  all_goals exact fun e he _=>trivial
 refine⟨?_,?_,?_,trivial⟩
 all_goals
  intro e u he hc hs
  have h0:=Zp he (by decide)
  have hi:=ZE h0
  simp only [QC,Cd.holds,SX.den,cmI,PX.den,LX.den,VX.sat,List.map_cons,List.map_nil,List.append_nil,beq_iff_eq,bne_iff_ne,beq_eq_false_iff_ne,bne_eq_false_iff_eq,decide_eq_true_eq,decide_eq_false_iff_not,Bool.and_eq_true,Bool.and_eq_false_iff,ne_eq,List.getElem?_cons_zero,List.getElem?_cons_succ,Option.some.injEq,exists_eq_left',QI,QT,Q3,QB,h0,Q9,hi,arI,XR]at hc hs
  rw [hs]
  refine congrArg _ ?_
  clear hs he
  (repeat (rcases hc with ⟨_,hc⟩))
  (simp_all [Q9,Qbs]) <;> grind
def QeU:Con Try.prog:= .mk' ⟨105,[.a Qb],.l none,true⟩
 (fun ads=>match ads with| [d1]=>True|_=>False)
 (fun ads=>match ads with| [d1]=>fun _=>0|_=>fun _=>0)
 (fun ads=>match ads with| [d1]=>fun _=>Qbs (Q0 d1)|_=>fun _=>false)
 ⟨_,Try.func105,by kernel_rfl,by kernel_rfl⟩ (fun ads w hf hp=>by
   obtain⟨d1,_,rfl,f1,hf⟩:=Qf hf
   obtain rfl:=Qn hf
   show Calls _ _ #[d1.val] w _
   rw [Zc f1]
   exact Qod (Q0 d1) w)
def QmB:List Sg:= [⟨114,[.l (some .i64)],.l none,true⟩]
def QgQ:List PX:= [.a (Qa 0 0 Qb)]
def QjE:List Rw:= []
def QjC:Cfg:=⟨1,QmB,[]⟩
def Qm9:List Lf:=
 [⟨[.c (.c .eql (.v 0 2) (.i 17)) true],.v (.l (.t (.no (.an (.no (.c .eql (.v 0 4) (.i 1))) (.no (.c .eql (.v 0 4) (.i 2)))))))⟩,⟨[.c (.v 8 0) true,.f 8 0 [.l (.n .i64 (.v 0 2))],.c (.c .eql (.v 0 2) (.i 17)) false],.v (.l (.t (.no (.an (.an (.no (.c .eql (.v 0 4) (.i 1))) (.no (.c .eql (.v 0 4) (.i 2)))) (.no (.c .eql (.v 0 4) (.i 4)))))))⟩,⟨[.c (.v 8 0) false,.f 8 0 [.l (.n .i64 (.v 0 2))],.c (.c .eql (.v 0 2) (.i 17)) false],.v (.l (.t (.c .eql (.v 0 4) (.i 0))))⟩]
def QmA:List Ob:= [.pre [.c (.c .eql (.v 0 2) (.i 17)) false] 0 [.l (.n .i64 (.v 0 2))]]
theorem QjD:QP Try.prog QjC 2000 Try.f106 QgQ QjE=some (Qm9,QmA):=by kernel_rfl
set_option maxHeartbeats 4000000 in
theorem Qlx(i:Ins)(w:World):Calls Try.prog 106 #[i.val] w (Ret (.bool (Wu i)) w):=by
 refine QG (C:= [ZP]) (I:= []) Qr rfl Try.func106 QjD (XX i) w rfl (fun r hr=>(List.not_mem_nil hr).elim) _ ?_ ?_
 ·refine⟨?_,trivial⟩
  all_goals exact fun e he _=>trivial
 refine⟨?_,?_,?_,trivial⟩
 all_goals
  intro e u he hc hs
  have h0:=Zp he (by decide)
  have hi:=ZE h0
  simp only [QC,Cd.holds,SX.den,cmI,PX.den,LX.den,VX.sat,List.map_cons,List.map_nil,List.append_nil,beq_iff_eq,bne_iff_ne,beq_eq_false_iff_ne,bne_eq_false_iff_eq,decide_eq_true_eq,decide_eq_false_iff_not,Bool.and_eq_true,Bool.and_eq_false_iff,ne_eq,List.getElem?_cons_zero,List.getElem?_cons_succ,Option.some.injEq,exists_eq_left',QI,QT,Q3,QB,h0,Q9,hi,arI,ZP]at hc hs
  rw [hs]
  refine congrArg _ ?_
  clear hs he
  (repeat (rcases hc with ⟨_,hc⟩))
  (simp_all [Q9,Wu]) <;> grind
def Qdl:Con Try.prog:= .mk' ⟨106,[.a Qb],.l none,true⟩
 (fun ads=>match ads with| [d1]=>True|_=>False)
 (fun ads=>match ads with| [d1]=>fun _=>0|_=>fun _=>0)
 (fun ads=>match ads with| [d1]=>fun _=>Wu (Q0 d1)|_=>fun _=>false)
 ⟨_,Try.func106,by kernel_rfl,by kernel_rfl⟩ (fun ads w hf hp=>by
   obtain⟨d1,_,rfl,f1,hf⟩:=Qf hf
   obtain rfl:=Qn hf
   show Calls _ _ #[d1.val] w _
   rw [Zc f1]
   exact Qlx (Q0 d1) w)
def Qga(i:Ins):Int:=
 if i.op < 0∨27 < i.op∨Qbs i=false∨Wu i=false then 2
 else if(Qfb i.op=true∧QaK i.a=false)∨(Qfb i.op=false∧¬i.a=0)∨(Qfc i=true∧QaK i.b=false)∨(Qfc i=false∧¬i.b=0)then 2
 else if(W7 i.op=true∧Qbw i.cc=false)∨(W7 i.op=false∧¬i.cc=0)∨(Qbt i=false∧¬i.imm=0)then 2
 else if(VD i.op=true∧i.form=1∨XZ i.op=true∨i.op=19)∧KR i.imm=false then 7
 else if i.op=20∧i.form=1∧KR (IntKind.u32.wrap (IntKind.u32.wrap (i.imm - i.addr) - 2))=false then 7 else 0
def Qmd:List Sg:= [⟨113,[.l (some .i64)],.l none,true⟩,⟨114,[.l (some .i64)],.l none,true⟩,⟨107,[.l (some .i64)],.l none,true⟩,⟨110,[.l (some .i64)],.l none,true⟩,⟨108,[.l (some .i64)],.l none,true⟩,⟨115,[.l (some .u32)],.l none,true⟩,⟨111,[.l (some .i64)],.l none,true⟩,⟨109,[.a Qb],.l none,true⟩,⟨112,[.a Qb],.l none,true⟩,⟨105,[.a Qb],.l none,true⟩,⟨106,[.a Qb],.l none,true⟩]
def QgC:List PX:= [.a (Qa 0 0 Qb)]
def Qjk:List Rw:= []
def Qji:Cfg:=⟨1,Qmd,[]⟩
def Qmb:List Lf:=
 let z0:PX:= .a (Qa 0 0 Qb)
 let z1:VX:= .v (.l (.n .i64 (.i 2)))
 let z2:PX:= .l (.n .i64 (.v 0 2))
 let z3:SX:= .c .eql (.v 0 3) (.i 1)
 let z4:VX:= .v (.l (.n .i64 (.i 7)))
 [⟨[.c (.an (.an (.an (.no (.c .lss (.v 0 2) (.i 0))) (.no (.c .gtr (.v 0 2) (.i 27)))) (.v 13 0)) (.v 18 0)) false,.f 18 10 [z0],.f 13 9 [z0]],z1⟩,⟨[.c (.an (.an (.an (.no (.an (.v 23 0) (.no (.v 27 0)))) (.no (.an (.no (.v 23 0)) (.c .neq (.v 0 6) (.i 0))))) (.no (.an (.v 43 0) (.no (.v 47 0))))) (.no (.an (.no (.v 43 0)) (.c .neq (.v 0 7) (.i 0))))) false,.f 47 4 [.l (.n .i64 (.v 0 7))],.f 43 7 [z0],.f 27 4 [.l (.n .i64 (.v 0 6))],.f 23 2 [z2],.c (.c .lss (.v 0 2) (.i 0)) false,.c (.c .gtr (.v 0 2) (.i 27)) false,.c (.v 13 0) true,.c (.v 18 0) true,.f 18 10 [z0],.f 13 9 [z0]],z1⟩,⟨[.c (.an (.an (.no (.an (.v 63 0) (.no (.v 67 0)))) (.no (.an (.no (.v 63 0)) (.c .neq (.v 0 5) (.i 0))))) (.no (.an (.no (.v 83 0)) (.c .neq (.v 0 1) (.i 0))))) false,.f 83 8 [z0],.f 67 6 [.l (.n .i64 (.v 0 5))],.f 63 3 [z2],.c (.an (.v 23 0) (.no (.v 27 0))) false,.c (.an (.no (.v 23 0)) (.c .neq (.v 0 6) (.i 0))) false,.c (.an (.v 43 0) (.no (.v 47 0))) false,.c (.an (.no (.v 43 0)) (.c .neq (.v 0 7) (.i 0))) false,.f 47 4 [.l (.n .i64 (.v 0 7))],.f 43 7 [z0],.f 27 4 [.l (.n .i64 (.v 0 6))],.f 23 2 [z2],.c (.c .lss (.v 0 2) (.i 0)) false,.c (.c .gtr (.v 0 2) (.i 27)) false,.c (.v 13 0) true,.c (.v 18 0) true,.f 18 10 [z0],.f 13 9 [z0]],z1⟩,⟨[.c (.v 111 0) false,.f 111 5 [.l (.n .u32 (.v 0 1))],.c (.an (.an (.no (.an (.v 93 0) z3)) (.no (.v 102 0))) (.no (.c .eql (.v 0 2) (.i 19)))) false,.f 102 1 [z2],.f 93 0 [z2],.c (.an (.v 63 0) (.no (.v 67 0))) false,.c (.an (.no (.v 63 0)) (.c .neq (.v 0 5) (.i 0))) false,.c (.an (.no (.v 83 0)) (.c .neq (.v 0 1) (.i 0))) false,.f 83 8 [z0],.f 67 6 [.l (.n .i64 (.v 0 5))],.f 63 3 [z2],.c (.an (.v 23 0) (.no (.v 27 0))) false,.c (.an (.no (.v 23 0)) (.c .neq (.v 0 6) (.i 0))) false,.c (.an (.v 43 0) (.no (.v 47 0))) false,.c (.an (.no (.v 43 0)) (.c .neq (.v 0 7) (.i 0))) false,.f 47 4 [.l (.n .i64 (.v 0 7))],.f 43 7 [z0],.f 27 4 [.l (.n .i64 (.v 0 6))],.f 23 2 [z2],.c (.c .lss (.v 0 2) (.i 0)) false,.c (.c .gtr (.v 0 2) (.i 27)) false,.c (.v 13 0) true,.c (.v 18 0) true,.f 18 10 [z0],.f 13 9 [z0]],z4⟩,⟨[.c (.c .eql (.v 0 2) (.i 20)) true,.c z3 true,.c (.v 128 0) false,.f 128 5 [.l (.n .u32 (.o .sub .u32 (.o .sub .u32 (.v 0 1) (.v 0 0)) (.i 2)))],.c (.v 111 0) true,.f 111 5 [.l (.n .u32 (.v 0 1))],.c (.an (.an (.no (.an (.v 93 0) z3)) (.no (.v 102 0))) (.no (.c .eql (.v 0 2) (.i 19)))) false,.f 102 1 [z2],.f 93 0 [z2],.c (.an (.v 63 0) (.no (.v 67 0))) false,.c (.an (.no (.v 63 0)) (.c .neq (.v 0 5) (.i 0))) false,.c (.an (.no (.v 83 0)) (.c .neq (.v 0 1) (.i 0))) false,.f 83 8 [z0],.f 67 6 [.l (.n .i64 (.v 0 5))],.f 63 3 [z2],.c (.an (.v 23 0) (.no (.v 27 0))) false,.c (.an (.no (.v 23 0)) (.c .neq (.v 0 6) (.i 0))) false,.c (.an (.v 43 0) (.no (.v 47 0))) false,.c (.an (.no (.v 43 0)) (.c .neq (.v 0 7) (.i 0))) false,.f 47 4 [.l (.n .i64 (.v 0 7))],.f 43 7 [z0],.f 27 4 [.l (.n .i64 (.v 0 6))],.f 23 2 [z2],.c (.c .lss (.v 0 2) (.i 0)) false,.c (.c .gtr (.v 0 2) (.i 27)) false,.c (.v 13 0) true,.c (.v 18 0) true,.f 18 10 [z0],.f 13 9 [z0]],z4⟩,⟨[.c (.an (.an (.c .eql (.v 0 2) (.i 20)) z3) (.no (.v 128 0))) false,.f 128 5 [.l (.n .u32 (.o .sub .u32 (.o .sub .u32 (.v 0 1) (.v 0 0)) (.i 2)))],.c (.v 111 0) true,.f 111 5 [.l (.n .u32 (.v 0 1))],.c (.an (.an (.no (.an (.v 93 0) z3)) (.no (.v 102 0))) (.no (.c .eql (.v 0 2) (.i 19)))) false,.f 102 1 [z2],.f 93 0 [z2],.c (.an (.v 63 0) (.no (.v 67 0))) false,.c (.an (.no (.v 63 0)) (.c .neq (.v 0 5) (.i 0))) false,.c (.an (.no (.v 83 0)) (.c .neq (.v 0 1) (.i 0))) false,.f 83 8 [z0],.f 67 6 [.l (.n .i64 (.v 0 5))],.f 63 3 [z2],.c (.an (.v 23 0) (.no (.v 27 0))) false,.c (.an (.no (.v 23 0)) (.c .neq (.v 0 6) (.i 0))) false,.c (.an (.v 43 0) (.no (.v 47 0))) false,.c (.an (.no (.v 43 0)) (.c .neq (.v 0 7) (.i 0))) false,.f 47 4 [.l (.n .i64 (.v 0 7))],.f 43 7 [z0],.f 27 4 [.l (.n .i64 (.v 0 6))],.f 23 2 [z2],.c (.c .lss (.v 0 2) (.i 0)) false,.c (.c .gtr (.v 0 2) (.i 27)) false,.c (.v 13 0) true,.c (.v 18 0) true,.f 18 10 [z0],.f 13 9 [z0]],.v (.l (.n .i64 (.i 0)))⟩,⟨[.c (.c .eql (.v 0 2) (.i 20)) true,.c z3 true,.c (.v 124 0) false,.f 124 5 [.l (.n .u32 (.o .sub .u32 (.o .sub .u32 (.v 0 1) (.v 0 0)) (.i 2)))],.c (.an (.v 93 0) z3) false,.c (.v 102 0) false,.c (.c .eql (.v 0 2) (.i 19)) false,.f 102 1 [z2],.f 93 0 [z2],.c (.an (.v 63 0) (.no (.v 67 0))) false,.c (.an (.no (.v 63 0)) (.c .neq (.v 0 5) (.i 0))) false,.c (.an (.no (.v 83 0)) (.c .neq (.v 0 1) (.i 0))) false,.f 83 8 [z0],.f 67 6 [.l (.n .i64 (.v 0 5))],.f 63 3 [z2],.c (.an (.v 23 0) (.no (.v 27 0))) false,.c (.an (.no (.v 23 0)) (.c .neq (.v 0 6) (.i 0))) false,.c (.an (.v 43 0) (.no (.v 47 0))) false,.c (.an (.no (.v 43 0)) (.c .neq (.v 0 7) (.i 0))) false,.f 47 4 [.l (.n .i64 (.v 0 7))],.f 43 7 [z0],.f 27 4 [.l (.n .i64 (.v 0 6))],.f 23 2 [z2],.c (.c .lss (.v 0 2) (.i 0)) false,.c (.c .gtr (.v 0 2) (.i 27)) false,.c (.v 13 0) true,.c (.v 18 0) true,.f 18 10 [z0],.f 13 9 [z0]],z4⟩,⟨[.c (.an (.an (.c .eql (.v 0 2) (.i 20)) z3) (.no (.v 124 0))) false,.f 124 5 [.l (.n .u32 (.o .sub .u32 (.o .sub .u32 (.v 0 1) (.v 0 0)) (.i 2)))],.c (.an (.v 93 0) z3) false,.c (.v 102 0) false,.c (.c .eql (.v 0 2) (.i 19)) false,.f 102 1 [z2],.f 93 0 [z2],.c (.an (.v 63 0) (.no (.v 67 0))) false,.c (.an (.no (.v 63 0)) (.c .neq (.v 0 5) (.i 0))) false,.c (.an (.no (.v 83 0)) (.c .neq (.v 0 1) (.i 0))) false,.f 83 8 [z0],.f 67 6 [.l (.n .i64 (.v 0 5))],.f 63 3 [z2],.c (.an (.v 23 0) (.no (.v 27 0))) false,.c (.an (.no (.v 23 0)) (.c .neq (.v 0 6) (.i 0))) false,.c (.an (.v 43 0) (.no (.v 47 0))) false,.c (.an (.no (.v 43 0)) (.c .neq (.v 0 7) (.i 0))) false,.f 47 4 [.l (.n .i64 (.v 0 7))],.f 43 7 [z0],.f 27 4 [.l (.n .i64 (.v 0 6))],.f 23 2 [z2],.c (.c .lss (.v 0 2) (.i 0)) false,.c (.c .gtr (.v 0 2) (.i 27)) false,.c (.v 13 0) true,.c (.v 18 0) true,.f 18 10 [z0],.f 13 9 [z0]],.v (.l (.n .i64 (.i 0)))⟩]
def Qmc:List Ob:=
 let z0:PX:= .a (Qa 0 0 Qb)
 let z1:PX:= .l (.n .i64 (.v 0 2))
 let z2:List Cd:= [.f 27 4 [.l (.n .i64 (.v 0 6))],.f 23 2 [z1],.c (.c .lss (.v 0 2) (.i 0)) false,.c (.c .gtr (.v 0 2) (.i 27)) false,.c (.v 13 0) true,.c (.v 18 0) true,.f 18 10 [z0],.f 13 9 [z0]]
 let z3:List Cd:=(.f 67 6 [.l (.n .i64 (.v 0 5))] :: .f 63 3 [z1] :: .c (.an (.v 23 0) (.no (.v 27 0))) false :: .c (.an (.no (.v 23 0)) (.c .neq (.v 0 6) (.i 0))) false :: .c (.an (.v 43 0) (.no (.v 47 0))) false :: .c (.an (.no (.v 43 0)) (.c .neq (.v 0 7) (.i 0))) false :: .f 47 4 [.l (.n .i64 (.v 0 7))] :: .f 43 7 [z0] :: z2)
 [.pre [] 9 [z0],.pre [.f 13 9 [z0]] 10 [z0],.pre [.c (.c .lss (.v 0 2) (.i 0)) false,.c (.c .gtr (.v 0 2) (.i 27)) false,.c (.v 13 0) true,.c (.v 18 0) true,.f 18 10 [z0],.f 13 9 [z0]] 2 [z1],.pre [.f 23 2 [z1],.c (.c .lss (.v 0 2) (.i 0)) false,.c (.c .gtr (.v 0 2) (.i 27)) false,.c (.v 13 0) true,.c (.v 18 0) true,.f 18 10 [z0],.f 13 9 [z0]] 4 [.l (.n .i64 (.v 0 6))],.pre z2 2 [z1],.pre z2 7 [z0],.pre (.f 43 7 [z0] :: z2) 4 [.l (.n .i64 (.v 0 7))],.pre (.f 47 4 [.l (.n .i64 (.v 0 7))] :: .f 43 7 [z0] :: z2) 7 [z0],.pre (.c (.an (.v 23 0) (.no (.v 27 0))) false :: .c (.an (.no (.v 23 0)) (.c .neq (.v 0 6) (.i 0))) false :: .c (.an (.v 43 0) (.no (.v 47 0))) false :: .c (.an (.no (.v 43 0)) (.c .neq (.v 0 7) (.i 0))) false :: .f 47 4 [.l (.n .i64 (.v 0 7))] :: .f 43 7 [z0] :: z2) 3 [z1],.pre (.f 63 3 [z1] :: .c (.an (.v 23 0) (.no (.v 27 0))) false :: .c (.an (.no (.v 23 0)) (.c .neq (.v 0 6) (.i 0))) false :: .c (.an (.v 43 0) (.no (.v 47 0))) false :: .c (.an (.no (.v 43 0)) (.c .neq (.v 0 7) (.i 0))) false :: .f 47 4 [.l (.n .i64 (.v 0 7))] :: .f 43 7 [z0] :: z2) 6 [.l (.n .i64 (.v 0 5))],.pre z3 3 [z1],.pre z3 8 [z0],.pre (.c (.an (.v 63 0) (.no (.v 67 0))) false :: .c (.an (.no (.v 63 0)) (.c .neq (.v 0 5) (.i 0))) false :: .c (.an (.no (.v 83 0)) (.c .neq (.v 0 1) (.i 0))) false :: .f 83 8 [z0] :: z3) 0 [z1],.pre (.f 93 0 [z1] :: .c (.an (.v 63 0) (.no (.v 67 0))) false :: .c (.an (.no (.v 63 0)) (.c .neq (.v 0 5) (.i 0))) false :: .c (.an (.no (.v 83 0)) (.c .neq (.v 0 1) (.i 0))) false :: .f 83 8 [z0] :: z3) 1 [z1],.pre (.c (.an (.an (.no (.an (.v 93 0) (.c .eql (.v 0 3) (.i 1)))) (.no (.v 102 0))) (.no (.c .eql (.v 0 2) (.i 19)))) false :: .f 102 1 [z1] :: .f 93 0 [z1] :: .c (.an (.v 63 0) (.no (.v 67 0))) false :: .c (.an (.no (.v 63 0)) (.c .neq (.v 0 5) (.i 0))) false :: .c (.an (.no (.v 83 0)) (.c .neq (.v 0 1) (.i 0))) false :: .f 83 8 [z0] :: z3) 5 [.l (.n .u32 (.v 0 1))],.pre (.c (.v 111 0) true :: .f 111 5 [.l (.n .u32 (.v 0 1))] :: .c (.an (.an (.no (.an (.v 93 0) (.c .eql (.v 0 3) (.i 1)))) (.no (.v 102 0))) (.no (.c .eql (.v 0 2) (.i 19)))) false :: .f 102 1 [z1] :: .f 93 0 [z1] :: .c (.an (.v 63 0) (.no (.v 67 0))) false :: .c (.an (.no (.v 63 0)) (.c .neq (.v 0 5) (.i 0))) false :: .c (.an (.no (.v 83 0)) (.c .neq (.v 0 1) (.i 0))) false :: .f 83 8 [z0] :: z3) 5 [.l (.n .u32 (.o .sub .u32 (.o .sub .u32 (.v 0 1) (.v 0 0)) (.i 2)))],.pre (.c (.an (.v 93 0) (.c .eql (.v 0 3) (.i 1))) false :: .c (.v 102 0) false :: .c (.c .eql (.v 0 2) (.i 19)) false :: .f 102 1 [z1] :: .f 93 0 [z1] :: .c (.an (.v 63 0) (.no (.v 67 0))) false :: .c (.an (.no (.v 63 0)) (.c .neq (.v 0 5) (.i 0))) false :: .c (.an (.no (.v 83 0)) (.c .neq (.v 0 1) (.i 0))) false :: .f 83 8 [z0] :: z3) 5 [.l (.n .u32 (.o .sub .u32 (.o .sub .u32 (.v 0 1) (.v 0 0)) (.i 2)))]]
theorem Qjj:QP Try.prog Qji 2000 Try.f67 QgC Qjk=some (Qmb,Qmc):=by kernel_rfl
set_option maxHeartbeats 4000000 in
theorem Qkl(i:Ins)(w:World):Calls Try.prog 67 #[i.val] w (Ret (.int .i64 (Qga i)) w):=by
 refine QG (C:= [XR,ZP,QeV,Qdh,Qdi,Qc3,QeX,QeW,Qc2,QeU,Qdl]) (I:= []) Qr rfl Try.func67 Qjj (XX i) w rfl (fun r hr=>(List.not_mem_nil hr).elim) _ ?_ ?_
 ·refine⟨?_,?_,?_,?_,?_,?_,?_,?_,?_,?_,?_,?_,?_,?_,?_,?_,?_,trivial⟩
  all_goals exact fun e he _=>trivial
 refine⟨?_,?_,?_,?_,?_,?_,?_,?_,trivial⟩
 all_goals
  intro e u he hc hs
  have h0:=Zp he (by decide)
  have hi:=ZE h0
  simp only [QC,Cd.holds,SX.den,cmI,PX.den,LX.den,VX.sat,List.map_cons,List.map_nil,List.append_nil,beq_iff_eq,bne_iff_ne,beq_eq_false_iff_ne,bne_eq_false_iff_eq,decide_eq_true_eq,decide_eq_false_iff_not,Bool.and_eq_true,Bool.and_eq_false_iff,ne_eq,List.getElem?_cons_zero,List.getElem?_cons_succ,Option.some.injEq,exists_eq_left',QI,QT,Q3,QB,h0,Q9,hi,arI,XR,ZP,QeV,Qdh,Qdi,Qc3,QeX,QeW,Qc2,QeU,Qdl]at hc hs
  rw [hs]
  refine congrArg _ ?_
  clear hs he
  (repeat (rcases hc with ⟨_,hc⟩))
  (simp_all [Q9,Qga]) <;> grind
def Qdg:Con Try.prog:= .mk' ⟨67,[.a Qb],.l (some .i64),true⟩
 (fun ads=>match ads with| [d1]=>True|_=>False)
 (fun ads=>match ads with| [d1]=>fun _=>Qga (Q0 d1)|_=>fun _=>0)
 (fun ads=>match ads with| [d1]=>fun _=>false|_=>fun _=>false)
 ⟨_,Try.func67,by kernel_rfl,by kernel_rfl⟩ (fun ads w hf hp=>by
   obtain⟨d1,_,rfl,f1,hf⟩:=Qf hf
   obtain rfl:=Qn hf
   show Calls _ _ #[d1.val] w _
   rw [Zc f1]
   exact Qkl (Q0 d1) w)
def Qj(i:Ins):Bool:=Qga i==0
def Qm8:List Sg:= [⟨67,[.a Qb],.l (some .i64),true⟩]
def QgP:List PX:= [.a (Qa 0 0 Qb)]
def QjB:List Rw:= []
def Qj9:Cfg:=⟨1,Qm8,[]⟩
def Qm6:List Lf:= [⟨[.f 4 0 [.a (Qa 0 0 Qb)]],.v (.l (.t (.c .eql (.v 4 0) (.i 0))))⟩]
def Qm7:List Ob:= [.pre [] 0 [.a (Qa 0 0 Qb)]]
theorem QjA:QP Try.prog Qj9 2000 Try.f25 QgP QjB=some (Qm6,Qm7):=by kernel_rfl
set_option maxHeartbeats 4000000 in
theorem Qlr(i:Ins)(w:World):Calls Try.prog 25 #[i.val] w (Ret (.bool (Qj i)) w):=by
 refine QG (C:= [Qdg]) (I:= []) Qr rfl Try.func25 QjA (XX i) w rfl (fun r hr=>(List.not_mem_nil hr).elim) _ ?_ ?_
 ·refine⟨?_,trivial⟩
  all_goals exact fun e he _=>trivial
 refine⟨?_,trivial⟩
 all_goals
  intro e u he hc hs
  have h0:=Zp he (by decide)
  have hi:=ZE h0
  simp only [QC,Cd.holds,SX.den,cmI,PX.den,LX.den,VX.sat,List.map_cons,List.map_nil,List.append_nil,beq_iff_eq,bne_iff_ne,beq_eq_false_iff_ne,bne_eq_false_iff_eq,decide_eq_true_eq,decide_eq_false_iff_not,Bool.and_eq_true,Bool.and_eq_false_iff,ne_eq,List.getElem?_cons_zero,List.getElem?_cons_succ,Option.some.injEq,exists_eq_left',QI,QT,Q3,QB,h0,Q9,hi,arI,Qdg]at hc hs
  rw [hs]
  refine congrArg _ ?_
  clear hs he
  (repeat (rcases hc with ⟨_,hc⟩))
  (simp_all [Q9,Qj]) <;> grind
def KF:Con Try.prog:= .mk' ⟨25,[.a Qb],.l none,true⟩
 (fun ads=>match ads with| [d1]=>True|_=>False)
 (fun ads=>match ads with| [d1]=>fun _=>0|_=>fun _=>0)
 (fun ads=>match ads with| [d1]=>fun _=>Qj (Q0 d1)|_=>fun _=>false)
 ⟨_,Try.func25,by kernel_rfl,by kernel_rfl⟩ (fun ads w hf hp=>by
   obtain⟨d1,_,rfl,f1,hf⟩:=Qf hf
   obtain rfl:=Qn hf
   show Calls _ _ #[d1.val] w _
   rw [Zc f1]
   exact Qlr (Q0 d1) w)
end Go.Proofs.Yteplnamfpodmlaa
end
section
namespace Go.Proofs.Yteplnamfpodmlaa
set_option maxHeartbeats 8000000 in
theorem Qen(i:Ins):YF i=Qj i:=by
 obtain⟨addr,imm,op,form,width,cc,a,b,size⟩:=i
 unfold YF Qj
 rw [Bool.eq_iff_iff,beq_iff_eq,beq_iff_eq]
 by_cases h:0≤op∧op≤27
 ·have h2:op=0∨op=1∨op=2∨op=3∨op=4∨op=5∨op=6∨op=7∨op=8∨op=9∨op=10∨op=11∨op=12∨op=13∨op=14∨op=15∨op=16∨op=17∨op=18∨op=19∨op=20∨op=21∨op=22∨op=23∨op=24∨op=25∨op=26∨op=27:=by omega
  clear h
  rcases h2 with rfl|rfl|rfl|rfl|rfl|rfl|rfl|rfl|rfl|rfl|rfl|rfl|rfl|rfl|rfl|rfl|rfl|rfl|rfl|rfl|rfl|rfl|rfl|rfl|rfl|rfl|rfl|rfl
  all_goals rcases (by omega:form=0∨form=1∨form=2∨(¬form=0∧¬form=1∧¬form=2))with rfl|rfl|rfl|⟨f0,f1,f2⟩
  all_goals rcases (by omega:width=0∨width=1∨width=2∨width=4∨(¬width=0∧¬width=1∧¬width=2∧¬width=4))with rfl|rfl|rfl|rfl|⟨w0,w1,w2,w4⟩
  all_goals
   simp [*,V7,Qga,QhS,XP,QhF,Ins.mk.injEq,QaK,QbN,Qc4,YZ,Qbs,Wu,Qfb,Qfc,W7,Qbt,VD,XZ,Qbw,QfM]
  all_goals first|done|grind|(rcases (by omega:cc < 0∨14 < cc∨(¬cc < 0∧¬14 < cc))with c0|c0|⟨c0,c1⟩ <;> (simp [*,Qbw]) <;> grind)
 ·have h1:QhS ⟨addr,imm,op,form,width,cc,a,b,size⟩=false:=by
   simp only [QhS]
   rw [if_neg (by omega),if_neg (by omega),if_neg (by omega),if_neg (by omega),if_neg (by omega),if_neg (by omega),if_neg (by omega),if_neg (by omega),if_neg (by omega),if_neg (by omega)]
  have e1:V7 ⟨addr,imm,op,form,width,cc,a,b,size⟩=2:=by unfold V7;rw [if_pos (Or.inl h1)]
  have e2:Qga ⟨addr,imm,op,form,width,cc,a,b,size⟩=2:=by
   unfold Qga
   rw [if_pos]
   by_cases h0:op < 0
   ·exact Or.inl h0
   ·exact Or.inr (Or.inl (by show 27 < op;omega))
  rw [e1,e2]
end Go.Proofs.Yteplnamfpodmlaa
end
