/-
  Part of the proof.
-/
import Derived.Test.YteplnamfpodmlaaRSx
set_option linter.unusedVariables false
set_option linter.unusedSimpArgs false
set_option maxRecDepth 100000
open Go.ChangeShapes Go.WideShapes Go.ChangeAt Go.RowKit
namespace Go.Proofs.Yteplnamfpodmlaa
theorem Qr:Try.prog.follows .mixedOrders=true:=by kernel_rfl
def Qht:Env:=⟨fun _ _=>0,fun _ _=>false,fun _=>0,fun _=>none⟩
def XX(i:Ins):Env:=⟨fun d=>match d with|0=>Q9 i|_=>fun _=>0,fun _ _=>false,fun _=>0,fun _=>none⟩
def Qnv(i:Ins)(n:Int):Env:=⟨fun d=>match d with|0=>Q9 i|1=>fun _=>n|_=>fun _=>0,fun _ _=>false,fun _=>0,fun _=>none⟩
def Qdr(n:Int):Env:=⟨fun d=>match d with|0=>fun _=>n|_=>fun _=>0,fun _ _=>false,fun _=>0,fun _=>none⟩
theorem Zp{i:Ins}{e:Env}{n:Nat}(h:Env.agr n (XX i) e)(hn:0 < n):e.int 0=Q9 i:=(h 0 hn).1
theorem Ku{x:Int}{e:Env}{n:Nat}(h:Env.agr n (Qdr x) e)(hn:0 < n):e.int 0=fun _=>x:=(h 0 hn).1
theorem Qhu{i:Ins}{x:Int}{e:Env}{n:Nat}(h:Env.agr n (Qnv i x) e)(hn:1 < n):e.int 0=Q9 i∧e.int 1=fun _=>x:=⟨(h 0 (by omega)).1,(h 1 hn).1⟩
theorem Qvq{a b a' b':Value}(h1:a=a')(h2:b=b'):Value.tuple #[a,b]= .tuple #[a',b']:=by rw [h1,h2]
theorem Qt9{a b c a' b' c':Value}(h1:a=a')(h2:b=b')(h3:c=c'):Value.tuple #[a,b,c]= .tuple #[a',b',c']:=by rw [h1,h2,h3]
def QaK(n:Int):Bool:=decide (0≤n) && decide (n < 8)
def QtF:List Sg:= []
def Qpw:List PX:= [.l (.n .i64 (.v 0 0))]
def Qs9:List Rw:= []
def Qs7:Cfg:=⟨1,QtF,[]⟩
def QtD:List Lf:= [⟨[],.v (.l (.t (.an (.c .geq (.v 0 0) (.i 0)) (.c .lss (.v 0 0) (.i 8)))))⟩]
def QtE:List Ob:= []
theorem Qs8:QP Try.prog Qs7 2000 Try.f131 Qpw Qs9=some (QtD,QtE):=by kernel_rfl
theorem Qgb(n:Int)(w:World):Calls Try.prog 131 #[.int .i64 n] w (Ret (.bool (QaK n)) w):=by
 refine QG (C:= []) (I:= []) Qr rfl Try.func131 Qs8 (Qdr n) w rfl (fun r hr=>(List.not_mem_nil hr).elim) _ trivial ?_
 refine⟨?_,trivial⟩
 all_goals
  intro e u he hc hs
  have h0:=Ku he (by decide)
  simp only [QC,Cd.holds,SX.den,cmI,PX.den,LX.den,VX.sat,List.map_cons,List.map_nil,List.append_nil,beq_iff_eq,bne_iff_ne,beq_eq_false_iff_ne,bne_eq_false_iff_eq,decide_eq_true_eq,decide_eq_false_iff_not,Bool.and_eq_true,Bool.and_eq_false_iff,ne_eq,h0]at hc hs
  rw [hs]
  refine congrArg _ ?_
  grind [QaK]
def KR(n:Int):Bool:=decide (n≤127) || decide (4294967168≤n)
def QlH:List Sg:= []
def Qgx:List PX:= [.l (.n .u32 (.v 0 0))]
def QiM:List Rw:= []
def QiK:Cfg:=⟨1,QlH,[]⟩
def QlF:List Lf:= [⟨[],.v (.l (.t (.no (.an (.no (.c .leq (.v 0 0) (.i 127))) (.no (.c .geq (.v 0 0) (.i 4294967168)))))))⟩]
def QlG:List Ob:= []
theorem QiL:QP Try.prog QiK 2000 Try.f133 Qgx QiM=some (QlF,QlG):=by kernel_rfl
theorem QkM(n:Int)(w:World):Calls Try.prog 133 #[.int .u32 n] w (Ret (.bool (KR n)) w):=by
 refine QG (C:= []) (I:= []) Qr rfl Try.func133 QiL (Qdr n) w rfl (fun r hr=>(List.not_mem_nil hr).elim) _ trivial ?_
 refine⟨?_,trivial⟩
 all_goals
  intro e u he hc hs
  have h0:=Ku he (by decide)
  simp only [QC,Cd.holds,SX.den,cmI,PX.den,LX.den,VX.sat,List.map_cons,List.map_nil,List.append_nil,beq_iff_eq,bne_iff_ne,beq_eq_false_iff_ne,bne_eq_false_iff_eq,decide_eq_true_eq,decide_eq_false_iff_not,Bool.and_eq_true,Bool.and_eq_false_iff,ne_eq,h0]at hc hs
  rw [hs]
  refine congrArg _ ?_
  grind [KR]
def YZ(i:Ins):Int:=
 if i.op=16∧i.width=4 then 80 else if i.op=16∧i.width=1 then 81 else if i.op=17∧i.width=1 then 82 else if i.op=16∧i.width=2 then 83
 else if i.op=17∧i.width=2 then 84 else if i.op=18∧i.width=4 then 85 else if i.op=18∧i.width=1 then 86 else if i.op=18∧i.width=2 then 87 else 0
def Ql1:List Sg:= []
def Qgn:List PX:= [.a (Qa 0 0 Qb)]
def Qi4:List Rw:= []
def Qi2:Cfg:=⟨1,Ql1,[]⟩
def Qlz:List Lf:=
 let z0:SX:= .c .eql (.v 0 2) (.i 16)
 let z1:SX:= .c .eql (.v 0 4) (.i 4)
 let z2:PX:= .l (.n .i64 (.i 5))
 let z3:PX:= .l (.t (.b true))
 let z4:SX:= .c .eql (.v 0 4) (.i 1)
 let z5:SX:= .c .eql (.v 0 2) (.i 17)
 let z6:SX:= .c .eql (.v 0 4) (.i 2)
 let z7:SX:= .c .eql (.v 0 2) (.i 18)
 [⟨[.c z0 true,.c z1 true],.tp [.l (.n .u8 (.i 80)),z2,z3]⟩,⟨[.c z0 true,.c z4 true,.c (.an z0 z1) false],.tp [.l (.n .u8 (.i 81)),z2,z3]⟩,⟨[.c z5 true,.c z4 true,.c (.an z0 z4) false,.c (.an z0 z1) false],.tp [.l (.n .u8 (.i 82)),z2,z3]⟩,⟨[.c z0 true,.c z6 true,.c (.an z5 z4) false,.c (.an z0 z4) false,.c (.an z0 z1) false],.tp [.l (.n .u8 (.i 83)),z2,z3]⟩,⟨[.c z5 true,.c z6 true,.c (.an z0 z6) false,.c (.an z5 z4) false,.c (.an z0 z4) false,.c (.an z0 z1) false],.tp [.l (.n .u8 (.i 84)),z2,z3]⟩,⟨[.c z7 true,.c z1 true,.c (.an z5 z6) false,.c (.an z0 z6) false,.c (.an z5 z4) false,.c (.an z0 z4) false,.c (.an z0 z1) false],.tp [.l (.n .u8 (.i 85)),z2,z3]⟩,⟨[.c z7 true,.c z4 true,.c (.an z7 z1) false,.c (.an z5 z6) false,.c (.an z0 z6) false,.c (.an z5 z4) false,.c (.an z0 z4) false,.c (.an z0 z1) false],.tp [.l (.n .u8 (.i 86)),z2,z3]⟩,⟨[.c z7 true,.c z6 true,.c (.an z7 z4) false,.c (.an z7 z1) false,.c (.an z5 z6) false,.c (.an z0 z6) false,.c (.an z5 z4) false,.c (.an z0 z4) false,.c (.an z0 z1) false],.tp [.l (.n .u8 (.i 87)),z2,z3]⟩,⟨[.c (.an z7 z6) false,.c (.an z7 z4) false,.c (.an z7 z1) false,.c (.an z5 z6) false,.c (.an z0 z6) false,.c (.an z5 z4) false,.c (.an z0 z4) false,.c (.an z0 z1) false],.tp [.l (.n .u8 (.i 0)),z2,.l (.t (.b false))]⟩]
def Ql0:List Ob:= []
theorem Qi3:QP Try.prog Qi2 2000 Try.f142 Qgn Qi4=some (Qlz,Ql0):=by kernel_rfl
set_option maxHeartbeats 2000000 in
theorem Qke(i:Ins)(w:World):Calls Try.prog 142 #[i.val] w (Ret (.tuple #[.int .u8 (YZ i),.int .i64 5,.bool (YZ i != 0)]) w):=by
 refine QG (C:= []) (I:= []) Qr rfl Try.func142 Qi3 (XX i) w rfl (fun r hr=>(List.not_mem_nil hr).elim) _ trivial ?_
 refine⟨?_,?_,?_,?_,?_,?_,?_,?_,?_,trivial⟩
 all_goals
  intro e u he hc hs
  have h0:=Zp he (by decide)
  simp only [QC,Cd.holds,SX.den,cmI,PX.den,LX.den,VX.sat,List.map_cons,List.map_nil,List.append_nil,beq_iff_eq,bne_iff_ne,beq_eq_false_iff_ne,bne_eq_false_iff_eq,decide_eq_true_eq,decide_eq_false_iff_not,Bool.and_eq_true,Bool.and_eq_false_iff,ne_eq,h0,Q9]at hc hs
  rw [hs]
  refine Qt9 (congrArg _ ?_) (congrArg _ ?_) (congrArg _ ?_) <;> grind [YZ]
def Qc4(i:Ins):Int:=if i.cc < 0∨14 < i.cc then 0 else if i.op=25 then 2 else if i.form=1 then 7 else if i.form=2 then 8 else 0
def QbN(i:Ins):Bool:= !(decide (i.cc < 0) || decide (14 < i.cc)) && (decide (i.op=25) || decide (i.form=1) || decide (i.form=2))
def QcO:List Sg:= []
def QbH:List PX:= [.a (Qa 0 0 Qb)]
def Qcw:List Rw:= []
def YX:Cfg:=⟨1,QcO,[]⟩
def QcM:List Lf:=
 [⟨[.c (.an (.no (.c .lss (.v 0 5) (.i 0))) (.no (.c .gtr (.v 0 5) (.i 14)))) false],.tp [.l (.n .u8 (.i 0)),.l (.n .i64 (.i 0)),.l (.t (.b false))]⟩,⟨[.c (.c .eql (.v 0 2) (.i 25)) true,.c (.c .lss (.v 0 5) (.i 0)) false,.c (.c .gtr (.v 0 5) (.i 14)) false],.tp [.l (.n .u8 (.o .add .u8 (.i 144) (.cv .u8 (.v 0 5)))),.l (.n .i64 (.i 2)),.l (.t (.b true))]⟩,⟨[.c (.c .eql (.v 0 3) (.i 1)) true,.c (.c .eql (.v 0 2) (.i 25)) false,.c (.c .lss (.v 0 5) (.i 0)) false,.c (.c .gtr (.v 0 5) (.i 14)) false],.tp [.l (.n .u8 (.o .add .u8 (.i 96) (.cv .u8 (.v 0 5)))),.l (.n .i64 (.i 7)),.l (.t (.b true))]⟩,⟨[.c (.c .eql (.v 0 3) (.i 2)) true,.c (.c .eql (.v 0 3) (.i 1)) false,.c (.c .eql (.v 0 2) (.i 25)) false,.c (.c .lss (.v 0 5) (.i 0)) false,.c (.c .gtr (.v 0 5) (.i 14)) false],.tp [.l (.n .u8 (.o .add .u8 (.i 112) (.cv .u8 (.v 0 5)))),.l (.n .i64 (.i 8)),.l (.t (.b true))]⟩,⟨[.c (.c .eql (.v 0 3) (.i 2)) false,.c (.c .eql (.v 0 3) (.i 1)) false,.c (.c .eql (.v 0 2) (.i 25)) false,.c (.c .lss (.v 0 5) (.i 0)) false,.c (.c .gtr (.v 0 5) (.i 14)) false],.tp [.l (.n .u8 (.i 0)),.l (.n .i64 (.i 0)),.l (.t (.b false))]⟩]
def QcN:List Ob:= []
theorem Qcv:QP Try.prog YX 2000 Try.f143 QbH Qcw=some (QcM,QcN):=by kernel_rfl
set_option maxHeartbeats 2000000 in
theorem QcH(i:Ins)(w:World):Calls Try.prog 143 #[i.val] w fun en w'=>∃c,en= .returned (.tuple #[.int .u8 c,.int .i64 (Qc4 i),.bool (QbN i)])∧Below w.heap.size w w':=by
 refine Ya (C:= []) (I:= []) Qr (G:=YX) rfl Try.func143 Qcv (XX i) w (fun r hr=>(List.not_mem_nil hr).elim) (fun o ho=>(List.not_mem_nil ho).elim) _ (QC.all ?_)
 refine⟨?_,?_,?_,?_,?_,trivial⟩
 all_goals
  intro e u w' he hc hs hb
  replace hc:=QC.of hc
  have h0:=Zp he (by decide)
  simp only [QC,Cd.holds,SX.den,cmI,PX.den,LX.den,VX.sat,List.map_cons,List.map_nil,List.append_nil,beq_iff_eq,bne_iff_ne,beq_eq_false_iff_ne,bne_eq_false_iff_eq,decide_eq_true_eq,decide_eq_false_iff_not,Bool.and_eq_true,Bool.and_eq_false_iff,ne_eq,h0,Q9]at hc hs
  rw [hs]
  refine⟨_,congrArg Ending.returned (Qt9 rfl (congrArg _ ?_) (congrArg _ ?_)),hb⟩ <;> grind [Qc4,QbN]
def Qbl:Con Try.prog:= .mk' ⟨131,[.l (some .i64)],.l none,true⟩
 (fun ads=>match ads with| [d1]=>True|_=>False)
 (fun ads=>match ads with| [d1]=>fun _=>0|_=>fun _=>0)
 (fun ads=>match ads with| [d1]=>fun _=>QaK (Q8 d1)|_=>fun _=>false)
 ⟨_,Try.func131,by kernel_rfl,by kernel_rfl⟩ (fun ads w hf hp=>by
   obtain⟨d1,_,rfl,f1,hf⟩:=Qf hf
   obtain rfl:=Qn hf
   show Calls _ _ #[d1.val] w _
   rw [QH f1]
   exact Qgb (Q8 d1) w)
def Qdj:Con Try.prog:= .mk' ⟨133,[.l (some .u32)],.l none,true⟩
 (fun ads=>match ads with| [d1]=>True|_=>False)
 (fun ads=>match ads with| [d1]=>fun _=>0|_=>fun _=>0)
 (fun ads=>match ads with| [d1]=>fun _=>KR (Q8 d1)|_=>fun _=>false)
 ⟨_,Try.func133,by kernel_rfl,by kernel_rfl⟩ (fun ads w hf hp=>by
   obtain⟨d1,_,rfl,f1,hf⟩:=Qf hf
   obtain rfl:=Qn hf
   show Calls _ _ #[d1.val] w _
   rw [QH f1]
   exact QkM (Q8 d1) w)
def Qdf:Con Try.prog:= .mk' ⟨142,[.a Qb],.tp [.inl (some .u8),.inl (some .i64),.inl none],true⟩
 (fun ads=>match ads with| [d1]=>True|_=>False)
 (fun ads=>match ads with| [d1]=>fun j=>if j=0 then YZ (Q0 d1)else 5|_=>fun _=>0)
 (fun ads=>match ads with| [d1]=>fun _=>YZ (Q0 d1) != 0|_=>fun _=>false)
 ⟨_,Try.func142,by kernel_rfl,by kernel_rfl⟩ (fun ads w hf hp=>by
   obtain⟨d1,_,rfl,f1,hf⟩:=Qf hf
   obtain rfl:=Qn hf
   show Calls _ _ #[d1.val] w _
   rw [Zc f1]
   exact Qke (Q0 d1) w)
def Ww:Con Try.prog:=⟨⟨143,[.a Qb],.tp [.inl (some .u8),.inl (some .i64),.inl none],false⟩,fun _=>True,fun ads i b=>match ads with| [d1]=>i 1=Qc4 (Q0 d1)∧b 2=QbN (Q0 d1)|_=>False,
 ⟨_,Try.func143,by kernel_rfl,by kernel_rfl⟩,(fun h=>by cases h),(fun h=>by cases h),fun ads w hf hp=>by
   obtain⟨d1,_,rfl,f1,hf⟩:=Qf hf
   obtain rfl:=Qn hf
   show Calls _ _ #[d1.val] w _
   rw [Zc f1]
   refine(QcH (Q0 d1) w).mono fun en w' hen=>?_
   obtain⟨c,rfl,hb⟩:=hen
   exact⟨fun j=>if j=0 then c else Qc4 (Q0 d1),fun _=>QbN (Q0 d1),rfl,hb,rfl,rfl⟩⟩
def XP(i:Ins):Int:=
 if i.op=0∨i.op=1∨i.op=2 then 0 else if i.op=3∨i.op=4 then 1
 else if 5≤i.op∧i.op≤15 then(if i.form=0 then 3 else if i.form=1 then 4 else if i.form=2 then 6 else 0)
 else if i.op=16∨i.op=17∨i.op=18∨i.op=19 then 5 else if i.op=20∨i.op=25 then Qc4 i else if i.op=23 then 8 else if i.op=24∨i.op=21 then 2
 else if i.op=22 then 6 else if i.op=26∨i.op=27 then 2 else 0
def QhS(i:Ins):Bool:=
 if i.op=0∨i.op=1∨i.op=2 then true else if i.op=3∨i.op=4 then true
 else if 5≤i.op∧i.op≤15 then(if i.form=0 then true else if i.form=1 then true else if i.form=2 then true else false)
 else if i.op=16∨i.op=17∨i.op=18 then YZ i != 0 else if i.op=19 then true else if i.op=20∨i.op=25 then QbN i else if i.op=23 then true else if i.op=24∨i.op=21 then true
 else if i.op=22 then true else if i.op=26∨i.op=27 then true else false
def QlL:List Sg:= [⟨142,[.a Qb],.tp [.inl (some .u8),.inl (some .i64),.inl none],true⟩,⟨143,[.a Qb],.tp [.inl (some .u8),.inl (some .i64),.inl none],false⟩]
def Qgy:List PX:= [.a (Qa 0 0 Qb)]
def QiO:List Rw:= []
def QcG:Cfg:=⟨1,QlL,[]⟩
def QlJ:List Lf:=
 let z0:PX:= .l (.t (.b true))
 let z1:VX:= .tp [.l (.n .u8 (.cv .u8 (.v 0 2))),.l (.n .i64 (.i 0)),z0]
 let z2:SX:= .cv .u8 (.o .sub .i64 (.v 0 2) (.i 5))
 let z3:PX:= .a (Qa 0 0 Qb)
 let z4:PX:= .l (.n .i64 (.i 2))
 [⟨[.c (.c .eql (.v 0 2) (.i 0)) true],z1⟩,⟨[.c (.c .eql (.v 0 2) (.i 1)) true,.c (.c .eql (.v 0 2) (.i 0)) false],z1⟩,⟨[.c (.c .eql (.v 0 2) (.i 2)) true,.c (.c .eql (.v 0 2) (.i 1)) false,.c (.c .eql (.v 0 2) (.i 0)) false],z1⟩,⟨[.c (.c .eql (.v 0 2) (.i 3)) true,.c (.c .eql (.v 0 2) (.i 2)) false,.c (.c .eql (.v 0 2) (.i 1)) false,.c (.c .eql (.v 0 2) (.i 0)) false],.tp [.l (.n .u8 (.o .add .u8 (.i 8) (.cv .u8 (.o .and .i64 (.v 0 6) (.i 7))))),.l (.n .i64 (.i 1)),z0]⟩,⟨[.c (.c .eql (.v 0 2) (.i 4)) true,.c (.c .eql (.v 0 2) (.i 3)) false,.c (.c .eql (.v 0 2) (.i 2)) false,.c (.c .eql (.v 0 2) (.i 1)) false,.c (.c .eql (.v 0 2) (.i 0)) false],.tp [.l (.n .u8 (.o .add .u8 (.i 16) (.cv .u8 (.o .and .i64 (.v 0 6) (.i 7))))),.l (.n .i64 (.i 1)),z0]⟩,⟨[.c (.c .eql (.v 0 3) (.i 0)) true,.c (.c .geq (.v 0 2) (.i 5)) true,.c (.c .leq (.v 0 2) (.i 15)) true,.c (.c .eql (.v 0 2) (.i 4)) false,.c (.c .eql (.v 0 2) (.i 3)) false,.c (.c .eql (.v 0 2) (.i 2)) false,.c (.c .eql (.v 0 2) (.i 1)) false,.c (.c .eql (.v 0 2) (.i 0)) false],.tp [.l (.n .u8 (.o .add .u8 (.i 32) z2)),.l (.n .i64 (.i 3)),z0]⟩,⟨[.c (.c .eql (.v 0 3) (.i 1)) true,.c (.c .eql (.v 0 3) (.i 0)) false,.c (.c .geq (.v 0 2) (.i 5)) true,.c (.c .leq (.v 0 2) (.i 15)) true,.c (.c .eql (.v 0 2) (.i 4)) false,.c (.c .eql (.v 0 2) (.i 3)) false,.c (.c .eql (.v 0 2) (.i 2)) false,.c (.c .eql (.v 0 2) (.i 1)) false,.c (.c .eql (.v 0 2) (.i 0)) false],.tp [.l (.n .u8 (.o .add .u8 (.i 48) z2)),.l (.n .i64 (.i 4)),z0]⟩,⟨[.c (.c .eql (.v 0 3) (.i 2)) true,.c (.c .eql (.v 0 3) (.i 1)) false,.c (.c .eql (.v 0 3) (.i 0)) false,.c (.c .geq (.v 0 2) (.i 5)) true,.c (.c .leq (.v 0 2) (.i 15)) true,.c (.c .eql (.v 0 2) (.i 4)) false,.c (.c .eql (.v 0 2) (.i 3)) false,.c (.c .eql (.v 0 2) (.i 2)) false,.c (.c .eql (.v 0 2) (.i 1)) false,.c (.c .eql (.v 0 2) (.i 0)) false],.tp [.l (.n .u8 (.o .add .u8 (.i 64) z2)),.l (.n .i64 (.i 6)),z0]⟩,⟨[.c (.c .eql (.v 0 3) (.i 2)) false,.c (.c .eql (.v 0 3) (.i 1)) false,.c (.c .eql (.v 0 3) (.i 0)) false,.c (.c .geq (.v 0 2) (.i 5)) true,.c (.c .leq (.v 0 2) (.i 15)) true,.c (.c .eql (.v 0 2) (.i 4)) false,.c (.c .eql (.v 0 2) (.i 3)) false,.c (.c .eql (.v 0 2) (.i 2)) false,.c (.c .eql (.v 0 2) (.i 1)) false,.c (.c .eql (.v 0 2) (.i 0)) false],.tp [.l (.n .u8 (.i 0)),.l (.n .i64 (.i 0)),.l (.t (.b false))]⟩,⟨[.f 39 0 [z3],.c (.c .eql (.v 0 2) (.i 16)) true,.c (.an (.c .geq (.v 0 2) (.i 5)) (.c .leq (.v 0 2) (.i 15))) false,.c (.c .eql (.v 0 2) (.i 4)) false,.c (.c .eql (.v 0 2) (.i 3)) false,.c (.c .eql (.v 0 2) (.i 2)) false,.c (.c .eql (.v 0 2) (.i 1)) false,.c (.c .eql (.v 0 2) (.i 0)) false],.tp [.l (.n .u8 (.v 39 0)),.l (.n .i64 (.v 39 1)),.l (.t (.v 39 2))]⟩,⟨[.f 43 0 [z3],.c (.c .eql (.v 0 2) (.i 17)) true,.c (.c .eql (.v 0 2) (.i 16)) false,.c (.an (.c .geq (.v 0 2) (.i 5)) (.c .leq (.v 0 2) (.i 15))) false,.c (.c .eql (.v 0 2) (.i 4)) false,.c (.c .eql (.v 0 2) (.i 3)) false,.c (.c .eql (.v 0 2) (.i 2)) false,.c (.c .eql (.v 0 2) (.i 1)) false,.c (.c .eql (.v 0 2) (.i 0)) false],.tp [.l (.n .u8 (.v 43 0)),.l (.n .i64 (.v 43 1)),.l (.t (.v 43 2))]⟩,⟨[.f 47 0 [z3],.c (.c .eql (.v 0 2) (.i 18)) true,.c (.c .eql (.v 0 2) (.i 17)) false,.c (.c .eql (.v 0 2) (.i 16)) false,.c (.an (.c .geq (.v 0 2) (.i 5)) (.c .leq (.v 0 2) (.i 15))) false,.c (.c .eql (.v 0 2) (.i 4)) false,.c (.c .eql (.v 0 2) (.i 3)) false,.c (.c .eql (.v 0 2) (.i 2)) false,.c (.c .eql (.v 0 2) (.i 1)) false,.c (.c .eql (.v 0 2) (.i 0)) false],.tp [.l (.n .u8 (.v 47 0)),.l (.n .i64 (.v 47 1)),.l (.t (.v 47 2))]⟩,⟨[.c (.c .eql (.v 0 2) (.i 19)) true,.c (.c .eql (.v 0 2) (.i 18)) false,.c (.c .eql (.v 0 2) (.i 17)) false,.c (.c .eql (.v 0 2) (.i 16)) false,.c (.an (.c .geq (.v 0 2) (.i 5)) (.c .leq (.v 0 2) (.i 15))) false,.c (.c .eql (.v 0 2) (.i 4)) false,.c (.c .eql (.v 0 2) (.i 3)) false,.c (.c .eql (.v 0 2) (.i 2)) false,.c (.c .eql (.v 0 2) (.i 1)) false,.c (.c .eql (.v 0 2) (.i 0)) false],.tp [.l (.n .u8 (.i 90)),.l (.n .i64 (.i 5)),z0]⟩,⟨[.f 60 1 [z3],.c (.an (.no (.c .eql (.v 0 2) (.i 20))) (.no (.c .eql (.v 0 2) (.i 25)))) false,.c (.c .eql (.v 0 2) (.i 19)) false,.c (.c .eql (.v 0 2) (.i 18)) false,.c (.c .eql (.v 0 2) (.i 17)) false,.c (.c .eql (.v 0 2) (.i 16)) false,.c (.an (.c .geq (.v 0 2) (.i 5)) (.c .leq (.v 0 2) (.i 15))) false,.c (.c .eql (.v 0 2) (.i 4)) false,.c (.c .eql (.v 0 2) (.i 3)) false,.c (.c .eql (.v 0 2) (.i 2)) false,.c (.c .eql (.v 0 2) (.i 1)) false,.c (.c .eql (.v 0 2) (.i 0)) false],.tp [.l (.n .u8 (.v 60 0)),.l (.n .i64 (.v 60 1)),.l (.t (.v 60 2))]⟩,⟨[.c (.c .eql (.v 0 2) (.i 23)) true,.c (.c .eql (.v 0 2) (.i 20)) false,.c (.c .eql (.v 0 2) (.i 25)) false,.c (.c .eql (.v 0 2) (.i 19)) false,.c (.c .eql (.v 0 2) (.i 18)) false,.c (.c .eql (.v 0 2) (.i 17)) false,.c (.c .eql (.v 0 2) (.i 16)) false,.c (.an (.c .geq (.v 0 2) (.i 5)) (.c .leq (.v 0 2) (.i 15))) false,.c (.c .eql (.v 0 2) (.i 4)) false,.c (.c .eql (.v 0 2) (.i 3)) false,.c (.c .eql (.v 0 2) (.i 2)) false,.c (.c .eql (.v 0 2) (.i 1)) false,.c (.c .eql (.v 0 2) (.i 0)) false],.tp [.l (.n .u8 (.i 128)),.l (.n .i64 (.i 8)),z0]⟩,⟨[.c (.c .eql (.v 0 2) (.i 24)) true,.c (.c .eql (.v 0 2) (.i 23)) false,.c (.c .eql (.v 0 2) (.i 20)) false,.c (.c .eql (.v 0 2) (.i 25)) false,.c (.c .eql (.v 0 2) (.i 19)) false,.c (.c .eql (.v 0 2) (.i 18)) false,.c (.c .eql (.v 0 2) (.i 17)) false,.c (.c .eql (.v 0 2) (.i 16)) false,.c (.an (.c .geq (.v 0 2) (.i 5)) (.c .leq (.v 0 2) (.i 15))) false,.c (.c .eql (.v 0 2) (.i 4)) false,.c (.c .eql (.v 0 2) (.i 3)) false,.c (.c .eql (.v 0 2) (.i 2)) false,.c (.c .eql (.v 0 2) (.i 1)) false,.c (.c .eql (.v 0 2) (.i 0)) false],.tp [.l (.n .u8 (.i 129)),z4,z0]⟩,⟨[.c (.c .eql (.v 0 2) (.i 21)) true,.c (.c .eql (.v 0 2) (.i 24)) false,.c (.c .eql (.v 0 2) (.i 23)) false,.c (.c .eql (.v 0 2) (.i 20)) false,.c (.c .eql (.v 0 2) (.i 25)) false,.c (.c .eql (.v 0 2) (.i 19)) false,.c (.c .eql (.v 0 2) (.i 18)) false,.c (.c .eql (.v 0 2) (.i 17)) false,.c (.c .eql (.v 0 2) (.i 16)) false,.c (.an (.c .geq (.v 0 2) (.i 5)) (.c .leq (.v 0 2) (.i 15))) false,.c (.c .eql (.v 0 2) (.i 4)) false,.c (.c .eql (.v 0 2) (.i 3)) false,.c (.c .eql (.v 0 2) (.i 2)) false,.c (.c .eql (.v 0 2) (.i 1)) false,.c (.c .eql (.v 0 2) (.i 0)) false],.tp [.l (.n .u8 (.i 130)),z4,z0]⟩,⟨[.c (.c .eql (.v 0 2) (.i 22)) true,.c (.c .eql (.v 0 2) (.i 21)) false,.c (.c .eql (.v 0 2) (.i 24)) false,.c (.c .eql (.v 0 2) (.i 23)) false,.c (.c .eql (.v 0 2) (.i 20)) false,.c (.c .eql (.v 0 2) (.i 25)) false,.c (.c .eql (.v 0 2) (.i 19)) false,.c (.c .eql (.v 0 2) (.i 18)) false,.c (.c .eql (.v 0 2) (.i 17)) false,.c (.c .eql (.v 0 2) (.i 16)) false,.c (.an (.c .geq (.v 0 2) (.i 5)) (.c .leq (.v 0 2) (.i 15))) false,.c (.c .eql (.v 0 2) (.i 4)) false,.c (.c .eql (.v 0 2) (.i 3)) false,.c (.c .eql (.v 0 2) (.i 2)) false,.c (.c .eql (.v 0 2) (.i 1)) false,.c (.c .eql (.v 0 2) (.i 0)) false],.tp [.l (.n .u8 (.i 131)),.l (.n .i64 (.i 6)),z0]⟩,⟨[.c (.c .eql (.v 0 2) (.i 26)) true,.c (.c .eql (.v 0 2) (.i 22)) false,.c (.c .eql (.v 0 2) (.i 21)) false,.c (.c .eql (.v 0 2) (.i 24)) false,.c (.c .eql (.v 0 2) (.i 23)) false,.c (.c .eql (.v 0 2) (.i 20)) false,.c (.c .eql (.v 0 2) (.i 25)) false,.c (.c .eql (.v 0 2) (.i 19)) false,.c (.c .eql (.v 0 2) (.i 18)) false,.c (.c .eql (.v 0 2) (.i 17)) false,.c (.c .eql (.v 0 2) (.i 16)) false,.c (.an (.c .geq (.v 0 2) (.i 5)) (.c .leq (.v 0 2) (.i 15))) false,.c (.c .eql (.v 0 2) (.i 4)) false,.c (.c .eql (.v 0 2) (.i 3)) false,.c (.c .eql (.v 0 2) (.i 2)) false,.c (.c .eql (.v 0 2) (.i 1)) false,.c (.c .eql (.v 0 2) (.i 0)) false],.tp [.l (.n .u8 (.i 160)),z4,z0]⟩,⟨[.c (.c .eql (.v 0 2) (.i 27)) true,.c (.c .eql (.v 0 2) (.i 26)) false,.c (.c .eql (.v 0 2) (.i 22)) false,.c (.c .eql (.v 0 2) (.i 21)) false,.c (.c .eql (.v 0 2) (.i 24)) false,.c (.c .eql (.v 0 2) (.i 23)) false,.c (.c .eql (.v 0 2) (.i 20)) false,.c (.c .eql (.v 0 2) (.i 25)) false,.c (.c .eql (.v 0 2) (.i 19)) false,.c (.c .eql (.v 0 2) (.i 18)) false,.c (.c .eql (.v 0 2) (.i 17)) false,.c (.c .eql (.v 0 2) (.i 16)) false,.c (.an (.c .geq (.v 0 2) (.i 5)) (.c .leq (.v 0 2) (.i 15))) false,.c (.c .eql (.v 0 2) (.i 4)) false,.c (.c .eql (.v 0 2) (.i 3)) false,.c (.c .eql (.v 0 2) (.i 2)) false,.c (.c .eql (.v 0 2) (.i 1)) false,.c (.c .eql (.v 0 2) (.i 0)) false],.tp [.l (.n .u8 (.i 161)),z4,z0]⟩,⟨[.c (.c .eql (.v 0 2) (.i 27)) false,.c (.c .eql (.v 0 2) (.i 26)) false,.c (.c .eql (.v 0 2) (.i 22)) false,.c (.c .eql (.v 0 2) (.i 21)) false,.c (.c .eql (.v 0 2) (.i 24)) false,.c (.c .eql (.v 0 2) (.i 23)) false,.c (.c .eql (.v 0 2) (.i 20)) false,.c (.c .eql (.v 0 2) (.i 25)) false,.c (.c .eql (.v 0 2) (.i 19)) false,.c (.c .eql (.v 0 2) (.i 18)) false,.c (.c .eql (.v 0 2) (.i 17)) false,.c (.c .eql (.v 0 2) (.i 16)) false,.c (.an (.c .geq (.v 0 2) (.i 5)) (.c .leq (.v 0 2) (.i 15))) false,.c (.c .eql (.v 0 2) (.i 4)) false,.c (.c .eql (.v 0 2) (.i 3)) false,.c (.c .eql (.v 0 2) (.i 2)) false,.c (.c .eql (.v 0 2) (.i 1)) false,.c (.c .eql (.v 0 2) (.i 0)) false],.tp [.l (.n .u8 (.i 0)),.l (.n .i64 (.i 0)),.l (.t (.b false))]⟩]
def QlK:List Ob:=
 let z0:PX:= .a (Qa 0 0 Qb)
 [.pre [.c (.c .eql (.v 0 2) (.i 16)) true,.c (.an (.c .geq (.v 0 2) (.i 5)) (.c .leq (.v 0 2) (.i 15))) false,.c (.c .eql (.v 0 2) (.i 4)) false,.c (.c .eql (.v 0 2) (.i 3)) false,.c (.c .eql (.v 0 2) (.i 2)) false,.c (.c .eql (.v 0 2) (.i 1)) false,.c (.c .eql (.v 0 2) (.i 0)) false] 0 [z0],.pre [.c (.c .eql (.v 0 2) (.i 17)) true,.c (.c .eql (.v 0 2) (.i 16)) false,.c (.an (.c .geq (.v 0 2) (.i 5)) (.c .leq (.v 0 2) (.i 15))) false,.c (.c .eql (.v 0 2) (.i 4)) false,.c (.c .eql (.v 0 2) (.i 3)) false,.c (.c .eql (.v 0 2) (.i 2)) false,.c (.c .eql (.v 0 2) (.i 1)) false,.c (.c .eql (.v 0 2) (.i 0)) false] 0 [z0],.pre [.c (.c .eql (.v 0 2) (.i 18)) true,.c (.c .eql (.v 0 2) (.i 17)) false,.c (.c .eql (.v 0 2) (.i 16)) false,.c (.an (.c .geq (.v 0 2) (.i 5)) (.c .leq (.v 0 2) (.i 15))) false,.c (.c .eql (.v 0 2) (.i 4)) false,.c (.c .eql (.v 0 2) (.i 3)) false,.c (.c .eql (.v 0 2) (.i 2)) false,.c (.c .eql (.v 0 2) (.i 1)) false,.c (.c .eql (.v 0 2) (.i 0)) false] 0 [z0],.pre [.c (.an (.no (.c .eql (.v 0 2) (.i 20))) (.no (.c .eql (.v 0 2) (.i 25)))) false,.c (.c .eql (.v 0 2) (.i 19)) false,.c (.c .eql (.v 0 2) (.i 18)) false,.c (.c .eql (.v 0 2) (.i 17)) false,.c (.c .eql (.v 0 2) (.i 16)) false,.c (.an (.c .geq (.v 0 2) (.i 5)) (.c .leq (.v 0 2) (.i 15))) false,.c (.c .eql (.v 0 2) (.i 4)) false,.c (.c .eql (.v 0 2) (.i 3)) false,.c (.c .eql (.v 0 2) (.i 2)) false,.c (.c .eql (.v 0 2) (.i 1)) false,.c (.c .eql (.v 0 2) (.i 0)) false] 1 [z0]]
theorem QiN:QP Try.prog QcG 2000 Try.f130 Qgy QiO=some (QlJ,QlK):=by kernel_rfl
set_option maxHeartbeats 4000000 in
theorem QkQ(i:Ins)(w:World):Calls Try.prog 130 #[i.val] w fun en w'=>∃c,en= .returned (.tuple #[.int .u8 c,.int .i64 (XP i),.bool (QhS i)])∧Below w.heap.size w w':=by
 refine Ya (C:= [Qdf,Ww]) (I:= []) Qr (G:=QcG) rfl Try.func130 QiN (XX i) w (fun r hr=>(List.not_mem_nil hr).elim) (fun o ho=>Zb.ok (QC.all (p:=fun o=>∀e,Env.agr 1 (XX i) e→Zb _ _ e o) ?_ o ho)) _ (QC.all ?_)
 ·refine⟨?_,?_,?_,?_,trivial⟩
  all_goals exact fun e he _=>trivial
 refine⟨?_,?_,?_,?_,?_,?_,?_,?_,?_,?_,?_,?_,?_,?_,?_,?_,?_,?_,?_,?_,?_,trivial⟩
 all_goals
  (intro e u w' he hc hs hb
   replace hc:=QC.of hc
   have h0:=Zp he (by decide)
   simp only [QC,Cd.holds,SX.den,cmI,PX.den,LX.den,VX.sat,List.map_cons,List.map_nil,List.append_nil,beq_iff_eq,bne_iff_ne,beq_eq_false_iff_ne,bne_eq_false_iff_eq,decide_eq_true_eq,decide_eq_false_iff_not,Bool.and_eq_true,Bool.and_eq_false_iff,ne_eq,h0,Q9,List.getElem?_cons_zero,List.getElem?_cons_succ,Option.some.injEq,exists_eq_left',Qdf,Ww,QI,Q3,ZE h0]at hc hs
   rw [hs]
   refine⟨_,congrArg Ending.returned (Qt9 rfl (congrArg _ ?_) (congrArg _ ?_)),hb⟩ <;> grind [XP,QhS])
end Go.Proofs.Yteplnamfpodmlaa
