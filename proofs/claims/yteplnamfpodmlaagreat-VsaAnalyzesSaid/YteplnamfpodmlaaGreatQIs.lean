/-
  Part of the proof.
-/
import Derived.Test.YteplnamfpodmlaaGreatQSx
set_option linter.unusedVariables false
set_option linter.unusedSimpArgs false
set_option maxRecDepth 100000
open Go.ChangeShapes Go.WideShapes Go.ChangeAt Go.RowKit
section
namespace Go.Proofs.YteplnamfpodmlaaGreat
theorem Qo:Tryz.prog.follows .mixedOrders=true:=by kernel_rfl
def Qh2:Env:=⟨fun _ _=>0,fun _ _=>false,fun _=>0,fun _=>none⟩
def XB(i:Ins):Env:=⟨fun d=>match d with|0=>Q2 i|_=>fun _=>0,fun _ _=>false,fun _=>0,fun _=>none⟩
def QnD(i:Ins)(n:Int):Env:=⟨fun d=>match d with|0=>Q2 i|1=>fun _=>n|_=>fun _=>0,fun _ _=>false,fun _=>0,fun _=>none⟩
def Qcf(n:Int):Env:=⟨fun d=>match d with|0=>fun _=>n|_=>fun _=>0,fun _ _=>false,fun _=>0,fun _=>none⟩
theorem Zu{i:Ins}{e:Env}{n:Nat}(h:Env.agr n (XB i) e)(hn:0 < n):e.int 0=Q2 i:=(h 0 hn).1
theorem Km{x:Int}{e:Env}{n:Nat}(h:Env.agr n (Qcf x) e)(hn:0 < n):e.int 0=fun _=>x:=(h 0 hn).1
theorem Qh3{i:Ins}{x:Int}{e:Env}{n:Nat}(h:Env.agr n (QnD i x) e)(hn:1 < n):e.int 0=Q2 i∧e.int 1=fun _=>x:=⟨(h 0 (by omega)).1,(h 1 hn).1⟩
theorem Qu0{a b a' b':Value}(h1:a=a')(h2:b=b'):Value.tuple #[a,b]= .tuple #[a',b']:=by rw [h1,h2]
theorem QsM{a b c a' b' c':Value}(h1:a=a')(h2:b=b')(h3:c=c'):Value.tuple #[a,b,c]= .tuple #[a',b',c']:=by rw [h1,h2,h3]
def Qav(n:Int):Bool:=decide (0≤n) && decide (n < 8)
def QsT:List Sg:= []
def Qpr:List PX:= [.l (.n .i64 (.v 0 0))]
def QrK:List Rw:= []
def QrI:Cfg:=⟨1,QsT,[]⟩
def QsR:List Lf:= [⟨[],.v (.l (.t (.an (.c .geq (.v 0 0) (.i 0)) (.c .lss (.v 0 0) (.i 8)))))⟩]
def QsS:List Ob:= []
theorem QrJ:QS Tryz.prog QrI 2000 Tryz.f85 Qpr QrK=some (QsR,QsS):=by kernel_rfl
theorem QfV(n:Int)(w:World):Calls Tryz.prog 85 #[.int .i64 n] w (Ret (.bool (Qav n)) w):=by
 refine Q5 (C:= []) (I:= []) Qo rfl Tryz.func85 QrJ (Qcf n) w rfl (fun r hr=>(List.not_mem_nil hr).elim) _ trivial ?_
 refine⟨?_,trivial⟩
 all_goals
  intro e u he hc hs;have h0:=Km he (by decide)
  simp only [QC,Cd.holds,SX.den,cmI,PX.den,LX.den,VX.sat,List.map_cons,List.map_nil,List.append_nil,beq_iff_eq,bne_iff_ne,beq_eq_false_iff_ne,bne_eq_false_iff_eq,decide_eq_true_eq,decide_eq_false_iff_not,Bool.and_eq_true,Bool.and_eq_false_iff,ne_eq,h0]at hc hs;rw [hs];refine congrArg _ ?_
  grind [Qav]
def KM(n:Int):Bool:=decide (n≤127) || decide (4294967168≤n)
def Qmc:List Sg:= []
def Qgz:List PX:= [.l (.n .u32 (.v 0 0))]
def QiX:List Rw:= []
def QiV:Cfg:=⟨1,Qmc,[]⟩
def Qma:List Lf:= [⟨[],.v (.l (.t (.no (.an (.no (.c .leq (.v 0 0) (.i 127))) (.no (.c .geq (.v 0 0) (.i 4294967168)))))))⟩]
def Qmb:List Ob:= []
theorem QiW:QS Tryz.prog QiV 2000 Tryz.f87 Qgz QiX=some (Qma,Qmb):=by kernel_rfl
theorem Qld(n:Int)(w:World):Calls Tryz.prog 87 #[.int .u32 n] w (Ret (.bool (KM n)) w):=by
 refine Q5 (C:= []) (I:= []) Qo rfl Tryz.func87 QiW (Qcf n) w rfl (fun r hr=>(List.not_mem_nil hr).elim) _ trivial ?_
 refine⟨?_,trivial⟩
 all_goals
  intro e u he hc hs;have h0:=Km he (by decide)
  simp only [QC,Cd.holds,SX.den,cmI,PX.den,LX.den,VX.sat,List.map_cons,List.map_nil,List.append_nil,beq_iff_eq,bne_iff_ne,beq_eq_false_iff_ne,bne_eq_false_iff_eq,decide_eq_true_eq,decide_eq_false_iff_not,Bool.and_eq_true,Bool.and_eq_false_iff,ne_eq,h0]at hc hs;rw [hs];refine congrArg _ ?_
  grind [KM]
def YF(i:Ins):Int:=
 if i.op=16∧i.width=4 then 80 else if i.op=16∧i.width=1 then 81 else if i.op=17∧i.width=1 then 82 else if i.op=16∧i.width=2 then 83
 else if i.op=17∧i.width=2 then 84 else if i.op=18∧i.width=4 then 85 else if i.op=18∧i.width=1 then 86 else if i.op=18∧i.width=2 then 87 else 0
def QlM:List Sg:= []
def Qgp:List PX:= [.a (Qa 0 0 Qc)]
def QiF:List Rw:= []
def QiD:Cfg:=⟨1,QlM,[]⟩
def QlK:List Lf:=
 let z0:SX:= .c .eql (.v 0 2) (.i 16)
 let z1:SX:= .c .eql (.v 0 4) (.i 4)
 let z2:PX:= .l (.n .i64 (.i 5))
 let z3:PX:= .l (.t (.b true))
 let z4:SX:= .c .eql (.v 0 4) (.i 1)
 let z5:SX:= .c .eql (.v 0 2) (.i 17)
 let z6:List Cd:= [.c (.an z0 z4) false,.c (.an z0 z1) false]
 let z7:SX:= .c .eql (.v 0 4) (.i 2)
 let z8:List Cd:=(.c (.an z0 z7) false :: .c (.an z5 z4) false :: z6)
 let z9:SX:= .c .eql (.v 0 2) (.i 18)
 let z10:List Cd:=(.c (.an z9 z1) false :: .c (.an z5 z7) false :: z8)
 let z11:List Cd:=(.c (.an z9 z4) false :: z10)
 [⟨[.c z0 true,.c z1 true],.tp [.l (.n .u8 (.i 80)),z2,z3]⟩,⟨[.c z0 true,.c z4 true,.c (.an z0 z1) false],.tp [.l (.n .u8 (.i 81)),z2,z3]⟩,⟨(.c z5 true :: .c z4 true :: z6),.tp [.l (.n .u8 (.i 82)),z2,z3]⟩,⟨(.c z0 true :: .c z7 true :: .c (.an z5 z4) false :: z6),.tp [.l (.n .u8 (.i 83)),z2,z3]⟩,⟨(.c z5 true :: .c z7 true :: z8),.tp [.l (.n .u8 (.i 84)),z2,z3]⟩,⟨(.c z9 true :: .c z1 true :: .c (.an z5 z7) false :: z8),.tp [.l (.n .u8 (.i 85)),z2,z3]⟩,⟨(.c z9 true :: .c z4 true :: z10),.tp [.l (.n .u8 (.i 86)),z2,z3]⟩,⟨(.c z9 true :: .c z7 true :: z11),.tp [.l (.n .u8 (.i 87)),z2,z3]⟩,⟨(.c (.an z9 z7) false :: z11),.tp [.l (.n .u8 (.i 0)),z2,.l (.t (.b false))]⟩]
def QlL:List Ob:= []
theorem QiE:QS Tryz.prog QiD 2000 Tryz.f114 Qgp QiF=some (QlK,QlL):=by kernel_rfl
set_option maxHeartbeats 2000000 in
theorem Qkw(i:Ins)(w:World):Calls Tryz.prog 114 #[i.val] w (Ret (.tuple #[.int .u8 (YF i),.int .i64 5,.bool (YF i != 0)]) w):=by
 refine Q5 (C:= []) (I:= []) Qo rfl Tryz.func114 QiE (XB i) w rfl (fun r hr=>(List.not_mem_nil hr).elim) _ trivial ?_
 refine⟨?_,?_,?_,?_,?_,?_,?_,?_,?_,trivial⟩
 all_goals
  intro e u he hc hs;have h0:=Zu he (by decide)
  simp only [QC,Cd.holds,SX.den,cmI,PX.den,LX.den,VX.sat,List.map_cons,List.map_nil,List.append_nil,beq_iff_eq,bne_iff_ne,beq_eq_false_iff_ne,bne_eq_false_iff_eq,decide_eq_true_eq,decide_eq_false_iff_not,Bool.and_eq_true,Bool.and_eq_false_iff,ne_eq,h0,Q2]at hc hs;rw [hs];refine QsM (congrArg _ ?_) (congrArg _ ?_) (congrArg _ ?_) <;> grind [YF]
def QbR(i:Ins):Int:=if i.cc < 0∨14 < i.cc then 0 else if i.op=25 then 2 else if i.form=1 then 7 else if i.form=2 then 8 else 0
def Qbl(i:Ins):Bool:= !(decide (i.cc < 0) || decide (14 < i.cc)) && (decide (i.op=25) || decide (i.form=1) || decide (i.form=2))
def Qck:List Sg:= []
def Qbh:List PX:= [.a (Qa 0 0 Qc)]
def QbJ:List Rw:= []
def YD:Cfg:=⟨1,Qck,[]⟩
def Qci:List Lf:=
 let z0:VX:= .tp [.l (.n .u8 (.i 0)),.l (.n .i64 (.i 0)),.l (.t (.b false))]
 let z1:List Cd:= [.c (.c .lss (.v 0 5) (.i 0)) false,.c (.c .gtr (.v 0 5) (.i 14)) false]
 let z2:SX:= .cv .u8 (.v 0 5)
 let z3:PX:= .l (.t (.b true))
 let z4:List Cd:=(.c (.c .eql (.v 0 2) (.i 25)) false :: z1)
 let z5:List Cd:=(.c (.c .eql (.v 0 3) (.i 1)) false :: z4)
 [⟨[.c (.an (.no (.c .lss (.v 0 5) (.i 0))) (.no (.c .gtr (.v 0 5) (.i 14)))) false],z0⟩,⟨(.c (.c .eql (.v 0 2) (.i 25)) true :: z1),.tp [.l (.n .u8 (.o .add .u8 (.i 144) z2)),.l (.n .i64 (.i 2)),z3]⟩,⟨(.c (.c .eql (.v 0 3) (.i 1)) true :: z4),.tp [.l (.n .u8 (.o .add .u8 (.i 96) z2)),.l (.n .i64 (.i 7)),z3]⟩,⟨(.c (.c .eql (.v 0 3) (.i 2)) true :: z5),.tp [.l (.n .u8 (.o .add .u8 (.i 112) z2)),.l (.n .i64 (.i 8)),z3]⟩,⟨(.c (.c .eql (.v 0 3) (.i 2)) false :: z5),z0⟩]
def Qcj:List Ob:= []
theorem QbI:QS Tryz.prog YD 2000 Tryz.f115 Qbh QbJ=some (Qci,Qcj):=by kernel_rfl
set_option maxHeartbeats 2000000 in
theorem Qcd(i:Ins)(w:World):Calls Tryz.prog 115 #[i.val] w fun en w'=>∃c,en= .returned (.tuple #[.int .u8 c,.int .i64 (QbR i),.bool (Qbl i)])∧Below w.heap.size w w':=by
 refine VK (C:= []) (I:= []) Qo (G:=YD) rfl Tryz.func115 QbI (XB i) w (fun r hr=>(List.not_mem_nil hr).elim) (fun o ho=>(List.not_mem_nil ho).elim) _ (QC.all ?_)
 refine⟨?_,?_,?_,?_,?_,trivial⟩
 all_goals
  intro e u w' he hc hs hb;replace hc:=QC.of hc;have h0:=Zu he (by decide)
  simp only [QC,Cd.holds,SX.den,cmI,PX.den,LX.den,VX.sat,List.map_cons,List.map_nil,List.append_nil,beq_iff_eq,bne_iff_ne,beq_eq_false_iff_ne,bne_eq_false_iff_eq,decide_eq_true_eq,decide_eq_false_iff_not,Bool.and_eq_true,Bool.and_eq_false_iff,ne_eq,h0,Q2]at hc hs;rw [hs];refine⟨_,congrArg Ending.returned (QsM rfl (congrArg _ ?_) (congrArg _ ?_)),hb⟩ <;> grind [QbR,Qbl]
def QaF:Con Tryz.prog:= .mk' ⟨85,[.l (some .i64)],.l none,true⟩
 (fun ads=>match ads with| [d1]=>True|_=>False)
 (fun ads=>match ads with| [d1]=>fun _=>0|_=>fun _=>0)
 (fun ads=>match ads with| [d1]=>fun _=>Qav (Q3 d1)|_=>fun _=>false)
 ⟨_,Tryz.func85,by kernel_rfl,by kernel_rfl⟩ (fun ads w hf hp=>by
   obtain⟨d1,_,rfl,f1,hf⟩:=Qg hf;obtain rfl:=Qm hf;show Calls _ _ #[d1.val] w _;rw [QB f1];exact QfV (Q3 d1) w)
def Qc8:Con Tryz.prog:= .mk' ⟨87,[.l (some .u32)],.l none,true⟩
 (fun ads=>match ads with| [d1]=>True|_=>False)
 (fun ads=>match ads with| [d1]=>fun _=>0|_=>fun _=>0)
 (fun ads=>match ads with| [d1]=>fun _=>KM (Q3 d1)|_=>fun _=>false)
 ⟨_,Tryz.func87,by kernel_rfl,by kernel_rfl⟩ (fun ads w hf hp=>by
   obtain⟨d1,_,rfl,f1,hf⟩:=Qg hf;obtain rfl:=Qm hf;show Calls _ _ #[d1.val] w _;rw [QB f1];exact Qld (Q3 d1) w)
def Qc4:Con Tryz.prog:= .mk' ⟨114,[.a Qc],.tp [.inl (some .u8),.inl (some .i64),.inl none],true⟩
 (fun ads=>match ads with| [d1]=>True|_=>False)
 (fun ads=>match ads with| [d1]=>fun j=>if j=0 then YF (QL d1)else 5|_=>fun _=>0)
 (fun ads=>match ads with| [d1]=>fun _=>YF (QL d1) != 0|_=>fun _=>false)
 ⟨_,Tryz.func114,by kernel_rfl,by kernel_rfl⟩ (fun ads w hf hp=>by
   obtain⟨d1,_,rfl,f1,hf⟩:=Qg hf;obtain rfl:=Qm hf;show Calls _ _ #[d1.val] w _;rw [Zd f1];exact Qkw (QL d1) w)
def Wd:Con Tryz.prog:=⟨⟨115,[.a Qc],.tp [.inl (some .u8),.inl (some .i64),.inl none],false⟩,fun _=>True,fun ads i b=>match ads with| [d1]=>i 1=QbR (QL d1)∧b 2=Qbl (QL d1)|_=>False,
 ⟨_,Tryz.func115,by kernel_rfl,by kernel_rfl⟩,(fun h=>by cases h),(fun h=>by cases h),fun ads w hf hp=>by
   obtain⟨d1,_,rfl,f1,hf⟩:=Qg hf;obtain rfl:=Qm hf;show Calls _ _ #[d1.val] w _;rw [Zd f1];refine(Qcd (QL d1) w).mono fun en w' hen=>?_
   obtain⟨c,rfl,hb⟩:=hen;exact⟨fun j=>if j=0 then c else QbR (QL d1),fun _=>Qbl (QL d1),rfl,hb,rfl,rfl⟩⟩
def X8(i:Ins):Int:=
 if i.op=0∨i.op=1∨i.op=2 then 0 else if i.op=3∨i.op=4 then 1
 else if 5≤i.op∧i.op≤15 then(if i.form=0 then 3 else if i.form=1 then 4 else if i.form=2 then 6 else 0)
 else if i.op=16∨i.op=17∨i.op=18∨i.op=19 then 5 else if i.op=20∨i.op=25 then QbR i else if i.op=23 then 8 else if i.op=24∨i.op=21 then 2
 else if i.op=22 then 6 else if i.op=26∨i.op=27 then 2 else 0
def QhZ(i:Ins):Bool:=
 if i.op=0∨i.op=1∨i.op=2 then true else if i.op=3∨i.op=4 then true
 else if 5≤i.op∧i.op≤15 then(if i.form=0 then true else if i.form=1 then true else if i.form=2 then true else false)
 else if i.op=16∨i.op=17∨i.op=18 then YF i != 0 else if i.op=19 then true else if i.op=20∨i.op=25 then Qbl i else if i.op=23 then true else if i.op=24∨i.op=21 then true
 else if i.op=22 then true else if i.op=26∨i.op=27 then true else false
def Qmg:List Sg:= [⟨114,[.a Qc],.tp [.inl (some .u8),.inl (some .i64),.inl none],true⟩,⟨115,[.a Qc],.tp [.inl (some .u8),.inl (some .i64),.inl none],false⟩]
def Qg0:List PX:= [.a (Qa 0 0 Qc)]
def QiZ:List Rw:= []
def Qcc:Cfg:=⟨1,Qmg,[]⟩
def Qme:List Lf:=
 let z0:PX:= .l (.t (.b true))
 let z1:VX:= .tp [.l (.n .u8 (.cv .u8 (.v 0 2))),.l (.n .i64 (.i 0)),z0]
 let z2:List Cd:= [.c (.c .eql (.v 0 2) (.i 0)) false]
 let z3:List Cd:=(.c (.c .eql (.v 0 2) (.i 1)) false :: z2)
 let z4:List Cd:=(.c (.c .eql (.v 0 2) (.i 2)) false :: z3)
 let z5:SX:= .cv .u8 (.o .and .i64 (.v 0 6) (.i 7))
 let z6:List Cd:=(.c (.c .eql (.v 0 2) (.i 3)) false :: z4)
 let z7:List Cd:=(.c (.c .eql (.v 0 2) (.i 4)) false :: z6)
 let z8:List Cd:=(.c (.c .geq (.v 0 2) (.i 5)) true :: .c (.c .leq (.v 0 2) (.i 15)) true :: z7)
 let z9:SX:= .cv .u8 (.o .sub .i64 (.v 0 2) (.i 5))
 let z10:List Cd:=(.c (.c .eql (.v 0 3) (.i 0)) false :: z8)
 let z11:List Cd:=(.c (.c .eql (.v 0 3) (.i 1)) false :: z10)
 let z12:VX:= .tp [.l (.n .u8 (.i 0)),.l (.n .i64 (.i 0)),.l (.t (.b false))]
 let z13:PX:= .a (Qa 0 0 Qc)
 let z14:List Cd:=(.c (.an (.c .geq (.v 0 2) (.i 5)) (.c .leq (.v 0 2) (.i 15))) false :: z7)
 let z15:List Cd:=(.c (.c .eql (.v 0 2) (.i 16)) false :: z14)
 let z16:List Cd:=(.c (.c .eql (.v 0 2) (.i 17)) false :: z15)
 let z17:List Cd:=(.c (.c .eql (.v 0 2) (.i 18)) false :: z16)
 let z18:List Cd:=(.c (.c .eql (.v 0 2) (.i 19)) false :: z17)
 let z19:List Cd:=(.c (.c .eql (.v 0 2) (.i 20)) false :: .c (.c .eql (.v 0 2) (.i 25)) false :: z18)
 let z20:List Cd:=(.c (.c .eql (.v 0 2) (.i 23)) false :: z19)
 let z21:PX:= .l (.n .i64 (.i 2))
 let z22:List Cd:=(.c (.c .eql (.v 0 2) (.i 24)) false :: z20)
 let z23:List Cd:=(.c (.c .eql (.v 0 2) (.i 21)) false :: z22)
 let z24:List Cd:=(.c (.c .eql (.v 0 2) (.i 22)) false :: z23)
 let z25:List Cd:=(.c (.c .eql (.v 0 2) (.i 26)) false :: z24)
 [⟨[.c (.c .eql (.v 0 2) (.i 0)) true],z1⟩,⟨(.c (.c .eql (.v 0 2) (.i 1)) true :: z2),z1⟩,⟨(.c (.c .eql (.v 0 2) (.i 2)) true :: z3),z1⟩,⟨(.c (.c .eql (.v 0 2) (.i 3)) true :: z4),.tp [.l (.n .u8 (.o .add .u8 (.i 8) z5)),.l (.n .i64 (.i 1)),z0]⟩,⟨(.c (.c .eql (.v 0 2) (.i 4)) true :: z6),.tp [.l (.n .u8 (.o .add .u8 (.i 16) z5)),.l (.n .i64 (.i 1)),z0]⟩,⟨(.c (.c .eql (.v 0 3) (.i 0)) true :: z8),.tp [.l (.n .u8 (.o .add .u8 (.i 32) z9)),.l (.n .i64 (.i 3)),z0]⟩,⟨(.c (.c .eql (.v 0 3) (.i 1)) true :: z10),.tp [.l (.n .u8 (.o .add .u8 (.i 48) z9)),.l (.n .i64 (.i 4)),z0]⟩,⟨(.c (.c .eql (.v 0 3) (.i 2)) true :: z11),.tp [.l (.n .u8 (.o .add .u8 (.i 64) z9)),.l (.n .i64 (.i 6)),z0]⟩,⟨(.c (.c .eql (.v 0 3) (.i 2)) false :: z11),z12⟩,⟨(.f 39 0 [z13] :: .c (.c .eql (.v 0 2) (.i 16)) true :: z14),.tp [.l (.n .u8 (.v 39 0)),.l (.n .i64 (.v 39 1)),.l (.t (.v 39 2))]⟩,⟨(.f 43 0 [z13] :: .c (.c .eql (.v 0 2) (.i 17)) true :: z15),.tp [.l (.n .u8 (.v 43 0)),.l (.n .i64 (.v 43 1)),.l (.t (.v 43 2))]⟩,⟨(.f 47 0 [z13] :: .c (.c .eql (.v 0 2) (.i 18)) true :: z16),.tp [.l (.n .u8 (.v 47 0)),.l (.n .i64 (.v 47 1)),.l (.t (.v 47 2))]⟩,⟨(.c (.c .eql (.v 0 2) (.i 19)) true :: z17),.tp [.l (.n .u8 (.i 90)),.l (.n .i64 (.i 5)),z0]⟩,⟨(.f 60 1 [z13] :: .c (.an (.no (.c .eql (.v 0 2) (.i 20))) (.no (.c .eql (.v 0 2) (.i 25)))) false :: z18),.tp [.l (.n .u8 (.v 60 0)),.l (.n .i64 (.v 60 1)),.l (.t (.v 60 2))]⟩,⟨(.c (.c .eql (.v 0 2) (.i 23)) true :: z19),.tp [.l (.n .u8 (.i 128)),.l (.n .i64 (.i 8)),z0]⟩,⟨(.c (.c .eql (.v 0 2) (.i 24)) true :: z20),.tp [.l (.n .u8 (.i 129)),z21,z0]⟩,⟨(.c (.c .eql (.v 0 2) (.i 21)) true :: z22),.tp [.l (.n .u8 (.i 130)),z21,z0]⟩,⟨(.c (.c .eql (.v 0 2) (.i 22)) true :: z23),.tp [.l (.n .u8 (.i 131)),.l (.n .i64 (.i 6)),z0]⟩,⟨(.c (.c .eql (.v 0 2) (.i 26)) true :: z24),.tp [.l (.n .u8 (.i 160)),z21,z0]⟩,⟨(.c (.c .eql (.v 0 2) (.i 27)) true :: z25),.tp [.l (.n .u8 (.i 161)),z21,z0]⟩,⟨(.c (.c .eql (.v 0 2) (.i 27)) false :: z25),z12⟩]
def Qmf:List Ob:=
 let z0:List Cd:= [.c (.an (.c .geq (.v 0 2) (.i 5)) (.c .leq (.v 0 2) (.i 15))) false,.c (.c .eql (.v 0 2) (.i 4)) false,.c (.c .eql (.v 0 2) (.i 3)) false,.c (.c .eql (.v 0 2) (.i 2)) false,.c (.c .eql (.v 0 2) (.i 1)) false,.c (.c .eql (.v 0 2) (.i 0)) false]
 let z1:PX:= .a (Qa 0 0 Qc)
 let z2:List Cd:=(.c (.c .eql (.v 0 2) (.i 16)) false :: z0)
 let z3:List Cd:=(.c (.c .eql (.v 0 2) (.i 17)) false :: z2)
 [.pre (.c (.c .eql (.v 0 2) (.i 16)) true :: z0) 0 [z1],.pre (.c (.c .eql (.v 0 2) (.i 17)) true :: z2) 0 [z1],.pre (.c (.c .eql (.v 0 2) (.i 18)) true :: z3) 0 [z1],.pre (.c (.an (.no (.c .eql (.v 0 2) (.i 20))) (.no (.c .eql (.v 0 2) (.i 25)))) false :: .c (.c .eql (.v 0 2) (.i 19)) false :: .c (.c .eql (.v 0 2) (.i 18)) false :: z3) 1 [z1]]
theorem QiY:QS Tryz.prog Qcc 2000 Tryz.f84 Qg0 QiZ=some (Qme,Qmf):=by kernel_rfl
set_option maxHeartbeats 4000000 in
theorem Qlh(i:Ins)(w:World):Calls Tryz.prog 84 #[i.val] w fun en w'=>∃c,en= .returned (.tuple #[.int .u8 c,.int .i64 (X8 i),.bool (QhZ i)])∧Below w.heap.size w w':=by
 refine VK (C:= [Qc4,Wd]) (I:= []) Qo (G:=Qcc) rfl Tryz.func84 QiY (XB i) w (fun r hr=>(List.not_mem_nil hr).elim) (fun o ho=>Ze.ok (QC.all (p:=fun o=>∀e,Env.agr 1 (XB i) e→Ze _ _ e o) ?_ o ho)) _ (QC.all ?_)
 ·refine⟨?_,?_,?_,?_,trivial⟩;all_goals exact fun e he _=>trivial
 refine⟨?_,?_,?_,?_,?_,?_,?_,?_,?_,?_,?_,?_,?_,?_,?_,?_,?_,?_,?_,?_,?_,trivial⟩
 all_goals
  (intro e u w' he hc hs hb
   replace hc:=QC.of hc;have h0:=Zu he (by decide)
   simp only [QC,Cd.holds,SX.den,cmI,PX.den,LX.den,VX.sat,List.map_cons,List.map_nil,List.append_nil,beq_iff_eq,bne_iff_ne,beq_eq_false_iff_ne,bne_eq_false_iff_eq,decide_eq_true_eq,decide_eq_false_iff_not,Bool.and_eq_true,Bool.and_eq_false_iff,ne_eq,h0,Q2,List.getElem?_cons_zero,List.getElem?_cons_succ,Option.some.injEq,exists_eq_left',Qc4,Wd,Q1,Qr,Zi h0]at hc hs;rw [hs]
   refine⟨_,congrArg Ending.returned (QsM rfl (congrArg _ ?_) (congrArg _ ?_)),hb⟩ <;> grind [X8,QhZ])
end Go.Proofs.YteplnamfpodmlaaGreat
end
section
namespace Go.Proofs.YteplnamfpodmlaaGreat
theorem Qos(i:Ins):i.val= .agg #[.int .u32 i.addr,.int .u32 i.imm,.int .i64 i.op,.int .i64 i.form,.int .i64 i.width,.int .i64 i.cc,.int .i64 i.a,.int .i64 i.b,.int .i64 i.size]:=rfl
theorem Quw{a b c d e f g h i a' b' c' d' e' f' g' h' i':Value}(h1:a=a')(h2:b=b')(h3:c=c')(h4:d=d')(h5:e=e')(h6:f=f')(h7:g=g')(h8:h=h')(h9:i=i'):Value.agg #[a,b,c,d,e,f,g,h,i]= .agg #[a',b',c',d',e',f',g',h',i']:=by rw [h1,h2,h3,h4,h5,h6,h7,h8,h9]
def QhO(i:Ins)(s:Int):Ins:=
 {addr:=i.addr,op:=i.op,size:=i.size
  a:=if s=1∨s=2∨s=3∨s=4∨s=5∨s=6 then i.a else 0
  b:=if s=3∨s=5 then i.b else 0
  imm:=if s=4∨s=5∨s=6∨s=7∨s=8 then i.imm else 0
  form:=if 5≤i.op∧i.op≤15∨i.op=20 then i.form else 0
  width:=if i.op=16∨i.op=17∨i.op=18 then i.width else 0
  cc:=if i.op=20∨i.op=25 then i.cc else 0}
def QrE:List Sg:= []
def QlT:List PX:= [.a (Qa 0 0 Qc),.l (.n .i64 (.v 1 0))]
def Qpk:List Rw:= []
def Qpi:Cfg:=⟨2,QrE,[]⟩
def QrC:List Lf:=
 let z0:Cd:= .c (.c .geq (.v 0 2) (.i 5)) true
 let z1:Cd:= .c (.c .leq (.v 0 2) (.i 15)) true
 let z2:List Cd:= [.c (.c .eql (.v 1 0) (.i 1)) true]
 let z3:LX:= .n .u32 (.v 0 0)
 let z4:LX:= .n .u32 (.i 0)
 let z5:LX:= .n .i64 (.v 0 2)
 let z6:LX:= .n .i64 (.v 0 3)
 let z7:LX:= .n .i64 (.i 0)
 let z8:List LX:= [.n .i64 (.v 0 6),z7,.n .i64 (.v 0 8)]
 let z9:VX:= .v (.a (z3 :: z4 :: z5 :: z6 :: z7 :: z7 :: z8))
 let z10:Cd:= .c (.c .eql (.v 0 2) (.i 16)) true
 let z11:Cd:= .c (.an (.c .geq (.v 0 2) (.i 5)) (.c .leq (.v 0 2) (.i 15))) false
 let z12:LX:= .n .i64 (.v 0 4)
 let z13:List LX:=(z5 :: z7 :: z12 :: z7 :: z8)
 let z14:VX:= .v (.a (z3 :: z4 :: z13))
 let z15:Cd:= .c (.c .eql (.v 0 2) (.i 17)) true
 let z16:Cd:= .c (.c .eql (.v 0 2) (.i 16)) false
 let z17:Cd:= .c (.c .eql (.v 0 2) (.i 18)) true
 let z18:Cd:= .c (.c .eql (.v 0 2) (.i 17)) false
 let z19:Cd:= .c (.c .eql (.v 0 2) (.i 20)) true
 let z20:Cd:= .c (.c .eql (.v 0 2) (.i 18)) false
 let z21:List Cd:=(z20 :: z18 :: z16 :: z11 :: z2)
 let z22:LX:= .n .i64 (.v 0 5)
 let z23:List LX:=(z5 :: z6 :: z7 :: z22 :: z8)
 let z24:Cd:= .c (.c .eql (.v 0 2) (.i 25)) true
 let z25:Cd:= .c (.c .eql (.v 0 2) (.i 20)) false
 let z26:List LX:=(z5 :: z7 :: z7 :: z22 :: z8)
 let z27:Cd:= .c (.c .eql (.v 0 2) (.i 25)) false
 let z28:VX:= .v (.a (z3 :: z4 :: z5 :: z7 :: z7 :: z7 :: z8))
 let z29:List Cd:= [.c (.c .eql (.v 1 0) (.i 1)) false]
 let z30:List Cd:=(.c (.c .eql (.v 1 0) (.i 2)) true :: z29)
 let z31:List Cd:=(z20 :: z18 :: z16 :: z11 :: z30)
 let z32:List Cd:=(.c (.c .eql (.v 1 0) (.i 2)) false :: z29)
 let z33:List Cd:=(.c (.c .eql (.v 1 0) (.i 3)) true :: z32)
 let z34:List LX:= [.n .i64 (.v 0 6),.n .i64 (.v 0 7),.n .i64 (.v 0 8)]
 let z35:List LX:=(z5 :: z6 :: z7 :: z7 :: z34)
 let z36:List LX:=(z5 :: z7 :: z12 :: z7 :: z34)
 let z37:VX:= .v (.a (z3 :: z4 :: z36))
 let z38:List Cd:=(z20 :: z18 :: z16 :: z11 :: z33)
 let z39:List LX:=(z5 :: z6 :: z7 :: z22 :: z34)
 let z40:List LX:=(z5 :: z7 :: z7 :: z22 :: z34)
 let z41:List LX:=(z5 :: z7 :: z7 :: z7 :: z34)
 let z42:List Cd:=(.c (.c .eql (.v 1 0) (.i 3)) false :: z32)
 let z43:List Cd:=(.c (.c .eql (.v 1 0) (.i 4)) true :: z42)
 let z44:LX:= .n .u32 (.v 0 1)
 let z45:VX:= .v (.a (z3 :: z44 :: z5 :: z6 :: z7 :: z7 :: z8))
 let z46:VX:= .v (.a (z3 :: z44 :: z13))
 let z47:List Cd:=(z20 :: z18 :: z16 :: z11 :: z43)
 let z48:VX:= .v (.a (z3 :: z44 :: z5 :: z7 :: z7 :: z7 :: z8))
 let z49:List Cd:=(.c (.c .eql (.v 1 0) (.i 4)) false :: z42)
 let z50:List Cd:=(.c (.c .eql (.v 1 0) (.i 6)) true :: z49)
 let z51:List Cd:=(z20 :: z18 :: z16 :: z11 :: z50)
 let z52:List Cd:=(.c (.c .eql (.v 1 0) (.i 6)) false :: z49)
 let z53:List Cd:=(.c (.c .eql (.v 1 0) (.i 5)) true :: z52)
 let z54:VX:= .v (.a (z3 :: z44 :: z36))
 let z55:List Cd:=(z20 :: z18 :: z16 :: z11 :: z53)
 let z56:List Cd:=(.c (.c .eql (.v 1 0) (.i 5)) false :: z52)
 let z57:List Cd:=(.c (.c .eql (.v 1 0) (.i 7)) true :: z56)
 let z58:List LX:= [z7,z7,z7,.n .i64 (.v 0 8)]
 let z59:VX:= .v (.a (z3 :: z44 :: z5 :: z6 :: z7 :: z58))
 let z60:VX:= .v (.a (z3 :: z44 :: z5 :: z7 :: z12 :: z58))
 let z61:List Cd:=(z20 :: z18 :: z16 :: z11 :: z57)
 let z62:List LX:= [z7,z22,z7,z7,.n .i64 (.v 0 8)]
 let z63:VX:= .v (.a (z3 :: z44 :: z5 :: z6 :: z62))
 let z64:VX:= .v (.a (z3 :: z44 :: z5 :: z7 :: z62))
 let z65:VX:= .v (.a (z3 :: z44 :: z5 :: z7 :: z7 :: z58))
 let z66:List Cd:=(.c (.c .eql (.v 1 0) (.i 7)) false :: z56)
 let z67:List Cd:=(.c (.c .eql (.v 1 0) (.i 8)) true :: z66)
 let z68:List Cd:=(z20 :: z18 :: z16 :: z11 :: z67)
 let z69:List Cd:=(.c (.c .eql (.v 1 0) (.i 8)) false :: z66)
 let z70:VX:= .v (.a (z3 :: z4 :: z5 :: z7 :: z12 :: z58))
 let z71:List Cd:=(z20 :: z18 :: z16 :: z11 :: z69)
 [⟨(z0 :: z1 :: z2),z9⟩,⟨(z10 :: z11 :: z2),z14⟩,⟨(z15 :: z16 :: z11 :: z2),z14⟩,⟨(z17 :: z18 :: z16 :: z11 :: z2),z14⟩,⟨(z19 :: z21),.v (.a (z3 :: z4 :: z23))⟩,⟨(z24 :: z25 :: z21),.v (.a (z3 :: z4 :: z26))⟩,⟨(z27 :: z25 :: z21),z28⟩,⟨(z0 :: z1 :: z30),z9⟩,⟨(z10 :: z11 :: z30),z14⟩,⟨(z15 :: z16 :: z11 :: z30),z14⟩,⟨(z17 :: z18 :: z16 :: z11 :: z30),z14⟩,⟨(z19 :: z31),.v (.a (z3 :: z4 :: z23))⟩,⟨(z24 :: z25 :: z31),.v (.a (z3 :: z4 :: z26))⟩,⟨(z27 :: z25 :: z31),z28⟩,⟨(z0 :: z1 :: z33),.v (.a (z3 :: z4 :: z35))⟩,⟨(z10 :: z11 :: z33),z37⟩,⟨(z15 :: z16 :: z11 :: z33),z37⟩,⟨(z17 :: z18 :: z16 :: z11 :: z33),z37⟩,⟨(z19 :: z38),.v (.a (z3 :: z4 :: z39))⟩,⟨(z24 :: z25 :: z38),.v (.a (z3 :: z4 :: z40))⟩,⟨(z27 :: z25 :: z38),.v (.a (z3 :: z4 :: z41))⟩,⟨(z0 :: z1 :: z43),z45⟩,⟨(z10 :: z11 :: z43),z46⟩,⟨(z15 :: z16 :: z11 :: z43),z46⟩,⟨(z17 :: z18 :: z16 :: z11 :: z43),z46⟩,⟨(z19 :: z47),.v (.a (z3 :: z44 :: z23))⟩,⟨(z24 :: z25 :: z47),.v (.a (z3 :: z44 :: z26))⟩,⟨(z27 :: z25 :: z47),z48⟩,⟨(z0 :: z1 :: z50),z45⟩,⟨(z10 :: z11 :: z50),z46⟩,⟨(z15 :: z16 :: z11 :: z50),z46⟩,⟨(z17 :: z18 :: z16 :: z11 :: z50),z46⟩,⟨(z19 :: z51),.v (.a (z3 :: z44 :: z23))⟩,⟨(z24 :: z25 :: z51),.v (.a (z3 :: z44 :: z26))⟩,⟨(z27 :: z25 :: z51),z48⟩,⟨(z0 :: z1 :: z53),.v (.a (z3 :: z44 :: z35))⟩,⟨(z10 :: z11 :: z53),z54⟩,⟨(z15 :: z16 :: z11 :: z53),z54⟩,⟨(z17 :: z18 :: z16 :: z11 :: z53),z54⟩,⟨(z19 :: z55),.v (.a (z3 :: z44 :: z39))⟩,⟨(z24 :: z25 :: z55),.v (.a (z3 :: z44 :: z40))⟩,⟨(z27 :: z25 :: z55),.v (.a (z3 :: z44 :: z41))⟩,⟨(z0 :: z1 :: z57),z59⟩,⟨(z10 :: z11 :: z57),z60⟩,⟨(z15 :: z16 :: z11 :: z57),z60⟩,⟨(z17 :: z18 :: z16 :: z11 :: z57),z60⟩,⟨(z19 :: z61),z63⟩,⟨(z24 :: z25 :: z61),z64⟩,⟨(z27 :: z25 :: z61),z65⟩,⟨(z0 :: z1 :: z67),z59⟩,⟨(z10 :: z11 :: z67),z60⟩,⟨(z15 :: z16 :: z11 :: z67),z60⟩,⟨(z17 :: z18 :: z16 :: z11 :: z67),z60⟩,⟨(z19 :: z68),z63⟩,⟨(z24 :: z25 :: z68),z64⟩,⟨(z27 :: z25 :: z68),z65⟩,⟨(z0 :: z1 :: z69),.v (.a (z3 :: z4 :: z5 :: z6 :: z7 :: z58))⟩,⟨(z10 :: z11 :: z69),z70⟩,⟨(z15 :: z16 :: z11 :: z69),z70⟩,⟨(z17 :: z18 :: z16 :: z11 :: z69),z70⟩,⟨(z19 :: z71),.v (.a (z3 :: z4 :: z5 :: z6 :: z62))⟩,⟨(z24 :: z25 :: z71),.v (.a (z3 :: z4 :: z5 :: z7 :: z62))⟩,⟨(z27 :: z25 :: z71),.v (.a (z3 :: z4 :: z5 :: z7 :: z7 :: z58))⟩]
def QrD:List Ob:= []
theorem Qpj:QS Tryz.prog Qpi 2000 Tryz.f86 QlT Qpk=some (QrC,QrD):=by kernel_rfl
set_option maxHeartbeats 8000000 in
theorem QqO(i:Ins)(s:Int)(w:World):Calls Tryz.prog 86 #[i.val,.int .i64 s] w (Ret (QhO i s).val w):=by
 refine Q5 (C:= []) (I:= []) Qo rfl Tryz.func86 Qpj (QnD i s) w rfl (fun r hr=>(List.not_mem_nil hr).elim) _ trivial ?_
 refine⟨?_,?_,?_,?_,?_,?_,?_,?_,?_,?_,?_,?_,?_,?_,?_,?_,?_,?_,?_,?_,?_,?_,?_,?_,?_,?_,?_,?_,?_,?_,?_,?_,?_,?_,?_,?_,?_,?_,?_,?_,?_,?_,?_,?_,?_,?_,?_,?_,?_,?_,?_,?_,?_,?_,?_,?_,?_,?_,?_,?_,?_,?_,?_,trivial⟩
 all_goals
  intro e u he hc hs;obtain⟨h0,h1⟩:=Qh3 he (by decide)
  simp only [QC,Cd.holds,SX.den,cmI,PX.den,LX.den,VX.sat,List.map_cons,List.map_nil,List.append_nil,beq_iff_eq,bne_iff_ne,beq_eq_false_iff_ne,bne_eq_false_iff_eq,decide_eq_true_eq,decide_eq_false_iff_not,Bool.and_eq_true,Bool.and_eq_false_iff,ne_eq,h0,h1,Q2]at hc hs;rw [hs,Qos]
  refine Quw (congrArg _ ?_) (congrArg _ ?_) (congrArg _ ?_) (congrArg _ ?_) (congrArg _ ?_) (congrArg _ ?_) (congrArg _ ?_) (congrArg _ ?_) (congrArg _ ?_) <;> simp only [QhO] <;> first|rfl|grind
def Qhy:Con Tryz.prog:= .mk' ⟨86,[.a Qc,.l (some .i64)],.a Qc,true⟩
 (fun ads=>match ads with| [d1,d2]=>True|_=>False)
 (fun ads=>match ads with| [d1,d2]=>Q2 (QhO (QL d1) (Q3 d2))|_=>fun _=>0)
 (fun ads=>match ads with| [d1,d2]=>fun _=>false|_=>fun _=>false)
 ⟨_,Tryz.func86,by kernel_rfl,by kernel_rfl⟩ (fun ads w hf hp=>by
   obtain⟨d1,_,rfl,f1,hf⟩:=Qg hf;obtain⟨d2,_,rfl,f2,hf⟩:=Qg hf;obtain rfl:=Qm hf;show Calls _ _ #[d1.val,d2.val] w _;rw [Zd f1,QB f2];exact QqO (QL d1) (Q3 d2) w)
def Qc9:Con Tryz.prog:=⟨⟨84,[.a Qc],.tp [.inl (some .u8),.inl (some .i64),.inl none],false⟩,fun _=>True,fun ads i b=>match ads with| [d1]=>i 1=X8 (QL d1)∧b 2=QhZ (QL d1)|_=>False,
 ⟨_,Tryz.func84,by kernel_rfl,by kernel_rfl⟩,(fun h=>by cases h),(fun h=>by cases h),fun ads w hf hp=>by
   obtain⟨d1,_,rfl,f1,hf⟩:=Qg hf;obtain rfl:=Qm hf;show Calls _ _ #[d1.val] w _;rw [Zd f1];refine(Qlh (QL d1) w).mono fun en w' hen=>?_
   obtain⟨c,rfl,hb⟩:=hen;exact⟨fun j=>if j=0 then c else X8 (QL d1),fun _=>QhZ (QL d1),rfl,hb,rfl,rfl⟩⟩
def QfD(i:Ins):Bool:=KM (IntKind.u32.wrap (IntKind.u32.wrap (i.imm - i.addr) - 2))
def Vw(i:Ins):Int:=
 if QhZ i=false∨Qav i.a=false∨Qav i.b=false∨QhO i (X8 i)≠i then 2
 else if(X8 i=4∨X8 i=5)∧KM i.imm=false∨X8 i=7∧QfD i=false then 7 else 0
def YI(i:Ins):Int:=if Vw i=0 then X8 i else 0
def Qpb:List Sg:= [⟨84,[.a Qc],.tp [.inl (some .u8),.inl (some .i64),.inl none],false⟩,⟨85,[.l (some .i64)],.l none,true⟩,⟨86,[.a Qc,.l (some .i64)],.a Qc,true⟩,⟨87,[.l (some .u32)],.l none,true⟩]
def QiJ:List PX:= [.a (Qa 0 0 Qc)]
def QlO:List Rw:= []
def QdD:Cfg:=⟨1,Qpb,[]⟩
def QoZ:List Lf:=
 let z0:List Cd:= [.f 31 2 [.a (Qa 0 0 Qc),.l (.n .i64 (.v 6 1))],.f 25 1 [.l (.n .i64 (.v 0 7))],.f 19 1 [.l (.n .i64 (.v 0 6))],.f 6 0 [.a (Qa 0 0 Qc)]]
 let z1:PX:= .l (.n .i64 (.i 0))
 let z2:SX:= .an (.no (.an (.no (.c .eql (.v 6 1) (.i 4))) (.no (.c .eql (.v 6 1) (.i 5))))) (.no (.v 44 0))
 let z3:SX:= .an (.c .eql (.v 6 1) (.i 7)) (.no (.v 57 0))
 let z4:List Cd:=(.f 57 3 [.l (.n .u32 (.o .sub .u32 (.o .sub .u32 (.v 0 1) (.v 0 0)) (.i 2)))] :: .f 44 3 [.l (.n .u32 (.v 0 1))] :: .c (.v 6 2) true :: .c (.v 19 0) true :: .c (.v 25 0) true :: .c (.c .eql (.v 31 0) (.v 0 0)) true :: .c (.c .eql (.v 31 1) (.v 0 1)) true :: .c (.c .eql (.v 31 2) (.v 0 2)) true :: .c (.c .eql (.v 31 3) (.v 0 3)) true :: .c (.c .eql (.v 31 4) (.v 0 4)) true :: .c (.c .eql (.v 31 5) (.v 0 5)) true :: .c (.c .eql (.v 31 6) (.v 0 6)) true :: .c (.c .eql (.v 31 7) (.v 0 7)) true :: .c (.c .eql (.v 31 8) (.v 0 8)) true :: z0)
 [⟨(.c (.an (.an (.an (.v 6 2) (.v 19 0)) (.v 25 0)) (.an (.c .eql (.v 31 0) (.v 0 0)) (.an (.c .eql (.v 31 1) (.v 0 1)) (.an (.c .eql (.v 31 2) (.v 0 2)) (.an (.c .eql (.v 31 3) (.v 0 3)) (.an (.c .eql (.v 31 4) (.v 0 4)) (.an (.c .eql (.v 31 5) (.v 0 5)) (.an (.c .eql (.v 31 6) (.v 0 6)) (.an (.c .eql (.v 31 7) (.v 0 7)) (.c .eql (.v 31 8) (.v 0 8))))))))))) false :: z0),.tp [.l (.n .u8 (.i 0)),z1,.l (.n .i64 (.i 2))]⟩,⟨(.c (.an (.no z2) (.no z3)) false :: z4),.tp [.l (.n .u8 (.i 0)),z1,.l (.n .i64 (.i 7))]⟩,⟨(.c z2 false :: .c z3 false :: z4),.tp [.l (.n .u8 (.v 6 0)),.l (.n .i64 (.v 6 1)),z1]⟩]
def Qpa:List Ob:=
 let z0:PX:= .a (Qa 0 0 Qc)
 let z1:List Cd:= [.f 19 1 [.l (.n .i64 (.v 0 6))],.f 6 0 [z0]]
 let z2:List Cd:=(.f 25 1 [.l (.n .i64 (.v 0 7))] :: z1)
 let z3:List Cd:=(.c (.v 6 2) true :: .c (.v 19 0) true :: .c (.v 25 0) true :: .c (.c .eql (.v 31 0) (.v 0 0)) true :: .c (.c .eql (.v 31 1) (.v 0 1)) true :: .c (.c .eql (.v 31 2) (.v 0 2)) true :: .c (.c .eql (.v 31 3) (.v 0 3)) true :: .c (.c .eql (.v 31 4) (.v 0 4)) true :: .c (.c .eql (.v 31 5) (.v 0 5)) true :: .c (.c .eql (.v 31 6) (.v 0 6)) true :: .c (.c .eql (.v 31 7) (.v 0 7)) true :: .c (.c .eql (.v 31 8) (.v 0 8)) true :: .f 31 2 [z0,.l (.n .i64 (.v 6 1))] :: z2)
 [.pre [] 0 [z0],.pre [.f 6 0 [z0]] 1 [.l (.n .i64 (.v 0 6))],.pre z1 1 [.l (.n .i64 (.v 0 7))],.pre z2 2 [z0,.l (.n .i64 (.v 6 1))],.pre z3 3 [.l (.n .u32 (.v 0 1))],.pre (.f 44 3 [.l (.n .u32 (.v 0 1))] :: z3) 3 [.l (.n .u32 (.o .sub .u32 (.o .sub .u32 (.v 0 1) (.v 0 0)) (.i 2)))]]
theorem QlN:QS Tryz.prog QdD 2000 Tryz.f57 QiJ QlO=some (QoZ,Qpa):=by kernel_rfl
theorem QtL{i j:Ins}:i≠j↔¬(i.addr=j.addr∧i.imm=j.imm∧i.op=j.op∧i.form=j.form∧i.width=j.width∧i.cc=j.cc∧i.a=j.a∧i.b=j.b∧i.size=j.size):=by
 cases i;cases j;simp
set_option maxHeartbeats 8000000 in
theorem Qog(i:Ins)(w:World):Calls Tryz.prog 57 #[i.val] w fun en w'=>∃c,en= .returned (.tuple #[.int .u8 c,.int .i64 (YI i),.int .i64 (Vw i)])∧Below w.heap.size w w':=by
 refine VK (C:= [Qc9,QaF,Qhy,Qc8]) (I:= []) Qo (G:=QdD) rfl Tryz.func57 QlN (XB i) w (fun r hr=>(List.not_mem_nil hr).elim) (fun o ho=>Ze.ok (QC.all (p:=fun o=>∀e,Env.agr 1 (XB i) e→Ze _ _ e o) ?_ o ho)) _ (QC.all ?_)
 ·refine⟨?_,?_,?_,?_,?_,?_,trivial⟩;all_goals exact fun e he _=>trivial
 refine⟨?_,?_,?_,trivial⟩
 all_goals
  intro e u w' he hc hs hb;replace hc:=QC.of hc;have h0:=Zu he (by decide)
  have hi:=Zi h0;simp only [QC,Cd.holds,SX.den,cmI,PX.den,LX.den,VX.sat,List.map_cons,List.map_nil,List.append_nil,beq_iff_eq,bne_iff_ne,beq_eq_false_iff_ne,bne_eq_false_iff_eq,decide_eq_true_eq,decide_eq_false_iff_not,Bool.and_eq_true,Bool.and_eq_false_iff,ne_eq,List.getElem?_cons_zero,List.getElem?_cons_succ,Option.some.injEq,exists_eq_left',Q1,QH,Qr,Qy,Qc9,QaF,Qhy,Qc8,h0,Q2,hi]at hc hs;rw [hs]
  refine⟨_,congrArg Ending.returned (QsM rfl (congrArg _ ?_) (congrArg _ ?_)),hb⟩ <;> (clear hs hb he;simp only [YI,Vw,ne_eq,QtL,QfD];(repeat (rcases hc with ⟨_,hc⟩));(simp_all [Q2,arI]) <;> grind)
def Yr:Con Tryz.prog:=⟨⟨57,[.a Qc],.tp [.inl (some .u8),.inl (some .i64),.inl (some .i64)],false⟩,fun _=>True,fun ads i b=>match ads with| [d1]=>i 1=YI (QL d1)∧i 2=Vw (QL d1)|_=>False,
 ⟨_,Tryz.func57,by kernel_rfl,by kernel_rfl⟩,(fun h=>by cases h),(fun h=>by cases h),fun ads w hf hp=>by
   obtain⟨d1,_,rfl,f1,hf⟩:=Qg hf;obtain rfl:=Qm hf;show Calls _ _ #[d1.val] w _;rw [Zd f1];refine(Qog (QL d1) w).mono fun en w' hen=>?_
   obtain⟨c,rfl,hb⟩:=hen;exact⟨fun j=>if j=0 then c else if j=1 then YI (QL d1)else Vw (QL d1),fun _=>false,rfl,hb,rfl,rfl⟩⟩
def Yx(i:Ins):Bool:=Vw i==0
def Qpu:List Sg:= [⟨57,[.a Qc],.tp [.inl (some .u8),.inl (some .i64),.inl (some .i64)],false⟩]
def Qjm:List PX:= [.a (Qa 0 0 Qc)]
def Qms:List Rw:= []
def Qmq:Cfg:=⟨1,Qpu,[]⟩
def Qps:List Lf:= [⟨[.f 4 0 [.a (Qa 0 0 Qc)]],.v (.l (.t (.c .eql (.v 4 2) (.i 0))))⟩]
def Qpt:List Ob:= [.pre [] 0 [.a (Qa 0 0 Qc)]]
theorem Qmr:QS Tryz.prog Qmq 2000 Tryz.f33 Qjm Qms=some (Qps,Qpt):=by kernel_rfl
theorem QfC(i:Ins)(w:World):Calls Tryz.prog 33 #[i.val] w (Ret (.bool (Yx i)) w):=by
 refine Q5 (C:= [Yr]) (I:= []) Qo rfl Tryz.func33 Qmr (XB i) w rfl (fun r hr=>(List.not_mem_nil hr).elim) _ ⟨fun e he _=>trivial,trivial⟩ ?_
 refine⟨?_,trivial⟩
 all_goals
  intro e u he hc hs;have h0:=Zu he (by decide)
  have hi:=Zi h0;simp only [QC,Cd.holds,SX.den,cmI,PX.den,LX.den,VX.sat,List.map_cons,List.map_nil,List.append_nil,beq_iff_eq,bne_iff_ne,beq_eq_false_iff_ne,bne_eq_false_iff_eq,decide_eq_true_eq,decide_eq_false_iff_not,Bool.and_eq_true,Bool.and_eq_false_iff,ne_eq,List.getElem?_cons_zero,List.getElem?_cons_succ,Option.some.injEq,exists_eq_left',Q1,QH,Qr,Qy,Yr,h0,Q2,hi]at hc hs;rw [hs];simp_all [Yx]
end Go.Proofs.YteplnamfpodmlaaGreat
end
section
namespace Go.Proofs.YteplnamfpodmlaaGreat
def QaO(n:Int):Bool:=decide (0≤n) && decide (n≤14)
def V2(n:Int):Bool:=decide (5≤n) && decide (n≤15)
def XJ(n:Int):Bool:=decide (n=16) || decide (n=17) || decide (n=18)
def QeL(n:Int):Bool:=decide (3≤n) && decide (n≤27) && !decide (n=20) && !decide (n=23)
def Wn(n:Int):Bool:=decide (n=20) || decide (n=25)
def QmE:List Sg:= []
def QgL:List PX:= [.l (.n .i64 (.v 0 0))]
def Qj8:List Rw:= []
def Qj6:Cfg:=⟨1,QmE,[]⟩
def QmC:List Lf:= [⟨[],.v (.l (.t (.an (.c .geq (.v 0 0) (.i 0)) (.c .lss (.v 0 0) (.i 8)))))⟩]
def QmD:List Ob:= []
theorem Qj7:QS Tryz.prog Qj6 2000 Tryz.f94 QgL Qj8=some (QmC,QmD):=by kernel_rfl
theorem QkN(n:Int)(w:World):Calls Tryz.prog 94 #[.int .i64 n] w (Ret (.bool (Qav n)) w):=by
 refine Q5 (C:= []) (I:= []) Qo rfl Tryz.func94 Qj7 (Qcf n) w rfl (fun r hr=>(List.not_mem_nil hr).elim) _ trivial ?_
 refine⟨?_,trivial⟩
 all_goals
  intro e u he hc hs;have h0:=Km he (by decide)
  simp only [QC,Cd.holds,SX.den,cmI,PX.den,LX.den,VX.sat,List.map_cons,List.map_nil,List.append_nil,beq_iff_eq,bne_iff_ne,beq_eq_false_iff_ne,bne_eq_false_iff_eq,decide_eq_true_eq,decide_eq_false_iff_not,Bool.and_eq_true,Bool.and_eq_false_iff,ne_eq,h0]at hc hs;rw [hs];refine congrArg _ ?_
  grind [Qav]
def Qc7:Con Tryz.prog:= .mk' ⟨94,[.l (some .i64)],.l none,true⟩
 (fun ads=>match ads with| [d1]=>True|_=>False)
 (fun ads=>match ads with| [d1]=>fun _=>0|_=>fun _=>0)
 (fun ads=>match ads with| [d1]=>fun _=>Qav (Q3 d1)|_=>fun _=>false)
 ⟨_,Tryz.func94,by kernel_rfl,by kernel_rfl⟩ (fun ads w hf hp=>by
   obtain⟨d1,_,rfl,f1,hf⟩:=Qg hf;obtain rfl:=Qm hf;show Calls _ _ #[d1.val] w _;rw [QB f1];exact QkN (Q3 d1) w)
def Qj4:List Sg:= []
def Qeq:List PX:= [.l (.n .u32 (.v 0 0))]
def QgK:List Rw:= []
def QgI:Cfg:=⟨1,Qj4,[]⟩
def Qj2:List Lf:= [⟨[],.v (.l (.t (.no (.an (.no (.c .leq (.v 0 0) (.i 127))) (.no (.c .geq (.v 0 0) (.i 4294967168)))))))⟩]
def Qj3:List Ob:= []
theorem QgJ:QS Tryz.prog QgI 2000 Tryz.f101 Qeq QgK=some (Qj2,Qj3):=by kernel_rfl
theorem QhG(n:Int)(w:World):Calls Tryz.prog 101 #[.int .u32 n] w (Ret (.bool (KM n)) w):=by
 refine Q5 (C:= []) (I:= []) Qo rfl Tryz.func101 QgJ (Qcf n) w rfl (fun r hr=>(List.not_mem_nil hr).elim) _ trivial ?_
 refine⟨?_,trivial⟩
 all_goals
  intro e u he hc hs;have h0:=Km he (by decide)
  simp only [QC,Cd.holds,SX.den,cmI,PX.den,LX.den,VX.sat,List.map_cons,List.map_nil,List.append_nil,beq_iff_eq,bne_iff_ne,beq_eq_false_iff_ne,bne_eq_false_iff_eq,decide_eq_true_eq,decide_eq_false_iff_not,Bool.and_eq_true,Bool.and_eq_false_iff,ne_eq,h0]at hc hs;rw [hs];refine congrArg _ ?_
  grind [KM]
def QbQ:Con Tryz.prog:= .mk' ⟨101,[.l (some .u32)],.l none,true⟩
 (fun ads=>match ads with| [d1]=>True|_=>False)
 (fun ads=>match ads with| [d1]=>fun _=>0|_=>fun _=>0)
 (fun ads=>match ads with| [d1]=>fun _=>KM (Q3 d1)|_=>fun _=>false)
 ⟨_,Tryz.func101,by kernel_rfl,by kernel_rfl⟩ (fun ads w hf hp=>by
   obtain⟨d1,_,rfl,f1,hf⟩:=Qg hf;obtain rfl:=Qm hf;show Calls _ _ #[d1.val] w _;rw [QB f1];exact QhG (Q3 d1) w)
def Qp9:List Sg:= []
def Qj5:List PX:= [.l (.n .i64 (.v 0 0))]
def QmB:List Rw:= []
def Qm9:Cfg:=⟨1,Qp9,[]⟩
def Qp7:List Lf:= [⟨[],.v (.l (.t (.an (.c .geq (.v 0 0) (.i 0)) (.c .leq (.v 0 0) (.i 14)))))⟩]
def Qp8:List Ob:= []
theorem QmA:QS Tryz.prog Qm9 2000 Tryz.f97 Qj5 QmB=some (Qp7,Qp8):=by kernel_rfl
theorem Qo1(n:Int)(w:World):Calls Tryz.prog 97 #[.int .i64 n] w (Ret (.bool (QaO n)) w):=by
 refine Q5 (C:= []) (I:= []) Qo rfl Tryz.func97 QmA (Qcf n) w rfl (fun r hr=>(List.not_mem_nil hr).elim) _ trivial ?_
 refine⟨?_,trivial⟩
 all_goals
  intro e u he hc hs;have h0:=Km he (by decide)
  simp only [QC,Cd.holds,SX.den,cmI,PX.den,LX.den,VX.sat,List.map_cons,List.map_nil,List.append_nil,beq_iff_eq,bne_iff_ne,beq_eq_false_iff_ne,bne_eq_false_iff_eq,decide_eq_true_eq,decide_eq_false_iff_not,Bool.and_eq_true,Bool.and_eq_false_iff,ne_eq,h0]at hc hs;rw [hs];refine congrArg _ ?_
  grind [QaO]
def QeE:Con Tryz.prog:= .mk' ⟨97,[.l (some .i64)],.l none,true⟩
 (fun ads=>match ads with| [d1]=>True|_=>False)
 (fun ads=>match ads with| [d1]=>fun _=>0|_=>fun _=>0)
 (fun ads=>match ads with| [d1]=>fun _=>QaO (Q3 d1)|_=>fun _=>false)
 ⟨_,Tryz.func97,by kernel_rfl,by kernel_rfl⟩ (fun ads w hf hp=>by
   obtain⟨d1,_,rfl,f1,hf⟩:=Qg hf;obtain rfl:=Qm hf;show Calls _ _ #[d1.val] w _;rw [QB f1];exact Qo1 (Q3 d1) w)
def QmH:List Sg:= []
def QgM:List PX:= [.l (.n .i64 (.v 0 0))]
def QjB:List Rw:= []
def Qj9:Cfg:=⟨1,QmH,[]⟩
def QmF:List Lf:= [⟨[],.v (.l (.t (.an (.c .geq (.v 0 0) (.i 5)) (.c .leq (.v 0 0) (.i 15)))))⟩]
def QmG:List Ob:= []
theorem QjA:QS Tryz.prog Qj9 2000 Tryz.f99 QgM QjB=some (QmF,QmG):=by kernel_rfl
theorem QkO(n:Int)(w:World):Calls Tryz.prog 99 #[.int .i64 n] w (Ret (.bool (V2 n)) w):=by
 refine Q5 (C:= []) (I:= []) Qo rfl Tryz.func99 QjA (Qcf n) w rfl (fun r hr=>(List.not_mem_nil hr).elim) _ trivial ?_
 refine⟨?_,trivial⟩
 all_goals
  intro e u he hc hs;have h0:=Km he (by decide)
  simp only [QC,Cd.holds,SX.den,cmI,PX.den,LX.den,VX.sat,List.map_cons,List.map_nil,List.append_nil,beq_iff_eq,bne_iff_ne,beq_eq_false_iff_ne,bne_eq_false_iff_eq,decide_eq_true_eq,decide_eq_false_iff_not,Bool.and_eq_true,Bool.and_eq_false_iff,ne_eq,h0]at hc hs;rw [hs];refine congrArg _ ?_
  grind [V2]
def X9:Con Tryz.prog:= .mk' ⟨99,[.l (some .i64)],.l none,true⟩
 (fun ads=>match ads with| [d1]=>True|_=>False)
 (fun ads=>match ads with| [d1]=>fun _=>0|_=>fun _=>0)
 (fun ads=>match ads with| [d1]=>fun _=>V2 (Q3 d1)|_=>fun _=>false)
 ⟨_,Tryz.func99,by kernel_rfl,by kernel_rfl⟩ (fun ads w hf hp=>by
   obtain⟨d1,_,rfl,f1,hf⟩:=Qg hf;obtain rfl:=Qm hf;show Calls _ _ #[d1.val] w _;rw [QB f1];exact QkO (Q3 d1) w)
def Qep:List Sg:= []
def Qcl:List PX:= [.l (.n .i64 (.v 0 0))]
def QdH:List Rw:= []
def QdF:Cfg:=⟨1,Qep,[]⟩
def Qen:List Lf:= [⟨[],.v (.l (.t (.no (.an (.an (.no (.c .eql (.v 0 0) (.i 16))) (.no (.c .eql (.v 0 0) (.i 17)))) (.no (.c .eql (.v 0 0) (.i 18)))))))⟩]
def Qeo:List Ob:= []
theorem QdG:QS Tryz.prog QdF 2000 Tryz.f100 Qcl QdH=some (Qen,Qeo):=by kernel_rfl
theorem QdV(n:Int)(w:World):Calls Tryz.prog 100 #[.int .i64 n] w (Ret (.bool (XJ n)) w):=by
 refine Q5 (C:= []) (I:= []) Qo rfl Tryz.func100 QdG (Qcf n) w rfl (fun r hr=>(List.not_mem_nil hr).elim) _ trivial ?_
 refine⟨?_,trivial⟩
 all_goals
  intro e u he hc hs;have h0:=Km he (by decide)
  simp only [QC,Cd.holds,SX.den,cmI,PX.den,LX.den,VX.sat,List.map_cons,List.map_nil,List.append_nil,beq_iff_eq,bne_iff_ne,beq_eq_false_iff_ne,bne_eq_false_iff_eq,decide_eq_true_eq,decide_eq_false_iff_not,Bool.and_eq_true,Bool.and_eq_false_iff,ne_eq,h0]at hc hs;rw [hs];refine congrArg _ ?_
  grind [XJ]
def ZC:Con Tryz.prog:= .mk' ⟨100,[.l (some .i64)],.l none,true⟩
 (fun ads=>match ads with| [d1]=>True|_=>False)
 (fun ads=>match ads with| [d1]=>fun _=>0|_=>fun _=>0)
 (fun ads=>match ads with| [d1]=>fun _=>XJ (Q3 d1)|_=>fun _=>false)
 ⟨_,Tryz.func100,by kernel_rfl,by kernel_rfl⟩ (fun ads w hf hp=>by
   obtain⟨d1,_,rfl,f1,hf⟩:=Qg hf;obtain rfl:=Qm hf;show Calls _ _ #[d1.val] w _;rw [QB f1];exact QdV (Q3 d1) w)
def Qp3:List Sg:= []
def Qju:List PX:= [.l (.n .i64 (.v 0 0))]
def Qm2:List Rw:= []
def Qm0:Cfg:=⟨1,Qp3,[]⟩
def Qp1:List Lf:= [⟨[],.v (.l (.t (.an (.an (.an (.c .geq (.v 0 0) (.i 3)) (.c .leq (.v 0 0) (.i 27))) (.c .neq (.v 0 0) (.i 20))) (.c .neq (.v 0 0) (.i 23)))))⟩]
def Qp2:List Ob:= []
theorem Qm1:QS Tryz.prog Qm0 2000 Tryz.f93 Qju Qm2=some (Qp1,Qp2):=by kernel_rfl
theorem Qoo(n:Int)(w:World):Calls Tryz.prog 93 #[.int .i64 n] w (Ret (.bool (QeL n)) w):=by
 refine Q5 (C:= []) (I:= []) Qo rfl Tryz.func93 Qm1 (Qcf n) w rfl (fun r hr=>(List.not_mem_nil hr).elim) _ trivial ?_
 refine⟨?_,trivial⟩
 all_goals
  intro e u he hc hs;have h0:=Km he (by decide)
  simp only [QC,Cd.holds,SX.den,cmI,PX.den,LX.den,VX.sat,List.map_cons,List.map_nil,List.append_nil,beq_iff_eq,bne_iff_ne,beq_eq_false_iff_ne,bne_eq_false_iff_eq,decide_eq_true_eq,decide_eq_false_iff_not,Bool.and_eq_true,Bool.and_eq_false_iff,ne_eq,h0]at hc hs;rw [hs];refine congrArg _ ?_
  grind [QeL]
def QeC:Con Tryz.prog:= .mk' ⟨93,[.l (some .i64)],.l none,true⟩
 (fun ads=>match ads with| [d1]=>True|_=>False)
 (fun ads=>match ads with| [d1]=>fun _=>0|_=>fun _=>0)
 (fun ads=>match ads with| [d1]=>fun _=>QeL (Q3 d1)|_=>fun _=>false)
 ⟨_,Tryz.func93,by kernel_rfl,by kernel_rfl⟩ (fun ads w hf hp=>by
   obtain⟨d1,_,rfl,f1,hf⟩:=Qg hf;obtain rfl:=Qm hf;show Calls _ _ #[d1.val] w _;rw [QB f1];exact Qoo (Q3 d1) w)
def Qm8:List Sg:= []
def QgE:List PX:= [.l (.n .i64 (.v 0 0))]
def Qjy:List Rw:= []
def Qjw:Cfg:=⟨1,Qm8,[]⟩
def Qm6:List Lf:= [⟨[],.v (.l (.t (.no (.an (.no (.c .eql (.v 0 0) (.i 20))) (.no (.c .eql (.v 0 0) (.i 25)))))))⟩]
def Qm7:List Ob:= []
theorem Qjx:QS Tryz.prog Qjw 2000 Tryz.f96 QgE Qjy=some (Qm6,Qm7):=by kernel_rfl
theorem QkD(n:Int)(w:World):Calls Tryz.prog 96 #[.int .i64 n] w (Ret (.bool (Wn n)) w):=by
 refine Q5 (C:= []) (I:= []) Qo rfl Tryz.func96 Qjx (Qcf n) w rfl (fun r hr=>(List.not_mem_nil hr).elim) _ trivial ?_
 refine⟨?_,trivial⟩
 all_goals
  intro e u he hc hs;have h0:=Km he (by decide)
  simp only [QC,Cd.holds,SX.den,cmI,PX.den,LX.den,VX.sat,List.map_cons,List.map_nil,List.append_nil,beq_iff_eq,bne_iff_ne,beq_eq_false_iff_ne,bne_eq_false_iff_eq,decide_eq_true_eq,decide_eq_false_iff_not,Bool.and_eq_true,Bool.and_eq_false_iff,ne_eq,h0]at hc hs;rw [hs];refine congrArg _ ?_
  grind [Wn]
def Qc6:Con Tryz.prog:= .mk' ⟨96,[.l (some .i64)],.l none,true⟩
 (fun ads=>match ads with| [d1]=>True|_=>False)
 (fun ads=>match ads with| [d1]=>fun _=>0|_=>fun _=>0)
 (fun ads=>match ads with| [d1]=>fun _=>Wn (Q3 d1)|_=>fun _=>false)
 ⟨_,Tryz.func96,by kernel_rfl,by kernel_rfl⟩ (fun ads w hf hp=>by
   obtain⟨d1,_,rfl,f1,hf⟩:=Qg hf;obtain rfl:=Qm hf;show Calls _ _ #[d1.val] w _;rw [QB f1];exact QkD (Q3 d1) w)
def QeM(i:Ins):Bool:=V2 i.op && decide (i.form=0) || XJ i.op || decide (i.op=19)
def QaJ(i:Ins):Bool:=V2 i.op && !decide (i.form=0) || XJ i.op || decide (i.op=19) || decide (i.op=20) || decide (i.op=22) || decide (i.op=23)
def QaI(i:Ins):Bool:=if V2 i.op then decide (0≤i.form) && decide (i.form≤2)else if i.op=20 then decide (i.form=1) || decide (i.form=2)else decide (i.form=0)
def Wb(i:Ins):Bool:=if i.op=17 then decide (i.width=1) || decide (i.width=2)else if XJ i.op then decide (i.width=1) || decide (i.width=2) || decide (i.width=4)else decide (i.width=0)
def Qp6:List Sg:= [⟨99,[.l (some .i64)],.l none,true⟩,⟨100,[.l (some .i64)],.l none,true⟩]
def Qjv:List PX:= [.a (Qa 0 0 Qc)]
def Qm5:List Rw:= []
def Qm3:Cfg:=⟨1,Qp6,[]⟩
def Qp4:List Lf:= [⟨[.f 14 1 [.l (.n .i64 (.v 0 2))],.f 5 0 [.l (.n .i64 (.v 0 2))]],.v (.l (.t (.no (.an (.an (.no (.an (.v 5 0) (.c .eql (.v 0 3) (.i 0)))) (.no (.v 14 0))) (.no (.c .eql (.v 0 2) (.i 19)))))))⟩]
def Qp5:List Ob:=
 let z0:PX:= .l (.n .i64 (.v 0 2))
 [.pre [] 0 [z0],.pre [.f 5 0 [z0]] 1 [z0]]
theorem Qm4:QS Tryz.prog Qm3 2000 Tryz.f95 Qjv Qm5=some (Qp4,Qp5):=by kernel_rfl
set_option maxHeartbeats 4000000 in
theorem Qop(i:Ins)(w:World):Calls Tryz.prog 95 #[i.val] w (Ret (.bool (QeM i)) w):=by
 refine Q5 (C:= [X9,ZC]) (I:= []) Qo rfl Tryz.func95 Qm4 (XB i) w rfl (fun r hr=>(List.not_mem_nil hr).elim) _ ?_ ?_
 ·refine⟨?_,?_,trivial⟩;all_goals exact fun e he _=>trivial
 refine⟨?_,trivial⟩
 all_goals
  intro e u he hc hs;have h0:=Zu he (by decide)
  have hi:=Zi h0;simp only [QC,Cd.holds,SX.den,cmI,PX.den,LX.den,VX.sat,List.map_cons,List.map_nil,List.append_nil,beq_iff_eq,bne_iff_ne,beq_eq_false_iff_ne,bne_eq_false_iff_eq,decide_eq_true_eq,decide_eq_false_iff_not,Bool.and_eq_true,Bool.and_eq_false_iff,ne_eq,List.getElem?_cons_zero,List.getElem?_cons_succ,Option.some.injEq,exists_eq_left',Q1,QH,Qr,Qy,h0,Q2,hi,arI,X9,ZC]at hc hs;rw [hs]
  refine congrArg _ ?_;clear hs he
  (repeat (rcases hc with ⟨_,hc⟩))
  (simp_all [Q2,QeM]) <;> grind
def QeD:Con Tryz.prog:= .mk' ⟨95,[.a Qc],.l none,true⟩
 (fun ads=>match ads with| [d1]=>True|_=>False)
 (fun ads=>match ads with| [d1]=>fun _=>0|_=>fun _=>0)
 (fun ads=>match ads with| [d1]=>fun _=>QeM (QL d1)|_=>fun _=>false)
 ⟨_,Tryz.func95,by kernel_rfl,by kernel_rfl⟩ (fun ads w hf hp=>by
   obtain⟨d1,_,rfl,f1,hf⟩:=Qg hf;obtain rfl:=Qm hf;show Calls _ _ #[d1.val] w _;rw [Zd f1];exact Qop (QL d1) w)
def Qj1:List Sg:= [⟨99,[.l (some .i64)],.l none,true⟩,⟨100,[.l (some .i64)],.l none,true⟩]
def Qem:List PX:= [.a (Qa 0 0 Qc)]
def QgH:List Rw:= []
def QgF:Cfg:=⟨1,Qj1,[]⟩
def Qjz:List Lf:= [⟨[.f 14 1 [.l (.n .i64 (.v 0 2))],.f 5 0 [.l (.n .i64 (.v 0 2))]],.v (.l (.t (.no (.an (.an (.an (.an (.an (.no (.an (.v 5 0) (.c .neq (.v 0 3) (.i 0)))) (.no (.v 14 0))) (.no (.c .eql (.v 0 2) (.i 19)))) (.no (.c .eql (.v 0 2) (.i 20)))) (.no (.c .eql (.v 0 2) (.i 22)))) (.no (.c .eql (.v 0 2) (.i 23)))))))⟩]
def Qj0:List Ob:=
 let z0:PX:= .l (.n .i64 (.v 0 2))
 [.pre [] 0 [z0],.pre [.f 5 0 [z0]] 1 [z0]]
theorem QgG:QS Tryz.prog QgF 2000 Tryz.f98 Qem QgH=some (Qjz,Qj0):=by kernel_rfl
set_option maxHeartbeats 4000000 in
theorem Qh9(i:Ins)(w:World):Calls Tryz.prog 98 #[i.val] w (Ret (.bool (QaJ i)) w):=by
 refine Q5 (C:= [X9,ZC]) (I:= []) Qo rfl Tryz.func98 QgG (XB i) w rfl (fun r hr=>(List.not_mem_nil hr).elim) _ ?_ ?_
 ·refine⟨?_,?_,trivial⟩;all_goals exact fun e he _=>trivial
 refine⟨?_,trivial⟩
 all_goals
  intro e u he hc hs;have h0:=Zu he (by decide)
  have hi:=Zi h0;simp only [QC,Cd.holds,SX.den,cmI,PX.den,LX.den,VX.sat,List.map_cons,List.map_nil,List.append_nil,beq_iff_eq,bne_iff_ne,beq_eq_false_iff_ne,bne_eq_false_iff_eq,decide_eq_true_eq,decide_eq_false_iff_not,Bool.and_eq_true,Bool.and_eq_false_iff,ne_eq,List.getElem?_cons_zero,List.getElem?_cons_succ,Option.some.injEq,exists_eq_left',Q1,QH,Qr,Qy,h0,Q2,hi,arI,X9,ZC]at hc hs;rw [hs]
  refine congrArg _ ?_;clear hs he
  (repeat (rcases hc with ⟨_,hc⟩))
  (simp_all [Q2,QaJ]) <;> grind
def QbP:Con Tryz.prog:= .mk' ⟨98,[.a Qc],.l none,true⟩
 (fun ads=>match ads with| [d1]=>True|_=>False)
 (fun ads=>match ads with| [d1]=>fun _=>0|_=>fun _=>0)
 (fun ads=>match ads with| [d1]=>fun _=>QaJ (QL d1)|_=>fun _=>false)
 ⟨_,Tryz.func98,by kernel_rfl,by kernel_rfl⟩ (fun ads w hf hp=>by
   obtain⟨d1,_,rfl,f1,hf⟩:=Qg hf;obtain rfl:=Qm hf;show Calls _ _ #[d1.val] w _;rw [Zd f1];exact Qh9 (QL d1) w)
def Qp0:List Sg:= [⟨99,[.l (some .i64)],.l none,true⟩]
def Qjt:List PX:= [.a (Qa 0 0 Qc)]
def Qmz:List Rw:= []
def Qmx:Cfg:=⟨1,Qp0,[]⟩
def Qpy:List Lf:=
 let z0:List Cd:= [.f 5 0 [.l (.n .i64 (.v 0 2))]]
 [⟨(.c (.v 5 0) true :: z0),.v (.l (.t (.an (.c .geq (.v 0 3) (.i 0)) (.c .leq (.v 0 3) (.i 2)))))⟩,⟨(.c (.c .eql (.v 0 2) (.i 20)) true :: .c (.v 5 0) false :: z0),.v (.l (.t (.no (.an (.no (.c .eql (.v 0 3) (.i 1))) (.no (.c .eql (.v 0 3) (.i 2)))))))⟩,⟨(.c (.c .eql (.v 0 2) (.i 20)) false :: .c (.v 5 0) false :: z0),.v (.l (.t (.c .eql (.v 0 3) (.i 0))))⟩]
def Qpz:List Ob:= [.pre [] 0 [.l (.n .i64 (.v 0 2))]]
theorem Qmy:QS Tryz.prog Qmx 2000 Tryz.f91 Qjt Qmz=some (Qpy,Qpz):=by kernel_rfl
set_option maxHeartbeats 4000000 in
theorem Qom(i:Ins)(w:World):Calls Tryz.prog 91 #[i.val] w (Ret (.bool (QaI i)) w):=by
 refine Q5 (C:= [X9]) (I:= []) Qo rfl Tryz.func91 Qmy (XB i) w rfl (fun r hr=>(List.not_mem_nil hr).elim) _ ?_ ?_
 ·refine⟨?_,trivial⟩;all_goals exact fun e he _=>trivial
 refine⟨?_,?_,?_,trivial⟩
 all_goals
  intro e u he hc hs;have h0:=Zu he (by decide)
  have hi:=Zi h0;simp only [QC,Cd.holds,SX.den,cmI,PX.den,LX.den,VX.sat,List.map_cons,List.map_nil,List.append_nil,beq_iff_eq,bne_iff_ne,beq_eq_false_iff_ne,bne_eq_false_iff_eq,decide_eq_true_eq,decide_eq_false_iff_not,Bool.and_eq_true,Bool.and_eq_false_iff,ne_eq,List.getElem?_cons_zero,List.getElem?_cons_succ,Option.some.injEq,exists_eq_left',Q1,QH,Qr,Qy,h0,Q2,hi,arI,X9]at hc hs;rw [hs]
  refine congrArg _ ?_;clear hs he
  (repeat (rcases hc with ⟨_,hc⟩))
  (simp_all [Q2,QaI]) <;> grind
def QeB:Con Tryz.prog:= .mk' ⟨91,[.a Qc],.l none,true⟩
 (fun ads=>match ads with| [d1]=>True|_=>False)
 (fun ads=>match ads with| [d1]=>fun _=>0|_=>fun _=>0)
 (fun ads=>match ads with| [d1]=>fun _=>QaI (QL d1)|_=>fun _=>false)
 ⟨_,Tryz.func91,by kernel_rfl,by kernel_rfl⟩ (fun ads w hf hp=>by
   obtain⟨d1,_,rfl,f1,hf⟩:=Qg hf;obtain rfl:=Qm hf;show Calls _ _ #[d1.val] w _;rw [Zd f1];exact Qom (QL d1) w)
def Qng:List Sg:= [⟨100,[.l (some .i64)],.l none,true⟩]
def Qhg:List PX:= [.a (Qa 0 0 Qc)]
def Qkc:List Rw:= []
def Qka:Cfg:=⟨1,Qng,[]⟩
def Qne:List Lf:=
 let z0:SX:= .an (.no (.c .eql (.v 0 4) (.i 1))) (.no (.c .eql (.v 0 4) (.i 2)))
 let z1:List Cd:= [.f 8 0 [.l (.n .i64 (.v 0 2))],.c (.c .eql (.v 0 2) (.i 17)) false]
 [⟨[.c (.c .eql (.v 0 2) (.i 17)) true],.v (.l (.t (.no z0)))⟩,⟨(.c (.v 8 0) true :: z1),.v (.l (.t (.no (.an z0 (.no (.c .eql (.v 0 4) (.i 4)))))))⟩,⟨(.c (.v 8 0) false :: z1),.v (.l (.t (.c .eql (.v 0 4) (.i 0))))⟩]
def Qnf:List Ob:= [.pre [.c (.c .eql (.v 0 2) (.i 17)) false] 0 [.l (.n .i64 (.v 0 2))]]
theorem Qkb:QS Tryz.prog Qka 2000 Tryz.f92 Qhg Qkc=some (Qne,Qnf):=by kernel_rfl
set_option maxHeartbeats 4000000 in
theorem QlH(i:Ins)(w:World):Calls Tryz.prog 92 #[i.val] w (Ret (.bool (Wb i)) w):=by
 refine Q5 (C:= [ZC]) (I:= []) Qo rfl Tryz.func92 Qkb (XB i) w rfl (fun r hr=>(List.not_mem_nil hr).elim) _ ?_ ?_
 ·refine⟨?_,trivial⟩;all_goals exact fun e he _=>trivial
 refine⟨?_,?_,?_,trivial⟩
 all_goals
  intro e u he hc hs;have h0:=Zu he (by decide)
  have hi:=Zi h0;simp only [QC,Cd.holds,SX.den,cmI,PX.den,LX.den,VX.sat,List.map_cons,List.map_nil,List.append_nil,beq_iff_eq,bne_iff_ne,beq_eq_false_iff_ne,bne_eq_false_iff_eq,decide_eq_true_eq,decide_eq_false_iff_not,Bool.and_eq_true,Bool.and_eq_false_iff,ne_eq,List.getElem?_cons_zero,List.getElem?_cons_succ,Option.some.injEq,exists_eq_left',Q1,QH,Qr,Qy,h0,Q2,hi,arI,ZC]at hc hs;rw [hs]
  refine congrArg _ ?_;clear hs he
  (repeat (rcases hc with ⟨_,hc⟩))
  (simp_all [Q2,Wb]) <;> grind
def QcA:Con Tryz.prog:= .mk' ⟨92,[.a Qc],.l none,true⟩
 (fun ads=>match ads with| [d1]=>True|_=>False)
 (fun ads=>match ads with| [d1]=>fun _=>0|_=>fun _=>0)
 (fun ads=>match ads with| [d1]=>fun _=>Wb (QL d1)|_=>fun _=>false)
 ⟨_,Tryz.func92,by kernel_rfl,by kernel_rfl⟩ (fun ads w hf hp=>by
   obtain⟨d1,_,rfl,f1,hf⟩:=Qg hf;obtain rfl:=Qm hf;show Calls _ _ #[d1.val] w _;rw [Zd f1];exact QlH (QL d1) w)
def QfU(i:Ins):Int:=
 if i.op < 0∨27 < i.op∨QaI i=false∨Wb i=false then 2
 else if(QeL i.op=true∧Qav i.a=false)∨(QeL i.op=false∧¬i.a=0)∨(QeM i=true∧Qav i.b=false)∨(QeM i=false∧¬i.b=0)then 2
 else if(Wn i.op=true∧QaO i.cc=false)∨(Wn i.op=false∧¬i.cc=0)∨(QaJ i=false∧¬i.imm=0)then 2
 else if(V2 i.op=true∧i.form=1∨XJ i.op=true∨i.op=19)∧KM i.imm=false then 7
 else if i.op=20∧i.form=1∧KM (IntKind.u32.wrap (IntKind.u32.wrap (i.imm - i.addr) - 2))=false then 7 else 0
def Qmv:List Sg:= [⟨99,[.l (some .i64)],.l none,true⟩,⟨100,[.l (some .i64)],.l none,true⟩,⟨93,[.l (some .i64)],.l none,true⟩,⟨96,[.l (some .i64)],.l none,true⟩,⟨94,[.l (some .i64)],.l none,true⟩,⟨101,[.l (some .u32)],.l none,true⟩,⟨97,[.l (some .i64)],.l none,true⟩,⟨95,[.a Qc],.l none,true⟩,⟨98,[.a Qc],.l none,true⟩,⟨91,[.a Qc],.l none,true⟩,⟨92,[.a Qc],.l none,true⟩]
def QgD:List PX:= [.a (Qa 0 0 Qc)]
def Qjs:List Rw:= []
def Qjq:Cfg:=⟨1,Qmv,[]⟩
def Qmt:List Lf:=
 let z0:PX:= .a (Qa 0 0 Qc)
 let z1:List Cd:= [.f 18 10 [z0],.f 13 9 [z0]]
 let z2:VX:= .v (.l (.n .i64 (.i 2)))
 let z3:SX:= .an (.v 23 0) (.no (.v 27 0))
 let z4:SX:= .an (.no (.v 23 0)) (.c .neq (.v 0 6) (.i 0))
 let z5:SX:= .an (.v 43 0) (.no (.v 47 0))
 let z6:SX:= .an (.no (.v 43 0)) (.c .neq (.v 0 7) (.i 0))
 let z7:PX:= .l (.n .i64 (.v 0 2))
 let z8:List Cd:=(.f 47 4 [.l (.n .i64 (.v 0 7))] :: .f 43 7 [z0] :: .f 27 4 [.l (.n .i64 (.v 0 6))] :: .f 23 2 [z7] :: .c (.c .lss (.v 0 2) (.i 0)) false :: .c (.c .gtr (.v 0 2) (.i 27)) false :: .c (.v 13 0) true :: .c (.v 18 0) true :: z1)
 let z9:SX:= .an (.v 63 0) (.no (.v 67 0))
 let z10:SX:= .an (.no (.v 63 0)) (.c .neq (.v 0 5) (.i 0))
 let z11:SX:= .an (.no (.v 83 0)) (.c .neq (.v 0 1) (.i 0))
 let z12:List Cd:=(.f 83 8 [z0] :: .f 67 6 [.l (.n .i64 (.v 0 5))] :: .f 63 3 [z7] :: .c z3 false :: .c z4 false :: .c z5 false :: .c z6 false :: z8)
 let z13:SX:= .c .eql (.v 0 3) (.i 1)
 let z14:List Cd:=(.f 102 1 [z7] :: .f 93 0 [z7] :: .c z9 false :: .c z10 false :: .c z11 false :: z12)
 let z15:List Cd:=(.f 111 5 [.l (.n .u32 (.v 0 1))] :: .c (.an (.an (.no (.an (.v 93 0) z13)) (.no (.v 102 0))) (.no (.c .eql (.v 0 2) (.i 19)))) false :: z14)
 let z16:VX:= .v (.l (.n .i64 (.i 7)))
 let z17:Cd:= .c (.c .eql (.v 0 2) (.i 20)) true
 let z18:PX:= .l (.n .u32 (.o .sub .u32 (.o .sub .u32 (.v 0 1) (.v 0 0)) (.i 2)))
 let z19:List Cd:=(.f 128 5 [z18] :: .c (.v 111 0) true :: z15)
 let z20:SX:= .an (.c .eql (.v 0 2) (.i 20)) z13
 let z21:List Cd:=(.f 124 5 [z18] :: .c (.an (.v 93 0) z13) false :: .c (.v 102 0) false :: .c (.c .eql (.v 0 2) (.i 19)) false :: z14)
 [⟨(.c (.an (.an (.an (.no (.c .lss (.v 0 2) (.i 0))) (.no (.c .gtr (.v 0 2) (.i 27)))) (.v 13 0)) (.v 18 0)) false :: z1),z2⟩,⟨(.c (.an (.an (.an (.no z3) (.no z4)) (.no z5)) (.no z6)) false :: z8),z2⟩,⟨(.c (.an (.an (.no z9) (.no z10)) (.no z11)) false :: z12),z2⟩,⟨(.c (.v 111 0) false :: z15),z16⟩,⟨(z17 :: .c z13 true :: .c (.v 128 0) false :: z19),z16⟩,⟨(.c (.an z20 (.no (.v 128 0))) false :: z19),.v (.l (.n .i64 (.i 0)))⟩,⟨(z17 :: .c z13 true :: .c (.v 124 0) false :: z21),z16⟩,⟨(.c (.an z20 (.no (.v 124 0))) false :: z21),.v (.l (.n .i64 (.i 0)))⟩]
def Qmu:List Ob:=
 let z0:PX:= .a (Qa 0 0 Qc)
 let z1:List Cd:= [.c (.c .lss (.v 0 2) (.i 0)) false,.c (.c .gtr (.v 0 2) (.i 27)) false,.c (.v 13 0) true,.c (.v 18 0) true,.f 18 10 [z0],.f 13 9 [z0]]
 let z2:PX:= .l (.n .i64 (.v 0 2))
 let z3:List Cd:=(.f 27 4 [.l (.n .i64 (.v 0 6))] :: .f 23 2 [z2] :: z1)
 let z4:List Cd:=(.f 47 4 [.l (.n .i64 (.v 0 7))] :: .f 43 7 [z0] :: z3)
 let z5:List Cd:=(.c (.an (.v 23 0) (.no (.v 27 0))) false :: .c (.an (.no (.v 23 0)) (.c .neq (.v 0 6) (.i 0))) false :: .c (.an (.v 43 0) (.no (.v 47 0))) false :: .c (.an (.no (.v 43 0)) (.c .neq (.v 0 7) (.i 0))) false :: z4)
 let z6:List Cd:=(.f 67 6 [.l (.n .i64 (.v 0 5))] :: .f 63 3 [z2] :: z5)
 let z7:List Cd:=(.c (.an (.v 63 0) (.no (.v 67 0))) false :: .c (.an (.no (.v 63 0)) (.c .neq (.v 0 5) (.i 0))) false :: .c (.an (.no (.v 83 0)) (.c .neq (.v 0 1) (.i 0))) false :: .f 83 8 [z0] :: z6)
 let z8:SX:= .an (.v 93 0) (.c .eql (.v 0 3) (.i 1))
 let z9:List Cd:=(.f 102 1 [z2] :: .f 93 0 [z2] :: z7)
 let z10:List Cd:=(.c (.an (.an (.no z8) (.no (.v 102 0))) (.no (.c .eql (.v 0 2) (.i 19)))) false :: z9)
 let z11:PX:= .l (.n .u32 (.o .sub .u32 (.o .sub .u32 (.v 0 1) (.v 0 0)) (.i 2)))
 [.pre [] 9 [z0],.pre [.f 13 9 [z0]] 10 [z0],.pre z1 2 [z2],.pre (.f 23 2 [z2] :: z1) 4 [.l (.n .i64 (.v 0 6))],.pre z3 2 [z2],.pre z3 7 [z0],.pre (.f 43 7 [z0] :: z3) 4 [.l (.n .i64 (.v 0 7))],.pre z4 7 [z0],.pre z5 3 [z2],.pre (.f 63 3 [z2] :: z5) 6 [.l (.n .i64 (.v 0 5))],.pre z6 3 [z2],.pre z6 8 [z0],.pre z7 0 [z2],.pre (.f 93 0 [z2] :: z7) 1 [z2],.pre z10 5 [.l (.n .u32 (.v 0 1))],.pre (.c (.v 111 0) true :: .f 111 5 [.l (.n .u32 (.v 0 1))] :: z10) 5 [z11],.pre (.c z8 false :: .c (.v 102 0) false :: .c (.c .eql (.v 0 2) (.i 19)) false :: z9) 5 [z11]]
theorem Qjr:QS Tryz.prog Qjq 2000 Tryz.f69 QgD Qjs=some (Qmt,Qmu):=by kernel_rfl
set_option maxHeartbeats 4000000 in
theorem Qk2(i:Ins)(w:World):Calls Tryz.prog 69 #[i.val] w (Ret (.int .i64 (QfU i)) w):=by
 refine Q5 (C:= [X9,ZC,QeC,Qc6,Qc7,QbQ,QeE,QeD,QbP,QeB,QcA]) (I:= []) Qo rfl Tryz.func69 Qjr (XB i) w rfl (fun r hr=>(List.not_mem_nil hr).elim) _ ?_ ?_
 ·refine⟨?_,?_,?_,?_,?_,?_,?_,?_,?_,?_,?_,?_,?_,?_,?_,?_,?_,trivial⟩;all_goals exact fun e he _=>trivial
 refine⟨?_,?_,?_,?_,?_,?_,?_,?_,trivial⟩
 all_goals
  intro e u he hc hs;have h0:=Zu he (by decide)
  have hi:=Zi h0
  simp only [QC,Cd.holds,SX.den,cmI,PX.den,LX.den,VX.sat,List.map_cons,List.map_nil,List.append_nil,beq_iff_eq,bne_iff_ne,beq_eq_false_iff_ne,bne_eq_false_iff_eq,decide_eq_true_eq,decide_eq_false_iff_not,Bool.and_eq_true,Bool.and_eq_false_iff,ne_eq,List.getElem?_cons_zero,List.getElem?_cons_succ,Option.some.injEq,exists_eq_left',Q1,QH,Qr,Qy,h0,Q2,hi,arI,X9,ZC,QeC,Qc6,Qc7,QbQ,QeE,QeD,QbP,QeB,QcA]at hc hs
  rw [hs];refine congrArg _ ?_;clear hs he
  (repeat (rcases hc with ⟨_,hc⟩))
  (simp_all [Q2,QfU]) <;> grind
def Qc5:Con Tryz.prog:= .mk' ⟨69,[.a Qc],.l (some .i64),true⟩
 (fun ads=>match ads with| [d1]=>True|_=>False)
 (fun ads=>match ads with| [d1]=>fun _=>QfU (QL d1)|_=>fun _=>0)
 (fun ads=>match ads with| [d1]=>fun _=>false|_=>fun _=>false)
 ⟨_,Tryz.func69,by kernel_rfl,by kernel_rfl⟩ (fun ads w hf hp=>by
   obtain⟨d1,_,rfl,f1,hf⟩:=Qg hf;obtain rfl:=Qm hf;show Calls _ _ #[d1.val] w _;rw [Zd f1];exact Qk2 (QL d1) w)
def Qv(i:Ins):Bool:=QfU i==0
def Qnd:List Sg:= [⟨69,[.a Qc],.l (some .i64),true⟩]
def Qhf:List PX:= [.a (Qa 0 0 Qc)]
def QjZ:List Rw:= []
def QjX:Cfg:=⟨1,Qnd,[]⟩
def Qnb:List Lf:= [⟨[.f 4 0 [.a (Qa 0 0 Qc)]],.v (.l (.t (.c .eql (.v 4 0) (.i 0))))⟩]
def Qnc:List Ob:= [.pre [] 0 [.a (Qa 0 0 Qc)]]
theorem QjY:QS Tryz.prog QjX 2000 Tryz.f42 Qhf QjZ=some (Qnb,Qnc):=by kernel_rfl
set_option maxHeartbeats 4000000 in
theorem QlA(i:Ins)(w:World):Calls Tryz.prog 42 #[i.val] w (Ret (.bool (Qv i)) w):=by
 refine Q5 (C:= [Qc5]) (I:= []) Qo rfl Tryz.func42 QjY (XB i) w rfl (fun r hr=>(List.not_mem_nil hr).elim) _ ?_ ?_
 ·refine⟨?_,trivial⟩;all_goals exact fun e he _=>trivial
 refine⟨?_,trivial⟩
 all_goals
  intro e u he hc hs;have h0:=Zu he (by decide)
  have hi:=Zi h0;simp only [QC,Cd.holds,SX.den,cmI,PX.den,LX.den,VX.sat,List.map_cons,List.map_nil,List.append_nil,beq_iff_eq,bne_iff_ne,beq_eq_false_iff_ne,bne_eq_false_iff_eq,decide_eq_true_eq,decide_eq_false_iff_not,Bool.and_eq_true,Bool.and_eq_false_iff,ne_eq,List.getElem?_cons_zero,List.getElem?_cons_succ,Option.some.injEq,exists_eq_left',Q1,QH,Qr,Qy,h0,Q2,hi,arI,Qc5]at hc hs;rw [hs]
  refine congrArg _ ?_;clear hs he
  (repeat (rcases hc with ⟨_,hc⟩))
  (simp_all [Q2,Qv]) <;> grind
def XA:Con Tryz.prog:= .mk' ⟨42,[.a Qc],.l none,true⟩
 (fun ads=>match ads with| [d1]=>True|_=>False)
 (fun ads=>match ads with| [d1]=>fun _=>0|_=>fun _=>0)
 (fun ads=>match ads with| [d1]=>fun _=>Qv (QL d1)|_=>fun _=>false)
 ⟨_,Tryz.func42,by kernel_rfl,by kernel_rfl⟩ (fun ads w hf hp=>by
   obtain⟨d1,_,rfl,f1,hf⟩:=Qg hf;obtain rfl:=Qm hf;show Calls _ _ #[d1.val] w _;rw [Zd f1];exact QlA (QL d1) w)
end Go.Proofs.YteplnamfpodmlaaGreat
end
section
namespace Go.Proofs.YteplnamfpodmlaaGreat
set_option maxHeartbeats 8000000 in
theorem QdB(i:Ins):Yx i=Qv i:=by
 obtain⟨addr,imm,op,form,width,cc,a,b,size⟩:=i;unfold Yx Qv;rw [Bool.eq_iff_iff,beq_iff_eq,beq_iff_eq];by_cases h:0≤op∧op≤27
 ·have h2:op=0∨op=1∨op=2∨op=3∨op=4∨op=5∨op=6∨op=7∨op=8∨op=9∨op=10∨op=11∨op=12∨op=13∨op=14∨op=15∨op=16∨op=17∨op=18∨op=19∨op=20∨op=21∨op=22∨op=23∨op=24∨op=25∨op=26∨op=27:=by omega
  clear h;rcases h2 with rfl|rfl|rfl|rfl|rfl|rfl|rfl|rfl|rfl|rfl|rfl|rfl|rfl|rfl|rfl|rfl|rfl|rfl|rfl|rfl|rfl|rfl|rfl|rfl|rfl|rfl|rfl|rfl
  all_goals rcases (by omega:form=0∨form=1∨form=2∨(¬form=0∧¬form=1∧¬form=2))with rfl|rfl|rfl|⟨f0,f1,f2⟩
  all_goals rcases (by omega:width=0∨width=1∨width=2∨width=4∨(¬width=0∧¬width=1∧¬width=2∧¬width=4))with rfl|rfl|rfl|rfl|⟨w0,w1,w2,w4⟩
  all_goals
   simp [*,Vw,QfU,QhZ,X8,QhO,Ins.mk.injEq,Qav,Qbl,QbR,YF,QaI,Wb,QeL,QeM,Wn,QaJ,V2,XJ,QaO,QfD]
  all_goals first|done|grind|(rcases (by omega:cc < 0∨14 < cc∨(¬cc < 0∧¬14 < cc))with c0|c0|⟨c0,c1⟩ <;> (simp [*,QaO]) <;> grind)
 ·have h1:QhZ ⟨addr,imm,op,form,width,cc,a,b,size⟩=false:=by
   simp only [QhZ];rw [if_neg (by omega),if_neg (by omega),if_neg (by omega),if_neg (by omega),if_neg (by omega),if_neg (by omega),if_neg (by omega),if_neg (by omega),if_neg (by omega),if_neg (by omega)]
  have e1:Vw ⟨addr,imm,op,form,width,cc,a,b,size⟩=2:=by unfold Vw;rw [if_pos (Or.inl h1)]
  have e2:QfU ⟨addr,imm,op,form,width,cc,a,b,size⟩=2:=by
   unfold QfU;rw [if_pos];by_cases h0:op < 0
   ·exact Or.inl h0
   ·exact Or.inr (Or.inl (by show 27 < op;omega))
  rw [e1,e2]
end Go.Proofs.YteplnamfpodmlaaGreat
end
