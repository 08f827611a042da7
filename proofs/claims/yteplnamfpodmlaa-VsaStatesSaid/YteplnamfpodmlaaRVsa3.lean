/-
  Part of the proof.
-/
import Derived.Test.YteplnamfpodmlaaRVsA
set_option linter.unusedVariables false
set_option linter.unusedSimpArgs false
set_option maxRecDepth 100000
open Go.ChangeShapes Go.WideShapes Go.ChangeAt Go.RowKit
namespace Go.Proofs.Yteplnamfpodmlaa
theorem Qgm(w:World):Calls Try.prog 39 #[] w (Ret (ZT fun _=>Qy) w):=Qit w
def Qaf:Con Try.prog:= .mk' ⟨39,[],.a stK,true⟩
 (fun ads=>match ads with| []=>True|_=>False)
 (fun ads=>match ads with| []=>ZH fun _=>Qy|_=>fun _=>0)
 (fun ads=>match ads with| []=>QU fun _=>Qy|_=>fun _=>false)
 ⟨_,Try.func39,by kernel_rfl,by kernel_rfl⟩ (fun ads w hf hp=>by
   obtain rfl:=Qn hf
   exact Qgm  w)
def opL(op:Int):Int:=if op=6 then 3 else if op=7 then 4 else if op=8 then 6 else if op=9 then 7 else if op=10 then 8 else if op=11 then 5 else if op=12 then 9 else if op=13 then 10 else 11
def Ks(s:Nat→Qd)(r:Int)(v:Qd):Nat→Qd:=fun k=>if r=(k:Int)then v else s k
def YW(i:Ins):Int:=IntKind.u32.wrap (IntKind.u32.wrap (1 * 2 ^ (min (IntKind.i64.wrap (8 * i.width)).toNat IntKind.u32.bits)) - 1)
def Qw(i:Ins)(s:Nat→Qd):Nat→Qd:=
 if Qj i=false then s
 else if i.op=5 then Ks s i.a (WT i s)
 else if 6≤i.op∧i.op≤14 then Ks s i.a (JW (opL i.op) (s i.a.toNat) (WT i s))
 else if i.op=16∧i.width < 4 then Ks s i.a (Qs 0 (YW i) 1)
 else if i.op=16∨i.op=17∨i.op=26 then Ks s i.a Qy
 else if i.op=19 then Ks s i.a (Wn (s i.b.toNat) i.imm)
 else if i.op=25 then Ks s i.a (Qs 0 1 1)
 else if i.op=3 then Ks s 7 (JW 4 (s 7) (X2 4))
 else if i.op=4 then Ks (Ks s 7 (JW 3 (s 7) (X2 4))) i.a Qy
 else if i.op=2 then Ks s 7 (JW 3 (s 7) (X2 4))
 else if i.op=23∨i.op=24 then fun _=>Qy
 else s
theorem QN{i:Ins}(h:Qj i=true):0≤i.a∧i.a < 8∧0≤i.b∧i.b < 8∧(i.op=16→i.width=1∨i.width=2∨i.width=4)∧(i.op=17→i.width=1∨i.width=2):=by
 unfold Qj at h
 rw [beq_iff_eq]at h
 unfold Qga at h
 split at h
 ·cases h
 ·rename_i h1
  split at h
  ·cases h
  ·rename_i h2
   have ha:QaK i.a=true→0≤i.a∧i.a < 8:=fun h=>by simpa [QaK] using h
   have hb:QaK i.b=true→0≤i.b∧i.b < 8:=fun h=>by simpa [QaK] using h
   have hw:Wu i=true:=by grind
   refine⟨?_,?_,?_,?_,?_,?_⟩
   ·grind
   ·grind
   ·grind
   ·grind
   ·intro h16;simp [Wu,XZ,h16]at hw;omega
   ·intro h17;simp [Wu,h17]at hw;omega
theorem Qt1{e:Env}{s:Nat→Qd}(h:∀k,Zg e 1 (5 * k)=s k){k:Nat}(hk:k < 8):Qib e [(1,0),(1,5),(1,10),(1,15),(1,20),(1,25),(1,30),(1,35)] k=s k:=by
 match k,hk with
 |0,_=>exact h 0
 |1,_=>exact h 1
 |2,_=>exact h 2
 |3,_=>exact h 3
 |4,_=>exact h 4
 |5,_=>exact h 5
 |6,_=>exact h 6
 |7,_=>exact h 7
theorem QnF{e:Env}{s:Nat→Qd}{v:Qd}{d:Nat}(h:∀k,Zg e 1 (5 * k)=s k)(hv:Zg e d 0=v){k:Nat}(hk:k < 8):Qib e [(1,0),(1,5),(1,10),(1,15),(1,20),(1,25),(1,30),(d,0)] k=Ks s 7 v k:=by
 match k,hk with
 |0,_=>exact h 0
 |1,_=>exact h 1
 |2,_=>exact h 2
 |3,_=>exact h 3
 |4,_=>exact h 4
 |5,_=>exact h 5
 |6,_=>exact h 6
 |7,_=>exact hv
theorem QaT{i:Ins}{s t:Nat→Qd}(h:∀k,k < 8→s k=t k)(hb:0≤i.b∧i.b < 8):WT i s=WT i t:=by
 unfold WT;split
 ·exact h _ (by omega)
 ·rfl
theorem Yn{e:Env}{s:Nat→Qd}{a:Int}{X:Qd}{d:Nat}(k1:∀k,Zg e 1 (5 * k)=s k)(ha:e.int 0 6=a)(hX:Zg e d 0=X) :
 PX.den e (.a (Z6 (.v 0 6) (d,0) [(1,0),(1,5),(1,10),(1,15),(1,20),(1,25),(1,30),(1,35)]))=ZT (Ks s a X):=by
 rw [QbP]
 refine Zr fun k hk=>?_
 simp only [SX.den,ha,hX,Qt1 k1 hk,Ks,beq_iff_eq]
theorem Qsh{e:Env}{s:Nat→Qd}{X:Qd}{d:Nat}(k1:∀k,Zg e 1 (5 * k)=s k)(hX:Zg e d 0=X) :
 PX.den e (.a (Qik [(1,0),(1,5),(1,10),(1,15),(1,20),(1,25),(1,30),(d,0)]))=ZT (Ks s 7 X):=by
 rw [Qbp]
 exact Zr fun k hk=>QnF k1 hX hk
theorem Qlk{e:Env}{s:Nat→Qd}{a:Int}{X Y:Qd}{d d':Nat}(k1:∀k,Zg e 1 (5 * k)=s k)(ha:e.int 0 6=a)(hX:Zg e d 0=X)(hY:Zg e d' 0=Y) :
 PX.den e (.a (Z6 (.v 0 6) (d,0) [(1,0),(1,5),(1,10),(1,15),(1,20),(1,25),(1,30),(d',0)]))=ZT (Ks (Ks s 7 Y) a X):=by
 rw [QbP]
 refine Zr fun k hk=>?_
 simp only [SX.den,ha,hX,QnF k1 hY hk,beq_iff_eq]
 rfl
theorem QuI{op:Int}(h1:6≤op)(h2:op≤14):(if IntKind.i64.wrap (op - 6)=0 then((3:Int),false)else if IntKind.i64.wrap (op - 6)=1 then(4,false)else if IntKind.i64.wrap (op - 6)=2 then(6,false)else if IntKind.i64.wrap (op - 6)=3 then(7,false)
 else if IntKind.i64.wrap (op - 6)=4 then(8,false)else if IntKind.i64.wrap (op - 6)=5 then(5,false)else if IntKind.i64.wrap (op - 6)=6 then(9,false)else if IntKind.i64.wrap (op - 6)=7 then(10,false)else(11,false)).1=opL op:=by
 rcases (by omega:op=6∨op=7∨op=8∨op=9∨op=10∨op=11∨op=12∨op=13∨op=14)with rfl|rfl|rfl|rfl|rfl|rfl|rfl|rfl|rfl <;> decide
def Qg4:List Sg:= [⟨48,[.a Qb],.l none,true⟩,⟨49,[.a stK,.a Qb],.a Qc,true⟩,⟨50,[.l (some .i64),.a Qc,.a Qc],.a Qc,true⟩,⟨51,[.l (some .u32),.l (some .u32),.l (some .u32)],.a Qc,true⟩,⟨52,[],.a Qc,true⟩,⟨53,[.a Qc,.l (some .u32)],.a Qc,true⟩,⟨54,[.l (some .u32)],.a Qc,true⟩,⟨39,[],.a stK,true⟩]
def Qeq:List PX:= [.a (Qa 0 0 Qb),.a (Qa 1 0 stK)]
def QeD:List Rw:= []
def QeB:Cfg:=⟨2,Qg4,[]⟩
def Qg2:List Lf:=
 let z0:SX:= .o .sub .i64 (.v 0 2) (.i 6)
 let z1:SX:= .c .eql (.v 0 2) (.i 16)
 [⟨[.c (.v 6 0) false,.f 6 0 [.a (Qa 0 0 Qb)]],.v (.a (Qa 1 0 stK))⟩,⟨[.f 21 1 [.a (Qa 1 0 stK),.a (Qa 0 0 Qb)],.c (.c .eql (.v 0 2) (.i 5)) true,.c (.v 6 0) true,.f 6 0 [.a (Qa 0 0 Qb)]],.v (.a (Z6 (.v 0 6) (21,0) [(1,0),(1,5),(1,10),(1,15),(1,20),(1,25),(1,30),(1,35)]))⟩,⟨[.f 40 2 [.l (.n .i64 (.it (.c .eql z0 (.i 0)) (.i 3) (.it (.c .eql z0 (.i 1)) (.i 4) (.it (.c .eql z0 (.i 2)) (.i 6) (.it (.c .eql z0 (.i 3)) (.i 7) (.it (.c .eql z0 (.i 4)) (.i 8) (.it (.c .eql z0 (.i 5)) (.i 5) (.it (.c .eql z0 (.i 6)) (.i 9) (.it (.c .eql z0 (.i 7)) (.i 10) (.i 11)))))))))),.a (Qi 1 (.v 0 6)),.a (Qa 39 0 Qc)],.f 39 1 [.a (Qa 1 0 stK),.a (Qa 0 0 Qb)],.c (.c .geq (.v 0 2) (.i 6)) true,.c (.c .leq (.v 0 2) (.i 14)) true,.c (.c .eql (.v 0 2) (.i 5)) false,.c (.v 6 0) true,.f 6 0 [.a (Qa 0 0 Qb)]],.v (.a (Z6 (.v 0 6) (40,0) [(1,0),(1,5),(1,10),(1,15),(1,20),(1,25),(1,30),(1,35)]))⟩,⟨[.f 42 3 [.l (.n .u32 (.i 0)),.l (.n .u32 (.o .sub .u32 (.o .shl .u32 (.i 1) (.o .mul .i64 (.i 8) (.v 0 4))) (.i 1))),.l (.n .u32 (.i 1))],.c z1 true,.c (.c .lss (.v 0 4) (.i 4)) true,.c (.an (.c .geq (.v 0 2) (.i 6)) (.c .leq (.v 0 2) (.i 14))) false,.c (.c .eql (.v 0 2) (.i 5)) false,.c (.v 6 0) true,.f 6 0 [.a (Qa 0 0 Qb)]],.v (.a (Z6 (.v 0 6) (42,0) [(1,0),(1,5),(1,10),(1,15),(1,20),(1,25),(1,30),(1,35)]))⟩,⟨[.f 41 4 [],.c z1 true,.c (.an z1 (.c .lss (.v 0 4) (.i 4))) false,.c (.an (.c .geq (.v 0 2) (.i 6)) (.c .leq (.v 0 2) (.i 14))) false,.c (.c .eql (.v 0 2) (.i 5)) false,.c (.v 6 0) true,.f 6 0 [.a (Qa 0 0 Qb)]],.v (.a (Z6 (.v 0 6) (41,0) [(1,0),(1,5),(1,10),(1,15),(1,20),(1,25),(1,30),(1,35)]))⟩,⟨[.f 45 4 [],.c (.c .eql (.v 0 2) (.i 17)) true,.c z1 false,.c (.an z1 (.c .lss (.v 0 4) (.i 4))) false,.c (.an (.c .geq (.v 0 2) (.i 6)) (.c .leq (.v 0 2) (.i 14))) false,.c (.c .eql (.v 0 2) (.i 5)) false,.c (.v 6 0) true,.f 6 0 [.a (Qa 0 0 Qb)]],.v (.a (Z6 (.v 0 6) (45,0) [(1,0),(1,5),(1,10),(1,15),(1,20),(1,25),(1,30),(1,35)]))⟩,⟨[.f 49 4 [],.c (.c .eql (.v 0 2) (.i 26)) true,.c (.c .eql (.v 0 2) (.i 17)) false,.c z1 false,.c (.an z1 (.c .lss (.v 0 4) (.i 4))) false,.c (.an (.c .geq (.v 0 2) (.i 6)) (.c .leq (.v 0 2) (.i 14))) false,.c (.c .eql (.v 0 2) (.i 5)) false,.c (.v 6 0) true,.f 6 0 [.a (Qa 0 0 Qb)]],.v (.a (Z6 (.v 0 6) (49,0) [(1,0),(1,5),(1,10),(1,15),(1,20),(1,25),(1,30),(1,35)]))⟩,⟨[.f 60 5 [.a (Qi 1 (.v 0 7)),.l (.n .u32 (.v 0 1))],.c (.c .eql (.v 0 2) (.i 19)) true,.c (.c .eql (.v 0 2) (.i 26)) false,.c (.c .eql (.v 0 2) (.i 17)) false,.c z1 false,.c (.an z1 (.c .lss (.v 0 4) (.i 4))) false,.c (.an (.c .geq (.v 0 2) (.i 6)) (.c .leq (.v 0 2) (.i 14))) false,.c (.c .eql (.v 0 2) (.i 5)) false,.c (.v 6 0) true,.f 6 0 [.a (Qa 0 0 Qb)]],.v (.a (Z6 (.v 0 6) (60,0) [(1,0),(1,5),(1,10),(1,15),(1,20),(1,25),(1,30),(1,35)]))⟩,⟨[.f 57 3 [.l (.n .u32 (.i 0)),.l (.n .u32 (.i 1)),.l (.n .u32 (.i 1))],.c (.c .eql (.v 0 2) (.i 25)) true,.c (.c .eql (.v 0 2) (.i 19)) false,.c (.c .eql (.v 0 2) (.i 26)) false,.c (.c .eql (.v 0 2) (.i 17)) false,.c z1 false,.c (.an z1 (.c .lss (.v 0 4) (.i 4))) false,.c (.an (.c .geq (.v 0 2) (.i 6)) (.c .leq (.v 0 2) (.i 14))) false,.c (.c .eql (.v 0 2) (.i 5)) false,.c (.v 6 0) true,.f 6 0 [.a (Qa 0 0 Qb)]],.v (.a (Z6 (.v 0 6) (57,0) [(1,0),(1,5),(1,10),(1,15),(1,20),(1,25),(1,30),(1,35)]))⟩,⟨[.f 65 2 [.l (.n .i64 (.i 4)),.a (Qa 1 35 Qc),.a (Qa 64 0 Qc)],.f 64 6 [.l (.n .u32 (.i 4))],.c (.c .eql (.v 0 2) (.i 3)) true,.c (.c .eql (.v 0 2) (.i 25)) false,.c (.c .eql (.v 0 2) (.i 19)) false,.c (.c .eql (.v 0 2) (.i 26)) false,.c (.c .eql (.v 0 2) (.i 17)) false,.c z1 false,.c (.an z1 (.c .lss (.v 0 4) (.i 4))) false,.c (.an (.c .geq (.v 0 2) (.i 6)) (.c .leq (.v 0 2) (.i 14))) false,.c (.c .eql (.v 0 2) (.i 5)) false,.c (.v 6 0) true,.f 6 0 [.a (Qa 0 0 Qb)]],.v (.a (Qik [(1,0),(1,5),(1,10),(1,15),(1,20),(1,25),(1,30),(65,0)]))⟩,⟨[.f 78 4 [],.f 69 2 [.l (.n .i64 (.i 3)),.a (Qa 1 35 Qc),.a (Qa 68 0 Qc)],.f 68 6 [.l (.n .u32 (.i 4))],.c (.c .eql (.v 0 2) (.i 4)) true,.c (.c .eql (.v 0 2) (.i 3)) false,.c (.c .eql (.v 0 2) (.i 25)) false,.c (.c .eql (.v 0 2) (.i 19)) false,.c (.c .eql (.v 0 2) (.i 26)) false,.c (.c .eql (.v 0 2) (.i 17)) false,.c z1 false,.c (.an z1 (.c .lss (.v 0 4) (.i 4))) false,.c (.an (.c .geq (.v 0 2) (.i 6)) (.c .leq (.v 0 2) (.i 14))) false,.c (.c .eql (.v 0 2) (.i 5)) false,.c (.v 6 0) true,.f 6 0 [.a (Qa 0 0 Qb)]],.v (.a (Z6 (.v 0 6) (78,0) [(1,0),(1,5),(1,10),(1,15),(1,20),(1,25),(1,30),(69,0)]))⟩,⟨[.f 73 2 [.l (.n .i64 (.i 3)),.a (Qa 1 35 Qc),.a (Qa 72 0 Qc)],.f 72 6 [.l (.n .u32 (.i 4))],.c (.c .eql (.v 0 2) (.i 2)) true,.c (.c .eql (.v 0 2) (.i 4)) false,.c (.c .eql (.v 0 2) (.i 3)) false,.c (.c .eql (.v 0 2) (.i 25)) false,.c (.c .eql (.v 0 2) (.i 19)) false,.c (.c .eql (.v 0 2) (.i 26)) false,.c (.c .eql (.v 0 2) (.i 17)) false,.c z1 false,.c (.an z1 (.c .lss (.v 0 4) (.i 4))) false,.c (.an (.c .geq (.v 0 2) (.i 6)) (.c .leq (.v 0 2) (.i 14))) false,.c (.c .eql (.v 0 2) (.i 5)) false,.c (.v 6 0) true,.f 6 0 [.a (Qa 0 0 Qb)]],.v (.a (Qik [(1,0),(1,5),(1,10),(1,15),(1,20),(1,25),(1,30),(73,0)]))⟩,⟨[.f 73 7 [],.c (.c .eql (.v 0 2) (.i 23)) true,.c (.c .eql (.v 0 2) (.i 2)) false,.c (.c .eql (.v 0 2) (.i 4)) false,.c (.c .eql (.v 0 2) (.i 3)) false,.c (.c .eql (.v 0 2) (.i 25)) false,.c (.c .eql (.v 0 2) (.i 19)) false,.c (.c .eql (.v 0 2) (.i 26)) false,.c (.c .eql (.v 0 2) (.i 17)) false,.c z1 false,.c (.an z1 (.c .lss (.v 0 4) (.i 4))) false,.c (.an (.c .geq (.v 0 2) (.i 6)) (.c .leq (.v 0 2) (.i 14))) false,.c (.c .eql (.v 0 2) (.i 5)) false,.c (.v 6 0) true,.f 6 0 [.a (Qa 0 0 Qb)]],.v (.a (Qa 73 0 stK))⟩,⟨[.f 77 7 [],.c (.c .eql (.v 0 2) (.i 24)) true,.c (.c .eql (.v 0 2) (.i 23)) false,.c (.c .eql (.v 0 2) (.i 2)) false,.c (.c .eql (.v 0 2) (.i 4)) false,.c (.c .eql (.v 0 2) (.i 3)) false,.c (.c .eql (.v 0 2) (.i 25)) false,.c (.c .eql (.v 0 2) (.i 19)) false,.c (.c .eql (.v 0 2) (.i 26)) false,.c (.c .eql (.v 0 2) (.i 17)) false,.c z1 false,.c (.an z1 (.c .lss (.v 0 4) (.i 4))) false,.c (.an (.c .geq (.v 0 2) (.i 6)) (.c .leq (.v 0 2) (.i 14))) false,.c (.c .eql (.v 0 2) (.i 5)) false,.c (.v 6 0) true,.f 6 0 [.a (Qa 0 0 Qb)]],.v (.a (Qa 77 0 stK))⟩,⟨[.c (.c .eql (.v 0 2) (.i 24)) false,.c (.c .eql (.v 0 2) (.i 23)) false,.c (.c .eql (.v 0 2) (.i 2)) false,.c (.c .eql (.v 0 2) (.i 4)) false,.c (.c .eql (.v 0 2) (.i 3)) false,.c (.c .eql (.v 0 2) (.i 25)) false,.c (.c .eql (.v 0 2) (.i 19)) false,.c (.c .eql (.v 0 2) (.i 26)) false,.c (.c .eql (.v 0 2) (.i 17)) false,.c z1 false,.c (.an z1 (.c .lss (.v 0 4) (.i 4))) false,.c (.an (.c .geq (.v 0 2) (.i 6)) (.c .leq (.v 0 2) (.i 14))) false,.c (.c .eql (.v 0 2) (.i 5)) false,.c (.v 6 0) true,.f 6 0 [.a (Qa 0 0 Qb)]],.v (.a (Qa 1 0 stK))⟩]
def Qg3:List Ob:=
 let z0:PX:= .a (Qa 0 0 Qb)
 let z1:List Cd:= [.c (.v 6 0) true,.f 6 0 [z0]]
 let z2:SX:= .c .geq (.v 0 6) (.i 0)
 let z3:SX:= .c .lss (.v 0 6) (.i 8)
 let z4:PX:= .a (Qa 1 0 stK)
 let z5:List Cd:=(.c (.c .geq (.v 0 2) (.i 6)) true :: .c (.c .leq (.v 0 2) (.i 14)) true :: .c (.c .eql (.v 0 2) (.i 5)) false :: z1)
 let z6:SX:= .o .sub .i64 (.v 0 2) (.i 6)
 let z7:List Cd:=(.f 39 1 [z4,z0] :: z5)
 let z8:SX:= .c .eql (.v 0 2) (.i 16)
 let z9:List Cd:=(.c z8 true :: .c (.c .lss (.v 0 4) (.i 4)) true :: .c (.an (.c .geq (.v 0 2) (.i 6)) (.c .leq (.v 0 2) (.i 14))) false :: .c (.c .eql (.v 0 2) (.i 5)) false :: z1)
 let z10:PX:= .l (.n .u32 (.i 0))
 let z11:PX:= .l (.n .u32 (.i 1))
 let z12:List Cd:=(.c (.c .eql (.v 0 2) (.i 19)) true :: .c (.c .eql (.v 0 2) (.i 26)) false :: .c (.c .eql (.v 0 2) (.i 17)) false :: .c z8 false :: .c (.an z8 (.c .lss (.v 0 4) (.i 4))) false :: .c (.an (.c .geq (.v 0 2) (.i 6)) (.c .leq (.v 0 2) (.i 14))) false :: .c (.c .eql (.v 0 2) (.i 5)) false :: z1)
 let z13:PX:= .l (.n .u32 (.i 4))
 let z14:PX:= .a (Qa 1 35 Qc)
 [.pre [] 0 [z0],.cl z1 z2,.cl z1 z3,.pre (.c (.c .eql (.v 0 2) (.i 5)) true :: z1) 1 [z4,z0],.cl z5 (.c .geq z6 (.i 0)),.cl z5 (.c .lss z6 (.i 9)),.pre z5 1 [z4,z0],.cl z7 (.c .geq z6 (.i 0)),.cl z7 (.c .lss z6 (.i 9)),.pre z7 2 [.l (.n .i64 (.it (.c .eql z6 (.i 0)) (.i 3) (.it (.c .eql z6 (.i 1)) (.i 4) (.it (.c .eql z6 (.i 2)) (.i 6) (.it (.c .eql z6 (.i 3)) (.i 7) (.it (.c .eql z6 (.i 4)) (.i 8) (.it (.c .eql z6 (.i 5)) (.i 5) (.it (.c .eql z6 (.i 6)) (.i 9) (.it (.c .eql z6 (.i 7)) (.i 10) (.i 11)))))))))),.a (Qi 1 (.v 0 6)),.a (Qa 39 0 Qc)],.cl z9 (.c .geq (.o .mul .i64 (.i 8) (.v 0 4)) (.i 0)),.pre z9 3 [z10,.l (.n .u32 (.o .sub .u32 (.o .shl .u32 (.i 1) (.o .mul .i64 (.i 8) (.v 0 4))) (.i 1))),z11],.pre (.c z8 true :: .c (.an z8 (.c .lss (.v 0 4) (.i 4))) false :: .c (.an (.c .geq (.v 0 2) (.i 6)) (.c .leq (.v 0 2) (.i 14))) false :: .c (.c .eql (.v 0 2) (.i 5)) false :: z1) 4 [],.pre (.c (.c .eql (.v 0 2) (.i 17)) true :: .c z8 false :: .c (.an z8 (.c .lss (.v 0 4) (.i 4))) false :: .c (.an (.c .geq (.v 0 2) (.i 6)) (.c .leq (.v 0 2) (.i 14))) false :: .c (.c .eql (.v 0 2) (.i 5)) false :: z1) 4 [],.pre (.c (.c .eql (.v 0 2) (.i 26)) true :: .c (.c .eql (.v 0 2) (.i 17)) false :: .c z8 false :: .c (.an z8 (.c .lss (.v 0 4) (.i 4))) false :: .c (.an (.c .geq (.v 0 2) (.i 6)) (.c .leq (.v 0 2) (.i 14))) false :: .c (.c .eql (.v 0 2) (.i 5)) false :: z1) 4 [],.cl z12 (.c .geq (.v 0 7) (.i 0)),.cl z12 (.c .lss (.v 0 7) (.i 8)),.pre z12 5 [.a (Qi 1 (.v 0 7)),.l (.n .u32 (.v 0 1))],.pre (.c (.c .eql (.v 0 2) (.i 25)) true :: .c (.c .eql (.v 0 2) (.i 19)) false :: .c (.c .eql (.v 0 2) (.i 26)) false :: .c (.c .eql (.v 0 2) (.i 17)) false :: .c z8 false :: .c (.an z8 (.c .lss (.v 0 4) (.i 4))) false :: .c (.an (.c .geq (.v 0 2) (.i 6)) (.c .leq (.v 0 2) (.i 14))) false :: .c (.c .eql (.v 0 2) (.i 5)) false :: z1) 3 [z10,z11,z11],.pre (.c (.c .eql (.v 0 2) (.i 3)) true :: .c (.c .eql (.v 0 2) (.i 25)) false :: .c (.c .eql (.v 0 2) (.i 19)) false :: .c (.c .eql (.v 0 2) (.i 26)) false :: .c (.c .eql (.v 0 2) (.i 17)) false :: .c z8 false :: .c (.an z8 (.c .lss (.v 0 4) (.i 4))) false :: .c (.an (.c .geq (.v 0 2) (.i 6)) (.c .leq (.v 0 2) (.i 14))) false :: .c (.c .eql (.v 0 2) (.i 5)) false :: z1) 6 [z13],.pre (.f 64 6 [z13] :: .c (.c .eql (.v 0 2) (.i 3)) true :: .c (.c .eql (.v 0 2) (.i 25)) false :: .c (.c .eql (.v 0 2) (.i 19)) false :: .c (.c .eql (.v 0 2) (.i 26)) false :: .c (.c .eql (.v 0 2) (.i 17)) false :: .c z8 false :: .c (.an z8 (.c .lss (.v 0 4) (.i 4))) false :: .c (.an (.c .geq (.v 0 2) (.i 6)) (.c .leq (.v 0 2) (.i 14))) false :: .c (.c .eql (.v 0 2) (.i 5)) false :: z1) 2 [.l (.n .i64 (.i 4)),z14,.a (Qa 64 0 Qc)],.pre (.c (.c .eql (.v 0 2) (.i 4)) true :: .c (.c .eql (.v 0 2) (.i 3)) false :: .c (.c .eql (.v 0 2) (.i 25)) false :: .c (.c .eql (.v 0 2) (.i 19)) false :: .c (.c .eql (.v 0 2) (.i 26)) false :: .c (.c .eql (.v 0 2) (.i 17)) false :: .c z8 false :: .c (.an z8 (.c .lss (.v 0 4) (.i 4))) false :: .c (.an (.c .geq (.v 0 2) (.i 6)) (.c .leq (.v 0 2) (.i 14))) false :: .c (.c .eql (.v 0 2) (.i 5)) false :: z1) 6 [z13],.pre (.f 68 6 [z13] :: .c (.c .eql (.v 0 2) (.i 4)) true :: .c (.c .eql (.v 0 2) (.i 3)) false :: .c (.c .eql (.v 0 2) (.i 25)) false :: .c (.c .eql (.v 0 2) (.i 19)) false :: .c (.c .eql (.v 0 2) (.i 26)) false :: .c (.c .eql (.v 0 2) (.i 17)) false :: .c z8 false :: .c (.an z8 (.c .lss (.v 0 4) (.i 4))) false :: .c (.an (.c .geq (.v 0 2) (.i 6)) (.c .leq (.v 0 2) (.i 14))) false :: .c (.c .eql (.v 0 2) (.i 5)) false :: z1) 2 [.l (.n .i64 (.i 3)),z14,.a (Qa 68 0 Qc)],.pre (.f 69 2 [.l (.n .i64 (.i 3)),z14,.a (Qa 68 0 Qc)] :: .f 68 6 [z13] :: .c (.c .eql (.v 0 2) (.i 4)) true :: .c (.c .eql (.v 0 2) (.i 3)) false :: .c (.c .eql (.v 0 2) (.i 25)) false :: .c (.c .eql (.v 0 2) (.i 19)) false :: .c (.c .eql (.v 0 2) (.i 26)) false :: .c (.c .eql (.v 0 2) (.i 17)) false :: .c z8 false :: .c (.an z8 (.c .lss (.v 0 4) (.i 4))) false :: .c (.an (.c .geq (.v 0 2) (.i 6)) (.c .leq (.v 0 2) (.i 14))) false :: .c (.c .eql (.v 0 2) (.i 5)) false :: z1) 4 [],.cl (.f 78 4 [] :: .f 69 2 [.l (.n .i64 (.i 3)),z14,.a (Qa 68 0 Qc)] :: .f 68 6 [z13] :: .c (.c .eql (.v 0 2) (.i 4)) true :: .c (.c .eql (.v 0 2) (.i 3)) false :: .c (.c .eql (.v 0 2) (.i 25)) false :: .c (.c .eql (.v 0 2) (.i 19)) false :: .c (.c .eql (.v 0 2) (.i 26)) false :: .c (.c .eql (.v 0 2) (.i 17)) false :: .c z8 false :: .c (.an z8 (.c .lss (.v 0 4) (.i 4))) false :: .c (.an (.c .geq (.v 0 2) (.i 6)) (.c .leq (.v 0 2) (.i 14))) false :: .c (.c .eql (.v 0 2) (.i 5)) false :: z1) z2,.cl (.f 78 4 [] :: .f 69 2 [.l (.n .i64 (.i 3)),z14,.a (Qa 68 0 Qc)] :: .f 68 6 [z13] :: .c (.c .eql (.v 0 2) (.i 4)) true :: .c (.c .eql (.v 0 2) (.i 3)) false :: .c (.c .eql (.v 0 2) (.i 25)) false :: .c (.c .eql (.v 0 2) (.i 19)) false :: .c (.c .eql (.v 0 2) (.i 26)) false :: .c (.c .eql (.v 0 2) (.i 17)) false :: .c z8 false :: .c (.an z8 (.c .lss (.v 0 4) (.i 4))) false :: .c (.an (.c .geq (.v 0 2) (.i 6)) (.c .leq (.v 0 2) (.i 14))) false :: .c (.c .eql (.v 0 2) (.i 5)) false :: z1) z3,.pre (.c (.c .eql (.v 0 2) (.i 2)) true :: .c (.c .eql (.v 0 2) (.i 4)) false :: .c (.c .eql (.v 0 2) (.i 3)) false :: .c (.c .eql (.v 0 2) (.i 25)) false :: .c (.c .eql (.v 0 2) (.i 19)) false :: .c (.c .eql (.v 0 2) (.i 26)) false :: .c (.c .eql (.v 0 2) (.i 17)) false :: .c z8 false :: .c (.an z8 (.c .lss (.v 0 4) (.i 4))) false :: .c (.an (.c .geq (.v 0 2) (.i 6)) (.c .leq (.v 0 2) (.i 14))) false :: .c (.c .eql (.v 0 2) (.i 5)) false :: z1) 6 [z13],.pre (.f 72 6 [z13] :: .c (.c .eql (.v 0 2) (.i 2)) true :: .c (.c .eql (.v 0 2) (.i 4)) false :: .c (.c .eql (.v 0 2) (.i 3)) false :: .c (.c .eql (.v 0 2) (.i 25)) false :: .c (.c .eql (.v 0 2) (.i 19)) false :: .c (.c .eql (.v 0 2) (.i 26)) false :: .c (.c .eql (.v 0 2) (.i 17)) false :: .c z8 false :: .c (.an z8 (.c .lss (.v 0 4) (.i 4))) false :: .c (.an (.c .geq (.v 0 2) (.i 6)) (.c .leq (.v 0 2) (.i 14))) false :: .c (.c .eql (.v 0 2) (.i 5)) false :: z1) 2 [.l (.n .i64 (.i 3)),z14,.a (Qa 72 0 Qc)],.pre (.c (.c .eql (.v 0 2) (.i 23)) true :: .c (.c .eql (.v 0 2) (.i 2)) false :: .c (.c .eql (.v 0 2) (.i 4)) false :: .c (.c .eql (.v 0 2) (.i 3)) false :: .c (.c .eql (.v 0 2) (.i 25)) false :: .c (.c .eql (.v 0 2) (.i 19)) false :: .c (.c .eql (.v 0 2) (.i 26)) false :: .c (.c .eql (.v 0 2) (.i 17)) false :: .c z8 false :: .c (.an z8 (.c .lss (.v 0 4) (.i 4))) false :: .c (.an (.c .geq (.v 0 2) (.i 6)) (.c .leq (.v 0 2) (.i 14))) false :: .c (.c .eql (.v 0 2) (.i 5)) false :: z1) 7 [],.pre (.c (.c .eql (.v 0 2) (.i 24)) true :: .c (.c .eql (.v 0 2) (.i 23)) false :: .c (.c .eql (.v 0 2) (.i 2)) false :: .c (.c .eql (.v 0 2) (.i 4)) false :: .c (.c .eql (.v 0 2) (.i 3)) false :: .c (.c .eql (.v 0 2) (.i 25)) false :: .c (.c .eql (.v 0 2) (.i 19)) false :: .c (.c .eql (.v 0 2) (.i 26)) false :: .c (.c .eql (.v 0 2) (.i 17)) false :: .c z8 false :: .c (.an z8 (.c .lss (.v 0 4) (.i 4))) false :: .c (.an (.c .geq (.v 0 2) (.i 6)) (.c .leq (.v 0 2) (.i 14))) false :: .c (.c .eql (.v 0 2) (.i 5)) false :: z1) 7 [],.cl (.f 21 1 [z4,z0] :: .c (.c .eql (.v 0 2) (.i 5)) true :: z1) z2,.cl (.f 21 1 [z4,z0] :: .c (.c .eql (.v 0 2) (.i 5)) true :: z1) z3,.cl (.f 40 2 [.l (.n .i64 (.it (.c .eql z6 (.i 0)) (.i 3) (.it (.c .eql z6 (.i 1)) (.i 4) (.it (.c .eql z6 (.i 2)) (.i 6) (.it (.c .eql z6 (.i 3)) (.i 7) (.it (.c .eql z6 (.i 4)) (.i 8) (.it (.c .eql z6 (.i 5)) (.i 5) (.it (.c .eql z6 (.i 6)) (.i 9) (.it (.c .eql z6 (.i 7)) (.i 10) (.i 11)))))))))),.a (Qi 1 (.v 0 6)),.a (Qa 39 0 Qc)] :: z7) z2,.cl (.f 40 2 [.l (.n .i64 (.it (.c .eql z6 (.i 0)) (.i 3) (.it (.c .eql z6 (.i 1)) (.i 4) (.it (.c .eql z6 (.i 2)) (.i 6) (.it (.c .eql z6 (.i 3)) (.i 7) (.it (.c .eql z6 (.i 4)) (.i 8) (.it (.c .eql z6 (.i 5)) (.i 5) (.it (.c .eql z6 (.i 6)) (.i 9) (.it (.c .eql z6 (.i 7)) (.i 10) (.i 11)))))))))),.a (Qi 1 (.v 0 6)),.a (Qa 39 0 Qc)] :: z7) z3,.cl (.f 42 3 [z10,.l (.n .u32 (.o .sub .u32 (.o .shl .u32 (.i 1) (.o .mul .i64 (.i 8) (.v 0 4))) (.i 1))),z11] :: z9) z2,.cl (.f 42 3 [z10,.l (.n .u32 (.o .sub .u32 (.o .shl .u32 (.i 1) (.o .mul .i64 (.i 8) (.v 0 4))) (.i 1))),z11] :: z9) z3,.cl (.f 41 4 [] :: .c z8 true :: .c (.an z8 (.c .lss (.v 0 4) (.i 4))) false :: .c (.an (.c .geq (.v 0 2) (.i 6)) (.c .leq (.v 0 2) (.i 14))) false :: .c (.c .eql (.v 0 2) (.i 5)) false :: z1) z2,.cl (.f 41 4 [] :: .c z8 true :: .c (.an z8 (.c .lss (.v 0 4) (.i 4))) false :: .c (.an (.c .geq (.v 0 2) (.i 6)) (.c .leq (.v 0 2) (.i 14))) false :: .c (.c .eql (.v 0 2) (.i 5)) false :: z1) z3,.cl (.f 45 4 [] :: .c (.c .eql (.v 0 2) (.i 17)) true :: .c z8 false :: .c (.an z8 (.c .lss (.v 0 4) (.i 4))) false :: .c (.an (.c .geq (.v 0 2) (.i 6)) (.c .leq (.v 0 2) (.i 14))) false :: .c (.c .eql (.v 0 2) (.i 5)) false :: z1) z2,.cl (.f 45 4 [] :: .c (.c .eql (.v 0 2) (.i 17)) true :: .c z8 false :: .c (.an z8 (.c .lss (.v 0 4) (.i 4))) false :: .c (.an (.c .geq (.v 0 2) (.i 6)) (.c .leq (.v 0 2) (.i 14))) false :: .c (.c .eql (.v 0 2) (.i 5)) false :: z1) z3,.cl (.f 49 4 [] :: .c (.c .eql (.v 0 2) (.i 26)) true :: .c (.c .eql (.v 0 2) (.i 17)) false :: .c z8 false :: .c (.an z8 (.c .lss (.v 0 4) (.i 4))) false :: .c (.an (.c .geq (.v 0 2) (.i 6)) (.c .leq (.v 0 2) (.i 14))) false :: .c (.c .eql (.v 0 2) (.i 5)) false :: z1) z2,.cl (.f 49 4 [] :: .c (.c .eql (.v 0 2) (.i 26)) true :: .c (.c .eql (.v 0 2) (.i 17)) false :: .c z8 false :: .c (.an z8 (.c .lss (.v 0 4) (.i 4))) false :: .c (.an (.c .geq (.v 0 2) (.i 6)) (.c .leq (.v 0 2) (.i 14))) false :: .c (.c .eql (.v 0 2) (.i 5)) false :: z1) z3,.cl (.f 60 5 [.a (Qi 1 (.v 0 7)),.l (.n .u32 (.v 0 1))] :: z12) z2,.cl (.f 60 5 [.a (Qi 1 (.v 0 7)),.l (.n .u32 (.v 0 1))] :: z12) z3,.cl (.f 57 3 [z10,z11,z11] :: .c (.c .eql (.v 0 2) (.i 25)) true :: .c (.c .eql (.v 0 2) (.i 19)) false :: .c (.c .eql (.v 0 2) (.i 26)) false :: .c (.c .eql (.v 0 2) (.i 17)) false :: .c z8 false :: .c (.an z8 (.c .lss (.v 0 4) (.i 4))) false :: .c (.an (.c .geq (.v 0 2) (.i 6)) (.c .leq (.v 0 2) (.i 14))) false :: .c (.c .eql (.v 0 2) (.i 5)) false :: z1) z2,.cl (.f 57 3 [z10,z11,z11] :: .c (.c .eql (.v 0 2) (.i 25)) true :: .c (.c .eql (.v 0 2) (.i 19)) false :: .c (.c .eql (.v 0 2) (.i 26)) false :: .c (.c .eql (.v 0 2) (.i 17)) false :: .c z8 false :: .c (.an z8 (.c .lss (.v 0 4) (.i 4))) false :: .c (.an (.c .geq (.v 0 2) (.i 6)) (.c .leq (.v 0 2) (.i 14))) false :: .c (.c .eql (.v 0 2) (.i 5)) false :: z1) z3]
theorem QeC:QP Try.prog QeB 2000 Try.f18 Qeq QeD=some (Qg2,Qg3):=by kernel_rfl
set_option maxHeartbeats 8000000 in
theorem Qgl(i:Ins)(s:Nat→Qd)(h:i.wf∧∀k,(s k).wf)(w:World):Calls Try.prog 18 #[i.val,ZT s] w (Ret (ZT (Qw i s)) w):=by
 refine QG (C:= [Yf,QdD,Qad,J4,QhE,QfQ,JT,Qaf]) (I:= []) Qr rfl Try.func18 QeC (QuY i s) w rfl (fun r hr=>(List.not_mem_nil hr).elim) _ ?_ ?_
 ·refine⟨?_,?_,?_,?_,?_,?_,?_,?_,?_,?_,?_,?_,?_,?_,?_,?_,?_,?_,?_,?_,?_,?_,?_,?_,?_,?_,?_,?_,?_,?_,?_,?_,?_,?_,?_,?_,?_,?_,?_,?_,?_,?_,?_,?_,?_,?_,trivial⟩
  all_goals
   intro e he hc
   have h0:e.int 0=Q9 i:=(he 0 (by decide)).1
   have hi:=ZE h0
   have k1:=ZA (he 1 (by decide)).1 (he 1 (by decide)).2.1
   have kD:=Qsi (he 1 (by decide)).1 (he 1 (by decide)).2.1
   have k5:∀n,Zg e 1 (n * 5)=s n:=fun n=>by rw [Nat.mul_comm];exact k1 n
   have k35:Zg e 1 35=s 7:=k1 7
   clear he
   simp only [QC,Zb,Cd.holds,SX.den,cmI,PX.den,LX.den,VX.sat,List.map_cons,List.map_nil,List.append_nil,beq_iff_eq,bne_iff_ne,beq_eq_false_iff_ne,bne_eq_false_iff_eq,decide_eq_true_eq,decide_eq_false_iff_not,Bool.and_eq_true,Bool.and_eq_false_iff,ne_eq,List.getElem?_cons_zero,List.getElem?_cons_succ,Option.some.injEq,exists_eq_left',QI,QT,Q3,QS,QX,Xv,QB,QY,Yf,QdD,Qad,J4,QhE,QfQ,JT,Qaf,h0,Q9,hi,arI,true_and]at hc ⊢
  all_goals
   (try simp only [k5,k35]at hc)
   (try simp only [k5,k35])
  all_goals
   have hv1:Qj i=true:=by clear h0 hi k1 kD k5 k35;grind
   have hr:=QN hv1
   have hb:0≤i.b∧i.b < 8:=⟨hr.2.2.1,hr.2.2.2.1⟩
   have hS:WT i (stD (PX.dat e (PX.a (Qa 1 0 stK))))=WT i s:=QaT kD hb
   have hsw:(WT i s).wf:=QcV h.1 h.2
   first
    |omega
    |(simp only [IntKind.wrap_i64];omega)
    |(simp only [Q5];omega)
    |exact⟨h.2 _,h.1.2.1⟩
    |(refine⟨h.2 _,?_⟩;rw [hS]at hc;rw [QA hc.1.1 hc.1.2];exact hsw)
    |(refine⟨h.2 _,?_⟩;rw [QA hc.1.1 hc.1.2];exact ZR ⟨by decide,by decide⟩)
    |exact⟨by simp only [Q5];omega,QR _,by simp only [Q5];omega⟩
 refine⟨?_,?_,?_,?_,?_,?_,?_,?_,?_,?_,?_,?_,?_,?_,?_,trivial⟩
 all_goals
  intro e u he hc hs
  have h0:e.int 0=Q9 i:=(he 0 (by decide)).1
  have hi:=ZE h0
  have k1:=ZA (he 1 (by decide)).1 (he 1 (by decide)).2.1
  have kD:=Qsi (he 1 (by decide)).1 (he 1 (by decide)).2.1
  simp only [QC,Zb,Cd.holds,SX.den,cmI,PX.den,LX.den,VX.sat,List.map_cons,List.map_nil,List.append_nil,beq_iff_eq,bne_iff_ne,beq_eq_false_iff_ne,bne_eq_false_iff_eq,decide_eq_true_eq,decide_eq_false_iff_not,Bool.and_eq_true,Bool.and_eq_false_iff,ne_eq,List.getElem?_cons_zero,List.getElem?_cons_succ,Option.some.injEq,exists_eq_left',QI,QT,Q3,QS,QX,Xv,QB,QY,Yf,QdD,Qad,J4,QhE,QfQ,JT,Qaf,h0,Q9,hi,arI]at hc
  rw [VP hs]
  clear hs he
  have hv:Qj i=e.bool 6 0:=by grind
  have h6:e.int 0 6=i.a:=by rw [h0];rfl
  have k5:∀n,Zg e 1 (n * 5)=s n:=fun n=>by rw [Nat.mul_comm];exact k1 n
  have k35:Zg e 1 35=s 7:=k1 7
  (try simp only [k5,k35]at hc)
 ·rw [XK,Qw,if_pos (by rw [hv];exact hc.1)]
  exact Zr fun k _=>k1 k
 ·obtain⟨c1,h5,c2⟩:=hc
  have hv1:Qj i=true:=by grind
  have hr:=QN hv1
  rw [Yn k1 h6 (QA c1.1 c1.2),QaT kD ⟨hr.2.2.1,hr.2.2.2.1⟩]
  simp [Qw,hv1,h5]
 ·obtain⟨c1,c2,g1,g2,g3,c3⟩:=hc
  have hv1:Qj i=true:=by grind
  have hr:=QN hv1
  rw [QuI g1 g2,QA c2.1 c2.2,QaT kD ⟨hr.2.2.1,hr.2.2.2.1⟩]at c1
  rw [Yn k1 h6 (QA c1.1 c1.2)]
  simp [Qw,hv1,g1,g2,g3]
 ·obtain⟨c1,g1,g2,c3⟩:=hc
  have hv1:Qj i=true:=by grind
  rw [Yn k1 h6 (QA c1.1 c1.2)]
  simp [Qw,hv1,g1,g2,YW]
 ·obtain⟨c1,g1,g2,c3⟩:=hc
  have hv1:Qj i=true:=by grind
  have g3:¬i.width < 4:=by grind
  rw [Yn k1 h6 (QA c1.1 c1.2)]
  simp [Qw,hv1,g1,g3]
 ·obtain⟨c1,g1,c3⟩:=hc
  have hv1:Qj i=true:=by grind
  rw [Yn k1 h6 (QA c1.1 c1.2)]
  simp [Qw,hv1,g1]
 ·obtain⟨c1,g1,c3⟩:=hc
  have hv1:Qj i=true:=by grind
  rw [Yn k1 h6 (QA c1.1 c1.2)]
  simp [Qw,hv1,g1]
 ·obtain⟨c1,g1,c3⟩:=hc
  have hv1:Qj i=true:=by grind
  rw [Yn k1 h6 (QA c1.1 c1.2)]
  simp [Qw,hv1,g1]
 ·obtain⟨c1,g1,c3⟩:=hc
  have hv1:Qj i=true:=by grind
  rw [Yn k1 h6 (QA c1.1 c1.2)]
  simp [Qw,hv1,g1]
 ·obtain⟨c1,c2,g1,c3⟩:=hc
  have hv1:Qj i=true:=by grind
  rw [QA c2.1 c2.2]at c1
  rw [Qsh k1 (QA c1.1 c1.2)]
  simp [Qw,hv1,g1]
 ·obtain⟨c1,c2,c4,g1,c3⟩:=hc
  have hv1:Qj i=true:=by grind
  rw [QA c4.1 c4.2]at c2
  rw [Qlk k1 h6 (QA c1.1 c1.2) (QA c2.1 c2.2)]
  simp [Qw,hv1,g1]
 ·obtain⟨c1,c2,g1,c3⟩:=hc
  have hv1:Qj i=true:=by grind
  rw [QA c2.1 c2.2]at c1
  rw [Qsh k1 (QA c1.1 c1.2)]
  simp [Qw,hv1,g1]
 ·obtain⟨c1,g1,c3⟩:=hc
  have hv1:Qj i=true:=by grind
  rw [XK]
  have T:Qw i s=fun _=>Qy:=by simp [Qw,hv1,g1]
  rw [T]
  exact Zr fun k _=>ZA c1.1 c1.2 k
 ·obtain⟨c1,g1,c3⟩:=hc
  have hv1:Qj i=true:=by grind
  rw [XK]
  have T:Qw i s=fun _=>Qy:=by simp [Qw,hv1,g1]
  rw [T]
  exact Zr fun k _=>ZA c1.1 c1.2 k
 ·have T:Qw i s=s:=by
   have hv1:Qj i=true:=by grind
   grind [Qw]
  rw [XK,T]
  exact Zr fun k _=>k1 k
end Go.Proofs.Yteplnamfpodmlaa
