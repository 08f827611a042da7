/-
  Part of the proof.
-/
import Derived.Test.YteplnamfpodmlaaRRef15a
set_option linter.unusedVariables false
set_option linter.unusedSimpArgs false
set_option maxRecDepth 100000
open Go.ChangeShapes Go.WideShapes Go.ChangeAt Go.RowKit
namespace Go.Proofs.Yteplnamfpodmlaa
def Qwp:List Sg:= [⟨25,[.a Qb],.l none,true⟩,⟨58,[.l (some .u32)],.a Qc,true⟩,⟨59,[.a Qb,.a stK],.a Qc,true⟩,⟨60,[.l (some .i64),.a Qc,.a Qc],.a Qc,true⟩,⟨61,[.l (some .i64)],.l (some .i64),true⟩,⟨62,[.l (some .i64)],.a Qc,true⟩,⟨63,[],.a Qc,true⟩,⟨64,[.a Qc,.l (some .u32)],.a Qc,true⟩,⟨65,[.l (some .u32),.l (some .u32),.l (some .u32)],.a Qc,true⟩,⟨66,[.a Qc],.a stK,true⟩]
def QvM:List PX:= [.a (Qa 0 0 Qb),.a (Qa 1 0 stK)]
def QvZ:List Rw:= []
def QvX:Cfg:=⟨2,Qwp,[]⟩
def Qwn:List Lf:=
 let z0:SX:= .c .eql (.v 0 2) (.i 4)
 [⟨[.c (.v 6 0) false,.f 6 0 [.a (Qa 0 0 Qb)]],.v (.a (Qa 1 0 stK))⟩,⟨[.f 19 2 [.a (Qa 0 0 Qb),.a (Qa 1 0 stK)],.c (.c .eql (.v 0 2) (.i 5)) true,.f 8 1 [.l (.n .u32 (.i 4))],.c (.v 6 0) true,.f 6 0 [.a (Qa 0 0 Qb)]],.v (.a (Z6 (.v 0 6) (19,0) [(1,0),(1,5),(1,10),(1,15),(1,20),(1,25),(1,30),(1,35)]))⟩,⟨[.f 37 3 [.l (.n .i64 (.v 28 0)),.a (Qi 1 (.v 0 6)),.a (Qa 36 0 Qc)],.f 36 2 [.a (Qa 0 0 Qb),.a (Qa 1 0 stK)],.f 28 4 [.l (.n .i64 (.v 0 2))],.c (.c .geq (.v 0 2) (.i 6)) true,.c (.c .leq (.v 0 2) (.i 14)) true,.c (.c .eql (.v 0 2) (.i 5)) false,.f 8 1 [.l (.n .u32 (.i 4))],.c (.v 6 0) true,.f 6 0 [.a (Qa 0 0 Qb)]],.v (.a (Z6 (.v 0 6) (37,0) [(1,0),(1,5),(1,10),(1,15),(1,20),(1,25),(1,30),(1,35)]))⟩,⟨[.f 32 5 [.l (.n .i64 (.v 0 4))],.c (.c .eql (.v 0 2) (.i 16)) true,.c (.an (.c .geq (.v 0 2) (.i 6)) (.c .leq (.v 0 2) (.i 14))) false,.c (.c .eql (.v 0 2) (.i 5)) false,.f 8 1 [.l (.n .u32 (.i 4))],.c (.v 6 0) true,.f 6 0 [.a (Qa 0 0 Qb)]],.v (.a (Z6 (.v 0 6) (32,0) [(1,0),(1,5),(1,10),(1,15),(1,20),(1,25),(1,30),(1,35)]))⟩,⟨[.f 39 6 [],.c (.an (.no (.c .eql (.v 0 2) (.i 17))) (.no (.c .eql (.v 0 2) (.i 26)))) false,.c (.c .eql (.v 0 2) (.i 16)) false,.c (.an (.c .geq (.v 0 2) (.i 6)) (.c .leq (.v 0 2) (.i 14))) false,.c (.c .eql (.v 0 2) (.i 5)) false,.f 8 1 [.l (.n .u32 (.i 4))],.c (.v 6 0) true,.f 6 0 [.a (Qa 0 0 Qb)]],.v (.a (Z6 (.v 0 6) (39,0) [(1,0),(1,5),(1,10),(1,15),(1,20),(1,25),(1,30),(1,35)]))⟩,⟨[.f 50 7 [.a (Qi 1 (.v 0 7)),.l (.n .u32 (.v 0 1))],.c (.c .eql (.v 0 2) (.i 19)) true,.c (.c .eql (.v 0 2) (.i 17)) false,.c (.c .eql (.v 0 2) (.i 26)) false,.c (.c .eql (.v 0 2) (.i 16)) false,.c (.an (.c .geq (.v 0 2) (.i 6)) (.c .leq (.v 0 2) (.i 14))) false,.c (.c .eql (.v 0 2) (.i 5)) false,.f 8 1 [.l (.n .u32 (.i 4))],.c (.v 6 0) true,.f 6 0 [.a (Qa 0 0 Qb)]],.v (.a (Z6 (.v 0 6) (50,0) [(1,0),(1,5),(1,10),(1,15),(1,20),(1,25),(1,30),(1,35)]))⟩,⟨[.f 47 8 [.l (.n .u32 (.i 0)),.l (.n .u32 (.i 1)),.l (.n .u32 (.i 1))],.c (.c .eql (.v 0 2) (.i 25)) true,.c (.c .eql (.v 0 2) (.i 19)) false,.c (.c .eql (.v 0 2) (.i 17)) false,.c (.c .eql (.v 0 2) (.i 26)) false,.c (.c .eql (.v 0 2) (.i 16)) false,.c (.an (.c .geq (.v 0 2) (.i 6)) (.c .leq (.v 0 2) (.i 14))) false,.c (.c .eql (.v 0 2) (.i 5)) false,.f 8 1 [.l (.n .u32 (.i 4))],.c (.v 6 0) true,.f 6 0 [.a (Qa 0 0 Qb)]],.v (.a (Z6 (.v 0 6) (47,0) [(1,0),(1,5),(1,10),(1,15),(1,20),(1,25),(1,30),(1,35)]))⟩,⟨[.f 53 3 [.l (.n .i64 (.i 4)),.a (Qa 1 35 Qc),.a (Qa 8 0 Qc)],.c (.c .eql (.v 0 2) (.i 3)) true,.c (.c .eql (.v 0 2) (.i 25)) false,.c (.c .eql (.v 0 2) (.i 19)) false,.c (.c .eql (.v 0 2) (.i 17)) false,.c (.c .eql (.v 0 2) (.i 26)) false,.c (.c .eql (.v 0 2) (.i 16)) false,.c (.an (.c .geq (.v 0 2) (.i 6)) (.c .leq (.v 0 2) (.i 14))) false,.c (.c .eql (.v 0 2) (.i 5)) false,.f 8 1 [.l (.n .u32 (.i 4))],.c (.v 6 0) true,.f 6 0 [.a (Qa 0 0 Qb)]],.v (.a (Qik [(1,0),(1,5),(1,10),(1,15),(1,20),(1,25),(1,30),(53,0)]))⟩,⟨[.f 71 6 [],.c z0 true,.f 62 3 [.l (.n .i64 (.i 3)),.a (Qa 1 35 Qc),.a (Qa 8 0 Qc)],.c (.an (.no z0) (.no (.c .eql (.v 0 2) (.i 2)))) false,.c (.c .eql (.v 0 2) (.i 3)) false,.c (.c .eql (.v 0 2) (.i 25)) false,.c (.c .eql (.v 0 2) (.i 19)) false,.c (.c .eql (.v 0 2) (.i 17)) false,.c (.c .eql (.v 0 2) (.i 26)) false,.c (.c .eql (.v 0 2) (.i 16)) false,.c (.an (.c .geq (.v 0 2) (.i 6)) (.c .leq (.v 0 2) (.i 14))) false,.c (.c .eql (.v 0 2) (.i 5)) false,.f 8 1 [.l (.n .u32 (.i 4))],.c (.v 6 0) true,.f 6 0 [.a (Qa 0 0 Qb)]],.v (.a (Z6 (.v 0 6) (71,0) [(1,0),(1,5),(1,10),(1,15),(1,20),(1,25),(1,30),(62,0)]))⟩,⟨[.c z0 false,.f 62 3 [.l (.n .i64 (.i 3)),.a (Qa 1 35 Qc),.a (Qa 8 0 Qc)],.c (.an (.no z0) (.no (.c .eql (.v 0 2) (.i 2)))) false,.c (.c .eql (.v 0 2) (.i 3)) false,.c (.c .eql (.v 0 2) (.i 25)) false,.c (.c .eql (.v 0 2) (.i 19)) false,.c (.c .eql (.v 0 2) (.i 17)) false,.c (.c .eql (.v 0 2) (.i 26)) false,.c (.c .eql (.v 0 2) (.i 16)) false,.c (.an (.c .geq (.v 0 2) (.i 6)) (.c .leq (.v 0 2) (.i 14))) false,.c (.c .eql (.v 0 2) (.i 5)) false,.f 8 1 [.l (.n .u32 (.i 4))],.c (.v 6 0) true,.f 6 0 [.a (Qa 0 0 Qb)]],.v (.a (Qik [(1,0),(1,5),(1,10),(1,15),(1,20),(1,25),(1,30),(62,0)]))⟩,⟨[.f 68 9 [.a (Qa 67 0 Qc)],.f 67 6 [],.c (.an (.no (.c .eql (.v 0 2) (.i 23))) (.no (.c .eql (.v 0 2) (.i 24)))) false,.c z0 false,.c (.c .eql (.v 0 2) (.i 2)) false,.c (.c .eql (.v 0 2) (.i 3)) false,.c (.c .eql (.v 0 2) (.i 25)) false,.c (.c .eql (.v 0 2) (.i 19)) false,.c (.c .eql (.v 0 2) (.i 17)) false,.c (.c .eql (.v 0 2) (.i 26)) false,.c (.c .eql (.v 0 2) (.i 16)) false,.c (.an (.c .geq (.v 0 2) (.i 6)) (.c .leq (.v 0 2) (.i 14))) false,.c (.c .eql (.v 0 2) (.i 5)) false,.f 8 1 [.l (.n .u32 (.i 4))],.c (.v 6 0) true,.f 6 0 [.a (Qa 0 0 Qb)]],.v (.a (Qa 68 0 stK))⟩,⟨[.c (.c .eql (.v 0 2) (.i 23)) false,.c (.c .eql (.v 0 2) (.i 24)) false,.c z0 false,.c (.c .eql (.v 0 2) (.i 2)) false,.c (.c .eql (.v 0 2) (.i 3)) false,.c (.c .eql (.v 0 2) (.i 25)) false,.c (.c .eql (.v 0 2) (.i 19)) false,.c (.c .eql (.v 0 2) (.i 17)) false,.c (.c .eql (.v 0 2) (.i 26)) false,.c (.c .eql (.v 0 2) (.i 16)) false,.c (.an (.c .geq (.v 0 2) (.i 6)) (.c .leq (.v 0 2) (.i 14))) false,.c (.c .eql (.v 0 2) (.i 5)) false,.f 8 1 [.l (.n .u32 (.i 4))],.c (.v 6 0) true,.f 6 0 [.a (Qa 0 0 Qb)]],.v (.a (Qa 1 0 stK))⟩]
def Qwo:List Ob:=
 let z0:PX:= .a (Qa 0 0 Qb)
 let z1:PX:= .a (Qa 1 0 stK)
 let z2:SX:= .c .geq (.v 0 6) (.i 0)
 let z3:SX:= .c .lss (.v 0 6) (.i 8)
 let z4:List Cd:= [.c (.c .geq (.v 0 2) (.i 6)) true,.c (.c .leq (.v 0 2) (.i 14)) true,.c (.c .eql (.v 0 2) (.i 5)) false,.f 8 1 [.l (.n .u32 (.i 4))],.c (.v 6 0) true,.f 6 0 [z0]]
 let z5:List Cd:=(.f 28 4 [.l (.n .i64 (.v 0 2))] :: z4)
 let z6:List Cd:=(.f 36 2 [z0,z1] :: z5)
 let z7:List Cd:= [.c (.c .eql (.v 0 2) (.i 19)) true,.c (.c .eql (.v 0 2) (.i 17)) false,.c (.c .eql (.v 0 2) (.i 26)) false,.c (.c .eql (.v 0 2) (.i 16)) false,.c (.an (.c .geq (.v 0 2) (.i 6)) (.c .leq (.v 0 2) (.i 14))) false,.c (.c .eql (.v 0 2) (.i 5)) false,.f 8 1 [.l (.n .u32 (.i 4))],.c (.v 6 0) true,.f 6 0 [z0]]
 let z8:PX:= .l (.n .u32 (.i 1))
 let z9:SX:= .c .eql (.v 0 2) (.i 4)
 [.pre [] 0 [z0],.pre [.c (.v 6 0) true,.f 6 0 [z0]] 1 [.l (.n .u32 (.i 4))],.pre [.c (.c .eql (.v 0 2) (.i 5)) true,.f 8 1 [.l (.n .u32 (.i 4))],.c (.v 6 0) true,.f 6 0 [z0]] 2 [z0,z1],.cl [.f 19 2 [z0,z1],.c (.c .eql (.v 0 2) (.i 5)) true,.f 8 1 [.l (.n .u32 (.i 4))],.c (.v 6 0) true,.f 6 0 [z0]] z2,.cl [.f 19 2 [z0,z1],.c (.c .eql (.v 0 2) (.i 5)) true,.f 8 1 [.l (.n .u32 (.i 4))],.c (.v 6 0) true,.f 6 0 [z0]] z3,.cl z4 z2,.cl z4 z3,.cl z5 z2,.cl z5 z3,.pre z4 4 [.l (.n .i64 (.v 0 2))],.pre z5 2 [z0,z1],.cl z6 z2,.cl z6 z3,.pre z6 3 [.l (.n .i64 (.v 28 0)),.a (Qi 1 (.v 0 6)),.a (Qa 36 0 Qc)],.cl (.f 37 3 [.l (.n .i64 (.v 28 0)),.a (Qi 1 (.v 0 6)),.a (Qa 36 0 Qc)] :: z6) z2,.cl (.f 37 3 [.l (.n .i64 (.v 28 0)),.a (Qi 1 (.v 0 6)),.a (Qa 36 0 Qc)] :: z6) z3,.pre [.c (.c .eql (.v 0 2) (.i 16)) true,.c (.an (.c .geq (.v 0 2) (.i 6)) (.c .leq (.v 0 2) (.i 14))) false,.c (.c .eql (.v 0 2) (.i 5)) false,.f 8 1 [.l (.n .u32 (.i 4))],.c (.v 6 0) true,.f 6 0 [z0]] 5 [.l (.n .i64 (.v 0 4))],.cl [.f 32 5 [.l (.n .i64 (.v 0 4))],.c (.c .eql (.v 0 2) (.i 16)) true,.c (.an (.c .geq (.v 0 2) (.i 6)) (.c .leq (.v 0 2) (.i 14))) false,.c (.c .eql (.v 0 2) (.i 5)) false,.f 8 1 [.l (.n .u32 (.i 4))],.c (.v 6 0) true,.f 6 0 [z0]] z2,.cl [.f 32 5 [.l (.n .i64 (.v 0 4))],.c (.c .eql (.v 0 2) (.i 16)) true,.c (.an (.c .geq (.v 0 2) (.i 6)) (.c .leq (.v 0 2) (.i 14))) false,.c (.c .eql (.v 0 2) (.i 5)) false,.f 8 1 [.l (.n .u32 (.i 4))],.c (.v 6 0) true,.f 6 0 [z0]] z3,.pre [.c (.an (.no (.c .eql (.v 0 2) (.i 17))) (.no (.c .eql (.v 0 2) (.i 26)))) false,.c (.c .eql (.v 0 2) (.i 16)) false,.c (.an (.c .geq (.v 0 2) (.i 6)) (.c .leq (.v 0 2) (.i 14))) false,.c (.c .eql (.v 0 2) (.i 5)) false,.f 8 1 [.l (.n .u32 (.i 4))],.c (.v 6 0) true,.f 6 0 [z0]] 6 [],.cl [.f 39 6 [],.c (.an (.no (.c .eql (.v 0 2) (.i 17))) (.no (.c .eql (.v 0 2) (.i 26)))) false,.c (.c .eql (.v 0 2) (.i 16)) false,.c (.an (.c .geq (.v 0 2) (.i 6)) (.c .leq (.v 0 2) (.i 14))) false,.c (.c .eql (.v 0 2) (.i 5)) false,.f 8 1 [.l (.n .u32 (.i 4))],.c (.v 6 0) true,.f 6 0 [z0]] z2,.cl [.f 39 6 [],.c (.an (.no (.c .eql (.v 0 2) (.i 17))) (.no (.c .eql (.v 0 2) (.i 26)))) false,.c (.c .eql (.v 0 2) (.i 16)) false,.c (.an (.c .geq (.v 0 2) (.i 6)) (.c .leq (.v 0 2) (.i 14))) false,.c (.c .eql (.v 0 2) (.i 5)) false,.f 8 1 [.l (.n .u32 (.i 4))],.c (.v 6 0) true,.f 6 0 [z0]] z3,.cl z7 (.c .geq (.v 0 7) (.i 0)),.cl z7 (.c .lss (.v 0 7) (.i 8)),.pre z7 7 [.a (Qi 1 (.v 0 7)),.l (.n .u32 (.v 0 1))],.cl (.f 50 7 [.a (Qi 1 (.v 0 7)),.l (.n .u32 (.v 0 1))] :: z7) z2,.cl (.f 50 7 [.a (Qi 1 (.v 0 7)),.l (.n .u32 (.v 0 1))] :: z7) z3,.pre [.c (.c .eql (.v 0 2) (.i 25)) true,.c (.c .eql (.v 0 2) (.i 19)) false,.c (.c .eql (.v 0 2) (.i 17)) false,.c (.c .eql (.v 0 2) (.i 26)) false,.c (.c .eql (.v 0 2) (.i 16)) false,.c (.an (.c .geq (.v 0 2) (.i 6)) (.c .leq (.v 0 2) (.i 14))) false,.c (.c .eql (.v 0 2) (.i 5)) false,.f 8 1 [.l (.n .u32 (.i 4))],.c (.v 6 0) true,.f 6 0 [z0]] 8 [.l (.n .u32 (.i 0)),z8,z8],.cl [.f 47 8 [.l (.n .u32 (.i 0)),z8,z8],.c (.c .eql (.v 0 2) (.i 25)) true,.c (.c .eql (.v 0 2) (.i 19)) false,.c (.c .eql (.v 0 2) (.i 17)) false,.c (.c .eql (.v 0 2) (.i 26)) false,.c (.c .eql (.v 0 2) (.i 16)) false,.c (.an (.c .geq (.v 0 2) (.i 6)) (.c .leq (.v 0 2) (.i 14))) false,.c (.c .eql (.v 0 2) (.i 5)) false,.f 8 1 [.l (.n .u32 (.i 4))],.c (.v 6 0) true,.f 6 0 [z0]] z2,.cl [.f 47 8 [.l (.n .u32 (.i 0)),z8,z8],.c (.c .eql (.v 0 2) (.i 25)) true,.c (.c .eql (.v 0 2) (.i 19)) false,.c (.c .eql (.v 0 2) (.i 17)) false,.c (.c .eql (.v 0 2) (.i 26)) false,.c (.c .eql (.v 0 2) (.i 16)) false,.c (.an (.c .geq (.v 0 2) (.i 6)) (.c .leq (.v 0 2) (.i 14))) false,.c (.c .eql (.v 0 2) (.i 5)) false,.f 8 1 [.l (.n .u32 (.i 4))],.c (.v 6 0) true,.f 6 0 [z0]] z3,.pre [.c (.c .eql (.v 0 2) (.i 3)) true,.c (.c .eql (.v 0 2) (.i 25)) false,.c (.c .eql (.v 0 2) (.i 19)) false,.c (.c .eql (.v 0 2) (.i 17)) false,.c (.c .eql (.v 0 2) (.i 26)) false,.c (.c .eql (.v 0 2) (.i 16)) false,.c (.an (.c .geq (.v 0 2) (.i 6)) (.c .leq (.v 0 2) (.i 14))) false,.c (.c .eql (.v 0 2) (.i 5)) false,.f 8 1 [.l (.n .u32 (.i 4))],.c (.v 6 0) true,.f 6 0 [z0]] 3 [.l (.n .i64 (.i 4)),.a (Qa 1 35 Qc),.a (Qa 8 0 Qc)],.pre [.c (.an (.no z9) (.no (.c .eql (.v 0 2) (.i 2)))) false,.c (.c .eql (.v 0 2) (.i 3)) false,.c (.c .eql (.v 0 2) (.i 25)) false,.c (.c .eql (.v 0 2) (.i 19)) false,.c (.c .eql (.v 0 2) (.i 17)) false,.c (.c .eql (.v 0 2) (.i 26)) false,.c (.c .eql (.v 0 2) (.i 16)) false,.c (.an (.c .geq (.v 0 2) (.i 6)) (.c .leq (.v 0 2) (.i 14))) false,.c (.c .eql (.v 0 2) (.i 5)) false,.f 8 1 [.l (.n .u32 (.i 4))],.c (.v 6 0) true,.f 6 0 [z0]] 3 [.l (.n .i64 (.i 3)),.a (Qa 1 35 Qc),.a (Qa 8 0 Qc)],.pre [.c z9 true,.f 62 3 [.l (.n .i64 (.i 3)),.a (Qa 1 35 Qc),.a (Qa 8 0 Qc)],.c (.an (.no z9) (.no (.c .eql (.v 0 2) (.i 2)))) false,.c (.c .eql (.v 0 2) (.i 3)) false,.c (.c .eql (.v 0 2) (.i 25)) false,.c (.c .eql (.v 0 2) (.i 19)) false,.c (.c .eql (.v 0 2) (.i 17)) false,.c (.c .eql (.v 0 2) (.i 26)) false,.c (.c .eql (.v 0 2) (.i 16)) false,.c (.an (.c .geq (.v 0 2) (.i 6)) (.c .leq (.v 0 2) (.i 14))) false,.c (.c .eql (.v 0 2) (.i 5)) false,.f 8 1 [.l (.n .u32 (.i 4))],.c (.v 6 0) true,.f 6 0 [z0]] 6 [],.cl [.f 71 6 [],.c z9 true,.f 62 3 [.l (.n .i64 (.i 3)),.a (Qa 1 35 Qc),.a (Qa 8 0 Qc)],.c (.an (.no z9) (.no (.c .eql (.v 0 2) (.i 2)))) false,.c (.c .eql (.v 0 2) (.i 3)) false,.c (.c .eql (.v 0 2) (.i 25)) false,.c (.c .eql (.v 0 2) (.i 19)) false,.c (.c .eql (.v 0 2) (.i 17)) false,.c (.c .eql (.v 0 2) (.i 26)) false,.c (.c .eql (.v 0 2) (.i 16)) false,.c (.an (.c .geq (.v 0 2) (.i 6)) (.c .leq (.v 0 2) (.i 14))) false,.c (.c .eql (.v 0 2) (.i 5)) false,.f 8 1 [.l (.n .u32 (.i 4))],.c (.v 6 0) true,.f 6 0 [z0]] z2,.cl [.f 71 6 [],.c z9 true,.f 62 3 [.l (.n .i64 (.i 3)),.a (Qa 1 35 Qc),.a (Qa 8 0 Qc)],.c (.an (.no z9) (.no (.c .eql (.v 0 2) (.i 2)))) false,.c (.c .eql (.v 0 2) (.i 3)) false,.c (.c .eql (.v 0 2) (.i 25)) false,.c (.c .eql (.v 0 2) (.i 19)) false,.c (.c .eql (.v 0 2) (.i 17)) false,.c (.c .eql (.v 0 2) (.i 26)) false,.c (.c .eql (.v 0 2) (.i 16)) false,.c (.an (.c .geq (.v 0 2) (.i 6)) (.c .leq (.v 0 2) (.i 14))) false,.c (.c .eql (.v 0 2) (.i 5)) false,.f 8 1 [.l (.n .u32 (.i 4))],.c (.v 6 0) true,.f 6 0 [z0]] z3,.pre [.c (.an (.no (.c .eql (.v 0 2) (.i 23))) (.no (.c .eql (.v 0 2) (.i 24)))) false,.c z9 false,.c (.c .eql (.v 0 2) (.i 2)) false,.c (.c .eql (.v 0 2) (.i 3)) false,.c (.c .eql (.v 0 2) (.i 25)) false,.c (.c .eql (.v 0 2) (.i 19)) false,.c (.c .eql (.v 0 2) (.i 17)) false,.c (.c .eql (.v 0 2) (.i 26)) false,.c (.c .eql (.v 0 2) (.i 16)) false,.c (.an (.c .geq (.v 0 2) (.i 6)) (.c .leq (.v 0 2) (.i 14))) false,.c (.c .eql (.v 0 2) (.i 5)) false,.f 8 1 [.l (.n .u32 (.i 4))],.c (.v 6 0) true,.f 6 0 [z0]] 6 [],.pre [.f 67 6 [],.c (.an (.no (.c .eql (.v 0 2) (.i 23))) (.no (.c .eql (.v 0 2) (.i 24)))) false,.c z9 false,.c (.c .eql (.v 0 2) (.i 2)) false,.c (.c .eql (.v 0 2) (.i 3)) false,.c (.c .eql (.v 0 2) (.i 25)) false,.c (.c .eql (.v 0 2) (.i 19)) false,.c (.c .eql (.v 0 2) (.i 17)) false,.c (.c .eql (.v 0 2) (.i 26)) false,.c (.c .eql (.v 0 2) (.i 16)) false,.c (.an (.c .geq (.v 0 2) (.i 6)) (.c .leq (.v 0 2) (.i 14))) false,.c (.c .eql (.v 0 2) (.i 5)) false,.f 8 1 [.l (.n .u32 (.i 4))],.c (.v 6 0) true,.f 6 0 [z0]] 9 [.a (Qa 67 0 Qc)]]
theorem QvY:QP Try.prog QvX 2000 Try.f24 QvM QvZ=some (Qwn,Qwo):=by kernel_rfl
set_option maxHeartbeats 8000000 in
theorem Qwd(i:Ins)(s:Nat→Qd)(h:i.wf∧∀k,(s k).wf)(w:World):Calls Try.prog 24 #[i.val,ZT s] w (Ret (ZT (Qw i s)) w):=by
 refine QG (C:= [KF,Qv0,QvH,Qv6,Qgg,QvF,QvI,QvQ,Qvz,QxD]) (I:= []) Qr rfl Try.func24 QvY (QuY i s) w rfl (fun r hr=>(List.not_mem_nil hr).elim) _ ?_ ?_
 ·refine⟨?_,?_,?_,?_,?_,?_,?_,?_,?_,?_,?_,?_,?_,?_,?_,?_,?_,?_,?_,?_,?_,?_,?_,?_,?_,?_,?_,?_,?_,?_,?_,?_,?_,?_,?_,?_,?_,trivial⟩
  all_goals
   intro e he hc
   have h0:e.int 0=Q9 i:=(he 0 (by decide)).1
   have hi:=ZE h0
   have k1:=ZA (he 1 (by decide)).1 (he 1 (by decide)).2.1
   have kD:=Qsi (he 1 (by decide)).1 (he 1 (by decide)).2.1
   have k5:∀n,Zg e 1 (n * 5)=s n:=fun n=>by rw [Nat.mul_comm];exact k1 n
   have k35:Zg e 1 35=s 7:=k1 7
   clear he
   simp only [QC,Zb,Cd.holds,SX.den,cmI,PX.den,LX.den,VX.sat,List.map_cons,List.map_nil,List.append_nil,beq_iff_eq,bne_iff_ne,beq_eq_false_iff_ne,bne_eq_false_iff_eq,decide_eq_true_eq,decide_eq_false_iff_not,Bool.and_eq_true,Bool.and_eq_false_iff,Bool.not_eq_false',ne_eq,List.getElem?_cons_zero,List.getElem?_cons_succ,Option.some.injEq,exists_eq_left',QI,QT,Q3,QS,QX,Xv,QB,QY,KF,Qv0,QvH,Qv6,Qgg,QvF,QvI,QvQ,Qvz,QxD,h0,Q9,hi,arI,true_and]at hc ⊢
  all_goals
   (try simp only [k5,k35]at hc)
   (try simp only [k5,k35])
  all_goals
   have hv1:Qj i=true:=by clear h0 hi k1 kD k5 k35;grind
   have hr:=QN hv1
   have hb:0≤i.b∧i.b < 8:=⟨hr.2.2.1,hr.2.2.2.1⟩
   have hS:WT i (stD (PX.dat e (PX.a (Qa 1 0 stK))))=WT i s:=QaT kD hb
   have hsw:(WT i s).wf:=QcV h.1 h.2
   first
    |omega
    |(simp only [IntKind.wrap_i64];omega)
    |(simp only [Q5];omega)
    |exact⟨h.2 _,h.1.2.1⟩
    |(refine⟨h.2 _,?_⟩;rw [hS]at hc;rw [QA hc.1.1 hc.1.2];exact hsw)
    |(have h8:Zg e 8 0=X2 4:=by
       have f8:(e.int 8=ZC (X2 4)∧e.bool 8=Xc (X2 4))→Zg e 8 0=X2 4:=fun h=>QA h.1 h.2
       clear h0 hi k1 kD k5 k35 hr hb hS hsw hv1
       grind
      rw [h8]
      exact⟨h.2 _,ZR ⟨by decide,by decide⟩⟩)
 refine⟨?_,?_,?_,?_,?_,?_,?_,?_,?_,?_,?_,?_,trivial⟩
 all_goals
  intro e u he hc hs
  have h0:e.int 0=Q9 i:=(he 0 (by decide)).1
  have hi:=ZE h0
  have k1:=ZA (he 1 (by decide)).1 (he 1 (by decide)).2.1
  have kD:=Qsi (he 1 (by decide)).1 (he 1 (by decide)).2.1
  simp only [QC,Zb,Cd.holds,SX.den,cmI,PX.den,LX.den,VX.sat,List.map_cons,List.map_nil,List.append_nil,beq_iff_eq,bne_iff_ne,beq_eq_false_iff_ne,bne_eq_false_iff_eq,decide_eq_true_eq,decide_eq_false_iff_not,Bool.and_eq_true,Bool.and_eq_false_iff,Bool.not_eq_false',ne_eq,List.getElem?_cons_zero,List.getElem?_cons_succ,Option.some.injEq,exists_eq_left',QI,QT,Q3,QS,QX,Xv,QB,QY,KF,Qv0,QvH,Qv6,Qgg,QvF,QvI,QvQ,Qvz,QxD,h0,Q9,hi,arI]at hc
  rw [VP hs]
  clear hs he
  have hv:Qj i=e.bool 6 0:=by grind
  have h6:e.int 0 6=i.a:=by rw [h0];rfl
  have k5:∀n,Zg e 1 (n * 5)=s n:=fun n=>by rw [Nat.mul_comm];exact k1 n
  have k35:Zg e 1 35=s 7:=k1 7
  (try simp only [k5,k35]at hc)
 all_goals
  have f8:(e.int 8=ZC (X2 4)∧e.bool 8=Xc (X2 4))→Zg e 8 0=X2 4:=fun h=>QA h.1 h.2
 ·rw [XK,Qw,if_pos (by rw [hv];exact hc.1)]
  exact Zr fun k _=>k1 k
 ·obtain⟨c1,h5,c2⟩:=hc
  have hv1:Qj i=true:=by grind
  have hr:=QN hv1
  rw [Yn k1 h6 (QA c1.1 c1.2),QaT kD ⟨hr.2.2.1,hr.2.2.2.1⟩]
  simp [Qw,hv1,h5]
 ·obtain⟨c1,c2,c3,g1,g2,g3,c4⟩:=hc
  have hv1:Qj i=true:=by grind
  have hr:=QN hv1
  rw [c3.1,QA c2.1 c2.2,QaT kD ⟨hr.2.2.1,hr.2.2.2.1⟩]at c1
  rw [Yn k1 h6 (QA c1.1 c1.2)]
  simp [Qw,hv1,g1,g2,g3]
 ·obtain⟨c1,g1,c3⟩:=hc
  have hv1:Qj i=true:=by grind
  have hr:=QN hv1
  rw [Yn k1 h6 (QA c1.1 c1.2)]
  congr 1
  rcases hr.2.2.2.2.1 g1 with hw|hw|hw
  ·have e1:YW i=255:=by unfold YW;rw [hw];decide
   simp [Qw,hv1,g1,hw,e1,Qv9]
  ·have e1:YW i=65535:=by unfold YW;rw [hw];decide
   simp [Qw,hv1,g1,hw,e1,Qv9]
  ·simp [Qw,hv1,g1,hw,Qv9]
 ·obtain⟨c1,c3⟩:=hc
  have hv1:Qj i=true:=by grind
  rw [Yn k1 h6 (QA c1.1 c1.2)]
  have T:Qw i s=Ks s i.a Qy:=by grind [Qw]
  rw [T]
 ·obtain⟨c1,c3⟩:=hc
  have hv1:Qj i=true:=by grind
  rw [Yn k1 h6 (QA c1.1 c1.2)]
  have T:Qw i s=Ks s i.a (Wn (s i.b.toNat) i.imm):=by grind [Qw]
  rw [T]
 ·obtain⟨c1,c3⟩:=hc
  have hv1:Qj i=true:=by grind
  rw [Yn k1 h6 (QA c1.1 c1.2)]
  have T:Qw i s=Ks s i.a (Qs 0 1 1):=by grind [Qw]
  rw [T]
 ·have h8:Zg e 8 0=X2 4:=by grind
  obtain⟨c1,g1,c3⟩:=hc
  have hv1:Qj i=true:=by grind
  rw [h8]at c1
  rw [Qsh k1 (QA c1.1 c1.2)]
  simp [Qw,hv1,g1]
 ·have h8:Zg e 8 0=X2 4:=by grind
  obtain⟨c1,g1,c2,c3⟩:=hc
  have hv1:Qj i=true:=by grind
  rw [h8]at c2
  rw [Qlk k1 h6 (QA c1.1 c1.2) (QA c2.1 c2.2)]
  simp [Qw,hv1,g1]
 ·have h8:Zg e 8 0=X2 4:=by grind
  obtain⟨g1,c2,g2,c3⟩:=hc
  have hv1:Qj i=true:=by grind
  have g3:i.op=2:=by grind
  rw [h8]at c2
  rw [Qsh k1 (QA c2.1 c2.2)]
  simp [Qw,hv1,g3]
 ·obtain⟨c1,c2,g1,c3⟩:=hc
  have hv1:Qj i=true:=by grind
  rw [QA c2.1 c2.2]at c1
  rw [XK]
  have T:Qw i s=fun _=>Qy:=by grind [Qw]
  rw [T]
  exact Zr fun k _=>ZA c1.1 c1.2 k
 ·have T:Qw i s=s:=by
   have hv1:Qj i=true:=by grind
   grind [Qw]
  rw [XK,T]
  exact Zr fun k _=>k1 k
end Go.Proofs.Yteplnamfpodmlaa
