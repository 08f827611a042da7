/-
  VsaStates: for all cases the call returns true: Join and Within of package vsa return what the reference's return, Join covers both states, Before returns the reference's state. No condition on the inputs.
-/
import Derived.Test.YteplnamfpodmlaaRows
import Derived.Test.YteplnamfpodmlaaRLz
import Derived.Test.YteplnamfpodmlaaRRef15c
import Derived.Test.YteplnamfpodmlaaRC
set_option linter.unusedVariables false
set_option linter.unusedSimpArgs false
set_option maxRecDepth 100000
open Go.ChangeShapes Go.WideShapes Go.ChangeAt Go.RowKit
namespace Go.Proofs.Yteplnamfpodmlaa.T2
def Qy5:List Sg:= [⟨20,[.a stK,.a stK],.b (.a stK),true,false⟩,⟨21,[.a stK,.a stK],.b (.a stK),true,false⟩,⟨17,[.a stK,.a stK],.b (.l none),true,false⟩,⟨22,[.a stK,.a stK],.b (.l none),true,false⟩,⟨16,[.sl Qb,.sl stK,.l (some .u32)],.b (.tp [.inr stK,.inl none]),true,false⟩,⟨23,[.sl Qb,.sl stK,.l (some .u32)],.b (.tp [.inr stK,.inl none]),true,false⟩,⟨12,[],.b (.l none),true,true⟩]
def QxV:List PX:= [.a (Qa 0 0 JJ ++ [.sl 2 (.v 1 0)])]
def Qyo:List Rw:= [⟨2,Qb,(.v 1 0)⟩]
def Qym:Cfg:=⟨3,Qy5,[],[11],[]⟩
def Qy3:List Lf:=
 let z0:PX:= .a (Qa 0 50 stK)
 let z1:PX:= .a (Qa 0 10 stK)
 [⟨[.f 47 6 [],.c (.c .leq (.v 1 0) (.i 16)) false,.c (.c .geq (.v 1 0) (.i 0)) true],.v (.l (.t (.v 47 0))),[⟨3,.cells 50 ((Qa 0 0 JJ ++ [.sl 2 (.v 1 0)]))⟩]⟩,⟨[.c (.an (.an (.an (.an (.an (.eq (.v 103 0) (.v 139 0)) (.an (.eq (.v 103 1) (.v 139 1)) (.an (.c .eql (.v 103 2) (.v 139 2)) (.an (.c .eql (.v 103 3) (.v 139 3)) (.c .eql (.v 103 4) (.v 139 4)))))) (.an (.an (.eq (.v 103 5) (.v 139 5)) (.an (.eq (.v 103 6) (.v 139 6)) (.an (.c .eql (.v 103 7) (.v 139 7)) (.an (.c .eql (.v 103 8) (.v 139 8)) (.c .eql (.v 103 9) (.v 139 9)))))) (.an (.an (.eq (.v 103 10) (.v 139 10)) (.an (.eq (.v 103 11) (.v 139 11)) (.an (.c .eql (.v 103 12) (.v 139 12)) (.an (.c .eql (.v 103 13) (.v 139 13)) (.c .eql (.v 103 14) (.v 139 14)))))) (.an (.an (.eq (.v 103 15) (.v 139 15)) (.an (.eq (.v 103 16) (.v 139 16)) (.an (.c .eql (.v 103 17) (.v 139 17)) (.an (.c .eql (.v 103 18) (.v 139 18)) (.c .eql (.v 103 19) (.v 139 19)))))) (.an (.an (.eq (.v 103 20) (.v 139 20)) (.an (.eq (.v 103 21) (.v 139 21)) (.an (.c .eql (.v 103 22) (.v 139 22)) (.an (.c .eql (.v 103 23) (.v 139 23)) (.c .eql (.v 103 24) (.v 139 24)))))) (.an (.an (.eq (.v 103 25) (.v 139 25)) (.an (.eq (.v 103 26) (.v 139 26)) (.an (.c .eql (.v 103 27) (.v 139 27)) (.an (.c .eql (.v 103 28) (.v 139 28)) (.c .eql (.v 103 29) (.v 139 29)))))) (.an (.an (.eq (.v 103 30) (.v 139 30)) (.an (.eq (.v 103 31) (.v 139 31)) (.an (.c .eql (.v 103 32) (.v 139 32)) (.an (.c .eql (.v 103 33) (.v 139 33)) (.c .eql (.v 103 34) (.v 139 34)))))) (.an (.eq (.v 103 35) (.v 139 35)) (.an (.eq (.v 103 36) (.v 139 36)) (.an (.c .eql (.v 103 37) (.v 139 37)) (.an (.c .eql (.v 103 38) (.v 139 38)) (.c .eql (.v 103 39) (.v 139 39))))))))))))) (.eq (.v 163 0) (.v 183 0))) (.v 207 0)) (.v 231 0)) false,.f 231 2 [(z0,0),(.a (Qa 103 0 stK),0)],.f 207 2 [(z1,0),(.a (Qa 103 0 stK),0)],.f 183 3 [(z1,0),(z0,0)],.f 163 2 [(z1,0),(z0,0)],.f 139 1 [(z1,0),(z0,0)],.f 103 0 [(z1,0),(z0,0)],.c (.c .leq (.v 1 0) (.i 16)) true,.c (.c .geq (.v 1 0) (.i 0)) true],.v (.l (.t (.b false))),[⟨3,.cells 50 ((Qa 0 0 JJ ++ [.sl 2 (.v 1 0)]))⟩,⟨79,.cells 37 (Qa 0 10 stK)⟩,⟨83,.cells 37 (Qa 0 50 stK)⟩,⟨107,.cells 37 (Qa 103 0 stK)⟩]⟩,⟨[.f 407 6 [],.f 335 5 [(.l (.sl 2 (.v 1 0)),2),(.l (.sl 323 (.i 2)),323),(.l (.n .u32 (.v 0 98)),0)],.u 323 none (.i 0) 40 0 (Qa 0 10 [none,none,some .u32,some .u32,some .u32,none,none,some .u32,some .u32,some .u32,none,none,some .u32,some .u32,some .u32,none,none,some .u32,some .u32,some .u32,none,none,some .u32,some .u32,some .u32,none,none,some .u32,some .u32,some .u32,none,none,some .u32,some .u32,some .u32,none,none,some .u32,some .u32,some .u32,none,none,some .u32,some .u32,some .u32,none,none,some .u32,some .u32,some .u32,none,none,some .u32,some .u32,some .u32,none,none,some .u32,some .u32,some .u32,none,none,some .u32,some .u32,some .u32,none,none,some .u32,some .u32,some .u32,none,none,some .u32,some .u32,some .u32,none,none,some .u32,some .u32,some .u32]),.f 271 4 [(.l (.sl 2 (.v 1 0)),2),(.l (.sl 259 (.i 2)),259),(.l (.n .u32 (.v 0 98)),0)],.u 259 none (.i 0) 40 0 (Qa 0 10 [none,none,some .u32,some .u32,some .u32,none,none,some .u32,some .u32,some .u32,none,none,some .u32,some .u32,some .u32,none,none,some .u32,some .u32,some .u32,none,none,some .u32,some .u32,some .u32,none,none,some .u32,some .u32,some .u32,none,none,some .u32,some .u32,some .u32,none,none,some .u32,some .u32,some .u32,none,none,some .u32,some .u32,some .u32,none,none,some .u32,some .u32,some .u32,none,none,some .u32,some .u32,some .u32,none,none,some .u32,some .u32,some .u32,none,none,some .u32,some .u32,some .u32,none,none,some .u32,some .u32,some .u32,none,none,some .u32,some .u32,some .u32,none,none,some .u32,some .u32,some .u32]),.c (.eq (.v 103 0) (.v 139 0)) true,.c (.eq (.v 103 1) (.v 139 1)) true,.c (.c .eql (.v 103 2) (.v 139 2)) true,.c (.c .eql (.v 103 3) (.v 139 3)) true,.c (.c .eql (.v 103 4) (.v 139 4)) true,.c (.eq (.v 103 5) (.v 139 5)) true,.c (.eq (.v 103 6) (.v 139 6)) true,.c (.c .eql (.v 103 7) (.v 139 7)) true,.c (.c .eql (.v 103 8) (.v 139 8)) true,.c (.c .eql (.v 103 9) (.v 139 9)) true,.c (.eq (.v 103 10) (.v 139 10)) true,.c (.eq (.v 103 11) (.v 139 11)) true,.c (.c .eql (.v 103 12) (.v 139 12)) true,.c (.c .eql (.v 103 13) (.v 139 13)) true,.c (.c .eql (.v 103 14) (.v 139 14)) true,.c (.eq (.v 103 15) (.v 139 15)) true,.c (.eq (.v 103 16) (.v 139 16)) true,.c (.c .eql (.v 103 17) (.v 139 17)) true,.c (.c .eql (.v 103 18) (.v 139 18)) true,.c (.c .eql (.v 103 19) (.v 139 19)) true,.c (.eq (.v 103 20) (.v 139 20)) true,.c (.eq (.v 103 21) (.v 139 21)) true,.c (.c .eql (.v 103 22) (.v 139 22)) true,.c (.c .eql (.v 103 23) (.v 139 23)) true,.c (.c .eql (.v 103 24) (.v 139 24)) true,.c (.eq (.v 103 25) (.v 139 25)) true,.c (.eq (.v 103 26) (.v 139 26)) true,.c (.c .eql (.v 103 27) (.v 139 27)) true,.c (.c .eql (.v 103 28) (.v 139 28)) true,.c (.c .eql (.v 103 29) (.v 139 29)) true,.c (.eq (.v 103 30) (.v 139 30)) true,.c (.eq (.v 103 31) (.v 139 31)) true,.c (.c .eql (.v 103 32) (.v 139 32)) true,.c (.c .eql (.v 103 33) (.v 139 33)) true,.c (.c .eql (.v 103 34) (.v 139 34)) true,.c (.eq (.v 103 35) (.v 139 35)) true,.c (.eq (.v 103 36) (.v 139 36)) true,.c (.c .eql (.v 103 37) (.v 139 37)) true,.c (.c .eql (.v 103 38) (.v 139 38)) true,.c (.c .eql (.v 103 39) (.v 139 39)) true,.c (.eq (.v 163 0) (.v 183 0)) true,.c (.v 207 0) true,.c (.v 231 0) true,.f 231 2 [(z0,0),(.a (Qa 103 0 stK),0)],.f 207 2 [(z1,0),(.a (Qa 103 0 stK),0)],.f 183 3 [(z1,0),(z0,0)],.f 163 2 [(z1,0),(z0,0)],.f 139 1 [(z1,0),(z0,0)],.f 103 0 [(z1,0),(z0,0)],.c (.c .leq (.v 1 0) (.i 16)) true,.c (.c .geq (.v 1 0) (.i 0)) true],.v (.l (.t (.an (.an (.an (.an (.eq (.v 271 0) (.v 335 0)) (.an (.eq (.v 271 1) (.v 335 1)) (.an (.c .eql (.v 271 2) (.v 335 2)) (.an (.c .eql (.v 271 3) (.v 335 3)) (.c .eql (.v 271 4) (.v 335 4)))))) (.an (.an (.eq (.v 271 5) (.v 335 5)) (.an (.eq (.v 271 6) (.v 335 6)) (.an (.c .eql (.v 271 7) (.v 335 7)) (.an (.c .eql (.v 271 8) (.v 335 8)) (.c .eql (.v 271 9) (.v 335 9)))))) (.an (.an (.eq (.v 271 10) (.v 335 10)) (.an (.eq (.v 271 11) (.v 335 11)) (.an (.c .eql (.v 271 12) (.v 335 12)) (.an (.c .eql (.v 271 13) (.v 335 13)) (.c .eql (.v 271 14) (.v 335 14)))))) (.an (.an (.eq (.v 271 15) (.v 335 15)) (.an (.eq (.v 271 16) (.v 335 16)) (.an (.c .eql (.v 271 17) (.v 335 17)) (.an (.c .eql (.v 271 18) (.v 335 18)) (.c .eql (.v 271 19) (.v 335 19)))))) (.an (.an (.eq (.v 271 20) (.v 335 20)) (.an (.eq (.v 271 21) (.v 335 21)) (.an (.c .eql (.v 271 22) (.v 335 22)) (.an (.c .eql (.v 271 23) (.v 335 23)) (.c .eql (.v 271 24) (.v 335 24)))))) (.an (.an (.eq (.v 271 25) (.v 335 25)) (.an (.eq (.v 271 26) (.v 335 26)) (.an (.c .eql (.v 271 27) (.v 335 27)) (.an (.c .eql (.v 271 28) (.v 335 28)) (.c .eql (.v 271 29) (.v 335 29)))))) (.an (.an (.eq (.v 271 30) (.v 335 30)) (.an (.eq (.v 271 31) (.v 335 31)) (.an (.c .eql (.v 271 32) (.v 335 32)) (.an (.c .eql (.v 271 33) (.v 335 33)) (.c .eql (.v 271 34) (.v 335 34)))))) (.an (.eq (.v 271 35) (.v 335 35)) (.an (.eq (.v 271 36) (.v 335 36)) (.an (.c .eql (.v 271 37) (.v 335 37)) (.an (.c .eql (.v 271 38) (.v 335 38)) (.c .eql (.v 271 39) (.v 335 39))))))))))))) (.eq (.v 271 40) (.v 335 40))) (.v 407 0)))),[⟨3,.cells 50 ((Qa 0 0 JJ ++ [.sl 2 (.v 1 0)]))⟩,⟨79,.cells 37 (Qa 0 10 stK)⟩,⟨83,.cells 37 (Qa 0 50 stK)⟩,⟨107,.cells 37 (Qa 103 0 stK)⟩,⟨259,.row stK (.i 2) 259⟩,⟨287,.cells 37 (Qa 271 0 stK)⟩,⟨323,.row stK (.i 2) 323⟩,⟨351,.cells 46 (Qa 335 0 stK)⟩]⟩]
def Qy4:List Ob:=
 let z0:PX:= .a (Qa 0 10 stK)
 let z1:PX:= .a (Qa 0 50 stK)
 let z2:Cd:= .c (.eq (.v 103 0) (.v 139 0)) true
 let z3:Cd:= .c (.eq (.v 103 1) (.v 139 1)) true
 let z4:Cd:= .c (.c .eql (.v 103 2) (.v 139 2)) true
 let z5:Cd:= .c (.c .eql (.v 103 3) (.v 139 3)) true
 let z6:Cd:= .c (.c .eql (.v 103 4) (.v 139 4)) true
 let z7:Cd:= .c (.eq (.v 103 5) (.v 139 5)) true
 let z8:Cd:= .c (.eq (.v 103 6) (.v 139 6)) true
 let z9:Cd:= .c (.c .eql (.v 103 7) (.v 139 7)) true
 let z10:Cd:= .c (.c .eql (.v 103 8) (.v 139 8)) true
 let z11:Cd:= .c (.c .eql (.v 103 9) (.v 139 9)) true
 let z12:Cd:= .c (.eq (.v 103 10) (.v 139 10)) true
 let z13:Cd:= .c (.eq (.v 103 11) (.v 139 11)) true
 let z14:Cd:= .c (.c .eql (.v 103 12) (.v 139 12)) true
 let z15:Cd:= .c (.c .eql (.v 103 13) (.v 139 13)) true
 let z16:Cd:= .c (.c .eql (.v 103 14) (.v 139 14)) true
 let z17:Cd:= .c (.eq (.v 103 15) (.v 139 15)) true
 let z18:Cd:= .c (.eq (.v 103 16) (.v 139 16)) true
 let z19:Cd:= .c (.c .eql (.v 103 17) (.v 139 17)) true
 let z20:Cd:= .c (.c .eql (.v 103 18) (.v 139 18)) true
 let z21:Cd:= .c (.c .eql (.v 103 19) (.v 139 19)) true
 let z22:Cd:= .c (.eq (.v 103 20) (.v 139 20)) true
 let z23:Cd:= .c (.eq (.v 103 21) (.v 139 21)) true
 let z24:Cd:= .c (.c .eql (.v 103 22) (.v 139 22)) true
 let z25:Cd:= .c (.c .eql (.v 103 23) (.v 139 23)) true
 let z26:Cd:= .c (.c .eql (.v 103 24) (.v 139 24)) true
 let z27:Cd:= .c (.eq (.v 103 25) (.v 139 25)) true
 let z28:Cd:= .c (.eq (.v 103 26) (.v 139 26)) true
 let z29:Cd:= .c (.c .eql (.v 103 27) (.v 139 27)) true
 let z30:Cd:= .c (.c .eql (.v 103 28) (.v 139 28)) true
 let z31:Cd:= .c (.c .eql (.v 103 29) (.v 139 29)) true
 let z32:Cd:= .c (.eq (.v 103 30) (.v 139 30)) true
 let z33:Cd:= .c (.eq (.v 103 31) (.v 139 31)) true
 let z34:Cd:= .c (.c .eql (.v 103 32) (.v 139 32)) true
 let z35:Cd:= .c (.c .eql (.v 103 33) (.v 139 33)) true
 let z36:Cd:= .c (.c .eql (.v 103 34) (.v 139 34)) true
 let z37:Cd:= .c (.eq (.v 103 35) (.v 139 35)) true
 let z38:Cd:= .c (.eq (.v 103 36) (.v 139 36)) true
 let z39:Cd:= .c (.c .eql (.v 103 37) (.v 139 37)) true
 let z40:Cd:= .c (.c .eql (.v 103 38) (.v 139 38)) true
 let z41:Cd:= .c (.c .eql (.v 103 39) (.v 139 39)) true
 let z42:Cd:= .c (.eq (.v 163 0) (.v 183 0)) true
 let z43:PX:= .a (Qa 103 0 stK)
 [.cl [] (.c .geq (.v 1 0) (.i 0)),.pre [.c (.c .leq (.v 1 0) (.i 16)) true,.c (.c .geq (.v 1 0) (.i 0)) true] 0 [(z0,0),(z1,0)],.pre [.f 103 0 [(z0,0),(z1,0)],.c (.c .leq (.v 1 0) (.i 16)) true,.c (.c .geq (.v 1 0) (.i 0)) true] 1 [(z0,0),(z1,0)],.pre [z2,z3,z4,z5,z6,z7,z8,z9,z10,z11,z12,z13,z14,z15,z16,z17,z18,z19,z20,z21,z22,z23,z24,z25,z26,z27,z28,z29,z30,z31,z32,z33,z34,z35,z36,z37,z38,z39,z40,z41,.f 139 1 [(z0,0),(z1,0)],.f 103 0 [(z0,0),(z1,0)],.c (.c .leq (.v 1 0) (.i 16)) true,.c (.c .geq (.v 1 0) (.i 0)) true] 2 [(z0,0),(z1,0)],.pre [z2,z3,z4,z5,z6,z7,z8,z9,z10,z11,z12,z13,z14,z15,z16,z17,z18,z19,z20,z21,z22,z23,z24,z25,z26,z27,z28,z29,z30,z31,z32,z33,z34,z35,z36,z37,z38,z39,z40,z41,.f 163 2 [(z0,0),(z1,0)],.f 139 1 [(z0,0),(z1,0)],.f 103 0 [(z0,0),(z1,0)],.c (.c .leq (.v 1 0) (.i 16)) true,.c (.c .geq (.v 1 0) (.i 0)) true] 3 [(z0,0),(z1,0)],.pre [z2,z3,z4,z5,z6,z7,z8,z9,z10,z11,z12,z13,z14,z15,z16,z17,z18,z19,z20,z21,z22,z23,z24,z25,z26,z27,z28,z29,z30,z31,z32,z33,z34,z35,z36,z37,z38,z39,z40,z41,z42,.f 183 3 [(z0,0),(z1,0)],.f 163 2 [(z0,0),(z1,0)],.f 139 1 [(z0,0),(z1,0)],.f 103 0 [(z0,0),(z1,0)],.c (.c .leq (.v 1 0) (.i 16)) true,.c (.c .geq (.v 1 0) (.i 0)) true] 2 [(z0,0),(z43,0)],.pre [z2,z3,z4,z5,z6,z7,z8,z9,z10,z11,z12,z13,z14,z15,z16,z17,z18,z19,z20,z21,z22,z23,z24,z25,z26,z27,z28,z29,z30,z31,z32,z33,z34,z35,z36,z37,z38,z39,z40,z41,z42,.c (.v 207 0) true,.f 207 2 [(z0,0),(z43,0)],.f 183 3 [(z0,0),(z1,0)],.f 163 2 [(z0,0),(z1,0)],.f 139 1 [(z0,0),(z1,0)],.f 103 0 [(z0,0),(z1,0)],.c (.c .leq (.v 1 0) (.i 16)) true,.c (.c .geq (.v 1 0) (.i 0)) true] 2 [(z1,0),(z43,0)],.pre [.u 259 none (.i 0) 40 0 (Qa 0 10 [none,none,some .u32,some .u32,some .u32,none,none,some .u32,some .u32,some .u32,none,none,some .u32,some .u32,some .u32,none,none,some .u32,some .u32,some .u32,none,none,some .u32,some .u32,some .u32,none,none,some .u32,some .u32,some .u32,none,none,some .u32,some .u32,some .u32,none,none,some .u32,some .u32,some .u32,none,none,some .u32,some .u32,some .u32,none,none,some .u32,some .u32,some .u32,none,none,some .u32,some .u32,some .u32,none,none,some .u32,some .u32,some .u32,none,none,some .u32,some .u32,some .u32,none,none,some .u32,some .u32,some .u32,none,none,some .u32,some .u32,some .u32,none,none,some .u32,some .u32,some .u32]),z2,z3,z4,z5,z6,z7,z8,z9,z10,z11,z12,z13,z14,z15,z16,z17,z18,z19,z20,z21,z22,z23,z24,z25,z26,z27,z28,z29,z30,z31,z32,z33,z34,z35,z36,z37,z38,z39,z40,z41,z42,.c (.v 207 0) true,.c (.v 231 0) true,.f 231 2 [(z1,0),(z43,0)],.f 207 2 [(z0,0),(z43,0)],.f 183 3 [(z0,0),(z1,0)],.f 163 2 [(z0,0),(z1,0)],.f 139 1 [(z0,0),(z1,0)],.f 103 0 [(z0,0),(z1,0)],.c (.c .leq (.v 1 0) (.i 16)) true,.c (.c .geq (.v 1 0) (.i 0)) true] 4 [(.l (.sl 2 (.v 1 0)),2),(.l (.sl 259 (.i 2)),259),(.l (.n .u32 (.v 0 98)),0)],.pre [.u 323 none (.i 0) 40 0 (Qa 0 10 [none,none,some .u32,some .u32,some .u32,none,none,some .u32,some .u32,some .u32,none,none,some .u32,some .u32,some .u32,none,none,some .u32,some .u32,some .u32,none,none,some .u32,some .u32,some .u32,none,none,some .u32,some .u32,some .u32,none,none,some .u32,some .u32,some .u32,none,none,some .u32,some .u32,some .u32,none,none,some .u32,some .u32,some .u32,none,none,some .u32,some .u32,some .u32,none,none,some .u32,some .u32,some .u32,none,none,some .u32,some .u32,some .u32,none,none,some .u32,some .u32,some .u32,none,none,some .u32,some .u32,some .u32,none,none,some .u32,some .u32,some .u32,none,none,some .u32,some .u32,some .u32]),.f 271 4 [(.l (.sl 2 (.v 1 0)),2),(.l (.sl 259 (.i 2)),259),(.l (.n .u32 (.v 0 98)),0)],.u 259 none (.i 0) 40 0 (Qa 0 10 [none,none,some .u32,some .u32,some .u32,none,none,some .u32,some .u32,some .u32,none,none,some .u32,some .u32,some .u32,none,none,some .u32,some .u32,some .u32,none,none,some .u32,some .u32,some .u32,none,none,some .u32,some .u32,some .u32,none,none,some .u32,some .u32,some .u32,none,none,some .u32,some .u32,some .u32,none,none,some .u32,some .u32,some .u32,none,none,some .u32,some .u32,some .u32,none,none,some .u32,some .u32,some .u32,none,none,some .u32,some .u32,some .u32,none,none,some .u32,some .u32,some .u32,none,none,some .u32,some .u32,some .u32,none,none,some .u32,some .u32,some .u32,none,none,some .u32,some .u32,some .u32]),z2,z3,z4,z5,z6,z7,z8,z9,z10,z11,z12,z13,z14,z15,z16,z17,z18,z19,z20,z21,z22,z23,z24,z25,z26,z27,z28,z29,z30,z31,z32,z33,z34,z35,z36,z37,z38,z39,z40,z41,z42,.c (.v 207 0) true,.c (.v 231 0) true,.f 231 2 [(z1,0),(z43,0)],.f 207 2 [(z0,0),(z43,0)],.f 183 3 [(z0,0),(z1,0)],.f 163 2 [(z0,0),(z1,0)],.f 139 1 [(z0,0),(z1,0)],.f 103 0 [(z0,0),(z1,0)],.c (.c .leq (.v 1 0) (.i 16)) true,.c (.c .geq (.v 1 0) (.i 0)) true] 5 [(.l (.sl 2 (.v 1 0)),2),(.l (.sl 323 (.i 2)),323),(.l (.n .u32 (.v 0 98)),0)]]
theorem Qyn:QP Try.prog Qym 1000 4 4 Try.f4 QxV Qyo=some (Qy3,Qy4):=by kernel_rfl
def QyL:List (Kon Try.prog):= [QfP.kon,Qxc.kon,QbZ.kon,QvR.kon,YG,Qwy,kEx]
theorem Qw0{a b:Nat→Qd}(wa:∀k,(a k).wf)(wb:∀k,(b k).wf):Vy a (ZN (Vb a b))=true∧Vy b (ZN (Vb a b))=true:=by
 refine⟨Qiw.2 fun r hr=>?_,Qiw.2 fun r hr=>?_⟩
 ·have h:ZN (Vb a b) r=Va (a r) (b r):=by unfold ZN;rw [if_pos hr];rfl
  rw [h];exact(QbF (wa r) (wb r)).1
 ·have h:ZN (Vb a b) r=Va (a r) (b r):=by unfold ZN;rw [if_pos hr];rfl
  rw [h];exact(QbF (wa r) (wb r)).2
theorem Qys{a b:Nat→Qd}(wa:∀k,(a k).wf)(wb:∀k,(b k).wf):∀k,(Vb a b k).wf:=fun k=>(Qh9 (wa k) (wb k)).1
set_option maxHeartbeats 4000000 in
theorem vsaStates_walk'(ci:Nat→Int)(cb:Nat→Bool)(hc:InR JJ ci 0)(A:Option Addr)(n c:Nat)(hl:n≤maxLen)(ri:Nat→Int)(rb:Nat→Bool)(hr:∀i,i < n→InR Qb ri (i * Qb.length))(w:World)(hrow:Xn w A n Qb ri rb) :
 Calls Try.prog 4 #[.agg (ZB ci cb 0 JJ ++ [Value.slice A n c]).toArray] w (Ret (.bool true) w):=by
 have K:=Qns hc
 have KS:=Qsj (bool:=cb) K.s
 have KT:=Qsj (bool:=cb) K.t
 have ml:maxLen < 2 ^ 63:=by decide
 refine ZK (C:=QyL) (I:= []) Qr rfl Try.func4 Qyn (Kh [nmB ci cb,nmN n,nmR A c ri rb]) w rfl ?_ _ ?_ ?_
 ·intro r hr0
  rw [List.mem_singleton.1 hr0]
  exact hrow
 ·have two:∀e:Env,e.nm 0=nmB ci cb→(∀k,(stD (PX.dat e 0 (.a (Qa 0 10 stK))) k).wf)∧∀k,(stD (PX.dat e 0 (.a (Qa 0 50 stK))) k).wf:=fun e h0=>by
   rw [Qb8,Qb8]
   unfold Env.int Env.bool
   rw [h0]
   exact⟨KS,KT⟩
  have jn:∀e:Env,e.nm 0=nmB ci cb→Cd.holds QyL [] e (.f 103 0 [(.a (Qa 0 10 stK),0),(.a (Qa 0 50 stK),0)])→∀k,(stD (PX.dat e 0 (.a (Qa 103 0 stK))) k).wf:=fun e h0 h=>by
   have g:(e.nm 103).int=_∧(e.nm 103).bool=_:=Wh h (c:=QfP.kon) rfl
   rw [K7 g.1 g.2]
   exact We (Qys (two e h0).1 (two e h0).2)
  refine⟨?_,?_,?_,?_,?_,?_,?_,?_,?_,trivial⟩
  ·intro e he hcd
   have h1:e.nm 1=nmN n:=he 1 (by decide)
   show decide (0≤(e.nm 1).int 0)=true
   rw [h1]
   exact decide_eq_true (Int.natCast_nonneg n)
  ·intro e he hcd;exact two e (he 0 (by decide))
  ·intro e he hcd;exact two e (he 0 (by decide))
  ·intro e he hcd;exact two e (he 0 (by decide))
  ·intro e he hcd;exact two e (he 0 (by decide))
  ·intro e he hcd
   exact⟨(two e (he 0 (by decide))).1,jn e (he 0 (by decide)) (by(have hpq:=hcd;(repeat (first|exact hpq|exact hpq.1|replace hpq:=hpq.2));done))⟩
  ·intro e he hcd
   exact⟨(two e (he 0 (by decide))).2,jn e (he 0 (by decide)) (by(have hpq:=hcd;(repeat (first|exact hpq|exact hpq.1|replace hpq:=hpq.2));done))⟩
  ·intro e he hcd
   have h1:e.nm 1=nmN n:=he 1 (by decide)
   show(((e.nm 1).int 0).toNat:Int) < 2 ^ 63
   rw [h1]
   show((n:Int).toNat:Int) < 2 ^ 63
   omega
  ·intro e he hcd
   have h1:e.nm 1=nmN n:=he 1 (by decide)
   show(((e.nm 1).int 0).toNat:Int) < 2 ^ 63
   rw [h1]
   show((n:Int).toNat:Int) < 2 ^ 63
   omega
 ·refine⟨?_,?_,?_,trivial⟩
  ·intro e u he hcd hs
   have g:(e.nm 47).int=_∧(e.nm 47).bool=fun _=>true:=Wh hcd.1 (c:=kEx) rfl
   rw [show u=_ from hs]
   refine congrArg Value.bool ?_
   show(e.nm 47).bool 0=true
   rw [g.2]
  ·intro e u he hcd hs
   have h0:e.nm 0=nmB ci cb:=he 0 (by decide)
   obtain⟨hx,f231,f207,f183,f163,f139,f103, -⟩:=hcd
   have g103:(e.nm 103).int=_∧(e.nm 103).bool=_:=Wh f103 (c:=QfP.kon) rfl
   have g139:(e.nm 139).int=_∧(e.nm 139).bool=_:=Wh f139 (c:=Qxc.kon) rfl
   have g163:(e.nm 163).int=_∧(e.nm 163).bool=fun _=>Vy (stD (PX.dat e 0 (.a (Qa 0 10 stK)))) (stD (PX.dat e 0 (.a (Qa 0 50 stK)))):=Wh f163 (c:=QbZ.kon) rfl
   have g183:(e.nm 183).int=_∧(e.nm 183).bool=fun _=>Vy (stD (PX.dat e 0 (.a (Qa 0 10 stK)))) (stD (PX.dat e 0 (.a (Qa 0 50 stK)))):=Wh f183 (c:=QvR.kon) rfl
   have g207:(e.nm 207).int=_∧(e.nm 207).bool=fun _=>Vy (stD (PX.dat e 0 (.a (Qa 0 10 stK)))) (stD (PX.dat e 0 (.a (Qa 103 0 stK)))):=Wh f207 (c:=QbZ.kon) rfl
   have g231:(e.nm 231).int=_∧(e.nm 231).bool=fun _=>Vy (stD (PX.dat e 0 (.a (Qa 0 50 stK)))) (stD (PX.dat e 0 (.a (Qa 103 0 stK)))):=Wh f231 (c:=QbZ.kon) rfl
   rw [K7 g103.1 g103.2]at g207 g231
   have x2:(e.nm 139).int=(e.nm 103).int:=g139.1.trans g103.1.symm
   have x3:(e.nm 139).bool=(e.nm 103).bool:=g139.2.trans g103.2.symm
   have cv:=Qw0 (a:=stD (PX.dat e 0 (.a (Qa 0 10 stK)))) (b:=stD (PX.dat e 0 (.a (Qa 0 50 stK)))) (by rw [Qb8];unfold Env.int Env.bool;rw [h0];exact KS) (by rw [Qb8];unfold Env.int Env.bool;rw [h0];exact KT)
   have x4:(e.nm 163).bool=(e.nm 183).bool:=g163.2.trans g183.2.symm
   have x5:(e.nm 207).bool 0=true:=by rw [g207.2];exact cv.1
   have x6:(e.nm 231).bool 0=true:=by rw [g231.2];exact cv.2
   exfalso
   revert hx
   simp only [Cd.holds,SX.den,cmI,Env.int,Env.bool,x2,x3,x4,x5,x6,beq_self_eq_true,decide_true,Bool.and_true]
   decide
  ·intro e u he hcd hs
   obtain⟨f407,f335,u323,f271,u259, -⟩:=hcd
   have g407:(e.nm 407).int=_∧(e.nm 407).bool=fun _=>true:=Wh f407 (c:=kEx) rfl
   have g335:(e.nm 335).int=Ys (Kq (Qe (e.nm 2).int) ((e.nm 1).int 0).toNat 2 ((e.nm 0).int 98)) (e.nm 323).int∧(e.nm 335).bool=Yr (Kq (Qe (e.nm 2).int) ((e.nm 1).int 0).toNat 2 ((e.nm 0).int 98)) (e.nm 323).bool:=Wh f335 (c:=Qwy) rfl
   have g271:(e.nm 271).int=Ys (Kq (Qe (e.nm 2).int) ((e.nm 1).int 0).toNat 2 ((e.nm 0).int 98)) (e.nm 259).int∧(e.nm 271).bool=Yr (Kq (Qe (e.nm 2).int) ((e.nm 1).int 0).toNat 2 ((e.nm 0).int 98)) (e.nm 259).bool:=Wh f271 (c:=YG) rfl
   have y1:(e.nm 323).int=(e.nm 259).int:=u323.1.trans u259.1.symm
   have y2:(e.nm 323).bool=(e.nm 259).bool:=u323.2.trans u259.2.symm
   have x1:(e.nm 407).bool=fun _=>true:=g407.2
   have x2:(e.nm 335).int=(e.nm 271).int:=by rw [g335.1,g271.1,y1]
   have x3:(e.nm 335).bool=(e.nm 271).bool:=by rw [g335.2,g271.2,y2]
   rw [show u=_ from hs]
   simp only [PX.den,LX.den,SX.den,cmI,Env.int,Env.bool,x1,x2,x3,beq_self_eq_true,decide_true,Bool.and_true]
end Go.Proofs.Yteplnamfpodmlaa.T2
namespace Go.Proofs.Yteplnamfpodmlaa
theorem vsaStates_walk(ci:Nat→Int)(cb:Nat→Bool)(hc:InR JJ ci 0)(A:Option Addr)(n c:Nat)(hl:n≤maxLen)(ri:Nat→Int)(rb:Nat→Bool)(hr:∀i,i < n→InR Qb ri (i * Qb.length))(w:World)(hrow:Xn w A n Qb ri rb) :
 Calls Try.prog 4 #[.agg (ZB ci cb 0 JJ ++ [Value.slice A n c]).toArray] w (Ret (.bool true) w):=T2.vsaStates_walk' ci cb hc A n c hl ri rb hr w hrow
theorem vsaStates_own:ownKnob Try.prog.godebug=none:=by kernel_rfl
set_option maxRecDepth 100000 in
theorem vsaStates_lifted(os:Os)(started:os.Started)(H:Type)(enc:TypeId×Value→H) :
 ReturnsInHanded {} Try.checked os 4 .any (Rows.vsaStatesSpec.pre6 enc Try.prog Try.f4 Rows.vsaStatesRow.domain false) (Rows.vsaStatesSpec.post enc Try.prog Try.f4 false true false false):=by
 refine returnsInHanded_of_change (C:=Try.checked) vsaStates_own started (by kernel_rfl) Try.func4
  (ChangeSpec.witness6 (enc:=enc) (C:=Try.checked) false ⟨#[],#[.agg #[.int .i64 0,.int .u32 0,.int .u32 0,.int .i64 0,.int .i64 0,.int .i64 0,.int .i64 0,.int .i64 0,.int .i64 0,.int .i64 0,.bool false,.bool false,.int .u32 0,.int .u32 0,.int .u32 0,.bool false,.bool false,.int .u32 0,.int .u32 0,.int .u32 0,.bool false,.bool false,.int .u32 0,.int .u32 0,.int .u32 0,.bool false,.bool false,.int .u32 0,.int .u32 0,.int .u32 0,.bool false,.bool false,.int .u32 0,.int .u32 0,.int .u32 0,.bool false,.bool false,.int .u32 0,.int .u32 0,.int .u32 0,.bool false,.bool false,.int .u32 0,.int .u32 0,.int .u32 0,.bool false,.bool false,.int .u32 0,.int .u32 0,.int .u32 0,.bool false,.bool false,.int .u32 0,.int .u32 0,.int .u32 0,.bool false,.bool false,.int .u32 0,.int .u32 0,.int .u32 0,.bool false,.bool false,.int .u32 0,.int .u32 0,.int .u32 0,.bool false,.bool false,.int .u32 0,.int .u32 0,.int .u32 0,.bool false,.bool false,.int .u32 0,.int .u32 0,.int .u32 0,.bool false,.bool false,.int .u32 0,.int .u32 0,.int .u32 0,.bool false,.bool false,.int .u32 0,.int .u32 0,.int .u32 0,.bool false,.bool false,.int .u32 0,.int .u32 0,.int .u32 0,.int .u32 0,.int .u32 0,.int .u32 0,.int .u32 0,.int .u32 0,.int .u32 0,.int .u32 0,.int .u32 0,.int .u32 0,.bool false,.slice none 0 0]],[]⟩ 8 (by kernel_rfl) (by kernel_rfl) (by kernel_rfl) (by kernel_rfl)) ?_
 intro W base args ds gs before hval0 hW hcnd _
 have hval:∀(j:Nat) t v,Try.f4.params[j]?=some t→args[j]?=some v→Value.okWide Try.prog W .any base t v:=hval0
 have hW':=hW
 obtain⟨p,q,hA0,hV,rfl,hfz,hnd⟩:=hW
 have hA:DataW.TrodAll enc Try.prog W 0 (fun _=>true) true Try.f4.params.toList args.toList ds p:=hA0
 have hA1:=hA
 obtain⟨rfl,rfl⟩:=trodVars_none hV
 rw [Try.params4]at hA hval
 obtain⟨v0,vs0,d0,ds0,p0,q0,hargs,hd0,hp0,h0,r0⟩:=trodAll_cons hA
 obtain⟨hvn,hdn,hpn⟩:=trodAll_nil r0
 subst hdn hd0
 obtain rfl:args= #[v0]:=by cases args;simp_all
 clear hargs hvn 
 obtain⟨cs0,A0,n0,c0,rfl,lv0,l0,r0⟩:=QdO JJ Qb 6 Try.underlying50 rfl (by kernel_rfl) (by kernel_rfl) Try.underlying22 (by kernel_rfl) (by kernel_rfl) (by kernel_rfl) (by kernel_rfl) (hval 0 50 v0 rfl rfl) h0
 obtain⟨ci0,cb0,rfl,hc0⟩:=Vs 0 lv0
 obtain⟨ri0,rb0,hrow0,hr0⟩:=Qcn (K:=Qb) (by decide) r0
 simp only [List.append_nil]at hW'
 refine(vsaStates_walk ci0 cb0 (fun j k hj=>hc0 j k hj) A0 n0 c0 l0 ri0 rb0 hr0 W hrow0).mono fun e W' hr=>?_
 obtain⟨rfl,hb⟩:=hr
 exact⟨_,rfl,JP (pa:=p) (pv:= []) hW' (fun _ _ _=>(trodAll_cons_mk (shut_bool Try.underlying4 _) trodAll_mk0)) (fun sp hsp=>Jl KV hb _ _ _ _ (by kernel_rfl) hA1 (fun x hx=>hW'.lt x hx) hsp) (fun _ _=>rfl) (by simp)
  hb (ok_one (by kernel_rfl) rfl (okWide_bool_mk Try.underlying4 _))⟩
theorem vsaStates_over:Rows.vsaStatesRow.holds Try.pinned (OpenSpec.ofChange Rows.vsaStatesSpec):=
 OpenClaim.holds_of_wide 4 Try.f4 rfl rfl rfl rfl rfl rfl rfl ⟨rfl,rfl,rfl,rfl,rfl⟩ rfl rfl rfl rfl rfl (by kernel_rfl) Try.func4 (by kernel_rfl)
  (of_decide_eq_true (by kernel_rfl)) (by unfold Func.isWrapper;first|(rw [if_pos (by decide+kernel)];kernel_rfl)|(rw [if_neg (by decide+kernel)];exact⟨rfl,rfl⟩))
  (fun os started H enc _=>vsaStates_lifted os started H enc)
theorem vsaStates_proved:Rows.VsaStatesSaid:=vsaStates_over
end Go.Proofs.Yteplnamfpodmlaa
