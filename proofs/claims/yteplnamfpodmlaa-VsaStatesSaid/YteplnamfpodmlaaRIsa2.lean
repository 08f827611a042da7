/-
  Part of the proof.
-/
import Derived.Test.YteplnamfpodmlaaRIsa1
set_option linter.unusedVariables false
set_option linter.unusedSimpArgs false
set_option maxRecDepth 100000
open Go.ChangeShapes Go.WideShapes Go.ChangeAt Go.RowKit
namespace Go.Proofs.Yteplnamfpodmlaa
theorem Qoo(i:Ins):i.val= .agg #[.int .u32 i.addr,.int .u32 i.imm,.int .i64 i.op,.int .i64 i.form,.int .i64 i.width,.int .i64 i.cc,.int .i64 i.a,.int .i64 i.b,.int .i64 i.size]:=rfl
theorem Qvs{a b c d e f g h i a' b' c' d' e' f' g' h' i':Value}(h1:a=a')(h2:b=b')(h3:c=c')(h4:d=d')(h5:e=e')(h6:f=f')(h7:g=g')(h8:h=h')(h9:i=i'):Value.agg #[a,b,c,d,e,f,g,h,i]= .agg #[a',b',c',d',e',f',g',h',i']:=by rw [h1,h2,h3,h4,h5,h6,h7,h8,h9]
def QhF(i:Ins)(s:Int):Ins:=
 {addr:=i.addr,op:=i.op,size:=i.size
  a:=if s=1∨s=2∨s=3∨s=4∨s=5∨s=6 then i.a else 0
  b:=if s=3∨s=5 then i.b else 0
  imm:=if s=4∨s=5∨s=6∨s=7∨s=8 then i.imm else 0
  form:=if 5≤i.op∧i.op≤15∨i.op=20 then i.form else 0
  width:=if i.op=16∨i.op=17∨i.op=18 then i.width else 0
  cc:=if i.op=20∨i.op=25 then i.cc else 0}
def Qs3:List Sg:= []
def Ql8:List PX:= [.a (Qa 0 0 Qb),.l (.n .i64 (.v 1 0))]
def Qpp:List Rw:= []
def Qpn:Cfg:=⟨2,Qs3,[]⟩
def Qs1:List Lf:=
 let z0:Cd:= .c (.c .geq (.v 0 2) (.i 5)) true
 let z1:Cd:= .c (.c .leq (.v 0 2) (.i 15)) true
 let z2:LX:= .n .u32 (.v 0 0)
 let z3:LX:= .n .u32 (.i 0)
 let z4:LX:= .n .i64 (.v 0 2)
 let z5:LX:= .n .i64 (.v 0 3)
 let z6:LX:= .n .i64 (.i 0)
 let z7:Cd:= .c (.c .eql (.v 0 2) (.i 16)) true
 let z8:Cd:= .c (.an (.c .geq (.v 0 2) (.i 5)) (.c .leq (.v 0 2) (.i 15))) false
 let z9:VX:= .v (.a [z2,z3,z4,z6,.n .i64 (.v 0 4),z6,.n .i64 (.v 0 6),z6,.n .i64 (.v 0 8)])
 let z10:Cd:= .c (.c .eql (.v 0 2) (.i 17)) true
 let z11:Cd:= .c (.c .eql (.v 0 2) (.i 16)) false
 let z12:Cd:= .c (.c .eql (.v 0 2) (.i 18)) true
 let z13:Cd:= .c (.c .eql (.v 0 2) (.i 17)) false
 let z14:Cd:= .c (.c .eql (.v 0 2) (.i 20)) true
 let z15:Cd:= .c (.c .eql (.v 0 2) (.i 18)) false
 let z16:Cd:= .c (.c .eql (.v 0 2) (.i 25)) true
 let z17:Cd:= .c (.c .eql (.v 0 2) (.i 20)) false
 let z18:Cd:= .c (.c .eql (.v 0 2) (.i 25)) false
 let z19:VX:= .v (.a [z2,z3,z4,z6,.n .i64 (.v 0 4),z6,.n .i64 (.v 0 6),.n .i64 (.v 0 7),.n .i64 (.v 0 8)])
 let z20:LX:= .n .u32 (.v 0 1)
 let z21:VX:= .v (.a [z2,z20,z4,z6,.n .i64 (.v 0 4),z6,.n .i64 (.v 0 6),z6,.n .i64 (.v 0 8)])
 let z22:VX:= .v (.a [z2,z20,z4,z6,.n .i64 (.v 0 4),z6,.n .i64 (.v 0 6),.n .i64 (.v 0 7),.n .i64 (.v 0 8)])
 let z23:VX:= .v (.a [z2,z20,z4,z6,.n .i64 (.v 0 4),z6,z6,z6,.n .i64 (.v 0 8)])
 let z24:VX:= .v (.a [z2,z3,z4,z6,.n .i64 (.v 0 4),z6,z6,z6,.n .i64 (.v 0 8)])
 [⟨[z0,z1,.c (.c .eql (.v 1 0) (.i 1)) true],.v (.a [z2,z3,z4,z5,z6,z6,.n .i64 (.v 0 6),z6,.n .i64 (.v 0 8)])⟩,⟨[z7,z8,.c (.c .eql (.v 1 0) (.i 1)) true],z9⟩,⟨[z10,z11,z8,.c (.c .eql (.v 1 0) (.i 1)) true],z9⟩,⟨[z12,z13,z11,z8,.c (.c .eql (.v 1 0) (.i 1)) true],z9⟩,⟨[z14,z15,z13,z11,z8,.c (.c .eql (.v 1 0) (.i 1)) true],.v (.a [z2,z3,z4,z5,z6,.n .i64 (.v 0 5),.n .i64 (.v 0 6),z6,.n .i64 (.v 0 8)])⟩,⟨[z16,z17,z15,z13,z11,z8,.c (.c .eql (.v 1 0) (.i 1)) true],.v (.a [z2,z3,z4,z6,z6,.n .i64 (.v 0 5),.n .i64 (.v 0 6),z6,.n .i64 (.v 0 8)])⟩,⟨[z18,z17,z15,z13,z11,z8,.c (.c .eql (.v 1 0) (.i 1)) true],.v (.a [z2,z3,z4,z6,z6,z6,.n .i64 (.v 0 6),z6,.n .i64 (.v 0 8)])⟩,⟨[z0,z1,.c (.c .eql (.v 1 0) (.i 2)) true,.c (.c .eql (.v 1 0) (.i 1)) false],.v (.a [z2,z3,z4,z5,z6,z6,.n .i64 (.v 0 6),z6,.n .i64 (.v 0 8)])⟩,⟨[z7,z8,.c (.c .eql (.v 1 0) (.i 2)) true,.c (.c .eql (.v 1 0) (.i 1)) false],z9⟩,⟨[z10,z11,z8,.c (.c .eql (.v 1 0) (.i 2)) true,.c (.c .eql (.v 1 0) (.i 1)) false],z9⟩,⟨[z12,z13,z11,z8,.c (.c .eql (.v 1 0) (.i 2)) true,.c (.c .eql (.v 1 0) (.i 1)) false],z9⟩,⟨[z14,z15,z13,z11,z8,.c (.c .eql (.v 1 0) (.i 2)) true,.c (.c .eql (.v 1 0) (.i 1)) false],.v (.a [z2,z3,z4,z5,z6,.n .i64 (.v 0 5),.n .i64 (.v 0 6),z6,.n .i64 (.v 0 8)])⟩,⟨[z16,z17,z15,z13,z11,z8,.c (.c .eql (.v 1 0) (.i 2)) true,.c (.c .eql (.v 1 0) (.i 1)) false],.v (.a [z2,z3,z4,z6,z6,.n .i64 (.v 0 5),.n .i64 (.v 0 6),z6,.n .i64 (.v 0 8)])⟩,⟨[z18,z17,z15,z13,z11,z8,.c (.c .eql (.v 1 0) (.i 2)) true,.c (.c .eql (.v 1 0) (.i 1)) false],.v (.a [z2,z3,z4,z6,z6,z6,.n .i64 (.v 0 6),z6,.n .i64 (.v 0 8)])⟩,⟨[z0,z1,.c (.c .eql (.v 1 0) (.i 3)) true,.c (.c .eql (.v 1 0) (.i 2)) false,.c (.c .eql (.v 1 0) (.i 1)) false],.v (.a [z2,z3,z4,z5,z6,z6,.n .i64 (.v 0 6),.n .i64 (.v 0 7),.n .i64 (.v 0 8)])⟩,⟨[z7,z8,.c (.c .eql (.v 1 0) (.i 3)) true,.c (.c .eql (.v 1 0) (.i 2)) false,.c (.c .eql (.v 1 0) (.i 1)) false],z19⟩,⟨[z10,z11,z8,.c (.c .eql (.v 1 0) (.i 3)) true,.c (.c .eql (.v 1 0) (.i 2)) false,.c (.c .eql (.v 1 0) (.i 1)) false],z19⟩,⟨[z12,z13,z11,z8,.c (.c .eql (.v 1 0) (.i 3)) true,.c (.c .eql (.v 1 0) (.i 2)) false,.c (.c .eql (.v 1 0) (.i 1)) false],z19⟩,⟨[z14,z15,z13,z11,z8,.c (.c .eql (.v 1 0) (.i 3)) true,.c (.c .eql (.v 1 0) (.i 2)) false,.c (.c .eql (.v 1 0) (.i 1)) false],.v (.a [z2,z3,z4,z5,z6,.n .i64 (.v 0 5),.n .i64 (.v 0 6),.n .i64 (.v 0 7),.n .i64 (.v 0 8)])⟩,⟨[z16,z17,z15,z13,z11,z8,.c (.c .eql (.v 1 0) (.i 3)) true,.c (.c .eql (.v 1 0) (.i 2)) false,.c (.c .eql (.v 1 0) (.i 1)) false],.v (.a [z2,z3,z4,z6,z6,.n .i64 (.v 0 5),.n .i64 (.v 0 6),.n .i64 (.v 0 7),.n .i64 (.v 0 8)])⟩,⟨[z18,z17,z15,z13,z11,z8,.c (.c .eql (.v 1 0) (.i 3)) true,.c (.c .eql (.v 1 0) (.i 2)) false,.c (.c .eql (.v 1 0) (.i 1)) false],.v (.a [z2,z3,z4,z6,z6,z6,.n .i64 (.v 0 6),.n .i64 (.v 0 7),.n .i64 (.v 0 8)])⟩,⟨[z0,z1,.c (.c .eql (.v 1 0) (.i 4)) true,.c (.c .eql (.v 1 0) (.i 3)) false,.c (.c .eql (.v 1 0) (.i 2)) false,.c (.c .eql (.v 1 0) (.i 1)) false],.v (.a [z2,z20,z4,z5,z6,z6,.n .i64 (.v 0 6),z6,.n .i64 (.v 0 8)])⟩,⟨[z7,z8,.c (.c .eql (.v 1 0) (.i 4)) true,.c (.c .eql (.v 1 0) (.i 3)) false,.c (.c .eql (.v 1 0) (.i 2)) false,.c (.c .eql (.v 1 0) (.i 1)) false],z21⟩,⟨[z10,z11,z8,.c (.c .eql (.v 1 0) (.i 4)) true,.c (.c .eql (.v 1 0) (.i 3)) false,.c (.c .eql (.v 1 0) (.i 2)) false,.c (.c .eql (.v 1 0) (.i 1)) false],z21⟩,⟨[z12,z13,z11,z8,.c (.c .eql (.v 1 0) (.i 4)) true,.c (.c .eql (.v 1 0) (.i 3)) false,.c (.c .eql (.v 1 0) (.i 2)) false,.c (.c .eql (.v 1 0) (.i 1)) false],z21⟩,⟨[z14,z15,z13,z11,z8,.c (.c .eql (.v 1 0) (.i 4)) true,.c (.c .eql (.v 1 0) (.i 3)) false,.c (.c .eql (.v 1 0) (.i 2)) false,.c (.c .eql (.v 1 0) (.i 1)) false],.v (.a [z2,z20,z4,z5,z6,.n .i64 (.v 0 5),.n .i64 (.v 0 6),z6,.n .i64 (.v 0 8)])⟩,⟨[z16,z17,z15,z13,z11,z8,.c (.c .eql (.v 1 0) (.i 4)) true,.c (.c .eql (.v 1 0) (.i 3)) false,.c (.c .eql (.v 1 0) (.i 2)) false,.c (.c .eql (.v 1 0) (.i 1)) false],.v (.a [z2,z20,z4,z6,z6,.n .i64 (.v 0 5),.n .i64 (.v 0 6),z6,.n .i64 (.v 0 8)])⟩,⟨[z18,z17,z15,z13,z11,z8,.c (.c .eql (.v 1 0) (.i 4)) true,.c (.c .eql (.v 1 0) (.i 3)) false,.c (.c .eql (.v 1 0) (.i 2)) false,.c (.c .eql (.v 1 0) (.i 1)) false],.v (.a [z2,z20,z4,z6,z6,z6,.n .i64 (.v 0 6),z6,.n .i64 (.v 0 8)])⟩,⟨[z0,z1,.c (.c .eql (.v 1 0) (.i 6)) true,.c (.c .eql (.v 1 0) (.i 4)) false,.c (.c .eql (.v 1 0) (.i 3)) false,.c (.c .eql (.v 1 0) (.i 2)) false,.c (.c .eql (.v 1 0) (.i 1)) false],.v (.a [z2,z20,z4,z5,z6,z6,.n .i64 (.v 0 6),z6,.n .i64 (.v 0 8)])⟩,⟨[z7,z8,.c (.c .eql (.v 1 0) (.i 6)) true,.c (.c .eql (.v 1 0) (.i 4)) false,.c (.c .eql (.v 1 0) (.i 3)) false,.c (.c .eql (.v 1 0) (.i 2)) false,.c (.c .eql (.v 1 0) (.i 1)) false],z21⟩,⟨[z10,z11,z8,.c (.c .eql (.v 1 0) (.i 6)) true,.c (.c .eql (.v 1 0) (.i 4)) false,.c (.c .eql (.v 1 0) (.i 3)) false,.c (.c .eql (.v 1 0) (.i 2)) false,.c (.c .eql (.v 1 0) (.i 1)) false],z21⟩,⟨[z12,z13,z11,z8,.c (.c .eql (.v 1 0) (.i 6)) true,.c (.c .eql (.v 1 0) (.i 4)) false,.c (.c .eql (.v 1 0) (.i 3)) false,.c (.c .eql (.v 1 0) (.i 2)) false,.c (.c .eql (.v 1 0) (.i 1)) false],z21⟩,⟨[z14,z15,z13,z11,z8,.c (.c .eql (.v 1 0) (.i 6)) true,.c (.c .eql (.v 1 0) (.i 4)) false,.c (.c .eql (.v 1 0) (.i 3)) false,.c (.c .eql (.v 1 0) (.i 2)) false,.c (.c .eql (.v 1 0) (.i 1)) false],.v (.a [z2,z20,z4,z5,z6,.n .i64 (.v 0 5),.n .i64 (.v 0 6),z6,.n .i64 (.v 0 8)])⟩,⟨[z16,z17,z15,z13,z11,z8,.c (.c .eql (.v 1 0) (.i 6)) true,.c (.c .eql (.v 1 0) (.i 4)) false,.c (.c .eql (.v 1 0) (.i 3)) false,.c (.c .eql (.v 1 0) (.i 2)) false,.c (.c .eql (.v 1 0) (.i 1)) false],.v (.a [z2,z20,z4,z6,z6,.n .i64 (.v 0 5),.n .i64 (.v 0 6),z6,.n .i64 (.v 0 8)])⟩,⟨[z18,z17,z15,z13,z11,z8,.c (.c .eql (.v 1 0) (.i 6)) true,.c (.c .eql (.v 1 0) (.i 4)) false,.c (.c .eql (.v 1 0) (.i 3)) false,.c (.c .eql (.v 1 0) (.i 2)) false,.c (.c .eql (.v 1 0) (.i 1)) false],.v (.a [z2,z20,z4,z6,z6,z6,.n .i64 (.v 0 6),z6,.n .i64 (.v 0 8)])⟩,⟨[z0,z1,.c (.c .eql (.v 1 0) (.i 5)) true,.c (.c .eql (.v 1 0) (.i 6)) false,.c (.c .eql (.v 1 0) (.i 4)) false,.c (.c .eql (.v 1 0) (.i 3)) false,.c (.c .eql (.v 1 0) (.i 2)) false,.c (.c .eql (.v 1 0) (.i 1)) false],.v (.a [z2,z20,z4,z5,z6,z6,.n .i64 (.v 0 6),.n .i64 (.v 0 7),.n .i64 (.v 0 8)])⟩,⟨[z7,z8,.c (.c .eql (.v 1 0) (.i 5)) true,.c (.c .eql (.v 1 0) (.i 6)) false,.c (.c .eql (.v 1 0) (.i 4)) false,.c (.c .eql (.v 1 0) (.i 3)) false,.c (.c .eql (.v 1 0) (.i 2)) false,.c (.c .eql (.v 1 0) (.i 1)) false],z22⟩,⟨[z10,z11,z8,.c (.c .eql (.v 1 0) (.i 5)) true,.c (.c .eql (.v 1 0) (.i 6)) false,.c (.c .eql (.v 1 0) (.i 4)) false,.c (.c .eql (.v 1 0) (.i 3)) false,.c (.c .eql (.v 1 0) (.i 2)) false,.c (.c .eql (.v 1 0) (.i 1)) false],z22⟩,⟨[z12,z13,z11,z8,.c (.c .eql (.v 1 0) (.i 5)) true,.c (.c .eql (.v 1 0) (.i 6)) false,.c (.c .eql (.v 1 0) (.i 4)) false,.c (.c .eql (.v 1 0) (.i 3)) false,.c (.c .eql (.v 1 0) (.i 2)) false,.c (.c .eql (.v 1 0) (.i 1)) false],z22⟩,⟨[z14,z15,z13,z11,z8,.c (.c .eql (.v 1 0) (.i 5)) true,.c (.c .eql (.v 1 0) (.i 6)) false,.c (.c .eql (.v 1 0) (.i 4)) false,.c (.c .eql (.v 1 0) (.i 3)) false,.c (.c .eql (.v 1 0) (.i 2)) false,.c (.c .eql (.v 1 0) (.i 1)) false],.v (.a [z2,z20,z4,z5,z6,.n .i64 (.v 0 5),.n .i64 (.v 0 6),.n .i64 (.v 0 7),.n .i64 (.v 0 8)])⟩,⟨[z16,z17,z15,z13,z11,z8,.c (.c .eql (.v 1 0) (.i 5)) true,.c (.c .eql (.v 1 0) (.i 6)) false,.c (.c .eql (.v 1 0) (.i 4)) false,.c (.c .eql (.v 1 0) (.i 3)) false,.c (.c .eql (.v 1 0) (.i 2)) false,.c (.c .eql (.v 1 0) (.i 1)) false],.v (.a [z2,z20,z4,z6,z6,.n .i64 (.v 0 5),.n .i64 (.v 0 6),.n .i64 (.v 0 7),.n .i64 (.v 0 8)])⟩,⟨[z18,z17,z15,z13,z11,z8,.c (.c .eql (.v 1 0) (.i 5)) true,.c (.c .eql (.v 1 0) (.i 6)) false,.c (.c .eql (.v 1 0) (.i 4)) false,.c (.c .eql (.v 1 0) (.i 3)) false,.c (.c .eql (.v 1 0) (.i 2)) false,.c (.c .eql (.v 1 0) (.i 1)) false],.v (.a [z2,z20,z4,z6,z6,z6,.n .i64 (.v 0 6),.n .i64 (.v 0 7),.n .i64 (.v 0 8)])⟩,⟨[z0,z1,.c (.c .eql (.v 1 0) (.i 7)) true,.c (.c .eql (.v 1 0) (.i 5)) false,.c (.c .eql (.v 1 0) (.i 6)) false,.c (.c .eql (.v 1 0) (.i 4)) false,.c (.c .eql (.v 1 0) (.i 3)) false,.c (.c .eql (.v 1 0) (.i 2)) false,.c (.c .eql (.v 1 0) (.i 1)) false],.v (.a [z2,z20,z4,z5,z6,z6,z6,z6,.n .i64 (.v 0 8)])⟩,⟨[z7,z8,.c (.c .eql (.v 1 0) (.i 7)) true,.c (.c .eql (.v 1 0) (.i 5)) false,.c (.c .eql (.v 1 0) (.i 6)) false,.c (.c .eql (.v 1 0) (.i 4)) false,.c (.c .eql (.v 1 0) (.i 3)) false,.c (.c .eql (.v 1 0) (.i 2)) false,.c (.c .eql (.v 1 0) (.i 1)) false],z23⟩,⟨[z10,z11,z8,.c (.c .eql (.v 1 0) (.i 7)) true,.c (.c .eql (.v 1 0) (.i 5)) false,.c (.c .eql (.v 1 0) (.i 6)) false,.c (.c .eql (.v 1 0) (.i 4)) false,.c (.c .eql (.v 1 0) (.i 3)) false,.c (.c .eql (.v 1 0) (.i 2)) false,.c (.c .eql (.v 1 0) (.i 1)) false],z23⟩,⟨[z12,z13,z11,z8,.c (.c .eql (.v 1 0) (.i 7)) true,.c (.c .eql (.v 1 0) (.i 5)) false,.c (.c .eql (.v 1 0) (.i 6)) false,.c (.c .eql (.v 1 0) (.i 4)) false,.c (.c .eql (.v 1 0) (.i 3)) false,.c (.c .eql (.v 1 0) (.i 2)) false,.c (.c .eql (.v 1 0) (.i 1)) false],z23⟩,⟨[z14,z15,z13,z11,z8,.c (.c .eql (.v 1 0) (.i 7)) true,.c (.c .eql (.v 1 0) (.i 5)) false,.c (.c .eql (.v 1 0) (.i 6)) false,.c (.c .eql (.v 1 0) (.i 4)) false,.c (.c .eql (.v 1 0) (.i 3)) false,.c (.c .eql (.v 1 0) (.i 2)) false,.c (.c .eql (.v 1 0) (.i 1)) false],.v (.a [z2,z20,z4,z5,z6,.n .i64 (.v 0 5),z6,z6,.n .i64 (.v 0 8)])⟩,⟨[z16,z17,z15,z13,z11,z8,.c (.c .eql (.v 1 0) (.i 7)) true,.c (.c .eql (.v 1 0) (.i 5)) false,.c (.c .eql (.v 1 0) (.i 6)) false,.c (.c .eql (.v 1 0) (.i 4)) false,.c (.c .eql (.v 1 0) (.i 3)) false,.c (.c .eql (.v 1 0) (.i 2)) false,.c (.c .eql (.v 1 0) (.i 1)) false],.v (.a [z2,z20,z4,z6,z6,.n .i64 (.v 0 5),z6,z6,.n .i64 (.v 0 8)])⟩,⟨[z18,z17,z15,z13,z11,z8,.c (.c .eql (.v 1 0) (.i 7)) true,.c (.c .eql (.v 1 0) (.i 5)) false,.c (.c .eql (.v 1 0) (.i 6)) false,.c (.c .eql (.v 1 0) (.i 4)) false,.c (.c .eql (.v 1 0) (.i 3)) false,.c (.c .eql (.v 1 0) (.i 2)) false,.c (.c .eql (.v 1 0) (.i 1)) false],.v (.a [z2,z20,z4,z6,z6,z6,z6,z6,.n .i64 (.v 0 8)])⟩,⟨[z0,z1,.c (.c .eql (.v 1 0) (.i 8)) true,.c (.c .eql (.v 1 0) (.i 7)) false,.c (.c .eql (.v 1 0) (.i 5)) false,.c (.c .eql (.v 1 0) (.i 6)) false,.c (.c .eql (.v 1 0) (.i 4)) false,.c (.c .eql (.v 1 0) (.i 3)) false,.c (.c .eql (.v 1 0) (.i 2)) false,.c (.c .eql (.v 1 0) (.i 1)) false],.v (.a [z2,z20,z4,z5,z6,z6,z6,z6,.n .i64 (.v 0 8)])⟩,⟨[z7,z8,.c (.c .eql (.v 1 0) (.i 8)) true,.c (.c .eql (.v 1 0) (.i 7)) false,.c (.c .eql (.v 1 0) (.i 5)) false,.c (.c .eql (.v 1 0) (.i 6)) false,.c (.c .eql (.v 1 0) (.i 4)) false,.c (.c .eql (.v 1 0) (.i 3)) false,.c (.c .eql (.v 1 0) (.i 2)) false,.c (.c .eql (.v 1 0) (.i 1)) false],z23⟩,⟨[z10,z11,z8,.c (.c .eql (.v 1 0) (.i 8)) true,.c (.c .eql (.v 1 0) (.i 7)) false,.c (.c .eql (.v 1 0) (.i 5)) false,.c (.c .eql (.v 1 0) (.i 6)) false,.c (.c .eql (.v 1 0) (.i 4)) false,.c (.c .eql (.v 1 0) (.i 3)) false,.c (.c .eql (.v 1 0) (.i 2)) false,.c (.c .eql (.v 1 0) (.i 1)) false],z23⟩,⟨[z12,z13,z11,z8,.c (.c .eql (.v 1 0) (.i 8)) true,.c (.c .eql (.v 1 0) (.i 7)) false,.c (.c .eql (.v 1 0) (.i 5)) false,.c (.c .eql (.v 1 0) (.i 6)) false,.c (.c .eql (.v 1 0) (.i 4)) false,.c (.c .eql (.v 1 0) (.i 3)) false,.c (.c .eql (.v 1 0) (.i 2)) false,.c (.c .eql (.v 1 0) (.i 1)) false],z23⟩,⟨[z14,z15,z13,z11,z8,.c (.c .eql (.v 1 0) (.i 8)) true,.c (.c .eql (.v 1 0) (.i 7)) false,.c (.c .eql (.v 1 0) (.i 5)) false,.c (.c .eql (.v 1 0) (.i 6)) false,.c (.c .eql (.v 1 0) (.i 4)) false,.c (.c .eql (.v 1 0) (.i 3)) false,.c (.c .eql (.v 1 0) (.i 2)) false,.c (.c .eql (.v 1 0) (.i 1)) false],.v (.a [z2,z20,z4,z5,z6,.n .i64 (.v 0 5),z6,z6,.n .i64 (.v 0 8)])⟩,⟨[z16,z17,z15,z13,z11,z8,.c (.c .eql (.v 1 0) (.i 8)) true,.c (.c .eql (.v 1 0) (.i 7)) false,.c (.c .eql (.v 1 0) (.i 5)) false,.c (.c .eql (.v 1 0) (.i 6)) false,.c (.c .eql (.v 1 0) (.i 4)) false,.c (.c .eql (.v 1 0) (.i 3)) false,.c (.c .eql (.v 1 0) (.i 2)) false,.c (.c .eql (.v 1 0) (.i 1)) false],.v (.a [z2,z20,z4,z6,z6,.n .i64 (.v 0 5),z6,z6,.n .i64 (.v 0 8)])⟩,⟨[z18,z17,z15,z13,z11,z8,.c (.c .eql (.v 1 0) (.i 8)) true,.c (.c .eql (.v 1 0) (.i 7)) false,.c (.c .eql (.v 1 0) (.i 5)) false,.c (.c .eql (.v 1 0) (.i 6)) false,.c (.c .eql (.v 1 0) (.i 4)) false,.c (.c .eql (.v 1 0) (.i 3)) false,.c (.c .eql (.v 1 0) (.i 2)) false,.c (.c .eql (.v 1 0) (.i 1)) false],.v (.a [z2,z20,z4,z6,z6,z6,z6,z6,.n .i64 (.v 0 8)])⟩,⟨[z0,z1,.c (.c .eql (.v 1 0) (.i 8)) false,.c (.c .eql (.v 1 0) (.i 7)) false,.c (.c .eql (.v 1 0) (.i 5)) false,.c (.c .eql (.v 1 0) (.i 6)) false,.c (.c .eql (.v 1 0) (.i 4)) false,.c (.c .eql (.v 1 0) (.i 3)) false,.c (.c .eql (.v 1 0) (.i 2)) false,.c (.c .eql (.v 1 0) (.i 1)) false],.v (.a [z2,z3,z4,z5,z6,z6,z6,z6,.n .i64 (.v 0 8)])⟩,⟨[z7,z8,.c (.c .eql (.v 1 0) (.i 8)) false,.c (.c .eql (.v 1 0) (.i 7)) false,.c (.c .eql (.v 1 0) (.i 5)) false,.c (.c .eql (.v 1 0) (.i 6)) false,.c (.c .eql (.v 1 0) (.i 4)) false,.c (.c .eql (.v 1 0) (.i 3)) false,.c (.c .eql (.v 1 0) (.i 2)) false,.c (.c .eql (.v 1 0) (.i 1)) false],z24⟩,⟨[z10,z11,z8,.c (.c .eql (.v 1 0) (.i 8)) false,.c (.c .eql (.v 1 0) (.i 7)) false,.c (.c .eql (.v 1 0) (.i 5)) false,.c (.c .eql (.v 1 0) (.i 6)) false,.c (.c .eql (.v 1 0) (.i 4)) false,.c (.c .eql (.v 1 0) (.i 3)) false,.c (.c .eql (.v 1 0) (.i 2)) false,.c (.c .eql (.v 1 0) (.i 1)) false],z24⟩,⟨[z12,z13,z11,z8,.c (.c .eql (.v 1 0) (.i 8)) false,.c (.c .eql (.v 1 0) (.i 7)) false,.c (.c .eql (.v 1 0) (.i 5)) false,.c (.c .eql (.v 1 0) (.i 6)) false,.c (.c .eql (.v 1 0) (.i 4)) false,.c (.c .eql (.v 1 0) (.i 3)) false,.c (.c .eql (.v 1 0) (.i 2)) false,.c (.c .eql (.v 1 0) (.i 1)) false],z24⟩,⟨[z14,z15,z13,z11,z8,.c (.c .eql (.v 1 0) (.i 8)) false,.c (.c .eql (.v 1 0) (.i 7)) false,.c (.c .eql (.v 1 0) (.i 5)) false,.c (.c .eql (.v 1 0) (.i 6)) false,.c (.c .eql (.v 1 0) (.i 4)) false,.c (.c .eql (.v 1 0) (.i 3)) false,.c (.c .eql (.v 1 0) (.i 2)) false,.c (.c .eql (.v 1 0) (.i 1)) false],.v (.a [z2,z3,z4,z5,z6,.n .i64 (.v 0 5),z6,z6,.n .i64 (.v 0 8)])⟩,⟨[z16,z17,z15,z13,z11,z8,.c (.c .eql (.v 1 0) (.i 8)) false,.c (.c .eql (.v 1 0) (.i 7)) false,.c (.c .eql (.v 1 0) (.i 5)) false,.c (.c .eql (.v 1 0) (.i 6)) false,.c (.c .eql (.v 1 0) (.i 4)) false,.c (.c .eql (.v 1 0) (.i 3)) false,.c (.c .eql (.v 1 0) (.i 2)) false,.c (.c .eql (.v 1 0) (.i 1)) false],.v (.a [z2,z3,z4,z6,z6,.n .i64 (.v 0 5),z6,z6,.n .i64 (.v 0 8)])⟩,⟨[z18,z17,z15,z13,z11,z8,.c (.c .eql (.v 1 0) (.i 8)) false,.c (.c .eql (.v 1 0) (.i 7)) false,.c (.c .eql (.v 1 0) (.i 5)) false,.c (.c .eql (.v 1 0) (.i 6)) false,.c (.c .eql (.v 1 0) (.i 4)) false,.c (.c .eql (.v 1 0) (.i 3)) false,.c (.c .eql (.v 1 0) (.i 2)) false,.c (.c .eql (.v 1 0) (.i 1)) false],.v (.a [z2,z3,z4,z6,z6,z6,z6,z6,.n .i64 (.v 0 8)])⟩]
def Qs2:List Ob:= []
theorem Qpo:QP Try.prog Qpn 2000 Try.f132 Ql8 Qpp=some (Qs1,Qs2):=by kernel_rfl
set_option maxHeartbeats 8000000 in
theorem Qrn(i:Ins)(s:Int)(w:World):Calls Try.prog 132 #[i.val,.int .i64 s] w (Ret (QhF i s).val w):=by
 refine QG (C:= []) (I:= []) Qr rfl Try.func132 Qpo (Qnv i s) w rfl (fun r hr=>(List.not_mem_nil hr).elim) _ trivial ?_
 refine⟨?_,?_,?_,?_,?_,?_,?_,?_,?_,?_,?_,?_,?_,?_,?_,?_,?_,?_,?_,?_,?_,?_,?_,?_,?_,?_,?_,?_,?_,?_,?_,?_,?_,?_,?_,?_,?_,?_,?_,?_,?_,?_,?_,?_,?_,?_,?_,?_,?_,?_,?_,?_,?_,?_,?_,?_,?_,?_,?_,?_,?_,?_,?_,trivial⟩
 all_goals
  intro e u he hc hs
  obtain⟨h0,h1⟩:=Qhu he (by decide)
  simp only [QC,Cd.holds,SX.den,cmI,PX.den,LX.den,VX.sat,List.map_cons,List.map_nil,List.append_nil,beq_iff_eq,bne_iff_ne,beq_eq_false_iff_ne,bne_eq_false_iff_eq,decide_eq_true_eq,decide_eq_false_iff_not,Bool.and_eq_true,Bool.and_eq_false_iff,ne_eq,h0,h1,Q9]at hc hs
  rw [hs,Qoo]
  refine Qvs (congrArg _ ?_) (congrArg _ ?_) (congrArg _ ?_) (congrArg _ ?_) (congrArg _ ?_) (congrArg _ ?_) (congrArg _ ?_) (congrArg _ ?_) (congrArg _ ?_) <;> simp only [QhF] <;> first|rfl|grind
def Qhp:Con Try.prog:= .mk' ⟨132,[.a Qb,.l (some .i64)],.a Qb,true⟩
 (fun ads=>match ads with| [d1,d2]=>True|_=>False)
 (fun ads=>match ads with| [d1,d2]=>Q9 (QhF (Q0 d1) (Q8 d2))|_=>fun _=>0)
 (fun ads=>match ads with| [d1,d2]=>fun _=>false|_=>fun _=>false)
 ⟨_,Try.func132,by kernel_rfl,by kernel_rfl⟩ (fun ads w hf hp=>by
   obtain⟨d1,_,rfl,f1,hf⟩:=Qf hf
   obtain⟨d2,_,rfl,f2,hf⟩:=Qf hf
   obtain rfl:=Qn hf
   show Calls _ _ #[d1.val,d2.val] w _
   rw [Zc f1,QH f2]
   exact Qrn (Q0 d1) (Q8 d2) w)
def Qdk:Con Try.prog:=⟨⟨130,[.a Qb],.tp [.inl (some .u8),.inl (some .i64),.inl none],false⟩,fun _=>True,fun ads i b=>match ads with| [d1]=>i 1=XP (Q0 d1)∧b 2=QhS (Q0 d1)|_=>False,
 ⟨_,Try.func130,by kernel_rfl,by kernel_rfl⟩,(fun h=>by cases h),(fun h=>by cases h),fun ads w hf hp=>by
   obtain⟨d1,_,rfl,f1,hf⟩:=Qf hf
   obtain rfl:=Qn hf
   show Calls _ _ #[d1.val] w _
   rw [Zc f1]
   refine(QkQ (Q0 d1) w).mono fun en w' hen=>?_
   obtain⟨c,rfl,hb⟩:=hen
   exact⟨fun j=>if j=0 then c else XP (Q0 d1),fun _=>QhS (Q0 d1),rfl,hb,rfl,rfl⟩⟩
def QfM(i:Ins):Bool:=KR (IntKind.u32.wrap (IntKind.u32.wrap (i.imm - i.addr) - 2))
def V7(i:Ins):Int:=
 if QhS i=false∨QaK i.a=false∨QaK i.b=false∨QhF i (XP i)≠i then 2
 else if(XP i=4∨XP i=5)∧KR i.imm=false∨XP i=7∧QfM i=false then 7 else 0
def Wd(i:Ins):Int:=if V7 i=0 then XP i else 0
def Qpg:List Sg:= [⟨130,[.a Qb],.tp [.inl (some .u8),.inl (some .i64),.inl none],false⟩,⟨131,[.l (some .i64)],.l none,true⟩,⟨132,[.a Qb,.l (some .i64)],.a Qb,true⟩,⟨133,[.l (some .u32)],.l none,true⟩]
def Qi8:List PX:= [.a (Qa 0 0 Qb)]
def Ql3:List Rw:= []
def Qep:Cfg:=⟨1,Qpg,[]⟩
def Qpe:List Lf:=
 [⟨[.c (.an (.an (.an (.v 6 2) (.v 19 0)) (.v 25 0)) (.an (.c .eql (.v 31 0) (.v 0 0)) (.an (.c .eql (.v 31 1) (.v 0 1)) (.an (.c .eql (.v 31 2) (.v 0 2)) (.an (.c .eql (.v 31 3) (.v 0 3)) (.an (.c .eql (.v 31 4) (.v 0 4)) (.an (.c .eql (.v 31 5) (.v 0 5)) (.an (.c .eql (.v 31 6) (.v 0 6)) (.an (.c .eql (.v 31 7) (.v 0 7)) (.c .eql (.v 31 8) (.v 0 8))))))))))) false,.f 31 2 [.a (Qa 0 0 Qb),.l (.n .i64 (.v 6 1))],.f 25 1 [.l (.n .i64 (.v 0 7))],.f 19 1 [.l (.n .i64 (.v 0 6))],.f 6 0 [.a (Qa 0 0 Qb)]],.tp [.l (.n .u8 (.i 0)),.l (.n .i64 (.i 0)),.l (.n .i64 (.i 2))]⟩,⟨[.c (.an (.no (.an (.no (.an (.no (.c .eql (.v 6 1) (.i 4))) (.no (.c .eql (.v 6 1) (.i 5))))) (.no (.v 44 0)))) (.no (.an (.c .eql (.v 6 1) (.i 7)) (.no (.v 57 0))))) false,.f 57 3 [.l (.n .u32 (.o .sub .u32 (.o .sub .u32 (.v 0 1) (.v 0 0)) (.i 2)))],.f 44 3 [.l (.n .u32 (.v 0 1))],.c (.v 6 2) true,.c (.v 19 0) true,.c (.v 25 0) true,.c (.c .eql (.v 31 0) (.v 0 0)) true,.c (.c .eql (.v 31 1) (.v 0 1)) true,.c (.c .eql (.v 31 2) (.v 0 2)) true,.c (.c .eql (.v 31 3) (.v 0 3)) true,.c (.c .eql (.v 31 4) (.v 0 4)) true,.c (.c .eql (.v 31 5) (.v 0 5)) true,.c (.c .eql (.v 31 6) (.v 0 6)) true,.c (.c .eql (.v 31 7) (.v 0 7)) true,.c (.c .eql (.v 31 8) (.v 0 8)) true,.f 31 2 [.a (Qa 0 0 Qb),.l (.n .i64 (.v 6 1))],.f 25 1 [.l (.n .i64 (.v 0 7))],.f 19 1 [.l (.n .i64 (.v 0 6))],.f 6 0 [.a (Qa 0 0 Qb)]],.tp [.l (.n .u8 (.i 0)),.l (.n .i64 (.i 0)),.l (.n .i64 (.i 7))]⟩,⟨[.c (.an (.no (.an (.no (.c .eql (.v 6 1) (.i 4))) (.no (.c .eql (.v 6 1) (.i 5))))) (.no (.v 44 0))) false,.c (.an (.c .eql (.v 6 1) (.i 7)) (.no (.v 57 0))) false,.f 57 3 [.l (.n .u32 (.o .sub .u32 (.o .sub .u32 (.v 0 1) (.v 0 0)) (.i 2)))],.f 44 3 [.l (.n .u32 (.v 0 1))],.c (.v 6 2) true,.c (.v 19 0) true,.c (.v 25 0) true,.c (.c .eql (.v 31 0) (.v 0 0)) true,.c (.c .eql (.v 31 1) (.v 0 1)) true,.c (.c .eql (.v 31 2) (.v 0 2)) true,.c (.c .eql (.v 31 3) (.v 0 3)) true,.c (.c .eql (.v 31 4) (.v 0 4)) true,.c (.c .eql (.v 31 5) (.v 0 5)) true,.c (.c .eql (.v 31 6) (.v 0 6)) true,.c (.c .eql (.v 31 7) (.v 0 7)) true,.c (.c .eql (.v 31 8) (.v 0 8)) true,.f 31 2 [.a (Qa 0 0 Qb),.l (.n .i64 (.v 6 1))],.f 25 1 [.l (.n .i64 (.v 0 7))],.f 19 1 [.l (.n .i64 (.v 0 6))],.f 6 0 [.a (Qa 0 0 Qb)]],.tp [.l (.n .u8 (.v 6 0)),.l (.n .i64 (.v 6 1)),.l (.n .i64 (.i 0))]⟩]
def Qpf:List Ob:=
 let z0:PX:= .a (Qa 0 0 Qb)
 [.pre [] 0 [z0],.pre [.f 6 0 [z0]] 1 [.l (.n .i64 (.v 0 6))],.pre [.f 19 1 [.l (.n .i64 (.v 0 6))],.f 6 0 [z0]] 1 [.l (.n .i64 (.v 0 7))],.pre [.f 25 1 [.l (.n .i64 (.v 0 7))],.f 19 1 [.l (.n .i64 (.v 0 6))],.f 6 0 [z0]] 2 [z0,.l (.n .i64 (.v 6 1))],.pre [.c (.v 6 2) true,.c (.v 19 0) true,.c (.v 25 0) true,.c (.c .eql (.v 31 0) (.v 0 0)) true,.c (.c .eql (.v 31 1) (.v 0 1)) true,.c (.c .eql (.v 31 2) (.v 0 2)) true,.c (.c .eql (.v 31 3) (.v 0 3)) true,.c (.c .eql (.v 31 4) (.v 0 4)) true,.c (.c .eql (.v 31 5) (.v 0 5)) true,.c (.c .eql (.v 31 6) (.v 0 6)) true,.c (.c .eql (.v 31 7) (.v 0 7)) true,.c (.c .eql (.v 31 8) (.v 0 8)) true,.f 31 2 [z0,.l (.n .i64 (.v 6 1))],.f 25 1 [.l (.n .i64 (.v 0 7))],.f 19 1 [.l (.n .i64 (.v 0 6))],.f 6 0 [z0]] 3 [.l (.n .u32 (.v 0 1))],.pre [.f 44 3 [.l (.n .u32 (.v 0 1))],.c (.v 6 2) true,.c (.v 19 0) true,.c (.v 25 0) true,.c (.c .eql (.v 31 0) (.v 0 0)) true,.c (.c .eql (.v 31 1) (.v 0 1)) true,.c (.c .eql (.v 31 2) (.v 0 2)) true,.c (.c .eql (.v 31 3) (.v 0 3)) true,.c (.c .eql (.v 31 4) (.v 0 4)) true,.c (.c .eql (.v 31 5) (.v 0 5)) true,.c (.c .eql (.v 31 6) (.v 0 6)) true,.c (.c .eql (.v 31 7) (.v 0 7)) true,.c (.c .eql (.v 31 8) (.v 0 8)) true,.f 31 2 [z0,.l (.n .i64 (.v 6 1))],.f 25 1 [.l (.n .i64 (.v 0 7))],.f 19 1 [.l (.n .i64 (.v 0 6))],.f 6 0 [z0]] 3 [.l (.n .u32 (.o .sub .u32 (.o .sub .u32 (.v 0 1) (.v 0 0)) (.i 2)))]]
theorem Ql2:QP Try.prog Qep 2000 Try.f88 Qi8 Ql3=some (Qpe,Qpf):=by kernel_rfl
theorem QuA{i j:Ins}:i≠j↔¬(i.addr=j.addr∧i.imm=j.imm∧i.op=j.op∧i.form=j.form∧i.width=j.width∧i.cc=j.cc∧i.a=j.a∧i.b=j.b∧i.size=j.size):=by
 cases i;cases j;simp
set_option maxHeartbeats 8000000 in
theorem QnW(i:Ins)(w:World):Calls Try.prog 88 #[i.val] w fun en w'=>∃c,en= .returned (.tuple #[.int .u8 c,.int .i64 (Wd i),.int .i64 (V7 i)])∧Below w.heap.size w w':=by
 refine Ya (C:= [Qdk,Qbl,Qhp,Qdj]) (I:= []) Qr (G:=Qep) rfl Try.func88 Ql2 (XX i) w (fun r hr=>(List.not_mem_nil hr).elim) (fun o ho=>Zb.ok (QC.all (p:=fun o=>∀e,Env.agr 1 (XX i) e→Zb _ _ e o) ?_ o ho)) _ (QC.all ?_)
 ·refine⟨?_,?_,?_,?_,?_,?_,trivial⟩
  all_goals exact fun e he _=>trivial
 refine⟨?_,?_,?_,trivial⟩
 all_goals
  intro e u w' he hc hs hb
  replace hc:=QC.of hc
  have h0:=Zp he (by decide)
  have hi:=ZE h0
  simp only [QC,Cd.holds,SX.den,cmI,PX.den,LX.den,VX.sat,List.map_cons,List.map_nil,List.append_nil,beq_iff_eq,bne_iff_ne,beq_eq_false_iff_ne,bne_eq_false_iff_eq,decide_eq_true_eq,decide_eq_false_iff_not,Bool.and_eq_true,Bool.and_eq_false_iff,ne_eq,List.getElem?_cons_zero,List.getElem?_cons_succ,Option.some.injEq,exists_eq_left',QI,QT,Q3,QB,Qdk,Qbl,Qhp,Qdj,h0,Q9,hi]at hc hs
  rw [hs]
  refine⟨_,congrArg Ending.returned (Qt9 rfl (congrArg _ ?_) (congrArg _ ?_)),hb⟩ <;> (clear hs hb he;simp only [Wd,V7,ne_eq,QuA,QfM];(repeat (rcases hc with ⟨_,hc⟩));(simp_all [Q9,arI]) <;> grind)
def YD:Con Try.prog:=⟨⟨88,[.a Qb],.tp [.inl (some .u8),.inl (some .i64),.inl (some .i64)],false⟩,fun _=>True,fun ads i b=>match ads with| [d1]=>i 1=Wd (Q0 d1)∧i 2=V7 (Q0 d1)|_=>False,
 ⟨_,Try.func88,by kernel_rfl,by kernel_rfl⟩,(fun h=>by cases h),(fun h=>by cases h),fun ads w hf hp=>by
   obtain⟨d1,_,rfl,f1,hf⟩:=Qf hf
   obtain rfl:=Qn hf
   show Calls _ _ #[d1.val] w _
   rw [Zc f1]
   refine(QnW (Q0 d1) w).mono fun en w' hen=>?_
   obtain⟨c,rfl,hb⟩:=hen
   exact⟨fun j=>if j=0 then c else if j=1 then Wd (Q0 d1)else V7 (Q0 d1),fun _=>false,rfl,hb,rfl,rfl⟩⟩
def YF(i:Ins):Bool:=V7 i==0
def Qpz:List Sg:= [⟨88,[.a Qb],.tp [.inl (some .u8),.inl (some .i64),.inl (some .i64)],false⟩]
def Qjb:List PX:= [.a (Qa 0 0 Qb)]
def QlX:List Rw:= []
def QlV:Cfg:=⟨1,Qpz,[]⟩
def Qpx:List Lf:= [⟨[.f 4 0 [.a (Qa 0 0 Qb)]],.v (.l (.t (.c .eql (.v 4 2) (.i 0))))⟩]
def Qpy:List Ob:= [.pre [] 0 [.a (Qa 0 0 Qb)]]
theorem QlW:QP Try.prog QlV 2000 Try.f48 Qjb QlX=some (Qpx,Qpy):=by kernel_rfl
theorem QfL(i:Ins)(w:World):Calls Try.prog 48 #[i.val] w (Ret (.bool (YF i)) w):=by
 refine QG (C:= [YD]) (I:= []) Qr rfl Try.func48 QlW (XX i) w rfl (fun r hr=>(List.not_mem_nil hr).elim) _ ⟨fun e he _=>trivial,trivial⟩ ?_
 refine⟨?_,trivial⟩
 all_goals
  intro e u he hc hs
  have h0:=Zp he (by decide)
  have hi:=ZE h0
  simp only [QC,Cd.holds,SX.den,cmI,PX.den,LX.den,VX.sat,List.map_cons,List.map_nil,List.append_nil,beq_iff_eq,bne_iff_ne,beq_eq_false_iff_ne,bne_eq_false_iff_eq,decide_eq_true_eq,decide_eq_false_iff_not,Bool.and_eq_true,Bool.and_eq_false_iff,ne_eq,List.getElem?_cons_zero,List.getElem?_cons_succ,Option.some.injEq,exists_eq_left',QI,QT,Q3,QB,YD,h0,Q9,hi]at hc hs
  rw [hs]
  simp_all [YF]
end Go.Proofs.Yteplnamfpodmlaa
