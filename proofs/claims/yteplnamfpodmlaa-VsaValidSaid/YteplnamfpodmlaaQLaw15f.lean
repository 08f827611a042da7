/-
  VsaValid: for all lists of instructions and entries the call returns true: all sets that Analyze returns are valid. No condition on the inputs.
-/
import Derived.Test.YteplnamfpodmlaaRows
import Derived.Test.YteplnamfpodmlaaQLz
import Derived.Test.YteplnamfpodmlaaQLy
set_option linter.unusedVariables false
set_option linter.unusedSimpArgs false
set_option maxRecDepth 100000
open Go.ChangeShapes Go.WideShapes Go.ChangeAt Go.RowKit
namespace Go.Proofs.Yteplnamfpodmlaa.T2
def QsP:List Sg:= [⟨13,[.sl Qb,.l (some .u32),.l (some .i64)],.se stK (some .i64),false,false⟩,⟨33,[.a Qc],.b (.l none),true,false⟩,⟨12,[],.b (.l none),true,true⟩]
def QmU:List PX:= [.l (.sl 0 (.v 2 0)),.l (.n .u32 (.v 1 0))]
def Qqi:List Rw:= [⟨0,Qb,(.v 2 0)⟩]
def Qqg:Cfg:=⟨4,QsP,[⟨9,5,0,[.num (.s 7) (some .i64)],7,.inr (.i 17),true⟩],[11],[]⟩
def QsN:List Lf:=
 let z0:VX:= .v (.l (.t (.b false)))
 let z1:List Bk:= [⟨49,.row stK (.v 48 0) 49⟩]
 [⟨[.f 40 2 [],.c (.c .leq (.v 2 0) (.i 16)) false,.c (.c .geq (.v 2 0) (.i 0)) true],.v (.l (.t (.v 40 0))),[]⟩,⟨[.c (.v 133 0) false,.f 133 1 [(.a (rxL 49 40 (.v 76 0) 0 Qc),0)],.c (.c .geq (.v 76 0) (.i 0)) true,.c (.c .lss (.v 76 0) (.v 48 0)) true,.c (.c .geq (.v 48 0) (.i 0)) true,.g 76 0 0,.f 48 0 [(.l (.sl 0 (.v 2 0)),0),(.l (.n .u32 (.v 1 0)),0),(.l (.n .i64 (.i 400)),0)],.c (.c .leq (.v 2 0) (.i 16)) true,.c (.c .geq (.v 2 0) (.i 0)) true],z0,z1⟩,⟨[.c (.v 189 0) false,.f 189 1 [(.a (rxL 49 40 (.v 76 0) 5 Qc),0)],.c (.v 133 0) true,.f 133 1 [(.a (rxL 49 40 (.v 76 0) 0 Qc),0)],.c (.c .geq (.v 76 0) (.i 0)) true,.c (.c .lss (.v 76 0) (.v 48 0)) true,.c (.c .geq (.v 48 0) (.i 0)) true,.g 76 0 0,.f 48 0 [(.l (.sl 0 (.v 2 0)),0),(.l (.n .u32 (.v 1 0)),0),(.l (.n .i64 (.i 400)),0)],.c (.c .leq (.v 2 0) (.i 16)) true,.c (.c .geq (.v 2 0) (.i 0)) true],z0,z1⟩,⟨[.c (.v 245 0) false,.f 245 1 [(.a (rxL 49 40 (.v 76 0) 10 Qc),0)],.c (.v 189 0) true,.f 189 1 [(.a (rxL 49 40 (.v 76 0) 5 Qc),0)],.c (.v 133 0) true,.f 133 1 [(.a (rxL 49 40 (.v 76 0) 0 Qc),0)],.c (.c .geq (.v 76 0) (.i 0)) true,.c (.c .lss (.v 76 0) (.v 48 0)) true,.c (.c .geq (.v 48 0) (.i 0)) true,.g 76 0 0,.f 48 0 [(.l (.sl 0 (.v 2 0)),0),(.l (.n .u32 (.v 1 0)),0),(.l (.n .i64 (.i 400)),0)],.c (.c .leq (.v 2 0) (.i 16)) true,.c (.c .geq (.v 2 0) (.i 0)) true],z0,z1⟩,⟨[.c (.v 301 0) false,.f 301 1 [(.a (rxL 49 40 (.v 76 0) 15 Qc),0)],.c (.v 245 0) true,.f 245 1 [(.a (rxL 49 40 (.v 76 0) 10 Qc),0)],.c (.v 189 0) true,.f 189 1 [(.a (rxL 49 40 (.v 76 0) 5 Qc),0)],.c (.v 133 0) true,.f 133 1 [(.a (rxL 49 40 (.v 76 0) 0 Qc),0)],.c (.c .geq (.v 76 0) (.i 0)) true,.c (.c .lss (.v 76 0) (.v 48 0)) true,.c (.c .geq (.v 48 0) (.i 0)) true,.g 76 0 0,.f 48 0 [(.l (.sl 0 (.v 2 0)),0),(.l (.n .u32 (.v 1 0)),0),(.l (.n .i64 (.i 400)),0)],.c (.c .leq (.v 2 0) (.i 16)) true,.c (.c .geq (.v 2 0) (.i 0)) true],z0,z1⟩,⟨[.c (.v 357 0) false,.f 357 1 [(.a (rxL 49 40 (.v 76 0) 20 Qc),0)],.c (.v 301 0) true,.f 301 1 [(.a (rxL 49 40 (.v 76 0) 15 Qc),0)],.c (.v 245 0) true,.f 245 1 [(.a (rxL 49 40 (.v 76 0) 10 Qc),0)],.c (.v 189 0) true,.f 189 1 [(.a (rxL 49 40 (.v 76 0) 5 Qc),0)],.c (.v 133 0) true,.f 133 1 [(.a (rxL 49 40 (.v 76 0) 0 Qc),0)],.c (.c .geq (.v 76 0) (.i 0)) true,.c (.c .lss (.v 76 0) (.v 48 0)) true,.c (.c .geq (.v 48 0) (.i 0)) true,.g 76 0 0,.f 48 0 [(.l (.sl 0 (.v 2 0)),0),(.l (.n .u32 (.v 1 0)),0),(.l (.n .i64 (.i 400)),0)],.c (.c .leq (.v 2 0) (.i 16)) true,.c (.c .geq (.v 2 0) (.i 0)) true],z0,z1⟩,⟨[.c (.v 413 0) false,.f 413 1 [(.a (rxL 49 40 (.v 76 0) 25 Qc),0)],.c (.v 357 0) true,.f 357 1 [(.a (rxL 49 40 (.v 76 0) 20 Qc),0)],.c (.v 301 0) true,.f 301 1 [(.a (rxL 49 40 (.v 76 0) 15 Qc),0)],.c (.v 245 0) true,.f 245 1 [(.a (rxL 49 40 (.v 76 0) 10 Qc),0)],.c (.v 189 0) true,.f 189 1 [(.a (rxL 49 40 (.v 76 0) 5 Qc),0)],.c (.v 133 0) true,.f 133 1 [(.a (rxL 49 40 (.v 76 0) 0 Qc),0)],.c (.c .geq (.v 76 0) (.i 0)) true,.c (.c .lss (.v 76 0) (.v 48 0)) true,.c (.c .geq (.v 48 0) (.i 0)) true,.g 76 0 0,.f 48 0 [(.l (.sl 0 (.v 2 0)),0),(.l (.n .u32 (.v 1 0)),0),(.l (.n .i64 (.i 400)),0)],.c (.c .leq (.v 2 0) (.i 16)) true,.c (.c .geq (.v 2 0) (.i 0)) true],z0,z1⟩,⟨[.c (.v 469 0) false,.f 469 1 [(.a (rxL 49 40 (.v 76 0) 30 Qc),0)],.c (.v 413 0) true,.f 413 1 [(.a (rxL 49 40 (.v 76 0) 25 Qc),0)],.c (.v 357 0) true,.f 357 1 [(.a (rxL 49 40 (.v 76 0) 20 Qc),0)],.c (.v 301 0) true,.f 301 1 [(.a (rxL 49 40 (.v 76 0) 15 Qc),0)],.c (.v 245 0) true,.f 245 1 [(.a (rxL 49 40 (.v 76 0) 10 Qc),0)],.c (.v 189 0) true,.f 189 1 [(.a (rxL 49 40 (.v 76 0) 5 Qc),0)],.c (.v 133 0) true,.f 133 1 [(.a (rxL 49 40 (.v 76 0) 0 Qc),0)],.c (.c .geq (.v 76 0) (.i 0)) true,.c (.c .lss (.v 76 0) (.v 48 0)) true,.c (.c .geq (.v 48 0) (.i 0)) true,.g 76 0 0,.f 48 0 [(.l (.sl 0 (.v 2 0)),0),(.l (.n .u32 (.v 1 0)),0),(.l (.n .i64 (.i 400)),0)],.c (.c .leq (.v 2 0) (.i 16)) true,.c (.c .geq (.v 2 0) (.i 0)) true],z0,z1⟩,⟨[.c (.v 525 0) false,.f 525 1 [(.a (rxL 49 40 (.v 76 0) 35 Qc),0)],.c (.v 469 0) true,.f 469 1 [(.a (rxL 49 40 (.v 76 0) 30 Qc),0)],.c (.v 413 0) true,.f 413 1 [(.a (rxL 49 40 (.v 76 0) 25 Qc),0)],.c (.v 357 0) true,.f 357 1 [(.a (rxL 49 40 (.v 76 0) 20 Qc),0)],.c (.v 301 0) true,.f 301 1 [(.a (rxL 49 40 (.v 76 0) 15 Qc),0)],.c (.v 245 0) true,.f 245 1 [(.a (rxL 49 40 (.v 76 0) 10 Qc),0)],.c (.v 189 0) true,.f 189 1 [(.a (rxL 49 40 (.v 76 0) 5 Qc),0)],.c (.v 133 0) true,.f 133 1 [(.a (rxL 49 40 (.v 76 0) 0 Qc),0)],.c (.c .geq (.v 76 0) (.i 0)) true,.c (.c .lss (.v 76 0) (.v 48 0)) true,.c (.c .geq (.v 48 0) (.i 0)) true,.g 76 0 0,.f 48 0 [(.l (.sl 0 (.v 2 0)),0),(.l (.n .u32 (.v 1 0)),0),(.l (.n .i64 (.i 400)),0)],.c (.c .leq (.v 2 0) (.i 16)) true,.c (.c .geq (.v 2 0) (.i 0)) true],z0,z1⟩,⟨[.f 93 2 [],.c (.c .lss (.v 76 0) (.v 48 0)) false,.c (.c .geq (.v 48 0) (.i 0)) true,.g 76 0 0,.f 48 0 [(.l (.sl 0 (.v 2 0)),0),(.l (.n .u32 (.v 1 0)),0),(.l (.n .i64 (.i 400)),0)],.c (.c .leq (.v 2 0) (.i 16)) true,.c (.c .geq (.v 2 0) (.i 0)) true],.v (.l (.t (.v 93 0))),z1⟩]
def QsO:List Ob:=
 let z0:List Cd:= [.c (.v 525 0) true,.f 525 1 [(.a (rxL 49 40 (.v 76 0) 35 Qc),0)],.c (.v 469 0) true,.f 469 1 [(.a (rxL 49 40 (.v 76 0) 30 Qc),0)],.c (.v 413 0) true,.f 413 1 [(.a (rxL 49 40 (.v 76 0) 25 Qc),0)],.c (.v 357 0) true,.f 357 1 [(.a (rxL 49 40 (.v 76 0) 20 Qc),0)],.c (.v 301 0) true,.f 301 1 [(.a (rxL 49 40 (.v 76 0) 15 Qc),0)],.c (.v 245 0) true,.f 245 1 [(.a (rxL 49 40 (.v 76 0) 10 Qc),0)],.c (.v 189 0) true,.f 189 1 [(.a (rxL 49 40 (.v 76 0) 5 Qc),0)],.c (.v 133 0) true,.f 133 1 [(.a (rxL 49 40 (.v 76 0) 0 Qc),0)],.c (.c .geq (.v 76 0) (.i 0)) true,.c (.c .lss (.v 76 0) (.v 48 0)) true,.c (.c .geq (.v 48 0) (.i 0)) true,.g 76 0 0,.f 48 0 [(.l (.sl 0 (.v 2 0)),0),(.l (.n .u32 (.v 1 0)),0),(.l (.n .i64 (.i 400)),0)],.c (.c .leq (.v 2 0) (.i 16)) true,.c (.c .geq (.v 2 0) (.i 0)) true]
 [.cl [] (.c .geq (.v 2 0) (.i 0)),.pre [.c (.c .leq (.v 2 0) (.i 16)) true,.c (.c .geq (.v 2 0) (.i 0)) true] 0 [(.l (.sl 0 (.v 2 0)),0),(.l (.n .u32 (.v 1 0)),0),(.l (.n .i64 (.i 400)),0)],.inv [.f 48 0 [(.l (.sl 0 (.v 2 0)),0),(.l (.n .u32 (.v 1 0)),0),(.l (.n .i64 (.i 400)),0)],.c (.c .leq (.v 2 0) (.i 16)) true,.c (.c .geq (.v 2 0) (.i 0)) true] 0 76 [.n .i64 (.i 0)] [],.cl [.g 76 0 0,.f 48 0 [(.l (.sl 0 (.v 2 0)),0),(.l (.n .u32 (.v 1 0)),0),(.l (.n .i64 (.i 400)),0)],.c (.c .leq (.v 2 0) (.i 16)) true,.c (.c .geq (.v 2 0) (.i 0)) true] (.c .geq (.v 48 0) (.i 0)),.cl [.c (.c .lss (.v 76 0) (.v 48 0)) true,.c (.c .geq (.v 48 0) (.i 0)) true,.g 76 0 0,.f 48 0 [(.l (.sl 0 (.v 2 0)),0),(.l (.n .u32 (.v 1 0)),0),(.l (.n .i64 (.i 400)),0)],.c (.c .leq (.v 2 0) (.i 16)) true,.c (.c .geq (.v 2 0) (.i 0)) true] (.c .geq (.v 76 0) (.i 0)),.pre [.c (.c .geq (.v 76 0) (.i 0)) true,.c (.c .lss (.v 76 0) (.v 48 0)) true,.c (.c .geq (.v 48 0) (.i 0)) true,.g 76 0 0,.f 48 0 [(.l (.sl 0 (.v 2 0)),0),(.l (.n .u32 (.v 1 0)),0),(.l (.n .i64 (.i 400)),0)],.c (.c .leq (.v 2 0) (.i 16)) true,.c (.c .geq (.v 2 0) (.i 0)) true] 1 [(.a (rxL 49 40 (.v 76 0) 0 Qc),0)],.pre [.c (.v 133 0) true,.f 133 1 [(.a (rxL 49 40 (.v 76 0) 0 Qc),0)],.c (.c .geq (.v 76 0) (.i 0)) true,.c (.c .lss (.v 76 0) (.v 48 0)) true,.c (.c .geq (.v 48 0) (.i 0)) true,.g 76 0 0,.f 48 0 [(.l (.sl 0 (.v 2 0)),0),(.l (.n .u32 (.v 1 0)),0),(.l (.n .i64 (.i 400)),0)],.c (.c .leq (.v 2 0) (.i 16)) true,.c (.c .geq (.v 2 0) (.i 0)) true] 1 [(.a (rxL 49 40 (.v 76 0) 5 Qc),0)],.pre [.c (.v 189 0) true,.f 189 1 [(.a (rxL 49 40 (.v 76 0) 5 Qc),0)],.c (.v 133 0) true,.f 133 1 [(.a (rxL 49 40 (.v 76 0) 0 Qc),0)],.c (.c .geq (.v 76 0) (.i 0)) true,.c (.c .lss (.v 76 0) (.v 48 0)) true,.c (.c .geq (.v 48 0) (.i 0)) true,.g 76 0 0,.f 48 0 [(.l (.sl 0 (.v 2 0)),0),(.l (.n .u32 (.v 1 0)),0),(.l (.n .i64 (.i 400)),0)],.c (.c .leq (.v 2 0) (.i 16)) true,.c (.c .geq (.v 2 0) (.i 0)) true] 1 [(.a (rxL 49 40 (.v 76 0) 10 Qc),0)],.pre [.c (.v 245 0) true,.f 245 1 [(.a (rxL 49 40 (.v 76 0) 10 Qc),0)],.c (.v 189 0) true,.f 189 1 [(.a (rxL 49 40 (.v 76 0) 5 Qc),0)],.c (.v 133 0) true,.f 133 1 [(.a (rxL 49 40 (.v 76 0) 0 Qc),0)],.c (.c .geq (.v 76 0) (.i 0)) true,.c (.c .lss (.v 76 0) (.v 48 0)) true,.c (.c .geq (.v 48 0) (.i 0)) true,.g 76 0 0,.f 48 0 [(.l (.sl 0 (.v 2 0)),0),(.l (.n .u32 (.v 1 0)),0),(.l (.n .i64 (.i 400)),0)],.c (.c .leq (.v 2 0) (.i 16)) true,.c (.c .geq (.v 2 0) (.i 0)) true] 1 [(.a (rxL 49 40 (.v 76 0) 15 Qc),0)],.pre [.c (.v 301 0) true,.f 301 1 [(.a (rxL 49 40 (.v 76 0) 15 Qc),0)],.c (.v 245 0) true,.f 245 1 [(.a (rxL 49 40 (.v 76 0) 10 Qc),0)],.c (.v 189 0) true,.f 189 1 [(.a (rxL 49 40 (.v 76 0) 5 Qc),0)],.c (.v 133 0) true,.f 133 1 [(.a (rxL 49 40 (.v 76 0) 0 Qc),0)],.c (.c .geq (.v 76 0) (.i 0)) true,.c (.c .lss (.v 76 0) (.v 48 0)) true,.c (.c .geq (.v 48 0) (.i 0)) true,.g 76 0 0,.f 48 0 [(.l (.sl 0 (.v 2 0)),0),(.l (.n .u32 (.v 1 0)),0),(.l (.n .i64 (.i 400)),0)],.c (.c .leq (.v 2 0) (.i 16)) true,.c (.c .geq (.v 2 0) (.i 0)) true] 1 [(.a (rxL 49 40 (.v 76 0) 20 Qc),0)],.pre [.c (.v 357 0) true,.f 357 1 [(.a (rxL 49 40 (.v 76 0) 20 Qc),0)],.c (.v 301 0) true,.f 301 1 [(.a (rxL 49 40 (.v 76 0) 15 Qc),0)],.c (.v 245 0) true,.f 245 1 [(.a (rxL 49 40 (.v 76 0) 10 Qc),0)],.c (.v 189 0) true,.f 189 1 [(.a (rxL 49 40 (.v 76 0) 5 Qc),0)],.c (.v 133 0) true,.f 133 1 [(.a (rxL 49 40 (.v 76 0) 0 Qc),0)],.c (.c .geq (.v 76 0) (.i 0)) true,.c (.c .lss (.v 76 0) (.v 48 0)) true,.c (.c .geq (.v 48 0) (.i 0)) true,.g 76 0 0,.f 48 0 [(.l (.sl 0 (.v 2 0)),0),(.l (.n .u32 (.v 1 0)),0),(.l (.n .i64 (.i 400)),0)],.c (.c .leq (.v 2 0) (.i 16)) true,.c (.c .geq (.v 2 0) (.i 0)) true] 1 [(.a (rxL 49 40 (.v 76 0) 25 Qc),0)],.pre [.c (.v 413 0) true,.f 413 1 [(.a (rxL 49 40 (.v 76 0) 25 Qc),0)],.c (.v 357 0) true,.f 357 1 [(.a (rxL 49 40 (.v 76 0) 20 Qc),0)],.c (.v 301 0) true,.f 301 1 [(.a (rxL 49 40 (.v 76 0) 15 Qc),0)],.c (.v 245 0) true,.f 245 1 [(.a (rxL 49 40 (.v 76 0) 10 Qc),0)],.c (.v 189 0) true,.f 189 1 [(.a (rxL 49 40 (.v 76 0) 5 Qc),0)],.c (.v 133 0) true,.f 133 1 [(.a (rxL 49 40 (.v 76 0) 0 Qc),0)],.c (.c .geq (.v 76 0) (.i 0)) true,.c (.c .lss (.v 76 0) (.v 48 0)) true,.c (.c .geq (.v 48 0) (.i 0)) true,.g 76 0 0,.f 48 0 [(.l (.sl 0 (.v 2 0)),0),(.l (.n .u32 (.v 1 0)),0),(.l (.n .i64 (.i 400)),0)],.c (.c .leq (.v 2 0) (.i 16)) true,.c (.c .geq (.v 2 0) (.i 0)) true] 1 [(.a (rxL 49 40 (.v 76 0) 30 Qc),0)],.pre [.c (.v 469 0) true,.f 469 1 [(.a (rxL 49 40 (.v 76 0) 30 Qc),0)],.c (.v 413 0) true,.f 413 1 [(.a (rxL 49 40 (.v 76 0) 25 Qc),0)],.c (.v 357 0) true,.f 357 1 [(.a (rxL 49 40 (.v 76 0) 20 Qc),0)],.c (.v 301 0) true,.f 301 1 [(.a (rxL 49 40 (.v 76 0) 15 Qc),0)],.c (.v 245 0) true,.f 245 1 [(.a (rxL 49 40 (.v 76 0) 10 Qc),0)],.c (.v 189 0) true,.f 189 1 [(.a (rxL 49 40 (.v 76 0) 5 Qc),0)],.c (.v 133 0) true,.f 133 1 [(.a (rxL 49 40 (.v 76 0) 0 Qc),0)],.c (.c .geq (.v 76 0) (.i 0)) true,.c (.c .lss (.v 76 0) (.v 48 0)) true,.c (.c .geq (.v 48 0) (.i 0)) true,.g 76 0 0,.f 48 0 [(.l (.sl 0 (.v 2 0)),0),(.l (.n .u32 (.v 1 0)),0),(.l (.n .i64 (.i 400)),0)],.c (.c .leq (.v 2 0) (.i 16)) true,.c (.c .geq (.v 2 0) (.i 0)) true] 1 [(.a (rxL 49 40 (.v 76 0) 35 Qc),0)],.inv z0 0 76 [.n .i64 (.o .add .i64 (.v 76 0) (.i 1))] [],.cl z0 (.c .lss (.v 76 0) (.o .add .i64 (.v 76 0) (.i 1))),.cl z0 (.c .lss (.v 76 0) (.i 17))]
theorem Qqh:QP Try.prog Qqg 1000 4 9 Try.f9 QmU Qqi=some (QsN,QsO):=by kernel_rfl
def Qn8:List (Kon Try.prog):= [Ja,QaL.kon,kEx]
theorem vl0:Qn8[0]?=some Ja:=rfl
theorem vl1:Qn8[1]?=some QaL.kon:=rfl
theorem vl2:Qn8[2]?=some kEx:=rfl
theorem Qsu{d1 d2 d3:AD}{m m':Nm}:Ja.post [d1,d2,d3] m m'↔ZZ (cxD d1 d2 d3) m m':=Iff.rfl
theorem Qsv{d:AD}{m m':Nm}:QaL.kon.post [d] m m'↔(m.int=fun _=>0)∧(m.bool=fun _=>Qq (Z4 d)):=Iff.rfl
theorem Qsw{m m':Nm}:kEx.post [] m m'↔(m.int=fun _=>0)∧(m.bool=fun _=>true):=Iff.rfl
set_option maxHeartbeats 4000000 in
theorem vsaValid_walk'(A:Option Addr)(n c:Nat)(hl:n≤maxLen)(ri:Nat→Int)(rb:Nat→Bool)(hr:∀i,i < n→InR Qb ri (i * Qb.length))(a:Int)(ha:Q5 a)(w:World)(hrow:Xn w A n Qb ri rb) :
 Calls Try.prog 9 #[.slice A n c,.int .u32 a] w (Ret (.bool true) w):=by
 have hI:=QfH hr
 refine ZK (C:=Qn8) (I:= [fun d e=>0≤e.int d 0∧e.int d 0≤16]) Qr rfl Try.func9 Qqh (Kh [nmR A c ri rb,nmN a,nmN n]) w rfl ?_ _ ?_ ?_
 ·intro r hr0
  rw [List.mem_singleton.1 hr0]
  exact hrow
 ·refine⟨?_,?_,?_,?_,?_,?_,?_,?_,?_,?_,?_,?_,?_,?_,?_,?_,trivial⟩
  all_goals
   intro e he hc
   have h0:e.nm 0=nmR A c ri rb:=he 0 (by decide)
   have h1:e.nm 1=nmN a:=he 1 (by decide)
   have h2:e.nm 2=nmN n:=he 2 (by decide)
   simp only [QC,Zb,Cd.holds,dv1,dv2,di1,db2,dr1,dr2,dq1,dq2,do1,Z1,Z0,Zx,Zw,Zz,Zy,Zv,Zu,Zt,Zs,Z3,Z2,Xt,Xs,Xp,Xo,Xr,Xq,List.map_cons,List.map_nil,Nat.mul_one,Nat.add_zero,List.getElem?_cons_zero,List.getElem?_cons_succ,Option.some.injEq,exists_eq_left',and_true,and_assoc,Env.int,Env.bool,X8,Nat.reduceLeDiff,Nat.reduceAdd,Jp,Wy,vl0,vl1,vl2,Qsu,Qsv,Qsw,Ji,h2,nmR,nmN,nmI]at hc ⊢
   first
    |omega
    |(show(∀k,k < ((e.nm 2).int 0).toNat→(Qe (e.nm 0).int k).wf)∧0≤(e.nm 1).int 0∧(400:Int)≤9223372036854775807
      rw [h0,h1,h2]
      refine⟨fun k hk=>?_,ha.1,by decide⟩
      have hk':k < n:=by rwa [show((nmN (n:Int)).int 0).toNat=n from rfl]at hk
      have:=hI k
      rwa [Qp hk']at this)
    |(have q:ZZ (cxD (PX.dat e 0 (.l (.sl 0 (.v 2 0)))) (PX.dat e 0 (.l (.n .u32 (.v 1 0)))) (PX.dat e 0 (.l (.n .i64 (.i 400))))) (e.nm 48) (e.nm 49):=by(have hpq:=hc;(repeat (first|exact hpq|exact hpq.1|replace hpq:=hpq.2));done)
      have q':ZZ ⟨Ql (e.nm 0).int ((e.nm 2).int 0).toNat,((e.nm 2).int 0).toNat,(e.nm 1).int 0,400⟩ (e.nm 48) (e.nm 49):=q
      rw [h0,h1,h2]at q'
      have R:Qcx (Ql ri n) n a (e.nm 48) (e.nm 49):=Qa4 hI q'
      clear q q'
      rcases R with ⟨r0,r1⟩|⟨r0,r1,f,b,r2,r3,r4,r5⟩
      ·first|omega|(rw [Qx (by omega) (by omega)];omega)
      ·first
        |omega
        |(have iv:0≤(e.nm 76).int 0:=by(have hpq:=hc;(repeat (first|exact hpq|exact hpq.1|replace hpq:=hpq.2));done)
          have iu:(e.nm 76).int 0≤16:=by(have hpq:=hc;(repeat (first|exact hpq|exact hpq.1|replace hpq:=hpq.2));done)
          have sN:IntKind.i64.wrap ((e.nm 76).int 0+1)=(e.nm 76).int 0+1:=Qx iv (by omega)
          rw [sN];omega)
        |(have V:∀r,r < 8→(Jr (e.nm 49).int (e.nm 49).bool ((e.nm 76).int 0).toNat r).wf:=fun r h8=>by
           rw [r4 _ (by omega) r h8]
           exact(r3.ok _ r).1
          first
           |exact V 0 (by decide)
           |exact V 1 (by decide)
           |exact V 2 (by decide)
           |exact V 3 (by decide)
           |exact V 4 (by decide)
           |exact V 5 (by decide)
           |exact V 6 (by decide)
           |exact V 7 (by decide)
           |fail "")
        |fail "")
    |fail ""
 ·refine⟨?_,?_,?_,?_,?_,?_,?_,?_,?_,?_,trivial⟩
  all_goals
   intro e u he hc hs
   have h0:e.nm 0=nmR A c ri rb:=he 0 (by decide)
   have h1:e.nm 1=nmN a:=he 1 (by decide)
   have h2:e.nm 2=nmN n:=he 2 (by decide)
   simp only [QC,Zb,Cd.holds,dv1,dv2,di1,db2,dr1,dr2,dq1,dq2,do1,Z1,Z0,Zx,Zw,Zz,Zy,Zv,Zu,Zt,Zs,Z3,Z2,Xt,Xs,Xp,Xo,Xr,Xq,List.map_cons,List.map_nil,Nat.mul_one,Nat.add_zero,List.getElem?_cons_zero,List.getElem?_cons_succ,Option.some.injEq,exists_eq_left',and_true,and_assoc,Env.int,Env.bool,X8,Nat.reduceLeDiff,Nat.reduceAdd,Jp,Wy,vl0,vl1,vl2,Qsu,Qsv,Qsw,Ji,h2,nmR,nmN,nmI]at hc
   rw [show u=_ from hs]
   first
    |(refine congrArg Value.bool ?_
      first
       |(show(e.nm 40).bool 0=true;rw [hc.2.1])
       |(show(e.nm 93).bool 0=true;rw [hc.2.1])
       |fail "")
    |(exfalso
      have q:ZZ (cxD (PX.dat e 0 (.l (.sl 0 (.v 2 0)))) (PX.dat e 0 (.l (.n .u32 (.v 1 0)))) (PX.dat e 0 (.l (.n .i64 (.i 400))))) (e.nm 48) (e.nm 49):=by(have hpq:=hc;(repeat (first|exact hpq|exact hpq.1|replace hpq:=hpq.2));done)
      have q':ZZ ⟨Ql (e.nm 0).int ((e.nm 2).int 0).toNat,((e.nm 2).int 0).toNat,(e.nm 1).int 0,400⟩ (e.nm 48) (e.nm 49):=q
      rw [h0,h1,h2]at q'
      have R:Qcx (Ql ri n) n a (e.nm 48) (e.nm 49):=Qa4 hI q'
      clear q q'
      rcases R with ⟨r0,r1⟩|⟨r0,r1,f,b,r2,r3,r4,r5⟩
      ·omega
      ·have V:∀r,r < 8→Qq (Jr (e.nm 49).int (e.nm 49).bool ((e.nm 76).int 0).toNat r)=true:=fun r h8=>by
        rw [r4 _ (by omega) r h8]
        exact(r3.ok _ r).2
       have c1:=hc.1
       have f1:=hc.2.2.1
       rw [congrFun f1 0]at c1
       first
        |exact absurd (V 0 (by decide)) (by rw [show Qq (Jr (e.nm 49).int (e.nm 49).bool ((e.nm 76).int 0).toNat 0)=_ from c1];decide)
        |exact absurd (V 1 (by decide)) (by rw [show Qq (Jr (e.nm 49).int (e.nm 49).bool ((e.nm 76).int 0).toNat 1)=_ from c1];decide)
        |exact absurd (V 2 (by decide)) (by rw [show Qq (Jr (e.nm 49).int (e.nm 49).bool ((e.nm 76).int 0).toNat 2)=_ from c1];decide)
        |exact absurd (V 3 (by decide)) (by rw [show Qq (Jr (e.nm 49).int (e.nm 49).bool ((e.nm 76).int 0).toNat 3)=_ from c1];decide)
        |exact absurd (V 4 (by decide)) (by rw [show Qq (Jr (e.nm 49).int (e.nm 49).bool ((e.nm 76).int 0).toNat 4)=_ from c1];decide)
        |exact absurd (V 5 (by decide)) (by rw [show Qq (Jr (e.nm 49).int (e.nm 49).bool ((e.nm 76).int 0).toNat 5)=_ from c1];decide)
        |exact absurd (V 6 (by decide)) (by rw [show Qq (Jr (e.nm 49).int (e.nm 49).bool ((e.nm 76).int 0).toNat 6)=_ from c1];decide)
        |exact absurd (V 7 (by decide)) (by rw [show Qq (Jr (e.nm 49).int (e.nm 49).bool ((e.nm 76).int 0).toNat 7)=_ from c1];decide)
        |fail "")
    |fail ""
end Go.Proofs.Yteplnamfpodmlaa.T2
namespace Go.Proofs.Yteplnamfpodmlaa
theorem vsaValid_walk(A:Option Addr)(n c:Nat)(hl:n≤maxLen)(ri:Nat→Int)(rb:Nat→Bool)(hr:∀i,i < n→InR Qb ri (i * Qb.length))(a:Int)(ha:Q5 a)(w:World)(hrow:Xn w A n Qb ri rb) :
 Calls Try.prog 9 #[.slice A n c,.int .u32 a] w (Ret (.bool true) w):=T2.vsaValid_walk' A n c hl ri rb hr a ha w hrow
theorem vsaValid_own:ownKnob Try.prog.godebug=none:=by kernel_rfl
set_option maxRecDepth 100000 in
theorem vsaValid_lifted(os:Os)(started:os.Started)(H:Type)(enc:TypeId×Value→H) :
 ReturnsInHanded {} Try.checked os 9 .any (Rows.vsaValidSpec.pre6 enc Try.prog Try.f9 Rows.vsaValidRow.domain false) (Rows.vsaValidSpec.post enc Try.prog Try.f9 false true false false):=by
 refine returnsInHanded_of_change (C:=Try.checked) vsaValid_own started (by kernel_rfl) Try.func9
  (ChangeSpec.witness6 (enc:=enc) (C:=Try.checked) false ⟨#[],#[.slice none 0 0,.int .u32 0],[]⟩ 8 (by kernel_rfl) (by kernel_rfl) (by kernel_rfl) (by kernel_rfl)) ?_
 intro W base args ds gs before hval0 hW hcnd _
 have hval:∀(j:Nat) t v,Try.f9.params[j]?=some t→args[j]?=some v→Value.okWide Try.prog W .any base t v:=hval0
 have hW':=hW
 obtain⟨p,q,hA0,hV,rfl,hfz,hnd⟩:=hW
 have hA:DataW.TrodAll enc Try.prog W 0 (fun _=>true) true Try.f9.params.toList args.toList ds p:=hA0
 have hA1:=hA
 obtain⟨rfl,rfl⟩:=trodVars_none hV
 rw [Try.params9]at hA hval
 obtain⟨v0,vs0,d0,ds0,p0,q0,hargs,hd0,hp0,h0,r0⟩:=trodAll_cons hA
 obtain⟨v1,vs1,d1,ds1,p1,q1,hv1,hd1,hp1,h1,r1⟩:=trodAll_cons r0
 obtain⟨hvn,hdn,hpn⟩:=trodAll_nil r1
 subst hdn hd1 hd0
 obtain rfl:args= #[v0,v1]:=by cases args;simp_all
 clear hargs hvn hv1
 obtain⟨A0,n0,c0,rfl,l0,r0⟩:=Qaj Qb 6 Try.underlying22 (by kernel_rfl) (by kernel_rfl) (hval 0 22 v0 rfl rfl) h0
 obtain⟨ri0,rb0,hrow0,hr0⟩:=Qcn (K:=Qb) (by decide) r0
 obtain⟨a1,rfl,_,_,w1⟩:=open_int Try.underlying23 (hval 1 23 v1 rfl rfl) h1
 simp only [List.append_nil]at hW'
 refine(vsaValid_walk A0 n0 c0 l0 ri0 rb0 hr0 a1 (VW w1) W hrow0).mono fun e W' hr=>?_
 obtain⟨rfl,hb⟩:=hr
 exact⟨_,rfl,JP (pa:=p) (pv:= []) hW' (fun _ _ _=>(trodAll_cons_mk (shut_bool Try.underlying4 _) trodAll_mk0)) (fun sp hsp=>Jl KV hb _ _ _ _ (by kernel_rfl) hA1 (fun x hx=>hW'.lt x hx) hsp) (fun _ _=>rfl) (by simp)
  hb (ok_one (by kernel_rfl) rfl (okWide_bool_mk Try.underlying4 _))⟩
theorem vsaValid_over:Rows.vsaValidRow.holds Try.pinned (OpenSpec.ofChange Rows.vsaValidSpec):=
 OpenClaim.holds_of_wide 9 Try.f9 rfl rfl rfl rfl rfl rfl rfl ⟨rfl,rfl,rfl,rfl,rfl⟩ rfl rfl rfl rfl rfl (by kernel_rfl) Try.func9 (by kernel_rfl)
  (of_decide_eq_true (by kernel_rfl)) (by unfold Func.isWrapper;first|(rw [if_pos (by decide+kernel)];kernel_rfl)|(rw [if_neg (by decide+kernel)];exact⟨rfl,rfl⟩))
  (fun os started H enc _=>vsaValid_lifted os started H enc)
theorem vsaValid_proved:Rows.VsaValidSaid:=vsaValid_over
end Go.Proofs.Yteplnamfpodmlaa
