/-
  Part of the proof.
-/
import Derived.Test.YteplnamfpodmlaaQLz
import Derived.Test.YteplnamfpodmlaaQLy
set_option linter.unusedVariables false
set_option linter.unusedSimpArgs false
set_option maxRecDepth 100000
open Go.ChangeShapes Go.WideShapes Go.ChangeAt Go.RowKit
namespace Go.Proofs.Yteplnamfpodmlaa.T2
theorem do2{e:Env}{x y:SX}{k:IntKind}:((SX.o .sub k x y).den e).1=k.wrap ((x.den e).1 - (y.den e).1):=rfl
def QkA:Kon Try.prog:=Qe2 QcU fun ads w hf=>by
 obtain⟨d1,_,rfl,f1,hf⟩:=Qf hf
 obtain rfl:=Qn hf
 trivial
def QsM:List Sg:= [⟨13,[.sl Qb,.l (some .u32),.l (some .i64)],.se stK (some .i64),false,false⟩,⟨35,[.sl Qb,.l (some .u32)],.b (.l (some .i64)),true,false⟩,⟨16,[.sl Qb,.sl stK,.l (some .u32)],.b (.tp [.inr stK,.inl none]),true,false⟩,⟨26,[.a Qu,.a stK],.b (.l none),true,false⟩,⟨25,[.a Qb],.b (.l none),true,true⟩,⟨44,[.a Qb],.b (.l (some .u32)),true,true⟩,⟨30,[.l (some .u32),.l (some .u32)],.b (.tp [.inl (some .u32),.inr Ky]),true,false⟩,⟨31,[.a Qb,.a Qu],.b (.l (some .u32)),true,false⟩,⟨32,[.l (some .i64),.a Ky],.b (.l none),true,true⟩,⟨27,[.a Qb,.a Qu,.l (some .u32)],.b (.a Qu),true,false⟩,⟨12,[],.b (.l none),true,true⟩]
def QmN:List PX:= [.l (.sl 0 (.v 3 0)),.l (.n .u32 (.v 1 0)),.l (.sl 2 (.v 5 0))]
def QpZ:List Rw:= [⟨0,Qb,(.v 3 0)⟩,⟨2,[some .u32],(.v 5 0)⟩]
def QpX:Cfg:=⟨6,QsM,[⟨10,9,0,[.num (.s 11) (some .i64),.num (.s 10) (some .u32),.num (.c 9 0) (some .u32),.num (.c 9 1) (some .u32),.num (.c 9 2) (some .u32),.num (.c 9 3) (some .u32),.num (.c 9 4) (some .u32),.num (.c 9 5) (some .u32),.num (.c 9 6) (some .u32),.num (.c 9 7) (some .u32),.num (.c 9 8) none,.num (.c 9 9) none,.num (.c 9 10) none,.num (.c 9 11) none,.row (.c 9 12) [some .u32]],11,.inr (.i 61),true⟩],[11,34,36],[]⟩
def QsK:List Lf:=
 let z0:List Cd:= [.c (.c .geq (.v 3 0) (.i 0)) true]
 let z1:Cd:= .f 70 0 [(.l (.sl 0 (.v 3 0)),0),(.l (.n .u32 (.v 1 0)),0),(.l (.n .i64 (.i 400)),0)]
 let z2:Cd:= .f 744 1 [(.l (.sl 0 (.v 3 0)),0),(.l (.n .u32 (.v 718 1)),0)]
 let z3:Cd:= .c (.c .lss (.v 718 0) (.v 5 0)) true
 let z4:Cd:= .g 718 1 0
 let z5:SX:= .v 718 14
 let z6:Cd:= .f 824 3 [(.a (Qa 718 2 Qu),0),(.a (Qa 772 0 stK),0)]
 let z7:Cd:= .f 772 2 [(.l (.sl 0 (.v 3 0)),0),(.l (.sl 71 (.v 70 0)),71),(.l (.n .u32 (.v 718 1)),0)]
 let z8:Cd:= .c (.c .lss (.v 744 0) (.i 0)) false
 let z9:PX:= .a (rxL 0 9 (.v 744 0) 0 Qb)
 let z10:Cd:= .f 852 4 [(z9,0)]
 let z11:Cd:= .c (.c .lss (.v 744 0) (.v 3 0)) true
 let z12:Cd:= .f 956 5 [(z9,0)]
 let z13:Cd:= .c (.c .geq (.v 718 0) (.i 0)) true
 let z14:SX:= .r 0 9 2 (.v 744 0)
 let z15:Cd:= .c (.c .eql z14 (.i 23)) false
 let z16:Cd:= .c (.c .eql z14 (.i 20)) false
 let z17:Cd:= .c (.c .eql z14 (.i 15)) false
 let z18:List Cd:=(.c (.c .neq (.v 70 1) (.i 0)) false :: .c (.v 852 0) true :: .c (.v 824 0) true :: .c (.v 772 40) true :: .c (.c .gtr (.v 5 0) (.i 60)) false :: .c (.c .geq (.v 5 0) (.i 0)) true :: .c (.c .leq (.v 3 0) (.i 16)) true :: z0)
 let z19:List LX:= [.n .u32 (.v 1020 0),.n .u32 (.v 1020 1),.n .u32 (.v 1020 2),.n .u32 (.v 1020 3),.n .u32 (.v 1020 4),.n .u32 (.v 1020 5),.n .u32 (.v 1020 6),.n .u32 (.v 1020 7),.t (.v 718 10),.t (.v 718 11),.t (.v 718 12),.t (.v 718 13),.sl 719 z5]
 let z20:List Bk:= [⟨71,.row stK (.v 70 0) 71⟩,⟨126,.cells 74 ((Qa 718 2 [some .u32,some .u32,some .u32,some .u32,some .u32,some .u32,some .u32,some .u32,none,none,none,none] ++ [.sl 719 (.v 718 14)]))⟩,⟨719,.row [some .u32] z5 719⟩,⟨788,.cells 37 (Qa 772 0 stK)⟩,⟨916,.cells 74 ((Qa 718 2 [some .u32,some .u32,some .u32,some .u32,some .u32,some .u32,some .u32,some .u32,none,none,none,none] ++ [.sl 719 (.v 718 14)]))⟩,⟨932,.cells 39 ((rxL 0 9 (.v 744 0) 0 Qb))⟩,⟨936,.cells 74 ((Qa 718 2 [some .u32,some .u32,some .u32,some .u32,some .u32,some .u32,some .u32,some .u32,none,none,none,none] ++ [.sl 719 (.v 718 14)]))⟩,⟨940,.cells 74 ((Qa 718 2 [some .u32,some .u32,some .u32,some .u32,some .u32,some .u32,some .u32,some .u32,none,none,none,none] ++ [.sl 719 (.v 718 14)]))⟩]
 [⟨(.f 62 10 [] :: .c (.an (.c .leq (.v 3 0) (.i 16)) (.no (.c .gtr (.v 5 0) (.i 60)))) false :: z0),.v (.l (.t (.v 62 0))),[]⟩,⟨(.f 118 10 [] :: .c (.c .geq (.v 70 0) (.i 0)) true :: .c (.c .neq (.v 70 1) (.i 0)) true :: z1 :: .c (.c .leq (.v 3 0) (.i 16)) true :: .c (.c .gtr (.v 5 0) (.i 60)) false :: z0),.v (.l (.t (.an (.c .eql (.v 70 0) (.i 0)) (.v 118 0)))),[⟨71,.row stK (.v 70 0) 71⟩]⟩,⟨(.f 760 10 [] :: .c (.c .lss (.v 744 0) (.i 0)) true :: z2 :: z3 :: z4 :: .c (.c .geq (.v 5 0) (.i 0)) true :: .c (.c .neq (.v 70 1) (.i 0)) false :: z1 :: .c (.c .leq (.v 3 0) (.i 16)) true :: .c (.c .gtr (.v 5 0) (.i 60)) false :: z0),.v (.l (.t (.v 760 0))),[⟨71,.row stK (.v 70 0) 71⟩,⟨126,.cells 74 ((Qa 718 2 [some .u32,some .u32,some .u32,some .u32,some .u32,some .u32,some .u32,some .u32,none,none,none,none] ++ [.sl 719 (.v 718 14)]))⟩,⟨719,.row [some .u32] z5 719⟩]⟩,⟨(.c (.an (.v 772 40) (.v 824 0)) false :: z6 :: z7 :: z8 :: z2 :: z3 :: z4 :: .c (.c .geq (.v 5 0) (.i 0)) true :: .c (.c .neq (.v 70 1) (.i 0)) false :: z1 :: .c (.c .leq (.v 3 0) (.i 16)) true :: .c (.c .gtr (.v 5 0) (.i 60)) false :: z0),.v (.l (.t (.b false))),[⟨71,.row stK (.v 70 0) 71⟩,⟨126,.cells 74 ((Qa 718 2 [some .u32,some .u32,some .u32,some .u32,some .u32,some .u32,some .u32,some .u32,none,none,none,none] ++ [.sl 719 (.v 718 14)]))⟩,⟨719,.row [some .u32] z5 719⟩,⟨788,.cells 37 (Qa 772 0 stK)⟩]⟩,⟨(.f 860 10 [] :: .c (.v 852 0) false :: z10 :: z11 :: .c (.v 772 40) true :: .c (.v 824 0) true :: z6 :: z7 :: z8 :: z2 :: z3 :: z4 :: .c (.c .geq (.v 5 0) (.i 0)) true :: .c (.c .neq (.v 70 1) (.i 0)) false :: z1 :: .c (.c .leq (.v 3 0) (.i 16)) true :: .c (.c .gtr (.v 5 0) (.i 60)) false :: z0),.v (.l (.t (.v 860 0))),[⟨71,.row stK (.v 70 0) 71⟩,⟨126,.cells 74 ((Qa 718 2 [some .u32,some .u32,some .u32,some .u32,some .u32,some .u32,some .u32,some .u32,none,none,none,none] ++ [.sl 719 (.v 718 14)]))⟩,⟨719,.row [some .u32] z5 719⟩,⟨788,.cells 37 (Qa 772 0 stK)⟩]⟩,⟨(.f 1084 10 [] :: .f 1020 9 [(z9,0),(.a (Qa 718 2 Qu),0),(.l (.n .u32 (.r 2 1 0 (.v 718 0))),0)] :: z12 :: z10 :: z6 :: z7 :: z2 :: z4 :: z1 :: z11 :: z8 :: z3 :: .c (.c .geq z5 (.i 0)) true :: z13 :: z15 :: z16 :: z17 :: .c (.c .eql z14 (.i 2)) true :: .c (.c .lss (.o .sub .i64 z5 (.i 1)) (.i 0)) true :: z18),.v (.l (.t (.v 1084 0))),[⟨71,.row stK (.v 70 0) 71⟩,⟨126,.cells 74 ((Qa 718 2 [some .u32,some .u32,some .u32,some .u32,some .u32,some .u32,some .u32,some .u32,none,none,none,none] ++ [.sl 719 (.v 718 14)]))⟩,⟨719,.row [some .u32] z5 719⟩,⟨788,.cells 37 (Qa 772 0 stK)⟩,⟨916,.cells 74 z19⟩,⟨932,.cells 39 ((rxL 0 9 (.v 744 0) 0 Qb))⟩,⟨936,.cells 74 z19⟩,⟨940,.cells 74 z19⟩]⟩,⟨(.f 1036 10 [] :: z12 :: z10 :: z6 :: z7 :: z2 :: z4 :: z1 :: z11 :: z8 :: z3 :: z13 :: z15 :: z16 :: z17 :: .c (.c .eql z14 (.i 2)) false :: .c (.c .eql z14 (.i 1)) true :: z18),.v (.l (.t (.v 1036 0))),z20⟩,⟨(.f 1044 10 [] :: z12 :: z10 :: z6 :: z7 :: z2 :: z4 :: z1 :: z11 :: z8 :: z3 :: z13 :: z15 :: .c (.c .eql z14 (.i 21)) true :: z16 :: z17 :: .c (.c .eql z14 (.i 2)) false :: .c (.c .eql z14 (.i 1)) false :: z18),.v (.l (.t (.v 1044 0))),z20⟩,⟨(.f 1052 10 [] :: z12 :: z10 :: z6 :: z7 :: z2 :: z4 :: z1 :: z11 :: z8 :: z3 :: z13 :: z15 :: .c (.c .eql z14 (.i 22)) true :: .c (.c .eql z14 (.i 21)) false :: z16 :: z17 :: .c (.c .eql z14 (.i 2)) false :: .c (.c .eql z14 (.i 1)) false :: z18),.v (.l (.t (.v 1052 0))),z20⟩,⟨(.f 1060 10 [] :: z12 :: z10 :: z6 :: z7 :: z2 :: z4 :: z1 :: z11 :: z8 :: z3 :: z13 :: .c (.c .eql z14 (.i 24)) true :: z15 :: .c (.c .eql z14 (.i 22)) false :: .c (.c .eql z14 (.i 21)) false :: z16 :: z17 :: .c (.c .eql z14 (.i 2)) false :: .c (.c .eql z14 (.i 1)) false :: z18),.v (.l (.t (.v 1060 0))),z20⟩,⟨(.f 736 10 [] :: .c (.c .lss (.v 718 0) (.v 5 0)) false :: z4 :: .c (.c .geq (.v 5 0) (.i 0)) true :: .c (.c .neq (.v 70 1) (.i 0)) false :: z1 :: .c (.c .leq (.v 3 0) (.i 16)) true :: .c (.c .gtr (.v 5 0) (.i 60)) false :: z0),.v (.l (.t (.v 736 0))),[⟨71,.row stK (.v 70 0) 71⟩,⟨126,.cells 74 ((Qa 718 2 [some .u32,some .u32,some .u32,some .u32,some .u32,some .u32,some .u32,some .u32,none,none,none,none] ++ [.sl 719 (.v 718 14)]))⟩,⟨719,.row [some .u32] z5 719⟩]⟩]
def QsL:List Ob:=
 let z0:SX:= .c .geq (.v 5 0) (.i 0)
 let z1:PX:= .l (.sl 0 (.v 3 0))
 let z2:Cd:= .f 70 0 [(z1,0),(.l (.n .u32 (.v 1 0)),0),(.l (.n .i64 (.i 400)),0)]
 let z3:Cd:= .c (.c .neq (.v 70 1) (.i 0)) false
 let z4:SX:= .cv .u32 (.v 5 0)
 let z5:LX:= .t (.b false)
 let z6:Cd:= .c (.c .lss (.v 718 0) (.v 5 0)) true
 let z7:Cd:= .g 718 1 0
 let z8:PX:= .l (.n .u32 (.v 718 1))
 let z9:Cd:= .c (.c .lss (.v 744 0) (.i 0)) false
 let z10:Cd:= .f 744 1 [(z1,0),(z8,0)]
 let z11:Cd:= .f 772 2 [(z1,0),(.l (.sl 71 (.v 70 0)),71),(z8,0)]
 let z12:PX:= .a (Qa 718 2 Qu)
 let z13:Cd:= .f 824 3 [(z12,0),(.a (Qa 772 0 stK),0)]
 let z14:PX:= .a (rxL 0 9 (.v 744 0) 0 Qb)
 let z15:Cd:= .f 852 4 [(z14,0)]
 let z16:Cd:= .c (.c .lss (.v 744 0) (.v 3 0)) true
 let z17:List Cd:= [.c (.v 852 0) true,.c (.v 824 0) true,.c (.v 772 40) true,.c (.c .gtr (.v 5 0) (.i 60)) false,.c z0 true,.c (.c .leq (.v 3 0) (.i 16)) true,.c (.c .geq (.v 3 0) (.i 0)) true]
 let z18:List Cd:=(z3 :: z17)
 let z19:Cd:= .f 956 5 [(z14,0)]
 let z20:Cd:= .c (.c .geq (.v 718 0) (.i 0)) true
 let z21:SX:= .r 0 9 2 (.v 744 0)
 let z22:List Cd:=(z19 :: z15 :: z13 :: z11 :: z10 :: z7 :: z2 :: z16 :: z9 :: z6 :: z20 :: .c (.c .eql z21 (.i 15)) true :: z18)
 let z23:SX:= .c .geq (.r 0 9 6 (.v 744 0)) (.i 0)
 let z24:SX:= .c .lss (.r 0 9 6 (.v 744 0)) (.i 8)
 let z25:Cd:= .c (.c .eql z21 (.i 20)) false
 let z26:Cd:= .c (.c .eql z21 (.i 15)) false
 let z27:SX:= .v 718 14
 let z28:Cd:= .c (.c .eql z21 (.i 23)) false
 let z29:SX:= .r 2 1 0 (.v 718 0)
 let z30:PX:= .l (.n .u32 z29)
 let z31:SX:= .o .sub .i64 z27 (.i 1)
 let z32:Cd:= .c (.c .geq z27 (.i 0)) true
 let z33:Cd:= .c (.c .eql z21 (.i 24)) false
 let z34:Cd:= .c (.c .eql z21 (.i 22)) false
 let z35:Cd:= .c (.c .eql z21 (.i 21)) false
 let z36:Cd:= .c (.c .eql z21 (.i 1)) false
 let z37:Cd:= .c (.c .eql z21 (.i 2)) false
 let z38:List Cd:=(.f 1016 6 [(.l (.n .u32 (.r 718 1 2 (.r 0 9 6 (.v 744 0)))),0),(.l (.n .u32 (.v 1012 0)),0)] :: .f 1012 7 [(z14,0),(z12,0)] :: z19 :: z15 :: z13 :: z11 :: z10 :: z7 :: z2 :: z16 :: z9 :: z6 :: z20 :: .c (.c .eql z21 (.i 15)) true :: .c z24 true :: .c z23 true :: z18)
 let z39:LX:= .n .i64 (.o .add .i64 (.v 718 0) (.i 1))
 let z40:LX:= .n .u32 (.v 956 0)
 let z41:SX:= .c .lss (.v 718 0) (.o .add .i64 (.v 718 0) (.i 1))
 let z42:SX:= .c .lss (.v 718 0) (.i 61)
 let z43:List Cd:=(.f 1004 8 [(.l (.n .i64 (.r 0 9 5 (.v 744 0))),0),(.a (Qa 718 10 Ky),0)] :: z19 :: z15 :: z13 :: z11 :: z10 :: z7 :: z2 :: z16 :: z9 :: z6 :: z20 :: .c (.c .eql z21 (.i 20)) true :: z26 :: z3 :: .c (.v 1004 0) true :: z17)
 let z44:List Cd:=(.f 1004 8 [(.l (.n .i64 (.r 0 9 5 (.v 744 0))),0),(.a (Qa 718 10 Ky),0)] :: z19 :: z15 :: z13 :: z11 :: z10 :: z7 :: z2 :: z16 :: z9 :: z6 :: z20 :: .c (.c .eql z21 (.i 20)) true :: z26 :: z3 :: .c (.v 1004 0) false :: z17)
 let z45:List Cd:=(.u 1048 (some 719) z27 1 0 [z40] :: z19 :: z15 :: z13 :: z11 :: z10 :: z7 :: z2 :: .c (.c .leq z27 (.i 1000000)) true :: z16 :: z9 :: z6 :: z32 :: z20 :: .c (.c .eql z21 (.i 23)) true :: z25 :: z26 :: z18)
 let z46:List Cd:=(.f 1020 9 [(z14,0),(z12,0),(z30,0)] :: z19 :: z15 :: z13 :: z11 :: z10 :: z7 :: z2 :: .c (.c .leq z31 z27) true :: .c (.c .lss z31 z27) true :: z16 :: z9 :: z6 :: z32 :: z20 :: z28 :: z25 :: z26 :: .c (.c .eql z21 (.i 2)) true :: .c (.c .lss z31 (.i 0)) false :: z18)
 let z47:List Cd:=(.f 1144 9 [(z14,0),(z12,0),(z30,0)] :: z19 :: z15 :: z13 :: z11 :: z10 :: z7 :: z2 :: z16 :: z9 :: z6 :: z20 :: z33 :: z28 :: z34 :: z35 :: z25 :: z26 :: .c (.c .leq z21 (.i 14)) true :: .c (.c .geq z21 (.i 6)) true :: z37 :: z36 :: z18)
 let z48:List Cd:=(.f 1084 9 [(z14,0),(z12,0),(z30,0)] :: z19 :: z15 :: z13 :: z11 :: z10 :: z7 :: z2 :: z16 :: z9 :: z6 :: z20 :: z33 :: z28 :: z34 :: z35 :: z25 :: z26 :: z37 :: z36 :: .c (.an (.c .geq z21 (.i 6)) (.c .leq z21 (.i 14))) false :: z18)
 [.cl [] (.c .geq (.v 3 0) (.i 0)),.cl [.c (.c .leq (.v 3 0) (.i 16)) true,.c (.c .geq (.v 3 0) (.i 0)) true] z0,.pre [.c (.c .leq (.v 3 0) (.i 16)) true,.c (.c .gtr (.v 5 0) (.i 60)) false,.c (.c .geq (.v 3 0) (.i 0)) true] 0 [(z1,0),(.l (.n .u32 (.v 1 0)),0),(.l (.n .i64 (.i 400)),0)],.cl [.c (.c .neq (.v 70 1) (.i 0)) true,z2,.c (.c .leq (.v 3 0) (.i 16)) true,.c (.c .gtr (.v 5 0) (.i 60)) false,.c (.c .geq (.v 3 0) (.i 0)) true] (.c .geq (.v 70 0) (.i 0)),.cl [z3,z2,.c (.c .leq (.v 3 0) (.i 16)) true,.c (.c .gtr (.v 5 0) (.i 60)) false,.c (.c .geq (.v 3 0) (.i 0)) true] z0,.inv [.c z0 true,z3,z2,.c (.c .leq (.v 3 0) (.i 16)) true,.c (.c .gtr (.v 5 0) (.i 60)) false,.c (.c .geq (.v 3 0) (.i 0)) true] 0 718 [.n .i64 (.i 0),.n .u32 (.v 1 0),.n .u32 (.o .add .u32 (.o .mul .u32 z4 (.i 1)) (.i 0)),.n .u32 (.o .add .u32 (.o .mul .u32 z4 (.i 3)) (.i 1)),.n .u32 (.o .add .u32 (.o .mul .u32 z4 (.i 5)) (.i 2)),.n .u32 (.o .add .u32 (.o .mul .u32 z4 (.i 7)) (.i 3)),.n .u32 (.o .add .u32 (.o .mul .u32 z4 (.i 9)) (.i 4)),.n .u32 (.o .add .u32 (.o .mul .u32 z4 (.i 11)) (.i 5)),.n .u32 (.o .add .u32 (.o .mul .u32 z4 (.i 13)) (.i 6)),.n .u32 (.o .add .u32 (.o .mul .u32 z4 (.i 15)) (.i 7)),z5,z5,z5,z5,.n .i64 (.i 0)] [none],.pre [z6,z7,.c z0 true,z3,z2,.c (.c .leq (.v 3 0) (.i 16)) true,.c (.c .gtr (.v 5 0) (.i 60)) false,.c (.c .geq (.v 3 0) (.i 0)) true] 1 [(z1,0),(z8,0)],.pre [z9,z10,z6,z7,.c z0 true,z3,z2,.c (.c .leq (.v 3 0) (.i 16)) true,.c (.c .gtr (.v 5 0) (.i 60)) false,.c (.c .geq (.v 3 0) (.i 0)) true] 2 [(z1,0),(.l (.sl 71 (.v 70 0)),71),(z8,0)],.pre [.c (.v 772 40) true,z11,z9,z10,z6,z7,.c z0 true,z3,z2,.c (.c .leq (.v 3 0) (.i 16)) true,.c (.c .gtr (.v 5 0) (.i 60)) false,.c (.c .geq (.v 3 0) (.i 0)) true] 3 [(z12,0),(.a (Qa 772 0 stK),0)],.cl [.c (.v 772 40) true,.c (.v 824 0) true,z13,z11,z9,z10,z6,z7,.c z0 true,z3,z2,.c (.c .leq (.v 3 0) (.i 16)) true,.c (.c .gtr (.v 5 0) (.i 60)) false,.c (.c .geq (.v 3 0) (.i 0)) true] (.c .lss (.v 744 0) (.v 3 0)),.cl (z15 :: z13 :: z11 :: z10 :: z7 :: z2 :: z16 :: z9 :: z6 :: z18) (.c .geq (.v 718 0) (.i 0)),.pre z22 7 [(z14,0),(z12,0)],.cl z22 z23,.cl z22 z24,.cl (.f 1012 7 [(z14,0),(z12,0)] :: z22) z23,.cl (.f 1012 7 [(z14,0),(z12,0)] :: z22) z24,.pre (z19 :: z15 :: z13 :: z11 :: z10 :: z7 :: z2 :: z16 :: z9 :: z6 :: z20 :: .c (.c .eql z21 (.i 15)) true :: .c z24 true :: .c z23 true :: z18) 7 [(z14,0),(z12,0)],.pre (.f 1012 7 [(z14,0),(z12,0)] :: z19 :: z15 :: z13 :: z11 :: z10 :: z7 :: z2 :: z16 :: z9 :: z6 :: z20 :: .c (.c .eql z21 (.i 15)) true :: .c z24 true :: .c z23 true :: z18) 6 [(.l (.n .u32 (.r 718 1 2 (.r 0 9 6 (.v 744 0)))),0),(.l (.n .u32 (.v 1012 0)),0)],.cl (.c (.c .eql z21 (.i 23)) true :: z25 :: z26 :: z19 :: z15 :: z13 :: z11 :: z10 :: z7 :: z2 :: z16 :: z9 :: z6 :: z20 :: z18) (.c .geq z27 (.i 0)),.cl (.c (.c .eql z21 (.i 23)) true :: z25 :: z26 :: z19 :: z15 :: z13 :: z11 :: z10 :: z7 :: z2 :: z16 :: z9 :: z6 :: z20 :: z18) (.c .leq z27 (.i 1000000)),.pre (.c (.c .eql z21 (.i 2)) true :: z28 :: z25 :: z26 :: z19 :: z15 :: z13 :: z11 :: z10 :: z7 :: z2 :: z16 :: z9 :: z6 :: z20 :: z18) 9 [(z14,0),(z12,0),(z30,0)],.cl (.f 1020 9 [(z14,0),(z12,0),(z30,0)] :: .c (.c .eql z21 (.i 2)) true :: z28 :: z25 :: z26 :: z19 :: z15 :: z13 :: z11 :: z10 :: z7 :: z2 :: z16 :: z9 :: z6 :: z20 :: z18) (.c .geq z27 (.i 0)),.cl (.c (.c .lss z31 (.i 0)) false :: z32 :: .f 1020 9 [(z14,0),(z12,0),(z30,0)] :: .c (.c .eql z21 (.i 2)) true :: z28 :: z25 :: z26 :: z19 :: z15 :: z13 :: z11 :: z10 :: z7 :: z2 :: z16 :: z9 :: z6 :: z20 :: z18) (.c .lss z31 z27),.cl (.c (.c .lss z31 z27) true :: .c (.c .lss z31 (.i 0)) false :: z32 :: .f 1020 9 [(z14,0),(z12,0),(z30,0)] :: .c (.c .eql z21 (.i 2)) true :: z28 :: z25 :: z26 :: z19 :: z15 :: z13 :: z11 :: z10 :: z7 :: z2 :: z16 :: z9 :: z6 :: z20 :: z18) (.c .leq z31 z27),.pre (.c (.c .geq z21 (.i 6)) true :: .c (.c .leq z21 (.i 14)) true :: z33 :: z34 :: z35 :: z36 :: z37 :: z28 :: z25 :: z26 :: z19 :: z15 :: z13 :: z11 :: z10 :: z7 :: z2 :: z16 :: z9 :: z6 :: z20 :: z18) 9 [(z14,0),(z12,0),(z30,0)],.pre (.c (.an (.c .geq z21 (.i 6)) (.c .leq z21 (.i 14))) false :: z33 :: z34 :: z35 :: z36 :: z37 :: z28 :: z25 :: z26 :: z19 :: z15 :: z13 :: z11 :: z10 :: z7 :: z2 :: z16 :: z9 :: z6 :: z20 :: z18) 9 [(z14,0),(z12,0),(z30,0)],.inv z38 0 718 [z39,z40,.n .u32 (.v 718 2),.n .u32 (.v 718 3),.n .u32 (.v 718 4),.n .u32 (.v 718 5),.n .u32 (.v 718 6),.n .u32 (.v 718 7),.n .u32 (.v 718 8),.n .u32 (.v 718 9),.t (.v 1016 1),.t (.v 1016 2),.t (.v 1016 3),.t (.v 1016 4),.n .i64 z27] [some (719,719)],.cl z38 z41,.cl z38 z42,.inv z43 0 718 [z39,.n .u32 (.r 0 9 1 (.v 744 0)),.n .u32 (.v 718 2),.n .u32 (.v 718 3),.n .u32 (.v 718 4),.n .u32 (.v 718 5),.n .u32 (.v 718 6),.n .u32 (.v 718 7),.n .u32 (.v 718 8),.n .u32 (.v 718 9),.t (.v 718 10),.t (.v 718 11),.t (.v 718 12),.t (.v 718 13),.n .i64 z27] [some (719,719)],.cl z43 z41,.cl z43 z42,.inv z44 0 718 [z39,z40,.n .u32 (.v 718 2),.n .u32 (.v 718 3),.n .u32 (.v 718 4),.n .u32 (.v 718 5),.n .u32 (.v 718 6),.n .u32 (.v 718 7),.n .u32 (.v 718 8),.n .u32 (.v 718 9),.t (.v 718 10),.t (.v 718 11),.t (.v 718 12),.t (.v 718 13),.n .i64 z27] [some (719,719)],.cl z44 z41,.cl z44 z42,.inv z45 0 718 [z39,.n .u32 (.r 0 9 1 (.v 744 0)),.n .u32 (.v 718 2),.n .u32 (.v 718 3),.n .u32 (.v 718 4),.n .u32 (.v 718 5),.n .u32 (.v 718 6),.n .u32 (.v 718 7),.n .u32 (.v 718 8),.n .u32 (.o .sub .u32 (.v 718 9) (.i 4)),.t (.v 718 10),.t (.v 718 11),.t (.v 718 12),.t (.v 718 13),.n .i64 (.o .add .i64 z27 (.i 1))] [some (1048,1048)],.cl z45 z41,.cl z45 z42,.inv z46 0 718 [z39,.n .u32 (.r 719 1 0 z31),.n .u32 (.v 1020 0),.n .u32 (.v 1020 1),.n .u32 (.v 1020 2),.n .u32 (.v 1020 3),.n .u32 (.v 1020 4),.n .u32 (.v 1020 5),.n .u32 (.v 1020 6),.n .u32 (.v 1020 7),.t (.v 718 10),.t (.v 718 11),.t (.v 718 12),.t (.v 718 13),.n .i64 z31] [some (719,719)],.cl z46 z41,.cl z46 z42,.inv z47 0 718 [z39,z40,.n .u32 (.v 1144 0),.n .u32 (.v 1144 1),.n .u32 (.v 1144 2),.n .u32 (.v 1144 3),.n .u32 (.v 1144 4),.n .u32 (.v 1144 5),.n .u32 (.v 1144 6),.n .u32 (.v 1144 7),.t (.c .eql (.o .rem .u32 z29 (.i 2)) (.i 0)),.t (.c .eql (.o .rem .u32 z29 (.i 3)) (.i 0)),.t (.c .eql (.o .rem .u32 z29 (.i 5)) (.i 0)),.t (.c .eql (.o .rem .u32 z29 (.i 7)) (.i 0)),.n .i64 z27] [some (719,719)],.cl z47 z41,.cl z47 z42,.inv z48 0 718 [z39,z40,.n .u32 (.v 1084 0),.n .u32 (.v 1084 1),.n .u32 (.v 1084 2),.n .u32 (.v 1084 3),.n .u32 (.v 1084 4),.n .u32 (.v 1084 5),.n .u32 (.v 1084 6),.n .u32 (.v 1084 7),.t (.v 718 10),.t (.v 718 11),.t (.v 718 12),.t (.v 718 13),.n .i64 z27] [some (719,719)],.cl z48 z41,.cl z48 z42]
theorem QpY:QP Try.prog QpX 1000 4 10 Try.f10 QmN QpZ=some (QsK,QsL):=by kernel_rfl
def Wx:List (Kon Try.prog):= [Ja,QdC,YG,J5.kon,Yd,QkA,QdT.kon,Kj.kon,Qd9,QbW.kon,kEx]
theorem nl0:Wx[0]?=some Ja:=rfl
theorem nl1:Wx[1]?=some QdC:=rfl
theorem nl2:Wx[2]?=some YG:=rfl
theorem nl3:Wx[3]?=some J5.kon:=rfl
theorem nl4:Wx[4]?=some Yd:=rfl
theorem nl5:Wx[5]?=some QkA:=rfl
theorem nl6:Wx[6]?=some QdT.kon:=rfl
theorem nl7:Wx[7]?=some Kj.kon:=rfl
theorem nl8:Wx[8]?=some Qd9:=rfl
theorem nl9:Wx[9]?=some QbW.kon:=rfl
theorem Qvk:Wx[10]?=some kEx:=rfl
theorem Qr3{d1 d2 d3:AD}{m m':Nm}:Ja.post [d1,d2,d3] m m'↔ZZ (cxD d1 d2 d3) m m':=Iff.rfl
theorem Qr4{d1 d2:AD}{m m':Nm}:QdC.post [d1,d2] m m'↔(m.int=fun _=>Q1 (Qe d1.int) (J6 d1.val) (Q8 d2))∧m.bool=fun _=>false:=Iff.rfl
theorem Qr5{d1 d2 d3:AD}{m m':Nm}:YG.post [d1,d2,d3] m m'↔(m.int=Ys (Kq (Qe d1.int) (J6 d1.val) (J6 d2.val) (Q8 d3)) d2.int)∧(m.bool=Yr (Kq (Qe d1.int) (J6 d1.val) (J6 d2.val) (Q8 d3)) d2.bool):=Iff.rfl
theorem Qr6{d1 d2:AD}{m m':Nm}:J5.kon.post [d1,d2] m m'↔(m.int=fun _=>0)∧(m.bool=fun _=>inB (Xh d1) (stD d2)):=Iff.rfl
theorem Qr7{d:AD}{m m':Nm}:Yd.post [d] m m'↔(m.int=fun _=>0)∧(m.bool=fun _=>Qj (Q0 d)):=Iff.rfl
theorem Qr8{d:AD}{m m':Nm}:QkA.post [d] m m'↔(m.int=fun _=>ZY (Q0 d))∧(m.bool=fun _=>false):=Iff.rfl
theorem Qr9{d1 d2:AD}{m m':Nm}:QdT.kon.post [d1,d2] m m'↔(m.int=fun _=>(Q8 d1 - Q8 d2) % 4294967296)∧(m.bool=fun j=>if j=1 then QaV (Q8 d1) (Q8 d2)else if j=2 then Go.Proofs.Yteplnamfpodmlaa.subN (Q8 d1) (Q8 d2)else if j=3 then Qe6 (Q8 d1) (Q8 d2)else subV (Q8 d1) (Q8 d2)):=Iff.rfl
theorem QrA{d1 d2:AD}{m m':Nm}:Kj.kon.post [d1,d2] m m'↔(m.int=fun _=>Kc (Q0 d1) (Xh d2))∧(m.bool=fun _=>false):=Iff.rfl
theorem QrB{d1 d2:AD}{m m':Nm}:Qd9.post [d1,d2] m m'↔(m.int=fun _=>0)∧(m.bool=fun _=>KI (Q8 d1) (flD d2 0) (flD d2 1) (flD d2 2) (flD d2 3)):=Iff.rfl
theorem QrC{d1 d2 d3:AD}{m m':Nm}:QbW.kon.post [d1,d2,d3] m m'↔m.int=ZG (Q0 d1) (Xh d2) (Q8 d3)∧(m.bool=fun _=>false):=Iff.rfl
theorem QnC{m m':Nm}:kEx.post [] m m'↔(m.int=fun _=>0)∧(m.bool=fun _=>true):=Iff.rfl
theorem V3.of{I:Nat→Ins}{N f:Nat}{b:Nat→Nat→Qd}{n a n' a' L L':Int}{x x' st st':Nat→Int}{z m c v z' m' c' v':Bool}(H:V3 I N f b n a x z m c v L st)(h1:n'=n)(h2:a'=a)(h3:x'=x)(h4:z'=z)(h5:m'=m)(h6:c'=c)(h7:v'=v)(h8:L'=L)(h9:st'=st):V3 I N f b n' a' x' z' m' c' v' L' st':=by
 subst h1 h2 h3 h4 h5 h6 h7 h8 h9
 exact H
structure SI(I:Nat→Ins)(N:Nat)(en:Int)(h st m m':Nm):Prop where
 n0:0≤h.int 0
 n1:h.int 0≤60
 mN:m.int 0=(N:Int)
 ex:∃f b,Qv I en N=some f∧Qeu I N f b∧BIs m' N b∧Qap b∧V3 I N f b (h.int 0) (h.int 1) (X5 h.int 2) (h.bool 10) (h.bool 11) (h.bool 12) (h.bool 13) (h.int 14) st.int
theorem Wa{e:Env}{d c N t:Nat}{b:Nat→Nat→Qd}{m:Nm}(hi:e.int d=Ys (some t) m.int)(hb:e.bool d=Yr (some t) m.bool)(hB:BIs m N b)(ht:t < N)(hcut:Qap b):stD (PX.dat e c (.a (Qa d 0 stK)))=b t:=by
 rw [Qll]
 funext r
 unfold ZN
 split
 ·rename_i h
  show Zg e d (5 * r)=b t r
  rw [Qq8 hi hb r h]
  exact hB t ht r h
 ·exact(hcut t r (by omega)).symm
theorem QkY{a b:Nat→Int}{o p:Nat}(h0:a (o+0)=b (p+0))(h1:a (o+1)=b (p+1))(h2:a (o+2)=b (p+2))(h3:a (o+3)=b (p+3))(h4:a (o+4)=b (p+4))(h5:a (o+5)=b (p+5))(h6:a (o+6)=b (p+6))(h7:a (o+7)=b (p+7)):X5 a o=X5 b p:=
 QkX fun k hk=>match k,hk with
  |0,_=>h0
  |1,_=>h1
  |2,_=>h2
  |3,_=>h3
  |4,_=>h4
  |5,_=>h5
  |6,_=>h6
  |7,_=>h7
theorem Qck{a:Nat→Int}{o r:Nat}(h:8≤r):X5 a o r=0:=if_neg (by omega)
theorem YP{a:Nat→Int}{o r:Nat}(h:r < 8):X5 a o r=a (o+r):=if_pos h
end Go.Proofs.Yteplnamfpodmlaa.T2
