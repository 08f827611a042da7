/-
  Part of the proof.
-/
import Derived.Test.YteplnamfpodmlaaRA6
set_option linter.unusedVariables false
set_option linter.unusedSimpArgs false
set_option maxRecDepth 100000
open Go.ChangeShapes Go.WideShapes Go.ChangeAt Go.RowKit
namespace Go.Proofs.Yteplnamfpodmlaa.T2
def Qtr:Ins:=⟨0,0,0,0,0,0,0,0,0⟩
theorem Qn6:Qtr.wf:=by unfold Qtr Ins.wf Q5 Yx;decide
def Ql(int:Nat→Int)(n:Nat):Nat→Ins:=fun k=>if k < n then Qe int k else Qtr
def cxD(d1 d2 d3:AD):Cx:=⟨Ql d1.int (J6 d1.val),J6 d1.val,Q8 d2,Q8 d3⟩
def Ja:Kon Try.prog where
 sg:=⟨13,[.sl Qb,.l (some .u32),.l (some .i64)],.se stK (some .i64),false,false⟩
 pre ads:=match ads with| [d1,d2,d3]=>(∀k,k < J6 d1.val→(Qe d1.int k).wf)∧0≤Q8 d2∧Q8 d3≤9223372036854775807|_=>False
 post ads m m':=match ads with| [d1,d2,d3]=>ZZ (cxD d1 d2 d3) m m'|_=>True
 body:=⟨_,Try.func13,by kernel_rfl,by kernel_rfl⟩
 free h:=by cases h
 flat h:=by cases h
 total h:=by cases h
 same h:=by cases h
 sound ads w hf hp:=by
  obtain⟨d1,_,rfl,f1,hf⟩:=Qf hf
  obtain⟨d2,_,rfl,f2,hf⟩:=Qf hf
  obtain⟨d3,_,rfl,f3,hf⟩:=Qf hf
  obtain rfl:=Qn hf
  obtain⟨g1,g2⟩:=Wj f1
  obtain⟨p1,p2,p3⟩:=hp
  show Calls _ _ #[d1.val,d2.val,d3.val] w _
  rw [g1,QH f2,QH f3]
  refine Qhg (cxD d1 d2 d3) ⟨fun k=>?_,p3,p2⟩ _ _ d1.int d1.bool (fun k hk=>?_) w g2
  ·show(Ql _ _ k).wf
   unfold Ql
   split
   ·exact p1 k (by assumption)
   ·exact Qn6
  ·exact(if_pos hk).symm
def QuW:List Sg:= [⟨28,[.l (some .i64),.a Qb,.a stK,.l none],.b (.a stK),true,false⟩,⟨18,[.a Qb,.a stK],.b (.a stK),true,false⟩,⟨13,[.sl Qb,.l (some .u32),.l (some .i64)],.se stK (some .i64),false,false⟩]
def QsD:List PX:= []
def QtI:List Rw:= []
def QtG:Cfg:=⟨0,QuW,[],[19],[]⟩
def QuU:List Lf:=
 let z0:Cd:= .f 1168 2 [(.l (.sl 1156 (.i 2)),1156),(.l (.n .u32 (.i 4096)),0),(.l (.n .i64 (.i 9)),0)]
 let z1:LX:= .n .u32 (.i 0)
 let z2:LX:= .n .i64 (.i 1)
 let z3:LX:= .n .i64 (.i 0)
 let z4:Cd:= .u 1156 none (.i 0) 9 0 [.n .u32 (.i 4096),z1,.n .i64 (.i 5),z2,z3,z3,z3,z3,.n .i64 (.i 3),.n .u32 (.i 4099),z1,z2,z3,z3,z3,z3,z3,z2]
 let z5:LX:= .t (.b false)
 let z6:LX:= .t (.b true)
 let z7:List LX:= [z5,z6,z1,z1,z1,z5,z5,z1,.n .u32 (.i 8),.n .u32 (.i 4),z5,z6,z1,z1,z1,z5,z6,z1,z1,z1,z5,z6,z1,z1,z1,z5,z6,z1,z1,z1,z5,z6,z1,z1,z1,z5,z6,z1,z1,z1]
 let z8:Cd:= .f 1136 1 [(.a [z1,.n .u32 (.i 4),.n .i64 (.i 6),z2,z3,z3,z2,z3,z3],0),(.a z7,0)]
 let z9:List LX:= [z1,.n .u32 (.i 4),.n .i64 (.i 15),z2,z3,z3,.n .i64 (.i 2),z3,z3]
 let z10:List LX:= [z5,z6,z1,z1,z1,z5,z6,z1,z1,z1,z5,z6,z1,z1,z1,z5,z6,z1,z1,z1,z5,z6,z1,z1,z1,z5,z6,z1,z1,z1,z5,z6,z1,z1,z1,z5,z6,z1,z1,z1]
 let z11:Cd:= .f 36 0 [(.l (.n .i64 (.i 8)),0),(.a z9,0),(.a z10,0),(.l z6,0)]
 let z12:Cd:= .f 24 0 [(.l (.n .i64 (.i 8)),0),(.a z9,0),(.a z10,0),(.l z5,0)]
 [⟨[z0,z4,z8,z11,z12,.c (.eq (.v 1136 6) (.b false)) true,.c (.eq (.v 1136 5) (.b false)) true,.c (.c .eql (.v 36 13) (.i 4294967295)) true,.c (.c .eql (.v 1168 0) (.i 2)) true,.c (.c .eql (.v 1168 1) (.i 0)) true,.c (.c .eql (.v 1136 8) (.i 12)) true,.c (.c .eql (.v 1136 9) (.i 4)) true,.c (.c .eql (.v 1136 7) (.i 4)) true,.c (.eq (.v 36 11) (.b false)) true,.c (.eq (.v 36 10) (.b false)) true,.c (.c .eql (.v 36 12) (.i 4)) true,.c (.c .eql (.v 36 14) (.i 1)) true,.c (.eq (.v 24 11) (.b false)) true,.c (.eq (.v 24 10) (.b false)) true,.c (.c .eql (.v 24 13) (.i 3)) true,.c (.c .eql (.v 24 14) (.i 1)) true,.c (.c .eql (.v 24 12) (.i 0)) true],.v (.l (.t (.an (.an (.an (.an (.an (.an (.an (.an (.eq (.v 24 10) (.b false)) (.an (.eq (.v 24 11) (.b false)) (.an (.c .eql (.v 24 12) (.i 0)) (.an (.c .eql (.v 24 13) (.i 3)) (.c .eql (.v 24 14) (.i 1)))))) (.an (.eq (.v 36 10) (.b false)) (.an (.eq (.v 36 11) (.b false)) (.an (.c .eql (.v 36 12) (.i 4)) (.an (.c .eql (.v 36 13) (.i 4294967295)) (.c .eql (.v 36 14) (.i 1))))))) (.an (.eq (.v 1136 5) (.b false)) (.an (.eq (.v 1136 6) (.b false)) (.an (.c .eql (.v 1136 7) (.i 4)) (.an (.c .eql (.v 1136 8) (.i 12)) (.c .eql (.v 1136 9) (.i 4))))))) (.c .eql (.v 1168 1) (.i 0))) (.c .eql (.v 1168 0) (.i 2))) (.an (.an (.eq (.r 1169 40 0 (.i 0)) (.b false)) (.an (.eq (.r 1169 40 1 (.i 0)) (.b true)) (.an (.c .eql (.r 1169 40 2 (.i 0)) (.i 0)) (.an (.c .eql (.r 1169 40 3 (.i 0)) (.i 0)) (.c .eql (.r 1169 40 4 (.i 0)) (.i 0)))))) (.an (.an (.eq (.r 1169 40 5 (.i 0)) (.b false)) (.an (.eq (.r 1169 40 6 (.i 0)) (.b true)) (.an (.c .eql (.r 1169 40 7 (.i 0)) (.i 0)) (.an (.c .eql (.r 1169 40 8 (.i 0)) (.i 0)) (.c .eql (.r 1169 40 9 (.i 0)) (.i 0)))))) (.an (.an (.eq (.r 1169 40 10 (.i 0)) (.b false)) (.an (.eq (.r 1169 40 11 (.i 0)) (.b true)) (.an (.c .eql (.r 1169 40 12 (.i 0)) (.i 0)) (.an (.c .eql (.r 1169 40 13 (.i 0)) (.i 0)) (.c .eql (.r 1169 40 14 (.i 0)) (.i 0)))))) (.an (.an (.eq (.r 1169 40 15 (.i 0)) (.b false)) (.an (.eq (.r 1169 40 16 (.i 0)) (.b true)) (.an (.c .eql (.r 1169 40 17 (.i 0)) (.i 0)) (.an (.c .eql (.r 1169 40 18 (.i 0)) (.i 0)) (.c .eql (.r 1169 40 19 (.i 0)) (.i 0)))))) (.an (.an (.eq (.r 1169 40 20 (.i 0)) (.b false)) (.an (.eq (.r 1169 40 21 (.i 0)) (.b true)) (.an (.c .eql (.r 1169 40 22 (.i 0)) (.i 0)) (.an (.c .eql (.r 1169 40 23 (.i 0)) (.i 0)) (.c .eql (.r 1169 40 24 (.i 0)) (.i 0)))))) (.an (.an (.eq (.r 1169 40 25 (.i 0)) (.b false)) (.an (.eq (.r 1169 40 26 (.i 0)) (.b true)) (.an (.c .eql (.r 1169 40 27 (.i 0)) (.i 0)) (.an (.c .eql (.r 1169 40 28 (.i 0)) (.i 0)) (.c .eql (.r 1169 40 29 (.i 0)) (.i 0)))))) (.an (.an (.eq (.r 1169 40 30 (.i 0)) (.b false)) (.an (.eq (.r 1169 40 31 (.i 0)) (.b true)) (.an (.c .eql (.r 1169 40 32 (.i 0)) (.i 0)) (.an (.c .eql (.r 1169 40 33 (.i 0)) (.i 0)) (.c .eql (.r 1169 40 34 (.i 0)) (.i 0)))))) (.an (.eq (.r 1169 40 35 (.i 0)) (.b false)) (.an (.eq (.r 1169 40 36 (.i 0)) (.b true)) (.an (.c .eql (.r 1169 40 37 (.i 0)) (.i 0)) (.an (.c .eql (.r 1169 40 38 (.i 0)) (.i 0)) (.c .eql (.r 1169 40 39 (.i 0)) (.i 0)))))))))))))) (.an (.eq (.r 1169 40 0 (.i 1)) (.b false)) (.an (.eq (.r 1169 40 1 (.i 1)) (.b false)) (.an (.c .eql (.r 1169 40 2 (.i 1)) (.i 0)) (.an (.c .eql (.r 1169 40 3 (.i 1)) (.i 0)) (.c .eql (.r 1169 40 4 (.i 1)) (.i 0))))))) (.an (.eq (.r 1169 40 5 (.i 1)) (.b false)) (.an (.eq (.r 1169 40 6 (.i 1)) (.b true)) (.an (.c .eql (.r 1169 40 7 (.i 1)) (.i 0)) (.an (.c .eql (.r 1169 40 8 (.i 1)) (.i 0)) (.c .eql (.r 1169 40 9 (.i 1)) (.i 0))))))))),[⟨1169,.row stK (.v 1168 0) 1169⟩,⟨8,.cells 39 z9⟩,⟨40,.cells 37 (Qa 24 0 stK)⟩,⟨44,.cells 37 (Qa 36 0 stK)⟩,⟨56,.cells 37 z10⟩,⟨60,.cells 37 z10⟩,⟨404,.cells 37 z10⟩,⟨408,.cells 37 z10⟩,⟨756,.cells 37 z7⟩,⟨764,.cells 37 z10⟩,⟨768,.cells 37 z10⟩,⟨1140,.cells 37 (Qa 1136 0 stK)⟩,⟨1156,.row Qb (.i 2) 1156⟩,⟨1408,.cells 37 z10⟩,⟨1412,.cells 37 z10⟩]⟩,⟨[z0,z4,z8,z11,z12,.c (.an (.an (.an (.an (.an (.eq (.v 24 10) (.b false)) (.an (.eq (.v 24 11) (.b false)) (.an (.c .eql (.v 24 12) (.i 0)) (.an (.c .eql (.v 24 13) (.i 3)) (.c .eql (.v 24 14) (.i 1)))))) (.an (.eq (.v 36 10) (.b false)) (.an (.eq (.v 36 11) (.b false)) (.an (.c .eql (.v 36 12) (.i 4)) (.an (.c .eql (.v 36 13) (.i 4294967295)) (.c .eql (.v 36 14) (.i 1))))))) (.an (.eq (.v 1136 5) (.b false)) (.an (.eq (.v 1136 6) (.b false)) (.an (.c .eql (.v 1136 7) (.i 4)) (.an (.c .eql (.v 1136 8) (.i 12)) (.c .eql (.v 1136 9) (.i 4))))))) (.c .eql (.v 1168 1) (.i 0))) (.c .eql (.v 1168 0) (.i 2))) false],.v (.l z5),[⟨1169,.row stK (.v 1168 0) 1169⟩,⟨8,.cells 39 z9⟩,⟨40,.cells 37 (Qa 24 0 stK)⟩,⟨44,.cells 37 (Qa 36 0 stK)⟩,⟨56,.cells 37 z10⟩,⟨60,.cells 37 z10⟩,⟨404,.cells 37 z10⟩,⟨408,.cells 37 z10⟩,⟨756,.cells 37 z7⟩,⟨764,.cells 37 z10⟩,⟨768,.cells 37 z10⟩,⟨1140,.cells 37 (Qa 1136 0 stK)⟩,⟨1156,.row Qb (.i 2) 1156⟩]⟩,⟨[z0,z4,z8,z11,z12,.c (.eq (.v 1136 6) (.b false)) true,.c (.eq (.v 1136 5) (.b false)) true,.c (.c .eql (.v 36 13) (.i 4294967295)) true,.c (.c .lss (.i 0) (.v 1168 0)) true,.c (.c .eql (.v 1168 0) (.i 2)) true,.c (.c .eql (.v 1168 1) (.i 0)) true,.c (.c .eql (.v 1136 8) (.i 12)) true,.c (.c .eql (.v 1136 9) (.i 4)) true,.c (.c .eql (.v 1136 7) (.i 4)) true,.c (.eq (.v 36 11) (.b false)) true,.c (.eq (.v 36 10) (.b false)) true,.c (.c .eql (.v 36 12) (.i 4)) true,.c (.c .eql (.v 36 14) (.i 1)) true,.c (.eq (.v 24 11) (.b false)) true,.c (.eq (.v 24 10) (.b false)) true,.c (.c .eql (.v 24 13) (.i 3)) true,.c (.c .eql (.v 24 14) (.i 1)) true,.c (.c .eql (.v 24 12) (.i 0)) true],.v (.l (.t (.an (.an (.an (.an (.an (.an (.an (.an (.eq (.v 24 10) (.b false)) (.an (.eq (.v 24 11) (.b false)) (.an (.c .eql (.v 24 12) (.i 0)) (.an (.c .eql (.v 24 13) (.i 3)) (.c .eql (.v 24 14) (.i 1)))))) (.an (.eq (.v 36 10) (.b false)) (.an (.eq (.v 36 11) (.b false)) (.an (.c .eql (.v 36 12) (.i 4)) (.an (.c .eql (.v 36 13) (.i 4294967295)) (.c .eql (.v 36 14) (.i 1))))))) (.an (.eq (.v 1136 5) (.b false)) (.an (.eq (.v 1136 6) (.b false)) (.an (.c .eql (.v 1136 7) (.i 4)) (.an (.c .eql (.v 1136 8) (.i 12)) (.c .eql (.v 1136 9) (.i 4))))))) (.c .eql (.v 1168 1) (.i 0))) (.c .eql (.v 1168 0) (.i 2))) (.an (.an (.eq (.r 1169 40 0 (.i 0)) (.b false)) (.an (.eq (.r 1169 40 1 (.i 0)) (.b true)) (.an (.c .eql (.r 1169 40 2 (.i 0)) (.i 0)) (.an (.c .eql (.r 1169 40 3 (.i 0)) (.i 0)) (.c .eql (.r 1169 40 4 (.i 0)) (.i 0)))))) (.an (.an (.eq (.r 1169 40 5 (.i 0)) (.b false)) (.an (.eq (.r 1169 40 6 (.i 0)) (.b true)) (.an (.c .eql (.r 1169 40 7 (.i 0)) (.i 0)) (.an (.c .eql (.r 1169 40 8 (.i 0)) (.i 0)) (.c .eql (.r 1169 40 9 (.i 0)) (.i 0)))))) (.an (.an (.eq (.r 1169 40 10 (.i 0)) (.b false)) (.an (.eq (.r 1169 40 11 (.i 0)) (.b true)) (.an (.c .eql (.r 1169 40 12 (.i 0)) (.i 0)) (.an (.c .eql (.r 1169 40 13 (.i 0)) (.i 0)) (.c .eql (.r 1169 40 14 (.i 0)) (.i 0)))))) (.an (.an (.eq (.r 1169 40 15 (.i 0)) (.b false)) (.an (.eq (.r 1169 40 16 (.i 0)) (.b true)) (.an (.c .eql (.r 1169 40 17 (.i 0)) (.i 0)) (.an (.c .eql (.r 1169 40 18 (.i 0)) (.i 0)) (.c .eql (.r 1169 40 19 (.i 0)) (.i 0)))))) (.an (.an (.eq (.r 1169 40 20 (.i 0)) (.b false)) (.an (.eq (.r 1169 40 21 (.i 0)) (.b true)) (.an (.c .eql (.r 1169 40 22 (.i 0)) (.i 0)) (.an (.c .eql (.r 1169 40 23 (.i 0)) (.i 0)) (.c .eql (.r 1169 40 24 (.i 0)) (.i 0)))))) (.an (.an (.eq (.r 1169 40 25 (.i 0)) (.b false)) (.an (.eq (.r 1169 40 26 (.i 0)) (.b true)) (.an (.c .eql (.r 1169 40 27 (.i 0)) (.i 0)) (.an (.c .eql (.r 1169 40 28 (.i 0)) (.i 0)) (.c .eql (.r 1169 40 29 (.i 0)) (.i 0)))))) (.an (.an (.eq (.r 1169 40 30 (.i 0)) (.b false)) (.an (.eq (.r 1169 40 31 (.i 0)) (.b true)) (.an (.c .eql (.r 1169 40 32 (.i 0)) (.i 0)) (.an (.c .eql (.r 1169 40 33 (.i 0)) (.i 0)) (.c .eql (.r 1169 40 34 (.i 0)) (.i 0)))))) (.an (.eq (.r 1169 40 35 (.i 0)) (.b false)) (.an (.eq (.r 1169 40 36 (.i 0)) (.b true)) (.an (.c .eql (.r 1169 40 37 (.i 0)) (.i 0)) (.an (.c .eql (.r 1169 40 38 (.i 0)) (.i 0)) (.c .eql (.r 1169 40 39 (.i 0)) (.i 0)))))))))))))) (.an (.eq (.r 1169 40 0 (.i 1)) (.b false)) (.an (.eq (.r 1169 40 1 (.i 1)) (.b false)) (.an (.c .eql (.r 1169 40 2 (.i 1)) (.i 0)) (.an (.c .eql (.r 1169 40 3 (.i 1)) (.i 0)) (.c .eql (.r 1169 40 4 (.i 1)) (.i 0))))))) (.an (.eq (.r 1169 40 5 (.i 1)) (.b false)) (.an (.eq (.r 1169 40 6 (.i 1)) (.b true)) (.an (.c .eql (.r 1169 40 7 (.i 1)) (.i 0)) (.an (.c .eql (.r 1169 40 8 (.i 1)) (.i 0)) (.c .eql (.r 1169 40 9 (.i 1)) (.i 0))))))))),[⟨1169,.row stK (.v 1168 0) 1169⟩,⟨8,.cells 39 z9⟩,⟨40,.cells 37 (Qa 24 0 stK)⟩,⟨44,.cells 37 (Qa 36 0 stK)⟩,⟨56,.cells 37 z10⟩,⟨60,.cells 37 z10⟩,⟨404,.cells 37 z10⟩,⟨408,.cells 37 z10⟩,⟨756,.cells 37 z7⟩,⟨764,.cells 37 z10⟩,⟨768,.cells 37 z10⟩,⟨1140,.cells 37 (Qa 1136 0 stK)⟩,⟨1156,.row Qb (.i 2) 1156⟩,⟨1408,.cells 37 z10⟩,⟨1412,.cells 37 z10⟩]⟩,⟨[z0,z4,z8,z11,z12,.c (.an (.an (.an (.an (.an (.eq (.v 24 10) (.b false)) (.an (.eq (.v 24 11) (.b false)) (.an (.c .eql (.v 24 12) (.i 0)) (.an (.c .eql (.v 24 13) (.i 3)) (.c .eql (.v 24 14) (.i 1)))))) (.an (.eq (.v 36 10) (.b false)) (.an (.eq (.v 36 11) (.b false)) (.an (.c .eql (.v 36 12) (.i 4)) (.an (.c .eql (.v 36 13) (.i 4294967295)) (.c .eql (.v 36 14) (.i 1))))))) (.an (.eq (.v 1136 5) (.b false)) (.an (.eq (.v 1136 6) (.b false)) (.an (.c .eql (.v 1136 7) (.i 4)) (.an (.c .eql (.v 1136 8) (.i 12)) (.c .eql (.v 1136 9) (.i 4))))))) (.c .eql (.v 1168 1) (.i 0))) (.c .eql (.v 1168 0) (.i 2))) false],.v (.l z5),[⟨1169,.row stK (.v 1168 0) 1169⟩,⟨8,.cells 39 z9⟩,⟨40,.cells 37 (Qa 24 0 stK)⟩,⟨44,.cells 37 (Qa 36 0 stK)⟩,⟨56,.cells 37 z10⟩,⟨60,.cells 37 z10⟩,⟨404,.cells 37 z10⟩,⟨408,.cells 37 z10⟩,⟨756,.cells 37 z7⟩,⟨764,.cells 37 z10⟩,⟨768,.cells 37 z10⟩,⟨1140,.cells 37 (Qa 1136 0 stK)⟩,⟨1156,.row Qb (.i 2) 1156⟩]⟩]
def QuV:List Ob:=
 let z0:PX:= .l (.n .i64 (.i 8))
 let z1:LX:= .n .u32 (.i 0)
 let z2:LX:= .n .i64 (.i 1)
 let z3:LX:= .n .i64 (.i 0)
 let z4:PX:= .a [z1,.n .u32 (.i 4),.n .i64 (.i 15),z2,z3,z3,.n .i64 (.i 2),z3,z3]
 let z5:LX:= .t (.b false)
 let z6:LX:= .t (.b true)
 let z7:PX:= .a [z5,z6,z1,z1,z1,z5,z6,z1,z1,z1,z5,z6,z1,z1,z1,z5,z6,z1,z1,z1,z5,z6,z1,z1,z1,z5,z6,z1,z1,z1,z5,z6,z1,z1,z1,z5,z6,z1,z1,z1]
 let z8:Cd:= .f 24 0 [(z0,0),(z4,0),(z7,0),(.l z5,0)]
 let z9:Cd:= .f 36 0 [(z0,0),(z4,0),(z7,0),(.l z6,0)]
 let z10:Cd:= .u 1156 none (.i 0) 9 0 [.n .u32 (.i 4096),z1,.n .i64 (.i 5),z2,z3,z3,z3,z3,.n .i64 (.i 3),.n .u32 (.i 4099),z1,z2,z3,z3,z3,z3,z3,z2]
 let z11:Cd:= .f 1136 1 [(.a [z1,.n .u32 (.i 4),.n .i64 (.i 6),z2,z3,z3,z2,z3,z3],0),(.a [z5,z6,z1,z1,z1,z5,z5,z1,.n .u32 (.i 8),.n .u32 (.i 4),z5,z6,z1,z1,z1,z5,z6,z1,z1,z1,z5,z6,z1,z1,z1,z5,z6,z1,z1,z1,z5,z6,z1,z1,z1,z5,z6,z1,z1,z1],0)]
 let z12:Cd:= .c (.eq (.v 24 10) (.b false)) true
 let z13:Cd:= .c (.eq (.v 24 11) (.b false)) true
 let z14:Cd:= .c (.c .eql (.v 24 12) (.i 0)) true
 let z15:Cd:= .c (.c .eql (.v 24 13) (.i 3)) true
 let z16:Cd:= .c (.c .eql (.v 24 14) (.i 1)) true
 let z17:Cd:= .c (.eq (.v 36 10) (.b false)) true
 let z18:Cd:= .c (.eq (.v 36 11) (.b false)) true
 let z19:Cd:= .c (.c .eql (.v 36 12) (.i 4)) true
 let z20:Cd:= .c (.c .eql (.v 36 13) (.i 4294967295)) true
 let z21:Cd:= .c (.c .eql (.v 36 14) (.i 1)) true
 let z22:Cd:= .c (.eq (.v 1136 5) (.b false)) true
 let z23:Cd:= .c (.eq (.v 1136 6) (.b false)) true
 let z24:Cd:= .c (.c .eql (.v 1136 7) (.i 4)) true
 let z25:Cd:= .c (.c .eql (.v 1136 8) (.i 12)) true
 let z26:Cd:= .c (.c .eql (.v 1136 9) (.i 4)) true
 let z27:Cd:= .c (.c .eql (.v 1168 1) (.i 0)) true
 let z28:Cd:= .f 1168 2 [(.l (.sl 1156 (.i 2)),1156),(.l (.n .u32 (.i 4096)),0),(.l (.n .i64 (.i 9)),0)]
 let z29:Cd:= .c (.c .eql (.v 1168 0) (.i 2)) true
 let z30:SX:= .c .lss (.i 0) (.v 1168 0)
 let z31:List Cd:= [z28,z10,z11,z9,z8,z23,z22,z20,z29,z27,z25,z26,z24,z18,z17,z19,z21,z13,z12,z15,z16,z14]
 let z32:Cd:= .c (.eq (.r 1169 40 0 (.i 0)) (.b false)) true
 let z33:Cd:= .c (.eq (.r 1169 40 1 (.i 0)) (.b true)) true
 let z34:Cd:= .c (.c .eql (.r 1169 40 2 (.i 0)) (.i 0)) true
 let z35:Cd:= .c (.c .eql (.r 1169 40 3 (.i 0)) (.i 0)) true
 let z36:Cd:= .c (.c .eql (.r 1169 40 4 (.i 0)) (.i 0)) true
 let z37:Cd:= .c (.eq (.r 1169 40 5 (.i 0)) (.b false)) true
 let z38:Cd:= .c (.eq (.r 1169 40 6 (.i 0)) (.b true)) true
 let z39:Cd:= .c (.c .eql (.r 1169 40 7 (.i 0)) (.i 0)) true
 let z40:Cd:= .c (.c .eql (.r 1169 40 8 (.i 0)) (.i 0)) true
 let z41:Cd:= .c (.c .eql (.r 1169 40 9 (.i 0)) (.i 0)) true
 let z42:Cd:= .c (.eq (.r 1169 40 10 (.i 0)) (.b false)) true
 let z43:Cd:= .c (.eq (.r 1169 40 11 (.i 0)) (.b true)) true
 let z44:Cd:= .c (.c .eql (.r 1169 40 12 (.i 0)) (.i 0)) true
 let z45:Cd:= .c (.c .eql (.r 1169 40 13 (.i 0)) (.i 0)) true
 let z46:Cd:= .c (.c .eql (.r 1169 40 14 (.i 0)) (.i 0)) true
 let z47:Cd:= .c (.eq (.r 1169 40 15 (.i 0)) (.b false)) true
 let z48:Cd:= .c (.eq (.r 1169 40 16 (.i 0)) (.b true)) true
 let z49:Cd:= .c (.c .eql (.r 1169 40 17 (.i 0)) (.i 0)) true
 let z50:Cd:= .c (.c .eql (.r 1169 40 18 (.i 0)) (.i 0)) true
 let z51:Cd:= .c (.c .eql (.r 1169 40 19 (.i 0)) (.i 0)) true
 let z52:Cd:= .c (.eq (.r 1169 40 20 (.i 0)) (.b false)) true
 let z53:Cd:= .c (.eq (.r 1169 40 21 (.i 0)) (.b true)) true
 let z54:Cd:= .c (.c .eql (.r 1169 40 22 (.i 0)) (.i 0)) true
 let z55:Cd:= .c (.c .eql (.r 1169 40 23 (.i 0)) (.i 0)) true
 let z56:Cd:= .c (.c .eql (.r 1169 40 24 (.i 0)) (.i 0)) true
 let z57:Cd:= .c (.eq (.r 1169 40 25 (.i 0)) (.b false)) true
 let z58:Cd:= .c (.eq (.r 1169 40 26 (.i 0)) (.b true)) true
 let z59:Cd:= .c (.c .eql (.r 1169 40 27 (.i 0)) (.i 0)) true
 let z60:Cd:= .c (.c .eql (.r 1169 40 28 (.i 0)) (.i 0)) true
 let z61:Cd:= .c (.c .eql (.r 1169 40 29 (.i 0)) (.i 0)) true
 let z62:Cd:= .c (.eq (.r 1169 40 30 (.i 0)) (.b false)) true
 let z63:Cd:= .c (.eq (.r 1169 40 31 (.i 0)) (.b true)) true
 let z64:Cd:= .c (.c .eql (.r 1169 40 32 (.i 0)) (.i 0)) true
 let z65:Cd:= .c (.c .eql (.r 1169 40 33 (.i 0)) (.i 0)) true
 let z66:Cd:= .c (.c .eql (.r 1169 40 34 (.i 0)) (.i 0)) true
 let z67:Cd:= .c (.eq (.r 1169 40 35 (.i 0)) (.b false)) true
 let z68:Cd:= .c (.eq (.r 1169 40 36 (.i 0)) (.b true)) true
 let z69:Cd:= .c (.c .eql (.r 1169 40 37 (.i 0)) (.i 0)) true
 let z70:Cd:= .c (.c .eql (.r 1169 40 38 (.i 0)) (.i 0)) true
 let z71:Cd:= .c (.c .eql (.r 1169 40 39 (.i 0)) (.i 0)) true
 let z72:SX:= .c .lss (.i 1) (.v 1168 0)
 [.pre [] 0 [(z0,0),(z4,0),(z7,0),(.l z5,0)],.pre [z8] 0 [(z0,0),(z4,0),(z7,0),(.l z6,0)],.pre [z9,z8] 1 [(.a [z1,.n .u32 (.i 4),.n .i64 (.i 6),z2,z3,z3,z2,z3,z3],0),(.a [z5,z6,z1,z1,z1,z5,z5,z1,.n .u32 (.i 8),.n .u32 (.i 4),z5,z6,z1,z1,z1,z5,z6,z1,z1,z1,z5,z6,z1,z1,z1,z5,z6,z1,z1,z1,z5,z6,z1,z1,z1,z5,z6,z1,z1,z1],0)],.pre [z10,z11,z9,z8] 2 [(.l (.sl 1156 (.i 2)),1156),(.l (.n .u32 (.i 4096)),0),(.l (.n .i64 (.i 9)),0)],.cl [z12,z13,z14,z15,z16,z17,z18,z19,z20,z21,z22,z23,z24,z25,z26,z27,z28,z10,z11,z9,z8] (.c .geq (.v 1168 0) (.i 0)),.cl [z12,z13,z14,z15,z16,z17,z18,z19,z20,z21,z22,z23,z24,z25,z26,z27,z29,z28,z10,z11,z9,z8] (.c .geq (.v 1168 0) (.i 0)),.cl [z12,z13,z14,z15,z16,z17,z18,z19,z20,z21,z22,z23,z24,z25,z26,z27,z29,z28,z10,z11,z9,z8] z30,.cl z31 z30,.cl (z12 :: z13 :: z14 :: z15 :: z16 :: z17 :: z18 :: z19 :: z20 :: z21 :: z22 :: z23 :: z24 :: z25 :: z26 :: z27 :: z29 :: z32 :: z33 :: z34 :: z35 :: z36 :: z37 :: z38 :: z39 :: z40 :: z41 :: z42 :: z43 :: z44 :: z45 :: z46 :: z47 :: z48 :: z49 :: z50 :: z51 :: z52 :: z53 :: z54 :: z55 :: z56 :: z57 :: z58 :: z59 :: z60 :: z61 :: z62 :: z63 :: z64 :: z65 :: z66 :: z67 :: z68 :: z69 :: z70 :: z71 :: z31) z72,.cl [z12,z13,z14,z15,z16,z17,z18,z19,z20,z21,z22,z23,z24,z25,z26,z27,z29,z32,z33,z34,z35,z36,z37,z38,z39,z40,z41,z42,z43,z44,z45,z46,z47,z48,z49,z50,z51,z52,z53,z54,z55,z56,z57,z58,z59,z60,z61,z62,z63,z64,z65,z66,z67,z68,z69,z70,z71,z28,z10,z11,z9,z8,z23,z22,z20,.c z30 true,z29,z27,z25,z26,z24,z18,z17,z19,z21,z13,z12,z15,z16,z14] z72,.cl (z12 :: z13 :: z14 :: z15 :: z16 :: z17 :: z18 :: z19 :: z20 :: z21 :: z22 :: z23 :: z24 :: z25 :: z26 :: z27 :: z29 :: z32 :: z33 :: z34 :: z35 :: z36 :: z37 :: z38 :: z39 :: z40 :: z41 :: z42 :: z43 :: z44 :: z45 :: z46 :: z47 :: z48 :: z49 :: z50 :: z51 :: z52 :: z53 :: z54 :: z55 :: z56 :: z57 :: z58 :: z59 :: z60 :: z61 :: z62 :: z63 :: z64 :: z65 :: z66 :: z67 :: z68 :: z69 :: z70 :: z71 :: .c (.eq (.r 1169 40 0 (.i 1)) (.b false)) true :: .c (.eq (.r 1169 40 1 (.i 1)) (.b false)) true :: .c (.c .eql (.r 1169 40 2 (.i 1)) (.i 0)) true :: .c (.c .eql (.r 1169 40 3 (.i 1)) (.i 0)) true :: .c (.c .eql (.r 1169 40 4 (.i 1)) (.i 0)) true :: z31) z72,.cl [z12,z13,z14,z15,z16,z17,z18,z19,z20,z21,z22,z23,z24,z25,z26,z27,z29,z32,z33,z34,z35,z36,z37,z38,z39,z40,z41,z42,z43,z44,z45,z46,z47,z48,z49,z50,z51,z52,z53,z54,z55,z56,z57,z58,z59,z60,z61,z62,z63,z64,z65,z66,z67,z68,z69,z70,z71,.c (.eq (.r 1169 40 0 (.i 1)) (.b false)) true,.c (.eq (.r 1169 40 1 (.i 1)) (.b false)) true,.c (.c .eql (.r 1169 40 2 (.i 1)) (.i 0)) true,.c (.c .eql (.r 1169 40 3 (.i 1)) (.i 0)) true,.c (.c .eql (.r 1169 40 4 (.i 1)) (.i 0)) true,z28,z10,z11,z9,z8,z23,z22,z20,.c z30 true,z29,z27,z25,z26,z24,z18,z17,z19,z21,z13,z12,z15,z16,z14] z72]
theorem QtH:QP Try.prog QtG 1000 4 12 Try.f12 QsD QtI=some (QuU,QuV):=by kernel_rfl
def VT(n:Nat):List LX:=(List.replicate n [LX.t (.b false),.t (.b true),.n .u32 (.i 0),.n .u32 (.i 0),.n .u32 (.i 0)]).flatten
def Qvb:PX:= .a [.n .u32 (.i 0),.n .u32 (.i 4),.n .i64 (.i 15),.n .i64 (.i 1),.n .i64 (.i 0),.n .i64 (.i 0),.n .i64 (.i 2),.n .i64 (.i 0),.n .i64 (.i 0)]
def exA(b:Bool):List (PX×Nat):= [(.l (.n .i64 (.i 8)),0),(Qvb,0),(.a (VT 8),0),(.l (.t (.b b)),0)]
def exT:List (PX×Nat):= [(.a [.n .u32 (.i 0),.n .u32 (.i 4),.n .i64 (.i 6),.n .i64 (.i 1),.n .i64 (.i 0),.n .i64 (.i 0),.n .i64 (.i 1),.n .i64 (.i 0),.n .i64 (.i 0)],0),(.a (VT 1 ++ [.t (.b false),.t (.b false),.n .u32 (.i 0),.n .u32 (.i 8),.n .u32 (.i 4)] ++ VT 6),0)]
def exN:List (PX×Nat):= [(.l (.sl 1156 (.i 2)),1156),(.l (.n .u32 (.i 4096)),0),(.l (.n .i64 (.i 9)),0)]
def exL:List LX:= [.n .u32 (.i 4096),.n .u32 (.i 0),.n .i64 (.i 5),.n .i64 (.i 1),.n .i64 (.i 0),.n .i64 (.i 0),.n .i64 (.i 0),.n .i64 (.i 0),.n .i64 (.i 3),.n .u32 (.i 4099),.n .u32 (.i 0),.n .i64 (.i 1),.n .i64 (.i 0),.n .i64 (.i 0),.n .i64 (.i 0),.n .i64 (.i 0),.n .i64 (.i 0),.n .i64 (.i 1)]
def exC:List (Kon Try.prog):= [Vc.kon,Xx.kon,Ja]
def exI:Nat→Ins:=fun k=>match k with|0=>⟨4096,0,5,1,0,0,0,0,3⟩|1=>⟨4099,0,1,0,0,0,0,0,1⟩|_=>Qtr
def eqV(a b:Qd):Bool:=a.e==b.e && a.t==b.t && a.lo==b.lo && a.hi==b.hi && a.st==b.st
theorem Qkt{a b:Qd}(h:eqV a b=true):a=b:=by
 obtain⟨a1,a2,a3,a4,a5⟩:=a
 obtain⟨b1,b2,b3,b4,b5⟩:=b
 simp only [eqV,Bool.and_eq_true,beq_iff_eq]at h
 obtain⟨⟨⟨⟨h1,h2⟩,h3⟩,h4⟩,h5⟩:=h
 rw [h1,h2,h3,h4,h5]
def exB:Bool:=match Xz exI 2 4096 9 with
 | .ok b=>(List.range 8).all (fun r=>eqV (b 0 r) Qy) && eqV (b 1 0) (X2 0) && eqV (b 1 1) Qy
 | .error _=>false
theorem QqJ:exB=true:=by kernel_rfl
theorem Qvc:∃b,Xz exI 2 4096 9= .ok b∧(∀r,r < 8→b 0 r=Qy)∧b 1 0=X2 0∧b 1 1=Qy:=by
 have h:=QqJ
 unfold exB at h
 cases ha:Xz exI 2 4096 9 with
 |error x=>rw [ha]at h;cases h
 |ok b=>
  rw [ha]at h
  simp only [Bool.and_eq_true,List.all_eq_true,List.mem_range]at h
  exact⟨b,rfl,fun r hr=>Qkt (h.1.1 r hr),Qkt h.1.2,Qkt h.2⟩
theorem Qu5{e:Env}(hu:e.int 1156=QD (fun _=>0) 0 (exL.map (QW e))):cxD (PX.dat e 1156 (.l (.sl 1156 (.i 2)))) (PX.dat e 0 (.l (.n .u32 (.i 4096)))) (PX.dat e 0 (.l (.n .i64 (.i 9))))=⟨exI,2,4096,9⟩:=by
 unfold cxD
 congr 1
 funext k
 show Ql (e.int 1156) 2 k=_
 rw [hu]
 match k with
 |0=>rfl
 |1=>rfl
 |k+2=>unfold Ql;rw [if_neg (by omega)];rfl
structure ExF(e:Env):Prop where
 a:e.bool 24 10=false∧e.bool 24 11=false∧e.int 24 12=0∧e.int 24 13=3∧e.int 24 14=1
 b:e.bool 36 10=false∧e.bool 36 11=false∧e.int 36 12=4∧e.int 36 13=4294967295∧e.int 36 14=1
 c:e.bool 1136 5=false∧e.bool 1136 6=false∧e.int 1136 7=4∧e.int 1136 8=12∧e.int 1136 9=4
 n:e.int 1168 0=2∧e.int 1168 1=0
 s:∀r,r < 8→Jr (e.int 1169) (e.bool 1169) 0 r=Qy
 t0:Jr (e.int 1169) (e.bool 1169) 1 0=X2 0
 t1:Jr (e.int 1169) (e.bool 1169) 1 1=Qy
theorem Qhw{e:Env}{b:Bool}{m m':Nm}(h:Vc.kon.post ((exA b).map (Ji e)) m m'):m.int=ZH (X3 8 ⟨0,4,15,1,0,0,2,0,0⟩ (stD (PX.dat e 0 (.a (VT 8)))) b)∧m.bool=QU (X3 8 ⟨0,4,15,1,0,0,2,0,0⟩ (stD (PX.dat e 0 (.a (VT 8)))) b):=h
theorem QqK{e:Env}{m m':Nm}(h:Xx.kon.post (exT.map (Ji e)) m m'):m.int=ZH (Qw ⟨0,4,6,1,0,0,1,0,0⟩ (stD (PX.dat e 0 (.a (VT 1 ++ [.t (.b false),.t (.b false),.n .u32 (.i 0),.n .u32 (.i 8),.n .u32 (.i 4)] ++ VT 6)))))∧m.bool=QU (Qw ⟨0,4,6,1,0,0,1,0,0⟩ (stD (PX.dat e 0 (.a (VT 1 ++ [.t (.b false),.t (.b false),.n .u32 (.i 0),.n .u32 (.i 8),.n .u32 (.i 4)] ++ VT 6))))):=h
theorem exF{e:Env}{cd:List Cd}(h:QC (Cd.holds exC [] e) cd)
 (h1:cd.elem (.f 24 0 (exA false))=true) (h2:cd.elem (.f 36 0 (exA true))=true) (h3:cd.elem (.f 1136 1 exT)=true) (h4:cd.elem (.u 1156 none (.i 0) 9 0 exL)=true) (h5:cd.elem (.f 1168 2 exN)=true):ExF e:=by
 have g1:=h.all _ (List.mem_of_elem_eq_true h1)
 have g2:=h.all _ (List.mem_of_elem_eq_true h2)
 have g3:=h.all _ (List.mem_of_elem_eq_true h3)
 have g4:=h.all _ (List.mem_of_elem_eq_true h4)
 have g5:=h.all _ (List.mem_of_elem_eq_true h5)
 obtain⟨c1,e1,g1⟩:=g1
 cases e1
 obtain⟨i1,b1⟩:=Qhw g1
 obtain⟨c2,e2,g2⟩:=g2
 cases e2
 obtain⟨i2,b2⟩:=Qhw g2
 obtain⟨c3,e3,g3⟩:=g3
 cases e3
 obtain⟨i3,b3⟩:=QqK g3
 obtain⟨c5,e5,g5⟩:=g5
 cases e5
 have hu:e.int 1156=QD (fun _=>0) 0 (exL.map (QW e)):=g4.1
 have g6:ZZ (cxD (PX.dat e 1156 (.l (.sl 1156 (.i 2)))) (PX.dat e 0 (.l (.n .u32 (.i 4096)))) (PX.dat e 0 (.l (.n .i64 (.i 9))))) (e.nm 1168) (e.nm 1169):=g5
 rw [Qu5 hu]at g6
 unfold ZZ at g6
 obtain⟨b,hb,s0,s1,s2⟩:=Qvc
 dsimp only at g6
 rw [hb]at g6
 obtain⟨n0,n1,hB⟩:=g6
 have q:∀{f g:Nat→Int} {x:Int} (j:Nat),f=g→g j=x→f j=x:=fun j h1 h2=>h1 ▸ h2
 have p:∀{f g:Nat→Bool} {x:Bool} (j:Nat),f=g→g j=x→f j=x:=fun j h1 h2=>h1 ▸ h2
 exact {
  a:=⟨p 10 b1 (by kernel_rfl),p 11 b1 (by kernel_rfl),q 12 i1 (by kernel_rfl),q 13 i1 (by kernel_rfl),q 14 i1 (by kernel_rfl)⟩
  b:=⟨p 10 b2 (by kernel_rfl),p 11 b2 (by kernel_rfl),q 12 i2 (by kernel_rfl),q 13 i2 (by kernel_rfl),q 14 i2 (by kernel_rfl)⟩
  c:=⟨p 5 b3 (by kernel_rfl),p 6 b3 (by kernel_rfl),q 7 i3 (by kernel_rfl),q 8 i3 (by kernel_rfl),q 9 i3 (by kernel_rfl)⟩
  n:=⟨n0,n1⟩
  s:=fun r hr=>(hB 0 (by decide) r hr).trans (s0 r hr)
  t0:=(hB 1 (by decide) 0 (by decide)).trans s1
  t1:=(hB 1 (by decide) 1 (by decide)).trans s2}
theorem st5{i:Nat→Int}{b:Nat→Bool}{k r:Nat}{x:Qd}(h:Jr i b k r=x):b (k * 40+5 * r)=x.e∧b (k * 40+(5 * r+1))=x.t∧i (k * 40+(5 * r+2))=x.lo∧i (k * 40+(5 * r+3))=x.hi∧i (k * 40+(5 * r+4))=x.st:=by
 subst h;exact⟨rfl,rfl,rfl,rfl,rfl⟩
theorem Qis{e:Env}{xs:List LX}(hl:xs.length=40)(h:∀r,r < 8→(stD (PX.dat e 0 (.a xs)) r).wf):∀r,(stD (PX.dat e 0 (.a xs)) r).wf:=fun r=>by
 rcases Nat.lt_or_ge r 8 with h0|h0
 ·exact h r h0
 ·rw [Qb9 hl h0]
  exact ZR K9
theorem QtQ{e:Env}{b:Bool}:Vc.kon.pre ((exA b).map (Ji e)):=by
 show Yx 8∧(⟨0,4,15,1,0,0,2,0,0⟩:Ins).wf∧∀k,(stD (PX.dat e 0 (.a (VT 8))) k).wf
 refine⟨by unfold Yx;decide,by unfold Ins.wf Q5 Yx;decide,Qis rfl fun r hr=>?_⟩
 have:stD (PX.dat e 0 (.a (VT 8))) r=Qy:=by
  match r,hr with
  |0,_|1,_|2,_|3,_|4,_|5,_|6,_|7,_=>rfl
 rw [this];exact Z5
theorem Qu7{e:Env}:Xx.kon.pre (exT.map (Ji e)):=by
 show(⟨0,4,6,1,0,0,1,0,0⟩:Ins).wf∧∀k,(stD (PX.dat e 0 (.a (VT 1 ++ [.t (.b false),.t (.b false),.n .u32 (.i 0),.n .u32 (.i 8),.n .u32 (.i 4)] ++ VT 6))) k).wf
 refine⟨by unfold Ins.wf Q5 Yx;decide,Qis rfl fun r hr=>?_⟩
 have:stD (PX.dat e 0 (.a (VT 1 ++ [.t (.b false),.t (.b false),.n .u32 (.i 0),.n .u32 (.i 8),.n .u32 (.i 4)] ++ VT 6))) r=if r=1 then⟨false,false,0,8,4⟩else Qy:=by
  match r,hr with
  |0,_|1,_|2,_|3,_|4,_|5,_|6,_|7,_=>rfl
 rw [this]
 split
 ·unfold Qd.wf;decide
 ·exact Z5
theorem Qu6{e:Env}(hu:e.int 1156=QD (fun _=>0) 0 (exL.map (QW e))):Ja.pre (exN.map (Ji e)):=by
 show(∀k,k < 2→(Qe (e.int 1156) k).wf)∧(0:Int)≤4096∧(9:Int)≤9223372036854775807
 refine⟨fun k hk=>?_,by decide,by decide⟩
 rw [hu]
 match k,hk with
 |0,_=>show(⟨4096,0,5,1,0,0,0,0,3⟩:Ins).wf;unfold Ins.wf Q5 Yx;decide
 |1,_=>show(⟨4099,0,1,0,0,0,0,0,1⟩:Ins).wf;unfold Ins.wf Q5 Yx;decide
set_option maxHeartbeats 4000000 in
theorem example_any(w:World):Calls Try.prog 12 #[] w (Ret (.bool true) w):=by
 refine ZK (C:=exC) (I:= []) Qr rfl Try.func12 QtH (Kh []) w rfl (fun r hr=>(List.not_mem_nil hr).elim) _ ?_ ?_
 ·refine⟨?_,?_,?_,?_,?_,?_,?_,?_,?_,?_,?_,?_,trivial⟩
  ·intro e he _;exact QtQ
  ·intro e he _;exact QtQ
  ·intro e he _;exact Qu7
  ·intro e he hcd
   have g4:=hcd.all _ (List.mem_of_elem_eq_true (show _=true from by kernel_rfl:List.elem (Cd.u 1156 none (.i 0) 9 0 exL) _=true))
   exact Qu6 g4.1
  all_goals
   intro e he hcd
   have F:=exF hcd (by kernel_rfl) (by kernel_rfl) (by kernel_rfl) (by kernel_rfl) (by kernel_rfl)
   have F1:=F.n
   simp only [SX.den,cmI,F1]
   decide
 ·refine⟨?_,?_,?_,?_,trivial⟩
  all_goals
   intro e u he hcd hs
   have F:=exF hcd (by kernel_rfl) (by kernel_rfl) (by kernel_rfl) (by kernel_rfl) (by kernel_rfl)
   obtain⟨Fa,Fb,Fc,Fn,Fs,Ft0,Ft1⟩:=F
   have s0:=st5 (Fs 0 (by decide))
   have s1:=st5 (Fs 1 (by decide))
   have s2:=st5 (Fs 2 (by decide))
   have s3:=st5 (Fs 3 (by decide))
   have s4:=st5 (Fs 4 (by decide))
   have s5:=st5 (Fs 5 (by decide))
   have s6:=st5 (Fs 6 (by decide))
   have s7:=st5 (Fs 7 (by decide))
   have t0:=st5 Ft0
   have t1:=st5 Ft1
   simp only [Nat.reduceMul,Nat.reduceAdd,Nat.zero_add,Nat.zero_mul,Nat.mul_zero,Nat.add_zero,Qy,X2]at s0 s1 s2 s3 s4 s5 s6 s7 t0 t1
  ·rw [hs]
   simp only [PX.den,LX.den,SX.den,Int.toNat_zero,Int.toNat_one,Nat.reduceMul,Nat.reduceAdd,Nat.zero_add,Nat.zero_mul,Nat.add_zero,cmI,Fa,Fb,Fc,Fn,s0,s1,s2,s3,s4,s5,s6,s7,t0,t1]
   rfl
  ·exfalso
   have hx:=hcd.2.2.2.2.2.1
   simp only [Cd.holds,SX.den,cmI,Fa,Fb,Fc,Fn]at hx
   revert hx
   decide
  ·rw [hs]
   simp only [PX.den,LX.den,SX.den,Int.toNat_zero,Int.toNat_one,Nat.reduceMul,Nat.reduceAdd,Nat.zero_add,Nat.zero_mul,Nat.add_zero,cmI,Fa,Fb,Fc,Fn,s0,s1,s2,s3,s4,s5,s6,s7,t0,t1]
   rfl
  ·exfalso
   have hx:=hcd.2.2.2.2.2.1
   simp only [Cd.holds,SX.den,cmI,Fa,Fb,Fc,Fn]at hx
   revert hx
   decide
end Go.Proofs.Yteplnamfpodmlaa.T2
