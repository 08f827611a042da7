/-
  Part of the proof.
-/
import Derived.Test.YteplnamfpodmlaaGreatQA01
import Derived.Test.YteplnamfpodmlaaGreatQVsA
import Derived.Test.YteplnamfpodmlaaGreatQVal22
import Derived.Test.YteplnamfpodmlaaGreatQT2
set_option linter.unusedVariables false
set_option linter.unusedSimpArgs false
set_option maxRecDepth 100000
open Go.ChangeShapes Go.WideShapes Go.ChangeAt Go.RowKit
section
namespace Go.Proofs.YteplnamfpodmlaaGreat
theorem QoB(a b:Qd)(h:a.wf∧b.wf)(w:World):Calls Tryz.prog 28 #[a.val,b.val] w (Ret (VV a b).val w):=QqX a b h.1 h.2 w
def QkS:Con Tryz.prog:= .mk' ⟨28,[.a Qb,.a Qb],.a Qb,true⟩
 (fun ads=>match ads with| [d1,d2]=>(QK d1).wf∧(QK d2).wf|_=>False)
 (fun ads=>match ads with| [d1,d2]=>QJ (VV (QK d1) (QK d2))|_=>fun _=>0)
 (fun ads=>match ads with| [d1,d2]=>QO (VV (QK d1) (QK d2))|_=>fun _=>false)
 ⟨_,Tryz.func28,by kernel_rfl,by kernel_rfl⟩ (fun ads w hf hp=>by
   obtain⟨d1,_,rfl,f1,hf⟩:=Qg hf;obtain⟨d2,_,rfl,f2,hf⟩:=Qg hf;obtain rfl:=Qm hf;show Calls _ _ #[d1.val,d2.val] w _;rw [Zg f1,Zg f2];exact QoB (QK d1) (QK d2) hp w)
theorem Qlv(a b:Qd)(h:a.wf∧b.wf)(w:World):Calls Tryz.prog 105 #[a.val,b.val] w (Ret (VV a b).val w):=QoP a b h.1 h.2 w
def Qga:Con Tryz.prog:= .mk' ⟨105,[.a Qb,.a Qb],.a Qb,true⟩
 (fun ads=>match ads with| [d1,d2]=>(QK d1).wf∧(QK d2).wf|_=>False)
 (fun ads=>match ads with| [d1,d2]=>QJ (VV (QK d1) (QK d2))|_=>fun _=>0)
 (fun ads=>match ads with| [d1,d2]=>QO (VV (QK d1) (QK d2))|_=>fun _=>false)
 ⟨_,Tryz.func105,by kernel_rfl,by kernel_rfl⟩ (fun ads w hf hp=>by
   obtain⟨d1,_,rfl,f1,hf⟩:=Qg hf;obtain⟨d2,_,rfl,f2,hf⟩:=Qg hf;obtain rfl:=Qm hf;show Calls _ _ #[d1.val,d2.val] w _;rw [Zg f1,Zg f2];exact Qlv (QK d1) (QK d2) hp w)
theorem Qge(k:Int)(h:KT k)(w:World):Calls Tryz.prog 74 #[.int .i64 k] w (Ret (.int .i64 (QaS k)) w):=Qin k w h.1 h.2
def Qb6:Con Tryz.prog:= .mk' ⟨74,[.l (some .i64)],.l (some .i64),true⟩
 (fun ads=>match ads with| [d1]=>KT (Q3 d1)|_=>False)
 (fun ads=>match ads with| [d1]=>fun _=>QaS (Q3 d1)|_=>fun _=>0)
 (fun ads=>match ads with| [d1]=>fun _=>false|_=>fun _=>false)
 ⟨_,Tryz.func74,by kernel_rfl,by kernel_rfl⟩ (fun ads w hf hp=>by
   obtain⟨d1,_,rfl,f1,hf⟩:=Qg hf;obtain rfl:=Qm hf;show Calls _ _ #[d1.val] w _;rw [QB f1];exact Qge (Q3 d1) hp w)
def Qch(c:Int):Int:=if IntKind.i64.wrap (c - 3)=0 then 7 else if IntKind.i64.wrap (c - 3)=1 then 8 else if IntKind.i64.wrap (c - 3)=2 then 9 else 10
def Kg(c:Int)(a:Qd)(n:Int):Qd:=
 if c=1 then VV a (Zs n)else if c=2 then XK a n
 else if c=7 then(if n=0 then Qt else VV a (Qj 0 (IntKind.u32.wrap (n - 1)) 1))
 else if c=9 then VV a (Qj 0 n 1)else if c=8 then VV a (Qj n 4294967295 1)
 else if c=10 then(if n=4294967295 then Qt else VV a (Qj (IntKind.u32.wrap (n+1)) 4294967295 1))else a
def J8(c:Int)(a:Qd)(n:Int):Qd:=
 if 3≤c∧c≤6 then(if Yf a=true∧a.hi < 2147483648∧n < 2147483648 then Kg (Qch c) a n else a)else Kg c a n
def ZE(cc:Int)(i:Ins)(s:Nat→Qd)(tk:Bool):Nat→Qd:=
 if Vf i=true then Kj s i.a (J8 (if tk=true then cc else QaS cc) (s i.a.toNat) i.imm)else s
theorem Qc3{i:Ins}(h:Vf i=true):0≤i.a∧i.a < 8:=by
 have hv:Qv i=true:=by unfold Vf at h;grind
 exact⟨(XV hv).1,(XV hv).2.1⟩
theorem Qrm{e:Env}{s:Nat→Qd}(h:∀k,QV e 2 (5 * k)=s k){k:Nat}(hk:k < 8):Qij e [(2,0),(2,5),(2,10),(2,15),(2,20),(2,25),(2,30),(2,35)] k=s k:=by
 match k,hk with
 |0,_=>exact h 0
 |1,_=>exact h 1
 |2,_=>exact h 2
 |3,_=>exact h 3
 |4,_=>exact h 4
 |5,_=>exact h 5
 |6,_=>exact h 6
 |7,_=>exact h 7
theorem Qbb{e:Env}{s:Nat→Qd}{a:Int}{X:Qd}{d:Nat}(k1:∀k,QV e 2 (5 * k)=s k)(ha:e.int 1 6=a)(hX:QV e d 0=X) :
 PX.den e (.a (Zf (.v 1 6) (d,0) [(2,0),(2,5),(2,10),(2,15),(2,20),(2,25),(2,30),(2,35)]))=Zm (Kj s a X):=by
 rw [Qbn];refine QQ fun k hk=>?_
 simp only [SX.den,ha,hX,Qrm k1 hk,Kj,beq_iff_eq]
theorem Qdz(c:Int):Qch c=7∨Qch c=8∨Qch c=9∨Qch c=10:=by unfold Qch;grind
theorem QsH(c:Int):(if IntKind.i64.wrap (c - 3)=0 then((7:Int),false)else if IntKind.i64.wrap (c - 3)=1 then(8,false)else if IntKind.i64.wrap (c - 3)=2 then(9,false)else(10,false)).1=Qch c:=by
 unfold Qch
 (repeat' split) <;> rfl
def W6(x:SX)(d k:Nat):List LX:= [.t (.it (.c .eql x (.i k)) (.r d 5 0 x) (.v d (5 * k))),.t (.it (.c .eql x (.i k)) (.r d 5 1 x) (.v d (5 * k+1))),.n .u32 (.it (.c .eql x (.i k)) (.r d 5 2 x) (.v d (5 * k+2))),.n .u32 (.it (.c .eql x (.i k)) (.r d 5 3 x) (.v d (5 * k+3))),.n .u32 (.it (.c .eql x (.i k)) (.r d 5 4 x) (.v d (5 * k+4)))]
theorem Qry{e:Env}{x:SX}{d k:Nat}:(W6 x d k).map (LX.den e)=(Qa d (5 * k) Qb).map (LX.den e):=by
 by_cases h:(x.den e).1=(k:Int)
 ·have h2:(x.den e).1.toNat=k:=by omega
  simp [W6,Qa,Qb,JP,LX.den,SX.den,cmI,h,h2,Nat.mul_comm,Nat.add_assoc]
 ·simp [W6,Qa,Qb,JP,LX.den,SX.den,cmI,h,Nat.add_assoc]
theorem Qrz{e:Env}{s:Nat→Qd}{x:SX}(k1:∀k,QV e 2 (5 * k)=s k) :
 PX.den e (.a (W6 x 2 0 ++ (W6 x 2 1 ++ (W6 x 2 2 ++ (W6 x 2 3 ++ (W6 x 2 4 ++ (W6 x 2 5 ++ (W6 x 2 6 ++ W6 x 2 7))))))))=Zm s:=by
 rw [show Zm s=PX.den e (.a (Qa 2 0 stK))by rw [Zy];exact QQ fun k _=>(k1 k).symm]
 simp only [PX.den,List.map_append,Qry];rfl
theorem QnZ{s:Nat→Qd}{a:Int}{X:Qd}(h0:0≤a)(hX:s a.toNat=X):Zm s=Zm (Kj s a X):=by
 refine QQ fun k _=>?_
 rw [Kj];split
 ·rename_i h;rw [←hX,h];rfl
 ·rfl
def Qq6(cc:Int)(i:Ins)(s:Nat→Qd)(tk:Bool):Env:=
 ⟨fun d=>match d with|0=>fun _=>cc|1=>Q2 i|2=>QU s|_=>fun _=>0,fun d=>match d with|2=>QI s|3=>fun _=>tk|_=>fun _=>false,fun _=>0,fun _=>none⟩
def Qmj:List Sg:= [⟨25,[.a Qc],.l none,true⟩,⟨26,[.l (some .i64)],.l (some .i64),true⟩,⟨27,[.a Qb],.l none,true⟩,⟨28,[.a Qb,.a Qb],.a Qb,true⟩,⟨29,[.l (some .u32)],.a Qb,true⟩,⟨30,[.a Qb,.l (some .u32)],.a Qb,true⟩,⟨32,[],.a Qb,true⟩,⟨31,[.l (some .u32),.l (some .u32),.l (some .u32)],.a Qb,true⟩]
def Qg1:List PX:= [.l (.n .i64 (.v 0 0)),.a (Qa 1 0 Qc),.a (Qa 2 0 stK),.l (.t (.v 3 0))]
def Qjc:List Rw:= []
def Qja:Cfg:=⟨4,Qmj,[]⟩
def Qmh:List Lf:=
 let z0:List Cd:= [.f 8 0 [.a (Qa 1 0 Qc)]]
 let z1:VX:= .v (.a (Qa 2 0 stK))
 let z2:SX:= .r 2 5 3 (.v 1 6)
 let z3:SX:= .no (.c .geq z2 (.i 2147483648))
 let z4:SX:= .c .geq (.v 1 1) (.i 2147483648)
 let z5:PX:= .a (Qh 2 (.v 1 6))
 let z6:List Cd:=(.f 23 1 [.l (.n .i64 (.v 0 0))] :: .c (.v 3 0) false :: .c (.v 8 0) true :: z0)
 let z7:List Cd:=(.f 32 2 [z5] :: .c (.c .geq (.v 23 0) (.i 3)) true :: .c (.c .leq (.v 23 0) (.i 6)) true :: z6)
 let z8:PX:= .l (.n .u32 (.v 1 1))
 let z9:SX:= .o .sub .i64 (.v 23 0) (.i 3)
 let z10:SX:= .it (.c .eql z9 (.i 0)) (.i 7) (.it (.c .eql z9 (.i 1)) (.i 8) (.it (.c .eql z9 (.i 2)) (.i 9) (.i 10)))
 let z11:Cd:= .c (.c .geq z2 (.i 2147483648)) false
 let z12:List Cd:=(.c (.v 32 0) true :: z11 :: .c z4 false :: z7)
 let z13:List Cd:=(.c (.c .eql z10 (.i 1)) false :: z12)
 let z14:Cd:= .c (.c .eql (.v 1 1) (.i 0)) true
 let z15:Cd:= .f 62 3 [z5,.a (Qa 61 0 Qb)]
 let z16:PX:= .l (.n .u32 (.i 0))
 let z17:PX:= .l (.n .u32 (.o .sub .u32 (.v 1 1) (.i 1)))
 let z18:PX:= .l (.n .u32 (.i 1))
 let z19:List Cd:=(.c (.c .eql z10 (.i 2)) false :: z13)
 let z20:List Cd:=(z15 :: .f 61 7 [z16,z17,z18] :: .c (.c .eql z10 (.i 7)) true :: z19)
 let z21:Cd:= .c (.c .eql (.v 1 1) (.i 0)) false
 let z22:VX:= .v (.a (Zf (.v 1 6) (62,0) [(2,0),(2,5),(2,10),(2,15),(2,20),(2,25),(2,30),(2,35)]))
 let z23:List Cd:=(.c (.c .eql z10 (.i 7)) false :: z19)
 let z24:VX:= .v (.a (Zf (.v 1 6) (63,0) [(2,0),(2,5),(2,10),(2,15),(2,20),(2,25),(2,30),(2,35)]))
 let z25:Cd:= .f 65 3 [z5,.a (Qa 64 0 Qb)]
 let z26:PX:= .l (.n .u32 (.i 4294967295))
 let z27:List Cd:=(.c (.c .eql z10 (.i 9)) false :: z23)
 let z28:VX:= .v (.a (Zf (.v 1 6) (65,0) [(2,0),(2,5),(2,10),(2,15),(2,20),(2,25),(2,30),(2,35)]))
 let z29:PX:= .l (.n .u32 (.o .add .u32 (.v 1 1) (.i 1)))
 let z30:List Cd:=(.c (.c .eql z10 (.i 8)) false :: z27)
 let z31:SX:= .c .eql (.v 1 6) (.i 0)
 let z32:SX:= .r 2 5 0 (.v 1 6)
 let z33:SX:= .r 2 5 1 (.v 1 6)
 let z34:SX:= .r 2 5 2 (.v 1 6)
 let z35:SX:= .r 2 5 4 (.v 1 6)
 let z36:SX:= .c .eql (.v 1 6) (.i 1)
 let z37:SX:= .c .eql (.v 1 6) (.i 2)
 let z38:SX:= .c .eql (.v 1 6) (.i 3)
 let z39:SX:= .c .eql (.v 1 6) (.i 4)
 let z40:SX:= .c .eql (.v 1 6) (.i 5)
 let z41:SX:= .c .eql (.v 1 6) (.i 6)
 let z42:SX:= .c .eql (.v 1 6) (.i 7)
 let z43:VX:= .v (.a [.t (.it z31 z32 (.v 2 0)),.t (.it z31 z33 (.v 2 1)),.n .u32 (.it z31 z34 (.v 2 2)),.n .u32 (.it z31 z2 (.v 2 3)),.n .u32 (.it z31 z35 (.v 2 4)),.t (.it z36 z32 (.v 2 5)),.t (.it z36 z33 (.v 2 6)),.n .u32 (.it z36 z34 (.v 2 7)),.n .u32 (.it z36 z2 (.v 2 8)),.n .u32 (.it z36 z35 (.v 2 9)),.t (.it z37 z32 (.v 2 10)),.t (.it z37 z33 (.v 2 11)),.n .u32 (.it z37 z34 (.v 2 12)),.n .u32 (.it z37 z2 (.v 2 13)),.n .u32 (.it z37 z35 (.v 2 14)),.t (.it z38 z32 (.v 2 15)),.t (.it z38 z33 (.v 2 16)),.n .u32 (.it z38 z34 (.v 2 17)),.n .u32 (.it z38 z2 (.v 2 18)),.n .u32 (.it z38 z35 (.v 2 19)),.t (.it z39 z32 (.v 2 20)),.t (.it z39 z33 (.v 2 21)),.n .u32 (.it z39 z34 (.v 2 22)),.n .u32 (.it z39 z2 (.v 2 23)),.n .u32 (.it z39 z35 (.v 2 24)),.t (.it z40 z32 (.v 2 25)),.t (.it z40 z33 (.v 2 26)),.n .u32 (.it z40 z34 (.v 2 27)),.n .u32 (.it z40 z2 (.v 2 28)),.n .u32 (.it z40 z35 (.v 2 29)),.t (.it z41 z32 (.v 2 30)),.t (.it z41 z33 (.v 2 31)),.n .u32 (.it z41 z34 (.v 2 32)),.n .u32 (.it z41 z2 (.v 2 33)),.n .u32 (.it z41 z35 (.v 2 34)),.t (.it z42 z32 (.v 2 35)),.t (.it z42 z33 (.v 2 36)),.n .u32 (.it z42 z34 (.v 2 37)),.n .u32 (.it z42 z2 (.v 2 38)),.n .u32 (.it z42 z35 (.v 2 39))])
 let z44:List Cd:=(.c (.an (.c .geq (.v 23 0) (.i 3)) (.c .leq (.v 23 0) (.i 6))) false :: z6)
 let z45:List Cd:=(.c (.c .eql (.v 23 0) (.i 1)) false :: z44)
 let z46:Cd:= .f 42 3 [z5,.a (Qa 41 0 Qb)]
 let z47:List Cd:=(.c (.c .eql (.v 23 0) (.i 2)) false :: z45)
 let z48:List Cd:=(z46 :: .f 41 7 [z16,z17,z18] :: .c (.c .eql (.v 23 0) (.i 7)) true :: z47)
 let z49:VX:= .v (.a (Zf (.v 1 6) (42,0) [(2,0),(2,5),(2,10),(2,15),(2,20),(2,25),(2,30),(2,35)]))
 let z50:List Cd:=(.c (.c .eql (.v 23 0) (.i 7)) false :: z47)
 let z51:VX:= .v (.a (Zf (.v 1 6) (43,0) [(2,0),(2,5),(2,10),(2,15),(2,20),(2,25),(2,30),(2,35)]))
 let z52:Cd:= .f 45 3 [z5,.a (Qa 44 0 Qb)]
 let z53:List Cd:=(.c (.c .eql (.v 23 0) (.i 9)) false :: z50)
 let z54:VX:= .v (.a (Zf (.v 1 6) (45,0) [(2,0),(2,5),(2,10),(2,15),(2,20),(2,25),(2,30),(2,35)]))
 let z55:SX:= .c .eql (.v 1 1) (.i 4294967295)
 let z56:List Cd:=(.c (.c .eql (.v 23 0) (.i 8)) false :: z53)
 let z57:List Cd:=(.f 48 3 [z5,.a (Qa 47 0 Qb)] :: .f 47 7 [z29,z26,z18] :: .c (.c .eql (.v 23 0) (.i 10)) true :: z56)
 let z58:List Cd:=(.c (.v 3 0) true :: .c (.v 8 0) true :: z0)
 let z59:List Cd:=(.f 29 2 [z5] :: .c (.c .geq (.v 0 0) (.i 3)) true :: .c (.c .leq (.v 0 0) (.i 6)) true :: z58)
 let z60:SX:= .o .sub .i64 (.v 0 0) (.i 3)
 let z61:SX:= .it (.c .eql z60 (.i 0)) (.i 7) (.it (.c .eql z60 (.i 1)) (.i 8) (.it (.c .eql z60 (.i 2)) (.i 9) (.i 10)))
 let z62:List Cd:=(.c (.v 29 0) true :: z11 :: .c z4 false :: z59)
 let z63:List Cd:=(.c (.c .eql z61 (.i 1)) false :: z62)
 let z64:List Cd:=(.c (.c .eql z61 (.i 2)) false :: z63)
 let z65:List Cd:=(.f 59 3 [z5,.a (Qa 58 0 Qb)] :: .f 58 7 [z16,z17,z18] :: .c (.c .eql z61 (.i 7)) true :: z64)
 let z66:List Cd:=(.c (.c .eql z61 (.i 7)) false :: z64)
 let z67:List Cd:=(.c (.c .eql z61 (.i 9)) false :: z66)
 let z68:List Cd:=(.c (.c .eql z61 (.i 8)) false :: z67)
 let z69:List Cd:=(.c (.an (.c .geq (.v 0 0) (.i 3)) (.c .leq (.v 0 0) (.i 6))) false :: z58)
 let z70:List Cd:=(.c (.c .eql (.v 0 0) (.i 1)) false :: z69)
 let z71:List Cd:=(.c (.c .eql (.v 0 0) (.i 2)) false :: z70)
 let z72:List Cd:=(.f 39 3 [z5,.a (Qa 38 0 Qb)] :: .f 38 7 [z16,z17,z18] :: .c (.c .eql (.v 0 0) (.i 7)) true :: z71)
 let z73:List Cd:=(.c (.c .eql (.v 0 0) (.i 7)) false :: z71)
 let z74:List Cd:=(.c (.c .eql (.v 0 0) (.i 9)) false :: z73)
 let z75:List Cd:=(.c (.c .eql (.v 0 0) (.i 8)) false :: z74)
 let z76:List Cd:=(z52 :: .f 44 7 [z29,z26,z18] :: .c (.c .eql (.v 0 0) (.i 10)) true :: z75)
 [⟨(.c (.v 8 0) false :: z0),z1⟩,⟨(.c (.an (.an (.v 32 0) z3) (.no z4)) false :: z7),z1⟩,⟨(.f 57 3 [z5,.a (Qa 56 0 Qb)] :: .f 56 4 [z8] :: .c (.c .eql z10 (.i 1)) true :: z12),.v (.a (Zf (.v 1 6) (57,0) [(2,0),(2,5),(2,10),(2,15),(2,20),(2,25),(2,30),(2,35)]))⟩,⟨(.f 58 5 [z5,z8] :: .c (.c .eql z10 (.i 2)) true :: z13),.v (.a (Zf (.v 1 6) (58,0) [(2,0),(2,5),(2,10),(2,15),(2,20),(2,25),(2,30),(2,35)]))⟩,⟨(.f 66 6 [] :: z14 :: z20),.v (.a (Zf (.v 1 6) (66,0) [(2,0),(2,5),(2,10),(2,15),(2,20),(2,25),(2,30),(2,35)]))⟩,⟨(z21 :: z20),z22⟩,⟨(.f 63 3 [z5,.a (Qa 62 0 Qb)] :: .f 62 7 [z16,z8,z18] :: .c (.c .eql z10 (.i 9)) true :: z23),z24⟩,⟨(z25 :: .f 64 7 [z8,z26,z18] :: .c (.c .eql z10 (.i 8)) true :: z27),z28⟩,⟨(.f 68 3 [z5,.a (Qa 67 0 Qb)] :: .f 67 7 [z29,z26,z18] :: .c (.c .eql z10 (.i 10)) true :: z30),.v (.a (Zf (.v 1 6) (68,0) [(2,0),(2,5),(2,10),(2,15),(2,20),(2,25),(2,30),(2,35)]))⟩,⟨(.c (.c .eql z10 (.i 10)) false :: z30),z43⟩,⟨(.f 37 3 [z5,.a (Qa 36 0 Qb)] :: .f 36 4 [z8] :: .c (.c .eql (.v 23 0) (.i 1)) true :: z44),.v (.a (Zf (.v 1 6) (37,0) [(2,0),(2,5),(2,10),(2,15),(2,20),(2,25),(2,30),(2,35)]))⟩,⟨(.f 38 5 [z5,z8] :: .c (.c .eql (.v 23 0) (.i 2)) true :: z45),.v (.a (Zf (.v 1 6) (38,0) [(2,0),(2,5),(2,10),(2,15),(2,20),(2,25),(2,30),(2,35)]))⟩,⟨(.f 46 6 [] :: z14 :: z48),.v (.a (Zf (.v 1 6) (46,0) [(2,0),(2,5),(2,10),(2,15),(2,20),(2,25),(2,30),(2,35)]))⟩,⟨(z21 :: z48),z49⟩,⟨(.f 43 3 [z5,.a (Qa 42 0 Qb)] :: .f 42 7 [z16,z8,z18] :: .c (.c .eql (.v 23 0) (.i 9)) true :: z50),z51⟩,⟨(z52 :: .f 44 7 [z8,z26,z18] :: .c (.c .eql (.v 23 0) (.i 8)) true :: z53),z54⟩,⟨(.f 52 6 [] :: .c z55 true :: z57),.v (.a (Zf (.v 1 6) (52,0) [(2,0),(2,5),(2,10),(2,15),(2,20),(2,25),(2,30),(2,35)]))⟩,⟨(.c z55 false :: z57),.v (.a (Zf (.v 1 6) (48,0) [(2,0),(2,5),(2,10),(2,15),(2,20),(2,25),(2,30),(2,35)]))⟩,⟨(.c (.c .eql (.v 23 0) (.i 10)) false :: z56),z43⟩,⟨(.c (.an (.an (.v 29 0) z3) (.no z4)) false :: z59),z1⟩,⟨(.f 54 3 [z5,.a (Qa 53 0 Qb)] :: .f 53 4 [z8] :: .c (.c .eql z61 (.i 1)) true :: z62),.v (.a (Zf (.v 1 6) (54,0) [(2,0),(2,5),(2,10),(2,15),(2,20),(2,25),(2,30),(2,35)]))⟩,⟨(.f 55 5 [z5,z8] :: .c (.c .eql z61 (.i 2)) true :: z63),.v (.a (Zf (.v 1 6) (55,0) [(2,0),(2,5),(2,10),(2,15),(2,20),(2,25),(2,30),(2,35)]))⟩,⟨(.f 63 6 [] :: z14 :: z65),z24⟩,⟨(z21 :: z65),.v (.a (Zf (.v 1 6) (59,0) [(2,0),(2,5),(2,10),(2,15),(2,20),(2,25),(2,30),(2,35)]))⟩,⟨(.f 60 3 [z5,.a (Qa 59 0 Qb)] :: .f 59 7 [z16,z8,z18] :: .c (.c .eql z61 (.i 9)) true :: z66),.v (.a (Zf (.v 1 6) (60,0) [(2,0),(2,5),(2,10),(2,15),(2,20),(2,25),(2,30),(2,35)]))⟩,⟨(z15 :: .f 61 7 [z8,z26,z18] :: .c (.c .eql z61 (.i 8)) true :: z67),z22⟩,⟨(z25 :: .f 64 7 [z29,z26,z18] :: .c (.c .eql z61 (.i 10)) true :: z68),z28⟩,⟨(.c (.c .eql z61 (.i 10)) false :: z68),z43⟩,⟨(.f 34 3 [z5,.a (Qa 33 0 Qb)] :: .f 33 4 [z8] :: .c (.c .eql (.v 0 0) (.i 1)) true :: z69),.v (.a (Zf (.v 1 6) (34,0) [(2,0),(2,5),(2,10),(2,15),(2,20),(2,25),(2,30),(2,35)]))⟩,⟨(.f 35 5 [z5,z8] :: .c (.c .eql (.v 0 0) (.i 2)) true :: z70),.v (.a (Zf (.v 1 6) (35,0) [(2,0),(2,5),(2,10),(2,15),(2,20),(2,25),(2,30),(2,35)]))⟩,⟨(.f 43 6 [] :: z14 :: z72),z51⟩,⟨(z21 :: z72),.v (.a (Zf (.v 1 6) (39,0) [(2,0),(2,5),(2,10),(2,15),(2,20),(2,25),(2,30),(2,35)]))⟩,⟨(.f 40 3 [z5,.a (Qa 39 0 Qb)] :: .f 39 7 [z16,z8,z18] :: .c (.c .eql (.v 0 0) (.i 9)) true :: z73),.v (.a (Zf (.v 1 6) (40,0) [(2,0),(2,5),(2,10),(2,15),(2,20),(2,25),(2,30),(2,35)]))⟩,⟨(z46 :: .f 41 7 [z8,z26,z18] :: .c (.c .eql (.v 0 0) (.i 8)) true :: z74),z49⟩,⟨(.f 49 6 [] :: .c z55 true :: z76),.v (.a (Zf (.v 1 6) (49,0) [(2,0),(2,5),(2,10),(2,15),(2,20),(2,25),(2,30),(2,35)]))⟩,⟨(.c z55 false :: z76),z54⟩,⟨(.c (.c .eql (.v 0 0) (.i 10)) false :: z75),z43⟩]
def Qmi:List Ob:=
 let z0:List Cd:= [.c (.v 8 0) true,.f 8 0 [.a (Qa 1 0 Qc)]]
 let z1:SX:= .c .geq (.v 1 6) (.i 0)
 let z2:SX:= .c .lss (.v 1 6) (.i 8)
 let z3:List Cd:=(.f 23 1 [.l (.n .i64 (.v 0 0))] :: .c (.v 3 0) false :: z0)
 let z4:List Cd:=(.c (.c .geq (.v 23 0) (.i 3)) true :: .c (.c .leq (.v 23 0) (.i 6)) true :: z3)
 let z5:PX:= .a (Qh 2 (.v 1 6))
 let z6:Cd:= .c (.c .geq (.r 2 5 3 (.v 1 6)) (.i 2147483648)) false
 let z7:Cd:= .c (.c .geq (.v 1 1) (.i 2147483648)) false
 let z8:List Cd:=(.c (.v 32 0) true :: z6 :: z7 :: .f 32 2 [z5] :: z4)
 let z9:SX:= .o .sub .i64 (.v 23 0) (.i 3)
 let z10:SX:= .it (.c .eql z9 (.i 0)) (.i 7) (.it (.c .eql z9 (.i 1)) (.i 8) (.it (.c .eql z9 (.i 2)) (.i 9) (.i 10)))
 let z11:List Cd:=(.c (.c .eql z10 (.i 1)) true :: z8)
 let z12:PX:= .l (.n .u32 (.v 1 1))
 let z13:List Cd:=(.c (.c .eql z10 (.i 1)) false :: z8)
 let z14:List Cd:=(.c (.c .eql z10 (.i 2)) true :: z13)
 let z15:List Cd:=(.c (.c .eql z10 (.i 2)) false :: z13)
 let z16:List Cd:=(.c (.c .eql z10 (.i 7)) true :: z15)
 let z17:PX:= .l (.n .u32 (.i 0))
 let z18:PX:= .l (.n .u32 (.o .sub .u32 (.v 1 1) (.i 1)))
 let z19:PX:= .l (.n .u32 (.i 1))
 let z20:List Cd:=(.f 61 7 [z17,z18,z19] :: z16)
 let z21:PX:= .a (Qa 61 0 Qb)
 let z22:Cd:= .c (.c .eql (.v 1 1) (.i 0)) true
 let z23:List Cd:=(z22 :: .f 62 3 [z5,z21] :: z20)
 let z24:List Cd:=(.c (.c .eql z10 (.i 7)) false :: z15)
 let z25:List Cd:=(.c (.c .eql z10 (.i 9)) true :: z24)
 let z26:List Cd:=(.f 62 7 [z17,z12,z19] :: z25)
 let z27:List Cd:=(.c (.c .eql z10 (.i 9)) false :: z24)
 let z28:List Cd:=(.c (.c .eql z10 (.i 8)) true :: z27)
 let z29:PX:= .l (.n .u32 (.i 4294967295))
 let z30:List Cd:=(.f 64 7 [z12,z29,z19] :: z28)
 let z31:PX:= .a (Qa 64 0 Qb)
 let z32:List Cd:=(.c (.c .eql z10 (.i 8)) false :: z27)
 let z33:List Cd:=(.c (.c .eql z10 (.i 10)) true :: z32)
 let z34:PX:= .l (.n .u32 (.o .add .u32 (.v 1 1) (.i 1)))
 let z35:List Cd:=(.f 67 7 [z34,z29,z19] :: z33)
 let z36:List Cd:=(.f 57 3 [z5,.a (Qa 56 0 Qb)] :: .f 56 4 [z12] :: z11)
 let z37:Cd:= .c (.c .eql (.v 1 1) (.i 0)) false
 let z38:List Cd:=(z37 :: .f 62 3 [z5,z21] :: z20)
 let z39:List Cd:=(.f 63 3 [z5,.a (Qa 62 0 Qb)] :: z26)
 let z40:List Cd:=(.f 68 3 [z5,.a (Qa 67 0 Qb)] :: z35)
 let z41:List Cd:=(.c (.c .eql z10 (.i 10)) false :: z32)
 let z42:List Cd:=(.c (.an (.c .geq (.v 23 0) (.i 3)) (.c .leq (.v 23 0) (.i 6))) false :: z3)
 let z43:List Cd:=(.c (.c .eql (.v 23 0) (.i 1)) true :: z42)
 let z44:List Cd:=(.c (.c .eql (.v 23 0) (.i 1)) false :: z42)
 let z45:List Cd:=(.c (.c .eql (.v 23 0) (.i 2)) true :: z44)
 let z46:List Cd:=(.c (.c .eql (.v 23 0) (.i 2)) false :: z44)
 let z47:List Cd:=(.c (.c .eql (.v 23 0) (.i 7)) true :: z46)
 let z48:List Cd:=(.f 41 7 [z17,z18,z19] :: z47)
 let z49:PX:= .a (Qa 41 0 Qb)
 let z50:List Cd:=(z22 :: .f 42 3 [z5,z49] :: z48)
 let z51:List Cd:=(.c (.c .eql (.v 23 0) (.i 7)) false :: z46)
 let z52:List Cd:=(.c (.c .eql (.v 23 0) (.i 9)) true :: z51)
 let z53:List Cd:=(.f 42 7 [z17,z12,z19] :: z52)
 let z54:List Cd:=(.c (.c .eql (.v 23 0) (.i 9)) false :: z51)
 let z55:List Cd:=(.c (.c .eql (.v 23 0) (.i 8)) true :: z54)
 let z56:List Cd:=(.f 44 7 [z12,z29,z19] :: z55)
 let z57:PX:= .a (Qa 44 0 Qb)
 let z58:List Cd:=(.c (.c .eql (.v 23 0) (.i 8)) false :: z54)
 let z59:List Cd:=(.c (.c .eql (.v 23 0) (.i 10)) true :: z58)
 let z60:List Cd:=(.f 47 7 [z34,z29,z19] :: z59)
 let z61:SX:= .c .eql (.v 1 1) (.i 4294967295)
 let z62:List Cd:=(.f 48 3 [z5,.a (Qa 47 0 Qb)] :: z60)
 let z63:List Cd:=(.f 37 3 [z5,.a (Qa 36 0 Qb)] :: .f 36 4 [z12] :: z43)
 let z64:List Cd:=(z37 :: .f 42 3 [z5,z49] :: z48)
 let z65:List Cd:=(.f 43 3 [z5,.a (Qa 42 0 Qb)] :: z53)
 let z66:List Cd:=(.f 52 6 [] :: .c z61 true :: z62)
 let z67:List Cd:=(.c (.c .eql (.v 23 0) (.i 10)) false :: z58)
 let z68:List Cd:=(.c (.c .geq (.v 0 0) (.i 3)) true :: .c (.c .leq (.v 0 0) (.i 6)) true :: .c (.v 3 0) true :: z0)
 let z69:List Cd:=(.c (.v 29 0) true :: z6 :: z7 :: .f 29 2 [z5] :: z68)
 let z70:SX:= .o .sub .i64 (.v 0 0) (.i 3)
 let z71:SX:= .it (.c .eql z70 (.i 0)) (.i 7) (.it (.c .eql z70 (.i 1)) (.i 8) (.it (.c .eql z70 (.i 2)) (.i 9) (.i 10)))
 let z72:List Cd:=(.c (.c .eql z71 (.i 1)) true :: z69)
 let z73:List Cd:=(.c (.c .eql z71 (.i 1)) false :: z69)
 let z74:List Cd:=(.c (.c .eql z71 (.i 2)) true :: z73)
 let z75:List Cd:=(.c (.c .eql z71 (.i 2)) false :: z73)
 let z76:List Cd:=(.c (.c .eql z71 (.i 7)) true :: z75)
 let z77:List Cd:=(.f 58 7 [z17,z18,z19] :: z76)
 let z78:List Cd:=(.f 59 3 [z5,.a (Qa 58 0 Qb)] :: z77)
 let z79:List Cd:=(.c (.c .eql z71 (.i 7)) false :: z75)
 let z80:List Cd:=(.c (.c .eql z71 (.i 9)) true :: z79)
 let z81:List Cd:=(.f 59 7 [z17,z12,z19] :: z80)
 let z82:List Cd:=(.c (.c .eql z71 (.i 9)) false :: z79)
 let z83:List Cd:=(.c (.c .eql z71 (.i 8)) true :: z82)
 let z84:List Cd:=(.f 61 7 [z12,z29,z19] :: z83)
 let z85:List Cd:=(.c (.c .eql z71 (.i 8)) false :: z82)
 let z86:List Cd:=(.c (.c .eql z71 (.i 10)) true :: z85)
 let z87:List Cd:=(.f 64 7 [z34,z29,z19] :: z86)
 let z88:List Cd:=(.f 54 3 [z5,.a (Qa 53 0 Qb)] :: .f 53 4 [z12] :: z72)
 let z89:List Cd:=(.f 60 3 [z5,.a (Qa 59 0 Qb)] :: z81)
 let z90:List Cd:=(.c (.c .eql z71 (.i 10)) false :: z85)
 let z91:List Cd:=(.c (.an (.c .geq (.v 0 0) (.i 3)) (.c .leq (.v 0 0) (.i 6))) false :: .c (.v 3 0) true :: z0)
 let z92:List Cd:=(.c (.c .eql (.v 0 0) (.i 1)) true :: z91)
 let z93:List Cd:=(.c (.c .eql (.v 0 0) (.i 1)) false :: z91)
 let z94:List Cd:=(.c (.c .eql (.v 0 0) (.i 2)) true :: z93)
 let z95:List Cd:=(.c (.c .eql (.v 0 0) (.i 2)) false :: z93)
 let z96:List Cd:=(.c (.c .eql (.v 0 0) (.i 7)) true :: z95)
 let z97:List Cd:=(.f 38 7 [z17,z18,z19] :: z96)
 let z98:List Cd:=(.f 39 3 [z5,.a (Qa 38 0 Qb)] :: z97)
 let z99:List Cd:=(.c (.c .eql (.v 0 0) (.i 7)) false :: z95)
 let z100:List Cd:=(.c (.c .eql (.v 0 0) (.i 9)) true :: z99)
 let z101:List Cd:=(.f 39 7 [z17,z12,z19] :: z100)
 let z102:List Cd:=(.c (.c .eql (.v 0 0) (.i 9)) false :: z99)
 let z103:List Cd:=(.c (.c .eql (.v 0 0) (.i 8)) true :: z102)
 let z104:List Cd:=(.f 41 7 [z12,z29,z19] :: z103)
 let z105:List Cd:=(.c (.c .eql (.v 0 0) (.i 8)) false :: z102)
 let z106:List Cd:=(.c (.c .eql (.v 0 0) (.i 10)) true :: z105)
 let z107:List Cd:=(.f 44 7 [z34,z29,z19] :: z106)
 let z108:List Cd:=(.c z61 true :: .f 45 3 [z5,z57] :: z107)
 let z109:List Cd:=(.f 34 3 [z5,.a (Qa 33 0 Qb)] :: .f 33 4 [z12] :: z92)
 let z110:List Cd:=(.f 40 3 [z5,.a (Qa 39 0 Qb)] :: z101)
 let z111:List Cd:=(.c z61 false :: .f 45 3 [z5,z57] :: z107)
 let z112:List Cd:=(.c (.c .eql (.v 0 0) (.i 10)) false :: z105)
 [.pre [] 0 [.a (Qa 1 0 Qc)],.cl z0 z1,.cl z0 z2,.pre (.c (.v 3 0) false :: z0) 1 [.l (.n .i64 (.v 0 0))],.pre z4 2 [z5],.cl z8 (.c .geq z9 (.i 0)),.cl z8 (.c .lss z9 (.i 4)),.pre z11 4 [z12],.pre (.f 56 4 [z12] :: z11) 3 [z5,.a (Qa 56 0 Qb)],.pre z14 5 [z5,z12],.pre z16 7 [z17,z18,z19],.pre z20 3 [z5,z21],.pre z23 6 [],.pre z25 7 [z17,z12,z19],.pre z26 3 [z5,.a (Qa 62 0 Qb)],.pre z28 7 [z12,z29,z19],.pre z30 3 [z5,z31],.pre z33 7 [z34,z29,z19],.pre z35 3 [z5,.a (Qa 67 0 Qb)],.cl z36 z1,.cl z36 z2,.cl (.f 58 5 [z5,z12] :: z14) z1,.cl (.f 58 5 [z5,z12] :: z14) z2,.cl (.f 66 6 [] :: z23) z1,.cl (.f 66 6 [] :: z23) z2,.cl z38 z1,.cl z38 z2,.cl z39 z1,.cl z39 z2,.cl (.f 65 3 [z5,z31] :: z30) z1,.cl (.f 65 3 [z5,z31] :: z30) z2,.cl z40 z1,.cl z40 z2,.cl z41 z1,.cl z41 z2,.pre z43 4 [z12],.pre (.f 36 4 [z12] :: z43) 3 [z5,.a (Qa 36 0 Qb)],.pre z45 5 [z5,z12],.pre z47 7 [z17,z18,z19],.pre z48 3 [z5,z49],.pre z50 6 [],.pre z52 7 [z17,z12,z19],.pre z53 3 [z5,.a (Qa 42 0 Qb)],.pre z55 7 [z12,z29,z19],.pre z56 3 [z5,z57],.pre z59 7 [z34,z29,z19],.pre z60 3 [z5,.a (Qa 47 0 Qb)],.pre (.c z61 true :: z62) 6 [],.cl z63 z1,.cl z63 z2,.cl (.f 38 5 [z5,z12] :: z45) z1,.cl (.f 38 5 [z5,z12] :: z45) z2,.cl (.f 46 6 [] :: z50) z1,.cl (.f 46 6 [] :: z50) z2,.cl z64 z1,.cl z64 z2,.cl z65 z1,.cl z65 z2,.cl (.f 45 3 [z5,z57] :: z56) z1,.cl (.f 45 3 [z5,z57] :: z56) z2,.cl z66 z1,.cl z66 z2,.cl (.c z61 false :: z62) z1,.cl (.c z61 false :: z62) z2,.cl z67 z1,.cl z67 z2,.pre z68 2 [z5],.cl z69 (.c .geq z70 (.i 0)),.cl z69 (.c .lss z70 (.i 4)),.pre z72 4 [z12],.pre (.f 53 4 [z12] :: z72) 3 [z5,.a (Qa 53 0 Qb)],.pre z74 5 [z5,z12],.pre z76 7 [z17,z18,z19],.pre z77 3 [z5,.a (Qa 58 0 Qb)],.pre (z22 :: z78) 6 [],.pre z80 7 [z17,z12,z19],.pre z81 3 [z5,.a (Qa 59 0 Qb)],.pre z83 7 [z12,z29,z19],.pre z84 3 [z5,z21],.pre z86 7 [z34,z29,z19],.pre z87 3 [z5,z31],.cl z88 z1,.cl z88 z2,.cl (.f 55 5 [z5,z12] :: z74) z1,.cl (.f 55 5 [z5,z12] :: z74) z2,.cl (.f 63 6 [] :: z22 :: z78) z1,.cl (.f 63 6 [] :: z22 :: z78) z2,.cl (z37 :: z78) z1,.cl (z37 :: z78) z2,.cl z89 z1,.cl z89 z2,.cl (.f 62 3 [z5,z21] :: z84) z1,.cl (.f 62 3 [z5,z21] :: z84) z2,.cl (.f 65 3 [z5,z31] :: z87) z1,.cl (.f 65 3 [z5,z31] :: z87) z2,.cl z90 z1,.cl z90 z2,.pre z92 4 [z12],.pre (.f 33 4 [z12] :: z92) 3 [z5,.a (Qa 33 0 Qb)],.pre z94 5 [z5,z12],.pre z96 7 [z17,z18,z19],.pre z97 3 [z5,.a (Qa 38 0 Qb)],.pre (z22 :: z98) 6 [],.pre z100 7 [z17,z12,z19],.pre z101 3 [z5,.a (Qa 39 0 Qb)],.pre z103 7 [z12,z29,z19],.pre z104 3 [z5,z49],.pre z106 7 [z34,z29,z19],.pre z107 3 [z5,z57],.pre z108 6 [],.cl z109 z1,.cl z109 z2,.cl (.f 35 5 [z5,z12] :: z94) z1,.cl (.f 35 5 [z5,z12] :: z94) z2,.cl (.f 43 6 [] :: z22 :: z98) z1,.cl (.f 43 6 [] :: z22 :: z98) z2,.cl (z37 :: z98) z1,.cl (z37 :: z98) z2,.cl z110 z1,.cl z110 z2,.cl (.f 42 3 [z5,z49] :: z104) z1,.cl (.f 42 3 [z5,z49] :: z104) z2,.cl (.f 49 6 [] :: z108) z1,.cl (.f 49 6 [] :: z108) z2,.cl z111 z1,.cl z111 z2,.cl z112 z1,.cl z112 z2]
theorem Qjb:QS Tryz.prog Qja 2000 Tryz.f8 Qg1 Qjc=some (Qmh,Qmi):=by kernel_rfl
set_option maxHeartbeats 8000000 in
theorem Qlp(cc:Int)(i:Ins)(s:Nat→Qd)(tk:Bool)(h:KT cc∧i.wf∧∀k,(s k).wf)(w:World):Calls Tryz.prog 8 #[.int .i64 cc,i.val,Zm s,.bool tk] w (Ret (Zm (ZE cc i s tk)) w):=by
 refine Q5 (C:= [WL,QqN,Vo,QkS,JR,Qbu,VQ,J5]) (I:= []) Qo rfl Tryz.func8 Qjb (Qq6 cc i s tk) w rfl (fun r hr=>(List.not_mem_nil hr).elim) _ ?_ ?_
 ·refine⟨?_,?_,?_,?_,?_,?_,?_,?_,?_,?_,?_,?_,?_,?_,?_,?_,?_,?_,?_,?_,?_,?_,?_,?_,?_,?_,?_,?_,?_,?_,?_,?_,?_,?_,?_,?_,?_,?_,?_,?_,?_,?_,?_,?_,?_,?_,?_,?_,?_,?_,?_,?_,?_,?_,?_,?_,?_,?_,?_,?_,?_,?_,?_,?_,?_,?_,?_,?_,?_,?_,?_,?_,?_,?_,?_,?_,?_,?_,?_,?_,?_,?_,?_,?_,?_,?_,?_,?_,?_,?_,?_,?_,?_,?_,?_,?_,?_,?_,?_,?_,?_,?_,?_,?_,?_,?_,?_,?_,?_,?_,?_,?_,?_,?_,?_,?_,?_,?_,?_,?_,?_,?_,?_,?_,?_,?_,?_,?_,trivial⟩
  all_goals
   intro e he hc;have h00:e.int 0 0=cc:=congrFun (he 0 (by decide)).1 0
   have h0:e.int 1=Q2 i:=(he 1 (by decide)).1
   have hi:=Zi h0;have h3:e.bool 3 0=tk:=congrFun (he 3 (by decide)).2.1 0
   have k1:=QW (he 2 (by decide)).1 (he 2 (by decide)).2.1
   have k5:∀n,QV e 2 (n * 5)=s n:=fun n=>by rw [Nat.mul_comm];exact k1 n
   clear he
   simp only [QC,Ze,Cd.holds,SX.den,cmI,PX.den,LX.den,VX.sat,List.map_cons,List.map_nil,List.append_nil,beq_iff_eq,bne_iff_ne,beq_eq_false_iff_ne,bne_eq_false_iff_eq,decide_eq_true_eq,decide_eq_false_iff_not,Bool.and_eq_true,Bool.and_eq_false_iff,ne_eq,List.getElem?_cons_zero,List.getElem?_cons_succ,Option.some.injEq,exists_eq_left',Q1,QH,Qr,Q0,QE,QY,Qy,QF,WL,QqN,Vo,QkS,JR,Qbu,VQ,J5,h0,Q2,hi,h00,h3,arI,true_and,k5]at hc ⊢
  all_goals
   have hcm:Vf i=true:=by clear h0 hi k1 h00 h3 k5;grind
   have hr:=Qc3 hcm;have hn:Zk i.imm:=h.2.1.2.1;have hw:=h.2.2 i.a.toNat
  all_goals
   first
    |omega
    |exact hw
    |exact⟨hw,hn⟩
    |exact hn
    |(simp only [IntKind.wrap_i64];omega)
    |(simp only [Zk];omega)
    |exact⟨by simp only [Zk];omega,QR _,by simp only [Zk];omega⟩
    |exact⟨QR _,by simp only [Zk];omega,by simp only [Zk];omega⟩
    |exact⟨by simp only [Zk];omega,hn,by simp only [Zk];omega⟩
    |exact⟨hn,by simp only [Zk];omega,by simp only [Zk];omega⟩
    |(refine⟨hw,?_⟩;rw [Qk hc.1.1 hc.1.2];exact ZJ hn)
    |(refine⟨hw,?_⟩;rw [Qk hc.1.1 hc.1.2];exact Z7 _ _ _ (by first|omega|exact hn.1|exact(QR _).1) (by first|omega|exact hn.2|exact(QR _).2) (by first|omega|exact hn.1|exact(QR _).1) (by first|omega|exact hn.2|exact(QR _).2) (by omega) (by omega))
    |(refine decide_eq_true ?_
      rw [IntKind.wrap_i64];have g1:=of_decide_eq_true hc.2.2.2.2.1;have g2:=of_decide_eq_true hc.2.2.2.2.2.1;omega)
 refine⟨?_,?_,?_,?_,?_,?_,?_,?_,?_,?_,?_,?_,?_,?_,?_,?_,?_,?_,?_,?_,?_,?_,?_,?_,?_,?_,?_,?_,?_,?_,?_,?_,?_,?_,?_,?_,?_,trivial⟩
 all_goals
  intro e u he hc hs;have h00:e.int 0 0=cc:=congrFun (he 0 (by decide)).1 0
  have h0:e.int 1=Q2 i:=(he 1 (by decide)).1
  have hi:=Zi h0;have h3:e.bool 3 0=tk:=congrFun (he 3 (by decide)).2.1 0
  have k1:=QW (he 2 (by decide)).1 (he 2 (by decide)).2.1
  have h6:e.int 1 6=i.a:=by rw [h0];rfl
  rw [Jh hs];clear hs he;have k5:∀n,QV e 2 (n * 5)=s n:=fun n=>by rw [Nat.mul_comm];exact k1 n
  simp only [QC,Ze,Cd.holds,SX.den,cmI,PX.den,LX.den,VX.sat,List.map_cons,List.map_nil,List.append_nil,beq_iff_eq,bne_iff_ne,beq_eq_false_iff_ne,bne_eq_false_iff_eq,decide_eq_true_eq,decide_eq_false_iff_not,Bool.and_eq_true,Bool.and_eq_false_iff,ne_eq,List.getElem?_cons_zero,List.getElem?_cons_succ,Option.some.injEq,exists_eq_left',Q1,QH,Qr,Q0,QE,QY,Qy,QF,WL,QqN,Vo,QkS,JR,Qbu,VQ,J5,h0,Q2,hi,h00,h3,arI,true_and,k5]at hc
  have hh:e.int 2 (i.a.toNat * 5+3)=(s i.a.toNat).hi:=by rw [←k5];rfl
  (try simp only [QsH,hh]at hc)
  clear h0 h00 h3 hi hh
 ·rw [Zy,ZE,if_neg (by rw [←congrFun hc.2.1.2 0,hc.1];decide)]
  exact QQ fun k _=>k1 k
 all_goals
  have hcm:Vf i=true:=by clear k1 h6 k5;grind
  have hr:=Qc3 hcm;rw [ZE,if_pos hcm]
 all_goals
  first
   |(rw [Qbb k1 h6 (Qk hc.1.1 hc.1.2),Qk hc.2.1.1 hc.2.1.2];refine congrArg Zm (congrArg (Kj s i.a) ?_))
   |(rw [Qbb k1 h6 (Qk hc.1.1 hc.1.2)];refine congrArg Zm (congrArg (Kj s i.a) ?_))
   |(rw [Qbb k1 h6 (Qk hc.2.1.1 hc.2.1.2),Qk hc.2.2.1.1 hc.2.2.1.2];refine congrArg Zm (congrArg (Kj s i.a) ?_))
   |(refine Eq.trans (Qrz (x:= .v 1 6) k1) (QnZ hr.1 ?_))
   |(rw [Zy,QQ fun k _=>k1 k];refine QnZ hr.1 ?_)
 all_goals
  clear k1 h6 k5 h hr hcm;have g1:=Qdz (e.int 23 0);have g2:=Qdz cc
  grind [J8,Kg]
def Yz:Con Tryz.prog:= .mk' ⟨8,[.l (some .i64),.a Qc,.a stK,.l none],.a stK,true⟩
 (fun ads=>match ads with| [d1,d2,d3,d4]=>KT (Q3 d1)∧(QL d2).wf∧∀k,((stD d3) k).wf|_=>False)
 (fun ads=>match ads with| [d1,d2,d3,d4]=>QU (ZE (Q3 d1) (QL d2) (stD d3) (WD d4))|_=>fun _=>0)
 (fun ads=>match ads with| [d1,d2,d3,d4]=>QI (ZE (Q3 d1) (QL d2) (stD d3) (WD d4))|_=>fun _=>false)
 ⟨_,Tryz.func8,by kernel_rfl,by kernel_rfl⟩ (fun ads w hf hp=>by
   obtain⟨d1,_,rfl,f1,hf⟩:=Qg hf;obtain⟨d2,_,rfl,f2,hf⟩:=Qg hf;obtain⟨d3,_,rfl,f3,hf⟩:=Qg hf;obtain⟨d4,_,rfl,f4,hf⟩:=Qg hf;obtain rfl:=Qm hf;show Calls _ _ #[d1.val,d2.val,d3.val,d4.val] w _;rw [QB f1,Zd f2,Jn f3,QcK f4];exact Qlp (Q3 d1) (QL d2) (stD d3) (WD d4) hp w)
end Go.Proofs.YteplnamfpodmlaaGreat
end
section
namespace Go.Proofs.YteplnamfpodmlaaGreat.T2
def QaL(m:Nat→Bool)(v:Bool)(k:Nat):Nat→Int
 |0=> -1
 |n+1=>if v=m k then(k:Int)else QaL m v (k+1) n
def XQ(m:Nat→Bool)(n:Nat)(v:Bool):Int:=QaL m v 0 n
def YE(m:Nat→Bool)(n:Nat)(v:Bool)(k:Int):Prop:=0≤k∧k≤n∧QaL m v k.toNat (n - k.toNat)=XQ m n v
theorem QeR{m:Nat→Bool}{n:Nat}{v:Bool}{k:Int}(h:YE m n v k)(hk:k < n)(hv:¬v=m k.toNat):YE m n v (k+1):=by
 obtain⟨h1,h2,h3⟩:=h;refine⟨by omega,by omega,?_⟩
 rw [←h3,show n - k.toNat=(n - (k+1).toNat)+1 by omega,show(k+1).toNat=k.toNat+1 by omega]
 rw [QaL,if_neg hv]
theorem QeQ{m:Nat→Bool}{n:Nat}{v:Bool}{k:Int}(h:YE m n v k)(hk:k < n)(hv:v=m k.toNat):k=XQ m n v:=by
 obtain⟨h1,h2,h3⟩:=h;rw [←h3,show n - k.toNat=(n - (k+1).toNat)+1 by omega]
 rw [QaL,if_pos hv];omega
theorem QhC{m:Nat→Bool}{n:Nat}{v:Bool}{k:Int}(h:YE m n v k)(hk:¬k < n):(-1:Int)=XQ m n v:=by
 obtain⟨h1,h2,h3⟩:=h;rw [←h3,show n - k.toNat=0 by omega]
 rfl
theorem Qrb{n:Nat}(h:(n:Int) < 2 ^ 63){k:Int}(h0:0≤k)(hk:k < n):IntKind.i64.wrap (k+1)=k+1:=by
 rw [IntKind.wrap_i64];omega
def QpX:List Sg:= []
def Qkj:List PX:= [.l (.sl 0 (.v 2 0)),.l (.t (.v 1 0))]
def Qns:List Rw:= [⟨0,[none],(.v 2 0)⟩]
def Qnq:Cfg:=⟨4,QpX,[⟨14,2,0,[.num (.s 8) (some .i64)],8,.inr (.v 2 0),false⟩],[],[]⟩
def QpV:List Lf:= [⟨[.c (.eq (.v 1 0) (.r 0 1 0 (.v 20 0))) true,.c (.c .geq (.v 20 0) (.i 0)) true,.c (.c .geq (.v 2 0) (.i 0)) true,.c (.c .lss (.v 20 0) (.v 2 0)) true,.g 20 0 0],.v (.l (.n .i64 (.v 20 0))),[]⟩,
 ⟨[.c (.c .lss (.v 20 0) (.v 2 0)) false,.g 20 0 0],.v (.l (.n .i64 (.i (-1)))),[]⟩]
def QpW:List Ob:=
 let z0:SX:= .c .geq (.v 2 0) (.i 0)
 let z1:List Cd:= [.c (.c .lss (.v 20 0) (.v 2 0)) true,.g 20 0 0]
 let z2:List Cd:=(.c (.eq (.v 1 0) (.r 0 1 0 (.v 20 0))) false :: .c (.c .geq (.v 20 0) (.i 0)) true :: .c z0 true :: z1)
 let z3:SX:= .o .add .i64 (.v 20 0) (.i 1)
 [.cl [] z0,.inv [.c z0 true] 0 20 [.n .i64 (.i 0)] [],.cl z1 (.c .geq (.v 20 0) (.i 0)),.cl z1 z0,.inv z2 0 20 [.n .i64 z3] [],.cl z2 (.c .lss (.v 20 0) z3),.cl z2 (.c .lss (.v 20 0) (.v 2 0))]
theorem Qnr:QS Tryz.prog Qnq 1000 4 14 Tryz.f14 Qkj Qns=some (QpV,QpW):=by kernel_rfl
theorem Qor(base:Option Addr)(cap:Nat)(int:Nat→Int)(m:Nat→Bool)(n:Nat)(v:Bool)(hn:(n:Int) < 2 ^ 63)(w:World)(hr:XW w base n [none] int m) :
 Calls Tryz.prog 14 #[.slice base n cap,.bool v] w (Ret (.int .i64 (XQ m n v)) w):=by
 refine J9 (C:= []) (I:= [fun d e=>YE m n v (e.int d 0)]) Qo rfl Tryz.func14 Qnr (Yu [nmR base cap int m,nmT v,nmN n]) w ?_ ?_ _ ?_ ?_
 ·rfl
 ·intro r hr0;rw [List.mem_singleton.1 hr0];exact hr
 ·refine⟨?_,?_,?_,?_,?_,?_,?_,trivial⟩
  all_goals
   intro e he hc;have h0:e.nm 0=nmR base cap int m:=he 0 (by decide)
   have h1:e.nm 1=nmT v:=he 1 (by decide)
   have h2:e.nm 2=nmN n:=he 2 (by decide)
   simp only [QC,Ze,Cd.holds,dv1,dv2,di1,db2,dr1,dr2,dq1,dq2,do1,Xc,Xb,ZY,ZX,Xa,ZZ,ZW,ZV,ZU,ZT,Xe,Xd,Jc,Jb,XY,XX,Ja,XZ,List.map_cons,List.map_nil,Nat.mul_one,Nat.add_zero,List.getElem?_cons_zero,List.getElem?_cons_succ,Option.some.injEq,exists_eq_left',and_true,Env.int,Env.bool,h0,h1,h2,nmR,nmT,nmN,nmI,nmB,Jz,Wf,Xp (Nat.le_refl _)]at hc ⊢
   first
    |omega
    |(refine⟨by omega,by omega,rfl⟩;done)
    |(rw [Qrb hn hc.2.2.2.2.1 hc.2.2.2.1];first|exact QeR hc.2.2.2.2 hc.2.2.2.1 hc.1|omega)
    |exact hc.2.1
    |exact hc.2.2.2.2.1
    |exact hc.2.2.2.2.2.1
 ·refine⟨?_,?_,trivial⟩
  all_goals
   intro e u he hc hs;have h0:e.nm 0=nmR base cap int m:=he 0 (by decide)
   have h1:e.nm 1=nmT v:=he 1 (by decide)
   have h2:e.nm 2=nmN n:=he 2 (by decide)
   simp only [QC,Ze,Cd.holds,dv1,dv2,di1,db2,dr1,dr2,dq1,dq2,do1,Xc,Xb,ZY,ZX,Xa,ZZ,ZW,ZV,ZU,ZT,Xe,Xd,Jc,Jb,XY,XX,Ja,XZ,List.map_cons,List.map_nil,Nat.mul_one,Nat.add_zero,List.getElem?_cons_zero,List.getElem?_cons_succ,Option.some.injEq,exists_eq_left',and_true,Env.int,Env.bool,h0,h1,h2,nmR,nmT,nmN,nmI,nmB,Xp (Nat.le_refl _)]at hc;rw [show u=_ from hs]
   simp only [PX.den,LX.den,dv1,di1];have hI:YE m n v ((e.nm 20).int 0):=by(have hpq:=hc;(repeat (first|exact hpq|exact hpq.1|replace hpq:=hpq.2));done)
   first
    |rw [QeQ hI (by(have hpq:=hc;(repeat (first|exact hpq|exact hpq.1|replace hpq:=hpq.2));done)) (by(have hpq:=hc;(repeat (first|exact hpq|exact hpq.1|replace hpq:=hpq.2));done))]
    |rw [QhC hI (by(have hpq:=hc;(repeat (first|exact hpq|exact hpq.1|replace hpq:=hpq.2));done))]
def QfE:Kon Tryz.prog:=Kon.fn 14 [.sl [none],.l none] (.l (some .i64)) false (fun ads=>match ads with| [d1,_]=>(Xz d1.val:Int) < 2 ^ 63|_=>False)
 (fun ads=>match ads with| [d1,d2]=>fun _=>XQ d1.bool (Xz d1.val) (WD d2)|_=>fun _=>0) (fun _ _=>false) ⟨_,Tryz.func14,by kernel_rfl,by kernel_rfl⟩ (fun h=>by cases h) (fun ads w hf hp=>by
   obtain⟨d1,_,rfl,f1,hf⟩:=Qg hf;obtain⟨d2,_,rfl,f2,hf⟩:=Qg hf;obtain rfl:=Qm hf;obtain⟨g1,g2⟩:=VO f1;show Calls _ _ #[d1.val,d2.val] w _;rw [g1,QcK f2];exact Qor _ _ d1.int _ _ _ hp w g2)
def Q9(i:Ins):List Int:=if Qv i=true then(if YO i=true then [i.imm]else []) ++ (if KQ i=true then []else [VY i])else []
def Ju(l:List Int)(m m':Nm):Prop:=m.int 0=(l.length:Int)∧∀k x,l[k]?=some x→m'.int k=x
theorem QfX{e:Env}{B:Nat}{w:World}{ks:List (Option IntKind)}:∃m m',PX.den e (.l .ns)=RZ.val m m' (.s ks)∧Ju [] m m'∧RZ.mem B w m m' (.s ks):=
 ⟨Nm.zero,Nm.zero,rfl,⟨rfl,fun k x h=>by simp at h⟩,Nat.le_refl _,.inl ⟨rfl,rfl⟩⟩
theorem QfY{e:Env}{B:Nat}{w:World}{ks:List (Option IntKind)}{d n:Nat}(h:Own B w (e.base d) n (e.cap d) ks (e.int d) (e.bool d))(l:List Int)(hl:l.length=n)(hc:∀k x,l[k]?=some x→e.int d k=x) :
 ∃m m',PX.den e (.l (.sl d (.i n)))=RZ.val m m' (.s ks)∧Ju l m m'∧RZ.mem B w m m' (.s ks):=
 ⟨nmN n,e.nm d,rfl,⟨by rw [hl];rfl,hc⟩,h⟩
def Qkp:List Sg:= [⟨33,[.a Qc],.b (.l none),true,false⟩,⟨65,[.a Qc],.b (.tp [.inl (some .u32),.inl none]),true,false⟩,⟨66,[.a Qc],.b (.l none),true,false⟩,⟨67,[.a Qc],.b (.l (some .u32)),true,false⟩]
def Qe7:List PX:= [.a (Qa 0 0 Qc)]
def Qhn:List Rw:= []
def Qhl:Cfg:=⟨2,Qkp,[],[],[]⟩
def Qkn:List Lf:=
 let z0:PX:= .a (Qa 0 0 Qc)
 let z1:List Bk:= [⟨2,.cells 41 (Qa 0 0 Qc)⟩]
 let z2:List LX:= [.n .u32 (.v 30 0)]
 let z3:List Cd:= [.f 30 1 [(z0,0)],.c (.v 14 0) true,.f 14 0 [(z0,0)]]
 let z4:List Cd:=(.f 82 2 [(z0,0)] :: .u 70 none (.i 0) 1 0 z2 :: .c (.v 30 1) true :: z3)
 let z5:List Cd:=(.f 62 2 [(z0,0)] :: .c (.v 30 1) false :: z3)
 [⟨[.c (.v 14 0) false,.f 14 0 [(z0,0)]],.v (.l (.ns)),z1⟩,⟨(.u 106 (some 70) (.i 1) 1 0 [.n .u32 (.v 98 0)] :: .f 98 3 [(z0,0)] :: .c (.v 82 0) false :: z4),.v (.l (.sl 106 (.i 2))),[⟨2,.cells 41 (Qa 0 0 Qc)⟩,⟨66,.cells 23 z2⟩,⟨102,.cells 23 [.n .u32 (.v 98 0)]⟩,⟨106,.row [some .u32] (.i 2) 106⟩]⟩,⟨(.c (.v 82 0) true :: z4),.v (.l (.sl 70 (.i 1))),[⟨2,.cells 41 (Qa 0 0 Qc)⟩,⟨66,.cells 23 z2⟩,⟨70,.row [some .u32] (.i 1) 70⟩]⟩,⟨(.u 86 none (.i 0) 1 0 [.n .u32 (.v 78 0)] :: .f 78 3 [(z0,0)] :: .c (.v 62 0) false :: z5),.v (.l (.sl 86 (.i 1))),[⟨2,.cells 41 (Qa 0 0 Qc)⟩,⟨82,.cells 23 [.n .u32 (.v 78 0)]⟩,⟨86,.row [some .u32] (.i 1) 86⟩]⟩,⟨(.c (.v 62 0) true :: z5),.v (.l (.ns)),z1⟩]
def Qko:List Ob:=
 let z0:PX:= .a (Qa 0 0 Qc)
 let z1:List Cd:= [.c (.v 14 0) true,.f 14 0 [(z0,0)]]
 let z2:List Cd:=(.u 70 none (.i 0) 1 0 [.n .u32 (.v 30 0)] :: .c (.v 30 1) true :: .f 30 1 [(z0,0)] :: z1)
 let z3:List Cd:=(.c (.v 30 1) false :: .f 30 1 [(z0,0)] :: z1)
 [.pre [] 0 [(z0,0)],.pre z1 1 [(z0,0)],.pre z2 2 [(z0,0)],.pre (.c (.v 82 0) false :: .f 82 2 [(z0,0)] :: z2) 3 [(z0,0)],.pre z3 2 [(z0,0)],.pre (.c (.v 62 0) false :: .f 62 2 [(z0,0)] :: z3) 3 [(z0,0)]]
theorem Qhm:QS Tryz.prog Qhl 1000 4 38 Tryz.f38 Qe7 Qhn=some (Qkn,Qko):=by kernel_rfl
theorem Qi3(i:Ins)(w:World):Calls Tryz.prog 38 #[i.val] w fun en w'=>∃m m',en= .returned ((RZ.s [some .u32]).val m m')∧Below w.heap.size w w'∧Ju (Q9 i) m m'∧(RZ.s [some .u32]).mem w.heap.size w' m m':=by
 refine WR (C:= [VT.kon,QhM.kon,QqK.kon,QqM.kon]) (I:= []) Qo rfl Tryz.func38 Qhm (Yu [nmI (Q2 i)]) w rfl (fun r hr=>(List.not_mem_nil hr).elim) (.s [some .u32]) _ ?_ ?_
 ·refine⟨?_,?_,?_,?_,?_,?_,trivial⟩
  all_goals
   intro e he hc;trivial
 ·refine⟨?_,?_,?_,?_,?_,trivial⟩
  all_goals
   intro e u w' he hc hs hb;have h0:e.nm 0=nmI (Q2 i):=he 0 (by decide)
   have hi:QdU e 0=i:=Zi e 0 (show(e.nm 0).int=_ by rw [h0];rfl)
   rw [show u=_ from hs]
   simp only [QC,Ze,Cd.holds,dv1,dv2,di1,db2,dr1,dr2,dq1,dq2,do1,Xc,Xb,ZY,ZX,Xa,ZZ,ZW,ZV,ZU,ZT,Xe,Xd,Jc,Jb,XY,XX,Ja,XZ,List.map_cons,List.map_nil,Nat.mul_one,Nat.add_zero,List.getElem?_cons_zero,List.getElem?_cons_succ,Option.some.injEq,exists_eq_left',and_true,Env.int,Env.bool,Con.kon_post,Q1,VT,QhM,QqK,QqM,Qr,hi,Jk]at hc
  ·rw [show Q9 i= []by unfold Q9;rw [if_neg];rw [←congrFun hc.2.2 0,hc.1];decide]
   exact QfX
  ·obtain⟨⟨c1, -⟩,⟨c2, -⟩,c3,⟨-,c4⟩,⟨c5, -⟩,c6,⟨c7,c8⟩,c9, -,c10⟩:=hc;replace c9:Qv i=true:=by rw [c10]at c9;exact c9
   replace c6:=(congrFun c8 1).symm.trans c6;replace c3:=(congrFun c4 0).symm.trans c3;rw [show Q9 i= [i.imm,VY i]by unfold Q9;rw [if_pos c9,if_pos c6,c3];rfl]
   refine QfY (n:=2) hb.2.2.2.1 _ rfl fun k x hk=>?_
   rw [show e.int 106 k=_ from congrFun c1 k,c5]
   simp only [li,dv1,c2,c7,if_pos c6]
   match k,hk with
   |0,hk=>cases hk;rfl
   |1,hk=>cases hk;rfl
  ·obtain⟨c3,⟨-,c4⟩,⟨c5, -⟩,c6,⟨c7,c8⟩,c9, -,c10⟩:=hc;replace c9:Qv i=true:=by rw [c10]at c9;exact c9
   replace c6:=(congrFun c8 1).symm.trans c6;replace c3:=(congrFun c4 0).symm.trans c3;rw [show Q9 i= [i.imm]by unfold Q9;rw [if_pos c9,if_pos c6,c3];rfl]
   refine QfY (n:=1) hb.2.2.1 _ rfl fun k x hk=>?_
   rw [show e.int 70 k=_ from congrFun c5 k]
   simp only [li,dv1,c7,if_pos c6]
   match k,hk with
   |0,hk=>cases hk;rfl
  ·obtain⟨⟨c1, -⟩,⟨c2, -⟩,c3,⟨-,c4⟩,c6,⟨c7,c8⟩,c9, -,c10⟩:=hc;replace c9:Qv i=true:=by rw [c10]at c9;exact c9
   replace c6:=(congrFun c8 1).symm.trans c6;replace c3:=(congrFun c4 0).symm.trans c3;rw [show Q9 i= [VY i]by unfold Q9;rw [if_pos c9,c6,c3];rfl]
   refine QfY (n:=1) hb.2.2.1 _ rfl fun k x hk=>?_
   rw [show e.int 86 k=_ from congrFun c1 k]
   simp only [li,dv1,c2]
   match k,hk with
   |0,hk=>cases hk;rfl
  ·obtain⟨c3,⟨-,c4⟩,c6,⟨c7,c8⟩,c9, -,c10⟩:=hc;replace c9:Qv i=true:=by rw [c10]at c9;exact c9
   replace c6:=(congrFun c8 1).symm.trans c6;replace c3:=(congrFun c4 0).symm.trans c3;rw [show Q9 i= []by unfold Q9;rw [if_pos c9,c6,c3];rfl]
   exact QfX
def Qbs:Kon Tryz.prog where
 sg:=⟨38,[.a Qc],.s [some .u32],false,true⟩
 pre _:=True
 post ads m m':=match ads with| [d1]=>Ju (Q9 (QL d1)) m m'|_=>True
 body:=⟨_,Tryz.func38,by kernel_rfl,by kernel_rfl⟩
 free _ _:=trivial
 flat h:=by cases h
 total h:=by cases h
 same h:=by cases h
 sound ads w hf hp:=by
  obtain⟨d1,_,rfl,f1,hf⟩:=Qg hf;obtain rfl:=Qm hf;show Calls _ _ #[d1.val] w _;rw [Zd f1];exact Qi3 _ w
end Go.Proofs.YteplnamfpodmlaaGreat.T2
end
section
namespace Go.Proofs.YteplnamfpodmlaaGreat
def QpF:List Sg:= [⟨45,[.a Qb,.a Qb],.a Qb,true⟩]
def QjC:List PX:= [.a (Qa 0 0 stK),.a (Qa 1 0 stK)]
def QmL:List Rw:= []
def QmJ:Cfg:=⟨2,QpF,[]⟩
def QpD:List Lf:= [⟨[.f 143 0 [.a (Qa 0 35 Qb),.a (Qa 1 35 Qb)],.f 125 0 [.a (Qa 0 30 Qb),.a (Qa 1 30 Qb)],.f 107 0 [.a (Qa 0 25 Qb),.a (Qa 1 25 Qb)],.f 89 0 [.a (Qa 0 20 Qb),.a (Qa 1 20 Qb)],.f 71 0 [.a (Qa 0 15 Qb),.a (Qa 1 15 Qb)],.f 53 0 [.a (Qa 0 10 Qb),.a (Qa 1 10 Qb)],.f 35 0 [.a (Qa 0 5 Qb),.a (Qa 1 5 Qb)],.f 17 0 [.a (Qa 0 0 Qb),.a (Qa 1 0 Qb)]],.v (.a (QbD [(17,0),(35,0),(53,0),(71,0),(89,0),(107,0),(125,0),(143,0)]))⟩]
def QpE:List Ob:=
 let z0:List Cd:= [.f 17 0 [.a (Qa 0 0 Qb),.a (Qa 1 0 Qb)]]
 let z1:List Cd:=(.f 35 0 [.a (Qa 0 5 Qb),.a (Qa 1 5 Qb)] :: z0)
 let z2:List Cd:=(.f 53 0 [.a (Qa 0 10 Qb),.a (Qa 1 10 Qb)] :: z1)
 let z3:List Cd:=(.f 71 0 [.a (Qa 0 15 Qb),.a (Qa 1 15 Qb)] :: z2)
 let z4:List Cd:=(.f 89 0 [.a (Qa 0 20 Qb),.a (Qa 1 20 Qb)] :: z3)
 let z5:List Cd:=(.f 107 0 [.a (Qa 0 25 Qb),.a (Qa 1 25 Qb)] :: z4)
 [.pre [] 0 [.a (Qa 0 0 Qb),.a (Qa 1 0 Qb)],.pre z0 0 [.a (Qa 0 5 Qb),.a (Qa 1 5 Qb)],.pre z1 0 [.a (Qa 0 10 Qb),.a (Qa 1 10 Qb)],.pre z2 0 [.a (Qa 0 15 Qb),.a (Qa 1 15 Qb)],.pre z3 0 [.a (Qa 0 20 Qb),.a (Qa 1 20 Qb)],.pre z4 0 [.a (Qa 0 25 Qb),.a (Qa 1 25 Qb)],.pre z5 0 [.a (Qa 0 30 Qb),.a (Qa 1 30 Qb)],.pre (.f 125 0 [.a (Qa 0 30 Qb),.a (Qa 1 30 Qb)] :: z5) 0 [.a (Qa 0 35 Qb),.a (Qa 1 35 Qb)]]
theorem QmK:QS Tryz.prog QmJ 2000 Tryz.f22 QjC QmL=some (QpD,QpE):=by kernel_rfl
set_option maxHeartbeats 1000000 in
theorem Qlr(a b:Nat→Qd)(h:(∀k,(a k).wf)∧∀k,(b k).wf)(w:World):Calls Tryz.prog 22 #[Zm a,Zm b] w (Ret (Zm (Xs a b)) w):=by
 refine Q5 (C:= [QnU]) (I:= []) Qo rfl Tryz.func22 QmK (QeG a b) w rfl (fun r hr=>(List.not_mem_nil hr).elim) _ ?_ ?_
 ·have wfs:∀e:Env,Env.agr 2 (QeG a b) e→∀k,(QV e 0 (5 * k)).wf∧(QV e 1 (5 * k)).wf:=fun e he k=>by
   rw [QW (he 0 (by decide)).1 (he 0 (by decide)).2.1,QW (he 1 (by decide)).1 (he 1 (by decide)).2.1];exact⟨h.1 k,h.2 k⟩
  exact⟨fun e he _=>wfs e he 0,fun e he _=>wfs e he 1,fun e he _=>wfs e he 2,fun e he _=>wfs e he 3,fun e he _=>wfs e he 4,fun e he _=>wfs e he 5,fun e he _=>wfs e he 6,fun e he _=>wfs e he 7,trivial⟩
 refine⟨?_,trivial⟩
 all_goals
  intro e u he hc hs;rw [Jh hs];have k0:=QW (he 0 (by decide)).1 (he 0 (by decide)).2.1
  have k1:=QW (he 1 (by decide)).1 (he 1 (by decide)).2.1
  simp only [QC,Cd.holds,List.getElem?_cons_zero,List.getElem?_cons_succ,Option.some.injEq,exists_eq_left',Q1,QH,Qr,Q0,QE,QY,Qy,QF,QnU,List.map_cons,List.map_nil]at hc;obtain⟨c7,c6,c5,c4,c3,c2,c1,c0,_⟩:=hc;rw [Vx];refine QQ fun k hk=>?_
  match k,hk with
  |0,_=>exact(Qk c0.1 c0.2).trans (by rw [Xs,←k0 0,←k1 0])
  |1,_=>exact(Qk c1.1 c1.2).trans (by rw [Xs,←k0 1,←k1 1])
  |2,_=>exact(Qk c2.1 c2.2).trans (by rw [Xs,←k0 2,←k1 2])
  |3,_=>exact(Qk c3.1 c3.2).trans (by rw [Xs,←k0 3,←k1 3])
  |4,_=>exact(Qk c4.1 c4.2).trans (by rw [Xs,←k0 4,←k1 4])
  |5,_=>exact(Qk c5.1 c5.2).trans (by rw [Xs,←k0 5,←k1 5])
  |6,_=>exact(Qk c6.1 c6.2).trans (by rw [Xs,←k0 6,←k1 6])
  |7,_=>exact(Qk c7.1 c7.2).trans (by rw [Xs,←k0 7,←k1 7])
def Qdp:Con Tryz.prog:= .mk' ⟨22,[.a stK,.a stK],.a stK,true⟩
 (fun ads=>match ads with| [d1,d2]=>(∀k,((stD d1) k).wf)∧∀k,((stD d2) k).wf|_=>False)
 (fun ads=>match ads with| [d1,d2]=>QU (Xs (stD d1) (stD d2))|_=>fun _=>0)
 (fun ads=>match ads with| [d1,d2]=>QI (Xs (stD d1) (stD d2))|_=>fun _=>false)
 ⟨_,Tryz.func22,by kernel_rfl,by kernel_rfl⟩ (fun ads w hf hp=>by
   obtain⟨d1,_,rfl,f1,hf⟩:=Qg hf;obtain⟨d2,_,rfl,f2,hf⟩:=Qg hf;obtain rfl:=Qm hf;show Calls _ _ #[d1.val,d2.val] w _;rw [Jn f1,Jn f2];exact Qlr (stD d1) (stD d2) hp w)
def Qey:List Sg:= [⟨104,[.a Qb],.l none,true⟩,⟨105,[.a Qb,.a Qb],.a Qb,true⟩,⟨76,[.l (some .u32)],.a Qb,true⟩,⟨106,[.a Qb,.l (some .u32)],.a Qb,true⟩,⟨18,[],.a Qb,true⟩,⟨82,[.l (some .u32),.l (some .u32),.l (some .u32)],.a Qb,true⟩]
def Qcm:List PX:= [.l (.n .i64 (.v 0 0)),.a (Qa 1 0 Qb),.l (.n .u32 (.v 2 0))]
def QdL:List Rw:= []
def QdJ:Cfg:=⟨3,Qey,[]⟩
def Qew:List Lf:=
 let z0:SX:= .c .geq (.v 1 3) (.i 2147483648)
 let z1:SX:= .c .geq (.v 2 0) (.i 2147483648)
 let z2:PX:= .a (Qa 1 0 Qb)
 let z3:List Cd:= [.f 12 0 [z2],.c (.c .geq (.v 0 0) (.i 3)) true,.c (.c .leq (.v 0 0) (.i 6)) true]
 let z4:Cd:= .c (.c .eql (.v 2 0) (.i 0)) true
 let z5:Cd:= .c (.c .eql (.v 0 0) (.i 3)) true
 let z6:List Cd:=(.c (.v 12 0) true :: .c z0 false :: .c z1 false :: z3)
 let z7:Cd:= .f 38 1 [z2,.a (Qa 37 0 Qb)]
 let z8:PX:= .l (.n .u32 (.i 0))
 let z9:PX:= .l (.n .u32 (.o .sub .u32 (.v 2 0) (.i 1)))
 let z10:PX:= .l (.n .u32 (.i 1))
 let z11:Cd:= .c (.c .eql (.v 2 0) (.i 0)) false
 let z12:PX:= .l (.n .u32 (.v 2 0))
 let z13:Cd:= .c (.c .eql (.v 0 0) (.i 5)) true
 let z14:Cd:= .c (.c .eql (.v 0 0) (.i 3)) false
 let z15:PX:= .l (.n .u32 (.i 4294967295))
 let z16:Cd:= .c (.c .eql (.v 0 0) (.i 4)) true
 let z17:Cd:= .c (.c .eql (.v 0 0) (.i 5)) false
 let z18:PX:= .l (.n .u32 (.o .add .u32 (.v 2 0) (.i 1)))
 let z19:Cd:= .c (.c .eql (.v 0 0) (.i 6)) true
 let z20:Cd:= .c (.c .eql (.v 0 0) (.i 4)) false
 let z21:Cd:= .c (.c .eql (.v 0 0) (.i 6)) false
 let z22:List Cd:= [.c (.an (.c .geq (.v 0 0) (.i 3)) (.c .leq (.v 0 0) (.i 6))) false]
 let z23:List Cd:=(.c (.c .eql (.v 0 0) (.i 1)) false :: z22)
 let z24:List Cd:=(.c (.c .eql (.v 0 0) (.i 2)) false :: z23)
 let z25:List Cd:=(.c (.c .eql (.v 0 0) (.i 7)) true :: z24)
 let z26:List Cd:=(.c (.c .eql (.v 0 0) (.i 7)) false :: z24)
 let z27:List Cd:=(.c (.c .eql (.v 0 0) (.i 9)) false :: z14 :: z26)
 let z28:List Cd:=(.c (.c .eql (.v 0 0) (.i 8)) false :: z17 :: z27)
 let z29:SX:= .c .eql (.v 2 0) (.i 4294967295)
 let z30:List Cd:=(.c (.c .eql (.v 0 0) (.i 10)) true :: z20 :: z28)
 let z31:List Cd:=(.c (.c .eql (.v 0 0) (.i 10)) false :: z20 :: z28)
 [⟨(.c (.an (.an (.v 12 0) (.no z0)) (.no z1)) false :: z3),.v z2⟩,⟨(.f 34 4 [] :: z4 :: z5 :: z6),.v (.a (Qa 34 0 Qb))⟩,⟨(z7 :: .f 37 5 [z8,z9,z10] :: z11 :: z5 :: z6),.v (.a (Qa 38 0 Qb))⟩,⟨(.f 39 1 [z2,.a (Qa 38 0 Qb)] :: .f 38 5 [z8,z12,z10] :: z13 :: z14 :: z6),.v (.a (Qa 39 0 Qb))⟩,⟨(.f 43 1 [z2,.a (Qa 42 0 Qb)] :: .f 42 5 [z12,z15,z10] :: z16 :: z17 :: z14 :: z6),.v (.a (Qa 43 0 Qb))⟩,⟨(.f 50 1 [z2,.a (Qa 49 0 Qb)] :: .f 49 5 [z18,z15,z10] :: z19 :: z20 :: z17 :: z14 :: z6),.v (.a (Qa 50 0 Qb))⟩,⟨(z21 :: z20 :: z17 :: z14 :: z6),.v z2⟩,⟨(.f 17 1 [z2,.a (Qa 16 0 Qb)] :: .f 16 2 [z12] :: .c (.c .eql (.v 0 0) (.i 1)) true :: z22),.v (.a (Qa 17 0 Qb))⟩,⟨(.f 18 3 [z2,z12] :: .c (.c .eql (.v 0 0) (.i 2)) true :: z23),.v (.a (Qa 18 0 Qb))⟩,⟨(.f 20 4 [] :: z4 :: z25),.v (.a (Qa 20 0 Qb))⟩,⟨(.f 24 1 [z2,.a (Qa 23 0 Qb)] :: .f 23 5 [z8,z9,z10] :: z11 :: z25),.v (.a (Qa 24 0 Qb))⟩,⟨(.f 22 4 [] :: z4 :: z5 :: z26),.v (.a (Qa 22 0 Qb))⟩,⟨(.f 26 1 [z2,.a (Qa 25 0 Qb)] :: .f 25 5 [z8,z9,z10] :: z11 :: z5 :: z26),.v (.a (Qa 26 0 Qb))⟩,⟨(.f 25 1 [z2,.a (Qa 24 0 Qb)] :: .f 24 5 [z8,z12,z10] :: .c (.c .eql (.v 0 0) (.i 9)) true :: z14 :: z26),.v (.a (Qa 25 0 Qb))⟩,⟨(.f 27 1 [z2,.a (Qa 26 0 Qb)] :: .f 26 5 [z8,z12,z10] :: z13 :: z27),.v (.a (Qa 27 0 Qb))⟩,⟨(.f 29 1 [z2,.a (Qa 28 0 Qb)] :: .f 28 5 [z12,z15,z10] :: .c (.c .eql (.v 0 0) (.i 8)) true :: z17 :: z27),.v (.a (Qa 29 0 Qb))⟩,⟨(.f 31 1 [z2,.a (Qa 30 0 Qb)] :: .f 30 5 [z12,z15,z10] :: z16 :: z28),.v (.a (Qa 31 0 Qb))⟩,⟨(.f 32 4 [] :: .c z29 true :: z30),.v (.a (Qa 32 0 Qb))⟩,⟨(.f 36 1 [z2,.a (Qa 35 0 Qb)] :: .f 35 5 [z18,z15,z10] :: .c z29 false :: z30),.v (.a (Qa 36 0 Qb))⟩,⟨(.f 34 4 [] :: .c z29 true :: z19 :: z31),.v (.a (Qa 34 0 Qb))⟩,⟨(z7 :: .f 37 5 [z18,z15,z10] :: .c z29 false :: z19 :: z31),.v (.a (Qa 38 0 Qb))⟩,⟨(z21 :: z31),.v z2⟩]
def Qex:List Ob:=
 let z0:List Cd:= [.c (.c .geq (.v 0 0) (.i 3)) true,.c (.c .leq (.v 0 0) (.i 6)) true]
 let z1:PX:= .a (Qa 1 0 Qb)
 let z2:Cd:= .c (.c .eql (.v 2 0) (.i 0)) true
 let z3:Cd:= .c (.c .eql (.v 0 0) (.i 3)) true
 let z4:List Cd:=(.c (.v 12 0) true :: .c (.c .geq (.v 1 3) (.i 2147483648)) false :: .c (.c .geq (.v 2 0) (.i 2147483648)) false :: .f 12 0 [z1] :: z0)
 let z5:Cd:= .c (.c .eql (.v 2 0) (.i 0)) false
 let z6:PX:= .l (.n .u32 (.i 0))
 let z7:PX:= .l (.n .u32 (.o .sub .u32 (.v 2 0) (.i 1)))
 let z8:PX:= .l (.n .u32 (.i 1))
 let z9:Cd:= .c (.c .eql (.v 0 0) (.i 5)) true
 let z10:Cd:= .c (.c .eql (.v 0 0) (.i 3)) false
 let z11:PX:= .l (.n .u32 (.v 2 0))
 let z12:Cd:= .c (.c .eql (.v 0 0) (.i 4)) true
 let z13:Cd:= .c (.c .eql (.v 0 0) (.i 5)) false
 let z14:PX:= .l (.n .u32 (.i 4294967295))
 let z15:Cd:= .c (.c .eql (.v 0 0) (.i 6)) true
 let z16:Cd:= .c (.c .eql (.v 0 0) (.i 4)) false
 let z17:List Cd:=(z15 :: z16 :: z13 :: z10 :: z4)
 let z18:PX:= .l (.n .u32 (.o .add .u32 (.v 2 0) (.i 1)))
 let z19:List Cd:= [.c (.an (.c .geq (.v 0 0) (.i 3)) (.c .leq (.v 0 0) (.i 6))) false]
 let z20:List Cd:=(.c (.c .eql (.v 0 0) (.i 1)) true :: z19)
 let z21:List Cd:=(.c (.c .eql (.v 0 0) (.i 1)) false :: z19)
 let z22:List Cd:=(.c (.c .eql (.v 0 0) (.i 2)) false :: z21)
 let z23:List Cd:=(.c (.c .eql (.v 0 0) (.i 7)) true :: z22)
 let z24:List Cd:=(.c (.c .eql (.v 0 0) (.i 7)) false :: z22)
 let z25:List Cd:=(.c (.c .eql (.v 0 0) (.i 9)) true :: z10 :: z24)
 let z26:List Cd:=(.c (.c .eql (.v 0 0) (.i 9)) false :: z10 :: z24)
 let z27:List Cd:=(.c (.c .eql (.v 0 0) (.i 8)) true :: z13 :: z26)
 let z28:List Cd:=(.c (.c .eql (.v 0 0) (.i 8)) false :: z13 :: z26)
 let z29:SX:= .c .eql (.v 2 0) (.i 4294967295)
 let z30:List Cd:=(.c (.c .eql (.v 0 0) (.i 10)) true :: z16 :: z28)
 let z31:List Cd:=(z15 :: .c (.c .eql (.v 0 0) (.i 10)) false :: z16 :: z28)
 [.pre z0 0 [z1],.pre (z2 :: z3 :: z4) 4 [],.pre (z5 :: z3 :: z4) 5 [z6,z7,z8],.pre (.f 37 5 [z6,z7,z8] :: z5 :: z3 :: z4) 1 [z1,.a (Qa 37 0 Qb)],.pre (z9 :: z10 :: z4) 5 [z6,z11,z8],.pre (.f 38 5 [z6,z11,z8] :: z9 :: z10 :: z4) 1 [z1,.a (Qa 38 0 Qb)],.pre (z12 :: z13 :: z10 :: z4) 5 [z11,z14,z8],.pre (.f 42 5 [z11,z14,z8] :: z12 :: z13 :: z10 :: z4) 1 [z1,.a (Qa 42 0 Qb)],.pre z17 5 [z18,z14,z8],.pre (.f 49 5 [z18,z14,z8] :: z17) 1 [z1,.a (Qa 49 0 Qb)],.pre z20 2 [z11],.pre (.f 16 2 [z11] :: z20) 1 [z1,.a (Qa 16 0 Qb)],.pre (.c (.c .eql (.v 0 0) (.i 2)) true :: z21) 3 [z1,z11],.pre (z2 :: z23) 4 [],.pre (z5 :: z23) 5 [z6,z7,z8],.pre (.f 23 5 [z6,z7,z8] :: z5 :: z23) 1 [z1,.a (Qa 23 0 Qb)],.pre (z2 :: z3 :: z24) 4 [],.pre (z5 :: z3 :: z24) 5 [z6,z7,z8],.pre (.f 25 5 [z6,z7,z8] :: z5 :: z3 :: z24) 1 [z1,.a (Qa 25 0 Qb)],.pre z25 5 [z6,z11,z8],.pre (.f 24 5 [z6,z11,z8] :: z25) 1 [z1,.a (Qa 24 0 Qb)],.pre (z9 :: z26) 5 [z6,z11,z8],.pre (.f 26 5 [z6,z11,z8] :: z9 :: z26) 1 [z1,.a (Qa 26 0 Qb)],.pre z27 5 [z11,z14,z8],.pre (.f 28 5 [z11,z14,z8] :: z27) 1 [z1,.a (Qa 28 0 Qb)],.pre (z12 :: z28) 5 [z11,z14,z8],.pre (.f 30 5 [z11,z14,z8] :: z12 :: z28) 1 [z1,.a (Qa 30 0 Qb)],.pre (.c z29 true :: z30) 4 [],.pre (.c z29 false :: z30) 5 [z18,z14,z8],.pre (.f 35 5 [z18,z14,z8] :: .c z29 false :: z30) 1 [z1,.a (Qa 35 0 Qb)],.pre (.c z29 true :: z31) 4 [],.pre (.c z29 false :: z31) 5 [z18,z14,z8],.pre (.f 37 5 [z18,z14,z8] :: .c z29 false :: z31) 1 [z1,.a (Qa 37 0 Qb)]]
theorem QdK:QS Tryz.prog QdJ 2000 Tryz.f75 Qcm QdL=some (Qew,Qex):=by kernel_rfl
def QtF(c:Int)(s:Qd)(n:Int):Env:=⟨fun d=>match d with|0=>fun _=>c|1=>QJ s|2=>fun _=>n|_=>fun _=>0,fun d=>match d with|1=>QO s|_=>fun _=>false,fun _=>0,fun _=>none⟩
set_option maxHeartbeats 8000000 in
theorem Qeb(c:Int)(s:Qd)(n:Int)(h:s.wf∧Zk n)(w:World):Calls Tryz.prog 75 #[.int .i64 c,s.val,.int .u32 n] w (Ret (J8 c s n).val w):=by
 refine Q5 (C:= [Y7,Qga,Jg,Qay,Ky,Xf]) (I:= []) Qo rfl Tryz.func75 QdK (QtF c s n) w rfl (fun r hr=>(List.not_mem_nil hr).elim) _ ?_ ?_
 ·refine⟨?_,?_,?_,?_,?_,?_,?_,?_,?_,?_,?_,?_,?_,?_,?_,?_,?_,?_,?_,?_,?_,?_,?_,?_,?_,?_,?_,?_,?_,?_,?_,?_,?_,trivial⟩
  all_goals
   intro e he hc;have h0:e.int 0 0=c:=congrFun (he 0 (by decide)).1 0
   have h1:QV e 1 0=s:=Qk (he 1 (by decide)).1 (he 1 (by decide)).2.1
   have i1:e.int 1=QJ s:=(he 1 (by decide)).1
   have h2:e.int 2 0=n:=congrFun (he 2 (by decide)).1 0
   clear he
   simp only [QC,Ze,Cd.holds,SX.den,cmI,PX.den,LX.den,VX.sat,List.map_cons,List.map_nil,List.append_nil,beq_iff_eq,bne_iff_ne,beq_eq_false_iff_ne,bne_eq_false_iff_eq,decide_eq_true_eq,decide_eq_false_iff_not,Bool.and_eq_true,Bool.and_eq_false_iff,ne_eq,List.getElem?_cons_zero,List.getElem?_cons_succ,Option.some.injEq,exists_eq_left',Q1,QH,Qr,Q0,QE,QY,Qy,QF,Y7,Qga,Jg,Qay,Ky,Xf,h0,h1,i1,h2,QJ,arI]at hc ⊢
  all_goals
   first
    |trivial
    |exact h.1
    |exact h.2
    |exact h
    |(refine⟨by simp only [Zk];omega,QR _,by simp only [Zk];omega⟩)
    |(refine⟨QR _,by simp only [Zk];omega,by simp only [Zk];omega⟩)
    |(refine⟨by simp only [Zk];omega,h.2,by simp only [Zk];omega⟩)
    |(refine⟨h.2,by simp only [Zk];omega,by simp only [Zk];omega⟩)
    |(refine⟨h.1,?_⟩;rw [Qk hc.1.1 hc.1.2];exact ZJ h.2)
    |(refine⟨h.1,?_⟩;rw [Qk hc.1.1 hc.1.2];exact Z7 _ _ _ (by first|omega|exact h.2.1|exact(QR _).1) (by first|omega|exact h.2.2|exact(QR _).2) (by first|omega|exact h.2.1|exact(QR _).1) (by first|omega|exact h.2.2|exact(QR _).2) (by omega) (by omega))
 refine⟨?_,?_,?_,?_,?_,?_,?_,?_,?_,?_,?_,?_,?_,?_,?_,?_,?_,?_,?_,?_,?_,?_,trivial⟩
 all_goals
  intro e u he hc hs;have h0:e.int 0 0=c:=congrFun (he 0 (by decide)).1 0
  have h1:QV e 1 0=s:=Qk (he 1 (by decide)).1 (he 1 (by decide)).2.1
  have i1:e.int 1=QJ s:=(he 1 (by decide)).1
  have h2:e.int 2 0=n:=congrFun (he 2 (by decide)).1 0
  rw [Jh hs,KJ];clear hs he
  simp only [QC,Ze,Cd.holds,SX.den,cmI,PX.den,LX.den,VX.sat,List.map_cons,List.map_nil,List.append_nil,beq_iff_eq,bne_iff_ne,beq_eq_false_iff_ne,bne_eq_false_iff_eq,decide_eq_true_eq,decide_eq_false_iff_not,Bool.and_eq_true,Bool.and_eq_false_iff,ne_eq,List.getElem?_cons_zero,List.getElem?_cons_succ,Option.some.injEq,exists_eq_left',Q1,QH,Qr,Q0,QE,QY,Qy,QF,Y7,Qga,Jg,Qay,Ky,Xf,h0,h1,i1,h2,QJ,arI]at hc
  congr 1;clear h0 h2 i1
 all_goals
  have g3:Qch 3=7:=by decide
  have g4:Qch 4=8:=by decide
  have g5:Qch 5=9:=by decide
  have g6:Qch 6=10:=by decide
  first
   |(rw [Qk hc.1.1 hc.1.2,Qk hc.2.1.1 hc.2.1.2];clear h1 h;grind [J8,Kg])
   |(rw [Qk hc.1.1 hc.1.2];clear h1 h;grind [J8,Kg])
   |(rw [h1];clear h1 h;grind [J8,Kg])
def Wz:Con Tryz.prog:= .mk' ⟨75,[.l (some .i64),.a Qb,.l (some .u32)],.a Qb,true⟩
 (fun ads=>match ads with| [d1,d2,d3]=>(QK d2).wf∧Zk (Q3 d3)|_=>False)
 (fun ads=>match ads with| [d1,d2,d3]=>QJ (J8 (Q3 d1) (QK d2) (Q3 d3))|_=>fun _=>0)
 (fun ads=>match ads with| [d1,d2,d3]=>QO (J8 (Q3 d1) (QK d2) (Q3 d3))|_=>fun _=>false)
 ⟨_,Tryz.func75,by kernel_rfl,by kernel_rfl⟩ (fun ads w hf hp=>by
   obtain⟨d1,_,rfl,f1,hf⟩:=Qg hf;obtain⟨d2,_,rfl,f2,hf⟩:=Qg hf;obtain⟨d3,_,rfl,f3,hf⟩:=Qg hf;obtain rfl:=Qm hf;show Calls _ _ #[d1.val,d2.val,d3.val] w _;rw [QB f1,Zg f2,QB f3];exact Qeb (Q3 d1) (QK d2) (Q3 d3) hp w)
def QjP:List Sg:= [⟨47,[.a Qc],.l none,true⟩,⟨74,[.l (some .i64)],.l (some .i64),true⟩,⟨75,[.l (some .i64),.a Qb,.l (some .u32)],.a Qb,true⟩]
def Qev:List PX:= [.l (.n .i64 (.v 0 0)),.a (Qa 1 0 Qc),.a (Qa 2 0 stK),.l (.t (.v 3 0))]
def QgX:List Rw:= []
def QgV:Cfg:=⟨4,QjP,[]⟩
def QjN:List Lf:=
 let z0:List Cd:= [.f 8 0 [.a (Qa 1 0 Qc)]]
 [⟨(.c (.v 8 0) false :: z0),.v (.a (Qa 2 0 stK))⟩,⟨(.f 27 2 [.l (.n .i64 (.v 15 0)),.a (Qh 2 (.v 1 6)),.l (.n .u32 (.v 1 1))] :: .f 15 1 [.l (.n .i64 (.v 0 0))] :: .c (.v 3 0) false :: .c (.v 8 0) true :: z0),.v (.a (Zf (.v 1 6) (27,0) [(2,0),(2,5),(2,10),(2,15),(2,20),(2,25),(2,30),(2,35)]))⟩,⟨(.f 24 2 [.l (.n .i64 (.v 0 0)),.a (Qh 2 (.v 1 6)),.l (.n .u32 (.v 1 1))] :: .c (.v 3 0) true :: .c (.v 8 0) true :: z0),.v (.a (Zf (.v 1 6) (24,0) [(2,0),(2,5),(2,10),(2,15),(2,20),(2,25),(2,30),(2,35)]))⟩]
def QjO:List Ob:=
 let z0:List Cd:= [.c (.v 8 0) true,.f 8 0 [.a (Qa 1 0 Qc)]]
 let z1:PX:= .l (.n .i64 (.v 0 0))
 let z2:List Cd:=(.f 15 1 [z1] :: .c (.v 3 0) false :: z0)
 let z3:SX:= .c .geq (.v 1 6) (.i 0)
 let z4:SX:= .c .lss (.v 1 6) (.i 8)
 let z5:PX:= .a (Qh 2 (.v 1 6))
 let z6:PX:= .l (.n .u32 (.v 1 1))
 let z7:List Cd:=(.f 27 2 [.l (.n .i64 (.v 15 0)),z5,z6] :: z2)
 let z8:List Cd:=(.c (.v 3 0) true :: z0)
 [.pre [] 0 [.a (Qa 1 0 Qc)],.pre (.c (.v 3 0) false :: z0) 1 [z1],.cl z2 z3,.cl z2 z4,.pre z2 2 [.l (.n .i64 (.v 15 0)),z5,z6],.cl z7 z3,.cl z7 z4,.cl z8 z3,.cl z8 z4,.pre z8 2 [z1,z5,z6],.cl (.f 24 2 [z1,z5,z6] :: z8) z3,.cl (.f 24 2 [z1,z5,z6] :: z8) z4]
theorem QgW:QS Tryz.prog QgV 2000 Tryz.f48 Qev QgX=some (QjN,QjO):=by kernel_rfl
set_option maxHeartbeats 8000000 in
theorem Qio(cc:Int)(i:Ins)(s:Nat→Qd)(tk:Bool)(h:KT cc∧i.wf∧∀k,(s k).wf)(w:World):Calls Tryz.prog 48 #[.int .i64 cc,i.val,Zm s,.bool tk] w (Ret (Zm (ZE cc i s tk)) w):=by
 refine Q5 (C:= [KD,Qb6,Wz]) (I:= []) Qo rfl Tryz.func48 QgW (Qq6 cc i s tk) w rfl (fun r hr=>(List.not_mem_nil hr).elim) _ ?_ ?_
 ·refine⟨?_,?_,?_,?_,?_,?_,?_,?_,?_,?_,?_,?_,trivial⟩
  all_goals
   intro e he hc;have h00:e.int 0 0=cc:=congrFun (he 0 (by decide)).1 0
   have h0:e.int 1=Q2 i:=(he 1 (by decide)).1
   have hi:=Zi h0;have h3:e.bool 3 0=tk:=congrFun (he 3 (by decide)).2.1 0
   have k1:=QW (he 2 (by decide)).1 (he 2 (by decide)).2.1
   have k5:∀n,QV e 2 (n * 5)=s n:=fun n=>by rw [Nat.mul_comm];exact k1 n
   clear he
   simp only [QC,Ze,Cd.holds,SX.den,cmI,PX.den,LX.den,VX.sat,List.map_cons,List.map_nil,List.append_nil,beq_iff_eq,bne_iff_ne,beq_eq_false_iff_ne,bne_eq_false_iff_eq,decide_eq_true_eq,decide_eq_false_iff_not,Bool.and_eq_true,Bool.and_eq_false_iff,ne_eq,List.getElem?_cons_zero,List.getElem?_cons_succ,Option.some.injEq,exists_eq_left',Q1,QH,Qr,Q0,QE,QY,Qy,QF,KD,Qb6,Wz,h0,Q2,hi,h00,h3,arI,true_and,k5]at hc ⊢
  all_goals
   first
    |exact h.1
    |(have hcm:Vf i=true:=by clear h0 hi k1 h00 h3 k5;grind
      have hr:=Qc3 hcm
      first|omega|exact⟨h.2.2 _,h.2.1.2.1⟩|exact h.1)
 refine⟨?_,?_,?_,trivial⟩
 all_goals
  intro e u he hc hs;have h00:e.int 0 0=cc:=congrFun (he 0 (by decide)).1 0
  have h0:e.int 1=Q2 i:=(he 1 (by decide)).1
  have hi:=Zi h0;have h3:e.bool 3 0=tk:=congrFun (he 3 (by decide)).2.1 0
  have k1:=QW (he 2 (by decide)).1 (he 2 (by decide)).2.1
  have h6:e.int 1 6=i.a:=by rw [h0];rfl
  rw [Jh hs];clear hs he;have k5:∀n,QV e 2 (n * 5)=s n:=fun n=>by rw [Nat.mul_comm];exact k1 n
  simp only [QC,Ze,Cd.holds,SX.den,cmI,PX.den,LX.den,VX.sat,List.map_cons,List.map_nil,List.append_nil,beq_iff_eq,bne_iff_ne,beq_eq_false_iff_ne,bne_eq_false_iff_eq,decide_eq_true_eq,decide_eq_false_iff_not,Bool.and_eq_true,Bool.and_eq_false_iff,ne_eq,List.getElem?_cons_zero,List.getElem?_cons_succ,Option.some.injEq,exists_eq_left',Q1,QH,Qr,Q0,QE,QY,Qy,QF,KD,Qb6,Wz,h0,Q2,hi,h00,h3,arI,true_and,k5]at hc
  clear h0 h00 h3 hi
 all_goals
  first
   |(have hcm:Vf i=false:=by clear h6 k1 k5;grind
     rw [Zy,ZE,if_neg (by rw [hcm];decide)]
     exact QQ fun k _=>k1 k)
   |(have hcm:Vf i=true:=by clear h6 k1 k5;grind
     rw [ZE,if_pos hcm,Qbb k1 h6 (Qk hc.1.1 hc.1.2)];refine congrArg Zm (congrArg (Kj s i.a) ?_);clear k1 h6 k5 h
     grind)
def Qb7:Con Tryz.prog:= .mk' ⟨48,[.l (some .i64),.a Qc,.a stK,.l none],.a stK,true⟩
 (fun ads=>match ads with| [d1,d2,d3,d4]=>KT (Q3 d1)∧(QL d2).wf∧∀k,((stD d3) k).wf|_=>False)
 (fun ads=>match ads with| [d1,d2,d3,d4]=>QU (ZE (Q3 d1) (QL d2) (stD d3) (WD d4))|_=>fun _=>0)
 (fun ads=>match ads with| [d1,d2,d3,d4]=>QI (ZE (Q3 d1) (QL d2) (stD d3) (WD d4))|_=>fun _=>false)
 ⟨_,Tryz.func48,by kernel_rfl,by kernel_rfl⟩ (fun ads w hf hp=>by
   obtain⟨d1,_,rfl,f1,hf⟩:=Qg hf;obtain⟨d2,_,rfl,f2,hf⟩:=Qg hf;obtain⟨d3,_,rfl,f3,hf⟩:=Qg hf;obtain⟨d4,_,rfl,f4,hf⟩:=Qg hf;obtain rfl:=Qm hf;show Calls _ _ #[d1.val,d2.val,d3.val,d4.val] w _;rw [QB f1,Zd f2,Jn f3,QcK f4];exact Qio (Q3 d1) (QL d2) (stD d3) (WD d4) hp w)
end Go.Proofs.YteplnamfpodmlaaGreat
end
