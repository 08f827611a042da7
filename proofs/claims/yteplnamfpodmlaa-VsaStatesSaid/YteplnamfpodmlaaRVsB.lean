/-
  Part of the proof.
-/
import Derived.Test.YteplnamfpodmlaaRRef15b
set_option linter.unusedVariables false
set_option linter.unusedSimpArgs false
set_option maxRecDepth 100000
open Go.ChangeShapes Go.WideShapes Go.ChangeAt Go.RowKit
section
namespace Go.Proofs.Yteplnamfpodmlaa
theorem Qw5(a b:Qd)(h:a.wf∧b.wf)(w:World):Calls Try.prog 57 #[a.val,b.val] w (Ret (.bool (ZF a b)) w):=Qxh a b h.1 h.2 w
def QvJ:Con Try.prog:= .mk' ⟨57,[.a Qc,.a Qc],.l none,true⟩
 (fun ads=>match ads with| [d1,d2]=>(Z4 d1).wf∧(Z4 d2).wf|_=>False)
 (fun ads=>match ads with| [d1,d2]=>fun _=>0|_=>fun _=>0)
 (fun ads=>match ads with| [d1,d2]=>fun _=>ZF (Z4 d1) (Z4 d2)|_=>fun _=>false)
 ⟨_,Try.func57,by kernel_rfl,by kernel_rfl⟩ (fun ads w hf hp=>by
   obtain⟨d1,_,rfl,f1,hf⟩:=Qf hf
   obtain⟨d2,_,rfl,f2,hf⟩:=Qf hf
   obtain rfl:=Qn hf
   show Calls _ _ #[d1.val,d2.val] w _
   rw [X0 f1,X0 f2]
   exact Qw5 (Z4 d1) (Z4 d2) hp w)
theorem QxB(a b:Qd)(h:a.wf∧b.wf)(w:World):Calls Try.prog 56 #[a.val,b.val] w (Ret (Va a b).val w):=Qwx a b h.1 h.2 w
def QxX:Con Try.prog:= .mk' ⟨56,[.a Qc,.a Qc],.a Qc,true⟩
 (fun ads=>match ads with| [d1,d2]=>(Z4 d1).wf∧(Z4 d2).wf|_=>False)
 (fun ads=>match ads with| [d1,d2]=>ZC (Va (Z4 d1) (Z4 d2))|_=>fun _=>0)
 (fun ads=>match ads with| [d1,d2]=>Xc (Va (Z4 d1) (Z4 d2))|_=>fun _=>false)
 ⟨_,Try.func56,by kernel_rfl,by kernel_rfl⟩ (fun ads w hf hp=>by
   obtain⟨d1,_,rfl,f1,hf⟩:=Qf hf
   obtain⟨d2,_,rfl,f2,hf⟩:=Qf hf
   obtain rfl:=Qn hf
   show Calls _ _ #[d1.val,d2.val] w _
   rw [X0 f1,X0 f2]
   exact QxB (Z4 d1) (Z4 d2) hp w)
def QaL:Con Try.prog:= .mk' ⟨33,[.a Qc],.l none,true⟩
 (fun ads=>match ads with| [d1]=>(Z4 d1).wf|_=>False)
 (fun ads=>match ads with| [d1]=>fun _=>0|_=>fun _=>0)
 (fun ads=>match ads with| [d1]=>fun _=>Qq (Z4 d1)|_=>fun _=>false)
 ⟨_,Try.func33,by kernel_rfl,by kernel_rfl⟩ (fun ads w hf hp=>by
   obtain⟨d1,_,rfl,f1,hf⟩:=Qf hf
   obtain rfl:=Qn hf
   show Calls _ _ #[d1.val] w _
   rw [X0 f1]
   exact Qlf (Z4 d1) hp w)
def Vy(a b:Nat→Qd):Bool:=ZF (a 0) (b 0) && ZF (a 1) (b 1) && ZF (a 2) (b 2) && ZF (a 3) (b 3) && ZF (a 4) (b 4) && ZF (a 5) (b 5) && ZF (a 6) (b 6) && ZF (a 7) (b 7)
theorem Qcs{e:Env}{d:Nat}{s:Nat→Qd}(hi:e.int d=ZH s)(hb:e.bool d=QU s):Zg e d 0=s 0∧Zg e d 5=s 1∧Zg e d 10=s 2∧Zg e d 15=s 3∧Zg e d 20=s 4∧Zg e d 25=s 5∧Zg e d 30=s 6∧Zg e d 35=s 7:=
 ⟨ZA hi hb 0,ZA hi hb 1,ZA hi hb 2,ZA hi hb 3,ZA hi hb 4,ZA hi hb 5,ZA hi hb 6,ZA hi hb 7⟩
def Qma:List Sg:= [⟨47,[.a Qc,.a Qc],.l none,true⟩]
def Qg8:List PX:= [.a (Qa 0 0 stK),.a (Qa 1 0 stK)]
def Qje:List Rw:= []
def Qjc:Cfg:=⟨2,Qma,[]⟩
def QlY:List Lf:=
 let z0:VX:= .v (.l (.t (.b false)))
 [⟨[.c (.v 17 0) false,.f 17 0 [.a (Qa 0 0 Qc),.a (Qa 1 0 Qc)]],z0⟩,⟨[.c (.v 32 0) false,.f 32 0 [.a (Qa 0 5 Qc),.a (Qa 1 5 Qc)],.c (.v 17 0) true,.f 17 0 [.a (Qa 0 0 Qc),.a (Qa 1 0 Qc)]],z0⟩,⟨[.c (.v 47 0) false,.f 47 0 [.a (Qa 0 10 Qc),.a (Qa 1 10 Qc)],.c (.v 32 0) true,.f 32 0 [.a (Qa 0 5 Qc),.a (Qa 1 5 Qc)],.c (.v 17 0) true,.f 17 0 [.a (Qa 0 0 Qc),.a (Qa 1 0 Qc)]],z0⟩,⟨[.c (.v 62 0) false,.f 62 0 [.a (Qa 0 15 Qc),.a (Qa 1 15 Qc)],.c (.v 47 0) true,.f 47 0 [.a (Qa 0 10 Qc),.a (Qa 1 10 Qc)],.c (.v 32 0) true,.f 32 0 [.a (Qa 0 5 Qc),.a (Qa 1 5 Qc)],.c (.v 17 0) true,.f 17 0 [.a (Qa 0 0 Qc),.a (Qa 1 0 Qc)]],z0⟩,⟨[.c (.v 77 0) false,.f 77 0 [.a (Qa 0 20 Qc),.a (Qa 1 20 Qc)],.c (.v 62 0) true,.f 62 0 [.a (Qa 0 15 Qc),.a (Qa 1 15 Qc)],.c (.v 47 0) true,.f 47 0 [.a (Qa 0 10 Qc),.a (Qa 1 10 Qc)],.c (.v 32 0) true,.f 32 0 [.a (Qa 0 5 Qc),.a (Qa 1 5 Qc)],.c (.v 17 0) true,.f 17 0 [.a (Qa 0 0 Qc),.a (Qa 1 0 Qc)]],z0⟩,⟨[.c (.v 92 0) false,.f 92 0 [.a (Qa 0 25 Qc),.a (Qa 1 25 Qc)],.c (.v 77 0) true,.f 77 0 [.a (Qa 0 20 Qc),.a (Qa 1 20 Qc)],.c (.v 62 0) true,.f 62 0 [.a (Qa 0 15 Qc),.a (Qa 1 15 Qc)],.c (.v 47 0) true,.f 47 0 [.a (Qa 0 10 Qc),.a (Qa 1 10 Qc)],.c (.v 32 0) true,.f 32 0 [.a (Qa 0 5 Qc),.a (Qa 1 5 Qc)],.c (.v 17 0) true,.f 17 0 [.a (Qa 0 0 Qc),.a (Qa 1 0 Qc)]],z0⟩,⟨[.c (.v 107 0) false,.f 107 0 [.a (Qa 0 30 Qc),.a (Qa 1 30 Qc)],.c (.v 92 0) true,.f 92 0 [.a (Qa 0 25 Qc),.a (Qa 1 25 Qc)],.c (.v 77 0) true,.f 77 0 [.a (Qa 0 20 Qc),.a (Qa 1 20 Qc)],.c (.v 62 0) true,.f 62 0 [.a (Qa 0 15 Qc),.a (Qa 1 15 Qc)],.c (.v 47 0) true,.f 47 0 [.a (Qa 0 10 Qc),.a (Qa 1 10 Qc)],.c (.v 32 0) true,.f 32 0 [.a (Qa 0 5 Qc),.a (Qa 1 5 Qc)],.c (.v 17 0) true,.f 17 0 [.a (Qa 0 0 Qc),.a (Qa 1 0 Qc)]],z0⟩,⟨[.c (.v 122 0) false,.f 122 0 [.a (Qa 0 35 Qc),.a (Qa 1 35 Qc)],.c (.v 107 0) true,.f 107 0 [.a (Qa 0 30 Qc),.a (Qa 1 30 Qc)],.c (.v 92 0) true,.f 92 0 [.a (Qa 0 25 Qc),.a (Qa 1 25 Qc)],.c (.v 77 0) true,.f 77 0 [.a (Qa 0 20 Qc),.a (Qa 1 20 Qc)],.c (.v 62 0) true,.f 62 0 [.a (Qa 0 15 Qc),.a (Qa 1 15 Qc)],.c (.v 47 0) true,.f 47 0 [.a (Qa 0 10 Qc),.a (Qa 1 10 Qc)],.c (.v 32 0) true,.f 32 0 [.a (Qa 0 5 Qc),.a (Qa 1 5 Qc)],.c (.v 17 0) true,.f 17 0 [.a (Qa 0 0 Qc),.a (Qa 1 0 Qc)]],z0⟩,⟨[.c (.v 122 0) true,.f 122 0 [.a (Qa 0 35 Qc),.a (Qa 1 35 Qc)],.c (.v 107 0) true,.f 107 0 [.a (Qa 0 30 Qc),.a (Qa 1 30 Qc)],.c (.v 92 0) true,.f 92 0 [.a (Qa 0 25 Qc),.a (Qa 1 25 Qc)],.c (.v 77 0) true,.f 77 0 [.a (Qa 0 20 Qc),.a (Qa 1 20 Qc)],.c (.v 62 0) true,.f 62 0 [.a (Qa 0 15 Qc),.a (Qa 1 15 Qc)],.c (.v 47 0) true,.f 47 0 [.a (Qa 0 10 Qc),.a (Qa 1 10 Qc)],.c (.v 32 0) true,.f 32 0 [.a (Qa 0 5 Qc),.a (Qa 1 5 Qc)],.c (.v 17 0) true,.f 17 0 [.a (Qa 0 0 Qc),.a (Qa 1 0 Qc)]],.v (.l (.t (.b true)))⟩]
def QlZ:List Ob:=
 [.pre [] 0 [.a (Qa 0 0 Qc),.a (Qa 1 0 Qc)],.pre [.c (.v 17 0) true,.f 17 0 [.a (Qa 0 0 Qc),.a (Qa 1 0 Qc)]] 0 [.a (Qa 0 5 Qc),.a (Qa 1 5 Qc)],.pre [.c (.v 32 0) true,.f 32 0 [.a (Qa 0 5 Qc),.a (Qa 1 5 Qc)],.c (.v 17 0) true,.f 17 0 [.a (Qa 0 0 Qc),.a (Qa 1 0 Qc)]] 0 [.a (Qa 0 10 Qc),.a (Qa 1 10 Qc)],.pre [.c (.v 47 0) true,.f 47 0 [.a (Qa 0 10 Qc),.a (Qa 1 10 Qc)],.c (.v 32 0) true,.f 32 0 [.a (Qa 0 5 Qc),.a (Qa 1 5 Qc)],.c (.v 17 0) true,.f 17 0 [.a (Qa 0 0 Qc),.a (Qa 1 0 Qc)]] 0 [.a (Qa 0 15 Qc),.a (Qa 1 15 Qc)],.pre [.c (.v 62 0) true,.f 62 0 [.a (Qa 0 15 Qc),.a (Qa 1 15 Qc)],.c (.v 47 0) true,.f 47 0 [.a (Qa 0 10 Qc),.a (Qa 1 10 Qc)],.c (.v 32 0) true,.f 32 0 [.a (Qa 0 5 Qc),.a (Qa 1 5 Qc)],.c (.v 17 0) true,.f 17 0 [.a (Qa 0 0 Qc),.a (Qa 1 0 Qc)]] 0 [.a (Qa 0 20 Qc),.a (Qa 1 20 Qc)],.pre [.c (.v 77 0) true,.f 77 0 [.a (Qa 0 20 Qc),.a (Qa 1 20 Qc)],.c (.v 62 0) true,.f 62 0 [.a (Qa 0 15 Qc),.a (Qa 1 15 Qc)],.c (.v 47 0) true,.f 47 0 [.a (Qa 0 10 Qc),.a (Qa 1 10 Qc)],.c (.v 32 0) true,.f 32 0 [.a (Qa 0 5 Qc),.a (Qa 1 5 Qc)],.c (.v 17 0) true,.f 17 0 [.a (Qa 0 0 Qc),.a (Qa 1 0 Qc)]] 0 [.a (Qa 0 25 Qc),.a (Qa 1 25 Qc)],.pre [.c (.v 92 0) true,.f 92 0 [.a (Qa 0 25 Qc),.a (Qa 1 25 Qc)],.c (.v 77 0) true,.f 77 0 [.a (Qa 0 20 Qc),.a (Qa 1 20 Qc)],.c (.v 62 0) true,.f 62 0 [.a (Qa 0 15 Qc),.a (Qa 1 15 Qc)],.c (.v 47 0) true,.f 47 0 [.a (Qa 0 10 Qc),.a (Qa 1 10 Qc)],.c (.v 32 0) true,.f 32 0 [.a (Qa 0 5 Qc),.a (Qa 1 5 Qc)],.c (.v 17 0) true,.f 17 0 [.a (Qa 0 0 Qc),.a (Qa 1 0 Qc)]] 0 [.a (Qa 0 30 Qc),.a (Qa 1 30 Qc)],.pre [.c (.v 107 0) true,.f 107 0 [.a (Qa 0 30 Qc),.a (Qa 1 30 Qc)],.c (.v 92 0) true,.f 92 0 [.a (Qa 0 25 Qc),.a (Qa 1 25 Qc)],.c (.v 77 0) true,.f 77 0 [.a (Qa 0 20 Qc),.a (Qa 1 20 Qc)],.c (.v 62 0) true,.f 62 0 [.a (Qa 0 15 Qc),.a (Qa 1 15 Qc)],.c (.v 47 0) true,.f 47 0 [.a (Qa 0 10 Qc),.a (Qa 1 10 Qc)],.c (.v 32 0) true,.f 32 0 [.a (Qa 0 5 Qc),.a (Qa 1 5 Qc)],.c (.v 17 0) true,.f 17 0 [.a (Qa 0 0 Qc),.a (Qa 1 0 Qc)]] 0 [.a (Qa 0 35 Qc),.a (Qa 1 35 Qc)]]
theorem Qjd:QP Try.prog Qjc 2000 Try.f17 Qg8 Qje=some (QlY,QlZ):=by kernel_rfl
def Qx1:List Sg:= [⟨57,[.a Qc,.a Qc],.l none,true⟩]
def Qwq:List PX:= [.a (Qa 0 0 stK),.a (Qa 1 0 stK)]
def QwO:List Rw:= []
def QwM:Cfg:=⟨2,Qx1,[]⟩
def Qxz:List Lf:=
 let z0:VX:= .v (.l (.t (.b false)))
 [⟨[.c (.v 16 0) false,.f 16 0 [.a (Qa 0 0 Qc),.a (Qa 1 0 Qc)]],z0⟩,⟨[.c (.v 31 0) false,.f 31 0 [.a (Qa 0 5 Qc),.a (Qa 1 5 Qc)],.c (.v 16 0) true,.f 16 0 [.a (Qa 0 0 Qc),.a (Qa 1 0 Qc)]],z0⟩,⟨[.c (.v 46 0) false,.f 46 0 [.a (Qa 0 10 Qc),.a (Qa 1 10 Qc)],.c (.v 31 0) true,.f 31 0 [.a (Qa 0 5 Qc),.a (Qa 1 5 Qc)],.c (.v 16 0) true,.f 16 0 [.a (Qa 0 0 Qc),.a (Qa 1 0 Qc)]],z0⟩,⟨[.c (.v 61 0) false,.f 61 0 [.a (Qa 0 15 Qc),.a (Qa 1 15 Qc)],.c (.v 46 0) true,.f 46 0 [.a (Qa 0 10 Qc),.a (Qa 1 10 Qc)],.c (.v 31 0) true,.f 31 0 [.a (Qa 0 5 Qc),.a (Qa 1 5 Qc)],.c (.v 16 0) true,.f 16 0 [.a (Qa 0 0 Qc),.a (Qa 1 0 Qc)]],z0⟩,⟨[.c (.v 76 0) false,.f 76 0 [.a (Qa 0 20 Qc),.a (Qa 1 20 Qc)],.c (.v 61 0) true,.f 61 0 [.a (Qa 0 15 Qc),.a (Qa 1 15 Qc)],.c (.v 46 0) true,.f 46 0 [.a (Qa 0 10 Qc),.a (Qa 1 10 Qc)],.c (.v 31 0) true,.f 31 0 [.a (Qa 0 5 Qc),.a (Qa 1 5 Qc)],.c (.v 16 0) true,.f 16 0 [.a (Qa 0 0 Qc),.a (Qa 1 0 Qc)]],z0⟩,⟨[.c (.v 91 0) false,.f 91 0 [.a (Qa 0 25 Qc),.a (Qa 1 25 Qc)],.c (.v 76 0) true,.f 76 0 [.a (Qa 0 20 Qc),.a (Qa 1 20 Qc)],.c (.v 61 0) true,.f 61 0 [.a (Qa 0 15 Qc),.a (Qa 1 15 Qc)],.c (.v 46 0) true,.f 46 0 [.a (Qa 0 10 Qc),.a (Qa 1 10 Qc)],.c (.v 31 0) true,.f 31 0 [.a (Qa 0 5 Qc),.a (Qa 1 5 Qc)],.c (.v 16 0) true,.f 16 0 [.a (Qa 0 0 Qc),.a (Qa 1 0 Qc)]],z0⟩,⟨[.c (.v 106 0) false,.f 106 0 [.a (Qa 0 30 Qc),.a (Qa 1 30 Qc)],.c (.v 91 0) true,.f 91 0 [.a (Qa 0 25 Qc),.a (Qa 1 25 Qc)],.c (.v 76 0) true,.f 76 0 [.a (Qa 0 20 Qc),.a (Qa 1 20 Qc)],.c (.v 61 0) true,.f 61 0 [.a (Qa 0 15 Qc),.a (Qa 1 15 Qc)],.c (.v 46 0) true,.f 46 0 [.a (Qa 0 10 Qc),.a (Qa 1 10 Qc)],.c (.v 31 0) true,.f 31 0 [.a (Qa 0 5 Qc),.a (Qa 1 5 Qc)],.c (.v 16 0) true,.f 16 0 [.a (Qa 0 0 Qc),.a (Qa 1 0 Qc)]],z0⟩,⟨[.c (.v 121 0) false,.f 121 0 [.a (Qa 0 35 Qc),.a (Qa 1 35 Qc)],.c (.v 106 0) true,.f 106 0 [.a (Qa 0 30 Qc),.a (Qa 1 30 Qc)],.c (.v 91 0) true,.f 91 0 [.a (Qa 0 25 Qc),.a (Qa 1 25 Qc)],.c (.v 76 0) true,.f 76 0 [.a (Qa 0 20 Qc),.a (Qa 1 20 Qc)],.c (.v 61 0) true,.f 61 0 [.a (Qa 0 15 Qc),.a (Qa 1 15 Qc)],.c (.v 46 0) true,.f 46 0 [.a (Qa 0 10 Qc),.a (Qa 1 10 Qc)],.c (.v 31 0) true,.f 31 0 [.a (Qa 0 5 Qc),.a (Qa 1 5 Qc)],.c (.v 16 0) true,.f 16 0 [.a (Qa 0 0 Qc),.a (Qa 1 0 Qc)]],z0⟩,⟨[.c (.v 121 0) true,.f 121 0 [.a (Qa 0 35 Qc),.a (Qa 1 35 Qc)],.c (.v 106 0) true,.f 106 0 [.a (Qa 0 30 Qc),.a (Qa 1 30 Qc)],.c (.v 91 0) true,.f 91 0 [.a (Qa 0 25 Qc),.a (Qa 1 25 Qc)],.c (.v 76 0) true,.f 76 0 [.a (Qa 0 20 Qc),.a (Qa 1 20 Qc)],.c (.v 61 0) true,.f 61 0 [.a (Qa 0 15 Qc),.a (Qa 1 15 Qc)],.c (.v 46 0) true,.f 46 0 [.a (Qa 0 10 Qc),.a (Qa 1 10 Qc)],.c (.v 31 0) true,.f 31 0 [.a (Qa 0 5 Qc),.a (Qa 1 5 Qc)],.c (.v 16 0) true,.f 16 0 [.a (Qa 0 0 Qc),.a (Qa 1 0 Qc)]],.v (.l (.t (.b true)))⟩]
def Qx0:List Ob:=
 [.pre [] 0 [.a (Qa 0 0 Qc),.a (Qa 1 0 Qc)],.pre [.c (.v 16 0) true,.f 16 0 [.a (Qa 0 0 Qc),.a (Qa 1 0 Qc)]] 0 [.a (Qa 0 5 Qc),.a (Qa 1 5 Qc)],.pre [.c (.v 31 0) true,.f 31 0 [.a (Qa 0 5 Qc),.a (Qa 1 5 Qc)],.c (.v 16 0) true,.f 16 0 [.a (Qa 0 0 Qc),.a (Qa 1 0 Qc)]] 0 [.a (Qa 0 10 Qc),.a (Qa 1 10 Qc)],.pre [.c (.v 46 0) true,.f 46 0 [.a (Qa 0 10 Qc),.a (Qa 1 10 Qc)],.c (.v 31 0) true,.f 31 0 [.a (Qa 0 5 Qc),.a (Qa 1 5 Qc)],.c (.v 16 0) true,.f 16 0 [.a (Qa 0 0 Qc),.a (Qa 1 0 Qc)]] 0 [.a (Qa 0 15 Qc),.a (Qa 1 15 Qc)],.pre [.c (.v 61 0) true,.f 61 0 [.a (Qa 0 15 Qc),.a (Qa 1 15 Qc)],.c (.v 46 0) true,.f 46 0 [.a (Qa 0 10 Qc),.a (Qa 1 10 Qc)],.c (.v 31 0) true,.f 31 0 [.a (Qa 0 5 Qc),.a (Qa 1 5 Qc)],.c (.v 16 0) true,.f 16 0 [.a (Qa 0 0 Qc),.a (Qa 1 0 Qc)]] 0 [.a (Qa 0 20 Qc),.a (Qa 1 20 Qc)],.pre [.c (.v 76 0) true,.f 76 0 [.a (Qa 0 20 Qc),.a (Qa 1 20 Qc)],.c (.v 61 0) true,.f 61 0 [.a (Qa 0 15 Qc),.a (Qa 1 15 Qc)],.c (.v 46 0) true,.f 46 0 [.a (Qa 0 10 Qc),.a (Qa 1 10 Qc)],.c (.v 31 0) true,.f 31 0 [.a (Qa 0 5 Qc),.a (Qa 1 5 Qc)],.c (.v 16 0) true,.f 16 0 [.a (Qa 0 0 Qc),.a (Qa 1 0 Qc)]] 0 [.a (Qa 0 25 Qc),.a (Qa 1 25 Qc)],.pre [.c (.v 91 0) true,.f 91 0 [.a (Qa 0 25 Qc),.a (Qa 1 25 Qc)],.c (.v 76 0) true,.f 76 0 [.a (Qa 0 20 Qc),.a (Qa 1 20 Qc)],.c (.v 61 0) true,.f 61 0 [.a (Qa 0 15 Qc),.a (Qa 1 15 Qc)],.c (.v 46 0) true,.f 46 0 [.a (Qa 0 10 Qc),.a (Qa 1 10 Qc)],.c (.v 31 0) true,.f 31 0 [.a (Qa 0 5 Qc),.a (Qa 1 5 Qc)],.c (.v 16 0) true,.f 16 0 [.a (Qa 0 0 Qc),.a (Qa 1 0 Qc)]] 0 [.a (Qa 0 30 Qc),.a (Qa 1 30 Qc)],.pre [.c (.v 106 0) true,.f 106 0 [.a (Qa 0 30 Qc),.a (Qa 1 30 Qc)],.c (.v 91 0) true,.f 91 0 [.a (Qa 0 25 Qc),.a (Qa 1 25 Qc)],.c (.v 76 0) true,.f 76 0 [.a (Qa 0 20 Qc),.a (Qa 1 20 Qc)],.c (.v 61 0) true,.f 61 0 [.a (Qa 0 15 Qc),.a (Qa 1 15 Qc)],.c (.v 46 0) true,.f 46 0 [.a (Qa 0 10 Qc),.a (Qa 1 10 Qc)],.c (.v 31 0) true,.f 31 0 [.a (Qa 0 5 Qc),.a (Qa 1 5 Qc)],.c (.v 16 0) true,.f 16 0 [.a (Qa 0 0 Qc),.a (Qa 1 0 Qc)]] 0 [.a (Qa 0 35 Qc),.a (Qa 1 35 Qc)]]
theorem QwN:QP Try.prog QwM 2000 Try.f22 Qwq QwO=some (Qxz,Qx0):=by kernel_rfl
set_option maxHeartbeats 2000000 in
theorem Qpd(a b:Nat→Qd)(h:(∀k,(a k).wf)∧∀k,(b k).wf)(w:World):Calls Try.prog 17 #[ZT a,ZT b] w (Ret (.bool (Vy a b)) w):=by
 refine QG (C:= [QdE]) (I:= []) Qr rfl Try.func17 Qjd (QqH a b) w rfl (fun r hr=>(List.not_mem_nil hr).elim) _ ?_ ?_
 ·refine⟨?_,?_,?_,?_,?_,?_,?_,?_,trivial⟩
  all_goals
   intro e he hc
   have h0:=Qcs (he 0 (by decide)).1 (he 0 (by decide)).2.1
   have h1:=Qcs (he 1 (by decide)).1 (he 1 (by decide)).2.1
   clear he
   simp only [QC,Zb,Cd.holds,SX.den,cmI,PX.den,LX.den,VX.sat,List.map_cons,List.map_nil,List.append_nil,beq_iff_eq,bne_iff_ne,beq_eq_false_iff_ne,bne_eq_false_iff_eq,decide_eq_true_eq,decide_eq_false_iff_not,Bool.and_eq_true,Bool.and_eq_false_iff,Bool.not_eq_false',ne_eq,List.getElem?_cons_zero,List.getElem?_cons_succ,Option.some.injEq,exists_eq_left',QI,QT,Q3,QS,QX,Xv,QB,QY,QdE,h0,h1]
   exact⟨h.1 _,h.2 _⟩
 refine⟨?_,?_,?_,?_,?_,?_,?_,?_,?_,trivial⟩
 all_goals
  intro e u he hc hs
  have h0:=Qcs (he 0 (by decide)).1 (he 0 (by decide)).2.1
  have h1:=Qcs (he 1 (by decide)).1 (he 1 (by decide)).2.1
  simp only [QC,Zb,Cd.holds,SX.den,cmI,PX.den,LX.den,VX.sat,List.map_cons,List.map_nil,List.append_nil,beq_iff_eq,bne_iff_ne,beq_eq_false_iff_ne,bne_eq_false_iff_eq,decide_eq_true_eq,decide_eq_false_iff_not,Bool.and_eq_true,Bool.and_eq_false_iff,Bool.not_eq_false',ne_eq,List.getElem?_cons_zero,List.getElem?_cons_succ,Option.some.injEq,exists_eq_left',QI,QT,Q3,QS,QX,Xv,QB,QY,QdE,h0,h1]at hc
  rw [VP hs]
  clear h0 h1 he hs h
  simp only [PX.den,LX.den,SX.den,Vy]
  grind
set_option maxHeartbeats 2000000 in
theorem QxJ(a b:Nat→Qd)(h:(∀k,(a k).wf)∧∀k,(b k).wf)(w:World):Calls Try.prog 22 #[ZT a,ZT b] w (Ret (.bool (Vy a b)) w):=by
 refine QG (C:= [QvJ]) (I:= []) Qr rfl Try.func22 QwN (QqH a b) w rfl (fun r hr=>(List.not_mem_nil hr).elim) _ ?_ ?_
 ·refine⟨?_,?_,?_,?_,?_,?_,?_,?_,trivial⟩
  all_goals
   intro e he hc
   have h0:=Qcs (he 0 (by decide)).1 (he 0 (by decide)).2.1
   have h1:=Qcs (he 1 (by decide)).1 (he 1 (by decide)).2.1
   clear he
   simp only [QC,Zb,Cd.holds,SX.den,cmI,PX.den,LX.den,VX.sat,List.map_cons,List.map_nil,List.append_nil,beq_iff_eq,bne_iff_ne,beq_eq_false_iff_ne,bne_eq_false_iff_eq,decide_eq_true_eq,decide_eq_false_iff_not,Bool.and_eq_true,Bool.and_eq_false_iff,Bool.not_eq_false',ne_eq,List.getElem?_cons_zero,List.getElem?_cons_succ,Option.some.injEq,exists_eq_left',QI,QT,Q3,QS,QX,Xv,QB,QY,QvJ,h0,h1]
   exact⟨h.1 _,h.2 _⟩
 refine⟨?_,?_,?_,?_,?_,?_,?_,?_,?_,trivial⟩
 all_goals
  intro e u he hc hs
  have h0:=Qcs (he 0 (by decide)).1 (he 0 (by decide)).2.1
  have h1:=Qcs (he 1 (by decide)).1 (he 1 (by decide)).2.1
  simp only [QC,Zb,Cd.holds,SX.den,cmI,PX.den,LX.den,VX.sat,List.map_cons,List.map_nil,List.append_nil,beq_iff_eq,bne_iff_ne,beq_eq_false_iff_ne,bne_eq_false_iff_eq,decide_eq_true_eq,decide_eq_false_iff_not,Bool.and_eq_true,Bool.and_eq_false_iff,Bool.not_eq_false',ne_eq,List.getElem?_cons_zero,List.getElem?_cons_succ,Option.some.injEq,exists_eq_left',QI,QT,Q3,QS,QX,Xv,QB,QY,QvJ,h0,h1]at hc
  rw [VP hs]
  clear h0 h1 he hs h
  simp only [PX.den,LX.den,SX.den,Vy]
  grind
def QbZ:Con Try.prog:= .mk' ⟨17,[.a stK,.a stK],.l none,true⟩
 (fun ads=>match ads with| [d1,d2]=>(∀k,((stD d1) k).wf)∧∀k,((stD d2) k).wf|_=>False)
 (fun ads=>match ads with| [d1,d2]=>fun _=>0|_=>fun _=>0)
 (fun ads=>match ads with| [d1,d2]=>fun _=>Vy (stD d1) (stD d2)|_=>fun _=>false)
 ⟨_,Try.func17,by kernel_rfl,by kernel_rfl⟩ (fun ads w hf hp=>by
   obtain⟨d1,_,rfl,f1,hf⟩:=Qf hf
   obtain⟨d2,_,rfl,f2,hf⟩:=Qf hf
   obtain rfl:=Qn hf
   show Calls _ _ #[d1.val,d2.val] w _
   rw [Vq f1,Vq f2]
   exact Qpd (stD d1) (stD d2) hp w)
def QvR:Con Try.prog:= .mk' ⟨22,[.a stK,.a stK],.l none,true⟩
 (fun ads=>match ads with| [d1,d2]=>(∀k,((stD d1) k).wf)∧∀k,((stD d2) k).wf|_=>False)
 (fun ads=>match ads with| [d1,d2]=>fun _=>0|_=>fun _=>0)
 (fun ads=>match ads with| [d1,d2]=>fun _=>Vy (stD d1) (stD d2)|_=>fun _=>false)
 ⟨_,Try.func22,by kernel_rfl,by kernel_rfl⟩ (fun ads w hf hp=>by
   obtain⟨d1,_,rfl,f1,hf⟩:=Qf hf
   obtain⟨d2,_,rfl,f2,hf⟩:=Qf hf
   obtain rfl:=Qn hf
   show Calls _ _ #[d1.val,d2.val] w _
   rw [Vq f1,Vq f2]
   exact QxJ (stD d1) (stD d2) hp w)
def Yt(i:Ins):Bool:=i.op==15 && i.form != 0 && Qj i
def QiB:List Sg:= [⟨48,[.a Qb],.l none,true⟩]
def QeA:List PX:= [.a (Qa 0 0 Qb)]
def Qgt:List Rw:= []
def Qgr:Cfg:=⟨1,QiB,[]⟩
def Qi9:List Lf:= [⟨[.f 13 0 [.a (Qa 0 0 Qb)]],.v (.l (.t (.an (.an (.c .eql (.v 0 2) (.i 15)) (.c .neq (.v 0 3) (.i 0))) (.v 13 0))))⟩]
def QiA:List Ob:= [.pre [] 0 [.a (Qa 0 0 Qb)]]
theorem Qgs:QP Try.prog Qgr 2000 Try.f72 QeA Qgt=some (Qi9,QiA):=by kernel_rfl
def QwA:List Sg:= [⟨25,[.a Qb],.l none,true⟩]
def QvT:List PX:= [.a (Qa 0 0 Qb)]
def Qwg:List Rw:= []
def Qwe:Cfg:=⟨1,QwA,[]⟩
def Qw8:List Lf:= [⟨[.f 4 0 [.a (Qa 0 0 Qb)]],.v (.l (.t (.an (.an (.v 4 0) (.c .eql (.v 0 2) (.i 15))) (.c .neq (.v 0 3) (.i 0)))))⟩]
def Qw9:List Ob:= [.pre [] 0 [.a (Qa 0 0 Qb)]]
theorem Qwf:QP Try.prog Qwe 2000 Try.f78 QvT Qwg=some (Qw8,Qw9):=by kernel_rfl
theorem Qho(i:Ins)(w:World):Calls Try.prog 72 #[i.val] w (Ret (.bool (Yt i)) w):=by
 refine QG (C:= [Yf]) (I:= []) Qr rfl Try.func72 Qgs (XX i) w rfl (fun r hr=>(List.not_mem_nil hr).elim) _ ?_ ?_
 ·refine⟨?_,trivial⟩
  all_goals exact fun e he _=>trivial
 refine⟨?_,trivial⟩
 all_goals
  intro e u he hc hs
  have h0:e.int 0=Q9 i:=(he 0 (by decide)).1
  have hi:=ZE h0
  simp only [QC,Zb,Cd.holds,SX.den,cmI,PX.den,LX.den,VX.sat,List.map_cons,List.map_nil,List.append_nil,beq_iff_eq,bne_iff_ne,beq_eq_false_iff_ne,bne_eq_false_iff_eq,decide_eq_true_eq,decide_eq_false_iff_not,Bool.and_eq_true,Bool.and_eq_false_iff,Bool.not_eq_false',ne_eq,List.getElem?_cons_zero,List.getElem?_cons_succ,Option.some.injEq,exists_eq_left',QI,QT,Q3,QS,QX,Xv,QB,QY,Yf,h0,Q9,hi]at hc
  rw [VP hs]
  simp only [PX.den,LX.den,SX.den,Yt,cmI,h0,Q9]
  grind
theorem Qw2(i:Ins)(w:World):Calls Try.prog 78 #[i.val] w (Ret (.bool (Yt i)) w):=by
 refine QG (C:= [KF]) (I:= []) Qr rfl Try.func78 Qwf (XX i) w rfl (fun r hr=>(List.not_mem_nil hr).elim) _ ?_ ?_
 ·refine⟨?_,trivial⟩
  all_goals exact fun e he _=>trivial
 refine⟨?_,trivial⟩
 all_goals
  intro e u he hc hs
  have h0:e.int 0=Q9 i:=(he 0 (by decide)).1
  have hi:=ZE h0
  simp only [QC,Zb,Cd.holds,SX.den,cmI,PX.den,LX.den,VX.sat,List.map_cons,List.map_nil,List.append_nil,beq_iff_eq,bne_iff_ne,beq_eq_false_iff_ne,bne_eq_false_iff_eq,decide_eq_true_eq,decide_eq_false_iff_not,Bool.and_eq_true,Bool.and_eq_false_iff,Bool.not_eq_false',ne_eq,List.getElem?_cons_zero,List.getElem?_cons_succ,Option.some.injEq,exists_eq_left',QI,QT,Q3,QS,QX,Xv,QB,QY,KF,h0,Q9,hi]at hc
  rw [VP hs]
  simp only [PX.den,LX.den,SX.den,Yt,cmI,h0,Q9]
  grind
def Qae:Con Try.prog:= .mk' ⟨72,[.a Qb],.l none,true⟩
 (fun ads=>match ads with| [d1]=>True|_=>False)
 (fun ads=>match ads with| [d1]=>fun _=>0|_=>fun _=>0)
 (fun ads=>match ads with| [d1]=>fun _=>Yt (Q0 d1)|_=>fun _=>false)
 ⟨_,Try.func72,by kernel_rfl,by kernel_rfl⟩ (fun ads w hf hp=>by
   obtain⟨d1,_,rfl,f1,hf⟩:=Qf hf
   obtain rfl:=Qn hf
   show Calls _ _ #[d1.val] w _
   rw [Zc f1]
   exact Qho (Q0 d1) w)
def QvD:Con Try.prog:= .mk' ⟨78,[.a Qb],.l none,true⟩
 (fun ads=>match ads with| [d1]=>True|_=>False)
 (fun ads=>match ads with| [d1]=>fun _=>0|_=>fun _=>0)
 (fun ads=>match ads with| [d1]=>fun _=>Yt (Q0 d1)|_=>fun _=>false)
 ⟨_,Try.func78,by kernel_rfl,by kernel_rfl⟩ (fun ads w hf hp=>by
   obtain⟨d1,_,rfl,f1,hf⟩:=Qf hf
   obtain rfl:=Qn hf
   show Calls _ _ #[d1.val] w _
   rw [Zc f1]
   exact Qw2 (Q0 d1) w)
def Vk(s:Qd):Bool:=Qq s && !s.t && !s.e
def Qi7:List Sg:= [⟨120,[.a Qc],.l none,true⟩]
def Qe9:List PX:= [.a (Qa 0 0 Qc)]
def Qgq:List Rw:= []
def Qgo:Cfg:=⟨1,Qi7,[]⟩
def Qi5:List Lf:= [⟨[.f 4 0 [.a (Qa 0 0 Qc)]],.v (.l (.t (.an (.an (.v 4 0) (.no (.v 0 1))) (.no (.v 0 0)))))⟩]
def Qi6:List Ob:= [.pre [] 0 [.a (Qa 0 0 Qc)]]
theorem Qgp:QP Try.prog Qgo 2000 Try.f74 Qe9 Qgq=some (Qi5,Qi6):=by kernel_rfl
def QxT:List Sg:= [⟨33,[.a Qc],.l none,true⟩]
def QwF:List PX:= [.a (Qa 0 0 Qc)]
def Qxs:List Rw:= []
def Qxq:Cfg:=⟨1,QxT,[]⟩
def QxR:List Lf:= [⟨[.f 4 0 [.a (Qa 0 0 Qc)]],.v (.l (.t (.an (.an (.v 4 0) (.no (.v 0 1))) (.no (.v 0 0)))))⟩]
def QxS:List Ob:= [.pre [] 0 [.a (Qa 0 0 Qc)]]
theorem Qxr:QP Try.prog Qxq 2000 Try.f123 QwF Qxs=some (QxR,QxS):=by kernel_rfl
theorem Qhl(s:Qd)(h:s.wf)(w:World):Calls Try.prog 74 #[s.val] w (Ret (.bool (Vk s)) w):=by
 refine QG (C:= [QbY]) (I:= []) Qr rfl Try.func74 Qgp (Qvu s) w rfl (fun r hr=>(List.not_mem_nil hr).elim) _ ?_ ?_
 ·refine⟨?_,trivial⟩
  all_goals
   intro e he hc
   have h0:Zg e 0 0=s:=QA (he 0 (by decide)).1 (he 0 (by decide)).2.1
   simp only [QC,Zb,Cd.holds,SX.den,cmI,PX.den,LX.den,VX.sat,List.map_cons,List.map_nil,List.append_nil,beq_iff_eq,bne_iff_ne,beq_eq_false_iff_ne,bne_eq_false_iff_eq,decide_eq_true_eq,decide_eq_false_iff_not,Bool.and_eq_true,Bool.and_eq_false_iff,Bool.not_eq_false',ne_eq,List.getElem?_cons_zero,List.getElem?_cons_succ,Option.some.injEq,exists_eq_left',QI,QT,Q3,QS,QX,Xv,QB,QY,QbY,h0]
   exact h
 refine⟨?_,trivial⟩
 all_goals
  intro e u he hc hs
  have h0:Zg e 0 0=s:=QA (he 0 (by decide)).1 (he 0 (by decide)).2.1
  have ht:e.bool 0 1=s.t:=by rw [(he 0 (by decide)).2.1];rfl
  have hE:e.bool 0 0=s.e:=by rw [(he 0 (by decide)).2.1];rfl
  simp only [QC,Zb,Cd.holds,SX.den,cmI,PX.den,LX.den,VX.sat,List.map_cons,List.map_nil,List.append_nil,beq_iff_eq,bne_iff_ne,beq_eq_false_iff_ne,bne_eq_false_iff_eq,decide_eq_true_eq,decide_eq_false_iff_not,Bool.and_eq_true,Bool.and_eq_false_iff,Bool.not_eq_false',ne_eq,List.getElem?_cons_zero,List.getElem?_cons_succ,Option.some.injEq,exists_eq_left',QI,QT,Q3,QS,QX,Xv,QB,QY,QbY,h0]at hc
  rw [VP hs]
  simp only [PX.den,LX.den,SX.den,Vk,ht,hE]
  grind
theorem QxI(s:Qd)(h:s.wf)(w:World):Calls Try.prog 123 #[s.val] w (Ret (.bool (Vk s)) w):=by
 refine QG (C:= [QaL]) (I:= []) Qr rfl Try.func123 Qxr (Qvu s) w rfl (fun r hr=>(List.not_mem_nil hr).elim) _ ?_ ?_
 ·refine⟨?_,trivial⟩
  all_goals
   intro e he hc
   have h0:Zg e 0 0=s:=QA (he 0 (by decide)).1 (he 0 (by decide)).2.1
   simp only [QC,Zb,Cd.holds,SX.den,cmI,PX.den,LX.den,VX.sat,List.map_cons,List.map_nil,List.append_nil,beq_iff_eq,bne_iff_ne,beq_eq_false_iff_ne,bne_eq_false_iff_eq,decide_eq_true_eq,decide_eq_false_iff_not,Bool.and_eq_true,Bool.and_eq_false_iff,Bool.not_eq_false',ne_eq,List.getElem?_cons_zero,List.getElem?_cons_succ,Option.some.injEq,exists_eq_left',QI,QT,Q3,QS,QX,Xv,QB,QY,QaL,h0]
   exact h
 refine⟨?_,trivial⟩
 all_goals
  intro e u he hc hs
  have h0:Zg e 0 0=s:=QA (he 0 (by decide)).1 (he 0 (by decide)).2.1
  have ht:e.bool 0 1=s.t:=by rw [(he 0 (by decide)).2.1];rfl
  have hE:e.bool 0 0=s.e:=by rw [(he 0 (by decide)).2.1];rfl
  simp only [QC,Zb,Cd.holds,SX.den,cmI,PX.den,LX.den,VX.sat,List.map_cons,List.map_nil,List.append_nil,beq_iff_eq,bne_iff_ne,beq_eq_false_iff_ne,bne_eq_false_iff_eq,decide_eq_true_eq,decide_eq_false_iff_not,Bool.and_eq_true,Bool.and_eq_false_iff,Bool.not_eq_false',ne_eq,List.getElem?_cons_zero,List.getElem?_cons_succ,Option.some.injEq,exists_eq_left',QI,QT,Q3,QS,QX,Xv,QB,QY,QaL,h0]at hc
  rw [VP hs]
  simp only [PX.den,LX.den,SX.den,Vk,ht,hE]
  grind
def Vz:Con Try.prog:= .mk' ⟨74,[.a Qc],.l none,true⟩
 (fun ads=>match ads with| [d1]=>(Z4 d1).wf|_=>False)
 (fun ads=>match ads with| [d1]=>fun _=>0|_=>fun _=>0)
 (fun ads=>match ads with| [d1]=>fun _=>Vk (Z4 d1)|_=>fun _=>false)
 ⟨_,Try.func74,by kernel_rfl,by kernel_rfl⟩ (fun ads w hf hp=>by
   obtain⟨d1,_,rfl,f1,hf⟩:=Qf hf
   obtain rfl:=Qn hf
   show Calls _ _ #[d1.val] w _
   rw [X0 f1]
   exact Qhl (Z4 d1) hp w)
def Qv8:Con Try.prog:= .mk' ⟨123,[.a Qc],.l none,true⟩
 (fun ads=>match ads with| [d1]=>(Z4 d1).wf|_=>False)
 (fun ads=>match ads with| [d1]=>fun _=>0|_=>fun _=>0)
 (fun ads=>match ads with| [d1]=>fun _=>Vk (Z4 d1)|_=>fun _=>false)
 ⟨_,Try.func123,by kernel_rfl,by kernel_rfl⟩ (fun ads w hf hp=>by
   obtain⟨d1,_,rfl,f1,hf⟩:=Qf hf
   obtain rfl:=Qn hf
   show Calls _ _ #[d1.val] w _
   rw [X0 f1]
   exact QxI (Z4 d1) hp w)
end Go.Proofs.Yteplnamfpodmlaa
end
section
namespace Go.Proofs.Yteplnamfpodmlaa
def JR(s:Qd)(n:Int):Qd:=if Vk s=false∨(n≠s.lo∧n≠s.hi)then s else if s.st=0 then Q4 else if n=s.lo then Qs (IntKind.u32.wrap (s.lo+s.st)) s.hi s.st else Qs s.lo (IntKind.u32.wrap (s.hi - s.st)) s.st
theorem Qhk{s:Qd}(h:Vk s=true):s.st=0↔s.lo=s.hi:=by
 unfold Vk at h
 simp only [Bool.and_eq_true,Bool.not_eq_true']at h
 rcases QQ h.1.1 with rfl|rfl|hr
 ·exact absurd h.1.2 (by decide)
 ·exact absurd h.2 (by decide)
 ·exact hr.2.2.2.2.1
def Qjh:List Sg:= [⟨74,[.a Qc],.l none,true⟩,⟨77,[],.a Qc,true⟩,⟨51,[.l (some .u32),.l (some .u32),.l (some .u32)],.a Qc,true⟩]
def QeF:List PX:= [.a (Qa 0 0 Qc),.l (.n .u32 (.v 1 0))]
def QgB:List Rw:= []
def Qg9:Cfg:=⟨2,Qjh,[]⟩
def Qjf:List Lf:=
 [⟨[.c (.an (.v 5 0) (.no (.an (.c .neq (.v 1 0) (.v 0 2)) (.c .neq (.v 1 0) (.v 0 3))))) false,.f 5 0 [.a (Qa 0 0 Qc)]],.v (.a (Qa 0 0 Qc))⟩,⟨[.f 24 1 [],.c (.c .eql (.v 0 4) (.i 0)) true,.c (.v 5 0) true,.c (.an (.c .neq (.v 1 0) (.v 0 2)) (.c .neq (.v 1 0) (.v 0 3))) false,.f 5 0 [.a (Qa 0 0 Qc)]],.v (.a (Qa 24 0 Qc))⟩,⟨[.f 38 2 [.l (.n .u32 (.o .add .u32 (.v 0 2) (.v 0 4))),.l (.n .u32 (.v 0 3)),.l (.n .u32 (.v 0 4))],.c (.c .eql (.v 1 0) (.v 0 2)) true,.c (.c .eql (.v 0 4) (.i 0)) false,.c (.v 5 0) true,.c (.an (.c .neq (.v 1 0) (.v 0 2)) (.c .neq (.v 1 0) (.v 0 3))) false,.f 5 0 [.a (Qa 0 0 Qc)]],.v (.a (Qa 38 0 Qc))⟩,⟨[.f 38 2 [.l (.n .u32 (.v 0 2)),.l (.n .u32 (.o .sub .u32 (.v 0 3) (.v 0 4))),.l (.n .u32 (.v 0 4))],.c (.c .eql (.v 1 0) (.v 0 2)) false,.c (.c .eql (.v 0 4) (.i 0)) false,.c (.v 5 0) true,.c (.an (.c .neq (.v 1 0) (.v 0 2)) (.c .neq (.v 1 0) (.v 0 3))) false,.f 5 0 [.a (Qa 0 0 Qc)]],.v (.a (Qa 38 0 Qc))⟩]
def Qjg:List Ob:=
 [.pre [] 0 [.a (Qa 0 0 Qc)],.pre [.c (.c .eql (.v 0 4) (.i 0)) true,.c (.v 5 0) true,.c (.an (.c .neq (.v 1 0) (.v 0 2)) (.c .neq (.v 1 0) (.v 0 3))) false,.f 5 0 [.a (Qa 0 0 Qc)]] 1 [],.pre [.c (.c .eql (.v 1 0) (.v 0 2)) true,.c (.c .eql (.v 0 4) (.i 0)) false,.c (.v 5 0) true,.c (.an (.c .neq (.v 1 0) (.v 0 2)) (.c .neq (.v 1 0) (.v 0 3))) false,.f 5 0 [.a (Qa 0 0 Qc)]] 2 [.l (.n .u32 (.o .add .u32 (.v 0 2) (.v 0 4))),.l (.n .u32 (.v 0 3)),.l (.n .u32 (.v 0 4))],.pre [.c (.c .eql (.v 1 0) (.v 0 2)) false,.c (.c .eql (.v 0 4) (.i 0)) false,.c (.v 5 0) true,.c (.an (.c .neq (.v 1 0) (.v 0 2)) (.c .neq (.v 1 0) (.v 0 3))) false,.f 5 0 [.a (Qa 0 0 Qc)]] 2 [.l (.n .u32 (.v 0 2)),.l (.n .u32 (.o .sub .u32 (.v 0 3) (.v 0 4))),.l (.n .u32 (.v 0 4))]]
theorem QgA:QP Try.prog Qg9 2000 Try.f76 QeF QgB=some (Qjf,Qjg):=by kernel_rfl
def QwR:List Sg:= [⟨123,[.a Qc],.l none,true⟩,⟨82,[],.a Qc,true⟩,⟨65,[.l (some .u32),.l (some .u32),.l (some .u32)],.a Qc,true⟩]
def Qwa:List PX:= [.a (Qa 0 0 Qc),.l (.n .u32 (.v 1 0))]
def Qwt:List Rw:= []
def Qwr:Cfg:=⟨2,QwR,[]⟩
def QwP:List Lf:=
 [⟨[.c (.an (.v 5 0) (.no (.an (.c .neq (.v 1 0) (.v 0 2)) (.c .neq (.v 1 0) (.v 0 3))))) false,.f 5 0 [.a (Qa 0 0 Qc)]],.v (.a (Qa 0 0 Qc))⟩,⟨[.f 24 1 [],.c (.c .eql (.v 0 2) (.v 0 3)) true,.c (.v 5 0) true,.c (.an (.c .neq (.v 1 0) (.v 0 2)) (.c .neq (.v 1 0) (.v 0 3))) false,.f 5 0 [.a (Qa 0 0 Qc)]],.v (.a (Qa 24 0 Qc))⟩,⟨[.f 37 2 [.l (.n .u32 (.o .add .u32 (.v 0 2) (.v 0 4))),.l (.n .u32 (.v 0 3)),.l (.n .u32 (.v 0 4))],.c (.c .eql (.v 1 0) (.v 0 2)) true,.c (.c .eql (.v 0 2) (.v 0 3)) false,.c (.v 5 0) true,.c (.an (.c .neq (.v 1 0) (.v 0 2)) (.c .neq (.v 1 0) (.v 0 3))) false,.f 5 0 [.a (Qa 0 0 Qc)]],.v (.a (Qa 37 0 Qc))⟩,⟨[.f 37 2 [.l (.n .u32 (.v 0 2)),.l (.n .u32 (.o .sub .u32 (.v 0 3) (.v 0 4))),.l (.n .u32 (.v 0 4))],.c (.c .eql (.v 1 0) (.v 0 2)) false,.c (.c .eql (.v 0 2) (.v 0 3)) false,.c (.v 5 0) true,.c (.an (.c .neq (.v 1 0) (.v 0 2)) (.c .neq (.v 1 0) (.v 0 3))) false,.f 5 0 [.a (Qa 0 0 Qc)]],.v (.a (Qa 37 0 Qc))⟩]
def QwQ:List Ob:=
 [.pre [] 0 [.a (Qa 0 0 Qc)],.pre [.c (.c .eql (.v 0 2) (.v 0 3)) true,.c (.v 5 0) true,.c (.an (.c .neq (.v 1 0) (.v 0 2)) (.c .neq (.v 1 0) (.v 0 3))) false,.f 5 0 [.a (Qa 0 0 Qc)]] 1 [],.pre [.c (.c .eql (.v 1 0) (.v 0 2)) true,.c (.c .eql (.v 0 2) (.v 0 3)) false,.c (.v 5 0) true,.c (.an (.c .neq (.v 1 0) (.v 0 2)) (.c .neq (.v 1 0) (.v 0 3))) false,.f 5 0 [.a (Qa 0 0 Qc)]] 2 [.l (.n .u32 (.o .add .u32 (.v 0 2) (.v 0 4))),.l (.n .u32 (.v 0 3)),.l (.n .u32 (.v 0 4))],.pre [.c (.c .eql (.v 1 0) (.v 0 2)) false,.c (.c .eql (.v 0 2) (.v 0 3)) false,.c (.v 5 0) true,.c (.an (.c .neq (.v 1 0) (.v 0 2)) (.c .neq (.v 1 0) (.v 0 3))) false,.f 5 0 [.a (Qa 0 0 Qc)]] 2 [.l (.n .u32 (.v 0 2)),.l (.n .u32 (.o .sub .u32 (.v 0 3) (.v 0 4))),.l (.n .u32 (.v 0 4))]]
theorem Qws:QP Try.prog Qwr 2000 Try.f125 Qwa Qwt=some (QwP,QwQ):=by kernel_rfl
theorem Qi1(s:Qd)(n:Int)(h:s.wf∧Q5 n)(w:World):Calls Try.prog 76 #[s.val,.int .u32 n] w (Ret (JR s n).val w):=by
 refine QG (C:= [Vz,Ye,J4]) (I:= []) Qr rfl Try.func76 QgA (QtP s n) w rfl (fun r hr=>(List.not_mem_nil hr).elim) _ ?_ ?_
 ·refine⟨?_,?_,?_,?_,trivial⟩
  all_goals
   intro e he hc
   have h0:Zg e 0 0=s:=QA (he 0 (by decide)).1 (he 0 (by decide)).2.1
   have i0:e.int 0=ZC s:=(he 0 (by decide)).1
   have h2:e.int 1 0=n:=by rw [(he 1 (by decide)).1];rfl
   simp only [QC,Zb,Cd.holds,SX.den,cmI,PX.den,LX.den,VX.sat,List.map_cons,List.map_nil,List.append_nil,beq_iff_eq,bne_iff_ne,beq_eq_false_iff_ne,bne_eq_false_iff_eq,decide_eq_true_eq,decide_eq_false_iff_not,Bool.and_eq_true,Bool.and_eq_false_iff,Bool.not_eq_false',ne_eq,List.getElem?_cons_zero,List.getElem?_cons_succ,Option.some.injEq,exists_eq_left',QI,QT,Q3,QS,QX,Xv,QB,QY,Vz,Ye,J4,h0,i0,h2,ZC,arI]
  all_goals
   first
    |trivial
    |exact h.1
    |exact⟨QR _,⟨h.1.2.2.1,h.1.2.2.2.1⟩,⟨h.1.2.2.2.2.1,h.1.2.2.2.2.2⟩⟩
    |exact⟨⟨h.1.1,h.1.2.1⟩,QR _,⟨h.1.2.2.2.2.1,h.1.2.2.2.2.2⟩⟩
 refine⟨?_,?_,?_,?_,trivial⟩
 all_goals
  intro e u he hc hs
  have h0:Zg e 0 0=s:=QA (he 0 (by decide)).1 (he 0 (by decide)).2.1
  have i0:e.int 0=ZC s:=(he 0 (by decide)).1
  have h2:e.int 1 0=n:=by rw [(he 1 (by decide)).1];rfl
  simp only [QC,Zb,Cd.holds,SX.den,cmI,PX.den,LX.den,VX.sat,List.map_cons,List.map_nil,List.append_nil,beq_iff_eq,bne_iff_ne,beq_eq_false_iff_ne,bne_eq_false_iff_eq,decide_eq_true_eq,decide_eq_false_iff_not,Bool.and_eq_true,Bool.and_eq_false_iff,Bool.not_eq_false',ne_eq,List.getElem?_cons_zero,List.getElem?_cons_succ,Option.some.injEq,exists_eq_left',QI,QT,Q3,QS,QX,Xv,QB,QY,Vz,Ye,J4,h0,i0,h2,ZC,arI]at hc
  rw [VP hs,Qbo]
  congr 1
  have hb:=Qhk (s:=s)
  clear he hs i0
  first
   |(rw [h0];clear h0;grind [JR])
   |(rw [QA hc.1.1 hc.1.2];clear h0;grind [JR])
theorem Qw7(s:Qd)(n:Int)(h:s.wf∧Q5 n)(w:World):Calls Try.prog 125 #[s.val,.int .u32 n] w (Ret (JR s n).val w):=by
 refine QG (C:= [Qv8,Qv7,Qvz]) (I:= []) Qr rfl Try.func125 Qws (QtP s n) w rfl (fun r hr=>(List.not_mem_nil hr).elim) _ ?_ ?_
 ·refine⟨?_,?_,?_,?_,trivial⟩
  all_goals
   intro e he hc
   have h0:Zg e 0 0=s:=QA (he 0 (by decide)).1 (he 0 (by decide)).2.1
   have i0:e.int 0=ZC s:=(he 0 (by decide)).1
   have h2:e.int 1 0=n:=by rw [(he 1 (by decide)).1];rfl
   simp only [QC,Zb,Cd.holds,SX.den,cmI,PX.den,LX.den,VX.sat,List.map_cons,List.map_nil,List.append_nil,beq_iff_eq,bne_iff_ne,beq_eq_false_iff_ne,bne_eq_false_iff_eq,decide_eq_true_eq,decide_eq_false_iff_not,Bool.and_eq_true,Bool.and_eq_false_iff,Bool.not_eq_false',ne_eq,List.getElem?_cons_zero,List.getElem?_cons_succ,Option.some.injEq,exists_eq_left',QI,QT,Q3,QS,QX,Xv,QB,QY,Qv8,Qv7,Qvz,h0,i0,h2,ZC,arI]
  all_goals
   first
    |trivial
    |exact h.1
    |exact⟨QR _,⟨h.1.2.2.1,h.1.2.2.2.1⟩,⟨h.1.2.2.2.2.1,h.1.2.2.2.2.2⟩⟩
    |exact⟨⟨h.1.1,h.1.2.1⟩,QR _,⟨h.1.2.2.2.2.1,h.1.2.2.2.2.2⟩⟩
 refine⟨?_,?_,?_,?_,trivial⟩
 all_goals
  intro e u he hc hs
  have h0:Zg e 0 0=s:=QA (he 0 (by decide)).1 (he 0 (by decide)).2.1
  have i0:e.int 0=ZC s:=(he 0 (by decide)).1
  have h2:e.int 1 0=n:=by rw [(he 1 (by decide)).1];rfl
  simp only [QC,Zb,Cd.holds,SX.den,cmI,PX.den,LX.den,VX.sat,List.map_cons,List.map_nil,List.append_nil,beq_iff_eq,bne_iff_ne,beq_eq_false_iff_ne,bne_eq_false_iff_eq,decide_eq_true_eq,decide_eq_false_iff_not,Bool.and_eq_true,Bool.and_eq_false_iff,Bool.not_eq_false',ne_eq,List.getElem?_cons_zero,List.getElem?_cons_succ,Option.some.injEq,exists_eq_left',QI,QT,Q3,QS,QX,Xv,QB,QY,Qv8,Qv7,Qvz,h0,i0,h2,ZC,arI]at hc
  rw [VP hs,Qbo]
  congr 1
  have hb:=Qhk (s:=s)
  clear he hs i0
  first
   |(rw [h0];clear h0;grind [JR])
   |(rw [QA hc.1.1 hc.1.2];clear h0;grind [JR])
def Qca:Con Try.prog:= .mk' ⟨76,[.a Qc,.l (some .u32)],.a Qc,true⟩
 (fun ads=>match ads with| [d1,d2]=>(Z4 d1).wf∧Q5 (Q8 d2)|_=>False)
 (fun ads=>match ads with| [d1,d2]=>ZC (JR (Z4 d1) (Q8 d2))|_=>fun _=>0)
 (fun ads=>match ads with| [d1,d2]=>Xc (JR (Z4 d1) (Q8 d2))|_=>fun _=>false)
 ⟨_,Try.func76,by kernel_rfl,by kernel_rfl⟩ (fun ads w hf hp=>by
   obtain⟨d1,_,rfl,f1,hf⟩:=Qf hf
   obtain⟨d2,_,rfl,f2,hf⟩:=Qf hf
   obtain rfl:=Qn hf
   show Calls _ _ #[d1.val,d2.val] w _
   rw [X0 f1,QH f2]
   exact Qi1 (Z4 d1) (Q8 d2) hp w)
def QvE:Con Try.prog:= .mk' ⟨125,[.a Qc,.l (some .u32)],.a Qc,true⟩
 (fun ads=>match ads with| [d1,d2]=>(Z4 d1).wf∧Q5 (Q8 d2)|_=>False)
 (fun ads=>match ads with| [d1,d2]=>ZC (JR (Z4 d1) (Q8 d2))|_=>fun _=>0)
 (fun ads=>match ads with| [d1,d2]=>Xc (JR (Z4 d1) (Q8 d2))|_=>fun _=>false)
 ⟨_,Try.func125,by kernel_rfl,by kernel_rfl⟩ (fun ads w hf hp=>by
   obtain⟨d1,_,rfl,f1,hf⟩:=Qf hf
   obtain⟨d2,_,rfl,f2,hf⟩:=Qf hf
   obtain rfl:=Qn hf
   show Calls _ _ #[d1.val,d2.val] w _
   rw [X0 f1,QH f2]
   exact Qw7 (Z4 d1) (Q8 d2) hp w)
end Go.Proofs.Yteplnamfpodmlaa
end
