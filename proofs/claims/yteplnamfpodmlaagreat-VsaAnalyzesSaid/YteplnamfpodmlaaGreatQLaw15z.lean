/-
  VsaAnalyzes: for all lists of instructions, entries and numbers of rounds the call returns true: Analyze of package vsa returns what the reference's Analyze returns. No condition on the inputs.
-/
import Derived.Test.YteplnamfpodmlaaGreatRows
import Derived.Test.YteplnamfpodmlaaGreatQD
set_option linter.unusedVariables false
set_option linter.unusedSimpArgs false
set_option maxRecDepth 100000
open Go.ChangeShapes Go.WideShapes Go.ChangeAt Go.RowKit
namespace Go.Proofs.YteplnamfpodmlaaGreat
theorem Qfr:laidOutB Tryz.prog=true:=by kernel_rfl
theorem Qf6(w:World):Calls Tryz.prog 5 #[] w (Ret (.bool true) w):=T2.example_any w
def Qux:Con Tryz.prog:= .mk' ⟨5,[],.l none,true⟩
 (fun ads=>match ads with| []=>True|_=>False)
 (fun ads=>match ads with| []=>fun _=>0|_=>fun _=>0)
 (fun ads=>match ads with| []=>fun _=>true|_=>fun _=>false)
 ⟨_,Tryz.func5,by kernel_rfl,by kernel_rfl⟩ (fun ads w hf hp=>by
   obtain rfl:=Qm hf;exact Qf6  w)
end Go.Proofs.YteplnamfpodmlaaGreat
namespace Go.Proofs.YteplnamfpodmlaaGreat.T2
def kEx:Kon Tryz.prog:=QqP Qux fun ads w hf=>by
 obtain rfl:=Qm hf;trivial
def QrU:List Sg:= [⟨6,[.sl Qc,.l (some .u32),.l (some .i64)],.se stK (some .i64),false,false⟩,⟨7,[.sl Qc,.l (some .u32),.l (some .i64)],.se stK (some .i64),false,false⟩,⟨5,[],.b (.l none),true,true⟩]
def Qnt:List PX:= [.l (.sl 0 (.v 3 0)),.l (.n .u32 (.v 1 0)),.l (.n .i64 (.v 2 0))]
def Qqa:List Rw:= [⟨0,Qc,(.v 3 0)⟩]
def QpY:Cfg:=⟨6,QrU,[⟨3,8,0,[.num (.s 11) (some .i64)],11,.inr (.i 17),true⟩],[4],[]⟩
def QrS:List Lf:=
 let z0:Cd:= .c (.c .geq (.v 3 0) (.i 0)) true
 let z1:Cd:= .f 106 1 [(.l (.sl 0 (.v 3 0)),0),(.l (.n .u32 (.v 1 0)),0),(.l (.n .i64 (.v 2 0)),0)]
 let z2:Cd:= .f 70 0 [(.l (.sl 0 (.v 3 0)),0),(.l (.n .u32 (.v 1 0)),0),(.l (.n .i64 (.v 2 0)),0)]
 let z3:Cd:= .c (.c .leq (.v 3 0) (.i 16)) true
 let z4:Cd:= .c (.c .gtr (.v 2 0) (.i 400)) false
 let z5:List Bk:= [⟨107,.row stK (.v 106 0) 107⟩,⟨71,.row stK (.v 70 0) 71⟩]
 let z6:Cd:= .c (.c .neq (.v 70 1) (.v 106 1)) false
 let z7:Cd:= .c (.c .neq (.v 70 0) (.v 106 0)) false
 let z8:Cd:= .c (.c .geq (.v 70 0) (.i 0)) true
 [⟨[.f 58 2 [],.c (.an (.c .leq (.v 3 0) (.i 16)) (.no (.c .gtr (.v 2 0) (.i 400)))) false,z0],.v (.l (.t (.v 58 0))),[]⟩,⟨[.c (.an (.no (.c .neq (.v 70 1) (.v 106 1))) (.no (.c .neq (.v 70 0) (.v 106 0)))) false,z1,z2,z3,z4,z0],.v (.l (.t (.b false))),z5⟩,⟨[.c (.an (.an (.eq (.r 71 40 0 (.v 174 0)) (.r 107 40 0 (.v 174 0))) (.an (.eq (.r 71 40 1 (.v 174 0)) (.r 107 40 1 (.v 174 0))) (.an (.c .eql (.r 71 40 2 (.v 174 0)) (.r 107 40 2 (.v 174 0))) (.an (.c .eql (.r 71 40 3 (.v 174 0)) (.r 107 40 3 (.v 174 0))) (.c .eql (.r 71 40 4 (.v 174 0)) (.r 107 40 4 (.v 174 0))))))) (.an (.an (.eq (.r 71 40 5 (.v 174 0)) (.r 107 40 5 (.v 174 0))) (.an (.eq (.r 71 40 6 (.v 174 0)) (.r 107 40 6 (.v 174 0))) (.an (.c .eql (.r 71 40 7 (.v 174 0)) (.r 107 40 7 (.v 174 0))) (.an (.c .eql (.r 71 40 8 (.v 174 0)) (.r 107 40 8 (.v 174 0))) (.c .eql (.r 71 40 9 (.v 174 0)) (.r 107 40 9 (.v 174 0))))))) (.an (.an (.eq (.r 71 40 10 (.v 174 0)) (.r 107 40 10 (.v 174 0))) (.an (.eq (.r 71 40 11 (.v 174 0)) (.r 107 40 11 (.v 174 0))) (.an (.c .eql (.r 71 40 12 (.v 174 0)) (.r 107 40 12 (.v 174 0))) (.an (.c .eql (.r 71 40 13 (.v 174 0)) (.r 107 40 13 (.v 174 0))) (.c .eql (.r 71 40 14 (.v 174 0)) (.r 107 40 14 (.v 174 0))))))) (.an (.an (.eq (.r 71 40 15 (.v 174 0)) (.r 107 40 15 (.v 174 0))) (.an (.eq (.r 71 40 16 (.v 174 0)) (.r 107 40 16 (.v 174 0))) (.an (.c .eql (.r 71 40 17 (.v 174 0)) (.r 107 40 17 (.v 174 0))) (.an (.c .eql (.r 71 40 18 (.v 174 0)) (.r 107 40 18 (.v 174 0))) (.c .eql (.r 71 40 19 (.v 174 0)) (.r 107 40 19 (.v 174 0))))))) (.an (.an (.eq (.r 71 40 20 (.v 174 0)) (.r 107 40 20 (.v 174 0))) (.an (.eq (.r 71 40 21 (.v 174 0)) (.r 107 40 21 (.v 174 0))) (.an (.c .eql (.r 71 40 22 (.v 174 0)) (.r 107 40 22 (.v 174 0))) (.an (.c .eql (.r 71 40 23 (.v 174 0)) (.r 107 40 23 (.v 174 0))) (.c .eql (.r 71 40 24 (.v 174 0)) (.r 107 40 24 (.v 174 0))))))) (.an (.an (.eq (.r 71 40 25 (.v 174 0)) (.r 107 40 25 (.v 174 0))) (.an (.eq (.r 71 40 26 (.v 174 0)) (.r 107 40 26 (.v 174 0))) (.an (.c .eql (.r 71 40 27 (.v 174 0)) (.r 107 40 27 (.v 174 0))) (.an (.c .eql (.r 71 40 28 (.v 174 0)) (.r 107 40 28 (.v 174 0))) (.c .eql (.r 71 40 29 (.v 174 0)) (.r 107 40 29 (.v 174 0))))))) (.an (.an (.eq (.r 71 40 30 (.v 174 0)) (.r 107 40 30 (.v 174 0))) (.an (.eq (.r 71 40 31 (.v 174 0)) (.r 107 40 31 (.v 174 0))) (.an (.c .eql (.r 71 40 32 (.v 174 0)) (.r 107 40 32 (.v 174 0))) (.an (.c .eql (.r 71 40 33 (.v 174 0)) (.r 107 40 33 (.v 174 0))) (.c .eql (.r 71 40 34 (.v 174 0)) (.r 107 40 34 (.v 174 0))))))) (.an (.eq (.r 71 40 35 (.v 174 0)) (.r 107 40 35 (.v 174 0))) (.an (.eq (.r 71 40 36 (.v 174 0)) (.r 107 40 36 (.v 174 0))) (.an (.c .eql (.r 71 40 37 (.v 174 0)) (.r 107 40 37 (.v 174 0))) (.an (.c .eql (.r 71 40 38 (.v 174 0)) (.r 107 40 38 (.v 174 0))) (.c .eql (.r 71 40 39 (.v 174 0)) (.r 107 40 39 (.v 174 0)))))))))))))) false,.g 174 0 0,z1,z2,.c (.c .lss (.v 174 0) (.v 106 0)) true,.c (.c .lss (.v 174 0) (.v 70 0)) true,z6,z7,.c (.c .geq (.v 174 0) (.i 0)) true,.c (.c .geq (.v 106 0) (.i 0)) true,z8,z3,z0,z4],.v (.l (.t (.b false))),z5⟩,⟨[.f 191 2 [],.c (.c .lss (.v 174 0) (.v 70 0)) false,z8,.g 174 0 0,z6,z7,z1,z2,z3,z4,z0],.v (.l (.t (.v 191 0))),z5⟩]
def QrT:List Ob:=
 let z0:Cd:= .c (.c .leq (.v 3 0) (.i 16)) true
 let z1:Cd:= .c (.c .gtr (.v 2 0) (.i 400)) false
 let z2:Cd:= .c (.c .geq (.v 3 0) (.i 0)) true
 let z3:PX:= .l (.sl 0 (.v 3 0))
 let z4:PX:= .l (.n .u32 (.v 1 0))
 let z5:PX:= .l (.n .i64 (.v 2 0))
 let z6:Cd:= .f 70 0 [(z3,0),(z4,0),(z5,0)]
 let z7:Cd:= .f 106 1 [(z3,0),(z4,0),(z5,0)]
 let z8:List Cd:= [.c (.no (.c .neq (.v 70 1) (.v 106 1))) true,z7,z6,z0,z1,z2]
 let z9:SX:= .c .geq (.v 70 0) (.i 0)
 let z10:SX:= .c .geq (.v 106 0) (.i 0)
 let z11:Cd:= .c (.c .neq (.v 70 1) (.v 106 1)) false
 let z12:Cd:= .c (.c .neq (.v 70 0) (.v 106 0)) false
 let z13:List Cd:= [z11,z12,z7,z6,z0,z1,z2]
 let z14:Cd:= .c (.c .lss (.v 174 0) (.v 70 0)) true
 let z15:List Cd:= [.c z9 true,z0,z2,z1]
 let z16:Cd:= .c (.c .geq (.v 174 0) (.i 0)) true
 let z17:List Cd:=(.g 174 0 0 :: z7 :: z6 :: z14 :: z11 :: z12 :: z16 :: z15)
 let z18:SX:= .c .lss (.v 174 0) (.v 106 0)
 let z19:List Cd:=(.c (.eq (.r 71 40 0 (.v 174 0)) (.r 107 40 0 (.v 174 0))) true :: .c (.eq (.r 71 40 1 (.v 174 0)) (.r 107 40 1 (.v 174 0))) true :: .c (.c .eql (.r 71 40 2 (.v 174 0)) (.r 107 40 2 (.v 174 0))) true :: .c (.c .eql (.r 71 40 3 (.v 174 0)) (.r 107 40 3 (.v 174 0))) true :: .c (.c .eql (.r 71 40 4 (.v 174 0)) (.r 107 40 4 (.v 174 0))) true :: .c (.eq (.r 71 40 5 (.v 174 0)) (.r 107 40 5 (.v 174 0))) true :: .c (.eq (.r 71 40 6 (.v 174 0)) (.r 107 40 6 (.v 174 0))) true :: .c (.c .eql (.r 71 40 7 (.v 174 0)) (.r 107 40 7 (.v 174 0))) true :: .c (.c .eql (.r 71 40 8 (.v 174 0)) (.r 107 40 8 (.v 174 0))) true :: .c (.c .eql (.r 71 40 9 (.v 174 0)) (.r 107 40 9 (.v 174 0))) true :: .c (.eq (.r 71 40 10 (.v 174 0)) (.r 107 40 10 (.v 174 0))) true :: .c (.eq (.r 71 40 11 (.v 174 0)) (.r 107 40 11 (.v 174 0))) true :: .c (.c .eql (.r 71 40 12 (.v 174 0)) (.r 107 40 12 (.v 174 0))) true :: .c (.c .eql (.r 71 40 13 (.v 174 0)) (.r 107 40 13 (.v 174 0))) true :: .c (.c .eql (.r 71 40 14 (.v 174 0)) (.r 107 40 14 (.v 174 0))) true :: .c (.eq (.r 71 40 15 (.v 174 0)) (.r 107 40 15 (.v 174 0))) true :: .c (.eq (.r 71 40 16 (.v 174 0)) (.r 107 40 16 (.v 174 0))) true :: .c (.c .eql (.r 71 40 17 (.v 174 0)) (.r 107 40 17 (.v 174 0))) true :: .c (.c .eql (.r 71 40 18 (.v 174 0)) (.r 107 40 18 (.v 174 0))) true :: .c (.c .eql (.r 71 40 19 (.v 174 0)) (.r 107 40 19 (.v 174 0))) true :: .c (.eq (.r 71 40 20 (.v 174 0)) (.r 107 40 20 (.v 174 0))) true :: .c (.eq (.r 71 40 21 (.v 174 0)) (.r 107 40 21 (.v 174 0))) true :: .c (.c .eql (.r 71 40 22 (.v 174 0)) (.r 107 40 22 (.v 174 0))) true :: .c (.c .eql (.r 71 40 23 (.v 174 0)) (.r 107 40 23 (.v 174 0))) true :: .c (.c .eql (.r 71 40 24 (.v 174 0)) (.r 107 40 24 (.v 174 0))) true :: .c (.eq (.r 71 40 25 (.v 174 0)) (.r 107 40 25 (.v 174 0))) true :: .c (.eq (.r 71 40 26 (.v 174 0)) (.r 107 40 26 (.v 174 0))) true :: .c (.c .eql (.r 71 40 27 (.v 174 0)) (.r 107 40 27 (.v 174 0))) true :: .c (.c .eql (.r 71 40 28 (.v 174 0)) (.r 107 40 28 (.v 174 0))) true :: .c (.c .eql (.r 71 40 29 (.v 174 0)) (.r 107 40 29 (.v 174 0))) true :: .c (.eq (.r 71 40 30 (.v 174 0)) (.r 107 40 30 (.v 174 0))) true :: .c (.eq (.r 71 40 31 (.v 174 0)) (.r 107 40 31 (.v 174 0))) true :: .c (.c .eql (.r 71 40 32 (.v 174 0)) (.r 107 40 32 (.v 174 0))) true :: .c (.c .eql (.r 71 40 33 (.v 174 0)) (.r 107 40 33 (.v 174 0))) true :: .c (.c .eql (.r 71 40 34 (.v 174 0)) (.r 107 40 34 (.v 174 0))) true :: .c (.eq (.r 71 40 35 (.v 174 0)) (.r 107 40 35 (.v 174 0))) true :: .c (.eq (.r 71 40 36 (.v 174 0)) (.r 107 40 36 (.v 174 0))) true :: .c (.c .eql (.r 71 40 37 (.v 174 0)) (.r 107 40 37 (.v 174 0))) true :: .c (.c .eql (.r 71 40 38 (.v 174 0)) (.r 107 40 38 (.v 174 0))) true :: .c (.c .eql (.r 71 40 39 (.v 174 0)) (.r 107 40 39 (.v 174 0))) true :: .g 174 0 0 :: z7 :: z6 :: .c z18 true :: z14 :: z11 :: z12 :: z16 :: .c z10 true :: z15)
 let z20:SX:= .o .add .i64 (.v 174 0) (.i 1)
 [.cl [] (.c .geq (.v 3 0) (.i 0)),.pre [z0,z1,z2] 0 [(z3,0),(z4,0),(z5,0)],.pre [z6,z0,z1,z2] 1 [(z3,0),(z4,0),(z5,0)],.cl z8 z9,.cl z8 z10,.inv z13 0 174 [.n .i64 (.i 0)] [],.cl (.g 174 0 0 :: z13) z9,.cl (.g 174 0 0 :: z7 :: z6 :: z14 :: z11 :: z12 :: z15) (.c .geq (.v 174 0) (.i 0)),.cl z17 z18,.cl z17 z10,.inv z19 0 174 [.n .i64 z20] [],.cl z19 (.c .lss (.v 174 0) z20),.cl z19 (.c .lss (.v 174 0) (.i 17))]
theorem QpZ:QS Tryz.prog QpY 1000 4 3 Tryz.f3 Qnt Qqa=some (QrS,QrT):=by kernel_rfl
def QnO:List (Kon Tryz.prog):= [Yy,Qaw,kEx]
theorem zl0:QnO[0]?=some Yy:=rfl
theorem zl1:QnO[1]?=some Qaw:=rfl
theorem zl2:QnO[2]?=some kEx:=rfl
theorem zq0{d1 d2 d3:AD}{m m':Nm}:Yy.post [d1,d2,d3] m m'↔ZH (cxD d1 d2 d3) m m':=Iff.rfl
theorem zq1{d1 d2 d3:AD}{m m':Nm}:Qaw.post [d1,d2,d3] m m'↔ZH (cxD d1 d2 d3) m m':=Iff.rfl
theorem zq2{m m':Nm}:kEx.post [] m m'↔(m.int=fun _=>0)∧(m.bool=fun _=>true):=Iff.rfl
theorem Qqp{c:Cx}{m m' q q':Nm}(h1:ZH c m m')(h2:ZH c q q'):m.int 1=q.int 1∧m.int 0=q.int 0∧(m.int 0=0∨(m.int 0=(c.N:Int)∧∀k,k < c.N→∀r,r < 8→K1 m'.int m'.bool k r=K1 q'.int q'.bool k r)):=by
 unfold ZH at h1 h2;split at h1
 ·rename_i x hx;rw [hx]at h2;exact⟨by rw [h1.2,h2.2],by rw [h1.1,h2.1],.inl h1.1⟩
 ·rename_i b hb;rw [hb]at h2;exact⟨by rw [h1.2.1,h2.2.1],by rw [h1.1,h2.1],.inr ⟨h1.1,fun k hk r hr=>by rw [h1.2.2 k hk r hr,h2.2.2 k hk r hr]⟩⟩
set_option maxHeartbeats 4000000 in
theorem vsaAnalyzes_walk'(A:Option Addr)(n c:Nat)(hl:n≤maxLen)(ri:Nat→Int)(rb:Nat→Bool)(hr:∀i,i < n→InR Qc ri (i * Qc.length))(a:Int)(ha:Zk a)(R:Int)(hR:KT R)(w:World)(hrow:XW w A n Qc ri rb) :
 Calls Tryz.prog 3 #[.slice A n c,.int .u32 a,.int .i64 R] w (Ret (.bool true) w):=by
 have hI:=Qsu hr;have n63:=QoA hl;refine J9 (C:=QnO) (I:= [fun d e=>0≤e.int d 0∧e.int d 0≤16]) Qo rfl Tryz.func3 QpZ (Yu [nmR A c ri rb,nmN a,nmN R,nmN n]) w rfl ?_ _ ?_ ?_
 ·intro r hr0;rw [List.mem_singleton.1 hr0];exact hrow
 ·refine⟨?_,?_,?_,?_,?_,?_,?_,?_,?_,?_,?_,?_,?_,trivial⟩
  all_goals
   intro e he hc;have h0:e.nm 0=nmR A c ri rb:=he 0 (by decide)
   have h1:e.nm 1=nmN a:=he 1 (by decide)
   have h2:e.nm 2=nmN R:=he 2 (by decide)
   have h3:e.nm 3=nmN n:=he 3 (by decide)
   simp only [QC,Ze,Cd.holds,dv1,dv2,di1,db2,dr1,dr2,dq1,dq2,do1,Xc,Xb,ZY,ZX,Xa,ZZ,ZW,ZV,ZU,ZT,Xe,Xd,Jc,Jb,XY,XX,Ja,XZ,List.map_cons,List.map_nil,Nat.mul_one,Nat.add_zero,List.getElem?_cons_zero,List.getElem?_cons_succ,Option.some.injEq,exists_eq_left',and_true,and_assoc,Env.int,Env.bool,Xp,Nat.reduceLeDiff,Nat.reduceAdd,Wf,Jz,zl0,zl1,zl2,zq0,zq1,zq2,Jk,h2,h3,nmR,nmN,nmI]at hc ⊢
  all_goals
   try (have q1:ZH (cxD (PX.dat e 0 (.l (.sl 0 (.v 3 0)))) (PX.dat e 0 (.l (.n .u32 (.v 1 0)))) (PX.dat e 0 (.l (.n .i64 (.v 2 0))))) (e.nm 70) (e.nm 71):=by(have hpq:=hc;(repeat (first|exact hpq|exact hpq.1|replace hpq:=hpq.2));done)
        have R1:Qtb (Za ri n) n a (e.nm 70) (e.nm 71):=by
         have q':ZH ⟨Za (e.nm 0).int ((e.nm 3).int 0).toNat,((e.nm 3).int 0).toNat,(e.nm 1).int 0,(e.nm 2).int 0⟩ (e.nm 70) (e.nm 71):=q1;rw [h0,h1,h3]at q';exact Qt1 hI q')
  all_goals
   try (have q2:ZH (cxD (PX.dat e 0 (.l (.sl 0 (.v 3 0)))) (PX.dat e 0 (.l (.n .u32 (.v 1 0)))) (PX.dat e 0 (.l (.n .i64 (.v 2 0))))) (e.nm 106) (e.nm 107):=by(have hpq:=hc;(repeat (first|exact hpq|exact hpq.1|replace hpq:=hpq.2));done)
        have T:=Qqp q1 q2)
  all_goals
   first
    |omega
    |(have iv:0≤(e.nm 174).int 0:=by(have hpq:=hc;(repeat (first|exact hpq|exact hpq.1|replace hpq:=hpq.2));done)
      have iu:(e.nm 174).int 0≤16:=by(have hpq:=hc;(repeat (first|exact hpq|exact hpq.1|replace hpq:=hpq.2));done)
      have sN:IntKind.i64.wrap ((e.nm 174).int 0+1)=(e.nm 174).int 0+1:=Q7 iv (by omega)
      rw [sN];rcases R1 with ⟨r0,r1⟩|⟨r0,r1,f,b,r2,r3,r4,r5⟩ <;> omega)
    |(rcases R1 with ⟨r0,r1⟩|⟨r0,r1,f,b,r2,r3,r4,r5⟩ <;> omega)
    |(show(∀k,k < ((e.nm 3).int 0).toNat→(Q4 (e.nm 0).int k).wf)∧0≤(e.nm 1).int 0∧(e.nm 2).int 0≤9223372036854775807
      rw [h0,h1,h2,h3];refine⟨fun k hk=>?_,ha.1,hR.2⟩
      have hk':k < n:=by rwa [show((nmN (n:Int)).int 0).toNat=n from rfl]at hk
      have:=hI k;rwa [KK hk']at this)
    |(show((∀k,k < ((e.nm 3).int 0).toNat→(Q4 (e.nm 0).int k).wf)∧0≤(e.nm 1).int 0∧(e.nm 2).int 0≤9223372036854775807)∧(((e.nm 3).int 0).toNat:Int) < 2 ^ 63
      rw [h0,h1,h2,h3];refine⟨⟨fun k hk=>?_,ha.1,hR.2⟩,show((n:Int).toNat:Int) < 2 ^ 63 by omega⟩
      have hk':k < n:=by rwa [show((nmN (n:Int)).int 0).toNat=n from rfl]at hk
      have:=hI k;rwa [KK hk']at this)
    |fail ""
 ·refine⟨?_,?_,?_,?_,trivial⟩
  all_goals
   intro e u he hc hs;have h0:e.nm 0=nmR A c ri rb:=he 0 (by decide)
   have h1:e.nm 1=nmN a:=he 1 (by decide)
   have h2:e.nm 2=nmN R:=he 2 (by decide)
   have h3:e.nm 3=nmN n:=he 3 (by decide)
   simp only [QC,Ze,Cd.holds,dv1,dv2,di1,db2,dr1,dr2,dq1,dq2,do1,Xc,Xb,ZY,ZX,Xa,ZZ,ZW,ZV,ZU,ZT,Xe,Xd,Jc,Jb,XY,XX,Ja,XZ,List.map_cons,List.map_nil,Nat.mul_one,Nat.add_zero,List.getElem?_cons_zero,List.getElem?_cons_succ,Option.some.injEq,exists_eq_left',and_true,and_assoc,Env.int,Env.bool,Xp,Nat.reduceLeDiff,Nat.reduceAdd,Wf,Jz,zl0,zl1,zl2,zq0,zq1,zq2,Jk,h2,h3,nmR,nmN,nmI]at hc;rw [show u=_ from hs]
  all_goals
   try (have q1:ZH (cxD (PX.dat e 0 (.l (.sl 0 (.v 3 0)))) (PX.dat e 0 (.l (.n .u32 (.v 1 0)))) (PX.dat e 0 (.l (.n .i64 (.v 2 0))))) (e.nm 70) (e.nm 71):=by(have hpq:=hc;(repeat (first|exact hpq|exact hpq.1|replace hpq:=hpq.2));done)
        have q2:ZH (cxD (PX.dat e 0 (.l (.sl 0 (.v 3 0)))) (PX.dat e 0 (.l (.n .u32 (.v 1 0)))) (PX.dat e 0 (.l (.n .i64 (.v 2 0))))) (e.nm 106) (e.nm 107):=by(have hpq:=hc;(repeat (first|exact hpq|exact hpq.1|replace hpq:=hpq.2));done)
        have T:=Qqp q1 q2)
  ·refine congrArg Value.bool ?_;have q:(e.nm 58).bool=fun _=>true:=by(have hpq:=hc;(repeat (first|exact hpq|exact hpq.1|replace hpq:=hpq.2));done)
   show(e.nm 58).bool 0=true;rw [q]
  ·exfalso;have q:=hc.1;obtain⟨t1,t2,t3⟩:=T;omega
  ·exfalso;have hne:=hc.1;obtain⟨t1,t2,t3⟩:=T;have i0:0≤(e.nm 174).int 0:=by(have hpq:=hc;(repeat (first|exact hpq|exact hpq.1|replace hpq:=hpq.2));done)
   have i1:(e.nm 174).int 0 < (e.nm 70).int 0:=by(have hpq:=hc;(repeat (first|exact hpq|exact hpq.1|replace hpq:=hpq.2));done)
   rcases t3 with t3|⟨t3,hall'⟩
   ·omega
   ·have eN:(cxD (PX.dat e 0 (.l (.sl 0 (.v 3 0)))) (PX.dat e 0 (.l (.n .u32 (.v 1 0)))) (PX.dat e 0 (.l (.n .i64 (.v 2 0))))).N=((e.nm 3).int 0).toNat:=rfl;have hall:=hall' ((e.nm 174).int 0).toNat (by omega)
    exact hne ⟨congrArg Qd.e (hall 0 (by omega)),congrArg Qd.t (hall 0 (by omega)),congrArg Qd.lo (hall 0 (by omega)),congrArg Qd.hi (hall 0 (by omega)),congrArg Qd.st (hall 0 (by omega)),congrArg Qd.e (hall 1 (by omega)),congrArg Qd.t (hall 1 (by omega)),congrArg Qd.lo (hall 1 (by omega)),congrArg Qd.hi (hall 1 (by omega)),congrArg Qd.st (hall 1 (by omega)),congrArg Qd.e (hall 2 (by omega)),congrArg Qd.t (hall 2 (by omega)),congrArg Qd.lo (hall 2 (by omega)),congrArg Qd.hi (hall 2 (by omega)),congrArg Qd.st (hall 2 (by omega)),congrArg Qd.e (hall 3 (by omega)),congrArg Qd.t (hall 3 (by omega)),congrArg Qd.lo (hall 3 (by omega)),congrArg Qd.hi (hall 3 (by omega)),congrArg Qd.st (hall 3 (by omega)),congrArg Qd.e (hall 4 (by omega)),congrArg Qd.t (hall 4 (by omega)),congrArg Qd.lo (hall 4 (by omega)),congrArg Qd.hi (hall 4 (by omega)),congrArg Qd.st (hall 4 (by omega)),congrArg Qd.e (hall 5 (by omega)),congrArg Qd.t (hall 5 (by omega)),congrArg Qd.lo (hall 5 (by omega)),congrArg Qd.hi (hall 5 (by omega)),congrArg Qd.st (hall 5 (by omega)),congrArg Qd.e (hall 6 (by omega)),congrArg Qd.t (hall 6 (by omega)),congrArg Qd.lo (hall 6 (by omega)),congrArg Qd.hi (hall 6 (by omega)),congrArg Qd.st (hall 6 (by omega)),congrArg Qd.e (hall 7 (by omega)),congrArg Qd.t (hall 7 (by omega)),congrArg Qd.lo (hall 7 (by omega)),congrArg Qd.hi (hall 7 (by omega)),congrArg Qd.st (hall 7 (by omega))⟩
  ·refine congrArg Value.bool ?_;have q:(e.nm 191).bool=fun _=>true:=by(have hpq:=hc;(repeat (first|exact hpq|exact hpq.1|replace hpq:=hpq.2));done)
   show(e.nm 191).bool 0=true;rw [q]
end Go.Proofs.YteplnamfpodmlaaGreat.T2
namespace Go.Proofs.YteplnamfpodmlaaGreat
theorem vsaAnalyzes_walk(A:Option Addr)(n c:Nat)(hl:n≤maxLen)(ri:Nat→Int)(rb:Nat→Bool)(hr:∀i,i < n→InR Qc ri (i * Qc.length))(a:Int)(ha:Zk a)(R:Int)(hR:KT R)(w:World)(hrow:XW w A n Qc ri rb) :
 Calls Tryz.prog 3 #[.slice A n c,.int .u32 a,.int .i64 R] w (Ret (.bool true) w):=T2.vsaAnalyzes_walk' A n c hl ri rb hr a ha R hR w hrow
theorem vsaAnalyzes_own:ownKnob Tryz.prog.godebug=none:=by kernel_rfl
set_option maxRecDepth 100000 in
theorem vsaAnalyzes_lifted(os:Os)(started:os.Started)(H:Type)(enc:TypeId×Value→H) :
 ReturnsInHanded {} Tryz.checked os 3 .any (Rows.vsaAnalyzesSpec.pre6 enc Tryz.prog Tryz.f3 Rows.vsaAnalyzesRow.domain false) (Rows.vsaAnalyzesSpec.post enc Tryz.prog Tryz.f3 false true false false):=by
 refine returnsInHanded_of_change (C:=Tryz.checked) vsaAnalyzes_own started (by kernel_rfl) Tryz.func3
  (ChangeSpec.witness6 (enc:=enc) (C:=Tryz.checked) false ⟨#[],#[.slice none 0 0,.int .u32 0,.int .i64 0],[]⟩ 8 (by kernel_rfl) (by kernel_rfl) (by kernel_rfl) (by kernel_rfl)) ?_
 intro W base args ds gs before hval0 hW hcnd _;have hval:∀(j:Nat) t v,Tryz.f3.params[j]?=some t→args[j]?=some v→Value.okWide Tryz.prog W .any base t v:=hval0;have hW':=hW;obtain⟨p,q,hA0,hV,rfl,hfz,hnd⟩:=hW;have hA:DataW.TrodAll enc Tryz.prog W 0 (fun _=>true) true Tryz.f3.params.toList args.toList ds p:=hA0
 have hA1:=hA;obtain⟨rfl,rfl⟩:=trodVars_none hV;rw [Tryz.params3]at hA hval;obtain⟨v0,vs0,d0,ds0,p0,q0,hargs,hd0,hp0,h0,r0⟩:=trodAll_cons hA;obtain⟨v1,vs1,d1,ds1,p1,q1,hv1,hd1,hp1,h1,r1⟩:=trodAll_cons r0;obtain⟨v2,vs2,d2,ds2,p2,q2,hv2,hd2,hp2,h2,r2⟩:=trodAll_cons r1;obtain⟨hvn,hdn,hpn⟩:=trodAll_nil r2;subst hdn hd2 hd1 hd0;obtain rfl:args= #[v0,v1,v2]:=by cases args;simp_all
 clear hargs hvn hv1 hv2;obtain⟨A0,n0,c0,rfl,l0,r0⟩:=QoG Qc 6 Tryz.underlying22 (by kernel_rfl) (by kernel_rfl) (hval 0 22 v0 rfl rfl) h0
 obtain⟨ri0,rb0,hrow0,hr0⟩:=QtS (K:=Qc) (by decide) r0
 obtain⟨a1,rfl,_,_,w1⟩:=open_int Tryz.underlying23 (hval 1 23 v1 rfl rfl) h1;obtain⟨a2,rfl,_,_,w2⟩:=open_int Tryz.underlying3 (hval 2 3 v2 rfl rfl) h2;simp only [List.append_nil]at hW';refine(vsaAnalyzes_walk A0 n0 c0 l0 ri0 rb0 hr0 a1 (QlE w1) a2 (WF w2) W hrow0).mono fun e W' hr=>?_
 obtain⟨rfl,hb⟩:=hr
 exact⟨_,rfl,QdY (pa:=p) (pv:= []) hW' (fun _ _ _=>(trodAll_cons_mk (shut_bool Tryz.underlying4 _) trodAll_mk0)) (fun sp hsp=>Qaf Qfr hb _ _ _ _ (by kernel_rfl) hA1 (fun x hx=>hW'.lt x hx) hsp) (fun _ _=>rfl) (by simp)
  hb (ok_one (by kernel_rfl) rfl (okWide_bool_mk Tryz.underlying4 _))⟩
theorem vsaAnalyzes_over:Rows.vsaAnalyzesRow.holds Tryz.pinned (OpenSpec.ofChange Rows.vsaAnalyzesSpec):=
 OpenClaim.holds_of_wide 3 Tryz.f3 rfl rfl rfl rfl rfl rfl rfl ⟨rfl,rfl,rfl,rfl,rfl⟩ rfl rfl rfl rfl rfl (by kernel_rfl) Tryz.func3 (by kernel_rfl)
  (of_decide_eq_true (by kernel_rfl)) (by unfold Func.isWrapper;first|(rw [if_pos (by decide+kernel)];kernel_rfl)|(rw [if_neg (by decide+kernel)];exact⟨rfl,rfl⟩))
  (fun os started H enc _=>vsaAnalyzes_lifted os started H enc)
theorem vsaAnalyzes_proved:Rows.VsaAnalyzesSaid:=vsaAnalyzes_over
end Go.Proofs.YteplnamfpodmlaaGreat
