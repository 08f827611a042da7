/-
  VsaFixed: for all lists of instructions and entries the call returns true: the states of Analyze are stable. No condition on the inputs.
-/
import Derived.Test.YteplnamfpodmlaaRows
import Derived.Test.YteplnamfpodmlaaQLz
import Derived.Test.YteplnamfpodmlaaQLy
set_option linter.unusedVariables false
set_option linter.unusedSimpArgs false
set_option maxRecDepth 100000
open Go.ChangeShapes Go.WideShapes Go.ChangeAt Go.RowKit
namespace Go.Proofs.Yteplnamfpodmlaa.T2
def QdA:Kon Try.prog:=Qe2 Qo4 fun ads w hf=>by
 obtain⟨d1,_,rfl,f1,hf⟩:=Qf hf
 obtain rfl:=Qn hf
 trivial
def Qrh:Kon Try.prog:=Qe2 QuB fun ads w hf=>by
 obtain rfl:=Qn hf
 trivial
def QsJ:List Sg:= [⟨13,[.sl Qb,.l (some .u32),.l (some .i64)],.se stK (some .i64),false,false⟩,⟨14,[.sl Qb,.l (some .i64)],.s [some .u32],false,false⟩,⟨15,[.a stK],.b (.l none),true,true⟩,⟨16,[.sl Qb,.sl stK,.l (some .u32)],.b (.tp [.inr stK,.inl none]),true,false⟩,⟨18,[.a Qb,.a stK],.b (.a stK),true,false⟩,⟨17,[.a stK,.a stK],.b (.l none),true,false⟩,⟨19,[],.b (.a stK),true,true⟩,⟨12,[],.b (.l none),true,true⟩]
def QmM:List PX:= [.l (.sl 0 (.v 2 0)),.l (.n .u32 (.v 1 0))]
def QpW:List Rw:= [⟨0,Qb,(.v 2 0)⟩]
def QpU:Cfg:=⟨4,QsJ,[⟨3,9,0,[.num (.s 7) (some .i64)],7,.inr (.i 17),true⟩,⟨3,13,1,[.num (.s 9) (some .i64)],9,.inr (.i 4),true⟩],[11],[]⟩
def QsH:List Lf:=
 let z0:Cd:= .c (.c .geq (.v 48 0) (.i 0)) true
 let z1:PX:= .l (.sl 0 (.v 2 0))
 let z2:Cd:= .f 48 0 [(z1,0),(.l (.n .u32 (.v 1 0)),0),(.l (.n .i64 (.i 400)),0)]
 let z3:List Cd:= [.c (.c .leq (.v 2 0) (.i 16)) true,.c (.c .geq (.v 2 0) (.i 0)) true]
 let z4:Cd:= .c (.c .neq (.v 48 1) (.i 0)) false
 [⟨[.f 40 7 [],.c (.c .leq (.v 2 0) (.i 16)) false,.c (.c .geq (.v 2 0) (.i 0)) true],.v (.l (.t (.v 40 0))),[]⟩,⟨(.f 96 7 [] :: z0 :: .c (.c .neq (.v 48 1) (.i 0)) true :: z2 :: z3),.v (.l (.t (.an (.c .eql (.v 48 0) (.i 0)) (.v 96 0)))),[⟨49,.row stK (.v 48 0) 49⟩]⟩,⟨(.c (.c .neq (.v 48 0) (.v 2 0)) true :: z0 :: z4 :: z2 :: z3),.v (.l (.t (.b false))),[⟨49,.row stK (.v 48 0) 49⟩]⟩,⟨(.c (.an (.v 310 40) (.v 390 0)) false :: .f 390 5 [(.a (Qa 382 0 stK),0),(.a (Qa 310 0 stK),0)] :: .f 382 4 [(.a (rxL 0 9 (.v 104 0) 0 Qb),0),(.a (rxL 49 40 (.v 104 0) 0 stK),0)] :: .f 310 3 [(z1,0),(.l (.sl 49 (.v 48 0)),49),(.l (.n .u32 (.r 130 1 0 (.v 141 0))),0)] :: .f 178 2 [(.a (rxL 49 40 (.v 104 0) 0 stK),0)] :: .g 141 0 1 :: .f 129 1 [(z1,0),(.l (.n .i64 (.v 104 0)),0)] :: .g 104 0 0 :: z2 :: .c (.c .neq (.r 0 9 2 (.v 104 0)) (.i 24)) true :: .c (.c .neq (.r 0 9 2 (.v 104 0)) (.i 23)) true :: .c (.c .neq (.r 0 9 2 (.v 104 0)) (.i 20)) true :: .c (.c .lss (.v 141 0) (.v 129 0)) true :: .c (.c .geq (.v 141 0) (.i 0)) true :: .c (.c .geq (.v 129 0) (.i 0)) true :: .c (.c .lss (.v 104 0) (.v 2 0)) true :: .c (.c .neq (.v 48 0) (.v 2 0)) false :: z4 :: z0 :: .c (.v 178 0) false :: z3),.v (.l (.t (.b false))),[⟨130,.row [some .u32] (.v 129 0) 130⟩,⟨49,.row stK (.v 48 0) 49⟩,⟨326,.cells 37 (Qa 310 0 stK)⟩]⟩,⟨(.f 189 7 [] :: .f 177 5 [(.a (Qa 169 0 stK),0),(.a (Qa 133 0 stK),0)] :: .f 169 6 [] :: .f 133 3 [(z1,0),(.l (.sl 49 (.v 48 0)),49),(.l (.n .u32 (.v 1 0)),0)] :: .g 104 0 0 :: z2 :: .c (.c .lss (.v 104 0) (.v 2 0)) false :: .c (.c .neq (.v 48 0) (.v 2 0)) false :: z4 :: z0 :: z3),.v (.l (.t (.an (.an (.v 133 40) (.v 177 0)) (.v 189 0)))),[⟨49,.row stK (.v 48 0) 49⟩,⟨149,.cells 37 (Qa 133 0 stK)⟩]⟩]
def QsI:List Ob:=
 let z0:List Cd:= [.c (.c .leq (.v 2 0) (.i 16)) true,.c (.c .geq (.v 2 0) (.i 0)) true]
 let z1:PX:= .l (.sl 0 (.v 2 0))
 let z2:PX:= .l (.n .u32 (.v 1 0))
 let z3:Cd:= .f 48 0 [(z1,0),(z2,0),(.l (.n .i64 (.i 400)),0)]
 let z4:SX:= .c .geq (.v 48 0) (.i 0)
 let z5:Cd:= .c (.c .neq (.v 48 1) (.i 0)) false
 let z6:Cd:= .c (.c .neq (.v 48 0) (.v 2 0)) false
 let z7:Cd:= .c (.c .lss (.v 141 0) (.v 129 0)) true
 let z8:SX:= .c .geq (.v 104 0) (.i 0)
 let z9:Cd:= .c (.no (.v 178 0)) true
 let z10:PX:= .a (rxL 49 40 (.v 104 0) 0 stK)
 let z11:List Cd:=(.f 178 2 [(z10,0)] :: .c (.c .geq (.v 129 0) (.i 0)) true :: .g 141 0 1 :: .f 129 1 [(z1,0),(.l (.n .i64 (.v 104 0)),0)] :: .c (.c .lss (.v 104 0) (.v 2 0)) true :: .g 104 0 0 :: z6 :: .c z4 true :: z5 :: z3 :: z0)
 let z12:Cd:= .c (.c .neq (.r 0 9 2 (.v 104 0)) (.i 20)) true
 let z13:Cd:= .c (.c .neq (.r 0 9 2 (.v 104 0)) (.i 23)) true
 let z14:PX:= .l (.sl 49 (.v 48 0))
 let z15:List Cd:=(.c (.v 310 40) true :: .f 310 3 [(z1,0),(z14,49),(.l (.n .u32 (.r 130 1 0 (.v 141 0))),0)] :: .f 178 2 [(z10,0)] :: .g 141 0 1 :: .f 129 1 [(z1,0),(.l (.n .i64 (.v 104 0)),0)] :: .g 104 0 0 :: z3 :: .c (.c .neq (.r 0 9 2 (.v 104 0)) (.i 24)) true :: z13 :: z12 :: z7 :: .c (.c .geq (.v 141 0) (.i 0)) true :: .c (.c .geq (.v 129 0) (.i 0)) true :: .c (.c .lss (.v 104 0) (.v 2 0)) true :: z6 :: z5 :: .c z4 true :: .c (.v 178 0) false :: z0)
 let z16:List Cd:=(.c (.v 310 40) true :: .c (.v 390 0) true :: .f 390 5 [(.a (Qa 382 0 stK),0),(.a (Qa 310 0 stK),0)] :: .f 382 4 [(.a (rxL 0 9 (.v 104 0) 0 Qb),0),(z10,0)] :: .f 310 3 [(z1,0),(z14,49),(.l (.n .u32 (.r 130 1 0 (.v 141 0))),0)] :: .f 178 2 [(z10,0)] :: .g 141 0 1 :: .f 129 1 [(z1,0),(.l (.n .i64 (.v 104 0)),0)] :: .g 104 0 0 :: z3 :: .c (.c .neq (.r 0 9 2 (.v 104 0)) (.i 24)) true :: z13 :: z12 :: z7 :: .c (.c .geq (.v 141 0) (.i 0)) true :: .c (.c .geq (.v 129 0) (.i 0)) true :: .c (.c .lss (.v 104 0) (.v 2 0)) true :: z6 :: z5 :: .c z4 true :: .c (.v 178 0) false :: z0)
 let z17:List Cd:=(.c (.an (.an (.an (.an (.c .lss (.v 141 0) (.v 129 0)) (.no (.v 178 0))) (.c .neq (.r 0 9 2 (.v 104 0)) (.i 20))) (.c .neq (.r 0 9 2 (.v 104 0)) (.i 23))) (.c .neq (.r 0 9 2 (.v 104 0)) (.i 24))) false :: z11)
 [.cl [] (.c .geq (.v 2 0) (.i 0)),.pre z0 0 [(z1,0),(z2,0),(.l (.n .i64 (.i 400)),0)],.cl (.c (.c .neq (.v 48 1) (.i 0)) true :: z3 :: z0) z4,.cl (z5 :: z3 :: z0) z4,.inv (z6 :: .c z4 true :: z5 :: z3 :: z0) 0 104 [.n .i64 (.i 0)] [],.pre (.c (.c .lss (.v 104 0) (.v 2 0)) true :: .g 104 0 0 :: z6 :: .c z4 true :: z5 :: z3 :: z0) 1 [(z1,0),(.l (.n .i64 (.v 104 0)),0)],.inv (.f 129 1 [(z1,0),(.l (.n .i64 (.v 104 0)),0)] :: .c (.c .lss (.v 104 0) (.v 2 0)) true :: .g 104 0 0 :: z6 :: .c z4 true :: z5 :: z3 :: z0) 1 141 [.n .i64 (.i 0)] [],.cl (.g 141 0 1 :: .f 129 1 [(z1,0),(.l (.n .i64 (.v 104 0)),0)] :: .c (.c .lss (.v 104 0) (.v 2 0)) true :: .g 104 0 0 :: z6 :: .c z4 true :: z5 :: z3 :: z0) (.c .geq (.v 129 0) (.i 0)),.cl (z7 :: .c (.c .geq (.v 129 0) (.i 0)) true :: .g 141 0 1 :: .f 129 1 [(z1,0),(.l (.n .i64 (.v 104 0)),0)] :: .c (.c .lss (.v 104 0) (.v 2 0)) true :: .g 104 0 0 :: z6 :: .c z4 true :: z5 :: z3 :: z0) z8,.cl (z7 :: .c (.c .geq (.v 129 0) (.i 0)) true :: .g 141 0 1 :: .f 129 1 [(z1,0),(.l (.n .i64 (.v 104 0)),0)] :: .c (.c .lss (.v 104 0) (.v 2 0)) true :: .g 104 0 0 :: z6 :: .c z4 true :: z5 :: z3 :: z0) (.c .lss (.v 104 0) (.v 48 0)),.cl (z7 :: z9 :: z11) z8,.cl (z7 :: z9 :: z12 :: z11) z8,.cl (z7 :: z9 :: z12 :: z13 :: z11) z8,.cl (z7 :: .c (.v 178 0) false :: z12 :: z13 :: .c (.c .neq (.r 0 9 2 (.v 104 0)) (.i 24)) true :: z11) (.c .geq (.v 141 0) (.i 0)),.pre (.c (.c .geq (.v 141 0) (.i 0)) true :: z7 :: .c (.v 178 0) false :: z12 :: z13 :: .c (.c .neq (.r 0 9 2 (.v 104 0)) (.i 24)) true :: z11) 3 [(z1,0),(z14,49),(.l (.n .u32 (.r 130 1 0 (.v 141 0))),0)],.cl z15 (.c .lss (.v 104 0) (.v 48 0)),.cl z15 z8,.pre z15 4 [(.a (rxL 0 9 (.v 104 0) 0 Qb),0),(z10,0)],.pre (.c (.v 310 40) true :: .f 382 4 [(.a (rxL 0 9 (.v 104 0) 0 Qb),0),(z10,0)] :: .f 310 3 [(z1,0),(z14,49),(.l (.n .u32 (.r 130 1 0 (.v 141 0))),0)] :: .f 178 2 [(z10,0)] :: .g 141 0 1 :: .f 129 1 [(z1,0),(.l (.n .i64 (.v 104 0)),0)] :: .g 104 0 0 :: z3 :: .c (.c .neq (.r 0 9 2 (.v 104 0)) (.i 24)) true :: z13 :: z12 :: z7 :: .c (.c .geq (.v 141 0) (.i 0)) true :: .c (.c .geq (.v 129 0) (.i 0)) true :: .c (.c .lss (.v 104 0) (.v 2 0)) true :: z6 :: z5 :: .c z4 true :: .c (.v 178 0) false :: z0) 5 [(.a (Qa 382 0 stK),0),(.a (Qa 310 0 stK),0)],.inv z16 1 141 [.n .i64 (.o .add .i64 (.v 141 0) (.i 1))] [],.cl z16 (.c .lss (.v 141 0) (.o .add .i64 (.v 141 0) (.i 1))),.cl z16 (.c .lss (.v 141 0) (.i 4)),.inv z17 0 104 [.n .i64 (.o .add .i64 (.v 104 0) (.i 1))] [],.cl z17 (.c .lss (.v 104 0) (.o .add .i64 (.v 104 0) (.i 1))),.cl z17 (.c .lss (.v 104 0) (.i 17)),.pre (.c (.c .lss (.v 104 0) (.v 2 0)) false :: .g 104 0 0 :: z6 :: .c z4 true :: z5 :: z3 :: z0) 3 [(z1,0),(z14,49),(z2,0)],.pre (.c (.v 133 40) true :: .f 169 6 [] :: .f 133 3 [(z1,0),(z14,49),(z2,0)] :: .g 104 0 0 :: z3 :: .c (.c .lss (.v 104 0) (.v 2 0)) false :: z6 :: z5 :: .c z4 true :: z0) 5 [(.a (Qa 169 0 stK),0),(.a (Qa 133 0 stK),0)]]
theorem QpV:QP Try.prog QpU 1000 4 3 Try.f3 QmM QpW=some (QsH,QsI):=by kernel_rfl
def Qbz:List (Kon Try.prog):= [Ja,QfN,QdA,YG,Xx.kon,QbZ.kon,Qrh,kEx]
theorem fl0:Qbz[0]?=some Ja:=rfl
theorem fl1:Qbz[1]?=some QfN:=rfl
theorem fl2:Qbz[2]?=some QdA:=rfl
theorem fl3:Qbz[3]?=some YG:=rfl
theorem fl4:Qbz[4]?=some Xx.kon:=rfl
theorem fl5:Qbz[5]?=some QbZ.kon:=rfl
theorem fl6:Qbz[6]?=some Qrh:=rfl
theorem fl7:Qbz[7]?=some kEx:=rfl
theorem QqN{d1 d2 d3:AD}{m m':Nm}:Ja.post [d1,d2,d3] m m'↔ZZ (cxD d1 d2 d3) m m':=Iff.rfl
theorem QqO{d1 d2:AD}{m m':Nm}:QfN.post [d1,d2] m m'↔JE (YN (Qe d1.int) (J6 d1.val) (Q8 d2).toNat) m m':=Iff.rfl
theorem QqP{d:AD}{m m':Nm}:QdA.post [d] m m'↔(m.int=fun _=>0)∧(m.bool=fun _=>emptyS (stD d)):=Iff.rfl
theorem QqQ{d1 d2 d3:AD}{m m':Nm}:YG.post [d1,d2,d3] m m'↔(m.int=Ys (Kq (Qe d1.int) (J6 d1.val) (J6 d2.val) (Q8 d3)) d2.int)∧(m.bool=Yr (Kq (Qe d1.int) (J6 d1.val) (J6 d2.val) (Q8 d3)) d2.bool):=Iff.rfl
theorem QqR{d1 d2:AD}{m m':Nm}:Xx.kon.post [d1,d2] m m'↔m.int=ZH (Qw (Q0 d1) (stD d2))∧m.bool=QU (Qw (Q0 d1) (stD d2)):=Iff.rfl
theorem QqS{d1 d2:AD}{m m':Nm}:QbZ.kon.post [d1,d2] m m'↔(m.int=fun _=>0)∧(m.bool=fun _=>Vy (stD d1) (stD d2)):=Iff.rfl
theorem QqT{m m':Nm}:Qrh.post [] m m'↔(m.int=ZH fun _=>Qy)∧m.bool=QU fun _=>Qy:=Iff.rfl
theorem QqU{m m':Nm}:kEx.post [] m m'↔(m.int=fun _=>0)∧(m.bool=fun _=>true):=Iff.rfl
theorem QqL{I:Nat→Ins}{N f k t:Nat}{b:Nat→Nat→Qd}{tk:Bool}(A:Qeu I N f b)(hk:k < N)(hn:emptyS (b k)=false)(ho:¬(I k).op=20∧¬(I k).op=23∧¬(I k).op=24)(hp:(t,tk)∈XH I N k):Xi (Qw (I k) (b k)) (b t):=by
 rcases A.fix k hk with h|h
 ·rw [h,Qoa]at hn;cases hn
 ·have:=h _ hp
  have ha:Xw I (Xk I N f k) k (b k) tk=Qw (I k) (b k):=by
   unfold Xw
   rw [if_neg (by omega),if_neg (fun h=>ho.1 h.1)]
  rwa [ha]at this
theorem Wa{e:Env}{d c N t:Nat}{b:Nat→Nat→Qd}{m:Nm}(hi:e.int d=Ys (some t) m.int)(hb:e.bool d=Yr (some t) m.bool)(hB:BIs m N b)(ht:t < N)(hcut:Qap b):stD (PX.dat e c (.a (Qa d 0 stK)))=b t:=by
 rw [Qll]
 funext r
 unfold ZN
 split
 ·rename_i h
  show Zg e d (5 * r)=b t r
  rw [Qq8 hi hb r h]
  exact hB t ht r h
 ·exact(hcut t r (by omega)).symm
theorem QhH{l:List Int}{m m':Nm}{j:Int}(h:JE l m m')(h0:0≤j)(h1:j < m.int 0):l[j.toNat]?=some (m'.int j.toNat):=by
 have hl:j.toNat < l.length:=by have:=h.1;omega
 rw [h.2 _ _ (List.getElem?_eq_getElem hl)]
 exact List.getElem?_eq_getElem hl
set_option maxHeartbeats 8000000 in
theorem vsaFixed_walk'(A:Option Addr)(n c:Nat)(hl:n≤maxLen)(ri:Nat→Int)(rb:Nat→Bool)(hr:∀i,i < n→InR Qb ri (i * Qb.length))(a:Int)(ha:Q5 a)(w:World)(hrow:Xn w A n Qb ri rb) :
 Calls Try.prog 3 #[.slice A n c,.int .u32 a] w (Ret (.bool true) w):=by
 have hI:=QfH hr
 have n63:=Qfn hl
 refine ZK (C:=Qbz) (I:= [fun d e=>0≤e.int d 0∧e.int d 0≤16,fun d e=>0≤e.int d 0∧e.int d 0≤2]) Qr rfl Try.func3 QpV (Kh [nmR A c ri rb,nmN a,nmN n]) w rfl ?_ _ ?_ ?_
 ·intro r hr0
  rw [List.mem_singleton.1 hr0]
  exact hrow
 ·refine⟨?_,?_,?_,?_,?_,?_,?_,?_,?_,?_,?_,?_,?_,?_,?_,?_,?_,?_,?_,?_,?_,?_,?_,?_,?_,?_,?_,trivial⟩
  all_goals
   intro e he hc
   have h0:e.nm 0=nmR A c ri rb:=he 0 (by decide)
   have h1:e.nm 1=nmN a:=he 1 (by decide)
   have h2:e.nm 2=nmN n:=he 2 (by decide)
   have hD:∀x:SX,(x.den e).1.toNat < n→Q0 (PX.dat e 0 (.a (rxL 0 9 x 0 Qb)))=Ql ri n (x.den e).1.toNat:=fun x hx=>by
    rw [Xb,Qp hx]
    show Qe (e.nm 0).int _=_
    rw [h0]
    rfl
   simp only [QC,Zb,Cd.holds,dv1,dv2,di1,db2,dr1,dr2,dq1,dq2,do1,Z1,Z0,Zx,Zw,Zz,Zy,Zv,Zu,Zt,Zs,Z3,Z2,Xt,Xs,Xp,Xo,Xr,Xq,List.map_cons,List.map_nil,Nat.mul_one,Nat.add_zero,List.getElem?_cons_zero,List.getElem?_cons_succ,Option.some.injEq,exists_eq_left',and_true,and_assoc,Env.int,Env.bool,X8,Nat.reduceLeDiff,Nat.reduceAdd,Jp,Wy,fl0,fl1,fl2,fl3,fl4,fl5,fl6,fl7,QqN,QqO,QqP,QqQ,QqR,QqS,QqT,QqU,Ji,h2,nmR,nmN,nmI]at hc
  all_goals
   try (have q:ZZ (cxD (PX.dat e 0 (.l (.sl 0 (.v 2 0)))) (PX.dat e 0 (.l (.n .u32 (.v 1 0)))) (PX.dat e 0 (.l (.n .i64 (.i 400))))) (e.nm 48) (e.nm 49):=by(have hpq:=hc;(repeat (first|exact hpq|exact hpq.1|replace hpq:=hpq.2));done)
        have q':ZZ ⟨Ql (e.nm 0).int ((e.nm 2).int 0).toNat,((e.nm 2).int 0).toNat,(e.nm 1).int 0,400⟩ (e.nm 48) (e.nm 49):=q
        rw [h0,h1,h2]at q'
        have R:Qcx (Ql ri n) n a (e.nm 48) (e.nm 49):=Qa4 hI q'
        clear q q')
  all_goals
   try (have e1:(e.nm 129).int 0≤2:=by
         have q:JE (YN (Qe (PX.dat e 0 (.l (.sl 0 (.v 2 0)))).int) (J6 (PX.dat e 0 (.l (.sl 0 (.v 2 0)))).val) (Q8 (PX.dat e 0 (.l (.n .i64 (.v 104 0))))).toNat) (e.nm 129) (e.nm 130):=by(have hpq:=hc;(repeat (first|exact hpq|exact hpq.1|replace hpq:=hpq.2));done)
         have q1:=q.1
         have q2:=Qej (Qe (PX.dat e 0 (.l (.sl 0 (.v 2 0)))).int (Q8 (PX.dat e 0 (.l (.n .i64 (.v 104 0))))).toNat)
         have q3:∀{I:Nat→Ins} {N k:Nat},(YN I N k).length≤(Q7 (I k)).length:=fun {I N k}=>by
          unfold YN
          split
          ·exact List.length_filter_le _ _
          ·exact Nat.zero_le _
         have q4:= @q3 (Qe (PX.dat e 0 (.l (.sl 0 (.v 2 0)))).int) (J6 (PX.dat e 0 (.l (.sl 0 (.v 2 0)))).val) (Q8 (PX.dat e 0 (.l (.n .i64 (.v 104 0))))).toNat
         omega)
  all_goals
   try (have e2:0≤(e.nm 129).int 0:=by
         have q:JE (YN (Qe (PX.dat e 0 (.l (.sl 0 (.v 2 0)))).int) (J6 (PX.dat e 0 (.l (.sl 0 (.v 2 0)))).val) (Q8 (PX.dat e 0 (.l (.n .i64 (.v 104 0))))).toNat) (e.nm 129) (e.nm 130):=by(have hpq:=hc;(repeat (first|exact hpq|exact hpq.1|replace hpq:=hpq.2));done)
         have q1:=q.1
         omega)
  all_goals
   try (have k0:0≤(e.nm 104).int 0:=by(have hpq:=hc;(repeat (first|exact hpq|exact hpq.1|replace hpq:=hpq.2));done))
  all_goals
   try (have k1:(e.nm 104).int 0 < n:=by(have hpq:=hc;(repeat (first|exact hpq|exact hpq.1|replace hpq:=hpq.2));done))
  all_goals
   try (have m0:0≤(e.nm 141).int 0:=by(have hpq:=hc;(repeat (first|exact hpq|exact hpq.1|replace hpq:=hpq.2));done))
  all_goals
   try (have m1:(e.nm 141).int 0 < (e.nm 129).int 0:=by(have hpq:=hc;(repeat (first|exact hpq|exact hpq.1|replace hpq:=hpq.2));done))
  all_goals
   first
    |(simp only [QC,Zb,Cd.holds,dv1,dv2,di1,db2,dr1,dr2,dq1,dq2,do1,Z1,Z0,Zx,Zw,Zz,Zy,Zv,Zu,Zt,Zs,Z3,Z2,Xt,Xs,Xp,Xo,Xr,Xq,List.map_cons,List.map_nil,Nat.mul_one,Nat.add_zero,List.getElem?_cons_zero,List.getElem?_cons_succ,Option.some.injEq,exists_eq_left',and_true,and_assoc,Env.int,Env.bool,X8,Nat.reduceLeDiff,Nat.reduceAdd,Jp,Wy,h2,nmR,nmN,nmI];first
       |omega
       |(rcases R with ⟨r0,r1⟩|⟨r0,r1,f,b,r2,r3,r4,r5⟩ <;> omega)
       |(rw [Qx (by omega) (by omega)];first|omega|(rcases R with ⟨r0,r1⟩|⟨r0,r1,f,b,r2,r3,r4,r5⟩ <;> omega))
       |(have l16:(n:Int)≤16:=by(have hpq:=hc;(repeat (first|exact hpq|exact hpq.1|replace hpq:=hpq.2));done)
         rw [Qx (by omega) (by omega)];omega)
       |fail "")
    |(show(∀k,k < ((e.nm 2).int 0).toNat→(Qe (e.nm 0).int k).wf)∧0≤(e.nm 1).int 0∧(400:Int)≤9223372036854775807
      rw [h0,h1,h2]
      refine⟨fun k hk=>?_,ha.1,by decide⟩
      have hk':k < n:=by rwa [show((nmN (n:Int)).int 0).toNat=n from rfl]at hk
      have:=hI k
      rwa [Qp hk']at this)
    |(show(0≤(e.nm 104).int 0∧(e.nm 104).int 0 < ((e.nm 2).int 0).toNat)∧(((e.nm 2).int 0).toNat:Int) < 2 ^ 63
      rw [h2]
      show(0≤(e.nm 104).int 0∧(e.nm 104).int 0 < ((n:Int).toNat:Int))∧((n:Int).toNat:Int) < 2 ^ 63
      omega)
    |(show(((e.nm 2).int 0).toNat:Int) < 2 ^ 63
      rw [h2]
      show((n:Int).toNat:Int) < 2 ^ 63
      omega)
    |skip
  all_goals
   have z48:(e.nm 48).int 1=0:=by(have hpq:=hc;(repeat (first|exact hpq|exact hpq.1|replace hpq:=hpq.2));done)
   rcases R with ⟨r0,r1⟩|⟨r0,r1,f,b,r2,r3,r4,r5⟩
   ·exact absurd z48 r1
  ·show(Q0 (PX.dat e 0 (.a (rxL 0 9 (.v 104 0) 0 Qb)))).wf∧∀k,(stD (PX.dat e 0 (.a (rxL 49 40 (.v 104 0) 0 stK))) k).wf
   rw [hD (.v 104 0) (show((e.nm 104).int 0).toNat < n by omega),Qle (e:=e) (x:= .v 104 0) (k:=((e.nm 104).int 0).toNat) r4 r5 rfl (show((e.nm 104).int 0).toNat < n by omega)]
   exact⟨hI _,Jf r3.ok _⟩
  ·show(∀k,(stD (PX.dat e 0 (.a (Qa 382 0 stK))) k).wf)∧∀k,(stD (PX.dat e 0 (.a (Qa 310 0 stK))) k).wf
   have q129:JE (YN (Qe ri) n ((e.nm 104).int 0).toNat) (e.nm 129) (e.nm 130):=by
    have q:JE (YN (Qe (e.nm 0).int) ((e.nm 2).int 0).toNat ((e.nm 104).int 0).toNat) (e.nm 129) (e.nm 130):=by(have hpq:=hc;(repeat (first|exact hpq|exact hpq.1|replace hpq:=hpq.2));done)
    rw [h0,h2]at q
    exact q
   have kN:((e.nm 104).int 0).toNat < n:=by omega
   have hx:=QhH q129 m0 m1
   rw [QhX kN]at hx
   obtain⟨t,tk,ht,hp⟩:=QhW hx
   have tN:=(XL ht).1
   have bk:Kq (Qe ri) n n ((e.nm 130).int ((e.nm 141).int 0).toNat)=some t:=KE (by rw [Q6];exact ht) tN
   have f310:(e.nm 310).int=Ys (some t) (e.nm 49).int:=by
    have q:(e.nm 310).int=Ys (Kq (Qe (e.nm 0).int) ((e.nm 2).int 0).toNat ((e.nm 48).int 0).toNat ((e.nm 130).int (((e.nm 141).int 0).toNat * 1+0))) (e.nm 49).int:=by(have hpq:=hc;(repeat (first|exact hpq|exact hpq.1|replace hpq:=hpq.2));done)
    rw [h0,h2,r0,Nat.mul_one,Nat.add_zero]at q
    rw [←bk]
    exact q
   have g310:(e.nm 310).bool=Yr (some t) (e.nm 49).bool:=by
    have q:(e.nm 310).bool=Yr (Kq (Qe (e.nm 0).int) ((e.nm 2).int 0).toNat ((e.nm 48).int 0).toNat ((e.nm 130).int (((e.nm 141).int 0).toNat * 1+0))) (e.nm 49).bool:=by(have hpq:=hc;(repeat (first|exact hpq|exact hpq.1|replace hpq:=hpq.2));done)
    rw [h0,h2,r0,Nat.mul_one,Nat.add_zero]at q
    rw [←bk]
    exact q
   have s310:stD (PX.dat e 0 (.a (Qa 310 0 stK)))=b t:=Wa (e:=e) f310 g310 r4 tN r5
   have s104:stD (PX.dat e 0 (.a (rxL 49 40 (.v 104 0) 0 stK)))=b ((e.nm 104).int 0).toNat:=Qle (e:=e) (x:= .v 104 0) (k:=((e.nm 104).int 0).toNat) r4 r5 rfl (by omega)
   have f382:(e.nm 382).int=ZH (Qw (Ql ri n ((e.nm 104).int 0).toNat) (b ((e.nm 104).int 0).toNat)):=by
    have q:(e.nm 382).int=ZH (Qw (Q0 (PX.dat e 0 (.a (rxL 0 9 (.v 104 0) 0 Qb)))) (stD (PX.dat e 0 (.a (rxL 49 40 (.v 104 0) 0 stK))))):=by(have hpq:=hc;(repeat (first|exact hpq|exact hpq.1|replace hpq:=hpq.2));done)
    rw [s104,hD (.v 104 0) (show((e.nm 104).int 0).toNat < n by omega)]at q
    exact q
   have g382:(e.nm 382).bool=QU (Qw (Ql ri n ((e.nm 104).int 0).toNat) (b ((e.nm 104).int 0).toNat)):=by
    have q:(e.nm 382).bool=QU (Qw (Q0 (PX.dat e 0 (.a (rxL 0 9 (.v 104 0) 0 Qb)))) (stD (PX.dat e 0 (.a (rxL 49 40 (.v 104 0) 0 stK))))):=by(have hpq:=hc;(repeat (first|exact hpq|exact hpq.1|replace hpq:=hpq.2));done)
    rw [s104,hD (.v 104 0) (show((e.nm 104).int 0).toNat < n by omega)]at q
    exact q
   have s382:stD (PX.dat e 0 (.a (Qa 382 0 stK)))=ZN (Qw (Ql ri n ((e.nm 104).int 0).toNat) (b ((e.nm 104).int 0).toNat)):=K7 f382 g382
   rw [s382,s310]
   exact⟨We (Vu (hI _) (Jf r3.ok _)),Jf r3.ok _⟩
  ·show(∀k,(stD (PX.dat e 0 (.a (Qa 169 0 stK))) k).wf)∧∀k,(stD (PX.dat e 0 (.a (Qa 133 0 stK))) k).wf
   have bk:Kq (Qe ri) n n a=some f:=KE (by rw [Q6];exact r2) (XL r2).1
   have f133:(e.nm 133).int=Ys (some f) (e.nm 49).int:=by
    have q:(e.nm 133).int=Ys (Kq (Qe (e.nm 0).int) ((e.nm 2).int 0).toNat ((e.nm 48).int 0).toNat ((e.nm 1).int 0)) (e.nm 49).int:=by(have hpq:=hc;(repeat (first|exact hpq|exact hpq.1|replace hpq:=hpq.2));done)
    rw [h0,h1,h2,r0]at q
    rw [←bk]
    exact q
   have g133:(e.nm 133).bool=Yr (some f) (e.nm 49).bool:=by
    have q:(e.nm 133).bool=Yr (Kq (Qe (e.nm 0).int) ((e.nm 2).int 0).toNat ((e.nm 48).int 0).toNat ((e.nm 1).int 0)) (e.nm 49).bool:=by(have hpq:=hc;(repeat (first|exact hpq|exact hpq.1|replace hpq:=hpq.2));done)
    rw [h0,h1,h2,r0]at q
    rw [←bk]
    exact q
   have s133:stD (PX.dat e 0 (.a (Qa 133 0 stK)))=b f:=Wa (e:=e) f133 g133 r4 (XL r2).1 r5
   have f169:(e.nm 169).int=ZH fun _=>Qy:=by(have hpq:=hc;(repeat (first|exact hpq|exact hpq.1|replace hpq:=hpq.2));done)
   have g169:(e.nm 169).bool=QU fun _=>Qy:=by(have hpq:=hc;(repeat (first|exact hpq|exact hpq.1|replace hpq:=hpq.2));done)
   have s169:stD (PX.dat e 0 (.a (Qa 169 0 stK)))=ZN fun _=>Qy:=K7 f169 g169
   rw [s169,s133]
   exact⟨We fun _=>Z5,Jf r3.ok _⟩
 ·refine⟨?_,?_,?_,?_,?_,trivial⟩
  all_goals
   intro e u he hc hs
   have h0:e.nm 0=nmR A c ri rb:=he 0 (by decide)
   have h1:e.nm 1=nmN a:=he 1 (by decide)
   have h2:e.nm 2=nmN n:=he 2 (by decide)
   have hD:∀x:SX,(x.den e).1.toNat < n→Q0 (PX.dat e 0 (.a (rxL 0 9 x 0 Qb)))=Ql ri n (x.den e).1.toNat:=fun x hx=>by
    rw [Xb,Qp hx]
    show Qe (e.nm 0).int _=_
    rw [h0]
    rfl
   simp only [QC,Zb,Cd.holds,dv1,dv2,di1,db2,dr1,dr2,dq1,dq2,do1,Z1,Z0,Zx,Zw,Zz,Zy,Zv,Zu,Zt,Zs,Z3,Z2,Xt,Xs,Xp,Xo,Xr,Xq,List.map_cons,List.map_nil,Nat.mul_one,Nat.add_zero,List.getElem?_cons_zero,List.getElem?_cons_succ,Option.some.injEq,exists_eq_left',and_true,and_assoc,Env.int,Env.bool,X8,Nat.reduceLeDiff,Nat.reduceAdd,Jp,Wy,fl0,fl1,fl2,fl3,fl4,fl5,fl6,fl7,QqN,QqO,QqP,QqQ,QqR,QqS,QqT,QqU,Ji,h2,nmR,nmN,nmI]at hc
   rw [show u=_ from hs]
  all_goals
   try (have q:ZZ (cxD (PX.dat e 0 (.l (.sl 0 (.v 2 0)))) (PX.dat e 0 (.l (.n .u32 (.v 1 0)))) (PX.dat e 0 (.l (.n .i64 (.i 400))))) (e.nm 48) (e.nm 49):=by(have hpq:=hc;(repeat (first|exact hpq|exact hpq.1|replace hpq:=hpq.2));done)
        have q':ZZ ⟨Ql (e.nm 0).int ((e.nm 2).int 0).toNat,((e.nm 2).int 0).toNat,(e.nm 1).int 0,400⟩ (e.nm 48) (e.nm 49):=q
        rw [h0,h1,h2]at q'
        have R:Qcx (Ql ri n) n a (e.nm 48) (e.nm 49):=Qa4 hI q'
        clear q q')
  ·refine congrArg Value.bool ?_
   show(e.nm 40).bool 0=true
   rw [hc.2.1]
  ·have x1:(e.nm 96).bool=fun _=>true:=by(have hpq:=hc;(repeat (first|exact hpq|exact hpq.1|replace hpq:=hpq.2));done)
   have x2:¬(e.nm 48).int 1=0:=by(have hpq:=hc;(repeat (first|exact hpq|exact hpq.1|replace hpq:=hpq.2));done)
   rcases R with ⟨r0,r1⟩|⟨r0,r1,f,b,r2,r3,r4,r5⟩
   ·refine congrArg Value.bool ?_
    show(decide ((e.nm 48).int 0=0) && (e.nm 96).bool 0)=true
    rw [r0,x1]
    rfl
   ·exact absurd r1 x2
  ·have x2:¬(e.nm 48).int 0=n:=by(have hpq:=hc;(repeat (first|exact hpq|exact hpq.1|replace hpq:=hpq.2));done)
   have x3:(e.nm 48).int 1=0:=by(have hpq:=hc;(repeat (first|exact hpq|exact hpq.1|replace hpq:=hpq.2));done)
   rcases R with ⟨r0,r1⟩|⟨r0,r1,f,b,r2,r3,r4,r5⟩
   ·exact absurd x3 r1
   ·exact absurd r0 x2
  ·have z48:(e.nm 48).int 1=0:=by(have hpq:=hc;(repeat (first|exact hpq|exact hpq.1|replace hpq:=hpq.2));done)
   rcases R with ⟨r0,r1⟩|⟨r0,r1,f,b,r2,r3,r4,r5⟩
   ·exact absurd z48 r1
   have k0:0≤(e.nm 104).int 0:=by
    have q:0≤(e.nm 104).int 0∧(e.nm 104).int 0≤16:=by
     first
      |((have hpq:=hc;(repeat (first|exact hpq|exact hpq.1|replace hpq:=hpq.2));done);done)
      |exact⟨by(have hpq:=hc;(repeat (first|exact hpq|exact hpq.1|replace hpq:=hpq.2));done),by(have hpq:=hc;(repeat (first|exact hpq|exact hpq.1|replace hpq:=hpq.2));done)⟩
    exact q.1
   have k1:(e.nm 104).int 0 < n:=by(have hpq:=hc;(repeat (first|exact hpq|exact hpq.1|replace hpq:=hpq.2));done)
   have m0:0≤(e.nm 141).int 0:=by(have hpq:=hc;(repeat (first|exact hpq|exact hpq.1|replace hpq:=hpq.2));done)
   have m1:(e.nm 141).int 0 < (e.nm 129).int 0:=by(have hpq:=hc;(repeat (first|exact hpq|exact hpq.1|replace hpq:=hpq.2));done)
   have q129:JE (YN (Qe ri) n ((e.nm 104).int 0).toNat) (e.nm 129) (e.nm 130):=by
    have q:JE (YN (Qe (e.nm 0).int) ((e.nm 2).int 0).toNat ((e.nm 104).int 0).toNat) (e.nm 129) (e.nm 130):=by(have hpq:=hc;(repeat (first|exact hpq|exact hpq.1|replace hpq:=hpq.2));done)
    rw [h0,h2]at q
    exact q
   have kN:((e.nm 104).int 0).toNat < n:=by omega
   have hx:=QhH q129 m0 m1
   rw [QhX kN]at hx
   obtain⟨t,tk,ht,hp⟩:=QhW hx
   have tN:=(XL ht).1
   have bk:Kq (Qe ri) n n ((e.nm 130).int ((e.nm 141).int 0).toNat)=some t:=KE (by rw [Q6];exact ht) tN
   have f310:(e.nm 310).int=Ys (some t) (e.nm 49).int:=by
    have q:(e.nm 310).int=Ys (Kq (Qe (e.nm 0).int) ((e.nm 2).int 0).toNat ((e.nm 48).int 0).toNat ((e.nm 130).int (((e.nm 141).int 0).toNat * 1+0))) (e.nm 49).int:=by(have hpq:=hc;(repeat (first|exact hpq|exact hpq.1|replace hpq:=hpq.2));done)
    rw [h0,h2,r0,Nat.mul_one,Nat.add_zero]at q
    rw [←bk]
    exact q
   have g310:(e.nm 310).bool=Yr (some t) (e.nm 49).bool:=by
    have q:(e.nm 310).bool=Yr (Kq (Qe (e.nm 0).int) ((e.nm 2).int 0).toNat ((e.nm 48).int 0).toNat ((e.nm 130).int (((e.nm 141).int 0).toNat * 1+0))) (e.nm 49).bool:=by(have hpq:=hc;(repeat (first|exact hpq|exact hpq.1|replace hpq:=hpq.2));done)
    rw [h0,h2,r0,Nat.mul_one,Nat.add_zero]at q
    rw [←bk]
    exact q
   have s310:stD (PX.dat e 0 (.a (Qa 310 0 stK)))=b t:=Wa (e:=e) f310 g310 r4 tN r5
   have s104:stD (PX.dat e 0 (.a (rxL 49 40 (.v 104 0) 0 stK)))=b ((e.nm 104).int 0).toNat:=Qle (e:=e) (x:= .v 104 0) (k:=((e.nm 104).int 0).toNat) r4 r5 rfl (by omega)
   have f382:(e.nm 382).int=ZH (Qw (Ql ri n ((e.nm 104).int 0).toNat) (b ((e.nm 104).int 0).toNat)):=by
    have q:(e.nm 382).int=ZH (Qw (Q0 (PX.dat e 0 (.a (rxL 0 9 (.v 104 0) 0 Qb)))) (stD (PX.dat e 0 (.a (rxL 49 40 (.v 104 0) 0 stK))))):=by(have hpq:=hc;(repeat (first|exact hpq|exact hpq.1|replace hpq:=hpq.2));done)
    rw [s104,hD (.v 104 0) (show((e.nm 104).int 0).toNat < n by omega)]at q
    exact q
   have g382:(e.nm 382).bool=QU (Qw (Ql ri n ((e.nm 104).int 0).toNat) (b ((e.nm 104).int 0).toNat)):=by
    have q:(e.nm 382).bool=QU (Qw (Q0 (PX.dat e 0 (.a (rxL 0 9 (.v 104 0) 0 Qb)))) (stD (PX.dat e 0 (.a (rxL 49 40 (.v 104 0) 0 stK))))):=by(have hpq:=hc;(repeat (first|exact hpq|exact hpq.1|replace hpq:=hpq.2));done)
    rw [s104,hD (.v 104 0) (show((e.nm 104).int 0).toNat < n by omega)]at q
    exact q
   have s382:stD (PX.dat e 0 (.a (Qa 382 0 stK)))=ZN (Qw (Ql ri n ((e.nm 104).int 0).toNat) (b ((e.nm 104).int 0).toNat)):=K7 f382 g382
   exfalso
   have hn:emptyS (b ((e.nm 104).int 0).toNat)=false:=by
    have q:(e.nm 178).bool=fun _=>emptyS (stD (PX.dat e 0 (.a (rxL 49 40 (.v 104 0) 0 stK)))):=by(have hpq:=hc;(repeat (first|exact hpq|exact hpq.1|replace hpq:=hpq.2));done)
    have q0:(e.nm 178).bool 0=false:=by(have hpq:=hc;(repeat (first|exact hpq|exact hpq.1|replace hpq:=hpq.2));done)
    rw [q,s104]at q0
    exact q0
   have o20:¬(e.nm 0).int (((e.nm 104).int 0).toNat * 9+2)=20:=by(have hpq:=hc;(repeat (first|exact hpq|exact hpq.1|replace hpq:=hpq.2));done)
   have o23:¬(e.nm 0).int (((e.nm 104).int 0).toNat * 9+2)=23:=by(have hpq:=hc;(repeat (first|exact hpq|exact hpq.1|replace hpq:=hpq.2));done)
   have o24:¬(e.nm 0).int (((e.nm 104).int 0).toNat * 9+2)=24:=by(have hpq:=hc;(repeat (first|exact hpq|exact hpq.1|replace hpq:=hpq.2));done)
   rw [h0]at o20 o23 o24
   have op:(Ql ri n ((e.nm 104).int 0).toNat).op=ri (((e.nm 104).int 0).toNat * 9+2):=by rw [Qp kN];rfl
   have hw:=QqL r3 kN hn ⟨by rw [op];exact o20,by rw [op];exact o23,by rw [op];exact o24⟩ hp
   have g390:(e.nm 390).bool=fun _=>Vy (stD (PX.dat e 0 (.a (Qa 382 0 stK)))) (stD (PX.dat e 0 (.a (Qa 310 0 stK)))):=by(have hpq:=hc;(repeat (first|exact hpq|exact hpq.1|replace hpq:=hpq.2));done)
   refine hc.1 ⟨?_,?_⟩
   ·rw [g310];rfl
   ·rw [g390,s382,s310]
    have:=Qiv hw
    rwa [show ZN (b t)=b t from(funext fun r=>by unfold ZN;split;rfl;exact(r5 t r (by omega)).symm)]at this
  ·have z48:(e.nm 48).int 1=0:=by(have hpq:=hc;(repeat (first|exact hpq|exact hpq.1|replace hpq:=hpq.2));done)
   rcases R with ⟨r0,r1⟩|⟨r0,r1,f,b,r2,r3,r4,r5⟩
   ·exact absurd z48 r1
   have bk:Kq (Qe ri) n n a=some f:=KE (by rw [Q6];exact r2) (XL r2).1
   have f133:(e.nm 133).int=Ys (some f) (e.nm 49).int:=by
    have q:(e.nm 133).int=Ys (Kq (Qe (e.nm 0).int) ((e.nm 2).int 0).toNat ((e.nm 48).int 0).toNat ((e.nm 1).int 0)) (e.nm 49).int:=by(have hpq:=hc;(repeat (first|exact hpq|exact hpq.1|replace hpq:=hpq.2));done)
    rw [h0,h1,h2,r0]at q
    rw [←bk]
    exact q
   have g133:(e.nm 133).bool=Yr (some f) (e.nm 49).bool:=by
    have q:(e.nm 133).bool=Yr (Kq (Qe (e.nm 0).int) ((e.nm 2).int 0).toNat ((e.nm 48).int 0).toNat ((e.nm 1).int 0)) (e.nm 49).bool:=by(have hpq:=hc;(repeat (first|exact hpq|exact hpq.1|replace hpq:=hpq.2));done)
    rw [h0,h1,h2,r0]at q
    rw [←bk]
    exact q
   have s133:stD (PX.dat e 0 (.a (Qa 133 0 stK)))=b f:=Wa (e:=e) f133 g133 r4 (XL r2).1 r5
   have f169:(e.nm 169).int=ZH fun _=>Qy:=by(have hpq:=hc;(repeat (first|exact hpq|exact hpq.1|replace hpq:=hpq.2));done)
   have g169:(e.nm 169).bool=QU fun _=>Qy:=by(have hpq:=hc;(repeat (first|exact hpq|exact hpq.1|replace hpq:=hpq.2));done)
   have s169:stD (PX.dat e 0 (.a (Qa 169 0 stK)))=ZN fun _=>Qy:=K7 f169 g169
   have g177:(e.nm 177).bool=fun _=>Vy (stD (PX.dat e 0 (.a (Qa 169 0 stK)))) (stD (PX.dat e 0 (.a (Qa 133 0 stK)))):=by(have hpq:=hc;(repeat (first|exact hpq|exact hpq.1|replace hpq:=hpq.2));done)
   have g189:(e.nm 189).bool=fun _=>true:=by(have hpq:=hc;(repeat (first|exact hpq|exact hpq.1|replace hpq:=hpq.2));done)
   refine congrArg Value.bool ?_
   show(((e.nm 133).bool 40 && (e.nm 177).bool 0) && (e.nm 189).bool 0)=true
   have w:=Qiv r3.top
   rw [show ZN (b f)=b f from(funext fun r=>by unfold ZN;split;rfl;exact(r5 f r (by omega)).symm)]at w
   rw [g189,g177,g133,s169,s133,w]
   rfl
end Go.Proofs.Yteplnamfpodmlaa.T2
namespace Go.Proofs.Yteplnamfpodmlaa
theorem vsaFixed_walk(A:Option Addr)(n c:Nat)(hl:n≤maxLen)(ri:Nat→Int)(rb:Nat→Bool)(hr:∀i,i < n→InR Qb ri (i * Qb.length))(a:Int)(ha:Q5 a)(w:World)(hrow:Xn w A n Qb ri rb) :
 Calls Try.prog 3 #[.slice A n c,.int .u32 a] w (Ret (.bool true) w):=T2.vsaFixed_walk' A n c hl ri rb hr a ha w hrow
theorem vsaFixed_own:ownKnob Try.prog.godebug=none:=by kernel_rfl
set_option maxRecDepth 100000 in
theorem vsaFixed_lifted(os:Os)(started:os.Started)(H:Type)(enc:TypeId×Value→H) :
 ReturnsInHanded {} Try.checked os 3 .any (Rows.vsaFixedSpec.pre6 enc Try.prog Try.f3 Rows.vsaFixedRow.domain false) (Rows.vsaFixedSpec.post enc Try.prog Try.f3 false true false false):=by
 refine returnsInHanded_of_change (C:=Try.checked) vsaFixed_own started (by kernel_rfl) Try.func3
  (ChangeSpec.witness6 (enc:=enc) (C:=Try.checked) false ⟨#[],#[.slice none 0 0,.int .u32 0],[]⟩ 8 (by kernel_rfl) (by kernel_rfl) (by kernel_rfl) (by kernel_rfl)) ?_
 intro W base args ds gs before hval0 hW hcnd _
 have hval:∀(j:Nat) t v,Try.f3.params[j]?=some t→args[j]?=some v→Value.okWide Try.prog W .any base t v:=hval0
 have hW':=hW
 obtain⟨p,q,hA0,hV,rfl,hfz,hnd⟩:=hW
 have hA:DataW.TrodAll enc Try.prog W 0 (fun _=>true) true Try.f3.params.toList args.toList ds p:=hA0
 have hA1:=hA
 obtain⟨rfl,rfl⟩:=trodVars_none hV
 rw [Try.params3]at hA hval
 obtain⟨v0,vs0,d0,ds0,p0,q0,hargs,hd0,hp0,h0,r0⟩:=trodAll_cons hA
 obtain⟨v1,vs1,d1,ds1,p1,q1,hv1,hd1,hp1,h1,r1⟩:=trodAll_cons r0
 obtain⟨hvn,hdn,hpn⟩:=trodAll_nil r1
 subst hdn hd1 hd0
 obtain rfl:args= #[v0,v1]:=by cases args;simp_all
 clear hargs hvn hv1
 obtain⟨A0,n0,c0,rfl,l0,r0⟩:=Qaj Qb 6 Try.underlying22 (by kernel_rfl) (by kernel_rfl) (hval 0 22 v0 rfl rfl) h0
 obtain⟨ri0,rb0,hrow0,hr0⟩:=Qcn (K:=Qb) (by decide) r0
 obtain⟨a1,rfl,_,_,w1⟩:=open_int Try.underlying23 (hval 1 23 v1 rfl rfl) h1
 simp only [List.append_nil]at hW'
 refine(vsaFixed_walk A0 n0 c0 l0 ri0 rb0 hr0 a1 (VW w1) W hrow0).mono fun e W' hr=>?_
 obtain⟨rfl,hb⟩:=hr
 exact⟨_,rfl,JP (pa:=p) (pv:= []) hW' (fun _ _ _=>(trodAll_cons_mk (shut_bool Try.underlying4 _) trodAll_mk0)) (fun sp hsp=>Jl KV hb _ _ _ _ (by kernel_rfl) hA1 (fun x hx=>hW'.lt x hx) hsp) (fun _ _=>rfl) (by simp)
  hb (ok_one (by kernel_rfl) rfl (okWide_bool_mk Try.underlying4 _))⟩
theorem vsaFixed_over:Rows.vsaFixedRow.holds Try.pinned (OpenSpec.ofChange Rows.vsaFixedSpec):=
 OpenClaim.holds_of_wide 3 Try.f3 rfl rfl rfl rfl rfl rfl rfl ⟨rfl,rfl,rfl,rfl,rfl⟩ rfl rfl rfl rfl rfl (by kernel_rfl) Try.func3 (by kernel_rfl)
  (of_decide_eq_true (by kernel_rfl)) (by unfold Func.isWrapper;first|(rw [if_pos (by decide+kernel)];kernel_rfl)|(rw [if_neg (by decide+kernel)];exact⟨rfl,rfl⟩))
  (fun os started H enc _=>vsaFixed_lifted os started H enc)
theorem vsaFixed_proved:Rows.VsaFixedSaid:=vsaFixed_over
end Go.Proofs.Yteplnamfpodmlaa
