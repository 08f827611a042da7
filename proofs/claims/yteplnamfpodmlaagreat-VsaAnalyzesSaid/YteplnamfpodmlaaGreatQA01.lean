/-
  Part of the proof.
-/
import Derived.Test.YteplnamfpodmlaaGreatQIs
import Derived.Test.YteplnamfpodmlaaGreatQKit
import Derived.Test.YteplnamfpodmlaaGreatQT2
set_option linter.unusedVariables false
set_option linter.unusedSimpArgs false
set_option maxRecDepth 100000
open Go.ChangeShapes Go.WideShapes Go.ChangeAt Go.RowKit
section
namespace Go.Proofs.YteplnamfpodmlaaGreat
def QnX(n:Int):Int:=if n=0 then 1 else if n=1 then 1 else if n=2 then 2 else if n=3 then 2 else if n=4 then 3 else if n=5 then 3 else if n=6 then 6 else if n=7 then 2 else 5
theorem Qr1(n:Int)(h:0≤n∧n≤8)(w:World):Calls Tryz.prog 116 #[.int .i64 n] w (Ret (.int .i64 (QnX n)) w):=by
 rcases (by omega:n=0∨n=1∨n=2∨n=3∨n=4∨n=5∨n=6∨n=7∨n=8)with rfl|rfl|rfl|rfl|rfl|rfl|rfl|rfl|rfl
 all_goals
  go_enter Tryz.func116,Tryz.ntmps116
  go_wp2
  go_ret
  exact⟨rfl,Below.refl _ _⟩
theorem Qs0(n:Int)(w:World):Calls Tryz.prog 26 #[.int .i64 n] w (Ret (.int .i64 (QaS n)) w):=by
 by_cases h:1≤n∧n≤14
 ·rcases (by omega:n=1∨n=2∨n=3∨n=4∨n=5∨n=6∨n=7∨n=8∨n=9∨n=10∨n=11∨n=12∨n=13∨n=14)with rfl|rfl|rfl|rfl|rfl|rfl|rfl|rfl|rfl|rfl|rfl|rfl|rfl|rfl
  all_goals
   go_enter Tryz.func26,Tryz.ntmps26
   go_wp2
   go_ret
   exact⟨rfl,Below.refl _ _⟩
 ·have e:QaS n= -1:=by unfold QaS;rw [if_neg];omega
  rw [e];clear e;by_cases h1:n < 1
  ·clear h
   go_enter Tryz.func26,Tryz.ntmps26
   go_wp2
   go_ret
   exact⟨rfl,Below.refl _ _⟩
  ·have h2:15≤n:=by omega
   clear h
   go_enter Tryz.func26,Tryz.ntmps26
   go_wp2
   go_ret
   exact⟨rfl,Below.refl _ _⟩
def QqN:Con Tryz.prog:= .mk' ⟨26,[.l (some .i64)],.l (some .i64),true⟩
 (fun ads=>match ads with| [d1]=>True|_=>False)
 (fun ads=>match ads with| [d1]=>fun _=>QaS (Q3 d1)|_=>fun _=>0)
 (fun ads=>match ads with| [d1]=>fun _=>false|_=>fun _=>false)
 ⟨_,Tryz.func26,by kernel_rfl,by kernel_rfl⟩ (fun ads w hf hp=>by
   obtain⟨d1,_,rfl,f1,hf⟩:=Qg hf;obtain rfl:=Qm hf;show Calls _ _ #[d1.val] w _;rw [QB f1];exact Qs0 (Q3 d1) w)
def QkT:Con Tryz.prog:= .mk' ⟨116,[.l (some .i64)],.l (some .i64),true⟩
 (fun ads=>match ads with| [d1]=>0≤(Q3 d1)∧(Q3 d1)≤8|_=>False)
 (fun ads=>match ads with| [d1]=>fun _=>QnX (Q3 d1)|_=>fun _=>0)
 (fun ads=>match ads with| [d1]=>fun _=>false|_=>fun _=>false)
 ⟨_,Tryz.func116,by kernel_rfl,by kernel_rfl⟩ (fun ads w hf hp=>by
   obtain⟨d1,_,rfl,f1,hf⟩:=Qg hf;obtain rfl:=Qm hf;show Calls _ _ #[d1.val] w _;rw [QB f1];exact Qr1 (Q3 d1) hp w)
def KQ(i:Ins):Bool:=i.op==1 || i.op==2 || i.op==21 || i.op==22 || (i.op==20 && i.cc==0)
def QrN:List Sg:= []
def Qmw:List PX:= [.a (Qa 0 0 Qc)]
def Qpx:List Rw:= []
def Qpv:Cfg:=⟨1,QrN,[]⟩
def QrL:List Lf:=
 let z0:VX:= .v (.l (.t (.b true)))
 let z1:List Cd:= [.c (.c .eql (.v 0 2) (.i 1)) false]
 let z2:List Cd:=(.c (.c .eql (.v 0 2) (.i 2)) false :: z1)
 let z3:List Cd:=(.c (.c .eql (.v 0 2) (.i 21)) false :: z2)
 [⟨[.c (.c .eql (.v 0 2) (.i 1)) true],z0⟩,⟨(.c (.c .eql (.v 0 2) (.i 2)) true :: z1),z0⟩,⟨(.c (.c .eql (.v 0 2) (.i 21)) true :: z2),z0⟩,⟨(.c (.c .eql (.v 0 2) (.i 22)) true :: z3),z0⟩,⟨(.c (.c .eql (.v 0 2) (.i 22)) false :: z3),.v (.l (.t (.an (.c .eql (.v 0 2) (.i 20)) (.c .eql (.v 0 5) (.i 0)))))⟩]
def QrM:List Ob:= []
theorem Qpw:QS Tryz.prog Qpv 2000 Tryz.f66 Qmw Qpx=some (QrL,QrM):=by kernel_rfl
set_option maxHeartbeats 4000000 in
theorem Qq4(i:Ins)(w:World):Calls Tryz.prog 66 #[i.val] w (Ret (.bool (KQ i)) w):=by
 refine Q5 (C:= []) (I:= []) Qo rfl Tryz.func66 Qpw (XB i) w rfl (fun r hr=>(List.not_mem_nil hr).elim) _ ?_ ?_
 ·refine trivial;all_goals exact fun e he _=>trivial
 refine⟨?_,?_,?_,?_,?_,trivial⟩
 all_goals
  intro e u he hc hs;have h0:=Zu he (by decide)
  have hi:=Zi h0;simp only [QC,Ze,Cd.holds,SX.den,cmI,PX.den,LX.den,VX.sat,List.map_cons,List.map_nil,List.append_nil,beq_iff_eq,bne_iff_ne,beq_eq_false_iff_ne,bne_eq_false_iff_eq,decide_eq_true_eq,decide_eq_false_iff_not,Bool.and_eq_true,Bool.and_eq_false_iff,ne_eq,List.getElem?_cons_zero,List.getElem?_cons_succ,Option.some.injEq,exists_eq_left',Q1,QH,Qr,Qy,h0,Q2,hi,arI]at hc hs;rw [hs]
  refine congrArg _ ?_;clear hs he
  (repeat (rcases hc with ⟨_,hc⟩))
  (simp_all [Q2,KQ]) <;> grind
def QpL:List Sg:= []
def QjW:List PX:= [.a (Qa 0 0 Qc)]
def Qna:List Rw:= []
def QmY:Cfg:=⟨1,QpL,[]⟩
def QpJ:List Lf:= [⟨[],.v (.l (.t (.no (.an (.an (.an (.an (.no (.c .eql (.v 0 2) (.i 1))) (.no (.c .eql (.v 0 2) (.i 2)))) (.no (.c .eql (.v 0 2) (.i 21)))) (.no (.c .eql (.v 0 2) (.i 22)))) (.no (.an (.c .eql (.v 0 2) (.i 20)) (.c .eql (.v 0 5) (.i 0))))))))⟩]
def QpK:List Ob:= []
theorem QmZ:QS Tryz.prog QmY 2000 Tryz.f43 QjW Qna=some (QpJ,QpK):=by kernel_rfl
set_option maxHeartbeats 4000000 in
theorem QoM(i:Ins)(w:World):Calls Tryz.prog 43 #[i.val] w (Ret (.bool (KQ i)) w):=by
 refine Q5 (C:= []) (I:= []) Qo rfl Tryz.func43 QmZ (XB i) w rfl (fun r hr=>(List.not_mem_nil hr).elim) _ ?_ ?_
 ·refine trivial;all_goals exact fun e he _=>trivial
 refine⟨?_,trivial⟩
 all_goals
  intro e u he hc hs;have h0:=Zu he (by decide)
  have hi:=Zi h0;simp only [QC,Ze,Cd.holds,SX.den,cmI,PX.den,LX.den,VX.sat,List.map_cons,List.map_nil,List.append_nil,beq_iff_eq,bne_iff_ne,beq_eq_false_iff_ne,bne_eq_false_iff_eq,decide_eq_true_eq,decide_eq_false_iff_not,Bool.and_eq_true,Bool.and_eq_false_iff,ne_eq,List.getElem?_cons_zero,List.getElem?_cons_succ,Option.some.injEq,exists_eq_left',Q1,QH,Qr,Qy,h0,Q2,hi,arI]at hc hs;rw [hs]
  refine congrArg _ ?_;clear hs he
  (repeat (rcases hc with ⟨_,hc⟩))
  (simp_all [Q2,KQ]) <;> grind
def QqK:Con Tryz.prog:= .mk' ⟨66,[.a Qc],.l none,true⟩
 (fun ads=>match ads with| [d1]=>True|_=>False)
 (fun ads=>match ads with| [d1]=>fun _=>0|_=>fun _=>0)
 (fun ads=>match ads with| [d1]=>fun _=>KQ (QL d1)|_=>fun _=>false)
 ⟨_,Tryz.func66,by kernel_rfl,by kernel_rfl⟩ (fun ads w hf hp=>by
   obtain⟨d1,_,rfl,f1,hf⟩:=Qg hf;obtain rfl:=Qm hf;show Calls _ _ #[d1.val] w _;rw [Zd f1];exact Qq4 (QL d1) w)
def QfZ:Con Tryz.prog:= .mk' ⟨43,[.a Qc],.l none,true⟩
 (fun ads=>match ads with| [d1]=>True|_=>False)
 (fun ads=>match ads with| [d1]=>fun _=>0|_=>fun _=>0)
 (fun ads=>match ads with| [d1]=>fun _=>KQ (QL d1)|_=>fun _=>false)
 ⟨_,Tryz.func43,by kernel_rfl,by kernel_rfl⟩ (fun ads w hf hp=>by
   obtain⟨d1,_,rfl,f1,hf⟩:=Qg hf;obtain rfl:=Qm hf;show Calls _ _ #[d1.val] w _;rw [Zd f1];exact QoM (QL d1) w)
def YO(i:Ins):Bool:=i.op==20 || i.op==23
def Qmp:List Sg:= []
def Qg3:List PX:= [.a (Qa 0 0 Qc)]
def Qji:List Rw:= []
def Qjg:Cfg:=⟨1,Qmp,[]⟩
def Qmn:List Lf:= [⟨[.c (.an (.no (.c .eql (.v 0 2) (.i 20))) (.no (.c .eql (.v 0 2) (.i 23)))) false],.tp [.l (.n .u32 (.v 0 1)),.l (.t (.b true))]⟩,
 ⟨[.c (.c .eql (.v 0 2) (.i 20)) false,.c (.c .eql (.v 0 2) (.i 23)) false],.tp [.l (.n .u32 (.i 0)),.l (.t (.b false))]⟩]
def Qmo:List Ob:= []
theorem Qjh:QS Tryz.prog Qjg 2000 Tryz.f65 Qg3 Qji=some (Qmn,Qmo):=by kernel_rfl
theorem Ql9(i:Ins)(w:World):Calls Tryz.prog 65 #[i.val] w (Ret (.tuple #[.int .u32 (if YO i then i.imm else 0),.bool (YO i)]) w):=by
 refine Q5 (C:= []) (I:= []) Qo rfl Tryz.func65 Qjh (XB i) w rfl (fun r hr=>(List.not_mem_nil hr).elim) _ trivial ?_
 refine⟨?_,?_,trivial⟩
 all_goals
  intro e u he hc hs;have h0:=Zu he (by decide)
  simp only [QC,Ze,Cd.holds,SX.den,cmI,PX.den,LX.den,VX.sat,List.map_cons,List.map_nil,List.append_nil,beq_iff_eq,bne_iff_ne,beq_eq_false_iff_ne,bne_eq_false_iff_eq,decide_eq_true_eq,decide_eq_false_iff_not,Bool.and_eq_true,Bool.and_eq_false_iff,ne_eq,h0,Q2]at hc hs;rw [hs];refine Qu0 (congrArg _ ?_) (congrArg _ ?_) <;> grind [YO]
def QhM:Con Tryz.prog:= .mk' ⟨65,[.a Qc],.tp [.inl (some .u32),.inl none],true⟩
 (fun ads=>match ads with| [d1]=>True|_=>False)
 (fun ads=>match ads with| [d1]=>fun _=>if YO (QL d1)then((QL d1)).imm else 0|_=>fun _=>0)
 (fun ads=>match ads with| [d1]=>fun _=>YO (QL d1)|_=>fun _=>false)
 ⟨_,Tryz.func65,by kernel_rfl,by kernel_rfl⟩ (fun ads w hf hp=>by
   obtain⟨d1,_,rfl,f1,hf⟩:=Qg hf;obtain rfl:=Qm hf;show Calls _ _ #[d1.val] w _;rw [Zd f1];exact Ql9 (QL d1) w)
def QcY(i:Ins):Int:=if Vw i=0 then QnX (X8 i)else 0
theorem QsI(i:Ins):0≤X8 i∧X8 i≤8:=by
 unfold X8
 (repeat' split) <;> first|omega|decide|(simp [QbR];(repeat' split) <;> omega)
def QlW:List Sg:= [⟨57,[.a Qc],.tp [.inl (some .u8),.inl (some .i64),.inl (some .i64)],false⟩,⟨116,[.l (some .i64)],.l (some .i64),true⟩]
def Qgw:List PX:= [.a (Qa 0 0 Qc)]
def QiQ:List Rw:= []
def QiO:Cfg:=⟨1,QlW,[]⟩
def QlU:List Lf:= [⟨[.c (.c .neq (.v 4 2) (.i 0)) true,.f 4 0 [.a (Qa 0 0 Qc)]],.v (.l (.n .i64 (.i 0)))⟩,
 ⟨[.f 15 1 [.l (.n .i64 (.v 4 1))],.c (.c .neq (.v 4 2) (.i 0)) false,.f 4 0 [.a (Qa 0 0 Qc)]],.v (.l (.n .i64 (.v 15 0)))⟩]
def QlV:List Ob:= [.pre [] 0 [.a (Qa 0 0 Qc)],
 .pre [.c (.c .neq (.v 4 2) (.i 0)) false,.f 4 0 [.a (Qa 0 0 Qc)]] 1 [.l (.n .i64 (.v 4 1))]]
theorem QiP:QS Tryz.prog QiO 2000 Tryz.f90 Qgw QiQ=some (QlU,QlV):=by kernel_rfl
theorem QkV(i:Ins)(w:World):Calls Tryz.prog 90 #[i.val] w (Ret (.int .i64 (QcY i)) w):=by
 refine Q5 (C:= [Yr,QkT]) (I:= []) Qo rfl Tryz.func90 QiP (XB i) w rfl (fun r hr=>(List.not_mem_nil hr).elim) _ ?_ ?_
 ·refine⟨?_,?_,trivial⟩
  all_goals
   intro e he hc;have h0:=Zu he (by decide)
   have hi:=Zi h0;have hsr:=QsI i;simp only [QC,Ze,Cd.holds,SX.den,cmI,PX.den,LX.den,VX.sat,List.map_cons,List.map_nil,List.append_nil,beq_iff_eq,bne_iff_ne,beq_eq_false_iff_ne,bne_eq_false_iff_eq,decide_eq_true_eq,decide_eq_false_iff_not,Bool.and_eq_true,Bool.and_eq_false_iff,ne_eq,List.getElem?_cons_zero,List.getElem?_cons_succ,Option.some.injEq,exists_eq_left',Q1,QH,Qr,Qy,Yr,QkT,h0,Q2,hi]at hc ⊢
   all_goals first
    |trivial
    |(have:YI i=X8 i∨YI i=0:=by(unfold YI;split <;> simp)
      grind)
 refine⟨?_,?_,trivial⟩
 all_goals
  intro e u he hc hs;have h0:=Zu he (by decide)
  have hi:=Zi h0;simp only [QC,Ze,Cd.holds,SX.den,cmI,PX.den,LX.den,VX.sat,List.map_cons,List.map_nil,List.append_nil,beq_iff_eq,bne_iff_ne,beq_eq_false_iff_ne,bne_eq_false_iff_eq,decide_eq_true_eq,decide_eq_false_iff_not,Bool.and_eq_true,Bool.and_eq_false_iff,ne_eq,List.getElem?_cons_zero,List.getElem?_cons_succ,Option.some.injEq,exists_eq_left',Q1,QH,Qr,Qy,Yr,QkT,h0,Q2,hi]at hc hs;rw [hs]
  refine congrArg _ ?_;clear hs he;have hS:Vw i=0→YI i=X8 i:=fun h=>by unfold YI;rw [if_pos h]
  unfold QcY
  grind
def QhL:Con Tryz.prog:= .mk' ⟨90,[.a Qc],.l (some .i64),true⟩
 (fun ads=>match ads with| [d1]=>True|_=>False)
 (fun ads=>match ads with| [d1]=>fun _=>QcY (QL d1)|_=>fun _=>0)
 (fun ads=>match ads with| [d1]=>fun _=>false|_=>fun _=>false)
 ⟨_,Tryz.func90,by kernel_rfl,by kernel_rfl⟩ (fun ads w hf hp=>by
   obtain⟨d1,_,rfl,f1,hf⟩:=Qg hf;obtain rfl:=Qm hf;show Calls _ _ #[d1.val] w _;rw [Zd f1];exact QkV (QL d1) w)
def VY(i:Ins):Int:=IntKind.u32.wrap (i.addr+IntKind.u32.wrap (QcY i))
def QrH:List Sg:= [⟨90,[.a Qc],.l (some .i64),true⟩]
def Qmd:List PX:= [.a (Qa 0 0 Qc)]
def Qpq:List Rw:= []
def Qpo:Cfg:=⟨1,QrH,[]⟩
def QrF:List Lf:= [⟨[.f 6 0 [.a (Qa 0 0 Qc)]],.v (.l (.n .u32 (.o .add .u32 (.v 0 0) (.cv .u32 (.v 6 0)))))⟩]
def QrG:List Ob:= [.pre [] 0 [.a (Qa 0 0 Qc)]]
theorem Qpp:QS Tryz.prog Qpo 2000 Tryz.f67 Qmd Qpq=some (QrF,QrG):=by kernel_rfl
theorem Qrd(i:Ins)(w:World):Calls Tryz.prog 67 #[i.val] w (Ret (.int .u32 (VY i)) w):=by
 refine Q5 (C:= [QhL]) (I:= []) Qo rfl Tryz.func67 Qpp (XB i) w rfl (fun r hr=>(List.not_mem_nil hr).elim) _ ?_ ?_
 ·refine⟨?_,trivial⟩;all_goals exact fun e he _=>trivial
 refine⟨?_,trivial⟩
 all_goals
  intro e u he hc hs;have h0:=Zu he (by decide)
  have hi:=Zi h0;simp only [QC,Ze,Cd.holds,SX.den,cmI,PX.den,LX.den,VX.sat,List.map_cons,List.map_nil,List.append_nil,beq_iff_eq,bne_iff_ne,beq_eq_false_iff_ne,bne_eq_false_iff_eq,decide_eq_true_eq,decide_eq_false_iff_not,Bool.and_eq_true,Bool.and_eq_false_iff,ne_eq,List.getElem?_cons_zero,List.getElem?_cons_succ,Option.some.injEq,exists_eq_left',Q1,QH,Qr,Qy,QhL,h0,Q2,hi,arI]at hc hs;rw [hs,hc.1.1]
  rfl
def QqM:Con Tryz.prog:= .mk' ⟨67,[.a Qc],.l (some .u32),true⟩
 (fun ads=>match ads with| [d1]=>True|_=>False)
 (fun ads=>match ads with| [d1]=>fun _=>VY (QL d1)|_=>fun _=>0)
 (fun ads=>match ads with| [d1]=>fun _=>false|_=>fun _=>false)
 ⟨_,Tryz.func67,by kernel_rfl,by kernel_rfl⟩ (fun ads w hf hp=>by
   obtain⟨d1,_,rfl,f1,hf⟩:=Qg hf;obtain rfl:=Qm hf;show Calls _ _ #[d1.val] w _;rw [Zd f1];exact Qrd (QL d1) w)
end Go.Proofs.YteplnamfpodmlaaGreat
end
section
namespace Go.Proofs.YteplnamfpodmlaaGreat
def QtN(i:Ins):Int:=
 if V2 i.op=true then(if i.form=0 then 2 else if i.form=1 then 3 else 6)
 else if XJ i.op=true then 3 else if i.op=19 then 3 else if i.op=20 then(if i.form=1 then 2 else 5)else if i.op=23 then 5 else if i.op=22 then 6
 else if i.op=24∨i.op=21∨i.op=25∨i.op=26∨i.op=27 then 2 else 1
theorem QoL{i:Ins}(h:Qv i=true):0≤i.op∧i.op≤27∧QaI i=true∧(Wn i.op=true→QaO i.cc=true):=by
 unfold Qv at h;rw [beq_iff_eq]at h;unfold QfU at h;by_cases h1:i.op < 0∨27 < i.op∨QaI i=false∨Wb i=false
 ·rw [if_pos h1]at h;cases h
 rw [if_neg h1]at h;refine⟨by omega,by omega,?_,fun hc=>?_⟩
 ·cases hf:QaI i with
  |true=>rfl
  |false=>exact absurd (Or.inr (Or.inr (Or.inl hf))) h1
 ·cases hf:QaO i.cc with
  |true=>rfl
  |false=>
   split at h
   ·cases h
   ·rw [if_pos (.inl ⟨hc,hf⟩)]at h;cases h
theorem Qsx{i:Ins}(h:Qv i=true):QcY i=QtN i:=by
 obtain⟨h1,h2,h3,h4⟩:=QoL h;rw [←QdB]at h;unfold Yx at h;rw [beq_iff_eq]at h;unfold QcY;rw [if_pos h];clear h;unfold QaI V2 at h3;unfold Wn QaO at h4;obtain⟨addr,imm,op,form,width,cc,a,b,size⟩:=i;simp only at h1 h2 h3 h4;have h5:op=0∨op=1∨op=2∨op=3∨op=4∨op=5∨op=6∨op=7∨op=8∨op=9∨op=10∨op=11∨op=12∨op=13∨op=14∨op=15∨op=16∨op=17∨op=18∨op=19∨op=20∨op=21∨op=22∨op=23∨op=24∨op=25∨op=26∨op=27:=by omega
 clear h1 h2;rcases h5 with rfl|rfl|rfl|rfl|rfl|rfl|rfl|rfl|rfl|rfl|rfl|rfl|rfl|rfl|rfl|rfl|rfl|rfl|rfl|rfl|rfl|rfl|rfl|rfl|rfl|rfl|rfl|rfl
 all_goals
  simp [X8,QnX,QbR,QtN,V2,XJ]at h3 h4 ⊢
  try grind
theorem Quz{i:Ins}(h:Qv i=false):QcY i=0:=by
 rw [←QdB]at h;unfold Yx at h;unfold QcY;rw [if_neg (by simpa using h)]
end Go.Proofs.YteplnamfpodmlaaGreat
namespace Go.Proofs.YteplnamfpodmlaaGreat.T2
def Qsa:List Sg:= [⟨42,[.a Qc],.b (.l none),true,false⟩,⟨99,[.l (some .i64)],.b (.l none),true,false⟩,⟨100,[.l (some .i64)],.b (.l none),true,false⟩]
def Qnx:List PX:= [.a (Qa 0 0 Qc)]
def Qqe:List Rw:= []
def Qqc:Cfg:=⟨2,Qsa,[],[102,117,119,118],[]⟩
def QrY:List Lf:=
 let z0:Cd:= .f 14 0 [(.a (Qa 0 0 Qc),0)]
 let z1:Cd:= .f 86 1 [(.l (.n .i64 (.v 0 2)),0)]
 let z2:Cd:= .c (.v 14 0) true
 let z3:List Cd:= [.c (.v 86 0) true,z1,z2,z0]
 let z4:VX:= .v (.l (.n .i64 (.i 2)))
 let z5:SX:= .o .sub .i64 (.v 0 2) (.i 5)
 let z6:LX:= .n .u8 (.cv .u8 (.o .add .i64 (.o .mul .i64 (.i 16) (.v 0 6)) (.v 0 7)))
 let z7:Cd:= .c (.c .eql (.v 0 3) (.i 1)) true
 let z8:Cd:= .c (.c .eql (.v 0 3) (.i 0)) false
 let z9:VX:= .v (.l (.n .i64 (.i 3)))
 let z10:SX:= .cv .u8 (.v 0 6)
 let z11:LX:= .n .u8 (.cv .u8 (.o .rem .u32 (.v 0 1) (.i 256)))
 let z12:Cd:= .c (.c .eql (.v 0 3) (.i 1)) false
 let z13:List LX:= [.n .u8 z10]
 let z14:List Bk:= [⟨170,.row [some .u8] (.i 6) 170⟩,⟨238,.cells 5 [z11,.n .u8 (.cv .u8 (.o .rem .u32 (.o .quo .u32 (.v 0 1) (.i 256)) (.i 256))),.n .u8 (.cv .u8 (.o .rem .u32 (.o .quo .u32 (.v 0 1) (.i 65536)) (.i 256))),.n .u8 (.cv .u8 (.o .quo .u32 (.v 0 1) (.i 16777216)))]⟩]
 let z15:Cd:= .f 98 2 [(.l (.n .i64 (.v 0 2)),0)]
 let z16:Cd:= .c (.v 98 0) true
 let z17:Cd:= .c (.v 86 0) false
 let z18:List LX:= [z6,z11]
 let z19:List Bk:= [⟨142,.cells 41 (Qa 0 0 Qc)⟩]
 let z20:Cd:= .c (.c .eql (.v 0 2) (.i 18)) true
 let z21:Cd:= .c (.c .eql (.v 0 2) (.i 17)) false
 let z22:List Cd:= [z21,.c (.c .eql (.v 0 4) (.i 1)) true]
 let z23:SX:= .c .eql (.v 0 4) (.i 2)
 let z24:List Cd:= [.c (.c .eql (.v 0 4) (.i 1)) false]
 let z25:List Cd:=(z21 :: .c (.c .eql (.v 0 2) (.i 16)) true :: .c z23 true :: z24)
 let z26:Cd:= .c (.an z23 (.c .eql (.v 0 2) (.i 16))) false
 let z27:Cd:= .c (.c .eql (.v 0 2) (.i 18)) false
 let z28:Cd:= .c (.v 98 0) false
 let z29:Cd:= .c (.c .eql (.v 0 2) (.i 20)) true
 let z30:Cd:= .c (.c .eql (.v 0 2) (.i 19)) false
 let z31:List Cd:= [z30,z28,z15,z17,z1,z2,z0]
 let z32:SX:= .o .sub .u32 (.v 0 1) (.v 0 0)
 let z33:SX:= .o .sub .u32 z32 (.i 5)
 let z34:List LX:= [.n .u8 (.cv .u8 (.o .rem .u32 z33 (.i 256))),.n .u8 (.cv .u8 (.o .rem .u32 (.o .quo .u32 z33 (.i 256)) (.i 256))),.n .u8 (.cv .u8 (.o .rem .u32 (.o .quo .u32 z33 (.i 65536)) (.i 256))),.n .u8 (.cv .u8 (.o .quo .u32 z33 (.i 16777216)))]
 let z35:Cd:= .c (.c .eql (.v 0 2) (.i 20)) false
 let z36:Cd:= .c (.c .eql (.v 0 2) (.i 23)) false
 let z37:List Cd:=(.c (.c .eql (.v 0 2) (.i 22)) false :: z36 :: z35 :: z31)
 let z38:VX:= .v (.l (.n .i64 (.i 1)))
 let z39:List Cd:=(.c (.c .eql (.v 0 2) (.i 3)) false :: z37)
 let z40:List Cd:=(.c (.c .eql (.v 0 2) (.i 4)) false :: z39)
 let z41:List Cd:=(.c (.c .eql (.v 0 2) (.i 24)) false :: z40)
 let z42:List Cd:=(.c (.c .eql (.v 0 2) (.i 21)) false :: z41)
 let z43:List Cd:=(.c (.c .eql (.v 0 2) (.i 25)) false :: z42)
 let z44:List Cd:=(.c (.c .eql (.v 0 2) (.i 26)) false :: z43)
 [⟨[.c (.v 14 0) false,z0],.v (.l (.n .i64 (.i 0))),[⟨2,.cells 41 (Qa 0 0 Qc)⟩]⟩,⟨(.c (.c .eql (.v 0 3) (.i 0)) true :: z3),z4,[⟨2,.cells 41 (Qa 0 0 Qc)⟩,⟨38,.cells 41 (Qa 0 0 Qc)⟩,⟨134,.cells 5 [.n .u8 (.cv .u8 (.o .add .i64 (.i 32) z5)),z6]⟩]⟩,⟨(z7 :: z8 :: z3),z9,[⟨2,.cells 41 (Qa 0 0 Qc)⟩,⟨38,.cells 41 (Qa 0 0 Qc)⟩,⟨170,.cells 5 [.n .u8 (.cv .u8 (.o .add .i64 (.i 48) z5)),.n .u8 z10,z11]⟩]⟩,⟨[z1,z0,.c (.v 86 0) true,z2,z12,z8],.v (.l (.n .i64 (.i 6))),(⟨2,.cells 41 (Qa 0 0 Qc)⟩ :: ⟨38,.cells 41 (Qa 0 0 Qc)⟩ :: ⟨154,.cells 5 (.n .u8 (.cv .u8 (.o .add .i64 (.i 64) z5)) :: z13)⟩ :: z14)⟩,⟨[z15,z1,z0,z16,z17,z2,.c (.c .eql (.v 0 2) (.i 17)) true],z9,(⟨2,.cells 41 (Qa 0 0 Qc)⟩ :: ⟨38,.cells 41 (Qa 0 0 Qc)⟩ :: ⟨134,.cells 5 (.n .u8 (.cv .u8 (.o .add .i64 (.i 80) (.o .mul .i64 (.i 2) (.v 0 4)))) :: z18)⟩ :: z19)⟩,⟨(z15 :: z1 :: z0 :: z16 :: z17 :: z2 :: z20 :: z22),z9,(⟨2,.cells 41 (Qa 0 0 Qc)⟩ :: ⟨38,.cells 41 (Qa 0 0 Qc)⟩ :: ⟨134,.cells 5 (.n .u8 (.i 86) :: z18)⟩ :: z19)⟩,⟨(z15 :: z1 :: z0 :: z16 :: z17 :: z2 :: z20 :: z25),z9,(⟨2,.cells 41 (Qa 0 0 Qc)⟩ :: ⟨38,.cells 41 (Qa 0 0 Qc)⟩ :: ⟨134,.cells 5 (.n .u8 (.i 88) :: z18)⟩ :: z19)⟩,⟨(z15 :: z1 :: z0 :: z16 :: z17 :: z26 :: z2 :: z20 :: z21 :: .c z23 true :: z24),z9,(⟨2,.cells 41 (Qa 0 0 Qc)⟩ :: ⟨38,.cells 41 (Qa 0 0 Qc)⟩ :: ⟨134,.cells 5 (.n .u8 (.i 87) :: z18)⟩ :: z19)⟩,⟨(z15 :: z1 :: z0 :: z16 :: z17 :: z26 :: z2 :: z20 :: z21 :: .c z23 false :: z24),z9,(⟨2,.cells 41 (Qa 0 0 Qc)⟩ :: ⟨38,.cells 41 (Qa 0 0 Qc)⟩ :: ⟨134,.cells 5 (.n .u8 (.i 85) :: z18)⟩ :: z19)⟩,⟨(z15 :: z1 :: z0 :: z16 :: z17 :: z2 :: z27 :: z22),z9,(⟨2,.cells 41 (Qa 0 0 Qc)⟩ :: ⟨38,.cells 41 (Qa 0 0 Qc)⟩ :: ⟨134,.cells 5 (.n .u8 (.i 81) :: z18)⟩ :: z19)⟩,⟨(z15 :: z1 :: z0 :: z16 :: z17 :: z2 :: z27 :: z25),z9,(⟨2,.cells 41 (Qa 0 0 Qc)⟩ :: ⟨38,.cells 41 (Qa 0 0 Qc)⟩ :: ⟨134,.cells 5 (.n .u8 (.i 83) :: z18)⟩ :: z19)⟩,⟨(z15 :: z1 :: z0 :: z16 :: z17 :: z26 :: z2 :: z27 :: z21 :: .c z23 true :: z24),z9,(⟨2,.cells 41 (Qa 0 0 Qc)⟩ :: ⟨38,.cells 41 (Qa 0 0 Qc)⟩ :: ⟨134,.cells 5 (.n .u8 (.i 82) :: z18)⟩ :: z19)⟩,⟨(z15 :: z1 :: z0 :: z16 :: z17 :: z26 :: z2 :: z27 :: z21 :: .c z23 false :: z24),z9,(⟨2,.cells 41 (Qa 0 0 Qc)⟩ :: ⟨38,.cells 41 (Qa 0 0 Qc)⟩ :: ⟨134,.cells 5 (.n .u8 (.i 80) :: z18)⟩ :: z19)⟩,⟨[.c (.c .eql (.v 0 2) (.i 19)) true,z28,z15,z17,z1,z2,z0],z9,[⟨2,.cells 41 (Qa 0 0 Qc)⟩,⟨38,.cells 41 (Qa 0 0 Qc)⟩,⟨138,.cells 5 (.n .u8 (.i 90) :: z18)⟩]⟩,⟨(z7 :: z29 :: z31),z4,[⟨2,.cells 41 (Qa 0 0 Qc)⟩,⟨38,.cells 41 (Qa 0 0 Qc)⟩,⟨186,.cells 5 [.n .u8 (.cv .u8 (.o .add .i64 (.i 96) (.v 0 5))),.n .u8 (.cv .u8 (.o .rem .u32 (.o .sub .u32 z32 (.i 2)) (.i 256)))]⟩]⟩,⟨[z15,z1,z0,z28,z17,z2,z29,z30,z12],.v (.l (.n .i64 (.i 5))),[⟨2,.cells 41 (Qa 0 0 Qc)⟩,⟨38,.cells 41 (Qa 0 0 Qc)⟩,⟨154,.cells 5 [.n .u8 (.cv .u8 (.o .add .i64 (.i 112) (.v 0 5)))]⟩,⟨186,.row [some .u8] (.i 5) 186⟩,⟨254,.cells 5 z34⟩]⟩,⟨(.c (.c .eql (.v 0 2) (.i 23)) true :: z35 :: z31),.v (.l (.n .i64 (.i 5))),[⟨2,.cells 41 (Qa 0 0 Qc)⟩,⟨38,.cells 41 (Qa 0 0 Qc)⟩,⟨134,.cells 5 [.n .u8 (.i 128)]⟩,⟨166,.row [some .u8] (.i 5) 166⟩,⟨234,.cells 5 z34⟩]⟩,⟨[z15,z1,z0,z28,z17,z2,z36,.c (.c .eql (.v 0 2) (.i 22)) true,z35,z30],.v (.l (.n .i64 (.i 6))),(⟨2,.cells 41 (Qa 0 0 Qc)⟩ :: ⟨38,.cells 41 (Qa 0 0 Qc)⟩ :: ⟨154,.cells 5 (.n .u8 (.i 131) :: z13)⟩ :: z14)⟩,⟨(.c (.c .eql (.v 0 2) (.i 3)) true :: z37),z38,[⟨2,.cells 41 (Qa 0 0 Qc)⟩,⟨38,.cells 41 (Qa 0 0 Qc)⟩,⟨154,.cells 41 (Qa 0 0 Qc)⟩,⟨202,.cells 5 [.n .u8 (.o .add .u8 (.i 8) z10)]⟩]⟩,⟨(.c (.c .eql (.v 0 2) (.i 4)) true :: z39),z38,[⟨2,.cells 41 (Qa 0 0 Qc)⟩,⟨38,.cells 41 (Qa 0 0 Qc)⟩,⟨154,.cells 41 (Qa 0 0 Qc)⟩,⟨210,.cells 5 [.n .u8 (.o .add .u8 (.i 16) z10)]⟩]⟩,⟨(.c (.c .eql (.v 0 2) (.i 24)) true :: z40),z4,[⟨2,.cells 41 (Qa 0 0 Qc)⟩,⟨38,.cells 41 (Qa 0 0 Qc)⟩,⟨154,.cells 41 (Qa 0 0 Qc)⟩,⟨214,.cells 5 (.n .u8 (.i 129) :: z13)⟩]⟩,⟨(.c (.c .eql (.v 0 2) (.i 21)) true :: z41),z4,[⟨2,.cells 41 (Qa 0 0 Qc)⟩,⟨38,.cells 41 (Qa 0 0 Qc)⟩,⟨154,.cells 41 (Qa 0 0 Qc)⟩,⟨222,.cells 5 (.n .u8 (.i 130) :: z13)⟩]⟩,⟨(.c (.c .eql (.v 0 2) (.i 25)) true :: z42),z4,[⟨2,.cells 41 (Qa 0 0 Qc)⟩,⟨38,.cells 41 (Qa 0 0 Qc)⟩,⟨154,.cells 41 (Qa 0 0 Qc)⟩,⟨246,.cells 5 (.n .u8 (.cv .u8 (.o .add .i64 (.i 144) (.v 0 5))) :: z13)⟩]⟩,⟨(.c (.c .eql (.v 0 2) (.i 26)) true :: z43),z4,[⟨2,.cells 41 (Qa 0 0 Qc)⟩,⟨38,.cells 41 (Qa 0 0 Qc)⟩,⟨154,.cells 41 (Qa 0 0 Qc)⟩,⟨238,.cells 5 (.n .u8 (.i 160) :: z13)⟩]⟩,⟨(.c (.c .eql (.v 0 2) (.i 27)) true :: z44),z4,[⟨2,.cells 41 (Qa 0 0 Qc)⟩,⟨38,.cells 41 (Qa 0 0 Qc)⟩,⟨154,.cells 41 (Qa 0 0 Qc)⟩,⟨246,.cells 5 (.n .u8 (.i 161) :: z13)⟩]⟩,⟨(.c (.c .eql (.v 0 2) (.i 27)) false :: z44),z38,[⟨2,.cells 41 (Qa 0 0 Qc)⟩,⟨38,.cells 41 (Qa 0 0 Qc)⟩,⟨154,.cells 41 (Qa 0 0 Qc)⟩,⟨254,.cells 5 [.n .u8 (.cv .u8 (.v 0 2))]⟩]⟩]
def QrZ:List Ob:=
 let z0:List Cd:= [.c (.v 14 0) true,.f 14 0 [(.a (Qa 0 0 Qc),0)]]
 let z1:PX:= .l (.n .i64 (.v 0 2))
 [.pre [] 0 [(.a (Qa 0 0 Qc),0)],.pre z0 1 [(z1,0)],.pre (.c (.v 86 0) false :: .f 86 1 [(z1,0)] :: z0) 2 [(z1,0)]]
theorem Qqd:QS Tryz.prog Qqc 1000 4 70 Tryz.f70 Qnx Qqe=some (QrY,QrZ):=by kernel_rfl
set_option maxHeartbeats 4000000 in
theorem rlength_any(i:Ins)(w:World):Calls Tryz.prog 70 #[i.val] w (Ret (.int .i64 (QcY i)) w):=by
 refine J9 (C:= [XA.kon,X9.kon,ZC.kon]) (I:= []) Qo rfl Tryz.func70 Qqd (Yu [nmI (Q2 i)]) w rfl (fun r hr=>(List.not_mem_nil hr).elim) _ ?_ ?_
 ·refine⟨?_,?_,?_,trivial⟩
  all_goals
   intro e he hc;trivial
 ·refine⟨?_,?_,?_,?_,?_,?_,?_,?_,?_,?_,?_,?_,?_,?_,?_,?_,?_,?_,?_,?_,?_,?_,?_,?_,?_,?_,trivial⟩
  all_goals
   intro e u he hc hs;have h0:e.nm 0=nmI (Q2 i):=he 0 (by decide)
   have hi:QdU e 0=i:=Zi e 0 (show(e.nm 0).int=_ by rw [h0];rfl)
   rw [show u=_ from hs]
   simp only [QC,Ze,Cd.holds,dv1,dv2,di1,db2,dr1,dr2,dq1,dq2,do1,Xc,Xb,ZY,ZX,Xa,ZZ,ZW,ZV,ZU,ZT,Xe,Xd,Jc,Jb,XY,XX,Ja,XZ,List.map_cons,List.map_nil,Nat.mul_one,Nat.add_zero,List.getElem?_cons_zero,List.getElem?_cons_succ,Option.some.injEq,exists_eq_left',and_true,Env.int,Env.bool,Con.kon_post,Q1,XA,X9,ZC,Qr,Qy,hi,Jk,h0,nmI,Q2]at hc;simp only [PX.den,LX.den,di1];refine congrArg (Value.int .i64) ?_
   clear hs he
   (repeat (rcases hc with ⟨_,hc⟩))
   (simp_all) <;> first
     |exact(Quz (by assumption)).symm
     |(rw [Qsx (by assumption)];unfold QtN;grind)
end Go.Proofs.YteplnamfpodmlaaGreat.T2
namespace Go.Proofs.YteplnamfpodmlaaGreat
theorem Qgd(i:Ins)(w:World):Calls Tryz.prog 70 #[i.val] w (Ret (.int .i64 (QcY i)) w):=T2.rlength_any i w
def Qfi:Con Tryz.prog:= .mk' ⟨70,[.a Qc],.l (some .i64),true⟩
 (fun ads=>match ads with| [d1]=>True|_=>False)
 (fun ads=>match ads with| [d1]=>fun _=>QcY (QL d1)|_=>fun _=>0)
 (fun ads=>match ads with| [d1]=>fun _=>false|_=>fun _=>false)
 ⟨_,Tryz.func70,by kernel_rfl,by kernel_rfl⟩ (fun ads w hf hp=>by
   obtain⟨d1,_,rfl,f1,hf⟩:=Qg hf;obtain rfl:=Qm hf;show Calls _ _ #[d1.val] w _;rw [Zd f1];exact Qgd (QL d1) w)
end Go.Proofs.YteplnamfpodmlaaGreat
namespace Go.Proofs.YteplnamfpodmlaaGreat.T2
def Qqh:List Sg:= [⟨70,[.a Qc],.b (.l (some .i64)),true,false⟩]
def Qkq:List PX:= [.a (Qa 0 0 Qc)]
def Qn0:List Rw:= []
def Qny:Cfg:=⟨2,Qqh,[],[],[]⟩
def Qqf:List Lf:= [⟨[.f 22 0 [(.a (Qa 0 0 Qc),0)]],.v (.l (.n .u32 (.o .add .u32 (.v 0 0) (.cv .u32 (.v 22 0))))),[⟨2,.cells 41 (Qa 0 0 Qc)⟩]⟩]
def Qqg:List Ob:= [.pre [] 0 [(.a (Qa 0 0 Qc),0)]]
theorem Qnz:QS Tryz.prog Qny 1000 4 44 Tryz.f44 Qkq Qn0=some (Qqf,Qqg):=by kernel_rfl
theorem rnext_any(i:Ins)(w:World):Calls Tryz.prog 44 #[i.val] w (Ret (.int .u32 (VY i)) w):=by
 refine J9 (C:= [Qfi.kon]) (I:= []) Qo rfl Tryz.func44 Qnz (Yu [nmI (Q2 i)]) w rfl (fun r hr=>(List.not_mem_nil hr).elim) _ ?_ ?_
 ·refine⟨?_,trivial⟩
  all_goals
   intro e he hc;trivial
 ·refine⟨?_,trivial⟩
  all_goals
   intro e u he hc hs;have h0:e.nm 0=nmI (Q2 i):=he 0 (by decide)
   have hi:QdU e 0=i:=Zi e 0 (show(e.nm 0).int=_ by rw [h0];rfl)
   rw [show u=_ from hs]
   simp only [QC,Ze,Cd.holds,dv1,dv2,di1,db2,dr1,dr2,dq1,dq2,do1,Xc,Xb,ZY,ZX,Xa,ZZ,ZW,ZV,ZU,ZT,Xe,Xd,Jc,Jb,XY,XX,Ja,XZ,List.map_cons,List.map_nil,Nat.mul_one,Nat.add_zero,List.getElem?_cons_zero,List.getElem?_cons_succ,Option.some.injEq,exists_eq_left',and_true,Env.int,Env.bool,Con.kon_post,Q1,Qfi,Qr,hi,Jk]at hc;simp only [PX.den,LX.den,SX.den,Env.int,h0,hc.1];rfl
end Go.Proofs.YteplnamfpodmlaaGreat.T2
namespace Go.Proofs.YteplnamfpodmlaaGreat
theorem Qly(i:Ins)(w:World):Calls Tryz.prog 44 #[i.val] w (Ret (.int .u32 (VY i)) w):=T2.rnext_any i w
def Qgb:Con Tryz.prog:= .mk' ⟨44,[.a Qc],.l (some .u32),true⟩
 (fun ads=>match ads with| [d1]=>True|_=>False)
 (fun ads=>match ads with| [d1]=>fun _=>VY (QL d1)|_=>fun _=>0)
 (fun ads=>match ads with| [d1]=>fun _=>false|_=>fun _=>false)
 ⟨_,Tryz.func44,by kernel_rfl,by kernel_rfl⟩ (fun ads w hf hp=>by
   obtain⟨d1,_,rfl,f1,hf⟩:=Qg hf;obtain rfl:=Qm hf;show Calls _ _ #[d1.val] w _;rw [Zd f1];exact Qly (QL d1) w)
end Go.Proofs.YteplnamfpodmlaaGreat
end
