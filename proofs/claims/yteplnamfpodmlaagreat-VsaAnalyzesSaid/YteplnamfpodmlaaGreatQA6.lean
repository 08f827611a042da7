/-
  Part of the proof.
-/
import Derived.Test.YteplnamfpodmlaaGreatQA3
import Derived.Test.YteplnamfpodmlaaGreatQB
import Derived.Test.YteplnamfpodmlaaGreatQKit
import Derived.Test.YteplnamfpodmlaaGreatQSx
import Derived.Test.YteplnamfpodmlaaGreatQA01
set_option linter.unusedVariables false
set_option linter.unusedSimpArgs false
set_option maxRecDepth 100000
open Go.ChangeShapes Go.WideShapes Go.ChangeAt Go.RowKit
section
namespace Go.Proofs.YteplnamfpodmlaaGreat
theorem Qed(i:Ins)(s:Nat→Qd)(h:i.wf∧∀k,(s k).wf)(w:World):Calls Tryz.prog 10 #[i.val,Zm s] w (Ret (Zm (Qu i s)) w):=Qgn i s h w
def K7:Con Tryz.prog:= .mk' ⟨10,[.a Qc,.a stK],.a stK,true⟩
 (fun ads=>match ads with| [d1,d2]=>(QL d1).wf∧∀k,((stD d2) k).wf|_=>False)
 (fun ads=>match ads with| [d1,d2]=>QU (Qu (QL d1) (stD d2))|_=>fun _=>0)
 (fun ads=>match ads with| [d1,d2]=>QI (Qu (QL d1) (stD d2))|_=>fun _=>false)
 ⟨_,Tryz.func10,by kernel_rfl,by kernel_rfl⟩ (fun ads w hf hp=>by
   obtain⟨d1,_,rfl,f1,hf⟩:=Qg hf;obtain⟨d2,_,rfl,f2,hf⟩:=Qg hf;obtain rfl:=Qm hf;show Calls _ _ #[d1.val,d2.val] w _;rw [Zd f1,Jn f2];exact Qed (QL d1) (stD d2) hp w)
def QfF:Con Tryz.prog:= .mk' ⟨39,[.a stK,.a stK],.a stK,true⟩
 (fun ads=>match ads with| [d1,d2]=>(∀k,((stD d1) k).wf)∧∀k,((stD d2) k).wf|_=>False)
 (fun ads=>match ads with| [d1,d2]=>QU (Xs (stD d1) (stD d2))|_=>fun _=>0)
 (fun ads=>match ads with| [d1,d2]=>QI (Xs (stD d1) (stD d2))|_=>fun _=>false)
 ⟨_,Tryz.func39,by kernel_rfl,by kernel_rfl⟩ (fun ads w hf hp=>by
   obtain⟨d1,_,rfl,f1,hf⟩:=Qg hf;obtain⟨d2,_,rfl,f2,hf⟩:=Qg hf;obtain rfl:=Qm hf;show Calls _ _ #[d1.val,d2.val] w _;rw [Jn f1,Jn f2];exact Qo2 (stD d1) (stD d2) hp w)
theorem QlF(a b:Qd)(h:a.wf∧b.wf)(w:World):Calls Tryz.prog 41 #[a.val,b.val] w (Ret (XF a b).val w):=QoX a b h.1 h.2 w
def QfH:Con Tryz.prog:= .mk' ⟨41,[.a Qb,.a Qb],.a Qb,true⟩
 (fun ads=>match ads with| [d1,d2]=>(QK d1).wf∧(QK d2).wf|_=>False)
 (fun ads=>match ads with| [d1,d2]=>QJ (XF (QK d1) (QK d2))|_=>fun _=>0)
 (fun ads=>match ads with| [d1,d2]=>QO (XF (QK d1) (QK d2))|_=>fun _=>false)
 ⟨_,Tryz.func41,by kernel_rfl,by kernel_rfl⟩ (fun ads w hf hp=>by
   obtain⟨d1,_,rfl,f1,hf⟩:=Qg hf;obtain⟨d2,_,rfl,f2,hf⟩:=Qg hf;obtain rfl:=Qm hf;show Calls _ _ #[d1.val,d2.val] w _;rw [Zg f1,Zg f2];exact QlF (QK d1) (QK d2) hp w)
def QqJ:Con Tryz.prog:= .mk' ⟨11,[],.a stK,true⟩
 (fun ads=>match ads with| []=>True|_=>False)
 (fun ads=>match ads with| []=>QU fun _=>Qt|_=>fun _=>0)
 (fun ads=>match ads with| []=>QI fun _=>Qt|_=>fun _=>false)
 ⟨_,Tryz.func11,by kernel_rfl,by kernel_rfl⟩ (fun ads w hf hp=>by
   obtain rfl:=Qm hf;exact Qf4  w)
end Go.Proofs.YteplnamfpodmlaaGreat
namespace Go.Proofs.YteplnamfpodmlaaGreat.T2
def QqP{P:Program}(c:Con P)(h:∀ads w,Qcw w c.sg.args ads→c.pre ads):Kon P where
 sg:=⟨c.sg.f,c.sg.args,.b c.sg.res,c.sg.det,true⟩
 pre _:=True
 post:=c.kon.post
 body:=c.body
 free _ _:=trivial
 flat _:=⟨_,rfl⟩
 total:=c.kon.total
 same:=c.kon.same
 sound ads w hf _:=c.kon.sound ads w hf (h ads w hf)
def QkR:Kon Tryz.prog:=QqP VT fun ads w hf=>by
 obtain⟨d1,_,rfl,f1,hf⟩:=Qg hf;obtain rfl:=Qm hf;trivial
def QcT:Kon Tryz.prog:=QqP WL fun ads w hf=>by
 obtain⟨d1,_,rfl,f1,hf⟩:=Qg hf;obtain rfl:=Qm hf;trivial
def QcU:Kon Tryz.prog:=QqP WM fun ads w hf=>by
 obtain rfl:=Qm hf;trivial
def QkQ:Kon Tryz.prog:=QqP QqJ fun ads w hf=>by
 obtain rfl:=Qm hf;trivial
def anC:List (Kon Tryz.prog):= [QkR,Qbs,QcT,Yz.kon,K7.kon,QfF.kon,QfH.kon,QcU,QkQ,QfE]
abbrev bs(c:Cx)(e:Env):Prop:=Qcv c (e.nm 42) (e.nm 54) (e.nm 82) (e.nm 83) (e.nm 84)
def anI(c:Cx):List (Nat→Env→Prop):= [
 fun _ e=>Qob c (e.nm 42) (e.nm 54) (e.nm 82) (e.nm 83) (e.nm 84),
 fun _ e=>bs c e∧Qho c (e.nm 285) (e.nm 286) (e.nm 287) (e.nm 288),
 fun _ e=>bs c e∧WW c (e.nm 285) (e.nm 341) (e.nm 385) (e.nm 386) (e.nm 397) (e.nm 398) (e.nm 399),
 fun _ e=>bs c e∧Qhp c (e.nm 286) (e.nm 288) (e.nm 317) (e.nm 318),
 fun _ e=>bs c e∧Qah c (e.nm 286) (e.nm 318) (e.nm 387) (e.nm 388) (e.nm 389) (e.nm 390),
 fun _ e=>bs c e∧∃s,Mid c (e.nm 286) (e.nm 318) (e.nm 387) (e.nm 407) (e.nm 551) (e.nm 552) (e.nm 511) (e.nm 553) s,
 fun _ e=>bs c e∧∃s p,Qcx c (e.nm 286) (e.nm 318) (e.nm 387) (e.nm 407) (e.nm 551) (e.nm 552) (e.nm 511) (e.nm 553) (e.nm 898) s p,
 fun _ e=>bs c e∧∃s p,Qfq c (e.nm 286) (e.nm 318) (e.nm 387) (e.nm 407) (e.nm 551) (e.nm 552) (e.nm 511) (e.nm 553) (e.nm 1519) s p]
theorem an0:anC[0]?=some QkR:=rfl
theorem an1:anC[1]?=some Qbs:=rfl
theorem an2:anC[2]?=some QcT:=rfl
theorem an3:anC[3]?=some Yz.kon:=rfl
theorem an4:anC[4]?=some K7.kon:=rfl
theorem an5:anC[5]?=some QfF.kon:=rfl
theorem an6:anC[6]?=some QfH.kon:=rfl
theorem an7:anC[7]?=some QcU:=rfl
theorem an8:anC[8]?=some QkQ:=rfl
theorem an9:anC[9]?=some QfE:=rfl
theorem Qti{d:AD}{m m':Nm}:QkR.post [d] m m'↔(m.int=fun _=>0)∧(m.bool=fun _=>Qv (QL d)):=Iff.rfl
theorem Qtj{d:AD}{m m':Nm}:Qbs.post [d] m m'↔Ju (Q9 (QL d)) m m':=Iff.rfl
theorem Qtk{d:AD}{m m':Nm}:QcT.post [d] m m'↔(m.int=fun _=>0)∧(m.bool=fun _=>Vf (QL d)):=Iff.rfl
theorem Qtl{d1 d2 d3 d4:AD}{m m':Nm}:Yz.kon.post [d1,d2,d3,d4] m m'↔m.int=QU (ZE (Q3 d1) (QL d2) (stD d3) (WD d4))∧m.bool=QI (ZE (Q3 d1) (QL d2) (stD d3) (WD d4)):=Iff.rfl
theorem Qtm{d1 d2:AD}{m m':Nm}:K7.kon.post [d1,d2] m m'↔m.int=QU (Qu (QL d1) (stD d2))∧m.bool=QI (Qu (QL d1) (stD d2)):=Iff.rfl
theorem Qtn{d1 d2:AD}{m m':Nm}:QfF.kon.post [d1,d2] m m'↔m.int=QU (Xs (stD d1) (stD d2))∧m.bool=QI (Xs (stD d1) (stD d2)):=Iff.rfl
theorem Qto{d1 d2:AD}{m m':Nm}:QfH.kon.post [d1,d2] m m'↔m.int=QJ (XF (QK d1) (QK d2))∧m.bool=QO (XF (QK d1) (QK d2)):=Iff.rfl
theorem Qtp{m m':Nm}:QcU.post [] m m'↔(m.int=QU fun _=>Qp)∧m.bool=QI fun _=>Qp:=Iff.rfl
theorem Qtq{m m':Nm}:QkQ.post [] m m'↔(m.int=QU fun _=>Qt)∧m.bool=QI fun _=>Qt:=Iff.rfl
theorem Qtr{d1 d2:AD}{m m':Nm}:QfE.post [d1,d2] m m'↔(m.int=fun _=>XQ d1.bool (Xz d1.val) (WD d2))∧m.bool=fun _=>false:=Iff.rfl
theorem mk5{a a' b b':Bool}{x x' y y' z z':Int}(h0:a=a')(h1:b=b')(h2:x=x')(h3:y=y')(h4:z=z'):(⟨a,b,x,y,z⟩:Qd)=⟨a',b',x',y',z'⟩:=by rw [h0,h1,h2,h3,h4]
theorem Qq7{x:Int}(h:0≤x):decide (x=0)=(x.toNat==0):=by
 by_cases h1:x=0
 ·subst h1;rfl
 ·rw [decide_eq_false h1]
  symm
  rw [beq_eq_false_iff_ne];omega
def ZH(c:Cx)(m m':Nm):Prop:=match Zz c.I c.N c.en c.R with
 | .error x=>m.int 0=0∧m.int 1=x
 | .ok b=>m.int 0=(c.N:Int)∧m.int 1=0∧BIs m' c.N b
set_option maxHeartbeats 8000000 in
theorem Qhr(c:Cx)(hc:c.ok)(base:Option Addr)(cap:Nat)(int:Nat→Int)(bool:Nat→Bool)(hI:∀k,k < c.N→Q4 int k=c.I k)(w:World)(hr:XW w base c.N Qc int bool) :
 Calls Tryz.prog 6 #[.slice base c.N cap,.int .u32 c.en,.int .i64 c.R] w fun en w'=>∃m m',en= .returned ((RZ.se stK (some .i64)).val m m')∧Below w.heap.size w w'∧ZH c m m'∧(RZ.se stK (some .i64)).mem w.heap.size w' m m':=by
 refine WR (C:=anC) (I:=anI c) Qo rfl Tryz.func6 Qhi (Yu [nmR base cap int bool,nmN c.en,nmN c.R,nmN c.N]) w rfl ?_ (.se stK (some .i64)) (ZH c) ?_ ?_
 ·intro r hr0;rw [List.mem_singleton.1 hr0];exact hr
 ·refine⟨?_,?_,?_,?_,?_,?_,?_,?_,?_,?_,?_,?_,?_,?_,?_,?_,?_,?_,?_,?_,?_,?_,?_,?_,?_,?_,?_,?_,?_,?_,?_,?_,?_,?_,?_,?_,?_,?_,?_,?_,?_,?_,?_,?_,?_,?_,?_,?_,?_,?_,?_,?_,?_,?_,?_,?_,?_,?_,?_,?_,?_,?_,?_,?_,?_,?_,?_,?_,?_,?_,?_,?_,?_,?_,?_,?_,?_,?_,?_,?_,?_,?_,?_,?_,?_,?_,?_,?_,?_,?_,?_,?_,?_,?_,?_,?_,?_,?_,?_,?_,?_,?_,?_,?_,?_,?_,?_,?_,?_,?_,?_,?_,?_,?_,?_,?_,?_,?_,?_,?_,trivial⟩
  all_goals
   intro e he hcd;have h0:e.nm 0=nmR base cap int bool:=he 0 (by decide)
   have h1:e.nm 1=nmN c.en:=he 1 (by decide)
   have h2:e.nm 2=nmN c.R:=he 2 (by decide)
   have h3:e.nm 3=nmN c.N:=he 3 (by decide)
   simp only [QC,Ze,Cd.holds,dv1,dv2,di1,db2,dr1,dr2,dq1,dq2,do1,Xc,Xb,ZY,ZX,Xa,ZZ,ZW,ZV,ZU,ZT,Xe,Xd,Jc,Jb,XY,XX,Ja,XZ,List.map_cons,List.map_nil,Nat.mul_one,Nat.add_zero,List.getElem?_cons_zero,List.getElem?_cons_succ,Option.some.injEq,exists_eq_left',and_true,and_assoc,Env.int,Env.bool,Xp,Nat.reduceLeDiff,Nat.reduceAdd,an0,an1,an2,an3,an4,an5,an6,an7,an8,an9,Qti,Qtj,Qtk,Qtl,Qtm,Qtn,Qto,Qtp,Qtq,Qtr,Jk,anI,bs,h0,h1,h2,h3,nmR,nmN,nmI]at hcd
  all_goals
   have hA:∀k,k < c.N→int (k * 9)=(c.I k).addr∧0≤int (k * 9):=fun k hk=>by
    have e1:int (k * 9)=(c.I k).addr:=by rw [←hI k hk];rfl
    exact⟨e1,by rw [e1];exact(hc.wf k).1.1⟩
   have hD:∀x:SX,(x.den e).1.toNat < c.N→QL (PX.dat e 0 (.a (rxL 0 9 x 0 Qc)))=c.I (x.den e).1.toNat:=fun x hx=>by
    rw [Qcp,←hI _ hx];show Q4 (e.nm 0).int _=_;rw [h0];rfl
  all_goals
   have hS:∀{nv nm:Nm} {s:VS},Qoc c (e.nm 552) nv nm s→∀x:SX,(x.den e).1.toNat < c.N→stD (PX.dat e 0 (.a (rxL 552 40 x 0 stK)))=s.b (x.den e).1.toNat:=fun H x hx=>by
    rw [Qgl];exact H.row hx
  all_goals
   (try (simp only [QC,Ze,Cd.holds,dv1,dv2,di1,db2,dr1,dr2,dq1,dq2,do1,Xc,Xb,ZY,ZX,Xa,ZZ,ZW,ZV,ZU,ZT,Xe,Xd,Jc,Jb,XY,XX,Ja,XZ,List.map_cons,List.map_nil,Nat.mul_one,Nat.add_zero,List.getElem?_cons_zero,List.getElem?_cons_succ,Option.some.injEq,exists_eq_left',and_true,and_assoc,Env.int,Env.bool,Xp,Nat.reduceLeDiff,Nat.reduceAdd,h0,h1,h2,h3,nmR,nmN,nmI];first
     |omega
     |(have H:Qob c (e.nm 42) (e.nm 54) (e.nm 82) (e.nm 83) (e.nm 84):=by(have hpq:=hcd;(repeat (first|exact hpq|exact hpq.1|replace hpq:=hpq.2));done)
       have k0:=H.k0;have kN:=H.kN;have k1:=H.k1;have pN:=H.p.N
       first|omega|exact(hA _ (by omega)).2|(rw [Q7 (by omega) (by omega)];omega))
     |(with_reducible exact hc.en0)
     |(have B:Qcv c (e.nm 42) (e.nm 54) (e.nm 82) (e.nm 83) (e.nm 84):=by(have hpq:=hcd;(repeat (first|exact hpq|exact hpq.1|replace hpq:=hpq.2));done)
       have pN:=B.p.N;have bl:=B.len;have bf:=B.first hc;have ce:=hc.en0
       first
        |omega
        |(rw [bf.1];omega)
        |(have H:Qah c (e.nm 286) (e.nm 318) (e.nm 387) (e.nm 388) (e.nm 389) (e.nm 390):=by(have hpq:=hcd;(repeat (first|exact hpq|exact hpq.1|replace hpq:=hpq.2));done)
          have il:=Qf9 (m:=(e.nm 390).bool) (v:=true) (n:=c.N);have hq:(e.nm 407).int=fun _=>XQ (e.nm 390).bool ((e.nm 3).int 0).toNat true:=by(have hpq:=hcd;(repeat (first|exact hpq|exact hpq.1|replace hpq:=hpq.2));done)
          have hq0:(e.nm 407).int 0=XQ (e.nm 390).bool c.N true:=by rw [h3]at hq;exact congrFun hq 0
          omega)
        |(have hM:∃s,Mid c (e.nm 286) (e.nm 318) (e.nm 387) (e.nm 407) (e.nm 551) (e.nm 552) (e.nm 511) (e.nm 553) s:=by
           first
            |((have hpq:=hcd;(repeat (first|exact hpq|exact hpq.1|replace hpq:=hpq.2));done);done)
            |(have h6:∃s p,Qcx c (e.nm 286) (e.nm 318) (e.nm 387) (e.nm 407) (e.nm 551) (e.nm 552) (e.nm 511) (e.nm 553) (e.nm 898) s p:=by(have hpq:=hcd;(repeat (first|exact hpq|exact hpq.1|replace hpq:=hpq.2));done)
              obtain⟨s,p,H⟩:=h6;exact⟨s,H.mid⟩)
            |(have h7:∃s p,Qfq c (e.nm 286) (e.nm 318) (e.nm 387) (e.nm 407) (e.nm 551) (e.nm 552) (e.nm 511) (e.nm 553) (e.nm 1519) s p:=by(have hpq:=hcd;(repeat (first|exact hpq|exact hpq.1|replace hpq:=hpq.2));done)
              obtain⟨s,p,H⟩:=h7;exact⟨s,H.mid⟩)
            |fail "no Mid"
          obtain⟨s,H⟩:=hM;have n0:=H.n0;have nR:=H.nR;have k0:=H.k0;have kN:=H.kN;have m0:=H.m0;have mL:=H.mL;have hR1:=hc.R1;have el:(c.E ((e.nm 407).int 0).toNat).length≤2:=Ys;have eE:=(H.eg.ed ((e.nm 407).int 0).toNat (by omega)).1
          first
           |omega
           |(rw [Q7 (by omega) (by omega)];omega)
           |(rw [IntKind.wrap_i64];omega)
           |(rw [H.eg.gd _ (by omega)];exact Quv.1)
           |(have hlt:(e.nm 551).int 0 < (e.nm 286).int ((e.nm 407).int 0).toNat:=by(have hpq:=hcd;(repeat (first|exact hpq|exact hpq.1|replace hpq:=hpq.2));done)
             obtain⟨p,g1,g2,g3,g4⟩:=H.edge hlt;rw [g3];omega))
        |(have h6:∃s p,Qcx c (e.nm 286) (e.nm 318) (e.nm 387) (e.nm 407) (e.nm 551) (e.nm 552) (e.nm 511) (e.nm 553) (e.nm 898) s p:=by(have hpq:=hcd;(repeat (first|exact hpq|exact hpq.1|replace hpq:=hpq.2));done)
          obtain⟨s,p,H⟩:=h6;obtain⟨g1,g2,g3,g4⟩:=H.mid.edge' H.pe
          first|omega|(rw [g3];omega))
        |(have h7:∃s p,Qfq c (e.nm 286) (e.nm 318) (e.nm 387) (e.nm 407) (e.nm 551) (e.nm 552) (e.nm 511) (e.nm 553) (e.nm 1519) s p:=by(have hpq:=hcd;(repeat (first|exact hpq|exact hpq.1|replace hpq:=hpq.2));done)
          obtain⟨s,p,H⟩:=h7;obtain⟨g1,g2,g3,g4⟩:=H.mid.edge' H.pe
          first|omega|(rw [g3];omega))
        |(have H:Qho c (e.nm 285) (e.nm 286) (e.nm 287) (e.nm 288):=by(have hpq:=hcd;(repeat (first|exact hpq|exact hpq.1|replace hpq:=hpq.2));done)
          have k0:=H.k0;have kN:=H.kN
          first
           |omega
           |exact(hA _ (by omega)).2
           |(rw [Q7 (by omega) (by omega)];omega)
           |(have hl:=hcd.1.1
             rw [hl];omega)
           |(have hl:=hcd.1
             rw [hl.1];omega))
        |(have H:WW c (e.nm 285) (e.nm 341) (e.nm 385) (e.nm 386) (e.nm 397) (e.nm 398) (e.nm 399):=by(have hpq:=hcd;(repeat (first|exact hpq|exact hpq.1|replace hpq:=hpq.2));done)
          have k0:=H.k0;have kN:=H.kN;have m0:=H.m0;have mL:=H.mL;have ln:=H.len;have el:=H.elen;have tl:=KY (c.I ((e.nm 285).int 0).toNat)
          first
           |omega
           |(have hlt:(e.nm 397).int 0 < (e.nm 385).int 0:=by(have hpq:=hcd;(repeat (first|exact hpq|exact hpq.1|replace hpq:=hpq.2));done)
             exact H.tgt0 hc hlt)
           |(rw [Q7 (by omega) (by omega)];omega)
           |(have hb:(e.nm 83).bool ((e.nm 386).int ((e.nm 397).int 0).toNat).toNat=true:=by(have hpq:=hcd;(repeat (first|exact hpq|exact hpq.1|replace hpq:=hpq.2));done)
             have hlt:(e.nm 397).int 0 < (e.nm 385).int 0:=by(have hpq:=hcd;(repeat (first|exact hpq|exact hpq.1|replace hpq:=hpq.2));done)
             have t0:=H.tgt0 hc hlt;have lk:=B.look t0;rw [lk.1]at hb;obtain⟨t,ht⟩:=Option.isSome_iff_exists.1 hb;have tN:=(JM ht).1;have lk2:=lk.2 t ht;have li':=H.ilen tN;rw [lk2]
             first
              |omega
              |(rw [Int.toNat_natCast];omega)
              |(rw [Int.toNat_natCast,Q7 (by omega) (by omega)];omega)))
        |(have H:Qhp c (e.nm 286) (e.nm 288) (e.nm 317) (e.nm 318):=by(have hpq:=hcd;(repeat (first|exact hpq|exact hpq.1|replace hpq:=hpq.2));done)
          have k0:=H.k0;have kN:=H.kN
          first
           |omega
           |exact(hA _ (by omega)).2
           |(rw [Q7 (by omega) (by omega)];omega)
           |(have h1':(e.nm 288).int ((e.nm 317).int 0).toNat=1:=by(have hpq:=hcd;(repeat (first|exact hpq|exact hpq.1|replace hpq:=hpq.2));done)
             have hlt:(e.nm 317).int 0 < c.N:=by(have hpq:=hcd;(repeat (first|exact hpq|exact hpq.1|replace hpq:=hpq.2));done)
             obtain⟨g,g1,g2,g3⟩:=QcP H.it (by omega) h1'
             rw [show Int.toNat 0=0 from rfl,g3]
             omega)))))
  ·exact QkI (c:=c) (n42:=e.nm 42) (n54:=e.nm 54) ⟨by omega,hcd.2.2.1,hcd.2.1⟩ rfl rfl hcd.2.2.2.2.2.1
  ·obtain⟨u1,u2,f1,f2,w1,w2,H,hb,hle,ha,hlt,hk1,hk0,hN⟩:=hcd;obtain⟨a1,a2⟩:=hA ((e.nm 82).int 0).toNat (by omega)
   rw [H.k1]at u1 u2;rw [a1]at w1 w2 hb ha;have hx:∀r,r < 8→QV e 221 (5 * r)=Qt:=fun r _=>QW e 221 f1 f2 r
   have pN:=H.p.N;have sN:IntKind.i64.wrap ((e.nm 82).int 0+1)=(e.nm 82).int 0+1:=Q7 hk0 (by omega)
   exact QeT H hlt sN (Q7 hk1 hle) (Qsn H.at' ha hb (by rw [Int.toNat_of_nonneg hk0];exact w1) w2) (Qfz H.bf u1 u2 hx)
  ·obtain⟨u1,u2,f1,f2,H,hb,hle,ha,hlt,hk1,hk0,hN⟩:=hcd;obtain⟨a1,a2⟩:=hA ((e.nm 82).int 0).toNat (by omega)
   rw [H.k1]at u1 u2;rw [a1]at hb ha;have hx:∀r,r < 8→QV e 189 (5 * r)=Qt:=fun r _=>QW e 189 f1 f2 r
   have pN:=H.p.N;have sN:IntKind.i64.wrap ((e.nm 82).int 0+1)=(e.nm 82).int 0+1:=Q7 hk0 (by omega)
   exact QeT H hlt sN (Q7 hk1 hle) (Qsm H.at' ha hb) (Qfz H.bf u1 u2 hx)
  ·obtain⟨z1,z2,z3,z4,z5,z6,hN1,hN,hb,he0,hlt,H⟩:=hcd;exact⟨Qso hc H hlt hb,QkJ rfl z3 z5⟩
  ·obtain⟨h385,hl,hEq,u1,u2,B,H,ha,hlt,hk0,hN⟩:=hcd;obtain⟨a1,a2⟩:=hA ((e.nm 285).int 0).toNat (by omega)
   have hIk:=hD (.v 285 0) (show((e.nm 285).int 0).toNat < c.N by omega)
   rw [hIk]at hl;obtain⟨t,ht⟩:=Qok (I:=c.I) (show((e.nm 285).int 0).toNat < c.N by omega)
   have lk:=(B.look (hc.wf ((e.nm 285).int 0).toNat).1.1).2 t ht;rw [←a1,hEq]at lk;have self:QG c.I (c.I ((e.nm 285).int 0).toNat).addr c.N=some ((e.nm 285).int 0).toNat:=by rw [ht];congr 1;omega
   exact⟨B,QkK H hlt self u1 hl rfl⟩
  ·obtain⟨i1,i2,i3,hc1,i4,i5,hc2,hc3,hc4,e1,e2,e3,e4,e5,B,H,hb,hm,hr0,hle,hm0,hl0,hkN,hk0,hc5,hN⟩:=hcd;have t0:=H.tgt0 hc hm;have lk:=B.look t0;rw [lk.1]at hb;obtain⟨t,ht⟩:=Option.isSome_iff_exists.1 hb;have lk2:=lk.2 t ht;rw [lk2,Int.toNat_natCast]at i1 i2 i4 hc2;have il:=H.ilen (JM ht).1;rw [←Nat.mul_one ((e.nm 399).int t).toNat]at i4;have tl:=KY (c.I ((e.nm 285).int 0).toNat);have ln:=H.len
   have pN:=B.p.N;have sN:IntKind.i64.wrap ((e.nm 397).int 0+1)=(e.nm 397).int 0+1:=Q7 hm0 (by omega)
   exact⟨B,Qoy H hm ht sN e1 (Q7 H.elen.1 hle) e2 e3 e4 e5 (by simp only [li,dr1,dv1,Nat.mul_one,Nat.add_zero];exact lk2) (by simp only [lb,QtD,dv1,di1];exact Qq7 hm0) i1 (Q7 il.1 (by omega)) i2 i4 rfl⟩
  ·obtain⟨hb,hr0,hm0,hl0,hm,B,H⟩:=hcd;have t0:=H.tgt0 hc hm;have lk:=B.look t0;rw [lk.1]at hb
   have hf:QG c.I ((e.nm 386).int ((e.nm 397).int 0).toNat) c.N=none:=by
    cases hq:QG c.I ((e.nm 386).int ((e.nm 397).int 0).toNat) c.N with
    |none=>rfl
    |some t=>rw [hq]at hb;cases hb
   have tl:=KY (c.I ((e.nm 285).int 0).toNat);have ln:=H.len;have sN:IntKind.i64.wrap ((e.nm 397).int 0+1)=(e.nm 397).int 0+1:=Q7 hm0 (by omega)
   exact⟨B,Qoz H hm hf sN⟩
  ·obtain⟨hne,u1,u2,B,H,ha,hlt,hk0,hN⟩:=hcd;obtain⟨a1,a2⟩:=hA ((e.nm 285).int 0).toNat (by omega)
   have pN:=B.p.N;have sN:IntKind.i64.wrap ((e.nm 285).int 0+1)=(e.nm 285).int 0+1:=Q7 hk0 (by omega)
   have self:QG c.I (c.I ((e.nm 285).int 0).toNat).addr c.N≠some ((e.nm 285).int 0).toNat:=fun hq=>by
    have lk:=(B.look (hc.wf ((e.nm 285).int 0).toNat).1.1).2 _ hq;rw [←a1]at lk;exact hne (by rw [lk];omega)
   exact⟨B,Qox H hlt self u1 sN⟩
  ·obtain⟨hm,B,H⟩:=hcd;have pN:=B.p.N;have kN:=H.kN;have sN:IntKind.i64.wrap ((e.nm 285).int 0+1)=(e.nm 285).int 0+1:=Q7 H.k0 (by omega)
   exact⟨B,Qow H hm sN⟩
  ·obtain⟨hN,hlt,B,H⟩:=hcd;exact⟨B,QkL H hlt rfl⟩
  ·obtain⟨u1,u2,f1,f2,g1,g2,B,H,hp,hne,h11,hlt,hk0,hop,hc1,hc2,hN⟩:=hcd;have hkN:((e.nm 317).int 0).toNat < c.N:=by omega
   obtain⟨g,q1,q2,q3⟩:=QcP H.it hkN h11;have pN:=B.p.N;have sN:IntKind.i64.wrap ((e.nm 317).int 0+1)=(e.nm 317).int 0+1:=Q7 hk0 (by omega)
   have hx:QZ e (LX.n IntKind.i64 (SX.r2 288 (SX.v 317 0) 1 0 (SX.i 0)))=(g:Int):=q3;have bf:=B.first hc;rw [bf.1,Int.toNat_natCast,(hA c.f bf.2).1,(hA _ hkN).1]at hne;have hop':(c.I ((e.nm 317).int 0).toNat).op=20:=by rw [←hI _ hkN];exact hop
   have hv:=hD (.v 317 0) hkN;have hw:=hD (.r2 288 (.v 317 0) 1 0 (.i 0)) (show((e.nm 288).i2 ((e.nm 317).int 0).toNat 0).toNat < c.N by rw [q3];omega)
   rw [hv]at g2;rw [hw]at f2
   have hq:((SX.r2 288 (SX.v 317 0) 1 0 (SX.i 0)).den e).1.toNat=g:=by
    show((e.nm 288).i2 ((e.nm 317).int 0).toNat 0).toNat=g;rw [q3];omega
   rw [hq]at f2;refine⟨B,QqH H hlt sN u1 ?_⟩;rw [hx,Qtc q1,if_pos];refine⟨hop',?_,hne,?_⟩
   ·have:=congrFun g2 0;rw [hc2]at this;exact this.symm
   ·have:=congrFun f2 0;rw [hc1]at this;exact this.symm
  ·obtain⟨hn,f1,f2,g1,g2,B,H,hlt,hk0,hN⟩:=hcd;have hkN:((e.nm 317).int 0).toNat < c.N:=by omega
   have pN:=B.p.N;have sN:IntKind.i64.wrap ((e.nm 317).int 0+1)=(e.nm 317).int 0+1:=Q7 hk0 (by omega)
   refine⟨B,Qo0 H hlt sN ?_⟩;by_cases h11:(e.nm 288).int ((e.nm 317).int 0).toNat=1
   ·obtain⟨g,q1,q2,q3⟩:=QcP H.it hkN h11;have bf:=B.first hc;have hv:=hD (.v 317 0) hkN;have hw:=hD (.r2 288 (.v 317 0) 1 0 (.i 0)) (show((e.nm 288).i2 ((e.nm 317).int 0).toNat 0).toNat < c.N by rw [q3];omega)
    rw [hv]at g2;rw [hw]at f2
    have hq:((SX.r2 288 (SX.v 317 0) 1 0 (SX.i 0)).den e).1.toNat=g:=by
     show((e.nm 288).i2 ((e.nm 317).int 0).toNat 0).toNat=g;rw [q3];omega
    rw [hq]at f2;rw [Qtc q1,if_neg];rintro⟨k1,k2,k3,k4⟩;refine hn ⟨?_,?_,?_,h11,?_⟩
    ·have:(c.I ((e.nm 317).int 0).toNat).op=int (((e.nm 317).int 0).toNat * 9+2):=by rw [←hI _ hkN];rfl
     rw [←this];exact k1
    ·exact(congrFun g2 0).trans k2
    ·rw [bf.1,Int.toNat_natCast,(hA c.f bf.2).1,(hA _ hkN).1];exact k3
    ·exact(congrFun f2 0).trans k4
   ·exact Quc H.it hkN h11
  ·obtain⟨m1,m2,q1,q2,b1,b2,f1,f2,B,H,q3,q4,hk,q5⟩:=hcd;have bf:=B.first hc;rw [bf.1,Int.toNat_natCast]at m2 b1 b2;exact⟨B,QkM (e:=e) (e':=e) hc B H hk rfl b1 b2 (fun r _=>QW e 343 f1 f2 r) m2⟩
  ·obtain⟨B,H⟩:=hcd;show(((e.nm 3).int 0).toNat:Int) < 2 ^ 63;rw [h3];show((c.N:Int).toNat:Int) < 2 ^ 63;have:=B.p.N;omega
  ·obtain⟨v1,v2,m1,m2,q1,q2,hR,hi,x1,x2,B,H⟩:=hcd
   have hk:(e.nm 407).int 0=XQ (e.nm 390).bool c.N true:=by
    have hq:(e.nm 407).int=fun _=>XQ (e.nm 390).bool ((e.nm 3).int 0).toNat true:=x1
    rw [h3]at hq;exact congrFun hq 0
   have hkN:((e.nm 407).int 0).toNat < c.N:=by omega
   have hb:0≤(e.nm 389).int ((e.nm 407).int 0).toNat∧(e.nm 389).int ((e.nm 407).int 0).toNat≤(e.nm 387).int 0:=by
    obtain⟨s,hs,hv, -⟩:=H.st;rw [hs.v _ hkN];exact hv _
   have hR1:=hc.R1
   have hx:QZ e (LX.n IntKind.i64 (SX.o BinOp.add IntKind.i64 (SX.r 389 1 0 (SX.v 407 0)) (SX.i 1)))=(e.nm 389).int ((e.nm 407).int 0).toNat+1:=by
    simp only [li,do1,dr1,dv1,di1,Nat.mul_one,Nat.add_zero];rw [IntKind.wrap_i64];omega
   have hR':(e.nm 387).int 0 < c.R:=by omega
   exact⟨B,Qfc H hR' hk hi rfl v1 hx m2⟩
  rotate_left 18
  ·obtain⟨m1,m2,b1,b2,B,⟨s,p,H⟩,hne,q1,q2,q3,q4,q5⟩:=hcd;obtain⟨g1,g2,g3,g4⟩:=H.mid.edge' H.pe;rw [g3,Int.toNat_natCast]at m2 b1 b2;have ml:=H.mid.mL;have el:(c.E ((e.nm 407).int 0).toNat).length≤2:=Ys;have sN:IntKind.i64.wrap ((e.nm 551).int 0+1)=(e.nm 551).int 0+1:=Q7 H.mid.m0 (by omega)
   refine⟨B,QnQ (e:=e) hc H sN b1 b2 (fun r _=>rfl) m2 ?_⟩
   intro hall;have key:p.1=((e.nm 286).i2 ((e.nm 407).int 0).toNat (((e.nm 551).int 0).toNat * 2)).toNat:=by rw [g3];omega
   rw [key]at hall
   refine hne ⟨congrArg Qd.e (hall 0 (by omega)),congrArg Qd.t (hall 0 (by omega)),congrArg Qd.lo (hall 0 (by omega)),congrArg Qd.hi (hall 0 (by omega)),congrArg Qd.st (hall 0 (by omega)),congrArg Qd.e (hall 1 (by omega)),congrArg Qd.t (hall 1 (by omega)),congrArg Qd.lo (hall 1 (by omega)),congrArg Qd.hi (hall 1 (by omega)),congrArg Qd.st (hall 1 (by omega)),congrArg Qd.e (hall 2 (by omega)),congrArg Qd.t (hall 2 (by omega)),congrArg Qd.lo (hall 2 (by omega)),congrArg Qd.hi (hall 2 (by omega)),congrArg Qd.st (hall 2 (by omega)),congrArg Qd.e (hall 3 (by omega)),congrArg Qd.t (hall 3 (by omega)),congrArg Qd.lo (hall 3 (by omega)),congrArg Qd.hi (hall 3 (by omega)),congrArg Qd.st (hall 3 (by omega)),congrArg Qd.e (hall 4 (by omega)),congrArg Qd.t (hall 4 (by omega)),congrArg Qd.lo (hall 4 (by omega)),congrArg Qd.hi (hall 4 (by omega)),congrArg Qd.st (hall 4 (by omega)),congrArg Qd.e (hall 5 (by omega)),congrArg Qd.t (hall 5 (by omega)),congrArg Qd.lo (hall 5 (by omega)),congrArg Qd.hi (hall 5 (by omega)),congrArg Qd.st (hall 5 (by omega)),congrArg Qd.e (hall 6 (by omega)),congrArg Qd.t (hall 6 (by omega)),congrArg Qd.lo (hall 6 (by omega)),congrArg Qd.hi (hall 6 (by omega)),congrArg Qd.st (hall 6 (by omega)),congrArg Qd.e (hall 7 (by omega)),congrArg Qd.t (hall 7 (by omega)),congrArg Qd.lo (hall 7 (by omega)),congrArg Qd.hi (hall 7 (by omega)),congrArg Qd.st (hall 7 (by omega))⟩
  ·obtain⟨a0,a1,a2,a3,a4,a5,a6,a7,a8,a9,a10,a11,a12,a13,a14,a15,a16,a17,a18,a19,a20,a21,a22,a23,a24,a25,a26,a27,a28,a29,a30,a31,a32,a33,a34,a35,a36,a37,a38,a39,B,s,p,H⟩:=hcd;obtain⟨g1,g2,g3,g4⟩:=H.mid.edge' H.pe;have key:p.1=((e.nm 286).i2 ((e.nm 407).int 0).toNat (((e.nm 551).int 0).toNat * 2)).toNat:=by rw [g3];omega
   have ml:=H.mid.mL;have el:(c.E ((e.nm 407).int 0).toNat).length≤2:=Ys;have sN:IntKind.i64.wrap ((e.nm 551).int 0+1)=(e.nm 551).int 0+1:=Q7 H.mid.m0 (by omega)
   refine⟨B,QhV hc H sN ?_⟩;rw [key]
   exact fun r hr=>match r,hr with
    |0,_=>mk5 a0 a1 a2 a3 a4
    |1,_=>mk5 a5 a6 a7 a8 a9
    |2,_=>mk5 a10 a11 a12 a13 a14
    |3,_=>mk5 a15 a16 a17 a18 a19
    |4,_=>mk5 a20 a21 a22 a23 a24
    |5,_=>mk5 a25 a26 a27 a28 a29
    |6,_=>mk5 a30 a31 a32 a33 a34
    |7,_=>mk5 a35 a36 a37 a38 a39
  ·obtain⟨hm,B,s,H⟩:=hcd;have nR:=H.nR;have n0:=H.n0;have hR1:=hc.R1;have sN:IntKind.i64.wrap ((e.nm 387).int 0+1)=(e.nm 387).int 0+1:=by rw [IntKind.wrap_i64];omega
   exact⟨B,QeU H hm sN⟩
  ·have hM:∃s,Mid c (e.nm 286) (e.nm 318) (e.nm 387) (e.nm 407) (e.nm 551) (e.nm 552) (e.nm 511) (e.nm 553) s:=by(have hpq:=hcd;(repeat (first|exact hpq|exact hpq.1|replace hpq:=hpq.2));done)
   obtain⟨s,H⟩:=hM;have hm:(e.nm 551).int 0 < (e.nm 286).int ((e.nm 407).int 0).toNat:=by(have hpq:=hcd;(repeat (first|exact hpq|exact hpq.1|replace hpq:=hpq.2));done)
   have hkN:((e.nm 407).int 0).toNat < c.N:=by have:=H.kN;have:=H.k0;omega
   obtain⟨p,hp,pN,g3,g4⟩:=H.edge hm;have rk:=hS H.st (.v 407 0) hkN
   have qt:((SX.r2 286 (SX.v 407 0) 2 0 (SX.v 551 0)).den e).1.toNat=p.1:=by
    show((e.nm 286).i2 ((e.nm 407).int 0).toNat (((e.nm 551).int 0).toNat * 2+0)).toNat=p.1;rw [Nat.add_zero,g3];omega
   have rt:=hS H.st (.r2 286 (.v 407 0) 2 0 (.v 551 0)) (by rw [qt];exact pN)
   rw [qt]at rt;have wk:∀r,(s.b ((e.nm 407).int 0).toNat r).wf:=fun r=>(H.st.ok _ r).1
   have wt:∀r,(s.b p.1 r).wf:=fun r=>(H.st.ok _ r).1
   have ik:=hD (.v 407 0) hkN;have hg1:(e.nm 318).int ((e.nm 407).int 0).toNat < c.N:=by(have hpq:=hcd;(repeat (first|exact hpq|exact hpq.1|replace hpq:=hpq.2));done)
   have hg0:0≤(e.nm 318).int ((e.nm 407).int 0).toNat:=by(have hpq:=hcd;(repeat (first|exact hpq|exact hpq.1|replace hpq:=hpq.2));done)
   have ig:=hD (.r 318 1 0 (.v 407 0)) (by simp only [dr1,dv1,Nat.mul_one,Nat.add_zero];omega)
   have cce:int (((e.nm 407).int 0).toNat * 9+5)=(c.I ((e.nm 407).int 0).toNat).cc:=by rw [←hI _ hkN];rfl
   show KT ((e.nm 0).int (((e.nm 407).int 0).toNat * 9+5))∧Ins.wf (QL _)∧∀k,Qd.wf (stD _ k);rw [ig,rk,h0];exact⟨by show KT (int _);rw [cce];exact(hc.wf _).2.2.2.2.2.1,hc.wf _,wk⟩
  ·have hM:∃s,Mid c (e.nm 286) (e.nm 318) (e.nm 387) (e.nm 407) (e.nm 551) (e.nm 552) (e.nm 511) (e.nm 553) s:=by(have hpq:=hcd;(repeat (first|exact hpq|exact hpq.1|replace hpq:=hpq.2));done)
   obtain⟨s,H⟩:=hM;have hm:(e.nm 551).int 0 < (e.nm 286).int ((e.nm 407).int 0).toNat:=by(have hpq:=hcd;(repeat (first|exact hpq|exact hpq.1|replace hpq:=hpq.2));done)
   have hkN:((e.nm 407).int 0).toNat < c.N:=by have:=H.kN;have:=H.k0;omega
   obtain⟨p,hp,pN,g3,g4⟩:=H.edge hm;have rk:=hS H.st (.v 407 0) hkN
   have qt:((SX.r2 286 (SX.v 407 0) 2 0 (SX.v 551 0)).den e).1.toNat=p.1:=by
    show((e.nm 286).i2 ((e.nm 407).int 0).toNat (((e.nm 551).int 0).toNat * 2+0)).toNat=p.1;rw [Nat.add_zero,g3];omega
   have rt:=hS H.st (.r2 286 (.v 407 0) 2 0 (.v 551 0)) (by rw [qt];exact pN)
   rw [qt]at rt;have wk:∀r,(s.b ((e.nm 407).int 0).toNat r).wf:=fun r=>(H.st.ok _ r).1
   have wt:∀r,(s.b p.1 r).wf:=fun r=>(H.st.ok _ r).1
   have ik:=hD (.v 407 0) hkN;show Ins.wf (QL _)∧∀k,Qd.wf (stD _ k);rw [ik,rk];exact⟨hc.wf _,wk⟩
  ·have hM:∃s,Mid c (e.nm 286) (e.nm 318) (e.nm 387) (e.nm 407) (e.nm 551) (e.nm 552) (e.nm 511) (e.nm 553) s:=by(have hpq:=hcd;(repeat (first|exact hpq|exact hpq.1|replace hpq:=hpq.2));done)
   obtain⟨s,H⟩:=hM;have hm:(e.nm 551).int 0 < (e.nm 286).int ((e.nm 407).int 0).toNat:=by(have hpq:=hcd;(repeat (first|exact hpq|exact hpq.1|replace hpq:=hpq.2));done)
   have hkN:((e.nm 407).int 0).toNat < c.N:=by have:=H.kN;have:=H.k0;omega
   obtain⟨p,hp,pN,g3,g4⟩:=H.edge hm;have rk:=hS H.st (.v 407 0) hkN
   have qt:((SX.r2 286 (SX.v 407 0) 2 0 (SX.v 551 0)).den e).1.toNat=p.1:=by
    show((e.nm 286).i2 ((e.nm 407).int 0).toNat (((e.nm 551).int 0).toNat * 2+0)).toNat=p.1;rw [Nat.add_zero,g3];omega
   have rt:=hS H.st (.r2 286 (.v 407 0) 2 0 (.v 551 0)) (by rw [qt];exact pN)
   rw [qt]at rt;have wk:∀r,(s.b ((e.nm 407).int 0).toNat r).wf:=fun r=>(H.st.ok _ r).1
   have wt:∀r,(s.b p.1 r).wf:=fun r=>(H.st.ok _ r).1
   have ik:=hD (.v 407 0) hkN;show(∀k,Qd.wf (stD _ k))∧∀k,Qd.wf (stD _ k);rw [rt,YZ hcd.1 hcd.2.1];exact⟨wt,QaH fun _=>Z5⟩
  ·have hM:∃s,Mid c (e.nm 286) (e.nm 318) (e.nm 387) (e.nm 407) (e.nm 551) (e.nm 552) (e.nm 511) (e.nm 553) s:=by(have hpq:=hcd;(repeat (first|exact hpq|exact hpq.1|replace hpq:=hpq.2));done)
   obtain⟨s,H⟩:=hM;have hm:(e.nm 551).int 0 < (e.nm 286).int ((e.nm 407).int 0).toNat:=by(have hpq:=hcd;(repeat (first|exact hpq|exact hpq.1|replace hpq:=hpq.2));done)
   have hkN:((e.nm 407).int 0).toNat < c.N:=by have:=H.kN;have:=H.k0;omega
   obtain⟨p,hp,pN,g3,g4⟩:=H.edge hm;have rk:=hS H.st (.v 407 0) hkN
   have qt:((SX.r2 286 (SX.v 407 0) 2 0 (SX.v 551 0)).den e).1.toNat=p.1:=by
    show((e.nm 286).i2 ((e.nm 407).int 0).toNat (((e.nm 551).int 0).toNat * 2+0)).toNat=p.1;rw [Nat.add_zero,g3];omega
   have rt:=hS H.st (.r2 286 (.v 407 0) 2 0 (.v 551 0)) (by rw [qt];exact pN)
   rw [qt]at rt;have wk:∀r,(s.b ((e.nm 407).int 0).toNat r).wf:=fun r=>(H.st.ok _ r).1
   have wt:∀r,(s.b p.1 r).wf:=fun r=>(H.st.ok _ r).1
   have ik:=hD (.v 407 0) hkN;have hg1:(e.nm 318).int ((e.nm 407).int 0).toNat < c.N:=by(have hpq:=hcd;(repeat (first|exact hpq|exact hpq.1|replace hpq:=hpq.2));done)
   have hg0:0≤(e.nm 318).int ((e.nm 407).int 0).toNat:=by(have hpq:=hcd;(repeat (first|exact hpq|exact hpq.1|replace hpq:=hpq.2));done)
   have ig:=hD (.r 318 1 0 (.v 407 0)) (by simp only [dr1,dv1,Nat.mul_one,Nat.add_zero];omega)
   show(∀k,Qd.wf (stD _ k))∧∀k,Qd.wf (stD _ k);rw [rt,YZ hcd.1 hcd.2.1];exact⟨wt,QaH (Qdm (by rw [ig];exact hc.wf _) (by rw [rk];exact wk))⟩
  ·have hM:∃s,Mid c (e.nm 286) (e.nm 318) (e.nm 387) (e.nm 407) (e.nm 551) (e.nm 552) (e.nm 511) (e.nm 553) s:=by(have hpq:=hcd;(repeat (first|exact hpq|exact hpq.1|replace hpq:=hpq.2));done)
   obtain⟨s,H⟩:=hM;have hm:(e.nm 551).int 0 < (e.nm 286).int ((e.nm 407).int 0).toNat:=by(have hpq:=hcd;(repeat (first|exact hpq|exact hpq.1|replace hpq:=hpq.2));done)
   have hkN:((e.nm 407).int 0).toNat < c.N:=by have:=H.kN;have:=H.k0;omega
   obtain⟨p,hp,pN,g3,g4⟩:=H.edge hm;have rk:=hS H.st (.v 407 0) hkN
   have qt:((SX.r2 286 (SX.v 407 0) 2 0 (SX.v 551 0)).den e).1.toNat=p.1:=by
    show((e.nm 286).i2 ((e.nm 407).int 0).toNat (((e.nm 551).int 0).toNat * 2+0)).toNat=p.1;rw [Nat.add_zero,g3];omega
   have rt:=hS H.st (.r2 286 (.v 407 0) 2 0 (.v 551 0)) (by rw [qt];exact pN)
   rw [qt]at rt;have wk:∀r,(s.b ((e.nm 407).int 0).toNat r).wf:=fun r=>(H.st.ok _ r).1
   have wt:∀r,(s.b p.1 r).wf:=fun r=>(H.st.ok _ r).1
   have ik:=hD (.v 407 0) hkN;show(∀k,Qd.wf (stD _ k))∧∀k,Qd.wf (stD _ k);rw [rt,YZ hcd.1 hcd.2.1];exact⟨wt,QaH (Qba (by rw [ik];exact hc.wf _) (by rw [rk];exact wk))⟩
  ·have hM:∃s,Mid c (e.nm 286) (e.nm 318) (e.nm 387) (e.nm 407) (e.nm 551) (e.nm 552) (e.nm 511) (e.nm 553) s:=by(have hpq:=hcd;(repeat (first|exact hpq|exact hpq.1|replace hpq:=hpq.2));done)
   obtain⟨s,H⟩:=hM;have hm:(e.nm 551).int 0 < (e.nm 286).int ((e.nm 407).int 0).toNat:=by(have hpq:=hcd;(repeat (first|exact hpq|exact hpq.1|replace hpq:=hpq.2));done)
   have hkN:((e.nm 407).int 0).toNat < c.N:=by have:=H.kN;have:=H.k0;omega
   obtain⟨p,hp,pN,g3,g4⟩:=H.edge hm;have rk:=hS H.st (.v 407 0) hkN
   have qt:((SX.r2 286 (SX.v 407 0) 2 0 (SX.v 551 0)).den e).1.toNat=p.1:=by
    show((e.nm 286).i2 ((e.nm 407).int 0).toNat (((e.nm 551).int 0).toNat * 2+0)).toNat=p.1;rw [Nat.add_zero,g3];omega
   have rt:=hS H.st (.r2 286 (.v 407 0) 2 0 (.v 551 0)) (by rw [qt];exact pN)
   rw [qt]at rt;have wk:∀r,(s.b ((e.nm 407).int 0).toNat r).wf:=fun r=>(H.st.ok _ r).1
   have wt:∀r,(s.b p.1 r).wf:=fun r=>(H.st.ok _ r).1
   have ik:=hD (.v 407 0) hkN;have hB:Qcv c (e.nm 42) (e.nm 54) (e.nm 82) (e.nm 83) (e.nm 84):=by(have hpq:=hcd;(repeat (first|exact hpq|exact hpq.1|replace hpq:=hpq.2));done)
   have ope:int (((e.nm 407).int 0).toNat * 9+2)=(c.I ((e.nm 407).int 0).toNat).op:=by rw [←hI _ hkN];rfl
   rw [ope]at hcd;have gk:=H.eg.gd _ hkN;have hn:¬(¬(c.I ((e.nm 407).int 0).toNat).op=23∧¬(c.I ((e.nm 407).int 0).toNat).op=24):=by(have hpq:=hcd;(repeat (first|exact hpq|exact hpq.1|replace hpq:=hpq.2));done)
   have j1:=hcd.2.2.1;have j2:=hcd.2.2.2.1;rw [rt,YZ hcd.1 hcd.2.1]at j1 j2
   have hA':XM c.I (c.G ((e.nm 407).int 0).toNat) ((e.nm 407).int 0).toNat (s.b ((e.nm 407).int 0).toNat) p.2=fun _=>Qp:=by
    unfold XM;rw [if_pos (by omega)]
   exact⟨hB,s,p,H,hp,fun r hr=>(WU (e:=e) (d:=634) (by rw [Jz];rfl) (by rw [Jz];rfl) r hr).trans (QnR j1 j2 hA' r hr)⟩
  ·have hM:∃s,Mid c (e.nm 286) (e.nm 318) (e.nm 387) (e.nm 407) (e.nm 551) (e.nm 552) (e.nm 511) (e.nm 553) s:=by(have hpq:=hcd;(repeat (first|exact hpq|exact hpq.1|replace hpq:=hpq.2));done)
   obtain⟨s,H⟩:=hM;have hm:(e.nm 551).int 0 < (e.nm 286).int ((e.nm 407).int 0).toNat:=by(have hpq:=hcd;(repeat (first|exact hpq|exact hpq.1|replace hpq:=hpq.2));done)
   have hkN:((e.nm 407).int 0).toNat < c.N:=by have:=H.kN;have:=H.k0;omega
   obtain⟨p,hp,pN,g3,g4⟩:=H.edge hm;have rk:=hS H.st (.v 407 0) hkN
   have qt:((SX.r2 286 (SX.v 407 0) 2 0 (SX.v 551 0)).den e).1.toNat=p.1:=by
    show((e.nm 286).i2 ((e.nm 407).int 0).toNat (((e.nm 551).int 0).toNat * 2+0)).toNat=p.1;rw [Nat.add_zero,g3];omega
   have rt:=hS H.st (.r2 286 (.v 407 0) 2 0 (.v 551 0)) (by rw [qt];exact pN)
   rw [qt]at rt;have wk:∀r,(s.b ((e.nm 407).int 0).toNat r).wf:=fun r=>(H.st.ok _ r).1
   have wt:∀r,(s.b p.1 r).wf:=fun r=>(H.st.ok _ r).1
   have ik:=hD (.v 407 0) hkN;have hg1:(e.nm 318).int ((e.nm 407).int 0).toNat < c.N:=by(have hpq:=hcd;(repeat (first|exact hpq|exact hpq.1|replace hpq:=hpq.2));done)
   have hg0:0≤(e.nm 318).int ((e.nm 407).int 0).toNat:=by(have hpq:=hcd;(repeat (first|exact hpq|exact hpq.1|replace hpq:=hpq.2));done)
   have ig:=hD (.r 318 1 0 (.v 407 0)) (by simp only [dr1,dv1,Nat.mul_one,Nat.add_zero];omega)
   have cce:int (((e.nm 407).int 0).toNat * 9+5)=(c.I ((e.nm 407).int 0).toNat).cc:=by rw [←hI _ hkN];rfl
   have e1:Q3 (PX.dat e 0 (.l (.n .i64 (.r 0 9 5 (.v 407 0)))))=(c.I ((e.nm 407).int 0).toNat).cc:=by
    show(e.nm 0).int _=_;rw [h0];exact cce
   have hT:WD (PX.dat e 0 (.l (.t (.r2 286 (.v 407 0) 2 1 (.v 551 0)))))=p.2:=g4;have hB:Qcv c (e.nm 42) (e.nm 54) (e.nm 82) (e.nm 83) (e.nm 84):=by(have hpq:=hcd;(repeat (first|exact hpq|exact hpq.1|replace hpq:=hpq.2));done)
   have ope:int (((e.nm 407).int 0).toNat * 9+2)=(c.I ((e.nm 407).int 0).toNat).op:=by rw [←hI _ hkN];rfl
   have c1:=hcd.1;have c2:=hcd.2.1;have j1:=hcd.2.2.1;have j2:=hcd.2.2.2.1;rw [rt,YZ c1 c2]at j1 j2;have gk:=H.eg.gd _ hkN;rw [e1,ig,rk,hT]at j1 j2;have q4:¬int (((e.nm 407).int 0).toNat * 9+2)=24:=by(have hpq:=hcd;(repeat (first|exact hpq|exact hpq.1|replace hpq:=hpq.2));done)
   have q3:¬int (((e.nm 407).int 0).toNat * 9+2)=23:=by(have hpq:=hcd;(repeat (first|exact hpq|exact hpq.1|replace hpq:=hpq.2));done)
   have q0:int (((e.nm 407).int 0).toNat * 9+2)=20:=by(have hpq:=hcd;(repeat (first|exact hpq|exact hpq.1|replace hpq:=hpq.2));done)
   rw [ope]at q4 q3 q0
   have hA':XM c.I (c.G ((e.nm 407).int 0).toNat) ((e.nm 407).int 0).toNat (s.b ((e.nm 407).int 0).toNat) p.2=ZE (c.I ((e.nm 407).int 0).toNat).cc (c.I ((SX.r 318 1 0 (SX.v 407 0)).den e).1.toNat) (s.b ((e.nm 407).int 0).toNat) p.2:=by
    unfold XM;rw [if_neg (by omega),←gk,if_pos ⟨q0,hg0⟩]
    simp only [dr1,dv1,Nat.mul_one,Nat.add_zero]
   exact⟨hB,s,p,H,hp,fun r hr=>(WU (e:=e) (d:=634) (by rw [Jz];rfl) (by rw [Jz];rfl) r hr).trans (QnR j1 j2 hA' r hr)⟩
  ·have hM:∃s,Mid c (e.nm 286) (e.nm 318) (e.nm 387) (e.nm 407) (e.nm 551) (e.nm 552) (e.nm 511) (e.nm 553) s:=by(have hpq:=hcd;(repeat (first|exact hpq|exact hpq.1|replace hpq:=hpq.2));done)
   obtain⟨s,H⟩:=hM;have hm:(e.nm 551).int 0 < (e.nm 286).int ((e.nm 407).int 0).toNat:=by(have hpq:=hcd;(repeat (first|exact hpq|exact hpq.1|replace hpq:=hpq.2));done)
   have hkN:((e.nm 407).int 0).toNat < c.N:=by have:=H.kN;have:=H.k0;omega
   obtain⟨p,hp,pN,g3,g4⟩:=H.edge hm;have rk:=hS H.st (.v 407 0) hkN
   have qt:((SX.r2 286 (SX.v 407 0) 2 0 (SX.v 551 0)).den e).1.toNat=p.1:=by
    show((e.nm 286).i2 ((e.nm 407).int 0).toNat (((e.nm 551).int 0).toNat * 2+0)).toNat=p.1;rw [Nat.add_zero,g3];omega
   have rt:=hS H.st (.r2 286 (.v 407 0) 2 0 (.v 551 0)) (by rw [qt];exact pN)
   rw [qt]at rt;have wk:∀r,(s.b ((e.nm 407).int 0).toNat r).wf:=fun r=>(H.st.ok _ r).1
   have wt:∀r,(s.b p.1 r).wf:=fun r=>(H.st.ok _ r).1
   have ik:=hD (.v 407 0) hkN;have hB:Qcv c (e.nm 42) (e.nm 54) (e.nm 82) (e.nm 83) (e.nm 84):=by(have hpq:=hcd;(repeat (first|exact hpq|exact hpq.1|replace hpq:=hpq.2));done)
   have ope:int (((e.nm 407).int 0).toNat * 9+2)=(c.I ((e.nm 407).int 0).toNat).op:=by rw [←hI _ hkN];rfl
   have c1:=hcd.1;have c2:=hcd.2.1;have j1:=hcd.2.2.1;have j2:=hcd.2.2.2.1;rw [rt,YZ c1 c2]at j1 j2;have gk:=H.eg.gd _ hkN;have hn:¬(int (((e.nm 407).int 0).toNat * 9+2)=20∧0≤(e.nm 318).int ((e.nm 407).int 0).toNat):=by(have hpq:=hcd;(repeat (first|exact hpq|exact hpq.1|replace hpq:=hpq.2));done)
   have q4:¬int (((e.nm 407).int 0).toNat * 9+2)=24:=by(have hpq:=hcd;(repeat (first|exact hpq|exact hpq.1|replace hpq:=hpq.2));done)
   have q3:¬int (((e.nm 407).int 0).toNat * 9+2)=23:=by(have hpq:=hcd;(repeat (first|exact hpq|exact hpq.1|replace hpq:=hpq.2));done)
   rw [ope]at q4 q3 hn;rw [ik,rk]at j1 j2
   have hA':XM c.I (c.G ((e.nm 407).int 0).toNat) ((e.nm 407).int 0).toNat (s.b ((e.nm 407).int 0).toNat) p.2=Qu (c.I ((SX.v 407 0).den e).1.toNat) (s.b ((SX.v 407 0).den e).1.toNat):=by
    unfold XM;rw [if_neg (by omega),←gk,if_neg hn]
    rfl
   exact⟨hB,s,p,H,hp,fun r hr=>(WU (e:=e) (d:=634) (by rw [Jz];rfl) (by rw [Jz];rfl) r hr).trans (QnR j1 j2 hA' r hr)⟩
  ·have h6:∃s p,Qcx c (e.nm 286) (e.nm 318) (e.nm 387) (e.nm 407) (e.nm 551) (e.nm 552) (e.nm 511) (e.nm 553) (e.nm 898) s p:=by(have hpq:=hcd;(repeat (first|exact hpq|exact hpq.1|replace hpq:=hpq.2));done)
   obtain⟨s,p,H⟩:=h6;obtain⟨g1,pN,g3,g4⟩:=H.mid.edge' H.pe
   have qt:((SX.r2 286 (SX.v 407 0) 2 0 (SX.v 551 0)).den e).1.toNat=p.1:=by
    show((e.nm 286).i2 ((e.nm 407).int 0).toNat (((e.nm 551).int 0).toNat * 2+0)).toNat=p.1;rw [Nat.add_zero,g3];omega
   show Qd.wf (K1 (e.nm 552).int (e.nm 552).bool ((SX.r2 286 (SX.v 407 0) 2 0 (SX.v 551 0)).den e).1.toNat 0)∧Qd.wf (WA (e.nm 898) 0);rw [qt,H.mid.st.b _ pN 0 (by omega),H.nx 0 (by omega)]
   exact⟨(H.mid.st.ok _ _).1,(KN hc.wf H.mid.st.ok _).1⟩
  ·have h6:∃s p,Qcx c (e.nm 286) (e.nm 318) (e.nm 387) (e.nm 407) (e.nm 551) (e.nm 552) (e.nm 511) (e.nm 553) (e.nm 898) s p:=by(have hpq:=hcd;(repeat (first|exact hpq|exact hpq.1|replace hpq:=hpq.2));done)
   obtain⟨s,p,H⟩:=h6;obtain⟨g1,pN,g3,g4⟩:=H.mid.edge' H.pe
   have qt:((SX.r2 286 (SX.v 407 0) 2 0 (SX.v 551 0)).den e).1.toNat=p.1:=by
    show((e.nm 286).i2 ((e.nm 407).int 0).toNat (((e.nm 551).int 0).toNat * 2+0)).toNat=p.1;rw [Nat.add_zero,g3];omega
   show Qd.wf (K1 (e.nm 552).int (e.nm 552).bool ((SX.r2 286 (SX.v 407 0) 2 0 (SX.v 551 0)).den e).1.toNat 1)∧Qd.wf (WA (e.nm 898) 1);rw [qt,H.mid.st.b _ pN 1 (by omega),H.nx 1 (by omega)]
   exact⟨(H.mid.st.ok _ _).1,(KN hc.wf H.mid.st.ok _).1⟩
  ·have h6:∃s p,Qcx c (e.nm 286) (e.nm 318) (e.nm 387) (e.nm 407) (e.nm 551) (e.nm 552) (e.nm 511) (e.nm 553) (e.nm 898) s p:=by(have hpq:=hcd;(repeat (first|exact hpq|exact hpq.1|replace hpq:=hpq.2));done)
   obtain⟨s,p,H⟩:=h6;obtain⟨g1,pN,g3,g4⟩:=H.mid.edge' H.pe
   have qt:((SX.r2 286 (SX.v 407 0) 2 0 (SX.v 551 0)).den e).1.toNat=p.1:=by
    show((e.nm 286).i2 ((e.nm 407).int 0).toNat (((e.nm 551).int 0).toNat * 2+0)).toNat=p.1;rw [Nat.add_zero,g3];omega
   show Qd.wf (K1 (e.nm 552).int (e.nm 552).bool ((SX.r2 286 (SX.v 407 0) 2 0 (SX.v 551 0)).den e).1.toNat 2)∧Qd.wf (WA (e.nm 898) 2);rw [qt,H.mid.st.b _ pN 2 (by omega),H.nx 2 (by omega)]
   exact⟨(H.mid.st.ok _ _).1,(KN hc.wf H.mid.st.ok _).1⟩
  ·have h6:∃s p,Qcx c (e.nm 286) (e.nm 318) (e.nm 387) (e.nm 407) (e.nm 551) (e.nm 552) (e.nm 511) (e.nm 553) (e.nm 898) s p:=by(have hpq:=hcd;(repeat (first|exact hpq|exact hpq.1|replace hpq:=hpq.2));done)
   obtain⟨s,p,H⟩:=h6;obtain⟨g1,pN,g3,g4⟩:=H.mid.edge' H.pe
   have qt:((SX.r2 286 (SX.v 407 0) 2 0 (SX.v 551 0)).den e).1.toNat=p.1:=by
    show((e.nm 286).i2 ((e.nm 407).int 0).toNat (((e.nm 551).int 0).toNat * 2+0)).toNat=p.1;rw [Nat.add_zero,g3];omega
   show Qd.wf (K1 (e.nm 552).int (e.nm 552).bool ((SX.r2 286 (SX.v 407 0) 2 0 (SX.v 551 0)).den e).1.toNat 3)∧Qd.wf (WA (e.nm 898) 3);rw [qt,H.mid.st.b _ pN 3 (by omega),H.nx 3 (by omega)]
   exact⟨(H.mid.st.ok _ _).1,(KN hc.wf H.mid.st.ok _).1⟩
  ·have h6:∃s p,Qcx c (e.nm 286) (e.nm 318) (e.nm 387) (e.nm 407) (e.nm 551) (e.nm 552) (e.nm 511) (e.nm 553) (e.nm 898) s p:=by(have hpq:=hcd;(repeat (first|exact hpq|exact hpq.1|replace hpq:=hpq.2));done)
   obtain⟨s,p,H⟩:=h6;obtain⟨g1,pN,g3,g4⟩:=H.mid.edge' H.pe
   have qt:((SX.r2 286 (SX.v 407 0) 2 0 (SX.v 551 0)).den e).1.toNat=p.1:=by
    show((e.nm 286).i2 ((e.nm 407).int 0).toNat (((e.nm 551).int 0).toNat * 2+0)).toNat=p.1;rw [Nat.add_zero,g3];omega
   show Qd.wf (K1 (e.nm 552).int (e.nm 552).bool ((SX.r2 286 (SX.v 407 0) 2 0 (SX.v 551 0)).den e).1.toNat 4)∧Qd.wf (WA (e.nm 898) 4);rw [qt,H.mid.st.b _ pN 4 (by omega),H.nx 4 (by omega)]
   exact⟨(H.mid.st.ok _ _).1,(KN hc.wf H.mid.st.ok _).1⟩
  ·have h6:∃s p,Qcx c (e.nm 286) (e.nm 318) (e.nm 387) (e.nm 407) (e.nm 551) (e.nm 552) (e.nm 511) (e.nm 553) (e.nm 898) s p:=by(have hpq:=hcd;(repeat (first|exact hpq|exact hpq.1|replace hpq:=hpq.2));done)
   obtain⟨s,p,H⟩:=h6;obtain⟨g1,pN,g3,g4⟩:=H.mid.edge' H.pe
   have qt:((SX.r2 286 (SX.v 407 0) 2 0 (SX.v 551 0)).den e).1.toNat=p.1:=by
    show((e.nm 286).i2 ((e.nm 407).int 0).toNat (((e.nm 551).int 0).toNat * 2+0)).toNat=p.1;rw [Nat.add_zero,g3];omega
   show Qd.wf (K1 (e.nm 552).int (e.nm 552).bool ((SX.r2 286 (SX.v 407 0) 2 0 (SX.v 551 0)).den e).1.toNat 5)∧Qd.wf (WA (e.nm 898) 5);rw [qt,H.mid.st.b _ pN 5 (by omega),H.nx 5 (by omega)]
   exact⟨(H.mid.st.ok _ _).1,(KN hc.wf H.mid.st.ok _).1⟩
  ·have h6:∃s p,Qcx c (e.nm 286) (e.nm 318) (e.nm 387) (e.nm 407) (e.nm 551) (e.nm 552) (e.nm 511) (e.nm 553) (e.nm 898) s p:=by(have hpq:=hcd;(repeat (first|exact hpq|exact hpq.1|replace hpq:=hpq.2));done)
   obtain⟨s,p,H⟩:=h6;obtain⟨g1,pN,g3,g4⟩:=H.mid.edge' H.pe
   have qt:((SX.r2 286 (SX.v 407 0) 2 0 (SX.v 551 0)).den e).1.toNat=p.1:=by
    show((e.nm 286).i2 ((e.nm 407).int 0).toNat (((e.nm 551).int 0).toNat * 2+0)).toNat=p.1;rw [Nat.add_zero,g3];omega
   show Qd.wf (K1 (e.nm 552).int (e.nm 552).bool ((SX.r2 286 (SX.v 407 0) 2 0 (SX.v 551 0)).den e).1.toNat 6)∧Qd.wf (WA (e.nm 898) 6);rw [qt,H.mid.st.b _ pN 6 (by omega),H.nx 6 (by omega)]
   exact⟨(H.mid.st.ok _ _).1,(KN hc.wf H.mid.st.ok _).1⟩
  ·have h6:∃s p,Qcx c (e.nm 286) (e.nm 318) (e.nm 387) (e.nm 407) (e.nm 551) (e.nm 552) (e.nm 511) (e.nm 553) (e.nm 898) s p:=by(have hpq:=hcd;(repeat (first|exact hpq|exact hpq.1|replace hpq:=hpq.2));done)
   obtain⟨s,p,H⟩:=h6;obtain⟨g1,pN,g3,g4⟩:=H.mid.edge' H.pe
   have qt:((SX.r2 286 (SX.v 407 0) 2 0 (SX.v 551 0)).den e).1.toNat=p.1:=by
    show((e.nm 286).i2 ((e.nm 407).int 0).toNat (((e.nm 551).int 0).toNat * 2+0)).toNat=p.1;rw [Nat.add_zero,g3];omega
   show Qd.wf (K1 (e.nm 552).int (e.nm 552).bool ((SX.r2 286 (SX.v 407 0) 2 0 (SX.v 551 0)).den e).1.toNat 7)∧Qd.wf (WA (e.nm 898) 7);rw [qt,H.mid.st.b _ pN 7 (by omega),H.nx 7 (by omega)]
   exact⟨(H.mid.st.ok _ _).1,(KN hc.wf H.mid.st.ok _).1⟩
  ·obtain⟨w7,v7,w6,v6,w5,v5,w4,v4,w3,v3,w2,v2,w1,v1,w0,v0,B,⟨s,p,H⟩,h4,hq1,hq0,hN⟩:=hcd;obtain⟨g1,pN,g3,g4⟩:=H.mid.edge' H.pe;rw [g3,Int.toNat_natCast,H.mid.st.v _ pN]at h4
   have qt:((SX.r2 286 (SX.v 407 0) 2 0 (SX.v 551 0)).den e).1.toNat=p.1:=by
    show((e.nm 286).i2 ((e.nm 407).int 0).toNat (((e.nm 551).int 0).toNat * 2+0)).toNat=p.1;rw [Nat.add_zero,g3];omega
   have wd:∀r,r < 8→JE s p.1 (Xl c.I c.G ((e.nm 407).int 0).toNat s p) r=XF (s.b p.1 r) (Xl c.I c.G ((e.nm 407).int 0).toNat s p r):=fun r hr=>by
    unfold JE;rw [if_pos h4];unfold ZP;rw [if_pos hr]
   have sx:∀r,r < 8→XF (K1 (e.nm 552).int (e.nm 552).bool ((SX.r2 286 (SX.v 407 0) 2 0 (SX.v 551 0)).den e).1.toNat r) (WA (e.nm 898) r)=XF (s.b p.1 r) (Xl c.I c.G ((e.nm 407).int 0).toNat s p r):=fun r hr=>by
    rw [qt,H.mid.st.b _ pN r hr,H.nx r hr]
   refine⟨B,s,p,H.mid,H.pe,?_⟩;rw [Jz]
   exact fun r hr=>match r,hr with
    |0,_=>((Qk e 987 w0 v0).trans (sx 0 (by omega))).trans (wd 0 (by omega)).symm
    |1,_=>((Qk e 1059 w1 v1).trans (sx 1 (by omega))).trans (wd 1 (by omega)).symm
    |2,_=>((Qk e 1131 w2 v2).trans (sx 2 (by omega))).trans (wd 2 (by omega)).symm
    |3,_=>((Qk e 1203 w3 v3).trans (sx 3 (by omega))).trans (wd 3 (by omega)).symm
    |4,_=>((Qk e 1275 w4 v4).trans (sx 4 (by omega))).trans (wd 4 (by omega)).symm
    |5,_=>((Qk e 1347 w5 v5).trans (sx 5 (by omega))).trans (wd 5 (by omega)).symm
    |6,_=>((Qk e 1419 w6 v6).trans (sx 6 (by omega))).trans (wd 6 (by omega)).symm
    |7,_=>((Qk e 1491 w7 v7).trans (sx 7 (by omega))).trans (wd 7 (by omega)).symm
  ·obtain⟨h4,B,⟨s,p,H⟩,hq1,hq0,hN⟩:=hcd;obtain⟨g1,pN,g3,g4⟩:=H.mid.edge' H.pe;rw [g3,Int.toNat_natCast,H.mid.st.v _ pN]at h4;refine⟨B,s,p,H.mid,H.pe,fun r hr=>?_⟩
   have wd:JE s p.1 (Xl c.I c.G ((e.nm 407).int 0).toNat s p) r=Xl c.I c.G ((e.nm 407).int 0).toNat s p r:=by
    unfold JE;rw [if_neg h4]
   rw [Jz];exact(WU (e:=e) (d:=898) rfl rfl r hr).trans (Eq.trans (show QV e 898 (5 * r)=WA (e.nm 898) r from rfl) ((H.nx r hr).trans wd.symm))
 ·refine⟨?_,?_,?_,?_,trivial⟩
  all_goals
   intro e u w' he hcd hs hb;have h0:e.nm 0=nmR base cap int bool:=he 0 (by decide)
   have h1:e.nm 1=nmN c.en:=he 1 (by decide)
   have h2:e.nm 2=nmN c.R:=he 2 (by decide)
   have h3:e.nm 3=nmN c.N:=he 3 (by decide)
   simp only [QC,Ze,Cd.holds,dv1,dv2,di1,db2,dr1,dr2,dq1,dq2,do1,Xc,Xb,ZY,ZX,Xa,ZZ,ZW,ZV,ZU,ZT,Xe,Xd,Jc,Jb,XY,XX,Ja,XZ,List.map_cons,List.map_nil,Nat.mul_one,Nat.add_zero,List.getElem?_cons_zero,List.getElem?_cons_succ,Option.some.injEq,exists_eq_left',and_true,and_assoc,Env.int,Env.bool,Xp,Nat.reduceLeDiff,Nat.reduceAdd,an0,an1,an2,an3,an4,an5,an6,an7,an8,an9,Qti,Qtj,Qtk,Qtl,Qtm,Qtn,Qto,Qtp,Qtq,Qtr,Jk,anI,bs,h0,h1,h2,h3,nmR,nmN,nmI]at hcd
   rw [show u=_ from hs]
  ·refine⟨nmI fun j=>if j=1 then 6 else 0,Nm.zero,rfl,?_,Nat.le_refl _,.inl ⟨rfl,rfl⟩⟩
   unfold ZH Zz;rw [if_pos (by omega)]
   exact⟨rfl,rfl⟩
  ·obtain⟨hb',he0,hlt,H⟩:=hcd;refine⟨nmI fun j=>if j=1 then 9 else 0,Nm.zero,rfl,?_,Nat.le_refl _,.inl ⟨rfl,rfl⟩⟩
   unfold ZH Zz;have pN:=H.p.N;have kN:=H.kN;have e1:((e.nm 82).int 0).toNat=c.N:=by omega
   have ha:=(H.at' c.en.toNat).1;rw [e1,hb',Int.toNat_of_nonneg hc.en0]at ha;rw [if_neg (by omega)]
   cases hf:QG c.I c.en c.N with
   |none=>exact⟨rfl,rfl⟩
   |some t=>rw [hf]at ha;cases ha
  ·obtain⟨hi,x1,x2,B,H⟩:=hcd
   have hk:(e.nm 407).int 0=XQ (e.nm 390).bool c.N true:=by
    have hq:(e.nm 407).int=fun _=>XQ (e.nm 390).bool ((e.nm 3).int 0).toNat true:=x1
    rw [h3]at hq;exact congrFun hq 0
   rw [hk]at hi;obtain⟨b,hres,hbis⟩:=QhF H hi;refine⟨nmI fun j=>if j=1 then 0 else(e.nm 82).int 1,{e.nm 388 with base:=e.base 84,cap:=e.cap 84},rfl,?_,hb.2.2.2.2.1⟩
   have pN:=B.p.N
   have hA:Zz c.I c.N c.en c.R= .ok b:=by
    unfold Zz;rw [if_neg (by omega),B.fst]
    dsimp only
    rw [show W2 c.I (X4 c.I c.N) (XP c.I c.N c.f) c.N c.R.toNat (Vb c.f)=some b from hres]
   unfold ZH;rw [hA];exact⟨B.len,rfl,hbis⟩
  ·obtain⟨hR,hi,x1,x2,B,H⟩:=hcd
   have hk:(e.nm 407).int 0=XQ (e.nm 390).bool c.N true:=by
    have hq:(e.nm 407).int=fun _=>XQ (e.nm 390).bool ((e.nm 3).int 0).toNat true:=x1
    rw [h3]at hq;exact congrFun hq 0
   rw [hk]at hi;have hres:=QeV H hi hR;refine⟨nmI fun j=>if j=1 then 15 else 0,Nm.zero,rfl,?_,Nat.le_refl _,.inl ⟨rfl,rfl⟩⟩
   have pN:=B.p.N
   have hA:Zz c.I c.N c.en c.R= .error 15:=by
    unfold Zz;rw [if_neg (by omega),B.fst]
    dsimp only
    rw [show W2 c.I (X4 c.I c.N) (XP c.I c.N c.f) c.N c.R.toNat (Vb c.f)=none from hres]
   unfold ZH;rw [hA];exact⟨rfl,rfl⟩
end Go.Proofs.YteplnamfpodmlaaGreat.T2
end
section
namespace Go.Proofs.YteplnamfpodmlaaGreat.T2
def QhD:Ins:=⟨0,0,0,0,0,0,0,0,0⟩
theorem QaM:QhD.wf:=by unfold QhD Ins.wf Zk KT;decide
def Za(int:Nat→Int)(n:Nat):Nat→Ins:=fun k=>if k < n then Q4 int k else QhD
def cxD(d1 d2 d3:AD):Cx:=⟨Za d1.int (Xz d1.val),Xz d1.val,Q3 d2,Q3 d3⟩
def Yy:Kon Tryz.prog where
 sg:=⟨6,[.sl Qc,.l (some .u32),.l (some .i64)],.se stK (some .i64),false,false⟩
 pre ads:=match ads with| [d1,d2,d3]=>(∀k,k < Xz d1.val→(Q4 d1.int k).wf)∧0≤Q3 d2∧Q3 d3≤9223372036854775807|_=>False
 post ads m m':=match ads with| [d1,d2,d3]=>ZH (cxD d1 d2 d3) m m'|_=>True
 body:=⟨_,Tryz.func6,by kernel_rfl,by kernel_rfl⟩
 free h:=by cases h
 flat h:=by cases h
 total h:=by cases h
 same h:=by cases h
 sound ads w hf hp:=by
  obtain⟨d1,_,rfl,f1,hf⟩:=Qg hf;obtain⟨d2,_,rfl,f2,hf⟩:=Qg hf;obtain⟨d3,_,rfl,f3,hf⟩:=Qg hf;obtain rfl:=Qm hf;obtain⟨g1,g2⟩:=VO f1;obtain⟨p1,p2,p3⟩:=hp;show Calls _ _ #[d1.val,d2.val,d3.val] w _;rw [g1,QB f2,QB f3];refine Qhr (cxD d1 d2 d3) ⟨fun k=>?_,p3,p2⟩ _ _ d1.int d1.bool (fun k hk=>?_) w g2
  ·show(Za _ _ k).wf;unfold Za;split
   ·exact p1 k (by assumption)
   ·exact QaM
  ·exact(if_pos hk).symm
def Qub:List Sg:= [⟨8,[.l (some .i64),.a Qc,.a stK,.l none],.b (.a stK),true,false⟩,⟨10,[.a Qc,.a stK],.b (.a stK),true,false⟩,⟨6,[.sl Qc,.l (some .u32),.l (some .i64)],.se stK (some .i64),false,false⟩]
def QrR:List PX:= []
def QsW:List Rw:= []
def QsU:Cfg:=⟨0,Qub,[],[9],[]⟩
def QtZ:List Lf:=
 let z0:Cd:= .f 1168 2 [(.l (.sl 1156 (.i 2)),1156),(.l (.n .u32 (.i 4096)),0),(.l (.n .i64 (.i 9)),0)]
 let z1:LX:= .n .u32 (.i 0)
 let z2:LX:= .n .i64 (.i 1)
 let z3:LX:= .n .i64 (.i 0)
 let z4:Cd:= .u 1156 none (.i 0) 9 0 [.n .u32 (.i 4096),z1,.n .i64 (.i 5),z2,z3,z3,z3,z3,.n .i64 (.i 3),.n .u32 (.i 4099),z1,z2,z3,z3,z3,z3,z3,z2]
 let z5:LX:= .t (.b false)
 let z6:LX:= .t (.b true)
 let z7:List LX:= [z5,z6,z1,z1,z1,z5,z6,z1,z1,z1,z5,z6,z1,z1,z1,z5,z6,z1,z1,z1,z5,z6,z1,z1,z1,z5,z6,z1,z1,z1]
 let z8:List LX:=(z5 :: z6 :: z1 :: z1 :: z1 :: z5 :: z5 :: z1 :: .n .u32 (.i 8) :: .n .u32 (.i 4) :: z7)
 let z9:Cd:= .f 1136 1 [(.a [z1,.n .u32 (.i 4),.n .i64 (.i 6),z2,z3,z3,z2,z3,z3],0),(.a z8,0)]
 let z10:List LX:= [z1,.n .u32 (.i 4),.n .i64 (.i 15),z2,z3,z3,.n .i64 (.i 2),z3,z3]
 let z11:List LX:=(z5 :: z6 :: z1 :: z1 :: z1 :: z5 :: z6 :: z1 :: z1 :: z1 :: z7)
 let z12:Cd:= .f 36 0 [(.l (.n .i64 (.i 8)),0),(.a z10,0),(.a z11,0),(.l z6,0)]
 let z13:Cd:= .f 24 0 [(.l (.n .i64 (.i 8)),0),(.a z10,0),(.a z11,0),(.l z5,0)]
 let z14:Cd:= .c (.eq (.v 1136 6) (.b false)) true
 let z15:Cd:= .c (.eq (.v 1136 5) (.b false)) true
 let z16:SX:= .c .eql (.v 36 13) (.i 4294967295)
 let z17:List Cd:= [.c (.c .eql (.v 1168 0) (.i 2)) true,.c (.c .eql (.v 1168 1) (.i 0)) true,.c (.c .eql (.v 1136 8) (.i 12)) true,.c (.c .eql (.v 1136 9) (.i 4)) true,.c (.c .eql (.v 1136 7) (.i 4)) true,.c (.eq (.v 36 11) (.b false)) true,.c (.eq (.v 36 10) (.b false)) true,.c (.c .eql (.v 36 12) (.i 4)) true,.c (.c .eql (.v 36 14) (.i 1)) true,.c (.eq (.v 24 11) (.b false)) true,.c (.eq (.v 24 10) (.b false)) true,.c (.c .eql (.v 24 13) (.i 3)) true,.c (.c .eql (.v 24 14) (.i 1)) true,.c (.c .eql (.v 24 12) (.i 0)) true]
 let z18:SX:= .an (.an (.an (.an (.an (.eq (.v 24 10) (.b false)) (.an (.eq (.v 24 11) (.b false)) (.an (.c .eql (.v 24 12) (.i 0)) (.an (.c .eql (.v 24 13) (.i 3)) (.c .eql (.v 24 14) (.i 1)))))) (.an (.eq (.v 36 10) (.b false)) (.an (.eq (.v 36 11) (.b false)) (.an (.c .eql (.v 36 12) (.i 4)) (.an z16 (.c .eql (.v 36 14) (.i 1))))))) (.an (.eq (.v 1136 5) (.b false)) (.an (.eq (.v 1136 6) (.b false)) (.an (.c .eql (.v 1136 7) (.i 4)) (.an (.c .eql (.v 1136 8) (.i 12)) (.c .eql (.v 1136 9) (.i 4))))))) (.c .eql (.v 1168 1) (.i 0))) (.c .eql (.v 1168 0) (.i 2))
 let z19:VX:= .v (.l (.t (.an (.an (.an z18 (.an (.an (.eq (.r 1169 40 0 (.i 0)) (.b false)) (.an (.eq (.r 1169 40 1 (.i 0)) (.b true)) (.an (.c .eql (.r 1169 40 2 (.i 0)) (.i 0)) (.an (.c .eql (.r 1169 40 3 (.i 0)) (.i 0)) (.c .eql (.r 1169 40 4 (.i 0)) (.i 0)))))) (.an (.an (.eq (.r 1169 40 5 (.i 0)) (.b false)) (.an (.eq (.r 1169 40 6 (.i 0)) (.b true)) (.an (.c .eql (.r 1169 40 7 (.i 0)) (.i 0)) (.an (.c .eql (.r 1169 40 8 (.i 0)) (.i 0)) (.c .eql (.r 1169 40 9 (.i 0)) (.i 0)))))) (.an (.an (.eq (.r 1169 40 10 (.i 0)) (.b false)) (.an (.eq (.r 1169 40 11 (.i 0)) (.b true)) (.an (.c .eql (.r 1169 40 12 (.i 0)) (.i 0)) (.an (.c .eql (.r 1169 40 13 (.i 0)) (.i 0)) (.c .eql (.r 1169 40 14 (.i 0)) (.i 0)))))) (.an (.an (.eq (.r 1169 40 15 (.i 0)) (.b false)) (.an (.eq (.r 1169 40 16 (.i 0)) (.b true)) (.an (.c .eql (.r 1169 40 17 (.i 0)) (.i 0)) (.an (.c .eql (.r 1169 40 18 (.i 0)) (.i 0)) (.c .eql (.r 1169 40 19 (.i 0)) (.i 0)))))) (.an (.an (.eq (.r 1169 40 20 (.i 0)) (.b false)) (.an (.eq (.r 1169 40 21 (.i 0)) (.b true)) (.an (.c .eql (.r 1169 40 22 (.i 0)) (.i 0)) (.an (.c .eql (.r 1169 40 23 (.i 0)) (.i 0)) (.c .eql (.r 1169 40 24 (.i 0)) (.i 0)))))) (.an (.an (.eq (.r 1169 40 25 (.i 0)) (.b false)) (.an (.eq (.r 1169 40 26 (.i 0)) (.b true)) (.an (.c .eql (.r 1169 40 27 (.i 0)) (.i 0)) (.an (.c .eql (.r 1169 40 28 (.i 0)) (.i 0)) (.c .eql (.r 1169 40 29 (.i 0)) (.i 0)))))) (.an (.an (.eq (.r 1169 40 30 (.i 0)) (.b false)) (.an (.eq (.r 1169 40 31 (.i 0)) (.b true)) (.an (.c .eql (.r 1169 40 32 (.i 0)) (.i 0)) (.an (.c .eql (.r 1169 40 33 (.i 0)) (.i 0)) (.c .eql (.r 1169 40 34 (.i 0)) (.i 0)))))) (.an (.eq (.r 1169 40 35 (.i 0)) (.b false)) (.an (.eq (.r 1169 40 36 (.i 0)) (.b true)) (.an (.c .eql (.r 1169 40 37 (.i 0)) (.i 0)) (.an (.c .eql (.r 1169 40 38 (.i 0)) (.i 0)) (.c .eql (.r 1169 40 39 (.i 0)) (.i 0)))))))))))))) (.an (.eq (.r 1169 40 0 (.i 1)) (.b false)) (.an (.eq (.r 1169 40 1 (.i 1)) (.b false)) (.an (.c .eql (.r 1169 40 2 (.i 1)) (.i 0)) (.an (.c .eql (.r 1169 40 3 (.i 1)) (.i 0)) (.c .eql (.r 1169 40 4 (.i 1)) (.i 0))))))) (.an (.eq (.r 1169 40 5 (.i 1)) (.b false)) (.an (.eq (.r 1169 40 6 (.i 1)) (.b true)) (.an (.c .eql (.r 1169 40 7 (.i 1)) (.i 0)) (.an (.c .eql (.r 1169 40 8 (.i 1)) (.i 0)) (.c .eql (.r 1169 40 9 (.i 1)) (.i 0)))))))))
 let z20:List Bk:= [⟨1169,.row stK (.v 1168 0) 1169⟩,⟨8,.cells 41 z10⟩,⟨40,.cells 37 (Qa 24 0 stK)⟩,⟨44,.cells 37 (Qa 36 0 stK)⟩,⟨56,.cells 37 z11⟩,⟨60,.cells 37 z11⟩,⟨404,.cells 37 z11⟩,⟨408,.cells 37 z11⟩,⟨756,.cells 37 z8⟩,⟨764,.cells 37 z11⟩,⟨768,.cells 37 z11⟩,⟨1140,.cells 37 (Qa 1136 0 stK)⟩,⟨1156,.row Qc (.i 2) 1156⟩,⟨1408,.cells 37 z11⟩,⟨1412,.cells 37 z11⟩]
 let z21:List Cd:= [z0,z4,z9,z12,z13,.c z18 false]
 let z22:List Bk:= [⟨1169,.row stK (.v 1168 0) 1169⟩,⟨8,.cells 41 z10⟩,⟨40,.cells 37 (Qa 24 0 stK)⟩,⟨44,.cells 37 (Qa 36 0 stK)⟩,⟨56,.cells 37 z11⟩,⟨60,.cells 37 z11⟩,⟨404,.cells 37 z11⟩,⟨408,.cells 37 z11⟩,⟨756,.cells 37 z8⟩,⟨764,.cells 37 z11⟩,⟨768,.cells 37 z11⟩,⟨1140,.cells 37 (Qa 1136 0 stK)⟩,⟨1156,.row Qc (.i 2) 1156⟩]
 [⟨(z0 :: z4 :: z9 :: z12 :: z13 :: z14 :: z15 :: .c z16 true :: z17),z19,z20⟩,⟨z21,.v (.l z5),z22⟩,⟨(z0 :: z4 :: z9 :: z12 :: z13 :: z14 :: z15 :: .c z16 true :: .c (.c .lss (.i 0) (.v 1168 0)) true :: z17),z19,z20⟩,⟨z21,.v (.l z5),z22⟩]
def Qua:List Ob:=
 let z0:PX:= .l (.n .i64 (.i 8))
 let z1:LX:= .n .u32 (.i 0)
 let z2:LX:= .n .i64 (.i 1)
 let z3:LX:= .n .i64 (.i 0)
 let z4:PX:= .a [z1,.n .u32 (.i 4),.n .i64 (.i 15),z2,z3,z3,.n .i64 (.i 2),z3,z3]
 let z5:LX:= .t (.b false)
 let z6:LX:= .t (.b true)
 let z7:List LX:= [z5,z6,z1,z1,z1,z5,z6,z1,z1,z1,z5,z6,z1,z1,z1,z5,z6,z1,z1,z1,z5,z6,z1,z1,z1,z5,z6,z1,z1,z1]
 let z8:PX:= .a (z5 :: z6 :: z1 :: z1 :: z1 :: z5 :: z6 :: z1 :: z1 :: z1 :: z7)
 let z9:Cd:= .f 24 0 [(z0,0),(z4,0),(z8,0),(.l z5,0)]
 let z10:Cd:= .f 36 0 [(z0,0),(z4,0),(z8,0),(.l z6,0)]
 let z11:PX:= .a [z1,.n .u32 (.i 4),.n .i64 (.i 6),z2,z3,z3,z2,z3,z3]
 let z12:PX:= .a (z5 :: z6 :: z1 :: z1 :: z1 :: z5 :: z5 :: z1 :: .n .u32 (.i 8) :: .n .u32 (.i 4) :: z7)
 let z13:Cd:= .u 1156 none (.i 0) 9 0 [.n .u32 (.i 4096),z1,.n .i64 (.i 5),z2,z3,z3,z3,z3,.n .i64 (.i 3),.n .u32 (.i 4099),z1,z2,z3,z3,z3,z3,z3,z2]
 let z14:Cd:= .f 1136 1 [(z11,0),(z12,0)]
 let z15:Cd:= .c (.eq (.v 24 10) (.b false)) true
 let z16:Cd:= .c (.eq (.v 24 11) (.b false)) true
 let z17:Cd:= .c (.c .eql (.v 24 12) (.i 0)) true
 let z18:Cd:= .c (.c .eql (.v 24 13) (.i 3)) true
 let z19:Cd:= .c (.c .eql (.v 24 14) (.i 1)) true
 let z20:Cd:= .c (.eq (.v 36 10) (.b false)) true
 let z21:Cd:= .c (.eq (.v 36 11) (.b false)) true
 let z22:Cd:= .c (.c .eql (.v 36 12) (.i 4)) true
 let z23:Cd:= .c (.c .eql (.v 36 13) (.i 4294967295)) true
 let z24:Cd:= .c (.c .eql (.v 36 14) (.i 1)) true
 let z25:Cd:= .c (.eq (.v 1136 5) (.b false)) true
 let z26:Cd:= .c (.eq (.v 1136 6) (.b false)) true
 let z27:Cd:= .c (.c .eql (.v 1136 7) (.i 4)) true
 let z28:Cd:= .c (.c .eql (.v 1136 8) (.i 12)) true
 let z29:Cd:= .c (.c .eql (.v 1136 9) (.i 4)) true
 let z30:Cd:= .c (.c .eql (.v 1168 1) (.i 0)) true
 let z31:Cd:= .f 1168 2 [(.l (.sl 1156 (.i 2)),1156),(.l (.n .u32 (.i 4096)),0),(.l (.n .i64 (.i 9)),0)]
 let z32:Cd:= .c (.c .eql (.v 1168 0) (.i 2)) true
 let z33:List Cd:= [z15,z16,z17,z18,z19,z20,z21,z22,z23,z24,z25,z26,z27,z28,z29,z30,z32,z31,z13,z14,z10,z9]
 let z34:SX:= .c .lss (.i 0) (.v 1168 0)
 let z35:List Cd:= [z32,z30,z28,z29,z27,z21,z20,z22,z24,z16,z15,z18,z19,z17]
 let z36:List Cd:=(z31 :: z13 :: z14 :: z10 :: z9 :: z26 :: z25 :: z23 :: z35)
 let z37:Cd:= .c (.eq (.r 1169 40 0 (.i 0)) (.b false)) true
 let z38:Cd:= .c (.eq (.r 1169 40 1 (.i 0)) (.b true)) true
 let z39:Cd:= .c (.c .eql (.r 1169 40 2 (.i 0)) (.i 0)) true
 let z40:Cd:= .c (.c .eql (.r 1169 40 3 (.i 0)) (.i 0)) true
 let z41:Cd:= .c (.c .eql (.r 1169 40 4 (.i 0)) (.i 0)) true
 let z42:Cd:= .c (.eq (.r 1169 40 5 (.i 0)) (.b false)) true
 let z43:Cd:= .c (.eq (.r 1169 40 6 (.i 0)) (.b true)) true
 let z44:Cd:= .c (.c .eql (.r 1169 40 7 (.i 0)) (.i 0)) true
 let z45:Cd:= .c (.c .eql (.r 1169 40 8 (.i 0)) (.i 0)) true
 let z46:Cd:= .c (.c .eql (.r 1169 40 9 (.i 0)) (.i 0)) true
 let z47:Cd:= .c (.eq (.r 1169 40 10 (.i 0)) (.b false)) true
 let z48:Cd:= .c (.eq (.r 1169 40 11 (.i 0)) (.b true)) true
 let z49:Cd:= .c (.c .eql (.r 1169 40 12 (.i 0)) (.i 0)) true
 let z50:Cd:= .c (.c .eql (.r 1169 40 13 (.i 0)) (.i 0)) true
 let z51:Cd:= .c (.c .eql (.r 1169 40 14 (.i 0)) (.i 0)) true
 let z52:Cd:= .c (.eq (.r 1169 40 15 (.i 0)) (.b false)) true
 let z53:Cd:= .c (.eq (.r 1169 40 16 (.i 0)) (.b true)) true
 let z54:Cd:= .c (.c .eql (.r 1169 40 17 (.i 0)) (.i 0)) true
 let z55:Cd:= .c (.c .eql (.r 1169 40 18 (.i 0)) (.i 0)) true
 let z56:Cd:= .c (.c .eql (.r 1169 40 19 (.i 0)) (.i 0)) true
 let z57:Cd:= .c (.eq (.r 1169 40 20 (.i 0)) (.b false)) true
 let z58:Cd:= .c (.eq (.r 1169 40 21 (.i 0)) (.b true)) true
 let z59:Cd:= .c (.c .eql (.r 1169 40 22 (.i 0)) (.i 0)) true
 let z60:Cd:= .c (.c .eql (.r 1169 40 23 (.i 0)) (.i 0)) true
 let z61:Cd:= .c (.c .eql (.r 1169 40 24 (.i 0)) (.i 0)) true
 let z62:Cd:= .c (.eq (.r 1169 40 25 (.i 0)) (.b false)) true
 let z63:Cd:= .c (.eq (.r 1169 40 26 (.i 0)) (.b true)) true
 let z64:Cd:= .c (.c .eql (.r 1169 40 27 (.i 0)) (.i 0)) true
 let z65:Cd:= .c (.c .eql (.r 1169 40 28 (.i 0)) (.i 0)) true
 let z66:Cd:= .c (.c .eql (.r 1169 40 29 (.i 0)) (.i 0)) true
 let z67:Cd:= .c (.eq (.r 1169 40 30 (.i 0)) (.b false)) true
 let z68:Cd:= .c (.eq (.r 1169 40 31 (.i 0)) (.b true)) true
 let z69:Cd:= .c (.c .eql (.r 1169 40 32 (.i 0)) (.i 0)) true
 let z70:Cd:= .c (.c .eql (.r 1169 40 33 (.i 0)) (.i 0)) true
 let z71:Cd:= .c (.c .eql (.r 1169 40 34 (.i 0)) (.i 0)) true
 let z72:Cd:= .c (.eq (.r 1169 40 35 (.i 0)) (.b false)) true
 let z73:Cd:= .c (.eq (.r 1169 40 36 (.i 0)) (.b true)) true
 let z74:Cd:= .c (.c .eql (.r 1169 40 37 (.i 0)) (.i 0)) true
 let z75:Cd:= .c (.c .eql (.r 1169 40 38 (.i 0)) (.i 0)) true
 let z76:Cd:= .c (.c .eql (.r 1169 40 39 (.i 0)) (.i 0)) true
 let z77:SX:= .c .lss (.i 1) (.v 1168 0)
 let z78:List Cd:=(z31 :: z13 :: z14 :: z10 :: z9 :: z26 :: z25 :: z23 :: .c z34 true :: z35)
 let z79:Cd:= .c (.eq (.r 1169 40 0 (.i 1)) (.b false)) true
 let z80:Cd:= .c (.eq (.r 1169 40 1 (.i 1)) (.b false)) true
 let z81:Cd:= .c (.c .eql (.r 1169 40 2 (.i 1)) (.i 0)) true
 let z82:Cd:= .c (.c .eql (.r 1169 40 3 (.i 1)) (.i 0)) true
 let z83:Cd:= .c (.c .eql (.r 1169 40 4 (.i 1)) (.i 0)) true
 [.pre [] 0 [(z0,0),(z4,0),(z8,0),(.l z5,0)],.pre [z9] 0 [(z0,0),(z4,0),(z8,0),(.l z6,0)],.pre [z10,z9] 1 [(z11,0),(z12,0)],.pre [z13,z14,z10,z9] 2 [(.l (.sl 1156 (.i 2)),1156),(.l (.n .u32 (.i 4096)),0),(.l (.n .i64 (.i 9)),0)],.cl [z15,z16,z17,z18,z19,z20,z21,z22,z23,z24,z25,z26,z27,z28,z29,z30,z31,z13,z14,z10,z9] (.c .geq (.v 1168 0) (.i 0)),.cl z33 (.c .geq (.v 1168 0) (.i 0)),.cl z33 z34,.cl z36 z34,.cl (z15 :: z16 :: z17 :: z18 :: z19 :: z20 :: z21 :: z22 :: z23 :: z24 :: z25 :: z26 :: z27 :: z28 :: z29 :: z30 :: z32 :: z37 :: z38 :: z39 :: z40 :: z41 :: z42 :: z43 :: z44 :: z45 :: z46 :: z47 :: z48 :: z49 :: z50 :: z51 :: z52 :: z53 :: z54 :: z55 :: z56 :: z57 :: z58 :: z59 :: z60 :: z61 :: z62 :: z63 :: z64 :: z65 :: z66 :: z67 :: z68 :: z69 :: z70 :: z71 :: z72 :: z73 :: z74 :: z75 :: z76 :: z36) z77,.cl (z15 :: z16 :: z17 :: z18 :: z19 :: z20 :: z21 :: z22 :: z23 :: z24 :: z25 :: z26 :: z27 :: z28 :: z29 :: z30 :: z32 :: z37 :: z38 :: z39 :: z40 :: z41 :: z42 :: z43 :: z44 :: z45 :: z46 :: z47 :: z48 :: z49 :: z50 :: z51 :: z52 :: z53 :: z54 :: z55 :: z56 :: z57 :: z58 :: z59 :: z60 :: z61 :: z62 :: z63 :: z64 :: z65 :: z66 :: z67 :: z68 :: z69 :: z70 :: z71 :: z72 :: z73 :: z74 :: z75 :: z76 :: z78) z77,.cl (z15 :: z16 :: z17 :: z18 :: z19 :: z20 :: z21 :: z22 :: z23 :: z24 :: z25 :: z26 :: z27 :: z28 :: z29 :: z30 :: z32 :: z37 :: z38 :: z39 :: z40 :: z41 :: z42 :: z43 :: z44 :: z45 :: z46 :: z47 :: z48 :: z49 :: z50 :: z51 :: z52 :: z53 :: z54 :: z55 :: z56 :: z57 :: z58 :: z59 :: z60 :: z61 :: z62 :: z63 :: z64 :: z65 :: z66 :: z67 :: z68 :: z69 :: z70 :: z71 :: z72 :: z73 :: z74 :: z75 :: z76 :: z79 :: z80 :: z81 :: z82 :: z83 :: z36) z77,.cl (z15 :: z16 :: z17 :: z18 :: z19 :: z20 :: z21 :: z22 :: z23 :: z24 :: z25 :: z26 :: z27 :: z28 :: z29 :: z30 :: z32 :: z37 :: z38 :: z39 :: z40 :: z41 :: z42 :: z43 :: z44 :: z45 :: z46 :: z47 :: z48 :: z49 :: z50 :: z51 :: z52 :: z53 :: z54 :: z55 :: z56 :: z57 :: z58 :: z59 :: z60 :: z61 :: z62 :: z63 :: z64 :: z65 :: z66 :: z67 :: z68 :: z69 :: z70 :: z71 :: z72 :: z73 :: z74 :: z75 :: z76 :: z79 :: z80 :: z81 :: z82 :: z83 :: z78) z77]
theorem QsV:QS Tryz.prog QsU 1000 4 5 Tryz.f5 QrR QsW=some (QtZ,Qua):=by kernel_rfl
def VG(n:Nat):List LX:=(List.replicate n [LX.t (.b false),.t (.b true),.n .u32 (.i 0),.n .u32 (.i 0),.n .u32 (.i 0)]).flatten
def Quh:PX:= .a [.n .u32 (.i 0),.n .u32 (.i 4),.n .i64 (.i 15),.n .i64 (.i 1),.n .i64 (.i 0),.n .i64 (.i 0),.n .i64 (.i 2),.n .i64 (.i 0),.n .i64 (.i 0)]
def exA(b:Bool):List (PX×Nat):= [(.l (.n .i64 (.i 8)),0),(Quh,0),(.a (VG 8),0),(.l (.t (.b b)),0)]
def exT:List (PX×Nat):= [(.a [.n .u32 (.i 0),.n .u32 (.i 4),.n .i64 (.i 6),.n .i64 (.i 1),.n .i64 (.i 0),.n .i64 (.i 0),.n .i64 (.i 1),.n .i64 (.i 0),.n .i64 (.i 0)],0),(.a (VG 1 ++ [.t (.b false),.t (.b false),.n .u32 (.i 0),.n .u32 (.i 8),.n .u32 (.i 4)] ++ VG 6),0)]
def exN:List (PX×Nat):= [(.l (.sl 1156 (.i 2)),1156),(.l (.n .u32 (.i 4096)),0),(.l (.n .i64 (.i 9)),0)]
def exL:List LX:= [.n .u32 (.i 4096),.n .u32 (.i 0),.n .i64 (.i 5),.n .i64 (.i 1),.n .i64 (.i 0),.n .i64 (.i 0),.n .i64 (.i 0),.n .i64 (.i 0),.n .i64 (.i 3),.n .u32 (.i 4099),.n .u32 (.i 0),.n .i64 (.i 1),.n .i64 (.i 0),.n .i64 (.i 0),.n .i64 (.i 0),.n .i64 (.i 0),.n .i64 (.i 0),.n .i64 (.i 1)]
def exC:List (Kon Tryz.prog):= [Yz.kon,K7.kon,Yy]
def exI:Nat→Ins:=fun k=>match k with|0=>⟨4096,0,5,1,0,0,0,0,3⟩|1=>⟨4099,0,1,0,0,0,0,0,1⟩|_=>QhD
def eqV(a b:Qd):Bool:=a.e==b.e && a.t==b.t && a.lo==b.lo && a.hi==b.hi && a.st==b.st
theorem Qk8{a b:Qd}(h:eqV a b=true):a=b:=by
 obtain⟨a1,a2,a3,a4,a5⟩:=a;obtain⟨b1,b2,b3,b4,b5⟩:=b;simp only [eqV,Bool.and_eq_true,beq_iff_eq]at h;obtain⟨⟨⟨⟨h1,h2⟩,h3⟩,h4⟩,h5⟩:=h;rw [h1,h2,h3,h4,h5]
def exB:Bool:=match Zz exI 2 4096 9 with
 | .ok b=>(List.range 8).all (fun r=>eqV (b 0 r) Qp) && eqV (b 1 0) (Zs 0) && eqV (b 1 1) Qp
 | .error _=>false
theorem Qq8:exB=true:=by kernel_rfl
theorem Qui:∃b,Zz exI 2 4096 9= .ok b∧(∀r,r < 8→b 0 r=Qp)∧b 1 0=Zs 0∧b 1 1=Qp:=by
 have h:=Qq8;unfold exB at h;cases ha:Zz exI 2 4096 9 with
 |error x=>rw [ha]at h;cases h
 |ok b=>
  rw [ha]at h;simp only [Bool.and_eq_true,List.all_eq_true,List.mem_range]at h;exact⟨b,rfl,fun r hr=>Qk8 (h.1.1 r hr),Qk8 h.1.2,Qk8 h.2⟩
theorem QtH{e:Env}(hu:e.int 1156=QA (fun _=>0) 0 (exL.map (QZ e))):cxD (PX.dat e 1156 (.l (.sl 1156 (.i 2)))) (PX.dat e 0 (.l (.n .u32 (.i 4096)))) (PX.dat e 0 (.l (.n .i64 (.i 9))))=⟨exI,2,4096,9⟩:=by
 unfold cxD;congr 1;funext k;show Za (e.int 1156) 2 k=_;rw [hu]
 match k with
 |0=>rfl
 |1=>rfl
 |k+2=>unfold Za;rw [if_neg (by omega)];rfl
structure ExF(e:Env):Prop where
 a:e.bool 24 10=false∧e.bool 24 11=false∧e.int 24 12=0∧e.int 24 13=3∧e.int 24 14=1
 b:e.bool 36 10=false∧e.bool 36 11=false∧e.int 36 12=4∧e.int 36 13=4294967295∧e.int 36 14=1
 c:e.bool 1136 5=false∧e.bool 1136 6=false∧e.int 1136 7=4∧e.int 1136 8=12∧e.int 1136 9=4
 n:e.int 1168 0=2∧e.int 1168 1=0
 s:∀r,r < 8→K1 (e.int 1169) (e.bool 1169) 0 r=Qp
 t0:K1 (e.int 1169) (e.bool 1169) 1 0=Zs 0
 t1:K1 (e.int 1169) (e.bool 1169) 1 1=Qp
theorem Qh5{e:Env}{b:Bool}{m m':Nm}(h:Yz.kon.post ((exA b).map (Jk e)) m m'):m.int=QU (ZE 8 ⟨0,4,15,1,0,0,2,0,0⟩ (stD (PX.dat e 0 (.a (VG 8)))) b)∧m.bool=QI (ZE 8 ⟨0,4,15,1,0,0,2,0,0⟩ (stD (PX.dat e 0 (.a (VG 8)))) b):=h
theorem Qq9{e:Env}{m m':Nm}(h:K7.kon.post (exT.map (Jk e)) m m'):m.int=QU (Qu ⟨0,4,6,1,0,0,1,0,0⟩ (stD (PX.dat e 0 (.a (VG 1 ++ [.t (.b false),.t (.b false),.n .u32 (.i 0),.n .u32 (.i 8),.n .u32 (.i 4)] ++ VG 6)))))∧m.bool=QI (Qu ⟨0,4,6,1,0,0,1,0,0⟩ (stD (PX.dat e 0 (.a (VG 1 ++ [.t (.b false),.t (.b false),.n .u32 (.i 0),.n .u32 (.i 8),.n .u32 (.i 4)] ++ VG 6))))):=h
theorem exF{e:Env}{cd:List Cd}(h:QC (Cd.holds exC [] e) cd)
 (h1:cd.elem (.f 24 0 (exA false))=true) (h2:cd.elem (.f 36 0 (exA true))=true) (h3:cd.elem (.f 1136 1 exT)=true) (h4:cd.elem (.u 1156 none (.i 0) 9 0 exL)=true) (h5:cd.elem (.f 1168 2 exN)=true):ExF e:=by
 have g1:=h.all _ (List.mem_of_elem_eq_true h1);have g2:=h.all _ (List.mem_of_elem_eq_true h2);have g3:=h.all _ (List.mem_of_elem_eq_true h3);have g4:=h.all _ (List.mem_of_elem_eq_true h4);have g5:=h.all _ (List.mem_of_elem_eq_true h5);obtain⟨c1,e1,g1⟩:=g1;cases e1;obtain⟨i1,b1⟩:=Qh5 g1;obtain⟨c2,e2,g2⟩:=g2;cases e2;obtain⟨i2,b2⟩:=Qh5 g2;obtain⟨c3,e3,g3⟩:=g3;cases e3;obtain⟨i3,b3⟩:=Qq9 g3
 obtain⟨c5,e5,g5⟩:=g5;cases e5;have hu:e.int 1156=QA (fun _=>0) 0 (exL.map (QZ e)):=g4.1
 have g6:ZH (cxD (PX.dat e 1156 (.l (.sl 1156 (.i 2)))) (PX.dat e 0 (.l (.n .u32 (.i 4096)))) (PX.dat e 0 (.l (.n .i64 (.i 9))))) (e.nm 1168) (e.nm 1169):=g5;rw [QtH hu]at g6;unfold ZH at g6;obtain⟨b,hb,s0,s1,s2⟩:=Qui
 dsimp only at g6
 rw [hb]at g6;obtain⟨n0,n1,hB⟩:=g6;have q:∀{f g:Nat→Int} {x:Int} (j:Nat),f=g→g j=x→f j=x:=fun j h1 h2=>h1 ▸ h2
 have p:∀{f g:Nat→Bool} {x:Bool} (j:Nat),f=g→g j=x→f j=x:=fun j h1 h2=>h1 ▸ h2
 exact {
  a:=⟨p 10 b1 (by kernel_rfl),p 11 b1 (by kernel_rfl),q 12 i1 (by kernel_rfl),q 13 i1 (by kernel_rfl),q 14 i1 (by kernel_rfl)⟩
  b:=⟨p 10 b2 (by kernel_rfl),p 11 b2 (by kernel_rfl),q 12 i2 (by kernel_rfl),q 13 i2 (by kernel_rfl),q 14 i2 (by kernel_rfl)⟩
  c:=⟨p 5 b3 (by kernel_rfl),p 6 b3 (by kernel_rfl),q 7 i3 (by kernel_rfl),q 8 i3 (by kernel_rfl),q 9 i3 (by kernel_rfl)⟩
  n:=⟨n0,n1⟩
  s:=fun r hr=>(hB 0 (by decide) r hr).trans (s0 r hr)
  t0:=(hB 1 (by decide) 0 (by decide)).trans s1
  t1:=(hB 1 (by decide) 1 (by decide)).trans s2}
theorem st5{i:Nat→Int}{b:Nat→Bool}{k r:Nat}{x:Qd}(h:K1 i b k r=x):b (k * 40+5 * r)=x.e∧b (k * 40+(5 * r+1))=x.t∧i (k * 40+(5 * r+2))=x.lo∧i (k * 40+(5 * r+3))=x.hi∧i (k * 40+(5 * r+4))=x.st:=by
 subst h;exact⟨rfl,rfl,rfl,rfl,rfl⟩
theorem Qi5{e:Env}{xs:List LX}(hl:xs.length=40)(h:∀r,r < 8→(stD (PX.dat e 0 (.a xs)) r).wf):∀r,(stD (PX.dat e 0 (.a xs)) r).wf:=fun r=>by
 rcases Nat.lt_or_ge r 8 with h0|h0
 ·exact h r h0
 ·rw [Qd4 hl h0];exact ZJ Qd8
theorem Qte{e:Env}{b:Bool}:Yz.kon.pre ((exA b).map (Jk e)):=by
 show KT 8∧(⟨0,4,15,1,0,0,2,0,0⟩:Ins).wf∧∀k,(stD (PX.dat e 0 (.a (VG 8))) k).wf;refine⟨by unfold KT;decide,by unfold Ins.wf Zk KT;decide,Qi5 rfl fun r hr=>?_⟩
 have:stD (PX.dat e 0 (.a (VG 8))) r=Qp:=by
  match r,hr with
  |0,_|1,_|2,_|3,_|4,_|5,_|6,_|7,_=>rfl
 rw [this];exact Z5
theorem QtJ{e:Env}:K7.kon.pre (exT.map (Jk e)):=by
 show(⟨0,4,6,1,0,0,1,0,0⟩:Ins).wf∧∀k,(stD (PX.dat e 0 (.a (VG 1 ++ [.t (.b false),.t (.b false),.n .u32 (.i 0),.n .u32 (.i 8),.n .u32 (.i 4)] ++ VG 6))) k).wf;refine⟨by unfold Ins.wf Zk KT;decide,Qi5 rfl fun r hr=>?_⟩
 have:stD (PX.dat e 0 (.a (VG 1 ++ [.t (.b false),.t (.b false),.n .u32 (.i 0),.n .u32 (.i 8),.n .u32 (.i 4)] ++ VG 6))) r=if r=1 then⟨false,false,0,8,4⟩else Qp:=by
  match r,hr with
  |0,_|1,_|2,_|3,_|4,_|5,_|6,_|7,_=>rfl
 rw [this];split
 ·unfold Qd.wf;decide
 ·exact Z5
theorem QtI{e:Env}(hu:e.int 1156=QA (fun _=>0) 0 (exL.map (QZ e))):Yy.pre (exN.map (Jk e)):=by
 show(∀k,k < 2→(Q4 (e.int 1156) k).wf)∧(0:Int)≤4096∧(9:Int)≤9223372036854775807;refine⟨fun k hk=>?_,by decide,by decide⟩
 rw [hu]
 match k,hk with
 |0,_=>show(⟨4096,0,5,1,0,0,0,0,3⟩:Ins).wf;unfold Ins.wf Zk KT;decide
 |1,_=>show(⟨4099,0,1,0,0,0,0,0,1⟩:Ins).wf;unfold Ins.wf Zk KT;decide
set_option maxHeartbeats 4000000 in
theorem example_any(w:World):Calls Tryz.prog 5 #[] w (Ret (.bool true) w):=by
 refine J9 (C:=exC) (I:= []) Qo rfl Tryz.func5 QsV (Yu []) w rfl (fun r hr=>(List.not_mem_nil hr).elim) _ ?_ ?_
 ·refine⟨?_,?_,?_,?_,?_,?_,?_,?_,?_,?_,?_,?_,trivial⟩
  ·intro e he _;exact Qte
  ·intro e he _;exact Qte
  ·intro e he _;exact QtJ
  ·intro e he hcd;have g4:=hcd.all _ (List.mem_of_elem_eq_true (show _=true from by kernel_rfl:List.elem (Cd.u 1156 none (.i 0) 9 0 exL) _=true))
   exact QtI g4.1
  all_goals
   intro e he hcd;have F:=exF hcd (by kernel_rfl) (by kernel_rfl) (by kernel_rfl) (by kernel_rfl) (by kernel_rfl)
   have F1:=F.n;simp only [SX.den,cmI,F1];decide
 ·refine⟨?_,?_,?_,?_,trivial⟩
  all_goals
   intro e u he hcd hs;have F:=exF hcd (by kernel_rfl) (by kernel_rfl) (by kernel_rfl) (by kernel_rfl) (by kernel_rfl)
   obtain⟨Fa,Fb,Fc,Fn,Fs,Ft0,Ft1⟩:=F;have s0:=st5 (Fs 0 (by decide))
   have s1:=st5 (Fs 1 (by decide))
   have s2:=st5 (Fs 2 (by decide))
   have s3:=st5 (Fs 3 (by decide))
   have s4:=st5 (Fs 4 (by decide))
   have s5:=st5 (Fs 5 (by decide))
   have s6:=st5 (Fs 6 (by decide))
   have s7:=st5 (Fs 7 (by decide))
   have t0:=st5 Ft0;have t1:=st5 Ft1;simp only [Nat.reduceMul,Nat.reduceAdd,Nat.zero_add,Nat.zero_mul,Nat.mul_zero,Nat.add_zero,Qp,Zs]at s0 s1 s2 s3 s4 s5 s6 s7 t0 t1
  ·rw [hs];simp only [PX.den,LX.den,SX.den,Int.toNat_zero,Int.toNat_one,Nat.reduceMul,Nat.reduceAdd,Nat.zero_add,Nat.zero_mul,Nat.add_zero,cmI,Fa,Fb,Fc,Fn,s0,s1,s2,s3,s4,s5,s6,s7,t0,t1];rfl
  ·exfalso;have hx:=hcd.2.2.2.2.2.1;simp only [Cd.holds,SX.den,cmI,Fa,Fb,Fc,Fn]at hx;revert hx;decide
  ·rw [hs];simp only [PX.den,LX.den,SX.den,Int.toNat_zero,Int.toNat_one,Nat.reduceMul,Nat.reduceAdd,Nat.zero_add,Nat.zero_mul,Nat.add_zero,cmI,Fa,Fb,Fc,Fn,s0,s1,s2,s3,s4,s5,s6,s7,t0,t1];rfl
  ·exfalso;have hx:=hcd.2.2.2.2.2.1;simp only [Cd.holds,SX.den,cmI,Fa,Fb,Fc,Fn]at hx;revert hx;decide
end Go.Proofs.YteplnamfpodmlaaGreat.T2
end
section
namespace Go.Proofs.YteplnamfpodmlaaGreat.T2
theorem Qbf{a b:Qd}(wa:a.wf)(wb:b.wf):XG a (Jp a b)=true∧XG b (Jp a b)=true:=by
 unfold XG;rw [Zl (QcS wa wb).2];exact QbU (Q8 wa) (Q8 wb) (Qz a) (Qz b)
theorem Qag{a b:Qd}(wa:a.wf)(wb:b.wf):XG a (XF a b)=true∧XG b (XF a b)=true:=by
 unfold XG;rw [Zl (QbH wa wb).2];exact⟨(Qbe (Q8 wa) (Q8 wb) (Qz a) (Qz b)).2.1,(Qbe (Q8 wa) (Q8 wb) (Qz a) (Qz b)).2.2⟩
theorem Qbg{a:Qd}(wa:a.wf):XG a a=true:=QiA (Q8 wa) (Qz a)
theorem Qee{a b c:Qd}(wa:a.wf)(wb:b.wf)(wc:c.wf)(h1:XG a b=true)(h2:XG b c=true):XG a c=true:=
 Wc (Q8 wa) (Q8 wb) (Q8 wc) (Qz a) (Qz b) (Qz c) h1 h2
def XL(a b:Nat→Qd):Prop:=∀r,r < 8→XG (a r) (b r)=true
theorem XL.trans{a b c:Nat→Qd}(wa:∀k,(a k).wf)(wb:∀k,(b k).wf)(wc:∀k,(c k).wf)(h1:XL a b)(h2:XL b c):XL a c:=fun r hr=>Qee (wa r) (wb r) (wc r) (h1 r hr) (h2 r hr)
theorem XL.refl{a:Nat→Qd}(wa:∀k,(a k).wf):XL a a:=fun r _=>Qbg (wa r)
end Go.Proofs.YteplnamfpodmlaaGreat.T2
end
section
namespace Go.Proofs.YteplnamfpodmlaaGreat.T2
def Qa9(I:Nat→Ins)(G:Nat→Int)(b:Nat→Nat→Qd)(k:Nat)(es:List (Nat×Bool)):Prop:=∀p∈es,XL (XM I (G k) k (b k) p.2) (b p.1)
def QhX:Nat→Qd:=ZP fun _=>Qt
structure Qqm(I:Nat→Ins)(E:Nat→List (Nat×Bool))(G:Nat→Int)(N f:Nat)(s:VS):Prop where
 ok:okB s.b
 top:XL (fun _=>Qp) (s.b f)
 fix:∀k,k < N→s.m k=true∨s.b k=QhX∨Qa9 I G s.b k (E k)
structure Qhq(I:Nat→Ins)(E:Nat→List (Nat×Bool))(G:Nat→Int)(N f k:Nat)(es:List (Nat×Bool))(s:VS):Prop where
 ok:okB s.b
 top:XL (fun _=>Qp) (s.b f)
 fix:∀j,j < N→j≠k→s.m j=true∨s.b j=QhX∨Qa9 I G s.b j (E j)
 here:s.m k=true∨Qa9 I G s.b k es
theorem Wx{b:Nat→Nat→Qd}(h:okB b)(k:Nat):∀r,(b k r).wf:=fun r=>(h k r).1
theorem QoW{I:Nat→Ins}{G:Nat→Int}{k:Nat}{s:VS}{p:Nat×Bool}(hI:∀k,(I k).wf)(h:okB s.b) :
 XL (s.b p.1) (JE s p.1 (Xl I G k s p))∧XL (XM I (G k) k (s.b k) p.2) (JE s p.1 (Xl I G k s p)):=by
 have wb:=Wx h p.1;have wa:=QaA (g:=G k) (k:=k) (tk:=p.2) hI (Wx h k);have nok:=KN (G:=G) (k:=k) (p:=p) hI h
 have n1:XL (s.b p.1) (Xl I G k s p):=fun r hr=>by
  unfold Xl ZP;rw [if_pos hr];exact(Qbf (wb r) (wa r)).1
 have n2:XL (XM I (G k) k (s.b k) p.2) (Xl I G k s p):=fun r hr=>by
  unfold Xl ZP;rw [if_pos hr];exact(Qbf (wb r) (wa r)).2
 unfold JE;split
 ·have w1:XL (s.b p.1) (ZP fun r=>XF (s.b p.1 r) (Xl I G k s p r)):=fun r hr=>by
   unfold ZP;rw [if_pos hr];exact(Qag (wb r) (nok r).1).1
  have w2:XL (Xl I G k s p) (ZP fun r=>XF (s.b p.1 r) (Xl I G k s p r)):=fun r hr=>by
   unfold ZP;rw [if_pos hr];exact(Qag (wb r) (nok r).1).2
  have wk:∀r,(ZP (fun r=>XF (s.b p.1 r) (Xl I G k s p r)) r).wf:=fun r=>(QaG (fun r=>QbH (wb r) (nok r).1) r).1
  exact⟨w1,XL.trans wa (fun r=>(nok r).1) wk n2 w2⟩
 ·exact⟨n1,n2⟩
theorem Qh6{I:Nat→Ins}{G:Nat→Int}{b b':Nat→Nat→Qd}{j:Nat}{es:List (Nat×Bool)}(hI:∀k,(I k).wf)(h:okB b)(h':okB b')(hj:b' j=b j)(hg:∀t,XL (b t) (b' t))(H:Qa9 I G b j es):Qa9 I G b' j es:=fun p hp=>by
 rw [hj];exact XL.trans (QaA hI (Wx h j)) (Wx h p.1) (Wx h' p.1) (H p hp) (hg p.1)
theorem Ql5{I:Nat→Ins}{E:Nat→List (Nat×Bool)}{G:Nat→Int}{N f k:Nat}{es:List (Nat×Bool)}{s:VS}{p:Nat×Bool}(hI:∀k,(I k).wf)(H:Qhq I E G N f k es s):Qhq I E G N f k (es ++ [p]) (KW I G k s p):=by
 have hw:=QoW (G:=G) (k:=k) (p:=p) hI H.ok;have ok':=Qi1 (G:=G) (k:=k) (p:=p) hI H.ok;have hx:∀r,r < 8→True:=fun _ _=>trivial
 unfold KW at ok' ⊢;unfold Qdj at ok' ⊢;by_cases hs:Qfj (JE s p.1 (Xl I G k s p)) (s.b p.1)=true
 ·rw [if_pos hs]at ok' ⊢;refine⟨H.ok,H.top,H.fix,?_⟩;rcases H.here with h|h
  ·exact .inl h
  ·refine .inr fun q hq=>?_
   rcases List.mem_append.1 hq with hq|hq
   ·exact h q hq
   ·rw [List.mem_singleton.1 hq];intro r hr;have:=hw.2 r hr;rwa [Qdv.1 hs r hr]at this
 ·rw [if_neg hs]at ok' ⊢;have ok2:okB (XU s.b p.1 (JE s p.1 (Xl I G k s p))):=ok'
  have hg:∀t,XL (s.b t) (XU s.b p.1 (JE s p.1 (Xl I G k s p)) t):=fun t=>by
   by_cases ht:t=p.1
   ·rw [ht,Vl];exact hw.1
   ·rw [JS _ _ ht];exact XL.refl (Wx H.ok t)
  refine⟨ok2,XL.trans (fun _=>Z5) (Wx H.ok f) (Wx ok2 f) H.top (hg f),fun j hj hjk=>?_,?_⟩
  ·by_cases ht:j=p.1
   ·left;show XU s.m p.1 true j=true;rw [ht,Vl]
   ·rcases H.fix j hj hjk with h|h|h
    ·left;show XU s.m p.1 true j=true;rw [JS _ _ ht];exact h
    ·right;left;show XU s.b p.1 _ j=QhX;rw [JS _ _ ht];exact h
    ·right;right;exact Qh6 hI H.ok ok2 (JS _ _ ht) hg h
  ·by_cases ht:k=p.1
   ·left;show XU s.m p.1 true k=true;rw [ht,Vl]
   ·rcases H.here with h|h
    ·left;show XU s.m p.1 true k=true;rw [JS _ _ ht];exact h
    ·right
     intro q hq;rcases List.mem_append.1 hq with hq|hq
     ·exact Qh6 hI H.ok ok2 (JS _ _ ht) hg h q hq
     ·rw [List.mem_singleton.1 hq];show XL (XM I (G k) k (XU s.b p.1 _ k) p.2) (XU s.b p.1 _ p.1);rw [JS _ _ ht,Vl];exact hw.2
theorem Qd6{I:Nat→Ins}{E:Nat→List (Nat×Bool)}{G:Nat→Int}{N f k:Nat}(hI:∀k,(I k).wf):∀(es' es:List (Nat×Bool)) (s:VS),Qhq I E G N f k es s→Qhq I E G N f k (es ++ es') (es'.foldl (KW I G k) s)
 | [],es,s,H=>by rw [List.append_nil];exact H
 |p :: es',es,s,H=>by
  have:=Qd6 hI es' (es ++ [p]) _ (Ql5 (p:=p) hI H);rwa [List.append_assoc]at this
theorem Ql7{I:Nat→Ins}{E:Nat→List (Nat×Bool)}{G:Nat→Int}{N f k:Nat}{s:VS}(hI:∀k,(I k).wf)(H:Qqm I E G N f s):Qqm I E G N f (QlC I E G s k):=by
 have h0:Qhq I E G N f k [] (QlB s k):=by
  refine⟨H.ok,H.top,fun j hj hjk=>?_,.inr fun q hq=>absurd hq (List.not_mem_nil)⟩
  rcases H.fix j hj with h|h|h
  ·left;show XU s.m k false j=true;rw [JS _ _ hjk];exact h
  ·exact .inr (.inl h)
  ·exact .inr (.inr h)
 have h1:=Qd6 hI (E k) [] _ h0;rw [List.nil_append]at h1;refine⟨h1.ok,h1.top,fun j hj=>?_⟩
 by_cases hjk:j=k
 ·subst hjk;rcases h1.here with h|h
  ·exact .inl h
  ·exact .inr (.inr h)
 ·exact h1.fix j hj hjk
theorem Ql6{I:Nat→Ins}{E:Nat→List (Nat×Bool)}{G:Nat→Int}{N f:Nat}:Qqm I E G N f (Vb f):=by
 refine⟨Qd7 f,fun r hr=>?_,fun k hk=>?_⟩
 ·show XG Qp (XU (fun _=>ZP fun _=>Qt) f (ZP fun _=>Qp) f r)=true
  rw [Vl];unfold ZP;rw [if_pos hr];exact Qbg Z5
 ·by_cases h:k=f
  ·left;show XU (fun _=>false) f true k=true;rw [h,Vl]
  ·right;left;show XU (fun _=>ZP fun _=>Qt) f _ k=QhX;rw [JS _ _ h];rfl
theorem QeP{m:Nat→Bool}:∀(n k:Nat),QaL m true k n < 0→∀j,k≤j→j < k+n→m j=false
 |0,k,h,j,h1,h2=>by omega
 |n+1,k,h,j,h1,h2=>by
  unfold QaL at h;by_cases hm:true=m k
  ·rw [if_pos hm]at h;omega
  ·rw [if_neg hm]at h;by_cases hj:j=k
   ·subst hj;cases hv:m j
    ·rfl
    ·exact absurd hv.symm hm
   ·exact QeP n (k+1) h j (by omega) (by omega)
theorem Qrv{I:Nat→Ins}{E:Nat→List (Nat×Bool)}{G:Nat→Int}{N f:Nat}(hI:∀k,(I k).wf){b:Nat→Nat→Qd}:∀(fuel:Nat) (s:VS),Qqm I E G N f s→W2 I E G N fuel s=some b→okB b∧XL (fun _=>Qp) (b f)∧∀k,k < N→b k=QhX∨Qa9 I G b k (E k):=by
 have fin:∀s:VS,Qqm I E G N f s→XQ s.m N true < 0→s.b=b→okB b∧XL (fun _=>Qp) (b f)∧∀k,k < N→b k=QhX∨Qa9 I G b k (E k):=fun s H h e=>by
  subst e;refine⟨H.ok,H.top,fun k hk=>?_⟩
  have hm:=QeP N 0 h k (by omega) (by omega)
  rcases H.fix k hk with h1|h1
  ·rw [hm]at h1;cases h1
  ·exact h1
 intro fuel
 induction fuel with
 |zero=>
  intro s H h;unfold W2 at h;by_cases hi:XQ s.m N true < 0
  ·rw [if_pos hi]at h;exact fin s H hi (Option.some.inj h)
  ·rw [if_neg hi]at h;cases h
 |succ n ih=>
  intro s H h;unfold W2 at h;by_cases hi:XQ s.m N true < 0
  ·rw [if_pos hi]at h;exact fin s H hi (Option.some.inj h)
  ·rw [if_neg hi]at h;exact ih _ (Ql7 hI H) h
theorem Qkx{I:Nat→Ins}{N:Nat}{en R:Int}{b:Nat→Nat→Qd}(hI:∀k,(I k).wf)(h:Zz I N en R= .ok b) :
 ∃f,QG I en N=some f∧okB b∧XL (fun _=>Qp) (b f)∧∀k,k < N→b k=QhX∨Qa9 I (XP I N f) b k (X4 I N k):=by
 unfold Zz at h;by_cases hN:4096 < N
 ·rw [if_pos hN]at h;cases h
 rw [if_neg hN]at h;cases hf:QG I en N with
 |none=>rw [hf]at h;cases h
 |some f=>
  rw [hf]at h
  dsimp only at h
  cases hr:W2 I (X4 I N) (XP I N f) N R.toNat (Vb f)with
  |none=>rw [hr]at h;cases h
  |some b'=>
   rw [hr]at h;cases h;exact⟨f,rfl,Qrv hI _ _ Ql6 hr⟩
end Go.Proofs.YteplnamfpodmlaaGreat.T2
end
section
namespace Go.Proofs.YteplnamfpodmlaaGreat.T2
structure Quu(I:Nat→Ins)(N f:Nat)(b:Nat→Nat→Qd):Prop where
 wf:∀k,(I k).wf
 ok:okB b
 top:XL (fun _=>Qp) (b f)
 fix:∀k,k < N→b k=QhX∨Qa9 I (XP I N f) b k (X4 I N k)
section
variable{I:Nat→Ins}{N f:Nat}{b:Nat→Nat→Qd}{n a:Int}{x:Nat→Int}{fz fn fc fv:Bool}{L:Int}{st:Nat→Int}
end
end Go.Proofs.YteplnamfpodmlaaGreat.T2
end
section
namespace Go.Proofs.YteplnamfpodmlaaGreat
open Go.ChangeShapes Go.WideShapes Go.ChangeAt Go.RowKit Go.Deep
theorem QaD{int int':Nat→Int}{bool bool':Nat→Bool}:∀{K:List (Option IntKind)} {j:Nat},(∀q,j≤q→int q=int' q∧bool q=bool' q)→ZL int bool j K=ZL int' bool' j K
 | [],_,_=>rfl
 |k :: K,j,h=>by
  unfold ZL;rw [(h j (Nat.le_refl _)).1,(h j (Nat.le_refl _)).2,QaD (K:=K) (j:=j+1) fun q hq=>h q (by omega)]
theorem QaR:∀{K:List (Option IntKind)} {cs:List Value} (j0:Nat),Zx K cs→∃(int:Nat→Int) (bool:Nat→Bool),cs=ZL int bool j0 K∧∀(j:Nat) (k:IntKind),K[j]?=some (some k)→(Lit.int k (int (j0+j))).wf=true
 | [],[],j0,_=>⟨fun _=>0,fun _=>false,rfl,fun j k h=>by simp at h⟩
 | [],_ :: _,_,h=>h.elim
 |_ :: _,[],_,h=>h.elim
 |k :: K,v :: cs,j0,h=>by
  obtain⟨h1,h2⟩:=h;obtain⟨int,bool,rfl,hw⟩:=QaR (j0+1) h2
  have key:∀(n:Int) (b:Bool),v=Xu k n b→(∀k',k=some k'→(Lit.int k' n).wf=true)→∃(int':Nat→Int) (bool':Nat→Bool),v :: ZL int bool (j0+1) K=ZL int' bool' j0 (k :: K)∧∀(j:Nat) (k':IntKind),(k :: K)[j]?=some (some k')→(Lit.int k' (int' (j0+j))).wf=true:=fun n b hv hk=>by
   refine⟨fun q=>if q=j0 then n else int q,fun q=>if q=j0 then b else bool q,?_,fun j k' hj=>?_⟩
   ·have hc:ZL int bool (j0+1) K=ZL (fun q=>if q=j0 then n else int q) (fun q=>if q=j0 then b else bool q) (j0+1) K:=QaD fun q hq=>⟨(if_neg (by omega)).symm,(if_neg (by omega)).symm⟩
    show v :: ZL int bool (j0+1) K=Xu k (if j0=j0 then n else int j0) (if j0=j0 then b else bool j0) :: ZL (fun q=>if q=j0 then n else int q) (fun q=>if q=j0 then b else bool q) (j0+1) K
    rw [←hc,if_pos rfl,if_pos rfl,hv]
   ·cases j with
    |zero=>
     simp only [List.getElem?_cons_zero,Option.some.injEq]at hj;show(Lit.int k' (if j0+0=j0 then n else int (j0+0))).wf=true
     rw [if_pos (by omega)]
     exact hk k' hj
    |succ j=>
     simp only [List.getElem?_cons_succ]at hj;show(Lit.int k' (if j0+(j+1)=j0 then n else int (j0+(j+1)))).wf=true
     rw [if_neg (by omega),show j0+(j+1)=j0+1+j by omega]
     exact hw j k' hj
  cases k with
  |none=>
   obtain⟨b,rfl⟩:=h1;exact key 0 b rfl fun k' hk=>by cases hk
  |some k=>
   obtain⟨n,rfl,hn⟩:=h1;exact key n false rfl fun k' hk=>by cases hk;exact hn
def InR(K:List (Option IntKind))(int:Nat→Int)(o:Nat):Prop:=∀(j:Nat) (k:IntKind),K[j]?=some (some k)→(Lit.int k (int (o+j))).wf=true
section
variable{H:Type}{enc:TypeId×Value→H}{P:Program}{w:World}{base:Nat}{spare:Nat→Bool}{held:Bool}
theorem QtS{K:List (Option IntKind)}{A:Option Addr}{len:Nat}(hK:0 < K.length)
 (h:∀i,i < len→∃ad cs,A=some ad∧Zx K cs∧∀j u,cs[j]?=some u→w.cell? (ad.add (i * K.length+j))=some u) :
 ∃(int:Nat→Int) (bool:Nat→Bool),XW w A len K int bool∧∀i,i < len→InR K int (i * K.length):=by
 have h1:∀i,i < len→∃p:(Nat→Int)×(Nat→Bool),∃ad,A=some ad∧(∀j u,(ZL p.1 p.2 0 K)[j]?=some u→w.cell? (ad.add (i * K.length+j))=some u)∧InR K p.1 0:=fun i hi=>by
  obtain⟨ad,cs,e,hl,hc⟩:=h i hi;obtain⟨int,bool,rfl,hw⟩:=QaR 0 hl;exact⟨(int,bool),ad,e,hc,hw⟩
 have:Inhabited ((Nat→Int)×(Nat→Bool)):=⟨(fun _=>0,fun _=>false)⟩
 obtain⟨F,hF⟩:=choose_lt h1
 have dv:∀i j,j < K.length→(i * K.length+j) / K.length=i∧(i * K.length+j) % K.length=j:=fun i j hj=>by
  rw [Nat.mul_comm,Nat.mul_add_div hK,Nat.mul_add_mod,Nat.div_eq_of_lt hj,Nat.mod_eq_of_lt hj];exact⟨rfl,rfl⟩
 have cl:∀(K:List (Option IntKind)) (j0 j:Nat) (k:Option IntKind) (int:Nat→Int) (bool:Nat→Bool),K[j]?=some k→(ZL int bool j0 K)[j]?=some (Xu k (int (j0+j)) (bool (j0+j))):=by
  intro K
  induction K with
  |nil=>intro j0 j k int bool h;simp at h
  |cons k0 K ih=>
   intro j0 j k int bool h;cases j with
   |zero=>simp only [List.getElem?_cons_zero,Option.some.injEq]at h;subst h;rfl
   |succ j=>
    simp only [List.getElem?_cons_succ]at h;unfold ZL;rw [List.getElem?_cons_succ,ih (j0+1) j k int bool h,show j0+1+j=j0+(j+1)by omega]
 have lt:∀(j:Nat) (k:Option IntKind),K[j]?=some k→j < K.length:=fun j k hj=>by
  rcases Nat.lt_or_ge j K.length with h0|h0
  ·exact h0
  ·rw [List.getElem?_eq_none h0]at hj;cases hj
 refine⟨fun q=>(F (q / K.length)).1 (q % K.length),fun q=>(F (q / K.length)).2 (q % K.length),fun i hi=>?_,fun i hi j k hj=>?_⟩
 ·obtain⟨ad,e,hc,hw⟩:=hF i hi;refine⟨ad,e,?_,fun j k hj=>?_⟩
  ·obtain⟨k0,hk0⟩:∃k,K[0]?=some k:=⟨_,List.getElem?_eq_getElem hK⟩;have h0:=World.block_lt_of_cell? w _ (hc 0 _ (cl K 0 0 k0 _ _ hk0));rwa [X2]at h0
  ·have:=hc j _ (cl K 0 j k _ _ hj);rw [this,Nat.zero_add]
   dsimp only
   rw [(dv i j (lt j _ hj)).1,(dv i j (lt j _ hj)).2]
 ·obtain⟨ad,e,hc,hw⟩:=hF i hi;have:=hw j k hj;rw [Nat.zero_add]at this
  dsimp only
  rw [(dv i j (lt j _ hj)).1,(dv i j (lt j _ hj)).2];exact this
end
theorem QtM{int:Nat→Int}{o:Nat}(h:InR Qc int o):(⟨int o,int (o+1),int (o+2),int (o+3),int (o+4),int (o+5),int (o+6),int (o+7),int (o+8)⟩:Ins).wf:=
 ⟨QlE (h 0 _ rfl),QlE (h 1 _ rfl),WF (h 2 _ rfl),WF (h 3 _ rfl),WF (h 4 _ rfl),WF (h 5 _ rfl),WF (h 6 _ rfl),WF (h 7 _ rfl),WF (h 8 _ rfl)⟩
end Go.Proofs.YteplnamfpodmlaaGreat
end
section
namespace Go.Proofs.YteplnamfpodmlaaGreat.T2
def Zw(I:Nat→Ins)(N:Nat)(a:Int):Int:=match QG I a N with|some k=>(k:Int)|none=> -1
def VI(I:Nat→Ins)(N:Nat)(a k:Int):Prop:=0≤k∧k≤N∧QG I a k.toNat=none
section
variable{I:Nat→Ins}{N:Nat}{a k:Int}
theorem QkB(h:VI I N a k)(hk:k < N)(hv:¬(I k.toNat).addr=a):VI I N a (k+1):=by
 obtain⟨h1,h2,h3⟩:=h;refine⟨by omega,by omega,?_⟩
 rw [show(k+1).toNat=k.toNat+1 by omega]
 unfold QG;rw [h3];exact if_neg hv
theorem Qk9(h:VI I N a k)(hk:k < N)(hv:(I k.toNat).addr=a):k=Zw I N a:=by
 obtain⟨h1,h2,h3⟩:=h
 have h4:QG I a (k.toNat+1)=some k.toNat:=by
  unfold QG;rw [h3];exact if_pos hv
 have h5:=Qan h4 (m:=N) (by omega)
 unfold Zw;rw [h5];show k=((k.toNat:Nat):Int);omega
theorem Qoj(h:VI I N a k)(hk:¬k < N):(-1:Int)=Zw I N a:=by
 obtain⟨h1,h2,h3⟩:=h;unfold Zw;rw [show N=k.toNat by omega,h3]
theorem V0{t:Nat}(h:QG I a N=some t):Zw I N a=t:=by unfold Zw;rw [h]
theorem QkA(h:QG I a N=none):Zw I N a= -1:=by unfold Zw;rw [h]
theorem Yv(h:0≤Zw I N a):∃t:Nat,QG I a N=some t∧Zw I N a=t∧t < N:=by
 unfold Zw at h ⊢;cases hf:QG I a N with
 |none=>rw [hf]at h;exact absurd h (by decide)
 |some t=>exact⟨t,rfl,rfl,(JM hf).1⟩
end
def Qqk:List Sg:= []
def Qkr:List PX:= [.l (.sl 0 (.v 2 0)),.l (.n .u32 (.v 1 0))]
def Qn3:List Rw:= [⟨0,Qc,(.v 2 0)⟩]
def Qn1:Cfg:=⟨4,Qqk,[⟨16,2,0,[.num (.s 5) (some .i64)],5,.inr (.v 2 0),false⟩],[],[]⟩
def Qqi:List Lf:=
 let z0:List Cd:= [.c (.c .geq (.v 2 0) (.i 0)) true,.g 12 0 0]
 [⟨(.c (.c .eql (.r 0 9 0 (.v 12 0)) (.v 1 0)) true :: .c (.c .geq (.v 12 0) (.i 0)) true :: .c (.c .lss (.v 12 0) (.v 2 0)) true :: z0),.v (.l (.n .i64 (.v 12 0))),[]⟩,⟨(.c (.c .lss (.v 12 0) (.v 2 0)) false :: z0),.v (.l (.n .i64 (.i (-1)))),[]⟩]
def Qqj:List Ob:=
 let z0:List Cd:= [.c (.c .lss (.v 12 0) (.v 2 0)) true,.c (.c .geq (.v 2 0) (.i 0)) true,.g 12 0 0]
 let z1:List Cd:=(.c (.c .eql (.r 0 9 0 (.v 12 0)) (.v 1 0)) false :: .c (.c .geq (.v 12 0) (.i 0)) true :: z0)
 let z2:SX:= .o .add .i64 (.v 12 0) (.i 1)
 [.inv [] 0 12 [.n .i64 (.i 0)] [],.cl [.g 12 0 0] (.c .geq (.v 2 0) (.i 0)),.cl z0 (.c .geq (.v 12 0) (.i 0)),.inv z1 0 12 [.n .i64 z2] [],.cl z1 (.c .lss (.v 12 0) z2),.cl z1 (.c .lss (.v 12 0) (.v 2 0))]
theorem Qn2:QS Tryz.prog Qn1 1000 4 16 Tryz.f16 Qkr Qn3=some (Qqi,Qqj):=by kernel_rfl
theorem QoN(base:Option Addr)(cap:Nat)(int:Nat→Int)(bool:Nat→Bool)(n:Nat)(a:Int)(hn:(n:Int) < 2 ^ 63)(w:World)(hr:XW w base n Qc int bool) :
 Calls Tryz.prog 16 #[.slice base n cap,.int .u32 a] w (Ret (.int .i64 (Zw (Q4 int) n a)) w):=by
 refine J9 (C:= []) (I:= [fun d e=>VI (Q4 int) n a (e.int d 0)]) Qo rfl Tryz.func16 Qn2 (Yu [nmR base cap int bool,nmN a,nmN n]) w ?_ ?_ _ ?_ ?_
 ·rfl
 ·intro r hr0;rw [List.mem_singleton.1 hr0];exact hr
 ·refine⟨?_,?_,?_,?_,?_,?_,trivial⟩
  all_goals
   intro e he hc;have h0:e.nm 0=nmR base cap int bool:=he 0 (by decide)
   have h1:e.nm 1=nmN a:=he 1 (by decide)
   have h2:e.nm 2=nmN n:=he 2 (by decide)
   simp only [QC,Ze,Cd.holds,dv1,dv2,di1,db2,dr1,dr2,dq1,dq2,do1,Xc,Xb,ZY,ZX,Xa,ZZ,ZW,ZV,ZU,ZT,Xe,Xd,Jc,Jb,XY,XX,Ja,XZ,List.map_cons,List.map_nil,Nat.mul_one,Nat.add_zero,List.getElem?_cons_zero,List.getElem?_cons_succ,Option.some.injEq,exists_eq_left',and_true,Env.int,Env.bool,h0,h1,h2,nmR,nmN,nmI,nmB,Jz,Wf,Xp (Nat.le_refl _)]at hc ⊢
   first
    |omega
    |(refine⟨by omega,by omega,rfl⟩;done)
    |(rw [Qrb hn (by(have hpq:=hc;(repeat (first|exact hpq|exact hpq.1|replace hpq:=hpq.2));done)) (by(have hpq:=hc;(repeat (first|exact hpq|exact hpq.1|replace hpq:=hpq.2));done))]
      have hI:VI (Q4 int) n a ((e.nm 12).int 0):=by(have hpq:=hc;(repeat (first|exact hpq|exact hpq.1|replace hpq:=hpq.2));done)
      first|exact QkB hI (by(have hpq:=hc;(repeat (first|exact hpq|exact hpq.1|replace hpq:=hpq.2));done)) hc.1|omega)
    |(have hI:VI (Q4 int) n a ((e.nm 12).int 0):=by(have hpq:=hc;(repeat (first|exact hpq|exact hpq.1|replace hpq:=hpq.2));done)
      exact hI.1)
    |(have hpq:=hc;(repeat (first|exact hpq|exact hpq.1|replace hpq:=hpq.2));done)
 ·refine⟨?_,?_,trivial⟩
  all_goals
   intro e u he hc hs;have h0:e.nm 0=nmR base cap int bool:=he 0 (by decide)
   have h1:e.nm 1=nmN a:=he 1 (by decide)
   have h2:e.nm 2=nmN n:=he 2 (by decide)
   simp only [QC,Ze,Cd.holds,dv1,dv2,di1,db2,dr1,dr2,dq1,dq2,do1,Xc,Xb,ZY,ZX,Xa,ZZ,ZW,ZV,ZU,ZT,Xe,Xd,Jc,Jb,XY,XX,Ja,XZ,List.map_cons,List.map_nil,Nat.mul_one,Nat.add_zero,List.getElem?_cons_zero,List.getElem?_cons_succ,Option.some.injEq,exists_eq_left',and_true,Env.int,Env.bool,h0,h1,h2,nmR,nmN,nmI,nmB,Xp (Nat.le_refl _)]at hc;rw [show u=_ from hs]
   simp only [PX.den,LX.den,dv1,di1];have hI:VI (Q4 int) n a ((e.nm 12).int 0):=by(have hpq:=hc;(repeat (first|exact hpq|exact hpq.1|replace hpq:=hpq.2));done)
   first
    |rw [Qk9 hI (by(have hpq:=hc;(repeat (first|exact hpq|exact hpq.1|replace hpq:=hpq.2));done)) hc.1]
    |rw [Qoj hI hc.1]
def VR:Kon Tryz.prog:=Kon.fn 16 [.sl Qc,.l (some .u32)] (.l (some .i64)) false (fun ads=>match ads with| [d1,_]=>(Xz d1.val:Int) < 2 ^ 63|_=>False)
 (fun ads=>match ads with| [d1,d2]=>fun _=>Zw (Q4 d1.int) (Xz d1.val) (Q3 d2)|_=>fun _=>0) (fun _ _=>false) ⟨_,Tryz.func16,by kernel_rfl,by kernel_rfl⟩ (fun h=>by cases h) (fun ads w hf hp=>by
   obtain⟨d1,_,rfl,f1,hf⟩:=Qg hf;obtain⟨d2,_,rfl,f2,hf⟩:=Qg hf;obtain rfl:=Qm hf;obtain⟨g1,g2⟩:=VO f1;show Calls _ _ #[d1.val,d2.val] w _;rw [g1,QB f2];exact QoN _ _ d1.int d1.bool _ _ hp w g2)
end Go.Proofs.YteplnamfpodmlaaGreat.T2
end
section
namespace Go.Proofs.YteplnamfpodmlaaGreat.T2
end Go.Proofs.YteplnamfpodmlaaGreat.T2
end
section
namespace Go.Proofs.YteplnamfpodmlaaGreat.T2
def lIs(l:List Int)(n:Int)(c:Nat→Int):Prop:=n=(l.length:Int)∧∀k x,l[k]?=some x→c k=x
theorem QnN{c:Nat→Int}:lIs [] 0 c:=⟨rfl,fun k x h=>by simp at h⟩
theorem lIs.push{l:List Int}{n x:Int}{c c':Nat→Int}(h:lIs l n c)(hc:c'=QA c n.toNat [x]):lIs (l ++ [x]) (n+1) c':=by
 obtain⟨h1,h2⟩:=h;refine⟨by rw [h1,List.length_append];simp,fun k y hk=>?_⟩
 have e:n.toNat=l.length:=by rw [h1];rfl
 rw [hc,e,J1];rw [List.getElem?_append]at hk;split at hk
 ·rw [if_neg (by omega)]
  exact h2 k y hk
 ·rename_i hlt;have hk2:=(List.getElem?_eq_some_iff.1 hk).1;simp only [List.length_cons,List.length_nil]at hk2;have hk0:k=l.length:=by omega
  subst hk0;rw [if_pos rfl]
  simpa using hk
def hasA(I:Nat→Ins)(N:Nat)(x:Int):Bool:=(QG I x N).isSome
def K9(I:Nat→Ins)(N k:Nat):List Int:=if QG I (I k).addr N=some k then(Q9 (I k)).filter (hasA I N)else []
structure J3(I:Nat→Ins)(N k:Nat)(h a o:Nm):Prop where
 v:Qv (I k)=true
 s:QG I (I k).addr N=some k
 al:lIs (Q9 (I k)) (h.int 1) a.int
 i0:0≤h.int 0
 i1:h.int 0≤h.int 1
 ol:lIs (((Q9 (I k)).take (h.int 0).toNat).filter (hasA I N)) (h.int 2) o.int
theorem VE(i:Ins):(Q9 i).length≤2:=by
 unfold Q9
 (repeat' split) <;> simp
section
variable{I:Nat→Ins}{N k:Nat}{h h' a a' o o':Nm}
theorem J3.b1(H:J3 I N k h a o):h.int 1≤2:=by
 have:=H.al.1;have:=VE (I k);omega
theorem J3.b2(H:J3 I N k h a o):0≤h.int 2∧h.int 2≤h.int 0:=by
 have h1:=H.ol.1;have h2:(((Q9 (I k)).take (h.int 0).toNat).filter (hasA I N)).length≤(h.int 0).toNat:=Nat.le_trans (List.length_filter_le _ _) (by rw [List.length_take];exact Nat.min_le_left _ _)
 have:=H.i0;omega
theorem J3.get(H:J3 I N k h a o)(hi:h.int 0 < h.int 1):∃x,(Q9 (I k))[(h.int 0).toNat]?=some x∧a.int (h.int 0).toNat=x:=by
 have h0:=H.i0;have h1:=H.al.1;have hl:(h.int 0).toNat < (Q9 (I k)).length:=by omega
 exact⟨_,List.getElem?_eq_getElem hl,H.al.2 _ _ (List.getElem?_eq_getElem hl)⟩
theorem Qfo{l:List Int}{n:Nat}{x:Int}(hx:l[n]?=some x):l.take (n+1)=l.take n ++ [x]:=by
 rw [List.take_add_one,hx];rfl
theorem J3.more(H:J3 I N k h a o)(hi:h.int 0 < h.int 1)(hf:0≤Zw I N (a.int (h.int 0).toNat))(h0:h'.int 0=h.int 0+1)(h1:h'.int 1=h.int 1)(h2:h'.int 2=h.int 2+1)(ha:a'.int=a.int)(ho:o'.int=QA o.int (h.int 2).toNat [a.int (h.int 0).toNat]):J3 I N k h' a' o' where
 v:=H.v
 s:=H.s
 al:=by rw [h1,ha];exact H.al
 i0:=by have:=H.i0;omega
 i1:=by omega
 ol:=by
  obtain⟨x,hx,hx2⟩:=H.get hi;have:=H.i0;rw [h0,show(h.int 0+1).toNat=(h.int 0).toNat+1 by omega,Qfo hx,List.filter_append,h2]
  obtain⟨t,ht, -⟩:=Yv hf;rw [hx2]at ht ho;have hq:List.filter (hasA I N) [x]= [x]:=by simp [hasA,ht]
  rw [hq];exact H.ol.push ho
theorem J3.less(H:J3 I N k h a o)(hi:h.int 0 < h.int 1)(hf:¬0≤Zw I N (a.int (h.int 0).toNat))(h0:h'.int 0=h.int 0+1)(h1:h'.int 1=h.int 1)(h2:h'.int 2=h.int 2)(ha:a'.int=a.int)(ho:o'.int=o.int):J3 I N k h' a' o' where
 v:=H.v
 s:=H.s
 al:=by rw [h1,ha];exact H.al
 i0:=by have:=H.i0;omega
 i1:=by omega
 ol:=by
  obtain⟨x,hx,hx2⟩:=H.get hi;have:=H.i0;rw [h0,show(h.int 0+1).toNat=(h.int 0).toNat+1 by omega,Qfo hx,List.filter_append,h2,ho]
  rw [hx2]at hf
  have hn:QG I x N=none:=by
   cases hq:QG I x N with
   |none=>rfl
   |some t=>exact absurd (by rw [V0 hq];omega) hf
  have hq:List.filter (hasA I N) [x]= []:=by simp [hasA,hn]
  rw [hq,List.append_nil];exact H.ol
theorem J3.fin(H:J3 I N k h a o)(hi:¬h.int 0 < h.int 1):lIs (K9 I N k) (h.int 2) o.int:=by
 have:=H.ol;have h1:=H.al.1;rw [List.take_of_length_le (by omega)]at this
 unfold K9;rw [if_pos H.s];exact this
theorem J3.start(v:Qv (I k)=true)(s:QG I (I k).addr N=some k)(al:lIs (Q9 (I k)) (h.int 1) a.int)(h0:h.int 0=0)(h2:h.int 2=0):J3 I N k h a o where
 v:=v
 s:=s
 al:=al
 i0:=by omega
 i1:=by have:=al.1;omega
 ol:=by rw [h0,h2];exact QnN
end
theorem Qi4{i:Ins}(v:Qv i=true):Q9 i=(if YO i=true then [i.imm]else []) ++ (if KQ i=true then []else [VY i]):=by unfold Q9;rw [if_pos v]
theorem Wp{i:Ins}:YO i=true↔i.op=20∨i.op=23:=by unfold YO;simp
theorem Quo{c:Nat→Int}{x:Int}(h:c 0=x):lIs [x] 1 c:=⟨rfl,fun k y hk=>by
 match k,hk with
 |0,hk=>cases hk;exact h⟩
theorem Quy{c:Nat→Int}{x z:Int}(h:c 0=x)(h1:c 1=z):lIs [x,z] 2 c:=⟨rfl,fun k y hk=>by
 match k,hk with
 |0,hk=>cases hk;exact h
 |1,hk=>cases hk;exact h1⟩
theorem Qro{d:AD}{m m':Nm}:XA.kon.post [d] m m'↔(m.int=fun _=>0)∧(m.bool=fun _=>Qv (QL d)):=Iff.rfl
theorem Qrp{d1 d2:AD}{m m':Nm}:VR.post [d1,d2] m m'↔(m.int=fun _=>Zw (Q4 d1.int) (Xz d1.val) (Q3 d2))∧m.bool=fun _=>false:=Iff.rfl
theorem Qrq{d:AD}{m m':Nm}:QfZ.kon.post [d] m m'↔(m.int=fun _=>0)∧(m.bool=fun _=>KQ (QL d)):=Iff.rfl
theorem Qrr{d:AD}{m m':Nm}:Qgb.kon.post [d] m m'↔(m.int=fun _=>VY (QL d))∧(m.bool=fun _=>false):=Iff.rfl
def edC:List (Kon Tryz.prog):= [XA.kon,VR,QfZ.kon,Qgb.kon]
theorem ed0:edC[0]?=some XA.kon:=rfl
theorem ed1:edC[1]?=some VR:=rfl
theorem ed2:edC[2]?=some QfZ.kon:=rfl
theorem ed3:edC[3]?=some Qgb.kon:=rfl
def QpR:List Sg:= [⟨42,[.a Qc],.b (.l none),true,false⟩,⟨16,[.sl Qc,.l (some .u32)],.b (.l (some .i64)),true,false⟩,⟨43,[.a Qc],.b (.l none),true,false⟩,⟨44,[.a Qc],.b (.l (some .u32)),true,false⟩]
def Qkh:List PX:= [.l (.sl 0 (.v 2 0)),.l (.n .i64 (.v 1 0))]
def Qnm:List Rw:= [⟨0,Qc,(.v 2 0)⟩]
def Qnk:Cfg:=⟨4,QpR,[⟨21,10,0,[.num (.s 8) (some .i64),.row (.s 5) [some .u32],.row (.s 6) [some .u32]],8,.inr (.i 4),false⟩],[],[]⟩
def QpP:List Lf:=
 let z0:List LX:= [.n .u32 (.r 0 9 1 (.v 1 0))]
 let z1:List Cd:= [.c (.c .lss (.v 156 0) (.v 156 1)) false,.c (.c .geq (.v 156 1) (.i 0)) true,.g 156 2 0]
 let z2:List Bk:= [⟨157,.row [some .u32] (.v 156 1) 157⟩,⟨158,.row [some .u32] (.v 156 2) 158⟩]
 [⟨[.c (.an (.v 44 0) (.no (.c .neq (.v 68 0) (.v 1 0)))) false,.f 68 1 [(.l (.sl 0 (.v 2 0)),0),(.l (.n .u32 (.r 0 9 0 (.v 1 0))),0)],.f 44 0 [(.a (rxL 0 9 (.v 1 0) 0 Qc),0)],.c (.c .geq (.v 1 0) (.i 0)) true,.c (.c .lss (.v 1 0) (.v 2 0)) true,.c (.c .geq (.v 2 0) (.i 0)) true],.v (.l (.ns)),[⟨32,.cells 41 ((rxL 0 9 (.v 1 0) 0 Qc))⟩]⟩,⟨[.c (.c .lss (.v 180 0) (.v 180 1)) false,.c (.c .geq (.v 180 1) (.i 0)) true,.g 180 2 0],.v (.l (.sl 182 (.v 180 2))),[⟨32,.cells 41 ((rxL 0 9 (.v 1 0) 0 Qc))⟩,⟨128,.cells 23 z0⟩,⟨164,.cells 23 [.n .u32 (.v 160 0)]⟩,⟨181,.row [some .u32] (.v 180 1) 181⟩,⟨182,.row [some .u32] (.v 180 2) 182⟩]⟩,⟨z1,.v (.l (.sl 158 (.v 156 2))),(⟨32,.cells 41 ((rxL 0 9 (.v 1 0) 0 Qc))⟩ :: ⟨128,.cells 23 z0⟩ :: z2)⟩,⟨z1,.v (.l (.sl 158 (.v 156 2))),(⟨32,.cells 41 ((rxL 0 9 (.v 1 0) 0 Qc))⟩ :: ⟨140,.cells 23 [.n .u32 (.v 136 0)]⟩ :: z2)⟩,⟨[.c (.c .lss (.v 132 0) (.v 132 1)) false,.c (.c .geq (.v 132 1) (.i 0)) true,.g 132 2 0],.v (.l (.sl 134 (.v 132 2))),[⟨32,.cells 41 ((rxL 0 9 (.v 1 0) 0 Qc))⟩,⟨133,.row [some .u32] (.v 132 1) 133⟩,⟨134,.row [some .u32] (.v 132 2) 134⟩]⟩]
def QpQ:List Ob:=
 let z0:List Cd:= [.c (.c .geq (.v 1 0) (.i 0)) true,.c (.c .lss (.v 1 0) (.v 2 0)) true,.c (.c .geq (.v 2 0) (.i 0)) true]
 let z1:PX:= .a (rxL 0 9 (.v 1 0) 0 Qc)
 let z2:PX:= .l (.sl 0 (.v 2 0))
 let z3:PX:= .l (.n .u32 (.r 0 9 0 (.v 1 0)))
 let z4:SX:= .c .eql (.r 0 9 2 (.v 1 0)) (.i 20)
 let z5:SX:= .c .eql (.r 0 9 2 (.v 1 0)) (.i 23)
 let z6:List Cd:=(.c (.v 44 0) true :: .c (.c .neq (.v 68 0) (.v 1 0)) false :: .f 68 1 [(z2,0),(z3,0)] :: .f 44 0 [(z1,0)] :: z0)
 let z7:List Cd:=(.u 132 none (.i 0) 1 0 [.n .u32 (.r 0 9 1 (.v 1 0))] :: .c (.an (.no z4) (.no z5)) false :: z6)
 let z8:List Cd:=(.c (.v 144 0) false :: .f 144 2 [(z1,0)] :: z7)
 let z9:LX:= .n .i64 (.i 0)
 let z10:List Cd:= [.c (.c .lss (.v 180 0) (.v 180 1)) true,.c (.c .geq (.v 180 1) (.i 0)) true,.g 180 2 0]
 let z11:List Cd:=(.c (.c .geq (.v 180 0) (.i 0)) true :: z10)
 let z12:LX:= .n .u32 (.r 181 1 0 (.v 180 0))
 let z13:List Cd:=(.f 219 1 [(z2,0),(.l z12,0)] :: z11)
 let z14:List Cd:=(.c (.c .geq (.v 219 0) (.i 0)) true :: z13)
 let z15:SX:= .c .leq (.v 180 2) (.i 1000000)
 let z16:List Cd:=(.u 251 (some 182) (.v 180 2) 1 0 [z12] :: .c (.c .geq (.v 180 2) (.i 0)) true :: .c z15 true :: z14)
 let z17:SX:= .o .add .i64 (.v 180 0) (.i 1)
 let z18:List Cd:=(.c (.c .geq (.v 219 0) (.i 0)) false :: z13)
 let z19:List Cd:=(.c z4 false :: .c z5 false :: z6)
 let z20:List Cd:=(.c (.v 120 0) false :: .f 120 2 [(z1,0)] :: z19)
 let z21:List Cd:= [.c (.c .lss (.v 156 0) (.v 156 1)) true,.c (.c .geq (.v 156 1) (.i 0)) true,.g 156 2 0]
 let z22:List Cd:=(.c (.c .geq (.v 156 0) (.i 0)) true :: z21)
 let z23:LX:= .n .u32 (.r 157 1 0 (.v 156 0))
 let z24:List Cd:=(.f 195 1 [(z2,0),(.l z23,0)] :: z22)
 let z25:List Cd:=(.c (.c .geq (.v 195 0) (.i 0)) true :: z24)
 let z26:SX:= .c .leq (.v 156 2) (.i 1000000)
 let z27:List Cd:=(.u 227 (some 158) (.v 156 2) 1 0 [z23] :: .c (.c .geq (.v 156 2) (.i 0)) true :: .c z26 true :: z25)
 let z28:SX:= .o .add .i64 (.v 156 0) (.i 1)
 let z29:List Cd:=(.c (.c .geq (.v 195 0) (.i 0)) false :: z24)
 let z30:List Cd:= [.c (.c .lss (.v 132 0) (.v 132 1)) true,.c (.c .geq (.v 132 1) (.i 0)) true,.g 132 2 0]
 let z31:List Cd:=(.c (.c .geq (.v 132 0) (.i 0)) true :: z30)
 let z32:LX:= .n .u32 (.r 133 1 0 (.v 132 0))
 let z33:List Cd:=(.f 171 1 [(z2,0),(.l z32,0)] :: z31)
 let z34:List Cd:=(.c (.c .geq (.v 171 0) (.i 0)) true :: z33)
 let z35:SX:= .c .leq (.v 132 2) (.i 1000000)
 let z36:List Cd:=(.u 203 (some 134) (.v 132 2) 1 0 [z32] :: .c (.c .geq (.v 132 2) (.i 0)) true :: .c z35 true :: z34)
 let z37:SX:= .o .add .i64 (.v 132 0) (.i 1)
 let z38:List Cd:=(.c (.c .geq (.v 171 0) (.i 0)) false :: z33)
 [.cl [] (.c .geq (.v 1 0) (.i 0)),.cl [] (.c .lss (.v 1 0) (.v 2 0)),.cl [] (.c .geq (.v 2 0) (.i 0)),.pre z0 0 [(z1,0)],.pre (.c (.v 44 0) true :: .f 44 0 [(z1,0)] :: z0) 1 [(z2,0),(z3,0)],.pre z7 2 [(z1,0)],.pre z8 3 [(z1,0)],.inv (.u 168 (some 132) (.i 1) 1 0 [.n .u32 (.v 160 0)] :: .f 160 3 [(z1,0)] :: z8) 0 180 [z9,.n .i64 (.i 2),z9] [some (168,168),none],.cl [.g 180 2 0] (.c .geq (.v 180 1) (.i 0)),.cl z10 (.c .geq (.v 180 0) (.i 0)),.pre z11 1 [(z2,0),(.l z12,0)],.cl z14 (.c .geq (.v 180 2) (.i 0)),.cl z14 z15,.inv z16 0 180 [.n .i64 z17,.n .i64 (.v 180 1),.n .i64 (.o .add .i64 (.v 180 2) (.i 1))] [some (181,181),some (251,251)],.cl z16 (.c .lss (.v 180 0) z17),.cl z16 (.c .lss (.v 180 0) (.i 4)),.inv z18 0 180 [.n .i64 z17,.n .i64 (.v 180 1),.n .i64 (.v 180 2)] [some (181,181),some (182,182)],.cl z18 (.c .lss (.v 180 0) z17),.cl z18 (.c .lss (.v 180 0) (.i 4)),.inv (.c (.v 144 0) true :: .f 144 2 [(z1,0)] :: z7) 0 156 [z9,.n .i64 (.i 1),z9] [some (132,132),none],.pre z19 2 [(z1,0)],.pre z20 3 [(z1,0)],.inv (.u 144 none (.i 0) 1 0 [.n .u32 (.v 136 0)] :: .f 136 3 [(z1,0)] :: z20) 0 156 [z9,.n .i64 (.i 1),z9] [some (144,144),none],.cl [.g 156 2 0] (.c .geq (.v 156 1) (.i 0)),.cl z21 (.c .geq (.v 156 0) (.i 0)),.pre z22 1 [(z2,0),(.l z23,0)],.cl z25 (.c .geq (.v 156 2) (.i 0)),.cl z25 z26,.inv z27 0 156 [.n .i64 z28,.n .i64 (.v 156 1),.n .i64 (.o .add .i64 (.v 156 2) (.i 1))] [some (157,157),some (227,227)],.cl z27 (.c .lss (.v 156 0) z28),.cl z27 (.c .lss (.v 156 0) (.i 4)),.inv z29 0 156 [.n .i64 z28,.n .i64 (.v 156 1),.n .i64 (.v 156 2)] [some (157,157),some (158,158)],.cl z29 (.c .lss (.v 156 0) z28),.cl z29 (.c .lss (.v 156 0) (.i 4)),.inv (.c (.v 120 0) true :: .f 120 2 [(z1,0)] :: z19) 0 132 [z9,z9,z9] [none,none],.cl [.g 132 2 0] (.c .geq (.v 132 1) (.i 0)),.cl z30 (.c .geq (.v 132 0) (.i 0)),.pre z31 1 [(z2,0),(.l z32,0)],.cl z34 (.c .geq (.v 132 2) (.i 0)),.cl z34 z35,.inv z36 0 132 [.n .i64 z37,.n .i64 (.v 132 1),.n .i64 (.o .add .i64 (.v 132 2) (.i 1))] [some (133,133),some (203,203)],.cl z36 (.c .lss (.v 132 0) z37),.cl z36 (.c .lss (.v 132 0) (.i 4)),.inv z38 0 132 [.n .i64 z37,.n .i64 (.v 132 1),.n .i64 (.v 132 2)] [some (133,133),some (134,134)],.cl z38 (.c .lss (.v 132 0) z37),.cl z38 (.c .lss (.v 132 0) (.i 4))]
theorem Qnl:QS Tryz.prog Qnk 1000 4 21 Tryz.f21 Qkh Qnm=some (QpP,QpQ):=by kernel_rfl
set_option maxHeartbeats 4000000 in
theorem Qlo(base:Option Addr)(cap:Nat)(int:Nat→Int)(bool:Nat→Bool)(n k:Nat)(hk:k < n)(hn:(n:Int) < 2 ^ 63)(w:World)(hr:XW w base n Qc int bool) :
 Calls Tryz.prog 21 #[.slice base n cap,.int .i64 k] w fun en w'=>∃m m',en= .returned ((RZ.s [some .u32]).val m m')∧Below w.heap.size w w'∧Ju (K9 (Q4 int) n k) m m'∧(RZ.s [some .u32]).mem w.heap.size w' m m':=by
 refine WR (C:=edC) (I:= [fun d e=>J3 (Q4 int) n k (e.nm d) (e.nm (d+1)) (e.nm (d+2))]) Qo rfl Tryz.func21 Qnl (Yu [nmR base cap int bool,nmN k,nmN n]) w rfl ?_ (.s [some .u32]) _ ?_ ?_
 ·intro r hr0;rw [List.mem_singleton.1 hr0];exact hr
 ·refine⟨?_,?_,?_,?_,?_,?_,?_,?_,?_,?_,?_,?_,?_,?_,?_,?_,?_,?_,?_,?_,?_,?_,?_,?_,?_,?_,?_,?_,?_,?_,?_,?_,?_,?_,?_,?_,?_,?_,?_,?_,?_,?_,?_,?_,?_,?_,trivial⟩
  all_goals
   intro e he hc;have h0:e.nm 0=nmR base cap int bool:=he 0 (by decide)
   have h1:e.nm 1=nmN k:=he 1 (by decide)
   have h2:e.nm 2=nmN n:=he 2 (by decide)
   have hD:QL (PX.dat e 0 (.a (rxL 0 9 (.v 1 0) 0 Qc)))=Q4 int k:=by
    rw [Qcp];show Q4 (e.nm 0).int ((e.nm 1).int 0).toNat=_;rw [h0,h1];rfl
   simp only [QC,Ze,Cd.holds,dv1,dv2,di1,db2,dr1,dr2,dq1,dq2,do1,Xc,Xb,ZY,ZX,Xa,ZZ,ZW,ZV,ZU,ZT,Xe,Xd,Jc,Jb,XY,XX,Ja,XZ,List.map_cons,List.map_nil,Nat.mul_one,Nat.add_zero,List.getElem?_cons_zero,List.getElem?_cons_succ,Option.some.injEq,exists_eq_left',and_true,and_assoc,Env.int,Env.bool,Xp,Nat.reduceLeDiff,Nat.reduceAdd,ed0,ed1,ed2,ed3,Qro,Qrp,Qrq,Qrr,Jk,hD,h0,h1,h2,nmR,nmN,nmI]at hc
   first
    |exact True.intro
    |(show(((e.nm 2).int 0).toNat:Int) < 2 ^ 63;rw [h2];show((n:Int).toNat:Int) < 2 ^ 63;omega)
    |(simp only [QC,Ze,Cd.holds,dv1,dv2,di1,db2,dr1,dr2,dq1,dq2,do1,Xc,Xb,ZY,ZX,Xa,ZZ,ZW,ZV,ZU,ZT,Xe,Xd,Jc,Jb,XY,XX,Ja,XZ,List.map_cons,List.map_nil,Nat.mul_one,Nat.add_zero,List.getElem?_cons_zero,List.getElem?_cons_succ,Option.some.injEq,exists_eq_left',and_true,and_assoc,Env.int,Env.bool,Xp,Nat.reduceLeDiff,Nat.reduceAdd,h0,h1,h2,nmR,nmN,nmI];first
       |omega
       |(first
          |(have H:J3 (Q4 int) n k (e.nm 180) (e.nm 181) (e.nm 182):=by(have hpq:=hc;(repeat (first|exact hpq|exact hpq.1|replace hpq:=hpq.2));done)
            have b0:=H.i0;have b1:=H.b1;have b2:=H.b2;have b3:=H.i1
            first|omega|(rw [Q7 (by omega) (by omega)];omega))
          |(have H:J3 (Q4 int) n k (e.nm 156) (e.nm 157) (e.nm 158):=by(have hpq:=hc;(repeat (first|exact hpq|exact hpq.1|replace hpq:=hpq.2));done)
            have b0:=H.i0;have b1:=H.b1;have b2:=H.b2;have b3:=H.i1
            first|omega|(rw [Q7 (by omega) (by omega)];omega))
          |(have H:J3 (Q4 int) n k (e.nm 132) (e.nm 133) (e.nm 134):=by(have hpq:=hc;(repeat (first|exact hpq|exact hpq.1|replace hpq:=hpq.2));done)
            have b0:=H.i0;have b1:=H.b1;have b2:=H.b2;have b3:=H.i1
            first|omega|(rw [Q7 (by omega) (by omega)];omega))
          |fail ""))
    |skip
  all_goals
   try (have c44:(e.nm 44).bool 0=true:=by(have hpq:=hc;(repeat (first|exact hpq|exact hpq.1|replace hpq:=hpq.2));done)
        have f44:(e.nm 44).bool=fun _=>Qv (Q4 int k):=by(have hpq:=hc;(repeat (first|exact hpq|exact hpq.1|replace hpq:=hpq.2));done)
        have hv:Qv (Q4 int k)=true:=by rw [←congrFun f44 0];exact c44
        have c68:(e.nm 68).int 0=(k:Int):=by(have hpq:=hc;(repeat (first|exact hpq|exact hpq.1|replace hpq:=hpq.2));done)
        have f68:(e.nm 68).int=fun _=>Zw (Q4 (e.nm 0).int) ((e.nm 2).int 0).toNat ((e.nm 0).int (((e.nm 1).int 0).toNat * 9+0)):=by(have hpq:=hc;(repeat (first|exact hpq|exact hpq.1|replace hpq:=hpq.2));done)
        have s68:(e.nm 68).int 0=Zw (Q4 int) n (Q4 int k).addr:=by rw [f68,h0,h1,h2];rfl
        obtain⟨t,t1,t2,t3⟩:=Yv (I:=Q4 int) (N:=n) (a:=(Q4 int k).addr) (by rw [←s68,c68];omega)
        have hs:QG (Q4 int) (Q4 int k).addr n=some k:=by rw [t1];congr 1;omega)
  ·have T:Q9 (Q4 int k)= [(Q4 int k).imm,VY (Q4 int k)]:=by
    have c1:¬(¬int ((k:Int).toNat * 9+2)=20∧¬int ((k:Int).toNat * 9+2)=23):=by(have hpq:=hc;(repeat (first|exact hpq|exact hpq.1|replace hpq:=hpq.2));done)
    have f2:(e.nm 144).bool=fun _=>KQ (Q4 int k):=by(have hpq:=hc;(repeat (first|exact hpq|exact hpq.1|replace hpq:=hpq.2));done)
    have c2:(e.nm 144).bool 0=false:=by(have hpq:=hc;(repeat (first|exact hpq|exact hpq.1|replace hpq:=hpq.2));done)
    have c3:KQ (Q4 int k)=false:=by rw [←congrFun f2 0];exact c2
    rw [Qi4 hv,if_pos (Wp.2 (by show int (k * 9+2)=20∨int (k * 9+2)=23;rw [Int.toNat_natCast]at c1;omega)),c3]
    rfl
   refine J3.start hv hs ?_ rfl rfl;rw [T];have u1:(e.nm 168).int=QA (e.nm 132).int (Int.toNat 1) [QZ e (LX.n IntKind.u32 (SX.v 160 0))]:=by(have hpq:=hc;(repeat (first|exact hpq|exact hpq.1|replace hpq:=hpq.2));done)
   have u2:(e.nm 132).int=QA (fun _=>0) (Int.toNat 0) [QZ e (LX.n IntKind.u32 (SX.r 0 9 1 (SX.v 1 0)))]:=by(have hpq:=hc;(repeat (first|exact hpq|exact hpq.1|replace hpq:=hpq.2));done)
   have f3:(e.nm 160).int=fun _=>VY (Q4 int k):=by(have hpq:=hc;(repeat (first|exact hpq|exact hpq.1|replace hpq:=hpq.2));done)
   refine Quy (c:=(e.nm 168).int) ?_ ?_
   ·rw [u1,J1,if_neg (by decide),u2,J1,if_pos (by decide)]
    show(e.nm 0).int (((e.nm 1).int 0).toNat * 9+1)=_;rw [h0,h1];rfl
   ·rw [u1,J1,if_pos (by decide)]
    show(e.nm 160).int 0=_;rw [f3]
  ·have H:J3 (Q4 int) n k (e.nm 180) (e.nm 181) (e.nm 182):=by(have hpq:=hc;(repeat (first|exact hpq|exact hpq.1|replace hpq:=hpq.2));done)
   have hlt:(e.nm 180).int 0 < (e.nm 180).int 1:=by(have hpq:=hc;(repeat (first|exact hpq|exact hpq.1|replace hpq:=hpq.2));done)
   have b0:=H.i0;have b1:=H.b1;have b2:=H.b2;have f1:(e.nm 219).int=fun _=>Zw (Q4 (e.nm 0).int) ((e.nm 2).int 0).toNat ((e.nm 181).int (((e.nm 180).int 0).toNat * 1+0)):=by(have hpq:=hc;(repeat (first|exact hpq|exact hpq.1|replace hpq:=hpq.2));done)
   have hf:(e.nm 219).int 0=Zw (Q4 int) n ((e.nm 181).int ((e.nm 180).int 0).toNat):=by rw [f1,h0,h2,Nat.mul_one,Nat.add_zero];rfl
   have c1:0≤(e.nm 219).int 0:=by(have hpq:=hc;(repeat (first|exact hpq|exact hpq.1|replace hpq:=hpq.2));done)
   have u1:(e.nm 251).int=QA (e.nm 182).int ((e.nm 180).int 2).toNat [QZ e (LX.n IntKind.u32 (SX.r 181 1 0 (SX.v 180 0)))]:=by(have hpq:=hc;(repeat (first|exact hpq|exact hpq.1|replace hpq:=hpq.2));done)
   have hl:QZ e (LX.n IntKind.u32 (SX.r 181 1 0 (SX.v 180 0)))=(e.nm 181).int ((e.nm 180).int 0).toNat:=by
    show(e.nm 181).int (((e.nm 180).int 0).toNat * 1+0)=_;rw [Nat.mul_one,Nat.add_zero]
   rw [hl]at u1;have s0:IntKind.i64.wrap ((e.nm 180).int 0+1)=(e.nm 180).int 0+1:=Q7 b0 (by omega)
   have s2:IntKind.i64.wrap ((e.nm 180).int 2+1)=(e.nm 180).int 2+1:=Q7 b2.1 (by omega)
   exact H.more hlt (by rw [←hf];exact c1) s0 rfl s2 rfl u1
  ·have H:J3 (Q4 int) n k (e.nm 180) (e.nm 181) (e.nm 182):=by(have hpq:=hc;(repeat (first|exact hpq|exact hpq.1|replace hpq:=hpq.2));done)
   have hlt:(e.nm 180).int 0 < (e.nm 180).int 1:=by(have hpq:=hc;(repeat (first|exact hpq|exact hpq.1|replace hpq:=hpq.2));done)
   have b0:=H.i0;have b1:=H.b1;have b2:=H.b2;have f1:(e.nm 219).int=fun _=>Zw (Q4 (e.nm 0).int) ((e.nm 2).int 0).toNat ((e.nm 181).int (((e.nm 180).int 0).toNat * 1+0)):=by(have hpq:=hc;(repeat (first|exact hpq|exact hpq.1|replace hpq:=hpq.2));done)
   have hf:(e.nm 219).int 0=Zw (Q4 int) n ((e.nm 181).int ((e.nm 180).int 0).toNat):=by rw [f1,h0,h2,Nat.mul_one,Nat.add_zero];rfl
   have c1:¬0≤(e.nm 219).int 0:=by(have hpq:=hc;(repeat (first|exact hpq|exact hpq.1|replace hpq:=hpq.2));done)
   have s0:IntKind.i64.wrap ((e.nm 180).int 0+1)=(e.nm 180).int 0+1:=Q7 b0 (by omega)
   exact H.less hlt (by rw [←hf];exact c1) s0 rfl rfl rfl rfl
  ·have T:Q9 (Q4 int k)= [(Q4 int k).imm]:=by
    have c1:¬(¬int ((k:Int).toNat * 9+2)=20∧¬int ((k:Int).toNat * 9+2)=23):=by(have hpq:=hc;(repeat (first|exact hpq|exact hpq.1|replace hpq:=hpq.2));done)
    have f2:(e.nm 144).bool=fun _=>KQ (Q4 int k):=by(have hpq:=hc;(repeat (first|exact hpq|exact hpq.1|replace hpq:=hpq.2));done)
    have c2:(e.nm 144).bool 0=true:=by(have hpq:=hc;(repeat (first|exact hpq|exact hpq.1|replace hpq:=hpq.2));done)
    have c3:KQ (Q4 int k)=true:=by rw [←congrFun f2 0];exact c2
    rw [Qi4 hv,if_pos (Wp.2 (by show int (k * 9+2)=20∨int (k * 9+2)=23;rw [Int.toNat_natCast]at c1;omega)),c3]
    rfl
   refine J3.start hv hs ?_ rfl rfl;rw [T];have u2:(e.nm 132).int=QA (fun _=>0) (Int.toNat 0) [QZ e (LX.n IntKind.u32 (SX.r 0 9 1 (SX.v 1 0)))]:=by(have hpq:=hc;(repeat (first|exact hpq|exact hpq.1|replace hpq:=hpq.2));done)
   refine Quo (c:=(e.nm 132).int) ?_;rw [u2,J1,if_pos (by decide)]
   show(e.nm 0).int (((e.nm 1).int 0).toNat * 9+1)=_;rw [h0,h1];rfl
  ·have T:Q9 (Q4 int k)= [VY (Q4 int k)]:=by
    have c1:¬int ((k:Int).toNat * 9+2)=20:=by(have hpq:=hc;(repeat (first|exact hpq|exact hpq.1|replace hpq:=hpq.2));done)
    have c1':¬int ((k:Int).toNat * 9+2)=23:=by(have hpq:=hc;(repeat (first|exact hpq|exact hpq.1|replace hpq:=hpq.2));done)
    have f2:(e.nm 120).bool=fun _=>KQ (Q4 int k):=by(have hpq:=hc;(repeat (first|exact hpq|exact hpq.1|replace hpq:=hpq.2));done)
    have c2:(e.nm 120).bool 0=false:=by(have hpq:=hc;(repeat (first|exact hpq|exact hpq.1|replace hpq:=hpq.2));done)
    have c3:KQ (Q4 int k)=false:=by rw [←congrFun f2 0];exact c2
    rw [Qi4 hv,if_neg (fun h=>(Wp.1 h).elim c1 c1'),c3]
    rfl
   refine J3.start hv hs ?_ rfl rfl;rw [T];have u1:(e.nm 144).int=QA (fun _=>0) (Int.toNat 0) [QZ e (LX.n IntKind.u32 (SX.v 136 0))]:=by(have hpq:=hc;(repeat (first|exact hpq|exact hpq.1|replace hpq:=hpq.2));done)
   have f3:(e.nm 136).int=fun _=>VY (Q4 int k):=by(have hpq:=hc;(repeat (first|exact hpq|exact hpq.1|replace hpq:=hpq.2));done)
   refine Quo (c:=(e.nm 144).int) ?_;rw [u1,J1,if_pos (by decide)]
   show(e.nm 136).int 0=_;rw [f3]
  ·have H:J3 (Q4 int) n k (e.nm 156) (e.nm 157) (e.nm 158):=by(have hpq:=hc;(repeat (first|exact hpq|exact hpq.1|replace hpq:=hpq.2));done)
   have hlt:(e.nm 156).int 0 < (e.nm 156).int 1:=by(have hpq:=hc;(repeat (first|exact hpq|exact hpq.1|replace hpq:=hpq.2));done)
   have b0:=H.i0;have b1:=H.b1;have b2:=H.b2;have f1:(e.nm 195).int=fun _=>Zw (Q4 (e.nm 0).int) ((e.nm 2).int 0).toNat ((e.nm 157).int (((e.nm 156).int 0).toNat * 1+0)):=by(have hpq:=hc;(repeat (first|exact hpq|exact hpq.1|replace hpq:=hpq.2));done)
   have hf:(e.nm 195).int 0=Zw (Q4 int) n ((e.nm 157).int ((e.nm 156).int 0).toNat):=by rw [f1,h0,h2,Nat.mul_one,Nat.add_zero];rfl
   have c1:0≤(e.nm 195).int 0:=by(have hpq:=hc;(repeat (first|exact hpq|exact hpq.1|replace hpq:=hpq.2));done)
   have u1:(e.nm 227).int=QA (e.nm 158).int ((e.nm 156).int 2).toNat [QZ e (LX.n IntKind.u32 (SX.r 157 1 0 (SX.v 156 0)))]:=by(have hpq:=hc;(repeat (first|exact hpq|exact hpq.1|replace hpq:=hpq.2));done)
   have hl:QZ e (LX.n IntKind.u32 (SX.r 157 1 0 (SX.v 156 0)))=(e.nm 157).int ((e.nm 156).int 0).toNat:=by
    show(e.nm 157).int (((e.nm 156).int 0).toNat * 1+0)=_;rw [Nat.mul_one,Nat.add_zero]
   rw [hl]at u1;have s0:IntKind.i64.wrap ((e.nm 156).int 0+1)=(e.nm 156).int 0+1:=Q7 b0 (by omega)
   have s2:IntKind.i64.wrap ((e.nm 156).int 2+1)=(e.nm 156).int 2+1:=Q7 b2.1 (by omega)
   exact H.more hlt (by rw [←hf];exact c1) s0 rfl s2 rfl u1
  ·have H:J3 (Q4 int) n k (e.nm 156) (e.nm 157) (e.nm 158):=by(have hpq:=hc;(repeat (first|exact hpq|exact hpq.1|replace hpq:=hpq.2));done)
   have hlt:(e.nm 156).int 0 < (e.nm 156).int 1:=by(have hpq:=hc;(repeat (first|exact hpq|exact hpq.1|replace hpq:=hpq.2));done)
   have b0:=H.i0;have b1:=H.b1;have b2:=H.b2;have f1:(e.nm 195).int=fun _=>Zw (Q4 (e.nm 0).int) ((e.nm 2).int 0).toNat ((e.nm 157).int (((e.nm 156).int 0).toNat * 1+0)):=by(have hpq:=hc;(repeat (first|exact hpq|exact hpq.1|replace hpq:=hpq.2));done)
   have hf:(e.nm 195).int 0=Zw (Q4 int) n ((e.nm 157).int ((e.nm 156).int 0).toNat):=by rw [f1,h0,h2,Nat.mul_one,Nat.add_zero];rfl
   have c1:¬0≤(e.nm 195).int 0:=by(have hpq:=hc;(repeat (first|exact hpq|exact hpq.1|replace hpq:=hpq.2));done)
   have s0:IntKind.i64.wrap ((e.nm 156).int 0+1)=(e.nm 156).int 0+1:=Q7 b0 (by omega)
   exact H.less hlt (by rw [←hf];exact c1) s0 rfl rfl rfl rfl
  ·have T:Q9 (Q4 int k)= []:=by
    have c1:¬int ((k:Int).toNat * 9+2)=20:=by(have hpq:=hc;(repeat (first|exact hpq|exact hpq.1|replace hpq:=hpq.2));done)
    have c1':¬int ((k:Int).toNat * 9+2)=23:=by(have hpq:=hc;(repeat (first|exact hpq|exact hpq.1|replace hpq:=hpq.2));done)
    have f2:(e.nm 120).bool=fun _=>KQ (Q4 int k):=by(have hpq:=hc;(repeat (first|exact hpq|exact hpq.1|replace hpq:=hpq.2));done)
    have c2:(e.nm 120).bool 0=true:=by(have hpq:=hc;(repeat (first|exact hpq|exact hpq.1|replace hpq:=hpq.2));done)
    have c3:KQ (Q4 int k)=true:=by rw [←congrFun f2 0];exact c2
    rw [Qi4 hv,if_neg (fun h=>(Wp.1 h).elim c1 c1'),c3]
    rfl
   refine J3.start hv hs ?_ rfl rfl;rw [T];exact QnN
  ·have H:J3 (Q4 int) n k (e.nm 132) (e.nm 133) (e.nm 134):=by(have hpq:=hc;(repeat (first|exact hpq|exact hpq.1|replace hpq:=hpq.2));done)
   have hlt:(e.nm 132).int 0 < (e.nm 132).int 1:=by(have hpq:=hc;(repeat (first|exact hpq|exact hpq.1|replace hpq:=hpq.2));done)
   have b0:=H.i0;have b1:=H.b1;have b2:=H.b2;have f1:(e.nm 171).int=fun _=>Zw (Q4 (e.nm 0).int) ((e.nm 2).int 0).toNat ((e.nm 133).int (((e.nm 132).int 0).toNat * 1+0)):=by(have hpq:=hc;(repeat (first|exact hpq|exact hpq.1|replace hpq:=hpq.2));done)
   have hf:(e.nm 171).int 0=Zw (Q4 int) n ((e.nm 133).int ((e.nm 132).int 0).toNat):=by rw [f1,h0,h2,Nat.mul_one,Nat.add_zero];rfl
   have c1:0≤(e.nm 171).int 0:=by(have hpq:=hc;(repeat (first|exact hpq|exact hpq.1|replace hpq:=hpq.2));done)
   have u1:(e.nm 203).int=QA (e.nm 134).int ((e.nm 132).int 2).toNat [QZ e (LX.n IntKind.u32 (SX.r 133 1 0 (SX.v 132 0)))]:=by(have hpq:=hc;(repeat (first|exact hpq|exact hpq.1|replace hpq:=hpq.2));done)
   have hl:QZ e (LX.n IntKind.u32 (SX.r 133 1 0 (SX.v 132 0)))=(e.nm 133).int ((e.nm 132).int 0).toNat:=by
    show(e.nm 133).int (((e.nm 132).int 0).toNat * 1+0)=_;rw [Nat.mul_one,Nat.add_zero]
   rw [hl]at u1;have s0:IntKind.i64.wrap ((e.nm 132).int 0+1)=(e.nm 132).int 0+1:=Q7 b0 (by omega)
   have s2:IntKind.i64.wrap ((e.nm 132).int 2+1)=(e.nm 132).int 2+1:=Q7 b2.1 (by omega)
   exact H.more hlt (by rw [←hf];exact c1) s0 rfl s2 rfl u1
  ·have H:J3 (Q4 int) n k (e.nm 132) (e.nm 133) (e.nm 134):=by(have hpq:=hc;(repeat (first|exact hpq|exact hpq.1|replace hpq:=hpq.2));done)
   have hlt:(e.nm 132).int 0 < (e.nm 132).int 1:=by(have hpq:=hc;(repeat (first|exact hpq|exact hpq.1|replace hpq:=hpq.2));done)
   have b0:=H.i0;have b1:=H.b1;have b2:=H.b2;have f1:(e.nm 171).int=fun _=>Zw (Q4 (e.nm 0).int) ((e.nm 2).int 0).toNat ((e.nm 133).int (((e.nm 132).int 0).toNat * 1+0)):=by(have hpq:=hc;(repeat (first|exact hpq|exact hpq.1|replace hpq:=hpq.2));done)
   have hf:(e.nm 171).int 0=Zw (Q4 int) n ((e.nm 133).int ((e.nm 132).int 0).toNat):=by rw [f1,h0,h2,Nat.mul_one,Nat.add_zero];rfl
   have c1:¬0≤(e.nm 171).int 0:=by(have hpq:=hc;(repeat (first|exact hpq|exact hpq.1|replace hpq:=hpq.2));done)
   have s0:IntKind.i64.wrap ((e.nm 132).int 0+1)=(e.nm 132).int 0+1:=Q7 b0 (by omega)
   exact H.less hlt (by rw [←hf];exact c1) s0 rfl rfl rfl rfl
 ·refine⟨?_,?_,?_,?_,?_,trivial⟩
  all_goals
   intro e u w' he hc hs hb;have h0:e.nm 0=nmR base cap int bool:=he 0 (by decide)
   have h1:e.nm 1=nmN k:=he 1 (by decide)
   have h2:e.nm 2=nmN n:=he 2 (by decide)
   have hD:QL (PX.dat e 0 (.a (rxL 0 9 (.v 1 0) 0 Qc)))=Q4 int k:=by
    rw [Qcp];show Q4 (e.nm 0).int ((e.nm 1).int 0).toNat=_;rw [h0,h1];rfl
   rw [show u=_ from hs]
   simp only [QC,Ze,Cd.holds,dv1,dv2,di1,db2,dr1,dr2,dq1,dq2,do1,Xc,Xb,ZY,ZX,Xa,ZZ,ZW,ZV,ZU,ZT,Xe,Xd,Jc,Jb,XY,XX,Ja,XZ,List.map_cons,List.map_nil,Nat.mul_one,Nat.add_zero,List.getElem?_cons_zero,List.getElem?_cons_succ,Option.some.injEq,exists_eq_left',and_true,and_assoc,Env.int,Env.bool,Xp,Nat.reduceLeDiff,Nat.reduceAdd,ed0,ed1,ed2,ed3,Qro,Qrp,Qrq,Qrr,Jk,hD,h0,h1,h2,nmR,nmN,nmI]at hc
  ·have f44:(e.nm 44).bool=fun _=>Qv (Q4 int k):=by(have hpq:=hc;(repeat (first|exact hpq|exact hpq.1|replace hpq:=hpq.2));done)
   have f68:(e.nm 68).int=fun _=>Zw (Q4 (e.nm 0).int) ((e.nm 2).int 0).toNat ((e.nm 0).int (((e.nm 1).int 0).toNat * 9+0)):=by(have hpq:=hc;(repeat (first|exact hpq|exact hpq.1|replace hpq:=hpq.2));done)
   have s68:(e.nm 68).int 0=Zw (Q4 int) n (Q4 int k).addr:=by rw [f68,h0,h1,h2];rfl
   have hq:=hc.1
   have hO:K9 (Q4 int) n k= []:=by
    unfold K9;split
    ·rename_i hf
     have hv:Qv (Q4 int k)=false:=by
      cases hv:Qv (Q4 int k)with
      |false=>rfl
      |true=>
       refine absurd ⟨?_,?_⟩ hq
       ·rw [f44];exact hv
       ·rw [s68,V0 hf]
     unfold Q9;rw [if_neg (by rw [hv];decide)]
     rfl
    ·rfl
   rw [hO];exact QfX
  ·have H:J3 (Q4 int) n k (e.nm 180) (e.nm 181) (e.nm 182):=by(have hpq:=hc;(repeat (first|exact hpq|exact hpq.1|replace hpq:=hpq.2));done)
   have L:=H.fin (by(have hpq:=hc;(repeat (first|exact hpq|exact hpq.1|replace hpq:=hpq.2));done))
   exact⟨nmN ((e.nm 180).int 2),e.nm 182,rfl,⟨L.1,L.2⟩,hb.2.2.2.2.1⟩
  ·have H:J3 (Q4 int) n k (e.nm 156) (e.nm 157) (e.nm 158):=by(have hpq:=hc;(repeat (first|exact hpq|exact hpq.1|replace hpq:=hpq.2));done)
   have L:=H.fin (by(have hpq:=hc;(repeat (first|exact hpq|exact hpq.1|replace hpq:=hpq.2));done))
   exact⟨nmN ((e.nm 156).int 2),e.nm 158,rfl,⟨L.1,L.2⟩,hb.2.2.2.1⟩
  ·have H:J3 (Q4 int) n k (e.nm 156) (e.nm 157) (e.nm 158):=by(have hpq:=hc;(repeat (first|exact hpq|exact hpq.1|replace hpq:=hpq.2));done)
   have L:=H.fin (by(have hpq:=hc;(repeat (first|exact hpq|exact hpq.1|replace hpq:=hpq.2));done))
   exact⟨nmN ((e.nm 156).int 2),e.nm 158,rfl,⟨L.1,L.2⟩,hb.2.2.2.1⟩
  ·have H:J3 (Q4 int) n k (e.nm 132) (e.nm 133) (e.nm 134):=by(have hpq:=hc;(repeat (first|exact hpq|exact hpq.1|replace hpq:=hpq.2));done)
   have L:=H.fin (by(have hpq:=hc;(repeat (first|exact hpq|exact hpq.1|replace hpq:=hpq.2));done))
   exact⟨nmN ((e.nm 132).int 2),e.nm 134,rfl,⟨L.1,L.2⟩,hb.2.2.1⟩
def YP:Kon Tryz.prog where
 sg:=⟨21,[.sl Qc,.l (some .i64)],.s [some .u32],false,false⟩
 pre ads:=match ads with| [d1,d2]=>(0≤Q3 d2∧Q3 d2 < Xz d1.val)∧(Xz d1.val:Int) < 2 ^ 63|_=>False
 post ads m m':=match ads with| [d1,d2]=>Ju (K9 (Q4 d1.int) (Xz d1.val) (Q3 d2).toNat) m m'|_=>True
 body:=⟨_,Tryz.func21,by kernel_rfl,by kernel_rfl⟩
 free h:=by cases h
 flat h:=by cases h
 total h:=by cases h
 same h:=by cases h
 sound ads w hf hp:=by
  obtain⟨d1,_,rfl,f1,hf⟩:=Qg hf;obtain⟨d2,_,rfl,f2,hf⟩:=Qg hf;obtain rfl:=Qm hf;obtain⟨g1,g2⟩:=VO f1;obtain⟨⟨p1,p2⟩,p3⟩:=hp;show Calls _ _ #[d1.val,d2.val] w _;rw [g1,QB f2,show Value.int .i64 (Q3 d2)=Value.int .i64 (((Q3 d2).toNat:Nat):Int)by rw [Int.toNat_of_nonneg p1]]
  exact Qlo _ _ d1.int d1.bool _ _ (by omega) p3 w g2
end Go.Proofs.YteplnamfpodmlaaGreat.T2
end
section
namespace Go.Proofs.YteplnamfpodmlaaGreat.T2
def Qtb(I:Nat→Ins)(N:Nat)(en:Int)(m m':Nm):Prop:=(m.int 0=0∧¬m.int 1=0)∨(m.int 0=(N:Int)∧m.int 1=0∧∃f b,QG I en N=some f∧Quu I N f b∧BIs m' N b∧Qce b)
theorem Qt0{I:Nat→Ins}{N:Nat}{en R x:Int}(h:Zz I N en R= .error x):¬x=0:=by
 unfold Zz at h;split at h
 ·cases h;decide
 ·split at h
  ·cases h;decide
  ·split at h
   ·cases h;decide
   ·cases h
theorem Qh7{I:Nat→Ins}{G:Nat→Int}{k:Nat}:∀{es:List (Nat×Bool)} {s:VS},Qce s.b→Qce (es.foldl (KW I G k) s).b
 | [],s,h=>h
 |p :: es,s,h=>Qh7 (es:=es) (Qi0 h)
theorem QnV{I:Nat→Ins}{E:Nat→List (Nat×Bool)}{G:Nat→Int}{N:Nat}{b:Nat→Nat→Qd}:∀{fuel:Nat} {s:VS},Qce s.b→W2 I E G N fuel s=some b→Qce b
 |0,s,h,hr=>by
  unfold W2 at hr;split at hr
  ·cases hr;exact h
  ·cases hr
 |n+1,s,h,hr=>by
  unfold W2 at hr;split at hr
  ·cases hr;exact h
  ·exact QnV (s:=QlC I E G s _) (Qh7 h) hr
theorem Qhs{I:Nat→Ins}{N:Nat}{en R:Int}{b:Nat→Nat→Qd}(h:Zz I N en R= .ok b):Qce b:=by
 unfold Zz at h;split at h
 ·cases h
 ·split at h
  ·cases h
  ·rename_i f hf;split at h
   ·cases h
   ·rename_i b' hb;cases h;exact QnV (QbF f) hb
theorem Qt1{I:Nat→Ins}{N:Nat}{en R:Int}{m m':Nm}(hI:∀k,(I k).wf)(h:ZH ⟨I,N,en,R⟩ m m'):Qtb I N en m m':=by
 unfold ZH at h;split at h
 ·rename_i x hx;exact .inl ⟨h.1,by rw [h.2];exact Qt0 hx⟩
 ·rename_i b hb;obtain⟨f,h1,h2,h3,h4⟩:=Qkx hI hb;exact .inr ⟨h.1,h.2.1,f,b,h1,⟨hI,h2,h3,h4⟩,h.2.2,Qhs hb⟩
theorem Qsu{ri:Nat→Int}{n:Nat}(hr:∀i,i < n→InR Qc ri (i * Qc.length)):∀k,(Za ri n k).wf:=fun k=>by
 unfold Za;split
 ·exact QtM (hr k (by assumption))
 ·exact QaM
theorem KK{ri:Nat→Int}{n k:Nat}(h:k < n):Za ri n k=Q4 ri k:=if_pos h
theorem QbT{I J:Nat→Ins}{a:Int}:∀{n:Nat},(∀k,k < n→(I k).addr=(J k).addr)→QG I a n=QG J a n
 |0,_=>rfl
 |n+1,h=>by
  unfold QG;rw [QbT (fun k hk=>h k (by omega)),h n (by omega)]
theorem J4{ri:Nat→Int}{n:Nat}{a:Int}:QG (Q4 ri) a n=QG (Za ri n) a n:=QbT fun k hk=>by rw [KK hk]
theorem Qib{ri:Nat→Int}{n k:Nat}(hk:k < n):K9 (Q4 ri) n k=K9 (Za ri n) n k:=by
 unfold K9;rw [J4,KK hk];have:hasA (Q4 ri) n=hasA (Za ri n) n:=by funext x;unfold hasA;rw [J4]
 rw [this]
theorem QoA{n:Nat}(h:n≤maxLen):(n:Int) < 2 ^ 63:=by
 have:maxLen < 2 ^ 63:=by decide
 omega
end Go.Proofs.YteplnamfpodmlaaGreat.T2
end
