/-
  Part of the proof.
-/
import Derived.Test.YteplnamfpodmlaaRA3
import Derived.Test.YteplnamfpodmlaaRB
set_option linter.unusedVariables false
set_option linter.unusedSimpArgs false
set_option maxRecDepth 100000
open Go.ChangeShapes Go.WideShapes Go.ChangeAt Go.RowKit
namespace Go.Proofs.Yteplnamfpodmlaa
theorem Qe7(i:Ins)(s:Nat→Qd)(h:i.wf∧∀k,(s k).wf)(w:World):Calls Try.prog 18 #[i.val,ZT s] w (Ret (ZT (Qw i s)) w):=Qgl i s h w
def Xx:Con Try.prog:= .mk' ⟨18,[.a Qb,.a stK],.a stK,true⟩
 (fun ads=>match ads with| [d1,d2]=>(Q0 d1).wf∧∀k,((stD d2) k).wf|_=>False)
 (fun ads=>match ads with| [d1,d2]=>ZH (Qw (Q0 d1) (stD d2))|_=>fun _=>0)
 (fun ads=>match ads with| [d1,d2]=>QU (Qw (Q0 d1) (stD d2))|_=>fun _=>false)
 ⟨_,Try.func18,by kernel_rfl,by kernel_rfl⟩ (fun ads w hf hp=>by
   obtain⟨d1,_,rfl,f1,hf⟩:=Qf hf
   obtain⟨d2,_,rfl,f2,hf⟩:=Qf hf
   obtain rfl:=Qn hf
   show Calls _ _ #[d1.val,d2.val] w _
   rw [Zc f1,Vq f2]
   exact Qe7 (Q0 d1) (stD d2) hp w)
def QfP:Con Try.prog:= .mk' ⟨20,[.a stK,.a stK],.a stK,true⟩
 (fun ads=>match ads with| [d1,d2]=>(∀k,((stD d1) k).wf)∧∀k,((stD d2) k).wf|_=>False)
 (fun ads=>match ads with| [d1,d2]=>ZH (Vb (stD d1) (stD d2))|_=>fun _=>0)
 (fun ads=>match ads with| [d1,d2]=>QU (Vb (stD d1) (stD d2))|_=>fun _=>false)
 ⟨_,Try.func20,by kernel_rfl,by kernel_rfl⟩ (fun ads w hf hp=>by
   obtain⟨d1,_,rfl,f1,hf⟩:=Qf hf
   obtain⟨d2,_,rfl,f2,hf⟩:=Qf hf
   obtain rfl:=Qn hf
   show Calls _ _ #[d1.val,d2.val] w _
   rw [Vq f1,Vq f2]
   exact Qo1 (stD d1) (stD d2) hp w)
theorem Qlv(a b:Qd)(h:a.wf∧b.wf)(w:World):Calls Try.prog 85 #[a.val,b.val] w (Ret (JH a b).val w):=QoZ a b h.1 h.2 w
def QfS:Con Try.prog:= .mk' ⟨85,[.a Qc,.a Qc],.a Qc,true⟩
 (fun ads=>match ads with| [d1,d2]=>(Z4 d1).wf∧(Z4 d2).wf|_=>False)
 (fun ads=>match ads with| [d1,d2]=>ZC (JH (Z4 d1) (Z4 d2))|_=>fun _=>0)
 (fun ads=>match ads with| [d1,d2]=>Xc (JH (Z4 d1) (Z4 d2))|_=>fun _=>false)
 ⟨_,Try.func85,by kernel_rfl,by kernel_rfl⟩ (fun ads w hf hp=>by
   obtain⟨d1,_,rfl,f1,hf⟩:=Qf hf
   obtain⟨d2,_,rfl,f2,hf⟩:=Qf hf
   obtain rfl:=Qn hf
   show Calls _ _ #[d1.val,d2.val] w _
   rw [X0 f1,X0 f2]
   exact Qlv (Z4 d1) (Z4 d2) hp w)
def Qri:Con Try.prog:= .mk' ⟨37,[],.a stK,true⟩
 (fun ads=>match ads with| []=>True|_=>False)
 (fun ads=>match ads with| []=>ZH fun _=>Q4|_=>fun _=>0)
 (fun ads=>match ads with| []=>QU fun _=>Q4|_=>fun _=>false)
 ⟨_,Try.func37,by kernel_rfl,by kernel_rfl⟩ (fun ads w hf hp=>by
   obtain rfl:=Qn hf
   exact QfD  w)
end Go.Proofs.Yteplnamfpodmlaa
namespace Go.Proofs.Yteplnamfpodmlaa.T2
def Qe2{P:Program}(c:Con P)(h:∀ads w,QcX w c.sg.args ads→c.pre ads):Kon P where
 sg:=⟨c.sg.f,c.sg.args,.b c.sg.res,c.sg.det,true⟩
 pre _:=True
 post:=c.kon.post
 body:=c.body
 free _ _:=trivial
 flat _:=⟨_,rfl⟩
 total:=c.kon.total
 same:=c.kon.same
 sound ads w hf _:=c.kon.sound ads w hf (h ads w hf)
def QkB:Kon Try.prog:=Qe2 Yf fun ads w hf=>by
 obtain⟨d1,_,rfl,f1,hf⟩:=Qf hf
 obtain rfl:=Qn hf
 trivial
def Qd8:Kon Try.prog:=Qe2 Qae fun ads w hf=>by
 obtain⟨d1,_,rfl,f1,hf⟩:=Qf hf
 obtain rfl:=Qn hf
 trivial
def QdB:Kon Try.prog:=Qe2 Qaf fun ads w hf=>by
 obtain rfl:=Qn hf
 trivial
def Qk9:Kon Try.prog:=Qe2 Qri fun ads w hf=>by
 obtain rfl:=Qn hf
 trivial
def anC:List (Kon Try.prog):= [QkB,QbX,Qd8,Vc.kon,Xx.kon,QfP.kon,QfS.kon,QdB,Qk9,QfO]
abbrev bs(c:Cx)(e:Env):Prop:=QcW c (e.nm 42) (e.nm 54) (e.nm 82) (e.nm 83) (e.nm 84)
def anI(c:Cx):List (Nat→Env→Prop):= [
 fun _ e=>QnR c (e.nm 42) (e.nm 54) (e.nm 82) (e.nm 83) (e.nm 84),
 fun _ e=>bs c e∧Qhc c (e.nm 285) (e.nm 286) (e.nm 287) (e.nm 288),
 fun _ e=>bs c e∧Qao c (e.nm 285) (e.nm 341) (e.nm 385) (e.nm 386) (e.nm 397) (e.nm 398) (e.nm 399),
 fun _ e=>bs c e∧Qhd c (e.nm 286) (e.nm 288) (e.nm 317) (e.nm 318),
 fun _ e=>bs c e∧QcY c (e.nm 286) (e.nm 318) (e.nm 387) (e.nm 388) (e.nm 389) (e.nm 390),
 fun _ e=>bs c e∧∃s,Mid c (e.nm 286) (e.nm 318) (e.nm 387) (e.nm 407) (e.nm 551) (e.nm 552) (e.nm 511) (e.nm 553) s,
 fun _ e=>bs c e∧∃s p,QcZ c (e.nm 286) (e.nm 318) (e.nm 387) (e.nm 407) (e.nm 551) (e.nm 552) (e.nm 511) (e.nm 553) (e.nm 898) s p,
 fun _ e=>bs c e∧∃s p,Qq0 c (e.nm 286) (e.nm 318) (e.nm 387) (e.nm 407) (e.nm 551) (e.nm 552) (e.nm 511) (e.nm 553) (e.nm 1519) s p]
theorem an0:anC[0]?=some QkB:=rfl
theorem an1:anC[1]?=some QbX:=rfl
theorem an2:anC[2]?=some Qd8:=rfl
theorem an3:anC[3]?=some Vc.kon:=rfl
theorem an4:anC[4]?=some Xx.kon:=rfl
theorem an5:anC[5]?=some QfP.kon:=rfl
theorem an6:anC[6]?=some QfS.kon:=rfl
theorem an7:anC[7]?=some QdB:=rfl
theorem an8:anC[8]?=some Qk9:=rfl
theorem an9:anC[9]?=some QfO:=rfl
theorem QtX{d:AD}{m m':Nm}:QkB.post [d] m m'↔(m.int=fun _=>0)∧(m.bool=fun _=>Qj (Q0 d)):=Iff.rfl
theorem QtY{d:AD}{m m':Nm}:QbX.post [d] m m'↔JE (Q7 (Q0 d)) m m':=Iff.rfl
theorem QtZ{d:AD}{m m':Nm}:Qd8.post [d] m m'↔(m.int=fun _=>0)∧(m.bool=fun _=>Yt (Q0 d)):=Iff.rfl
theorem Qua{d1 d2 d3 d4:AD}{m m':Nm}:Vc.kon.post [d1,d2,d3,d4] m m'↔m.int=ZH (X3 (Q8 d1) (Q0 d2) (stD d3) (QcL d4))∧m.bool=QU (X3 (Q8 d1) (Q0 d2) (stD d3) (QcL d4)):=Iff.rfl
theorem Qub{d1 d2:AD}{m m':Nm}:Xx.kon.post [d1,d2] m m'↔m.int=ZH (Qw (Q0 d1) (stD d2))∧m.bool=QU (Qw (Q0 d1) (stD d2)):=Iff.rfl
theorem Quc{d1 d2:AD}{m m':Nm}:QfP.kon.post [d1,d2] m m'↔m.int=ZH (Vb (stD d1) (stD d2))∧m.bool=QU (Vb (stD d1) (stD d2)):=Iff.rfl
theorem Qud{d1 d2:AD}{m m':Nm}:QfS.kon.post [d1,d2] m m'↔m.int=ZC (JH (Z4 d1) (Z4 d2))∧m.bool=Xc (JH (Z4 d1) (Z4 d2)):=Iff.rfl
theorem Que{m m':Nm}:QdB.post [] m m'↔(m.int=ZH fun _=>Qy)∧m.bool=QU fun _=>Qy:=Iff.rfl
theorem Quf{m m':Nm}:Qk9.post [] m m'↔(m.int=ZH fun _=>Q4)∧m.bool=QU fun _=>Q4:=Iff.rfl
theorem Qug{d1 d2:AD}{m m':Nm}:QfO.post [d1,d2] m m'↔(m.int=fun _=>JL d1.bool (J6 d1.val) (QcL d2))∧m.bool=fun _=>false:=Iff.rfl
theorem mk5{a a' b b':Bool}{x x' y y' z z':Int}(h0:a=a')(h1:b=b')(h2:x=x')(h3:y=y')(h4:z=z'):(⟨a,b,x,y,z⟩:Qd)=⟨a',b',x',y',z'⟩:=by rw [h0,h1,h2,h3,h4]
theorem QqI{x:Int}(h:0≤x):decide (x=0)=(x.toNat==0):=by
 by_cases h1:x=0
 ·subst h1;rfl
 ·rw [decide_eq_false h1]
  symm
  rw [beq_eq_false_iff_ne]
  omega
def ZZ(c:Cx)(m m':Nm):Prop:=match Xz c.I c.N c.en c.R with
 | .error x=>m.int 0=0∧m.int 1=x
 | .ok b=>m.int 0=(c.N:Int)∧m.int 1=0∧BIs m' c.N b
set_option maxHeartbeats 8000000 in
theorem Qhg(c:Cx)(hc:c.ok)(base:Option Addr)(cap:Nat)(int:Nat→Int)(bool:Nat→Bool)(hI:∀k,k < c.N→Qe int k=c.I k)(w:World)(hr:Xn w base c.N Qb int bool) :
 Calls Try.prog 13 #[.slice base c.N cap,.int .u32 c.en,.int .i64 c.R] w fun en w'=>∃m m',en= .returned ((RZ.se stK (some .i64)).val m m')∧Below w.heap.size w w'∧ZZ c m m'∧(RZ.se stK (some .i64)).mem w.heap.size w' m m':=by
 refine Qcf (C:=anC) (I:=anI c) Qr rfl Try.func13 QgS (Kh [nmR base cap int bool,nmN c.en,nmN c.R,nmN c.N]) w rfl ?_ (.se stK (some .i64)) (ZZ c) ?_ ?_
 ·intro r hr0
  rw [List.mem_singleton.1 hr0]
  exact hr
 ·refine⟨?_,?_,?_,?_,?_,?_,?_,?_,?_,?_,?_,?_,?_,?_,?_,?_,?_,?_,?_,?_,?_,?_,?_,?_,?_,?_,?_,?_,?_,?_,?_,?_,?_,?_,?_,?_,?_,?_,?_,?_,?_,?_,?_,?_,?_,?_,?_,?_,?_,?_,?_,?_,?_,?_,?_,?_,?_,?_,?_,?_,?_,?_,?_,?_,?_,?_,?_,?_,?_,?_,?_,?_,?_,?_,?_,?_,?_,?_,?_,?_,?_,?_,?_,?_,?_,?_,?_,?_,?_,?_,?_,?_,?_,?_,?_,?_,?_,?_,?_,?_,?_,?_,?_,?_,?_,?_,?_,?_,?_,?_,?_,?_,?_,?_,?_,?_,?_,?_,?_,?_,trivial⟩
  all_goals
   intro e he hcd
   have h0:e.nm 0=nmR base cap int bool:=he 0 (by decide)
   have h1:e.nm 1=nmN c.en:=he 1 (by decide)
   have h2:e.nm 2=nmN c.R:=he 2 (by decide)
   have h3:e.nm 3=nmN c.N:=he 3 (by decide)
   simp only [QC,Zb,Cd.holds,dv1,dv2,di1,db2,dr1,dr2,dq1,dq2,do1,Z1,Z0,Zx,Zw,Zz,Zy,Zv,Zu,Zt,Zs,Z3,Z2,Xt,Xs,Xp,Xo,Xr,Xq,List.map_cons,List.map_nil,Nat.mul_one,Nat.add_zero,List.getElem?_cons_zero,List.getElem?_cons_succ,Option.some.injEq,exists_eq_left',and_true,and_assoc,Env.int,Env.bool,X8,Nat.reduceLeDiff,Nat.reduceAdd,an0,an1,an2,an3,an4,an5,an6,an7,an8,an9,QtX,QtY,QtZ,Qua,Qub,Quc,Qud,Que,Quf,Qug,Ji,anI,bs,h0,h1,h2,h3,nmR,nmN,nmI]at hcd
  all_goals
   have hA:∀k,k < c.N→int (k * 9)=(c.I k).addr∧0≤int (k * 9):=fun k hk=>by
    have e1:int (k * 9)=(c.I k).addr:=by rw [←hI k hk];rfl
    exact⟨e1,by rw [e1];exact(hc.wf k).1.1⟩
   have hD:∀x:SX,(x.den e).1.toNat < c.N→Q0 (PX.dat e 0 (.a (rxL 0 9 x 0 Qb)))=c.I (x.den e).1.toNat:=fun x hx=>by
    rw [Xb,←hI _ hx]
    show Qe (e.nm 0).int _=_
    rw [h0]
    rfl
  all_goals
   have hS:∀{nv nm:Nm} {s:VS},QnS c (e.nm 552) nv nm s→∀x:SX,(x.den e).1.toNat < c.N→stD (PX.dat e 0 (.a (rxL 552 40 x 0 stK)))=s.b (x.den e).1.toNat:=fun H x hx=>by
    rw [QnL]
    exact H.row hx
  all_goals
   (try (simp only [QC,Zb,Cd.holds,dv1,dv2,di1,db2,dr1,dr2,dq1,dq2,do1,Z1,Z0,Zx,Zw,Zz,Zy,Zv,Zu,Zt,Zs,Z3,Z2,Xt,Xs,Xp,Xo,Xr,Xq,List.map_cons,List.map_nil,Nat.mul_one,Nat.add_zero,List.getElem?_cons_zero,List.getElem?_cons_succ,Option.some.injEq,exists_eq_left',and_true,and_assoc,Env.int,Env.bool,X8,Nat.reduceLeDiff,Nat.reduceAdd,h0,h1,h2,h3,nmR,nmN,nmI];first
     |omega
     |(have H:QnR c (e.nm 42) (e.nm 54) (e.nm 82) (e.nm 83) (e.nm 84):=by(have hpq:=hcd;(repeat (first|exact hpq|exact hpq.1|replace hpq:=hpq.2));done)
       have k0:=H.k0;have kN:=H.kN;have k1:=H.k1;have pN:=H.p.N
       first|omega|exact(hA _ (by omega)).2|(rw [Qx (by omega) (by omega)];omega))
     |(with_reducible exact hc.en0)
     |(have B:QcW c (e.nm 42) (e.nm 54) (e.nm 82) (e.nm 83) (e.nm 84):=by(have hpq:=hcd;(repeat (first|exact hpq|exact hpq.1|replace hpq:=hpq.2));done)
       have pN:=B.p.N;have bl:=B.len
       have bf:=B.first hc
       have ce:=hc.en0
       first
        |omega
        |(rw [bf.1];omega)
        |(have H:QcY c (e.nm 286) (e.nm 318) (e.nm 387) (e.nm 388) (e.nm 389) (e.nm 390):=by(have hpq:=hcd;(repeat (first|exact hpq|exact hpq.1|replace hpq:=hpq.2));done)
          have il:=Qn3 (m:=(e.nm 390).bool) (v:=true) (n:=c.N)
          have hq:(e.nm 407).int=fun _=>JL (e.nm 390).bool ((e.nm 3).int 0).toNat true:=by(have hpq:=hcd;(repeat (first|exact hpq|exact hpq.1|replace hpq:=hpq.2));done)
          have hq0:(e.nm 407).int 0=JL (e.nm 390).bool c.N true:=by rw [h3]at hq;exact congrFun hq 0
          omega)
        |(have hM:∃s,Mid c (e.nm 286) (e.nm 318) (e.nm 387) (e.nm 407) (e.nm 551) (e.nm 552) (e.nm 511) (e.nm 553) s:=by
           first
            |((have hpq:=hcd;(repeat (first|exact hpq|exact hpq.1|replace hpq:=hpq.2));done);done)
            |(have h6:∃s p,QcZ c (e.nm 286) (e.nm 318) (e.nm 387) (e.nm 407) (e.nm 551) (e.nm 552) (e.nm 511) (e.nm 553) (e.nm 898) s p:=by(have hpq:=hcd;(repeat (first|exact hpq|exact hpq.1|replace hpq:=hpq.2));done)
              obtain⟨s,p,H⟩:=h6
              exact⟨s,H.mid⟩)
            |(have h7:∃s p,Qq0 c (e.nm 286) (e.nm 318) (e.nm 387) (e.nm 407) (e.nm 551) (e.nm 552) (e.nm 511) (e.nm 553) (e.nm 1519) s p:=by(have hpq:=hcd;(repeat (first|exact hpq|exact hpq.1|replace hpq:=hpq.2));done)
              obtain⟨s,p,H⟩:=h7
              exact⟨s,H.mid⟩)
            |fail "no Mid"
          obtain⟨s,H⟩:=hM
          have n0:=H.n0;have nR:=H.nR;have k0:=H.k0;have kN:=H.kN;have m0:=H.m0;have mL:=H.mL;have hR1:=hc.R1
          have el:(c.E ((e.nm 407).int 0).toNat).length≤2:=Qbq
          have eE:=(H.eg.ed ((e.nm 407).int 0).toNat (by omega)).1
          first
           |omega
           |(rw [Qx (by omega) (by omega)];omega)
           |(rw [IntKind.wrap_i64];omega)
           |(rw [H.eg.gd _ (by omega)];exact Qvr.1)
           |(have hlt:(e.nm 551).int 0 < (e.nm 286).int ((e.nm 407).int 0).toNat:=by(have hpq:=hcd;(repeat (first|exact hpq|exact hpq.1|replace hpq:=hpq.2));done)
             obtain⟨p,g1,g2,g3,g4⟩:=H.edge hlt
             rw [g3]
             omega))
        |(have h6:∃s p,QcZ c (e.nm 286) (e.nm 318) (e.nm 387) (e.nm 407) (e.nm 551) (e.nm 552) (e.nm 511) (e.nm 553) (e.nm 898) s p:=by(have hpq:=hcd;(repeat (first|exact hpq|exact hpq.1|replace hpq:=hpq.2));done)
          obtain⟨s,p,H⟩:=h6
          obtain⟨g1,g2,g3,g4⟩:=H.mid.edge' H.pe
          first|omega|(rw [g3];omega))
        |(have h7:∃s p,Qq0 c (e.nm 286) (e.nm 318) (e.nm 387) (e.nm 407) (e.nm 551) (e.nm 552) (e.nm 511) (e.nm 553) (e.nm 1519) s p:=by(have hpq:=hcd;(repeat (first|exact hpq|exact hpq.1|replace hpq:=hpq.2));done)
          obtain⟨s,p,H⟩:=h7
          obtain⟨g1,g2,g3,g4⟩:=H.mid.edge' H.pe
          first|omega|(rw [g3];omega))
        |(have H:Qhc c (e.nm 285) (e.nm 286) (e.nm 287) (e.nm 288):=by(have hpq:=hcd;(repeat (first|exact hpq|exact hpq.1|replace hpq:=hpq.2));done)
          have k0:=H.k0;have kN:=H.kN
          first
           |omega
           |exact(hA _ (by omega)).2
           |(rw [Qx (by omega) (by omega)];omega)
           |(have hl:=hcd.1.1
             rw [hl];omega)
           |(have hl:=hcd.1
             rw [hl.1];omega))
        |(have H:Qao c (e.nm 285) (e.nm 341) (e.nm 385) (e.nm 386) (e.nm 397) (e.nm 398) (e.nm 399):=by(have hpq:=hcd;(repeat (first|exact hpq|exact hpq.1|replace hpq:=hpq.2));done)
          have k0:=H.k0;have kN:=H.kN;have m0:=H.m0;have mL:=H.mL;have ln:=H.len
          have el:=H.elen
          have tl:=Vi (c.I ((e.nm 285).int 0).toNat)
          first
           |omega
           |(have hlt:(e.nm 397).int 0 < (e.nm 385).int 0:=by(have hpq:=hcd;(repeat (first|exact hpq|exact hpq.1|replace hpq:=hpq.2));done)
             exact H.tgt0 hc hlt)
           |(rw [Qx (by omega) (by omega)];omega)
           |(have hb:(e.nm 83).bool ((e.nm 386).int ((e.nm 397).int 0).toNat).toNat=true:=by(have hpq:=hcd;(repeat (first|exact hpq|exact hpq.1|replace hpq:=hpq.2));done)
             have hlt:(e.nm 397).int 0 < (e.nm 385).int 0:=by(have hpq:=hcd;(repeat (first|exact hpq|exact hpq.1|replace hpq:=hpq.2));done)
             have t0:=H.tgt0 hc hlt
             have lk:=B.look t0
             rw [lk.1]at hb
             obtain⟨t,ht⟩:=Option.isSome_iff_exists.1 hb
             have tN:=(XL ht).1
             have lk2:=lk.2 t ht
             have li':=H.ilen tN
             rw [lk2]
             first
              |omega
              |(rw [Int.toNat_natCast];omega)
              |(rw [Int.toNat_natCast,Qx (by omega) (by omega)];omega)))
        |(have H:Qhd c (e.nm 286) (e.nm 288) (e.nm 317) (e.nm 318):=by(have hpq:=hcd;(repeat (first|exact hpq|exact hpq.1|replace hpq:=hpq.2));done)
          have k0:=H.k0;have kN:=H.kN
          first
           |omega
           |exact(hA _ (by omega)).2
           |(rw [Qx (by omega) (by omega)];omega)
           |(have h1':(e.nm 288).int ((e.nm 317).int 0).toNat=1:=by(have hpq:=hcd;(repeat (first|exact hpq|exact hpq.1|replace hpq:=hpq.2));done)
             have hlt:(e.nm 317).int 0 < c.N:=by(have hpq:=hcd;(repeat (first|exact hpq|exact hpq.1|replace hpq:=hpq.2));done)
             obtain⟨g,g1,g2,g3⟩:=Qd4 H.it (by omega) h1'
             rw [show Int.toNat 0=0 from rfl,g3]
             omega)))))
  ·exact Qk1 (c:=c) (n42:=e.nm 42) (n54:=e.nm 54) ⟨by omega,hcd.2.2.1,hcd.2.1⟩ rfl rfl hcd.2.2.2.2.2.1
  ·obtain⟨u1,u2,f1,f2,w1,w2,H,hb,hle,ha,hlt,hk1,hk0,hN⟩:=hcd
   obtain⟨a1,a2⟩:=hA ((e.nm 82).int 0).toNat (by omega)
   rw [H.k1]at u1 u2
   rw [a1]at w1 w2 hb ha
   have hx:∀r,r < 8→Zg e 221 (5 * r)=Q4:=fun r _=>ZA e 221 f1 f2 r
   have pN:=H.p.N
   have sN:IntKind.i64.wrap ((e.nm 82).int 0+1)=(e.nm 82).int 0+1:=Qx hk0 (by omega)
   exact Qfi H hlt sN (Qx hk1 hle) (Qth H.at' ha hb (by rw [Int.toNat_of_nonneg hk0];exact w1) w2) (Qnq H.bf u1 u2 hx)
  ·obtain⟨u1,u2,f1,f2,H,hb,hle,ha,hlt,hk1,hk0,hN⟩:=hcd
   obtain⟨a1,a2⟩:=hA ((e.nm 82).int 0).toNat (by omega)
   rw [H.k1]at u1 u2
   rw [a1]at hb ha
   have hx:∀r,r < 8→Zg e 189 (5 * r)=Q4:=fun r _=>ZA e 189 f1 f2 r
   have pN:=H.p.N
   have sN:IntKind.i64.wrap ((e.nm 82).int 0+1)=(e.nm 82).int 0+1:=Qx hk0 (by omega)
   exact Qfi H hlt sN (Qx hk1 hle) (Qtg H.at' ha hb) (Qnq H.bf u1 u2 hx)
  ·obtain⟨z1,z2,z3,z4,z5,z6,hN1,hN,hb,he0,hlt,H⟩:=hcd
   exact⟨Qti hc H hlt hb,Qk2 rfl z3 z5⟩
  ·obtain⟨h385,hl,hEq,u1,u2,B,H,ha,hlt,hk0,hN⟩:=hcd
   obtain⟨a1,a2⟩:=hA ((e.nm 285).int 0).toNat (by omega)
   have hIk:=hD (.v 285 0) (show((e.nm 285).int 0).toNat < c.N by omega)
   rw [hIk]at hl
   obtain⟨t,ht⟩:=Qob (I:=c.I) (show((e.nm 285).int 0).toNat < c.N by omega)
   have lk:=(B.look (hc.wf ((e.nm 285).int 0).toNat).1.1).2 t ht
   rw [←a1,hEq]at lk
   have self:Qv c.I (c.I ((e.nm 285).int 0).toNat).addr c.N=some ((e.nm 285).int 0).toNat:=by rw [ht];congr 1;omega
   exact⟨B,Qk3 H hlt self u1 hl rfl⟩
  ·obtain⟨i1,i2,i3,hc1,i4,i5,hc2,hc3,hc4,e1,e2,e3,e4,e5,B,H,hb,hm,hr0,hle,hm0,hl0,hkN,hk0,hc5,hN⟩:=hcd
   have t0:=H.tgt0 hc hm
   have lk:=B.look t0
   rw [lk.1]at hb
   obtain⟨t,ht⟩:=Option.isSome_iff_exists.1 hb
   have lk2:=lk.2 t ht
   rw [lk2,Int.toNat_natCast]at i1 i2 i4 hc2
   have il:=H.ilen (XL ht).1
   rw [←Nat.mul_one ((e.nm 399).int t).toNat]at i4
   have tl:=Vi (c.I ((e.nm 285).int 0).toNat)
   have ln:=H.len
   have pN:=B.p.N
   have sN:IntKind.i64.wrap ((e.nm 397).int 0+1)=(e.nm 397).int 0+1:=Qx hm0 (by omega)
   exact⟨B,Qov H hm ht sN e1 (Qx H.elen.1 hle) e2 e3 e4 e5 (by simp only [li,dr1,dv1,Nat.mul_one,Nat.add_zero];exact lk2) (by simp only [lb,Qu2,dv1,di1];exact QqI hm0) i1 (Qx il.1 (by omega)) i2 i4 rfl⟩
  ·obtain⟨hb,hr0,hm0,hl0,hm,B,H⟩:=hcd
   have t0:=H.tgt0 hc hm
   have lk:=B.look t0
   rw [lk.1]at hb
   have hf:Qv c.I ((e.nm 386).int ((e.nm 397).int 0).toNat) c.N=none:=by
    cases hq:Qv c.I ((e.nm 386).int ((e.nm 397).int 0).toNat) c.N with
    |none=>rfl
    |some t=>rw [hq]at hb;cases hb
   have tl:=Vi (c.I ((e.nm 285).int 0).toNat)
   have ln:=H.len
   have sN:IntKind.i64.wrap ((e.nm 397).int 0+1)=(e.nm 397).int 0+1:=Qx hm0 (by omega)
   exact⟨B,Qow H hm hf sN⟩
  ·obtain⟨hne,u1,u2,B,H,ha,hlt,hk0,hN⟩:=hcd
   obtain⟨a1,a2⟩:=hA ((e.nm 285).int 0).toNat (by omega)
   have pN:=B.p.N
   have sN:IntKind.i64.wrap ((e.nm 285).int 0+1)=(e.nm 285).int 0+1:=Qx hk0 (by omega)
   have self:Qv c.I (c.I ((e.nm 285).int 0).toNat).addr c.N≠some ((e.nm 285).int 0).toNat:=fun hq=>by
    have lk:=(B.look (hc.wf ((e.nm 285).int 0).toNat).1.1).2 _ hq
    rw [←a1]at lk
    exact hne (by rw [lk];omega)
   exact⟨B,Qou H hlt self u1 sN⟩
  ·obtain⟨hm,B,H⟩:=hcd
   have pN:=B.p.N
   have kN:=H.kN
   have sN:IntKind.i64.wrap ((e.nm 285).int 0+1)=(e.nm 285).int 0+1:=Qx H.k0 (by omega)
   exact⟨B,Qot H hm sN⟩
  ·obtain⟨hN,hlt,B,H⟩:=hcd
   exact⟨B,Qk4 H hlt rfl⟩
  ·obtain⟨u1,u2,f1,f2,g1,g2,B,H,hp,hne,h11,hlt,hk0,hop,hc1,hc2,hN⟩:=hcd
   have hkN:((e.nm 317).int 0).toNat < c.N:=by omega
   obtain⟨g,q1,q2,q3⟩:=Qd4 H.it hkN h11
   have pN:=B.p.N
   have sN:IntKind.i64.wrap ((e.nm 317).int 0+1)=(e.nm 317).int 0+1:=Qx hk0 (by omega)
   have hx:QW e (LX.n IntKind.i64 (SX.r2 288 (SX.v 317 0) 1 0 (SX.i 0)))=(g:Int):=q3
   have bf:=B.first hc
   rw [bf.1,Int.toNat_natCast,(hA c.f bf.2).1,(hA _ hkN).1]at hne
   have hop':(c.I ((e.nm 317).int 0).toNat).op=20:=by rw [←hI _ hkN];exact hop
   have hv:=hD (.v 317 0) hkN
   have hw:=hD (.r2 288 (.v 317 0) 1 0 (.i 0)) (show((e.nm 288).i2 ((e.nm 317).int 0).toNat 0).toNat < c.N by rw [q3];omega)
   rw [hv]at g2
   rw [hw]at f2
   have hq:((SX.r2 288 (SX.v 317 0) 1 0 (SX.i 0)).den e).1.toNat=g:=by
    show((e.nm 288).i2 ((e.nm 317).int 0).toNat 0).toNat=g
    rw [q3];omega
   rw [hq]at f2
   refine⟨B,Qre H hlt sN u1 ?_⟩
   rw [hx,QtM q1,if_pos]
   refine⟨hop',?_,hne,?_⟩
   ·have:=congrFun g2 0
    rw [hc2]at this
    exact this.symm
   ·have:=congrFun f2 0
    rw [hc1]at this
    exact this.symm
  ·obtain⟨hn,f1,f2,g1,g2,B,H,hlt,hk0,hN⟩:=hcd
   have hkN:((e.nm 317).int 0).toNat < c.N:=by omega
   have pN:=B.p.N
   have sN:IntKind.i64.wrap ((e.nm 317).int 0+1)=(e.nm 317).int 0+1:=Qx hk0 (by omega)
   refine⟨B,Qox H hlt sN ?_⟩
   by_cases h11:(e.nm 288).int ((e.nm 317).int 0).toNat=1
   ·obtain⟨g,q1,q2,q3⟩:=Qd4 H.it hkN h11
    have bf:=B.first hc
    have hv:=hD (.v 317 0) hkN
    have hw:=hD (.r2 288 (.v 317 0) 1 0 (.i 0)) (show((e.nm 288).i2 ((e.nm 317).int 0).toNat 0).toNat < c.N by rw [q3];omega)
    rw [hv]at g2
    rw [hw]at f2
    have hq:((SX.r2 288 (SX.v 317 0) 1 0 (SX.i 0)).den e).1.toNat=g:=by
     show((e.nm 288).i2 ((e.nm 317).int 0).toNat 0).toNat=g
     rw [q3];omega
    rw [hq]at f2
    rw [QtM q1,if_neg]
    rintro⟨k1,k2,k3,k4⟩
    refine hn ⟨?_,?_,?_,h11,?_⟩
    ·have:(c.I ((e.nm 317).int 0).toNat).op=int (((e.nm 317).int 0).toNat * 9+2):=by rw [←hI _ hkN];rfl
     rw [←this];exact k1
    ·exact(congrFun g2 0).trans k2
    ·rw [bf.1,Int.toNat_natCast,(hA c.f bf.2).1,(hA _ hkN).1];exact k3
    ·exact(congrFun f2 0).trans k4
   ·exact QuX H.it hkN h11
  ·obtain⟨m1,m2,q1,q2,b1,b2,f1,f2,B,H,q3,q4,hk,q5⟩:=hcd
   have bf:=B.first hc
   rw [bf.1,Int.toNat_natCast]at m2 b1 b2
   exact⟨B,Qk5 (e:=e) (e':=e) hc B H hk rfl b1 b2 (fun r _=>ZA e 343 f1 f2 r) m2⟩
  ·obtain⟨B,H⟩:=hcd
   show(((e.nm 3).int 0).toNat:Int) < 2 ^ 63
   rw [h3]
   show((c.N:Int).toNat:Int) < 2 ^ 63
   have:=B.p.N
   omega
  ·obtain⟨v1,v2,m1,m2,q1,q2,hR,hi,x1,x2,B,H⟩:=hcd
   have hk:(e.nm 407).int 0=JL (e.nm 390).bool c.N true:=by
    have hq:(e.nm 407).int=fun _=>JL (e.nm 390).bool ((e.nm 3).int 0).toNat true:=x1
    rw [h3]at hq
    exact congrFun hq 0
   have hkN:((e.nm 407).int 0).toNat < c.N:=by omega
   have hb:0≤(e.nm 389).int ((e.nm 407).int 0).toNat∧(e.nm 389).int ((e.nm 407).int 0).toNat≤(e.nm 387).int 0:=by
    obtain⟨s,hs,hv, -⟩:=H.st
    rw [hs.v _ hkN]
    exact hv _
   have hR1:=hc.R1
   have hx:QW e (LX.n IntKind.i64 (SX.o BinOp.add IntKind.i64 (SX.r 389 1 0 (SX.v 407 0)) (SX.i 1)))=(e.nm 389).int ((e.nm 407).int 0).toNat+1:=by
    simp only [li,do1,dr1,dv1,di1,Nat.mul_one,Nat.add_zero]
    rw [IntKind.wrap_i64]
    omega
   have hR':(e.nm 387).int 0 < c.R:=by omega
   exact⟨B,QoE H hR' hk hi rfl v1 hx m2⟩
  rotate_left 18
  ·obtain⟨m1,m2,b1,b2,B,⟨s,p,H⟩,hne,q1,q2,q3,q4,q5⟩:=hcd
   obtain⟨g1,g2,g3,g4⟩:=H.mid.edge' H.pe
   rw [g3,Int.toNat_natCast]at m2 b1 b2
   have ml:=H.mid.mL
   have el:(c.E ((e.nm 407).int 0).toNat).length≤2:=Qbq
   have sN:IntKind.i64.wrap ((e.nm 551).int 0+1)=(e.nm 551).int 0+1:=Qx H.mid.m0 (by omega)
   refine⟨B,Qtu (e:=e) hc H sN b1 b2 (fun r _=>rfl) m2 ?_⟩
   intro hall
   have key:p.1=((e.nm 286).i2 ((e.nm 407).int 0).toNat (((e.nm 551).int 0).toNat * 2)).toNat:=by rw [g3];omega
   rw [key]at hall
   refine hne ⟨congrArg Qd.e (hall 0 (by omega)),congrArg Qd.t (hall 0 (by omega)),congrArg Qd.lo (hall 0 (by omega)),congrArg Qd.hi (hall 0 (by omega)),congrArg Qd.st (hall 0 (by omega)),congrArg Qd.e (hall 1 (by omega)),congrArg Qd.t (hall 1 (by omega)),congrArg Qd.lo (hall 1 (by omega)),congrArg Qd.hi (hall 1 (by omega)),congrArg Qd.st (hall 1 (by omega)),congrArg Qd.e (hall 2 (by omega)),congrArg Qd.t (hall 2 (by omega)),congrArg Qd.lo (hall 2 (by omega)),congrArg Qd.hi (hall 2 (by omega)),congrArg Qd.st (hall 2 (by omega)),congrArg Qd.e (hall 3 (by omega)),congrArg Qd.t (hall 3 (by omega)),congrArg Qd.lo (hall 3 (by omega)),congrArg Qd.hi (hall 3 (by omega)),congrArg Qd.st (hall 3 (by omega)),congrArg Qd.e (hall 4 (by omega)),congrArg Qd.t (hall 4 (by omega)),congrArg Qd.lo (hall 4 (by omega)),congrArg Qd.hi (hall 4 (by omega)),congrArg Qd.st (hall 4 (by omega)),congrArg Qd.e (hall 5 (by omega)),congrArg Qd.t (hall 5 (by omega)),congrArg Qd.lo (hall 5 (by omega)),congrArg Qd.hi (hall 5 (by omega)),congrArg Qd.st (hall 5 (by omega)),congrArg Qd.e (hall 6 (by omega)),congrArg Qd.t (hall 6 (by omega)),congrArg Qd.lo (hall 6 (by omega)),congrArg Qd.hi (hall 6 (by omega)),congrArg Qd.st (hall 6 (by omega)),congrArg Qd.e (hall 7 (by omega)),congrArg Qd.t (hall 7 (by omega)),congrArg Qd.lo (hall 7 (by omega)),congrArg Qd.hi (hall 7 (by omega)),congrArg Qd.st (hall 7 (by omega))⟩
  ·obtain⟨a0,a1,a2,a3,a4,a5,a6,a7,a8,a9,a10,a11,a12,a13,a14,a15,a16,a17,a18,a19,a20,a21,a22,a23,a24,a25,a26,a27,a28,a29,a30,a31,a32,a33,a34,a35,a36,a37,a38,a39,B,s,p,H⟩:=hcd
   obtain⟨g1,g2,g3,g4⟩:=H.mid.edge' H.pe
   have key:p.1=((e.nm 286).i2 ((e.nm 407).int 0).toNat (((e.nm 551).int 0).toNat * 2)).toNat:=by rw [g3];omega
   have ml:=H.mid.mL
   have el:(c.E ((e.nm 407).int 0).toNat).length≤2:=Qbq
   have sN:IntKind.i64.wrap ((e.nm 551).int 0+1)=(e.nm 551).int 0+1:=Qx H.mid.m0 (by omega)
   refine⟨B,Qrw hc H sN ?_⟩
   rw [key]
   exact fun r hr=>match r,hr with
    |0,_=>mk5 a0 a1 a2 a3 a4
    |1,_=>mk5 a5 a6 a7 a8 a9
    |2,_=>mk5 a10 a11 a12 a13 a14
    |3,_=>mk5 a15 a16 a17 a18 a19
    |4,_=>mk5 a20 a21 a22 a23 a24
    |5,_=>mk5 a25 a26 a27 a28 a29
    |6,_=>mk5 a30 a31 a32 a33 a34
    |7,_=>mk5 a35 a36 a37 a38 a39
  ·obtain⟨hm,B,s,H⟩:=hcd
   have nR:=H.nR
   have n0:=H.n0
   have hR1:=hc.R1
   have sN:IntKind.i64.wrap ((e.nm 387).int 0+1)=(e.nm 387).int 0+1:=by rw [IntKind.wrap_i64];omega
   exact⟨B,Qoy H hm sN⟩
  ·have hM:∃s,Mid c (e.nm 286) (e.nm 318) (e.nm 387) (e.nm 407) (e.nm 551) (e.nm 552) (e.nm 511) (e.nm 553) s:=by(have hpq:=hcd;(repeat (first|exact hpq|exact hpq.1|replace hpq:=hpq.2));done)
   obtain⟨s,H⟩:=hM
   have hm:(e.nm 551).int 0 < (e.nm 286).int ((e.nm 407).int 0).toNat:=by(have hpq:=hcd;(repeat (first|exact hpq|exact hpq.1|replace hpq:=hpq.2));done)
   have hkN:((e.nm 407).int 0).toNat < c.N:=by have:=H.kN;have:=H.k0;omega
   obtain⟨p,hp,pN,g3,g4⟩:=H.edge hm
   have rk:=hS H.st (.v 407 0) hkN
   have qt:((SX.r2 286 (SX.v 407 0) 2 0 (SX.v 551 0)).den e).1.toNat=p.1:=by
    show((e.nm 286).i2 ((e.nm 407).int 0).toNat (((e.nm 551).int 0).toNat * 2+0)).toNat=p.1
    rw [Nat.add_zero,g3];omega
   have rt:=hS H.st (.r2 286 (.v 407 0) 2 0 (.v 551 0)) (by rw [qt];exact pN)
   rw [qt]at rt
   have wk:∀r,(s.b ((e.nm 407).int 0).toNat r).wf:=fun r=>(H.st.ok _ r).1
   have wt:∀r,(s.b p.1 r).wf:=fun r=>(H.st.ok _ r).1
   have ik:=hD (.v 407 0) hkN
   have hg1:(e.nm 318).int ((e.nm 407).int 0).toNat < c.N:=by(have hpq:=hcd;(repeat (first|exact hpq|exact hpq.1|replace hpq:=hpq.2));done)
   have hg0:0≤(e.nm 318).int ((e.nm 407).int 0).toNat:=by(have hpq:=hcd;(repeat (first|exact hpq|exact hpq.1|replace hpq:=hpq.2));done)
   have ig:=hD (.r 318 1 0 (.v 407 0)) (by simp only [dr1,dv1,Nat.mul_one,Nat.add_zero];omega)
   have cce:int (((e.nm 407).int 0).toNat * 9+5)=(c.I ((e.nm 407).int 0).toNat).cc:=by rw [←hI _ hkN];rfl
   show Yx ((e.nm 0).int (((e.nm 407).int 0).toNat * 9+5))∧Ins.wf (Q0 _)∧∀k,Qd.wf (stD _ k)
   rw [ig,rk,h0]
   exact⟨by show Yx (int _);rw [cce];exact(hc.wf _).2.2.2.2.2.1,hc.wf _,wk⟩
  ·have hM:∃s,Mid c (e.nm 286) (e.nm 318) (e.nm 387) (e.nm 407) (e.nm 551) (e.nm 552) (e.nm 511) (e.nm 553) s:=by(have hpq:=hcd;(repeat (first|exact hpq|exact hpq.1|replace hpq:=hpq.2));done)
   obtain⟨s,H⟩:=hM
   have hm:(e.nm 551).int 0 < (e.nm 286).int ((e.nm 407).int 0).toNat:=by(have hpq:=hcd;(repeat (first|exact hpq|exact hpq.1|replace hpq:=hpq.2));done)
   have hkN:((e.nm 407).int 0).toNat < c.N:=by have:=H.kN;have:=H.k0;omega
   obtain⟨p,hp,pN,g3,g4⟩:=H.edge hm
   have rk:=hS H.st (.v 407 0) hkN
   have qt:((SX.r2 286 (SX.v 407 0) 2 0 (SX.v 551 0)).den e).1.toNat=p.1:=by
    show((e.nm 286).i2 ((e.nm 407).int 0).toNat (((e.nm 551).int 0).toNat * 2+0)).toNat=p.1
    rw [Nat.add_zero,g3];omega
   have rt:=hS H.st (.r2 286 (.v 407 0) 2 0 (.v 551 0)) (by rw [qt];exact pN)
   rw [qt]at rt
   have wk:∀r,(s.b ((e.nm 407).int 0).toNat r).wf:=fun r=>(H.st.ok _ r).1
   have wt:∀r,(s.b p.1 r).wf:=fun r=>(H.st.ok _ r).1
   have ik:=hD (.v 407 0) hkN
   show Ins.wf (Q0 _)∧∀k,Qd.wf (stD _ k)
   rw [ik,rk]
   exact⟨hc.wf _,wk⟩
  ·have hM:∃s,Mid c (e.nm 286) (e.nm 318) (e.nm 387) (e.nm 407) (e.nm 551) (e.nm 552) (e.nm 511) (e.nm 553) s:=by(have hpq:=hcd;(repeat (first|exact hpq|exact hpq.1|replace hpq:=hpq.2));done)
   obtain⟨s,H⟩:=hM
   have hm:(e.nm 551).int 0 < (e.nm 286).int ((e.nm 407).int 0).toNat:=by(have hpq:=hcd;(repeat (first|exact hpq|exact hpq.1|replace hpq:=hpq.2));done)
   have hkN:((e.nm 407).int 0).toNat < c.N:=by have:=H.kN;have:=H.k0;omega
   obtain⟨p,hp,pN,g3,g4⟩:=H.edge hm
   have rk:=hS H.st (.v 407 0) hkN
   have qt:((SX.r2 286 (SX.v 407 0) 2 0 (SX.v 551 0)).den e).1.toNat=p.1:=by
    show((e.nm 286).i2 ((e.nm 407).int 0).toNat (((e.nm 551).int 0).toNat * 2+0)).toNat=p.1
    rw [Nat.add_zero,g3];omega
   have rt:=hS H.st (.r2 286 (.v 407 0) 2 0 (.v 551 0)) (by rw [qt];exact pN)
   rw [qt]at rt
   have wk:∀r,(s.b ((e.nm 407).int 0).toNat r).wf:=fun r=>(H.st.ok _ r).1
   have wt:∀r,(s.b p.1 r).wf:=fun r=>(H.st.ok _ r).1
   have ik:=hD (.v 407 0) hkN
   show(∀k,Qd.wf (stD _ k))∧∀k,Qd.wf (stD _ k)
   rw [rt,K7 hcd.1 hcd.2.1]
   exact⟨wt,We fun _=>Z5⟩
  ·have hM:∃s,Mid c (e.nm 286) (e.nm 318) (e.nm 387) (e.nm 407) (e.nm 551) (e.nm 552) (e.nm 511) (e.nm 553) s:=by(have hpq:=hcd;(repeat (first|exact hpq|exact hpq.1|replace hpq:=hpq.2));done)
   obtain⟨s,H⟩:=hM
   have hm:(e.nm 551).int 0 < (e.nm 286).int ((e.nm 407).int 0).toNat:=by(have hpq:=hcd;(repeat (first|exact hpq|exact hpq.1|replace hpq:=hpq.2));done)
   have hkN:((e.nm 407).int 0).toNat < c.N:=by have:=H.kN;have:=H.k0;omega
   obtain⟨p,hp,pN,g3,g4⟩:=H.edge hm
   have rk:=hS H.st (.v 407 0) hkN
   have qt:((SX.r2 286 (SX.v 407 0) 2 0 (SX.v 551 0)).den e).1.toNat=p.1:=by
    show((e.nm 286).i2 ((e.nm 407).int 0).toNat (((e.nm 551).int 0).toNat * 2+0)).toNat=p.1
    rw [Nat.add_zero,g3];omega
   have rt:=hS H.st (.r2 286 (.v 407 0) 2 0 (.v 551 0)) (by rw [qt];exact pN)
   rw [qt]at rt
   have wk:∀r,(s.b ((e.nm 407).int 0).toNat r).wf:=fun r=>(H.st.ok _ r).1
   have wt:∀r,(s.b p.1 r).wf:=fun r=>(H.st.ok _ r).1
   have ik:=hD (.v 407 0) hkN
   have hg1:(e.nm 318).int ((e.nm 407).int 0).toNat < c.N:=by(have hpq:=hcd;(repeat (first|exact hpq|exact hpq.1|replace hpq:=hpq.2));done)
   have hg0:0≤(e.nm 318).int ((e.nm 407).int 0).toNat:=by(have hpq:=hcd;(repeat (first|exact hpq|exact hpq.1|replace hpq:=hpq.2));done)
   have ig:=hD (.r 318 1 0 (.v 407 0)) (by simp only [dr1,dv1,Nat.mul_one,Nat.add_zero];omega)
   show(∀k,Qd.wf (stD _ k))∧∀k,Qd.wf (stD _ k)
   rw [rt,K7 hcd.1 hcd.2.1]
   exact⟨wt,We (QaJ (by rw [ig];exact hc.wf _) (by rw [rk];exact wk))⟩
  ·have hM:∃s,Mid c (e.nm 286) (e.nm 318) (e.nm 387) (e.nm 407) (e.nm 551) (e.nm 552) (e.nm 511) (e.nm 553) s:=by(have hpq:=hcd;(repeat (first|exact hpq|exact hpq.1|replace hpq:=hpq.2));done)
   obtain⟨s,H⟩:=hM
   have hm:(e.nm 551).int 0 < (e.nm 286).int ((e.nm 407).int 0).toNat:=by(have hpq:=hcd;(repeat (first|exact hpq|exact hpq.1|replace hpq:=hpq.2));done)
   have hkN:((e.nm 407).int 0).toNat < c.N:=by have:=H.kN;have:=H.k0;omega
   obtain⟨p,hp,pN,g3,g4⟩:=H.edge hm
   have rk:=hS H.st (.v 407 0) hkN
   have qt:((SX.r2 286 (SX.v 407 0) 2 0 (SX.v 551 0)).den e).1.toNat=p.1:=by
    show((e.nm 286).i2 ((e.nm 407).int 0).toNat (((e.nm 551).int 0).toNat * 2+0)).toNat=p.1
    rw [Nat.add_zero,g3];omega
   have rt:=hS H.st (.r2 286 (.v 407 0) 2 0 (.v 551 0)) (by rw [qt];exact pN)
   rw [qt]at rt
   have wk:∀r,(s.b ((e.nm 407).int 0).toNat r).wf:=fun r=>(H.st.ok _ r).1
   have wt:∀r,(s.b p.1 r).wf:=fun r=>(H.st.ok _ r).1
   have ik:=hD (.v 407 0) hkN
   show(∀k,Qd.wf (stD _ k))∧∀k,Qd.wf (stD _ k)
   rw [rt,K7 hcd.1 hcd.2.1]
   exact⟨wt,We (Vu (by rw [ik];exact hc.wf _) (by rw [rk];exact wk))⟩
  ·have hM:∃s,Mid c (e.nm 286) (e.nm 318) (e.nm 387) (e.nm 407) (e.nm 551) (e.nm 552) (e.nm 511) (e.nm 553) s:=by(have hpq:=hcd;(repeat (first|exact hpq|exact hpq.1|replace hpq:=hpq.2));done)
   obtain⟨s,H⟩:=hM
   have hm:(e.nm 551).int 0 < (e.nm 286).int ((e.nm 407).int 0).toNat:=by(have hpq:=hcd;(repeat (first|exact hpq|exact hpq.1|replace hpq:=hpq.2));done)
   have hkN:((e.nm 407).int 0).toNat < c.N:=by have:=H.kN;have:=H.k0;omega
   obtain⟨p,hp,pN,g3,g4⟩:=H.edge hm
   have rk:=hS H.st (.v 407 0) hkN
   have qt:((SX.r2 286 (SX.v 407 0) 2 0 (SX.v 551 0)).den e).1.toNat=p.1:=by
    show((e.nm 286).i2 ((e.nm 407).int 0).toNat (((e.nm 551).int 0).toNat * 2+0)).toNat=p.1
    rw [Nat.add_zero,g3];omega
   have rt:=hS H.st (.r2 286 (.v 407 0) 2 0 (.v 551 0)) (by rw [qt];exact pN)
   rw [qt]at rt
   have wk:∀r,(s.b ((e.nm 407).int 0).toNat r).wf:=fun r=>(H.st.ok _ r).1
   have wt:∀r,(s.b p.1 r).wf:=fun r=>(H.st.ok _ r).1
   have ik:=hD (.v 407 0) hkN
   have hB:QcW c (e.nm 42) (e.nm 54) (e.nm 82) (e.nm 83) (e.nm 84):=by(have hpq:=hcd;(repeat (first|exact hpq|exact hpq.1|replace hpq:=hpq.2));done)
   have ope:int (((e.nm 407).int 0).toNat * 9+2)=(c.I ((e.nm 407).int 0).toNat).op:=by rw [←hI _ hkN];rfl
   rw [ope]at hcd
   have gk:=H.eg.gd _ hkN
   have hn:¬(¬(c.I ((e.nm 407).int 0).toNat).op=23∧¬(c.I ((e.nm 407).int 0).toNat).op=24):=by(have hpq:=hcd;(repeat (first|exact hpq|exact hpq.1|replace hpq:=hpq.2));done)
   have j1:=hcd.2.2.1
   have j2:=hcd.2.2.2.1
   rw [rt,K7 hcd.1 hcd.2.1]at j1 j2
   have hA':Xw c.I (c.G ((e.nm 407).int 0).toNat) ((e.nm 407).int 0).toNat (s.b ((e.nm 407).int 0).toNat) p.2=fun _=>Qy:=by
    unfold Xw
    rw [if_pos (by omega)]
   exact⟨hB,s,p,H,hp,fun r hr=>(Qam (e:=e) (d:=634) (by rw [Jp];rfl) (by rw [Jp];rfl) r hr).trans (QrD j1 j2 hA' r hr)⟩
  ·have hM:∃s,Mid c (e.nm 286) (e.nm 318) (e.nm 387) (e.nm 407) (e.nm 551) (e.nm 552) (e.nm 511) (e.nm 553) s:=by(have hpq:=hcd;(repeat (first|exact hpq|exact hpq.1|replace hpq:=hpq.2));done)
   obtain⟨s,H⟩:=hM
   have hm:(e.nm 551).int 0 < (e.nm 286).int ((e.nm 407).int 0).toNat:=by(have hpq:=hcd;(repeat (first|exact hpq|exact hpq.1|replace hpq:=hpq.2));done)
   have hkN:((e.nm 407).int 0).toNat < c.N:=by have:=H.kN;have:=H.k0;omega
   obtain⟨p,hp,pN,g3,g4⟩:=H.edge hm
   have rk:=hS H.st (.v 407 0) hkN
   have qt:((SX.r2 286 (SX.v 407 0) 2 0 (SX.v 551 0)).den e).1.toNat=p.1:=by
    show((e.nm 286).i2 ((e.nm 407).int 0).toNat (((e.nm 551).int 0).toNat * 2+0)).toNat=p.1
    rw [Nat.add_zero,g3];omega
   have rt:=hS H.st (.r2 286 (.v 407 0) 2 0 (.v 551 0)) (by rw [qt];exact pN)
   rw [qt]at rt
   have wk:∀r,(s.b ((e.nm 407).int 0).toNat r).wf:=fun r=>(H.st.ok _ r).1
   have wt:∀r,(s.b p.1 r).wf:=fun r=>(H.st.ok _ r).1
   have ik:=hD (.v 407 0) hkN
   have hg1:(e.nm 318).int ((e.nm 407).int 0).toNat < c.N:=by(have hpq:=hcd;(repeat (first|exact hpq|exact hpq.1|replace hpq:=hpq.2));done)
   have hg0:0≤(e.nm 318).int ((e.nm 407).int 0).toNat:=by(have hpq:=hcd;(repeat (first|exact hpq|exact hpq.1|replace hpq:=hpq.2));done)
   have ig:=hD (.r 318 1 0 (.v 407 0)) (by simp only [dr1,dv1,Nat.mul_one,Nat.add_zero];omega)
   have cce:int (((e.nm 407).int 0).toNat * 9+5)=(c.I ((e.nm 407).int 0).toNat).cc:=by rw [←hI _ hkN];rfl
   have e1:Q8 (PX.dat e 0 (.l (.n .i64 (.r 0 9 5 (.v 407 0)))))=(c.I ((e.nm 407).int 0).toNat).cc:=by
    show(e.nm 0).int _=_
    rw [h0]
    exact cce
   have hT:QcL (PX.dat e 0 (.l (.t (.r2 286 (.v 407 0) 2 1 (.v 551 0)))))=p.2:=g4
   have hB:QcW c (e.nm 42) (e.nm 54) (e.nm 82) (e.nm 83) (e.nm 84):=by(have hpq:=hcd;(repeat (first|exact hpq|exact hpq.1|replace hpq:=hpq.2));done)
   have ope:int (((e.nm 407).int 0).toNat * 9+2)=(c.I ((e.nm 407).int 0).toNat).op:=by rw [←hI _ hkN];rfl
   have c1:=hcd.1
   have c2:=hcd.2.1
   have j1:=hcd.2.2.1
   have j2:=hcd.2.2.2.1
   rw [rt,K7 c1 c2]at j1 j2
   have gk:=H.eg.gd _ hkN
   rw [e1,ig,rk,hT]at j1 j2
   have q4:¬int (((e.nm 407).int 0).toNat * 9+2)=24:=by(have hpq:=hcd;(repeat (first|exact hpq|exact hpq.1|replace hpq:=hpq.2));done)
   have q3:¬int (((e.nm 407).int 0).toNat * 9+2)=23:=by(have hpq:=hcd;(repeat (first|exact hpq|exact hpq.1|replace hpq:=hpq.2));done)
   have q0:int (((e.nm 407).int 0).toNat * 9+2)=20:=by(have hpq:=hcd;(repeat (first|exact hpq|exact hpq.1|replace hpq:=hpq.2));done)
   rw [ope]at q4 q3 q0
   have hA':Xw c.I (c.G ((e.nm 407).int 0).toNat) ((e.nm 407).int 0).toNat (s.b ((e.nm 407).int 0).toNat) p.2=X3 (c.I ((e.nm 407).int 0).toNat).cc (c.I ((SX.r 318 1 0 (SX.v 407 0)).den e).1.toNat) (s.b ((e.nm 407).int 0).toNat) p.2:=by
    unfold Xw
    rw [if_neg (by omega),←gk,if_pos ⟨q0,hg0⟩]
    simp only [dr1,dv1,Nat.mul_one,Nat.add_zero]
   exact⟨hB,s,p,H,hp,fun r hr=>(Qam (e:=e) (d:=634) (by rw [Jp];rfl) (by rw [Jp];rfl) r hr).trans (QrD j1 j2 hA' r hr)⟩
  ·have hM:∃s,Mid c (e.nm 286) (e.nm 318) (e.nm 387) (e.nm 407) (e.nm 551) (e.nm 552) (e.nm 511) (e.nm 553) s:=by(have hpq:=hcd;(repeat (first|exact hpq|exact hpq.1|replace hpq:=hpq.2));done)
   obtain⟨s,H⟩:=hM
   have hm:(e.nm 551).int 0 < (e.nm 286).int ((e.nm 407).int 0).toNat:=by(have hpq:=hcd;(repeat (first|exact hpq|exact hpq.1|replace hpq:=hpq.2));done)
   have hkN:((e.nm 407).int 0).toNat < c.N:=by have:=H.kN;have:=H.k0;omega
   obtain⟨p,hp,pN,g3,g4⟩:=H.edge hm
   have rk:=hS H.st (.v 407 0) hkN
   have qt:((SX.r2 286 (SX.v 407 0) 2 0 (SX.v 551 0)).den e).1.toNat=p.1:=by
    show((e.nm 286).i2 ((e.nm 407).int 0).toNat (((e.nm 551).int 0).toNat * 2+0)).toNat=p.1
    rw [Nat.add_zero,g3];omega
   have rt:=hS H.st (.r2 286 (.v 407 0) 2 0 (.v 551 0)) (by rw [qt];exact pN)
   rw [qt]at rt
   have wk:∀r,(s.b ((e.nm 407).int 0).toNat r).wf:=fun r=>(H.st.ok _ r).1
   have wt:∀r,(s.b p.1 r).wf:=fun r=>(H.st.ok _ r).1
   have ik:=hD (.v 407 0) hkN
   have hB:QcW c (e.nm 42) (e.nm 54) (e.nm 82) (e.nm 83) (e.nm 84):=by(have hpq:=hcd;(repeat (first|exact hpq|exact hpq.1|replace hpq:=hpq.2));done)
   have ope:int (((e.nm 407).int 0).toNat * 9+2)=(c.I ((e.nm 407).int 0).toNat).op:=by rw [←hI _ hkN];rfl
   have c1:=hcd.1
   have c2:=hcd.2.1
   have j1:=hcd.2.2.1
   have j2:=hcd.2.2.2.1
   rw [rt,K7 c1 c2]at j1 j2
   have gk:=H.eg.gd _ hkN
   have hn:¬(int (((e.nm 407).int 0).toNat * 9+2)=20∧0≤(e.nm 318).int ((e.nm 407).int 0).toNat):=by(have hpq:=hcd;(repeat (first|exact hpq|exact hpq.1|replace hpq:=hpq.2));done)
   have q4:¬int (((e.nm 407).int 0).toNat * 9+2)=24:=by(have hpq:=hcd;(repeat (first|exact hpq|exact hpq.1|replace hpq:=hpq.2));done)
   have q3:¬int (((e.nm 407).int 0).toNat * 9+2)=23:=by(have hpq:=hcd;(repeat (first|exact hpq|exact hpq.1|replace hpq:=hpq.2));done)
   rw [ope]at q4 q3 hn
   rw [ik,rk]at j1 j2
   have hA':Xw c.I (c.G ((e.nm 407).int 0).toNat) ((e.nm 407).int 0).toNat (s.b ((e.nm 407).int 0).toNat) p.2=Qw (c.I ((SX.v 407 0).den e).1.toNat) (s.b ((SX.v 407 0).den e).1.toNat):=by
    unfold Xw
    rw [if_neg (by omega),←gk,if_neg hn]
    rfl
   exact⟨hB,s,p,H,hp,fun r hr=>(Qam (e:=e) (d:=634) (by rw [Jp];rfl) (by rw [Jp];rfl) r hr).trans (QrD j1 j2 hA' r hr)⟩
  ·have h6:∃s p,QcZ c (e.nm 286) (e.nm 318) (e.nm 387) (e.nm 407) (e.nm 551) (e.nm 552) (e.nm 511) (e.nm 553) (e.nm 898) s p:=by(have hpq:=hcd;(repeat (first|exact hpq|exact hpq.1|replace hpq:=hpq.2));done)
   obtain⟨s,p,H⟩:=h6
   obtain⟨g1,pN,g3,g4⟩:=H.mid.edge' H.pe
   have qt:((SX.r2 286 (SX.v 407 0) 2 0 (SX.v 551 0)).den e).1.toNat=p.1:=by
    show((e.nm 286).i2 ((e.nm 407).int 0).toNat (((e.nm 551).int 0).toNat * 2+0)).toNat=p.1
    rw [Nat.add_zero,g3];omega
   show Qd.wf (Jr (e.nm 552).int (e.nm 552).bool ((SX.r2 286 (SX.v 407 0) 2 0 (SX.v 551 0)).den e).1.toNat 0)∧Qd.wf (WU (e.nm 898) 0)
   rw [qt,H.mid.st.b _ pN 0 (by omega),H.nx 0 (by omega)]
   exact⟨(H.mid.st.ok _ _).1,(KU hc.wf H.mid.st.ok _).1⟩
  ·have h6:∃s p,QcZ c (e.nm 286) (e.nm 318) (e.nm 387) (e.nm 407) (e.nm 551) (e.nm 552) (e.nm 511) (e.nm 553) (e.nm 898) s p:=by(have hpq:=hcd;(repeat (first|exact hpq|exact hpq.1|replace hpq:=hpq.2));done)
   obtain⟨s,p,H⟩:=h6
   obtain⟨g1,pN,g3,g4⟩:=H.mid.edge' H.pe
   have qt:((SX.r2 286 (SX.v 407 0) 2 0 (SX.v 551 0)).den e).1.toNat=p.1:=by
    show((e.nm 286).i2 ((e.nm 407).int 0).toNat (((e.nm 551).int 0).toNat * 2+0)).toNat=p.1
    rw [Nat.add_zero,g3];omega
   show Qd.wf (Jr (e.nm 552).int (e.nm 552).bool ((SX.r2 286 (SX.v 407 0) 2 0 (SX.v 551 0)).den e).1.toNat 1)∧Qd.wf (WU (e.nm 898) 1)
   rw [qt,H.mid.st.b _ pN 1 (by omega),H.nx 1 (by omega)]
   exact⟨(H.mid.st.ok _ _).1,(KU hc.wf H.mid.st.ok _).1⟩
  ·have h6:∃s p,QcZ c (e.nm 286) (e.nm 318) (e.nm 387) (e.nm 407) (e.nm 551) (e.nm 552) (e.nm 511) (e.nm 553) (e.nm 898) s p:=by(have hpq:=hcd;(repeat (first|exact hpq|exact hpq.1|replace hpq:=hpq.2));done)
   obtain⟨s,p,H⟩:=h6
   obtain⟨g1,pN,g3,g4⟩:=H.mid.edge' H.pe
   have qt:((SX.r2 286 (SX.v 407 0) 2 0 (SX.v 551 0)).den e).1.toNat=p.1:=by
    show((e.nm 286).i2 ((e.nm 407).int 0).toNat (((e.nm 551).int 0).toNat * 2+0)).toNat=p.1
    rw [Nat.add_zero,g3];omega
   show Qd.wf (Jr (e.nm 552).int (e.nm 552).bool ((SX.r2 286 (SX.v 407 0) 2 0 (SX.v 551 0)).den e).1.toNat 2)∧Qd.wf (WU (e.nm 898) 2)
   rw [qt,H.mid.st.b _ pN 2 (by omega),H.nx 2 (by omega)]
   exact⟨(H.mid.st.ok _ _).1,(KU hc.wf H.mid.st.ok _).1⟩
  ·have h6:∃s p,QcZ c (e.nm 286) (e.nm 318) (e.nm 387) (e.nm 407) (e.nm 551) (e.nm 552) (e.nm 511) (e.nm 553) (e.nm 898) s p:=by(have hpq:=hcd;(repeat (first|exact hpq|exact hpq.1|replace hpq:=hpq.2));done)
   obtain⟨s,p,H⟩:=h6
   obtain⟨g1,pN,g3,g4⟩:=H.mid.edge' H.pe
   have qt:((SX.r2 286 (SX.v 407 0) 2 0 (SX.v 551 0)).den e).1.toNat=p.1:=by
    show((e.nm 286).i2 ((e.nm 407).int 0).toNat (((e.nm 551).int 0).toNat * 2+0)).toNat=p.1
    rw [Nat.add_zero,g3];omega
   show Qd.wf (Jr (e.nm 552).int (e.nm 552).bool ((SX.r2 286 (SX.v 407 0) 2 0 (SX.v 551 0)).den e).1.toNat 3)∧Qd.wf (WU (e.nm 898) 3)
   rw [qt,H.mid.st.b _ pN 3 (by omega),H.nx 3 (by omega)]
   exact⟨(H.mid.st.ok _ _).1,(KU hc.wf H.mid.st.ok _).1⟩
  ·have h6:∃s p,QcZ c (e.nm 286) (e.nm 318) (e.nm 387) (e.nm 407) (e.nm 551) (e.nm 552) (e.nm 511) (e.nm 553) (e.nm 898) s p:=by(have hpq:=hcd;(repeat (first|exact hpq|exact hpq.1|replace hpq:=hpq.2));done)
   obtain⟨s,p,H⟩:=h6
   obtain⟨g1,pN,g3,g4⟩:=H.mid.edge' H.pe
   have qt:((SX.r2 286 (SX.v 407 0) 2 0 (SX.v 551 0)).den e).1.toNat=p.1:=by
    show((e.nm 286).i2 ((e.nm 407).int 0).toNat (((e.nm 551).int 0).toNat * 2+0)).toNat=p.1
    rw [Nat.add_zero,g3];omega
   show Qd.wf (Jr (e.nm 552).int (e.nm 552).bool ((SX.r2 286 (SX.v 407 0) 2 0 (SX.v 551 0)).den e).1.toNat 4)∧Qd.wf (WU (e.nm 898) 4)
   rw [qt,H.mid.st.b _ pN 4 (by omega),H.nx 4 (by omega)]
   exact⟨(H.mid.st.ok _ _).1,(KU hc.wf H.mid.st.ok _).1⟩
  ·have h6:∃s p,QcZ c (e.nm 286) (e.nm 318) (e.nm 387) (e.nm 407) (e.nm 551) (e.nm 552) (e.nm 511) (e.nm 553) (e.nm 898) s p:=by(have hpq:=hcd;(repeat (first|exact hpq|exact hpq.1|replace hpq:=hpq.2));done)
   obtain⟨s,p,H⟩:=h6
   obtain⟨g1,pN,g3,g4⟩:=H.mid.edge' H.pe
   have qt:((SX.r2 286 (SX.v 407 0) 2 0 (SX.v 551 0)).den e).1.toNat=p.1:=by
    show((e.nm 286).i2 ((e.nm 407).int 0).toNat (((e.nm 551).int 0).toNat * 2+0)).toNat=p.1
    rw [Nat.add_zero,g3];omega
   show Qd.wf (Jr (e.nm 552).int (e.nm 552).bool ((SX.r2 286 (SX.v 407 0) 2 0 (SX.v 551 0)).den e).1.toNat 5)∧Qd.wf (WU (e.nm 898) 5)
   rw [qt,H.mid.st.b _ pN 5 (by omega),H.nx 5 (by omega)]
   exact⟨(H.mid.st.ok _ _).1,(KU hc.wf H.mid.st.ok _).1⟩
  ·have h6:∃s p,QcZ c (e.nm 286) (e.nm 318) (e.nm 387) (e.nm 407) (e.nm 551) (e.nm 552) (e.nm 511) (e.nm 553) (e.nm 898) s p:=by(have hpq:=hcd;(repeat (first|exact hpq|exact hpq.1|replace hpq:=hpq.2));done)
   obtain⟨s,p,H⟩:=h6
   obtain⟨g1,pN,g3,g4⟩:=H.mid.edge' H.pe
   have qt:((SX.r2 286 (SX.v 407 0) 2 0 (SX.v 551 0)).den e).1.toNat=p.1:=by
    show((e.nm 286).i2 ((e.nm 407).int 0).toNat (((e.nm 551).int 0).toNat * 2+0)).toNat=p.1
    rw [Nat.add_zero,g3];omega
   show Qd.wf (Jr (e.nm 552).int (e.nm 552).bool ((SX.r2 286 (SX.v 407 0) 2 0 (SX.v 551 0)).den e).1.toNat 6)∧Qd.wf (WU (e.nm 898) 6)
   rw [qt,H.mid.st.b _ pN 6 (by omega),H.nx 6 (by omega)]
   exact⟨(H.mid.st.ok _ _).1,(KU hc.wf H.mid.st.ok _).1⟩
  ·have h6:∃s p,QcZ c (e.nm 286) (e.nm 318) (e.nm 387) (e.nm 407) (e.nm 551) (e.nm 552) (e.nm 511) (e.nm 553) (e.nm 898) s p:=by(have hpq:=hcd;(repeat (first|exact hpq|exact hpq.1|replace hpq:=hpq.2));done)
   obtain⟨s,p,H⟩:=h6
   obtain⟨g1,pN,g3,g4⟩:=H.mid.edge' H.pe
   have qt:((SX.r2 286 (SX.v 407 0) 2 0 (SX.v 551 0)).den e).1.toNat=p.1:=by
    show((e.nm 286).i2 ((e.nm 407).int 0).toNat (((e.nm 551).int 0).toNat * 2+0)).toNat=p.1
    rw [Nat.add_zero,g3];omega
   show Qd.wf (Jr (e.nm 552).int (e.nm 552).bool ((SX.r2 286 (SX.v 407 0) 2 0 (SX.v 551 0)).den e).1.toNat 7)∧Qd.wf (WU (e.nm 898) 7)
   rw [qt,H.mid.st.b _ pN 7 (by omega),H.nx 7 (by omega)]
   exact⟨(H.mid.st.ok _ _).1,(KU hc.wf H.mid.st.ok _).1⟩
  ·obtain⟨w7,v7,w6,v6,w5,v5,w4,v4,w3,v3,w2,v2,w1,v1,w0,v0,B,⟨s,p,H⟩,h4,hq1,hq0,hN⟩:=hcd
   obtain⟨g1,pN,g3,g4⟩:=H.mid.edge' H.pe
   rw [g3,Int.toNat_natCast,H.mid.st.v _ pN]at h4
   have qt:((SX.r2 286 (SX.v 407 0) 2 0 (SX.v 551 0)).den e).1.toNat=p.1:=by
    show((e.nm 286).i2 ((e.nm 407).int 0).toNat (((e.nm 551).int 0).toNat * 2+0)).toNat=p.1
    rw [Nat.add_zero,g3];omega
   have wd:∀r,r < 8→KA s p.1 (Jb c.I c.G ((e.nm 407).int 0).toNat s p) r=JH (s.b p.1 r) (Jb c.I c.G ((e.nm 407).int 0).toNat s p r):=fun r hr=>by
    unfold KA
    rw [if_pos h4]
    unfold ZN
    rw [if_pos hr]
   have sx:∀r,r < 8→JH (Jr (e.nm 552).int (e.nm 552).bool ((SX.r2 286 (SX.v 407 0) 2 0 (SX.v 551 0)).den e).1.toNat r) (WU (e.nm 898) r)=JH (s.b p.1 r) (Jb c.I c.G ((e.nm 407).int 0).toNat s p r):=fun r hr=>by
    rw [qt,H.mid.st.b _ pN r hr,H.nx r hr]
   refine⟨B,s,p,H.mid,H.pe,?_⟩
   rw [Jp]
   exact fun r hr=>match r,hr with
    |0,_=>((QA e 987 w0 v0).trans (sx 0 (by omega))).trans (wd 0 (by omega)).symm
    |1,_=>((QA e 1059 w1 v1).trans (sx 1 (by omega))).trans (wd 1 (by omega)).symm
    |2,_=>((QA e 1131 w2 v2).trans (sx 2 (by omega))).trans (wd 2 (by omega)).symm
    |3,_=>((QA e 1203 w3 v3).trans (sx 3 (by omega))).trans (wd 3 (by omega)).symm
    |4,_=>((QA e 1275 w4 v4).trans (sx 4 (by omega))).trans (wd 4 (by omega)).symm
    |5,_=>((QA e 1347 w5 v5).trans (sx 5 (by omega))).trans (wd 5 (by omega)).symm
    |6,_=>((QA e 1419 w6 v6).trans (sx 6 (by omega))).trans (wd 6 (by omega)).symm
    |7,_=>((QA e 1491 w7 v7).trans (sx 7 (by omega))).trans (wd 7 (by omega)).symm
  ·obtain⟨h4,B,⟨s,p,H⟩,hq1,hq0,hN⟩:=hcd
   obtain⟨g1,pN,g3,g4⟩:=H.mid.edge' H.pe
   rw [g3,Int.toNat_natCast,H.mid.st.v _ pN]at h4
   refine⟨B,s,p,H.mid,H.pe,fun r hr=>?_⟩
   have wd:KA s p.1 (Jb c.I c.G ((e.nm 407).int 0).toNat s p) r=Jb c.I c.G ((e.nm 407).int 0).toNat s p r:=by
    unfold KA
    rw [if_neg h4]
   rw [Jp]
   exact(Qam (e:=e) (d:=898) rfl rfl r hr).trans (Eq.trans (show Zg e 898 (5 * r)=WU (e.nm 898) r from rfl) ((H.nx r hr).trans wd.symm))
 ·refine⟨?_,?_,?_,?_,trivial⟩
  all_goals
   intro e u w' he hcd hs hb
   have h0:e.nm 0=nmR base cap int bool:=he 0 (by decide)
   have h1:e.nm 1=nmN c.en:=he 1 (by decide)
   have h2:e.nm 2=nmN c.R:=he 2 (by decide)
   have h3:e.nm 3=nmN c.N:=he 3 (by decide)
   simp only [QC,Zb,Cd.holds,dv1,dv2,di1,db2,dr1,dr2,dq1,dq2,do1,Z1,Z0,Zx,Zw,Zz,Zy,Zv,Zu,Zt,Zs,Z3,Z2,Xt,Xs,Xp,Xo,Xr,Xq,List.map_cons,List.map_nil,Nat.mul_one,Nat.add_zero,List.getElem?_cons_zero,List.getElem?_cons_succ,Option.some.injEq,exists_eq_left',and_true,and_assoc,Env.int,Env.bool,X8,Nat.reduceLeDiff,Nat.reduceAdd,an0,an1,an2,an3,an4,an5,an6,an7,an8,an9,QtX,QtY,QtZ,Qua,Qub,Quc,Qud,Que,Quf,Qug,Ji,anI,bs,h0,h1,h2,h3,nmR,nmN,nmI]at hcd
   rw [show u=_ from hs]
  ·refine⟨nmI fun j=>if j=1 then 6 else 0,Nm.zero,rfl,?_,Nat.le_refl _,.inl ⟨rfl,rfl⟩⟩
   unfold ZZ Xz
   rw [if_pos (by omega)]
   exact⟨rfl,rfl⟩
  ·obtain⟨hb',he0,hlt,H⟩:=hcd
   refine⟨nmI fun j=>if j=1 then 9 else 0,Nm.zero,rfl,?_,Nat.le_refl _,.inl ⟨rfl,rfl⟩⟩
   unfold ZZ Xz
   have pN:=H.p.N
   have kN:=H.kN
   have e1:((e.nm 82).int 0).toNat=c.N:=by omega
   have ha:=(H.at' c.en.toNat).1
   rw [e1,hb',Int.toNat_of_nonneg hc.en0]at ha
   rw [if_neg (by omega)]
   cases hf:Qv c.I c.en c.N with
   |none=>exact⟨rfl,rfl⟩
   |some t=>rw [hf]at ha;cases ha
  ·obtain⟨hi,x1,x2,B,H⟩:=hcd
   have hk:(e.nm 407).int 0=JL (e.nm 390).bool c.N true:=by
    have hq:(e.nm 407).int=fun _=>JL (e.nm 390).bool ((e.nm 3).int 0).toNat true:=x1
    rw [h3]at hq
    exact congrFun hq 0
   rw [hk]at hi
   obtain⟨b,hres,hbis⟩:=Qrf H hi
   refine⟨nmI fun j=>if j=1 then 0 else(e.nm 82).int 1,{e.nm 388 with base:=e.base 84,cap:=e.cap 84},rfl,?_,hb.2.2.2.2.1⟩
   have pN:=B.p.N
   have hA:Xz c.I c.N c.en c.R= .ok b:=by
    unfold Xz
    rw [if_neg (by omega),B.fst]
    dsimp only
    rw [show QaM c.I (XH c.I c.N) (Xk c.I c.N c.f) c.N c.R.toNat (Ws c.f)=some b from hres]
   unfold ZZ
   rw [hA]
   exact⟨B.len,rfl,hbis⟩
  ·obtain⟨hR,hi,x1,x2,B,H⟩:=hcd
   have hk:(e.nm 407).int 0=JL (e.nm 390).bool c.N true:=by
    have hq:(e.nm 407).int=fun _=>JL (e.nm 390).bool ((e.nm 3).int 0).toNat true:=x1
    rw [h3]at hq
    exact congrFun hq 0
   rw [hk]at hi
   have hres:=Qoz H hi hR
   refine⟨nmI fun j=>if j=1 then 15 else 0,Nm.zero,rfl,?_,Nat.le_refl _,.inl ⟨rfl,rfl⟩⟩
   have pN:=B.p.N
   have hA:Xz c.I c.N c.en c.R= .error 15:=by
    unfold Xz
    rw [if_neg (by omega),B.fst]
    dsimp only
    rw [show QaM c.I (XH c.I c.N) (Xk c.I c.N c.f) c.N c.R.toNat (Ws c.f)=none from hres]
   unfold ZZ
   rw [hA]
   exact⟨rfl,rfl⟩
end Go.Proofs.Yteplnamfpodmlaa.T2
