/-
  VsaRefineSound: for all conditions, valid instructions and registers in the sets of a state the call returns true: the registers are in the refined sets of the outcome that the condition has. No condition on the inputs.
-/
import Derived.Test.YteplnamfpodmlaaRows
import Derived.Test.YteplnamfpodmlaaQLz
set_option linter.unusedVariables false
set_option linter.unusedSimpArgs false
set_option maxRecDepth 100000
open Go.ChangeShapes Go.WideShapes Go.ChangeAt Go.RowKit
namespace Go.Proofs.Yteplnamfpodmlaa.T2
def Qqc:List Sg:= [⟨25,[.a Qb],.b (.l none),true,true⟩,⟨26,[.a Qu,.a stK],.b (.l none),true,false⟩,⟨30,[.l (some .u32),.l (some .u32)],.b (.tp [.inl (some .u32),.inr Ky]),true,false⟩,⟨31,[.a Qb,.a Qu],.b (.l (some .u32)),true,false⟩,⟨32,[.l (some .i64),.a Ky],.b (.l none),true,true⟩,⟨28,[.l (some .i64),.a Qb,.a stK,.l none],.b (.a stK),true,false⟩,⟨12,[],.b (.l none),true,true⟩]
def QjQ:List PX:= [.a (Qa 0 0 JJ ++ [.sl 2 (.v 1 0)])]
def QmQ:List Rw:= [⟨2,Qb,(.v 1 0)⟩]
def QmO:Cfg:=⟨3,Qqc,[],[],[]⟩
def Qqa:List Lf:= [⟨[.f 79 6 [],.c (.an (.v 43 0) (.v 67 0)) false,.f 67 1 [(.a (Qa 0 90 Qu),0),(.a (Qa 0 10 stK),0)],.f 43 0 [(.a (Qa 0 1 Qb),0)]],.v (.l (.t (.v 79 0))),[⟨3,.cells 50 ((Qa 0 0 JJ ++ [.sl 2 (.v 1 0)]))⟩,⟨27,.cells 37 (Qa 0 10 stK)⟩]⟩,
 ⟨[.f 207 6 [],.f 199 1 [(.a (Qa 0 90 Qu),0),(.a (Qa 195 0 stK),0)],.f 195 5 [(.l (.n .i64 (.v 0 0)),0),(.a (Qa 0 1 Qb),0),(.a (Qa 0 10 stK),0),(.l (.t (.v 191 0)),0)],.f 191 4 [(.l (.n .i64 (.v 0 0)),0),(.a (Qa 123 1 Ky),0)],.f 123 2 [(.l (.n .u32 (.r 0 1 90 (.v 0 7))),0),(.l (.n .u32 (.v 119 0)),0)],.f 119 3 [(.a (Qa 0 1 Qb),0),(.a (Qa 0 90 Qu),0)],.f 67 1 [(.a (Qa 0 90 Qu),0),(.a (Qa 0 10 stK),0)],.f 43 0 [(.a (Qa 0 1 Qb),0)],.c (.v 67 0) true,.c (.v 43 0) true,.c (.c .lss (.v 0 7) (.i 8)) true,.c (.c .geq (.v 0 7) (.i 0)) true],.v (.l (.t (.an (.v 199 0) (.v 207 0)))),[⟨3,.cells 50 ((Qa 0 0 JJ ++ [.sl 2 (.v 1 0)]))⟩,⟨27,.cells 37 (Qa 0 10 stK)⟩,⟨139,.cells 66 (Qa 123 1 Ky)⟩]⟩]
def Qqb:List Ob:=
 let z0:PX:= .a (Qa 0 1 Qb)
 let z1:PX:= .a (Qa 0 90 Qu)
 let z2:PX:= .a (Qa 0 10 stK)
 let z3:List Cd:= [.f 67 1 [(z1,0),(z2,0)],.f 43 0 [(z0,0)],.c (.v 67 0) true,.c (.v 43 0) true]
 let z4:SX:= .c .geq (.v 0 7) (.i 0)
 let z5:SX:= .c .lss (.v 0 7) (.i 8)
 [.pre [.c (.v 43 0) true,.f 43 0 [(z0,0)]] 1 [(z1,0),(z2,0)],.pre z3 3 [(z0,0),(z1,0)],.cl z3 z4,.cl z3 z5,.cl (.f 119 3 [(z0,0),(z1,0)] :: z3) z4,.cl (.f 119 3 [(z0,0),(z1,0)] :: z3) z5,.pre [.f 67 1 [(z1,0),(z2,0)],.f 43 0 [(z0,0)],.c (.v 67 0) true,.c (.v 43 0) true,.c z5 true,.c z4 true] 3 [(z0,0),(z1,0)],.pre [.f 119 3 [(z0,0),(z1,0)],.f 67 1 [(z1,0),(z2,0)],.f 43 0 [(z0,0)],.c (.v 67 0) true,.c (.v 43 0) true,.c z5 true,.c z4 true] 2 [(.l (.n .u32 (.r 0 1 90 (.v 0 7))),0),(.l (.n .u32 (.v 119 0)),0)],.pre [.f 191 4 [(.l (.n .i64 (.v 0 0)),0),(.a (Qa 123 1 Ky),0)],.f 123 2 [(.l (.n .u32 (.r 0 1 90 (.v 0 7))),0),(.l (.n .u32 (.v 119 0)),0)],.f 119 3 [(z0,0),(z1,0)],.f 67 1 [(z1,0),(z2,0)],.f 43 0 [(z0,0)],.c (.v 67 0) true,.c (.v 43 0) true,.c z5 true,.c z4 true] 5 [(.l (.n .i64 (.v 0 0)),0),(z0,0),(z2,0),(.l (.t (.v 191 0)),0)],.pre [.f 195 5 [(.l (.n .i64 (.v 0 0)),0),(z0,0),(z2,0),(.l (.t (.v 191 0)),0)],.f 191 4 [(.l (.n .i64 (.v 0 0)),0),(.a (Qa 123 1 Ky),0)],.f 123 2 [(.l (.n .u32 (.r 0 1 90 (.v 0 7))),0),(.l (.n .u32 (.v 119 0)),0)],.f 119 3 [(z0,0),(z1,0)],.f 67 1 [(z1,0),(z2,0)],.f 43 0 [(z0,0)],.c (.v 67 0) true,.c (.v 43 0) true,.c z5 true,.c z4 true] 1 [(z1,0),(.a (Qa 195 0 stK),0)]]
theorem QmP:QP Try.prog QmO 1000 4 8 Try.f8 QjQ QmQ=some (Qqa,Qqb):=by kernel_rfl
def VF:List (Kon Try.prog):= [Yd,J5.kon,QdT.kon,Kj.kon,Qd9,Vc.kon,kEx]
def rsI(e:Env):Ins:=Qu9 (e.nm 0).int 1
def rsS(e:Env):Nat→Qd:=stO (e.nm 0).int (e.nm 0).bool 10
def rsX(e:Env):Nat→Int:=X5 (e.nm 0).int 90
section
variable{e:Env}
theorem Qie(h:Cd.holds VF [] e (.f 43 0 [(.a (Qa 0 1 Qb),0)])):(e.nm 43).bool=fun _=>Qj (rsI e):=(Wh h (c:=Yd) rfl).2
theorem Qvn(h:Cd.holds VF [] e (.f 67 1 [(.a (Qa 0 90 Qu),0),(.a (Qa 0 10 stK),0)])):(e.nm 67).bool=fun _=>inB (rsX e) (rsS e):=by
 have g:(e.nm 67).bool=fun _=>inB (Xh (PX.dat e 0 (.a (Qa 0 90 Qu)))) (stD (PX.dat e 0 (.a (Qa 0 10 stK)))):=(Wh h (c:=J5.kon) rfl).2
 rw [g,Z9,Qb8];rfl
theorem QrT(h:Cd.holds VF [] e (.f 119 3 [(.a (Qa 0 1 Qb),0),(.a (Qa 0 90 Qu),0)])):(e.nm 119).int=fun _=>Kc (rsI e) (rsX e):=by
 have g:(e.nm 119).int=fun _=>Kc (Q0 (PX.dat e 0 (.a (Qa 0 1 Qb)))) (Xh (PX.dat e 0 (.a (Qa 0 90 Qu)))):=(Wh h (c:=Kj.kon) rfl).1
 rw [g,Yy,Z9];rfl
theorem QrR(h:0≤(rsI e).a∧(rsI e).a < 8):((SX.r 0 1 90 (.v 0 7)).den e).1=rsX e (rsI e).a.toNat:=by
 show(e.nm 0).int (((e.nm 0).int 7).toNat * 1+90)=_
 have ha:(rsI e).a=(e.nm 0).int 7:=rfl
 unfold rsX X5
 rw [ha]at h ⊢
 rw [if_pos (by omega),Nat.mul_one,Nat.add_comm]
theorem QuM(h:Cd.holds VF [] e (.f 123 2 [(.l (.n .u32 (.r 0 1 90 (.v 0 7))),0),(.l (.n .u32 (.v 119 0)),0)]))(h2:Cd.holds VF [] e (.f 119 3 [(.a (Qa 0 1 Qb),0),(.a (Qa 0 90 Qu),0)]))(ha:0≤(rsI e).a∧(rsI e).a < 8) :
 (e.nm 123).bool=fun j=>if j=1 then QaV (rsX e (rsI e).a.toNat) (Kc (rsI e) (rsX e))else if j=2 then Go.Proofs.Yteplnamfpodmlaa.subN (rsX e (rsI e).a.toNat) (Kc (rsI e) (rsX e))else if j=3 then Qe6 (rsX e (rsI e).a.toNat) (Kc (rsI e) (rsX e))else Go.Proofs.Yteplnamfpodmlaa.subV (rsX e (rsI e).a.toNat) (Kc (rsI e) (rsX e)):=by
 have g:(e.nm 123).bool=fun j=>if j=1 then QaV ((SX.r 0 1 90 (.v 0 7)).den e).1 ((e.nm 119).int 0)else if j=2 then Go.Proofs.Yteplnamfpodmlaa.subN ((SX.r 0 1 90 (.v 0 7)).den e).1 ((e.nm 119).int 0)else if j=3 then Qe6 ((SX.r 0 1 90 (.v 0 7)).den e).1 ((e.nm 119).int 0)else Go.Proofs.Yteplnamfpodmlaa.subV ((SX.r 0 1 90 (.v 0 7)).den e).1 ((e.nm 119).int 0):=(Wh h (c:=QdT.kon) rfl).2
 rw [g,QrR ha,QrT h2]
theorem QrQ(h:Cd.holds VF [] e (.f 191 4 [(.l (.n .i64 (.v 0 0)),0),(.a (Qa 123 1 Ky),0)])):(e.nm 191).bool=fun _=>KI ((e.nm 0).int 0) ((e.nm 123).bool 1) ((e.nm 123).bool 2) ((e.nm 123).bool 3) ((e.nm 123).bool 4):=(Wh h (c:=Qd9) rfl).2
theorem QrS(h:Cd.holds VF [] e (.f 195 5 [(.l (.n .i64 (.v 0 0)),0),(.a (Qa 0 1 Qb),0),(.a (Qa 0 10 stK),0),(.l (.t (.v 191 0)),0)])):e.int 195=ZH (X3 ((e.nm 0).int 0) (rsI e) (rsS e) ((e.nm 191).bool 0))∧e.bool 195=QU (X3 ((e.nm 0).int 0) (rsI e) (rsS e) ((e.nm 191).bool 0)):=by
 have g:e.int 195=ZH (X3 ((e.nm 0).int 0) (Q0 (PX.dat e 0 (.a (Qa 0 1 Qb)))) (stD (PX.dat e 0 (.a (Qa 0 10 stK)))) ((e.nm 191).bool 0))∧e.bool 195=QU (X3 ((e.nm 0).int 0) (Q0 (PX.dat e 0 (.a (Qa 0 1 Qb)))) (stD (PX.dat e 0 (.a (Qa 0 10 stK)))) ((e.nm 191).bool 0)):=Wh h (c:=Vc.kon) rfl
 rw [Yy,Qb8]at g
 exact g
end
theorem vsaRefineSound_walk'(ci:Nat→Int)(cb:Nat→Bool)(hc:InR JJ ci 0)(A:Option Addr)(n c:Nat)(hl:n≤maxLen)(ri:Nat→Int)(rb:Nat→Bool)(hr:∀i,i < n→InR Qb ri (i * Qb.length))(w:World)(hrow:Xn w A n Qb ri rb) :
 Calls Try.prog 8 #[.agg (ZB ci cb 0 JJ ++ [Value.slice A n c]).toArray] w (Ret (.bool true) w):=by
 have K:=Qns hc
 have KS:=Qsj (bool:=cb) K.s
 have key:∀e:Env,e.nm 0=nmB ci cb→(rsI e).wf∧(∀k,(rsS e k).wf)∧(∀k,Q5 (rsX e k))∧Yx ((e.nm 0).int 0):=fun e h0=>by
  unfold rsI rsS rsX
  rw [h0]
  exact⟨K.ins,KS,K.x,K.cc⟩
 refine ZK (C:=VF) (I:= []) Qr rfl Try.func8 QmP (Kh [nmB ci cb,nmN n,nmR A c ri rb]) w rfl ?_ _ ?_ ?_
 ·intro r hr0
  rw [List.mem_singleton.1 hr0]
  exact hrow
 ·refine⟨?_,?_,?_,?_,?_,?_,?_,?_,?_,?_,trivial⟩
  ·intro e he hcd
   obtain⟨k1,k2,k3,k4⟩:=key e (he 0 (by decide))
   show(∀k,Q5 (Xh (PX.dat e 0 (.a (Qa 0 90 Qu))) k))∧∀k,(stD (PX.dat e 0 (.a (Qa 0 10 stK))) k).wf
   rw [Z9,Qb8]
   exact⟨k3,k2⟩
  all_goals
   intro e he hcd
   obtain⟨k1,k2,k3,k4⟩:=key e (he 0 (by decide))
   have hv:Qj (rsI e)=true:=by
    have h1:Cd.holds VF [] e (.f 43 0 [(.a (Qa 0 1 Qb),0)]):=by(have hpq:=hcd;(repeat (first|exact hpq|exact hpq.1|replace hpq:=hpq.2));done)
    have h2:(e.nm 43).bool 0=true:=by
     have:Cd.holds VF [] e (.c (.v 43 0) true):=by(have hpq:=hcd;(repeat (first|exact hpq|exact hpq.1|replace hpq:=hpq.2));done)
     exact this
    rw [Qie h1]at h2
    exact h2
   obtain⟨a0,a8,b0,b8, -⟩:=QN hv
  all_goals
   first
    |exact⟨b0,b8⟩
    |exact decide_eq_true a0
    |exact decide_eq_true a8
    |(have hsrc:Cd.holds VF [] e (.f 119 3 [(.a (Qa 0 1 Qb),0),(.a (Qa 0 90 Qu),0)]):=by(have hpq:=hcd;(repeat (first|exact hpq|exact hpq.1|replace hpq:=hpq.2));done)
      show Q5 ((SX.r 0 1 90 (.v 0 7)).den e).1∧Q5 ((e.nm 119).int 0)
      rw [QrR ⟨a0,a8⟩,QrT hsrc]
      exact⟨k3 _,Qcq k1 k3⟩)
    |(show Yx ((e.nm 0).int 0)∧(Q0 (PX.dat e 0 (.a (Qa 0 1 Qb)))).wf∧∀k,(stD (PX.dat e 0 (.a (Qa 0 10 stK))) k).wf
      rw [Yy,Qb8]
      exact⟨k4,k1,k2⟩)
    |(have hrf:=QrS (e:=e) (by(have hpq:=hcd;(repeat (first|exact hpq|exact hpq.1|replace hpq:=hpq.2));done))
      show(∀k,Q5 (Xh (PX.dat e 0 (.a (Qa 0 90 Qu))) k))∧∀k,(stD (PX.dat e 0 (.a (Qa 195 0 stK))) k).wf
      rw [Z9,K7 hrf.1 hrf.2]
      exact⟨k3,We (QaJ k1 k2)⟩)
 ·refine⟨?_,?_,trivial⟩
  ·intro e u he hcd hs
   have g:(e.nm 79).int=_∧(e.nm 79).bool=fun _=>true:=Wh hcd.1 (c:=kEx) rfl
   rw [show u=_ from hs]
   refine congrArg Value.bool ?_
   show(e.nm 79).bool 0=true
   rw [g.2]
  ·intro e u he hcd hs
   obtain⟨k1,k2,k3,k4⟩:=key e (he 0 (by decide))
   obtain⟨f207,f199,f195,f191,f123,f119,f67,f43,c67,c43, -⟩:=hcd
   have g207:(e.nm 207).int=_∧(e.nm 207).bool=fun _=>true:=Wh f207 (c:=kEx) rfl
   have g199:(e.nm 199).bool=fun _=>inB (Xh (PX.dat e 0 (.a (Qa 0 90 Qu)))) (stD (PX.dat e 0 (.a (Qa 195 0 stK)))):=(Wh f199 (c:=J5.kon) rfl).2
   change (e.nm 67).bool 0=true at c67
   change (e.nm 43).bool 0=true at c43
   rw [Qvn f67]at c67
   rw [Qie f43]at c43
   obtain⟨a0,a8,b0,b8, -⟩:=QN c43
   have g195:=QrS f195
   have g123:=QuM f123 f119 ⟨a0,a8⟩
   have hfl:(e.nm 191).bool 0=Qau ((e.nm 0).int 0) (rsX e (rsI e).a.toNat) (Kc (rsI e) (rsX e)):=by
    rw [QrQ f191,g123]
    rfl
   have hin:=Qbv.2 (Qb5 (cc:=(e.nm 0).int 0) k1 k2 k3 (Qbv.1 c67))
   rw [←hfl]at hin
   have kk:(e.nm 199).bool 0=true:=by
    rw [g199,Z9,K7 g195.1 g195.2]
    refine(Qfg (fun k hk=>rfl) (fun k hk=>?_)).trans hin
    unfold ZN;rw [if_pos hk]
   rw [show u=_ from hs]
   refine congrArg Value.bool ?_
   show((e.nm 199).bool 0 && (e.nm 207).bool 0)=true
   rw [kk,g207.2]
   rfl
end Go.Proofs.Yteplnamfpodmlaa.T2
namespace Go.Proofs.Yteplnamfpodmlaa
theorem vsaRefineSound_walk(ci:Nat→Int)(cb:Nat→Bool)(hc:InR JJ ci 0)(A:Option Addr)(n c:Nat)(hl:n≤maxLen)(ri:Nat→Int)(rb:Nat→Bool)(hr:∀i,i < n→InR Qb ri (i * Qb.length))(w:World)(hrow:Xn w A n Qb ri rb) :
 Calls Try.prog 8 #[.agg (ZB ci cb 0 JJ ++ [Value.slice A n c]).toArray] w (Ret (.bool true) w):=T2.vsaRefineSound_walk' ci cb hc A n c hl ri rb hr w hrow
theorem vsaRefineSound_own:ownKnob Try.prog.godebug=none:=by kernel_rfl
set_option maxRecDepth 100000 in
theorem vsaRefineSound_lifted(os:Os)(started:os.Started)(H:Type)(enc:TypeId×Value→H) :
 ReturnsInHanded {} Try.checked os 8 .any (Rows.vsaRefineSoundSpec.pre6 enc Try.prog Try.f8 Rows.vsaRefineSoundRow.domain false) (Rows.vsaRefineSoundSpec.post enc Try.prog Try.f8 false true false false):=by
 refine returnsInHanded_of_change (C:=Try.checked) vsaRefineSound_own started (by kernel_rfl) Try.func8
  (ChangeSpec.witness6 (enc:=enc) (C:=Try.checked) false ⟨#[],#[.agg #[.int .i64 0,.int .u32 0,.int .u32 0,.int .i64 0,.int .i64 0,.int .i64 0,.int .i64 0,.int .i64 0,.int .i64 0,.int .i64 0,.bool false,.bool false,.int .u32 0,.int .u32 0,.int .u32 0,.bool false,.bool false,.int .u32 0,.int .u32 0,.int .u32 0,.bool false,.bool false,.int .u32 0,.int .u32 0,.int .u32 0,.bool false,.bool false,.int .u32 0,.int .u32 0,.int .u32 0,.bool false,.bool false,.int .u32 0,.int .u32 0,.int .u32 0,.bool false,.bool false,.int .u32 0,.int .u32 0,.int .u32 0,.bool false,.bool false,.int .u32 0,.int .u32 0,.int .u32 0,.bool false,.bool false,.int .u32 0,.int .u32 0,.int .u32 0,.bool false,.bool false,.int .u32 0,.int .u32 0,.int .u32 0,.bool false,.bool false,.int .u32 0,.int .u32 0,.int .u32 0,.bool false,.bool false,.int .u32 0,.int .u32 0,.int .u32 0,.bool false,.bool false,.int .u32 0,.int .u32 0,.int .u32 0,.bool false,.bool false,.int .u32 0,.int .u32 0,.int .u32 0,.bool false,.bool false,.int .u32 0,.int .u32 0,.int .u32 0,.bool false,.bool false,.int .u32 0,.int .u32 0,.int .u32 0,.bool false,.bool false,.int .u32 0,.int .u32 0,.int .u32 0,.int .u32 0,.int .u32 0,.int .u32 0,.int .u32 0,.int .u32 0,.int .u32 0,.int .u32 0,.int .u32 0,.int .u32 0,.bool false,.slice none 0 0]],[]⟩ 8 (by kernel_rfl) (by kernel_rfl) (by kernel_rfl) (by kernel_rfl)) ?_
 intro W base args ds gs before hval0 hW hcnd _
 have hval:∀(j:Nat) t v,Try.f8.params[j]?=some t→args[j]?=some v→Value.okWide Try.prog W .any base t v:=hval0
 have hW':=hW
 obtain⟨p,q,hA0,hV,rfl,hfz,hnd⟩:=hW
 have hA:DataW.TrodAll enc Try.prog W 0 (fun _=>true) true Try.f8.params.toList args.toList ds p:=hA0
 have hA1:=hA
 obtain⟨rfl,rfl⟩:=trodVars_none hV
 rw [Try.params8]at hA hval
 obtain⟨v0,vs0,d0,ds0,p0,q0,hargs,hd0,hp0,h0,r0⟩:=trodAll_cons hA
 obtain⟨hvn,hdn,hpn⟩:=trodAll_nil r0
 subst hdn hd0
 obtain rfl:args= #[v0]:=by cases args;simp_all
 clear hargs hvn 
 obtain⟨cs0,A0,n0,c0,rfl,lv0,l0,r0⟩:=QdO JJ Qb 6 Try.underlying50 rfl (by kernel_rfl) (by kernel_rfl) Try.underlying22 (by kernel_rfl) (by kernel_rfl) (by kernel_rfl) (by kernel_rfl) (hval 0 50 v0 rfl rfl) h0
 obtain⟨ci0,cb0,rfl,hc0⟩:=Vs 0 lv0
 obtain⟨ri0,rb0,hrow0,hr0⟩:=Qcn (K:=Qb) (by decide) r0
 simp only [List.append_nil]at hW'
 refine(vsaRefineSound_walk ci0 cb0 (fun j k hj=>hc0 j k hj) A0 n0 c0 l0 ri0 rb0 hr0 W hrow0).mono fun e W' hr=>?_
 obtain⟨rfl,hb⟩:=hr
 exact⟨_,rfl,JP (pa:=p) (pv:= []) hW' (fun _ _ _=>(trodAll_cons_mk (shut_bool Try.underlying4 _) trodAll_mk0)) (fun sp hsp=>Jl KV hb _ _ _ _ (by kernel_rfl) hA1 (fun x hx=>hW'.lt x hx) hsp) (fun _ _=>rfl) (by simp)
  hb (ok_one (by kernel_rfl) rfl (okWide_bool_mk Try.underlying4 _))⟩
theorem vsaRefineSound_over:Rows.vsaRefineSoundRow.holds Try.pinned (OpenSpec.ofChange Rows.vsaRefineSoundSpec):=
 OpenClaim.holds_of_wide 8 Try.f8 rfl rfl rfl rfl rfl rfl rfl ⟨rfl,rfl,rfl,rfl,rfl⟩ rfl rfl rfl rfl rfl (by kernel_rfl) Try.func8 (by kernel_rfl)
  (of_decide_eq_true (by kernel_rfl)) (by unfold Func.isWrapper;first|(rw [if_pos (by decide+kernel)];kernel_rfl)|(rw [if_neg (by decide+kernel)];exact⟨rfl,rfl⟩))
  (fun os started H enc _=>vsaRefineSound_lifted os started H enc)
theorem vsaRefineSound_proved:Rows.VsaRefineSoundSaid:=vsaRefineSound_over
end Go.Proofs.Yteplnamfpodmlaa
