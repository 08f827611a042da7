/-
  VsaRefine: for all conditions, instructions, states and outcomes the call returns true: Refine of package vsa returns what the reference's Refine returns. No condition on the inputs.
-/
import Derived.Test.YteplnamfpodmlaaRows
import Derived.Test.YteplnamfpodmlaaRLz
import Derived.Test.YteplnamfpodmlaaRRef15c
set_option linter.unusedVariables false
set_option linter.unusedSimpArgs false
set_option maxRecDepth 100000
open Go.ChangeShapes Go.WideShapes Go.ChangeAt Go.RowKit
namespace Go.Proofs.Yteplnamfpodmlaa.T2
def Qy2:List Sg:= [⟨28,[.l (some .i64),.a Qb,.a stK,.l none],.b (.a stK),true,false⟩,⟨29,[.l (some .i64),.a Qb,.a stK,.l none],.b (.a stK),true,false⟩,⟨12,[],.b (.l none),true,true⟩]
def QxU:List PX:= [.a (Qa 0 0 JJ ++ [.sl 2 (.v 1 0)])]
def Qyl:List Rw:= [⟨2,Qb,(.v 1 0)⟩]
def Qyj:Cfg:=⟨3,Qy2,[],[],[]⟩
def Qy0:List Lf:= [⟨[.f 119 2 [],.f 107 1 [(.l (.n .i64 (.v 0 0)),0),(.a (Qa 0 1 Qb),0),(.a (Qa 0 10 stK),0),(.l (.t (.v 0 99)),0)],.f 51 0 [(.l (.n .i64 (.v 0 0)),0),(.a (Qa 0 1 Qb),0),(.a (Qa 0 10 stK),0),(.l (.t (.v 0 99)),0)]],.v (.l (.t (.an (.an (.an (.eq (.v 51 0) (.v 107 0)) (.an (.eq (.v 51 1) (.v 107 1)) (.an (.c .eql (.v 51 2) (.v 107 2)) (.an (.c .eql (.v 51 3) (.v 107 3)) (.c .eql (.v 51 4) (.v 107 4)))))) (.an (.an (.eq (.v 51 5) (.v 107 5)) (.an (.eq (.v 51 6) (.v 107 6)) (.an (.c .eql (.v 51 7) (.v 107 7)) (.an (.c .eql (.v 51 8) (.v 107 8)) (.c .eql (.v 51 9) (.v 107 9)))))) (.an (.an (.eq (.v 51 10) (.v 107 10)) (.an (.eq (.v 51 11) (.v 107 11)) (.an (.c .eql (.v 51 12) (.v 107 12)) (.an (.c .eql (.v 51 13) (.v 107 13)) (.c .eql (.v 51 14) (.v 107 14)))))) (.an (.an (.eq (.v 51 15) (.v 107 15)) (.an (.eq (.v 51 16) (.v 107 16)) (.an (.c .eql (.v 51 17) (.v 107 17)) (.an (.c .eql (.v 51 18) (.v 107 18)) (.c .eql (.v 51 19) (.v 107 19)))))) (.an (.an (.eq (.v 51 20) (.v 107 20)) (.an (.eq (.v 51 21) (.v 107 21)) (.an (.c .eql (.v 51 22) (.v 107 22)) (.an (.c .eql (.v 51 23) (.v 107 23)) (.c .eql (.v 51 24) (.v 107 24)))))) (.an (.an (.eq (.v 51 25) (.v 107 25)) (.an (.eq (.v 51 26) (.v 107 26)) (.an (.c .eql (.v 51 27) (.v 107 27)) (.an (.c .eql (.v 51 28) (.v 107 28)) (.c .eql (.v 51 29) (.v 107 29)))))) (.an (.an (.eq (.v 51 30) (.v 107 30)) (.an (.eq (.v 51 31) (.v 107 31)) (.an (.c .eql (.v 51 32) (.v 107 32)) (.an (.c .eql (.v 51 33) (.v 107 33)) (.c .eql (.v 51 34) (.v 107 34)))))) (.an (.eq (.v 51 35) (.v 107 35)) (.an (.eq (.v 51 36) (.v 107 36)) (.an (.c .eql (.v 51 37) (.v 107 37)) (.an (.c .eql (.v 51 38) (.v 107 38)) (.c .eql (.v 51 39) (.v 107 39))))))))))))) (.v 119 0)))),[⟨3,.cells 50 ((Qa 0 0 JJ ++ [.sl 2 (.v 1 0)]))⟩,⟨55,.cells 37 (Qa 51 0 stK)⟩]⟩]
def Qy1:List Ob:= [.pre [] 0 [(.l (.n .i64 (.v 0 0)),0),(.a (Qa 0 1 Qb),0),(.a (Qa 0 10 stK),0),(.l (.t (.v 0 99)),0)],
 .pre [.f 51 0 [(.l (.n .i64 (.v 0 0)),0),(.a (Qa 0 1 Qb),0),(.a (Qa 0 10 stK),0),(.l (.t (.v 0 99)),0)]] 1 [(.l (.n .i64 (.v 0 0)),0),(.a (Qa 0 1 Qb),0),(.a (Qa 0 10 stK),0),(.l (.t (.v 0 99)),0)]]
theorem Qyk:QP Try.prog Qyj 1000 4 7 Try.f7 QxU Qyl=some (Qy0,Qy1):=by kernel_rfl
def QyN:List (Kon Try.prog):= [Vc.kon,Qwz.kon,kEx]
theorem vsaRefine_walk'(ci:Nat→Int)(cb:Nat→Bool)(hc:InR JJ ci 0)(A:Option Addr)(n c:Nat)(hl:n≤maxLen)(ri:Nat→Int)(rb:Nat→Bool)(hr:∀i,i < n→InR Qb ri (i * Qb.length))(w:World)(hrow:Xn w A n Qb ri rb) :
 Calls Try.prog 7 #[.agg (ZB ci cb 0 JJ ++ [Value.slice A n c]).toArray] w (Ret (.bool true) w):=by
 have K:=Qns hc
 refine ZK (C:=QyN) (I:= []) Qr rfl Try.func7 Qyk (Kh [nmB ci cb,nmN n,nmR A c ri rb]) w rfl ?_ _ ?_ ?_
 ·intro r hr0
  rw [List.mem_singleton.1 hr0]
  exact hrow
 ·refine⟨?_,?_,trivial⟩
  all_goals
   intro e he hcd
   have h0:e.nm 0=nmB ci cb:=he 0 (by decide)
   show Yx ((e.nm 0).int 0)∧(Q0 (PX.dat e 0 (.a (Qa 0 1 Qb)))).wf∧∀k,(stD (PX.dat e 0 (.a (Qa 0 10 stK))) k).wf
   rw [Yy,Qb8]
   unfold Env.int Env.bool
   rw [h0]
   exact⟨K.cc,K.ins,Qsj K.s⟩
 ·refine⟨?_,trivial⟩
  intro e u he hcd hs
  have g1:(e.nm 107).int=_∧(e.nm 107).bool=_:=Wh hcd.2.1 (c:=Qwz.kon) rfl
  have g2:(e.nm 51).int=_∧(e.nm 51).bool=_:=Wh hcd.2.2.1 (c:=Vc.kon) rfl
  have g0:(e.nm 119).int=_∧(e.nm 119).bool=fun _=>true:=Wh hcd.1 (c:=kEx) rfl
  have x1:e.bool 119=fun _=>true:=g0.2
  have x2:e.int 51=e.int 107:=g2.1.trans g1.1.symm
  have x3:e.bool 51=e.bool 107:=g2.2.trans g1.2.symm
  rw [hs]
  simp only [PX.den,LX.den,SX.den,cmI,x1,x2,x3,beq_self_eq_true,decide_true,Bool.and_true]
end Go.Proofs.Yteplnamfpodmlaa.T2
namespace Go.Proofs.Yteplnamfpodmlaa
theorem vsaRefine_walk(ci:Nat→Int)(cb:Nat→Bool)(hc:InR JJ ci 0)(A:Option Addr)(n c:Nat)(hl:n≤maxLen)(ri:Nat→Int)(rb:Nat→Bool)(hr:∀i,i < n→InR Qb ri (i * Qb.length))(w:World)(hrow:Xn w A n Qb ri rb) :
 Calls Try.prog 7 #[.agg (ZB ci cb 0 JJ ++ [Value.slice A n c]).toArray] w (Ret (.bool true) w):=T2.vsaRefine_walk' ci cb hc A n c hl ri rb hr w hrow
theorem vsaRefine_own:ownKnob Try.prog.godebug=none:=by kernel_rfl
set_option maxRecDepth 100000 in
theorem vsaRefine_lifted(os:Os)(started:os.Started)(H:Type)(enc:TypeId×Value→H) :
 ReturnsInHanded {} Try.checked os 7 .any (Rows.vsaRefineSpec.pre6 enc Try.prog Try.f7 Rows.vsaRefineRow.domain false) (Rows.vsaRefineSpec.post enc Try.prog Try.f7 false true false false):=by
 refine returnsInHanded_of_change (C:=Try.checked) vsaRefine_own started (by kernel_rfl) Try.func7
  (ChangeSpec.witness6 (enc:=enc) (C:=Try.checked) false ⟨#[],#[.agg #[.int .i64 0,.int .u32 0,.int .u32 0,.int .i64 0,.int .i64 0,.int .i64 0,.int .i64 0,.int .i64 0,.int .i64 0,.int .i64 0,.bool false,.bool false,.int .u32 0,.int .u32 0,.int .u32 0,.bool false,.bool false,.int .u32 0,.int .u32 0,.int .u32 0,.bool false,.bool false,.int .u32 0,.int .u32 0,.int .u32 0,.bool false,.bool false,.int .u32 0,.int .u32 0,.int .u32 0,.bool false,.bool false,.int .u32 0,.int .u32 0,.int .u32 0,.bool false,.bool false,.int .u32 0,.int .u32 0,.int .u32 0,.bool false,.bool false,.int .u32 0,.int .u32 0,.int .u32 0,.bool false,.bool false,.int .u32 0,.int .u32 0,.int .u32 0,.bool false,.bool false,.int .u32 0,.int .u32 0,.int .u32 0,.bool false,.bool false,.int .u32 0,.int .u32 0,.int .u32 0,.bool false,.bool false,.int .u32 0,.int .u32 0,.int .u32 0,.bool false,.bool false,.int .u32 0,.int .u32 0,.int .u32 0,.bool false,.bool false,.int .u32 0,.int .u32 0,.int .u32 0,.bool false,.bool false,.int .u32 0,.int .u32 0,.int .u32 0,.bool false,.bool false,.int .u32 0,.int .u32 0,.int .u32 0,.bool false,.bool false,.int .u32 0,.int .u32 0,.int .u32 0,.int .u32 0,.int .u32 0,.int .u32 0,.int .u32 0,.int .u32 0,.int .u32 0,.int .u32 0,.int .u32 0,.int .u32 0,.bool false,.slice none 0 0]],[]⟩ 8 (by kernel_rfl) (by kernel_rfl) (by kernel_rfl) (by kernel_rfl)) ?_
 intro W base args ds gs before hval0 hW hcnd _
 have hval:∀(j:Nat) t v,Try.f7.params[j]?=some t→args[j]?=some v→Value.okWide Try.prog W .any base t v:=hval0
 have hW':=hW
 obtain⟨p,q,hA0,hV,rfl,hfz,hnd⟩:=hW
 have hA:DataW.TrodAll enc Try.prog W 0 (fun _=>true) true Try.f7.params.toList args.toList ds p:=hA0
 have hA1:=hA
 obtain⟨rfl,rfl⟩:=trodVars_none hV
 rw [Try.params7]at hA hval
 obtain⟨v0,vs0,d0,ds0,p0,q0,hargs,hd0,hp0,h0,r0⟩:=trodAll_cons hA
 obtain⟨hvn,hdn,hpn⟩:=trodAll_nil r0
 subst hdn hd0
 obtain rfl:args= #[v0]:=by cases args;simp_all
 clear hargs hvn 
 obtain⟨cs0,A0,n0,c0,rfl,lv0,l0,r0⟩:=QdO JJ Qb 6 Try.underlying50 rfl (by kernel_rfl) (by kernel_rfl) Try.underlying22 (by kernel_rfl) (by kernel_rfl) (by kernel_rfl) (by kernel_rfl) (hval 0 50 v0 rfl rfl) h0
 obtain⟨ci0,cb0,rfl,hc0⟩:=Vs 0 lv0
 obtain⟨ri0,rb0,hrow0,hr0⟩:=Qcn (K:=Qb) (by decide) r0
 simp only [List.append_nil]at hW'
 refine(vsaRefine_walk ci0 cb0 (fun j k hj=>hc0 j k hj) A0 n0 c0 l0 ri0 rb0 hr0 W hrow0).mono fun e W' hr=>?_
 obtain⟨rfl,hb⟩:=hr
 exact⟨_,rfl,JP (pa:=p) (pv:= []) hW' (fun _ _ _=>(trodAll_cons_mk (shut_bool Try.underlying4 _) trodAll_mk0)) (fun sp hsp=>Jl KV hb _ _ _ _ (by kernel_rfl) hA1 (fun x hx=>hW'.lt x hx) hsp) (fun _ _=>rfl) (by simp)
  hb (ok_one (by kernel_rfl) rfl (okWide_bool_mk Try.underlying4 _))⟩
theorem vsaRefine_over:Rows.vsaRefineRow.holds Try.pinned (OpenSpec.ofChange Rows.vsaRefineSpec):=
 OpenClaim.holds_of_wide 7 Try.f7 rfl rfl rfl rfl rfl rfl rfl ⟨rfl,rfl,rfl,rfl,rfl⟩ rfl rfl rfl rfl rfl (by kernel_rfl) Try.func7 (by kernel_rfl)
  (of_decide_eq_true (by kernel_rfl)) (by unfold Func.isWrapper;first|(rw [if_pos (by decide+kernel)];kernel_rfl)|(rw [if_neg (by decide+kernel)];exact⟨rfl,rfl⟩))
  (fun os started H enc _=>vsaRefine_lifted os started H enc)
theorem vsaRefine_proved:Rows.VsaRefineSaid:=vsaRefine_over
end Go.Proofs.Yteplnamfpodmlaa
