/-
  VsaTransferSound: for all valid instructions and registers in the sets of a state the call returns true: the registers after the instruction are in the sets of Transfer. No condition on the inputs.
-/
import Derived.Test.YteplnamfpodmlaaRows
import Derived.Test.YteplnamfpodmlaaQLz
set_option linter.unusedVariables false
set_option linter.unusedSimpArgs false
set_option maxRecDepth 100000
open Go.ChangeShapes Go.WideShapes Go.ChangeAt Go.RowKit
namespace Go.Proofs.Yteplnamfpodmlaa.T2
def Qqf:List Sg:= [⟨25,[.a Qb],.b (.l none),true,true⟩,⟨26,[.a Qu,.a stK],.b (.l none),true,false⟩,⟨27,[.a Qb,.a Qu,.l (some .u32)],.b (.a Qu),true,false⟩,⟨18,[.a Qb,.a stK],.b (.a stK),true,false⟩,⟨12,[],.b (.l none),true,true⟩]
def QjR:List PX:= [.a (Qa 0 0 JJ ++ [.sl 2 (.v 1 0)])]
def QmT:List Rw:= [⟨2,Qb,(.v 1 0)⟩]
def QmR:Cfg:=⟨3,Qqf,[],[],[]⟩
def Qqd:List Lf:= [⟨[.f 79 4 [],.c (.an (.v 43 0) (.v 67 0)) false,.f 67 1 [(.a (Qa 0 90 Qu),0),(.a (Qa 0 10 stK),0)],.f 43 0 [(.a (Qa 0 1 Qb),0)]],.v (.l (.t (.v 79 0))),[⟨3,.cells 50 ((Qa 0 0 JJ ++ [.sl 2 (.v 1 0)]))⟩,⟨27,.cells 37 (Qa 0 10 stK)⟩]⟩,
 ⟨[.f 131 4 [],.f 123 1 [(.a (Qa 103 0 Qu),0),(.a (Qa 119 0 stK),0)],.f 119 3 [(.a (Qa 0 1 Qb),0),(.a (Qa 0 10 stK),0)],.f 103 2 [(.a (Qa 0 1 Qb),0),(.a (Qa 0 90 Qu),0),(.l (.n .u32 (.v 0 98)),0)],.f 67 1 [(.a (Qa 0 90 Qu),0),(.a (Qa 0 10 stK),0)],.f 43 0 [(.a (Qa 0 1 Qb),0)],.c (.v 67 0) true,.c (.v 43 0) true],.v (.l (.t (.an (.v 123 0) (.v 131 0)))),[⟨3,.cells 50 ((Qa 0 0 JJ ++ [.sl 2 (.v 1 0)]))⟩,⟨27,.cells 37 (Qa 0 10 stK)⟩]⟩]
def Qqe:List Ob:=
 let z0:PX:= .a (Qa 0 1 Qb)
 let z1:PX:= .a (Qa 0 90 Qu)
 let z2:PX:= .a (Qa 0 10 stK)
 [.pre [.c (.v 43 0) true,.f 43 0 [(z0,0)]] 1 [(z1,0),(z2,0)],.pre [.f 67 1 [(z1,0),(z2,0)],.f 43 0 [(z0,0)],.c (.v 67 0) true,.c (.v 43 0) true] 2 [(z0,0),(z1,0),(.l (.n .u32 (.v 0 98)),0)],.pre [.f 103 2 [(z0,0),(z1,0),(.l (.n .u32 (.v 0 98)),0)],.f 67 1 [(z1,0),(z2,0)],.f 43 0 [(z0,0)],.c (.v 67 0) true,.c (.v 43 0) true] 3 [(z0,0),(z2,0)],.pre [.f 119 3 [(z0,0),(z2,0)],.f 103 2 [(z0,0),(z1,0),(.l (.n .u32 (.v 0 98)),0)],.f 67 1 [(z1,0),(z2,0)],.f 43 0 [(z0,0)],.c (.v 67 0) true,.c (.v 43 0) true] 1 [(.a (Qa 103 0 Qu),0),(.a (Qa 119 0 stK),0)]]
theorem QmS:QP Try.prog QmR 1000 4 6 Try.f6 QjR QmT=some (Qqd,Qqe):=by kernel_rfl
def QuC:List (Kon Try.prog):= [Yd,J5.kon,QbW.kon,Xx.kon,kEx]
theorem vsaTransferSound_walk'(ci:Nat→Int)(cb:Nat→Bool)(hc:InR JJ ci 0)(A:Option Addr)(n c:Nat)(hl:n≤maxLen)(ri:Nat→Int)(rb:Nat→Bool)(hr:∀i,i < n→InR Qb ri (i * Qb.length))(w:World)(hrow:Xn w A n Qb ri rb) :
 Calls Try.prog 6 #[.agg (ZB ci cb 0 JJ ++ [Value.slice A n c]).toArray] w (Ret (.bool true) w):=by
 have K:=Qns hc
 have KS:=Qsj (bool:=cb) K.s
 refine ZK (C:=QuC) (I:= []) Qr rfl Try.func6 QmS (Kh [nmB ci cb,nmN n,nmR A c ri rb]) w rfl ?_ _ ?_ ?_
 ·intro r hr0
  rw [List.mem_singleton.1 hr0]
  exact hrow
 ·refine⟨?_,?_,?_,?_,trivial⟩
  ·intro e he hcd
   have h0:e.nm 0=nmB ci cb:=he 0 (by decide)
   show(∀k,Q5 (Xh (PX.dat e 0 (.a (Qa 0 90 Qu))) k))∧∀k,(stD (PX.dat e 0 (.a (Qa 0 10 stK))) k).wf
   rw [Z9,Qb8]
   unfold Env.int Env.bool
   rw [h0]
   exact⟨K.x,KS⟩
  ·intro e he hcd
   have h0:e.nm 0=nmB ci cb:=he 0 (by decide)
   have g43:(e.nm 43).int=_∧(e.nm 43).bool=_:=Wh hcd.2.1 (c:=Yd) rfl
   have c43:(e.nm 43).bool 0=true:=hcd.2.2.2.1
   rw [g43.2]at c43
   refine⟨⟨?_,c43⟩,?_,?_⟩
   ·show(Q0 (PX.dat e 0 (.a (Qa 0 1 Qb)))).wf
    rw [Yy];unfold Env.int;rw [h0];exact K.ins
   ·show ∀k,Q5 (Xh (PX.dat e 0 (.a (Qa 0 90 Qu))) k)
    rw [Z9];unfold Env.int;rw [h0];exact K.x
   ·show Q5 ((e.nm 0).int 98)
    rw [h0];exact K.n
  ·intro e he hcd
   have h0:e.nm 0=nmB ci cb:=he 0 (by decide)
   show(Q0 (PX.dat e 0 (.a (Qa 0 1 Qb)))).wf∧∀k,(stD (PX.dat e 0 (.a (Qa 0 10 stK))) k).wf
   rw [Yy,Qb8]
   unfold Env.int Env.bool
   rw [h0]
   exact⟨K.ins,KS⟩
  ·intro e he hcd
   have h0:e.nm 0=nmB ci cb:=he 0 (by decide)
   have g119:(e.nm 119).int=ZH (Qw (Q0 (PX.dat e 0 (.a (Qa 0 1 Qb)))) (stD (PX.dat e 0 (.a (Qa 0 10 stK)))))∧(e.nm 119).bool=QU (Qw (Q0 (PX.dat e 0 (.a (Qa 0 1 Qb)))) (stD (PX.dat e 0 (.a (Qa 0 10 stK))))):=Wh hcd.1 (c:=Xx.kon) rfl
   have g103:(e.nm 103).int=ZG (Q0 (PX.dat e 0 (.a (Qa 0 1 Qb)))) (Xh (PX.dat e 0 (.a (Qa 0 90 Qu)))) ((e.nm 0).int 98)∧_:=Wh hcd.2.1 (c:=QbW.kon) rfl
   rw [Yy,Qb8]at g119
   rw [Yy,Z9]at g103
   unfold Env.int Env.bool at g119
   unfold Env.int at g103
   rw [h0]at g119 g103
   show(∀k,Q5 (Xh (PX.dat e 0 (.a (Qa 103 0 Qu))) k))∧∀k,(stD (PX.dat e 0 (.a (Qa 119 0 stK))) k).wf
   rw [Z9,K7 g119.1 g119.2]
   unfold Env.int
   rw [g103.1]
   refine⟨QdR fun k _=>?_,We (Vu K.ins KS)⟩
   rw [Nat.zero_add]
   exact Qb1 K.ins K.x K.n k
 ·refine⟨?_,?_,trivial⟩
  ·intro e u he hcd hs
   have g:(e.nm 79).int=_∧(e.nm 79).bool=fun _=>true:=Wh hcd.1 (c:=kEx) rfl
   rw [show u=_ from hs]
   refine congrArg Value.bool ?_
   show(e.nm 79).bool 0=true
   rw [g.2]
  ·intro e u he hcd hs
   have h0:e.nm 0=nmB ci cb:=he 0 (by decide)
   obtain⟨f131,f123,f119,f103,f67,f43,c67,c43, -⟩:=hcd
   have g131:(e.nm 131).int=_∧(e.nm 131).bool=fun _=>true:=Wh f131 (c:=kEx) rfl
   have g123:(e.nm 123).int=_∧(e.nm 123).bool=fun _=>inB (Xh (PX.dat e 0 (.a (Qa 103 0 Qu)))) (stD (PX.dat e 0 (.a (Qa 119 0 stK)))):=Wh f123 (c:=J5.kon) rfl
   have g119:(e.nm 119).int=ZH (Qw (Q0 (PX.dat e 0 (.a (Qa 0 1 Qb)))) (stD (PX.dat e 0 (.a (Qa 0 10 stK)))))∧(e.nm 119).bool=QU (Qw (Q0 (PX.dat e 0 (.a (Qa 0 1 Qb)))) (stD (PX.dat e 0 (.a (Qa 0 10 stK))))):=Wh f119 (c:=Xx.kon) rfl
   have g103:(e.nm 103).int=ZG (Q0 (PX.dat e 0 (.a (Qa 0 1 Qb)))) (Xh (PX.dat e 0 (.a (Qa 0 90 Qu)))) ((e.nm 0).int 98)∧_:=Wh f103 (c:=QbW.kon) rfl
   have g67:(e.nm 67).int=_∧(e.nm 67).bool=fun _=>inB (Xh (PX.dat e 0 (.a (Qa 0 90 Qu)))) (stD (PX.dat e 0 (.a (Qa 0 10 stK)))):=Wh f67 (c:=J5.kon) rfl
   have g43:(e.nm 43).int=_∧(e.nm 43).bool=fun _=>Qj (Q0 (PX.dat e 0 (.a (Qa 0 1 Qb)))):=Wh f43 (c:=Yd) rfl
   change (e.nm 67).bool 0=true at c67
   change (e.nm 43).bool 0=true at c43
   rw [g67.2]at c67
   rw [g43.2]at c43
   rw [Yy,Qb8]at g119
   rw [Yy,Z9]at g103
   rw [Z9,Qb8]at c67
   rw [Yy]at c43
   unfold Env.int Env.bool at g119 c67
   unfold Env.int at g103 c43
   rw [h0]at g119 g103 c67 c43
   have hin:=Qbv.2 (VU K.ins c43 KS K.x K.n (Qbv.1 c67))
   have key:(e.nm 123).bool 0=true:=by
    rw [g123.2,Z9,K7 g119.1 g119.2]
    refine(Qfg (fun k hk=>?_) (fun k hk=>?_)).trans hin
    ·rw [QnG hk];unfold Env.int;rw [g103.1];rfl
    ·unfold ZN;rw [if_pos hk];rfl
   rw [show u=_ from hs]
   refine congrArg Value.bool ?_
   show((e.nm 123).bool 0 && (e.nm 131).bool 0)=true
   rw [key,g131.2]
   rfl
end Go.Proofs.Yteplnamfpodmlaa.T2
namespace Go.Proofs.Yteplnamfpodmlaa
theorem vsaTransferSound_walk(ci:Nat→Int)(cb:Nat→Bool)(hc:InR JJ ci 0)(A:Option Addr)(n c:Nat)(hl:n≤maxLen)(ri:Nat→Int)(rb:Nat→Bool)(hr:∀i,i < n→InR Qb ri (i * Qb.length))(w:World)(hrow:Xn w A n Qb ri rb) :
 Calls Try.prog 6 #[.agg (ZB ci cb 0 JJ ++ [Value.slice A n c]).toArray] w (Ret (.bool true) w):=T2.vsaTransferSound_walk' ci cb hc A n c hl ri rb hr w hrow
theorem vsaTransferSound_own:ownKnob Try.prog.godebug=none:=by kernel_rfl
set_option maxRecDepth 100000 in
theorem vsaTransferSound_lifted(os:Os)(started:os.Started)(H:Type)(enc:TypeId×Value→H) :
 ReturnsInHanded {} Try.checked os 6 .any (Rows.vsaTransferSoundSpec.pre6 enc Try.prog Try.f6 Rows.vsaTransferSoundRow.domain false) (Rows.vsaTransferSoundSpec.post enc Try.prog Try.f6 false true false false):=by
 refine returnsInHanded_of_change (C:=Try.checked) vsaTransferSound_own started (by kernel_rfl) Try.func6
  (ChangeSpec.witness6 (enc:=enc) (C:=Try.checked) false ⟨#[],#[.agg #[.int .i64 0,.int .u32 0,.int .u32 0,.int .i64 0,.int .i64 0,.int .i64 0,.int .i64 0,.int .i64 0,.int .i64 0,.int .i64 0,.bool false,.bool false,.int .u32 0,.int .u32 0,.int .u32 0,.bool false,.bool false,.int .u32 0,.int .u32 0,.int .u32 0,.bool false,.bool false,.int .u32 0,.int .u32 0,.int .u32 0,.bool false,.bool false,.int .u32 0,.int .u32 0,.int .u32 0,.bool false,.bool false,.int .u32 0,.int .u32 0,.int .u32 0,.bool false,.bool false,.int .u32 0,.int .u32 0,.int .u32 0,.bool false,.bool false,.int .u32 0,.int .u32 0,.int .u32 0,.bool false,.bool false,.int .u32 0,.int .u32 0,.int .u32 0,.bool false,.bool false,.int .u32 0,.int .u32 0,.int .u32 0,.bool false,.bool false,.int .u32 0,.int .u32 0,.int .u32 0,.bool false,.bool false,.int .u32 0,.int .u32 0,.int .u32 0,.bool false,.bool false,.int .u32 0,.int .u32 0,.int .u32 0,.bool false,.bool false,.int .u32 0,.int .u32 0,.int .u32 0,.bool false,.bool false,.int .u32 0,.int .u32 0,.int .u32 0,.bool false,.bool false,.int .u32 0,.int .u32 0,.int .u32 0,.bool false,.bool false,.int .u32 0,.int .u32 0,.int .u32 0,.int .u32 0,.int .u32 0,.int .u32 0,.int .u32 0,.int .u32 0,.int .u32 0,.int .u32 0,.int .u32 0,.int .u32 0,.bool false,.slice none 0 0]],[]⟩ 8 (by kernel_rfl) (by kernel_rfl) (by kernel_rfl) (by kernel_rfl)) ?_
 intro W base args ds gs before hval0 hW hcnd _
 have hval:∀(j:Nat) t v,Try.f6.params[j]?=some t→args[j]?=some v→Value.okWide Try.prog W .any base t v:=hval0
 have hW':=hW
 obtain⟨p,q,hA0,hV,rfl,hfz,hnd⟩:=hW
 have hA:DataW.TrodAll enc Try.prog W 0 (fun _=>true) true Try.f6.params.toList args.toList ds p:=hA0
 have hA1:=hA
 obtain⟨rfl,rfl⟩:=trodVars_none hV
 rw [Try.params6]at hA hval
 obtain⟨v0,vs0,d0,ds0,p0,q0,hargs,hd0,hp0,h0,r0⟩:=trodAll_cons hA
 obtain⟨hvn,hdn,hpn⟩:=trodAll_nil r0
 subst hdn hd0
 obtain rfl:args= #[v0]:=by cases args;simp_all
 clear hargs hvn 
 obtain⟨cs0,A0,n0,c0,rfl,lv0,l0,r0⟩:=QdO JJ Qb 6 Try.underlying50 rfl (by kernel_rfl) (by kernel_rfl) Try.underlying22 (by kernel_rfl) (by kernel_rfl) (by kernel_rfl) (by kernel_rfl) (hval 0 50 v0 rfl rfl) h0
 obtain⟨ci0,cb0,rfl,hc0⟩:=Vs 0 lv0
 obtain⟨ri0,rb0,hrow0,hr0⟩:=Qcn (K:=Qb) (by decide) r0
 simp only [List.append_nil]at hW'
 refine(vsaTransferSound_walk ci0 cb0 (fun j k hj=>hc0 j k hj) A0 n0 c0 l0 ri0 rb0 hr0 W hrow0).mono fun e W' hr=>?_
 obtain⟨rfl,hb⟩:=hr
 exact⟨_,rfl,JP (pa:=p) (pv:= []) hW' (fun _ _ _=>(trodAll_cons_mk (shut_bool Try.underlying4 _) trodAll_mk0)) (fun sp hsp=>Jl KV hb _ _ _ _ (by kernel_rfl) hA1 (fun x hx=>hW'.lt x hx) hsp) (fun _ _=>rfl) (by simp)
  hb (ok_one (by kernel_rfl) rfl (okWide_bool_mk Try.underlying4 _))⟩
theorem vsaTransferSound_over:Rows.vsaTransferSoundRow.holds Try.pinned (OpenSpec.ofChange Rows.vsaTransferSoundSpec):=
 OpenClaim.holds_of_wide 6 Try.f6 rfl rfl rfl rfl rfl rfl rfl ⟨rfl,rfl,rfl,rfl,rfl⟩ rfl rfl rfl rfl rfl (by kernel_rfl) Try.func6 (by kernel_rfl)
  (of_decide_eq_true (by kernel_rfl)) (by unfold Func.isWrapper;first|(rw [if_pos (by decide+kernel)];kernel_rfl)|(rw [if_neg (by decide+kernel)];exact⟨rfl,rfl⟩))
  (fun os started H enc _=>vsaTransferSound_lifted os started H enc)
theorem vsaTransferSound_proved:Rows.VsaTransferSoundSaid:=vsaTransferSound_over
end Go.Proofs.Yteplnamfpodmlaa
