/-
  VsaTransfer: for all instructions i and states s the call returns true: Transfer of package vsa returns what the reference's Transfer returns. No condition on the inputs.
-/
import Derived.Test.YteplnamfpodmlaaRows
import Derived.Test.YteplnamfpodmlaaRA7
import Derived.Test.YteplnamfpodmlaaRRef15b
import Derived.Test.YteplnamfpodmlaaRFr
set_option linter.unusedVariables false
set_option linter.unusedSimpArgs false
set_option maxRecDepth 100000
open Go.ChangeShapes Go.WideShapes Go.ChangeAt Go.RowKit
namespace Go.Proofs.Yteplnamfpodmlaa
theorem KV:laidOutB Try.prog=true:=by kernel_rfl
theorem QvS(i:Ins)(s:Nat→Qd)(h:i.wf∧∀k,(s k).wf)(w:World):Calls Try.prog 24 #[i.val,ZT s] w (Ret (ZT (Qw i s)) w):=Qwd i s h w
def QwW:Con Try.prog:= .mk' ⟨24,[.a Qb,.a stK],.a stK,true⟩
 (fun ads=>match ads with| [d1,d2]=>(Q0 d1).wf∧∀k,((stD d2) k).wf|_=>False)
 (fun ads=>match ads with| [d1,d2]=>ZH (Qw (Q0 d1) (stD d2))|_=>fun _=>0)
 (fun ads=>match ads with| [d1,d2]=>QU (Qw (Q0 d1) (stD d2))|_=>fun _=>false)
 ⟨_,Try.func24,by kernel_rfl,by kernel_rfl⟩ (fun ads w hf hp=>by
   obtain⟨d1,_,rfl,f1,hf⟩:=Qf hf
   obtain⟨d2,_,rfl,f2,hf⟩:=Qf hf
   obtain rfl:=Qn hf
   show Calls _ _ #[d1.val,d2.val] w _
   rw [Zc f1,Vq f2]
   exact QvS (Q0 d1) (stD d2) hp w)
theorem QfF(w:World):Calls Try.prog 12 #[] w (Ret (.bool true) w):=T2.example_any w
def Qvv:Con Try.prog:= .mk' ⟨12,[],.l none,true⟩
 (fun ads=>match ads with| []=>True|_=>False)
 (fun ads=>match ads with| []=>fun _=>0|_=>fun _=>0)
 (fun ads=>match ads with| []=>fun _=>true|_=>fun _=>false)
 ⟨_,Try.func12,by kernel_rfl,by kernel_rfl⟩ (fun ads w hf hp=>by
   obtain rfl:=Qn hf
   exact QfF  w)
end Go.Proofs.Yteplnamfpodmlaa
namespace Go.Proofs.Yteplnamfpodmlaa.T2
def Qy8:List Sg:= [⟨18,[.a Qb,.a stK],.b (.a stK),true,false⟩,⟨24,[.a Qb,.a stK],.b (.a stK),true,false⟩,⟨12,[],.b (.l none),true,false⟩]
def QxW:List PX:= [.a (Qa 0 0 Qb),.a (Qa 1 0 stK)]
def Qyr:List Rw:= []
def Qyp:Cfg:=⟨4,Qy8,[],[],[]⟩
def Qy6:List Lf:= [⟨[.f 76 2 [],.f 64 1 [(.a (Qa 0 0 Qb),0),(.a (Qa 1 0 stK),0)],.f 32 0 [(.a (Qa 0 0 Qb),0),(.a (Qa 1 0 stK),0)]],.v (.l (.t (.an (.an (.an (.eq (.v 32 0) (.v 64 0)) (.an (.eq (.v 32 1) (.v 64 1)) (.an (.c .eql (.v 32 2) (.v 64 2)) (.an (.c .eql (.v 32 3) (.v 64 3)) (.c .eql (.v 32 4) (.v 64 4)))))) (.an (.an (.eq (.v 32 5) (.v 64 5)) (.an (.eq (.v 32 6) (.v 64 6)) (.an (.c .eql (.v 32 7) (.v 64 7)) (.an (.c .eql (.v 32 8) (.v 64 8)) (.c .eql (.v 32 9) (.v 64 9)))))) (.an (.an (.eq (.v 32 10) (.v 64 10)) (.an (.eq (.v 32 11) (.v 64 11)) (.an (.c .eql (.v 32 12) (.v 64 12)) (.an (.c .eql (.v 32 13) (.v 64 13)) (.c .eql (.v 32 14) (.v 64 14)))))) (.an (.an (.eq (.v 32 15) (.v 64 15)) (.an (.eq (.v 32 16) (.v 64 16)) (.an (.c .eql (.v 32 17) (.v 64 17)) (.an (.c .eql (.v 32 18) (.v 64 18)) (.c .eql (.v 32 19) (.v 64 19)))))) (.an (.an (.eq (.v 32 20) (.v 64 20)) (.an (.eq (.v 32 21) (.v 64 21)) (.an (.c .eql (.v 32 22) (.v 64 22)) (.an (.c .eql (.v 32 23) (.v 64 23)) (.c .eql (.v 32 24) (.v 64 24)))))) (.an (.an (.eq (.v 32 25) (.v 64 25)) (.an (.eq (.v 32 26) (.v 64 26)) (.an (.c .eql (.v 32 27) (.v 64 27)) (.an (.c .eql (.v 32 28) (.v 64 28)) (.c .eql (.v 32 29) (.v 64 29)))))) (.an (.an (.eq (.v 32 30) (.v 64 30)) (.an (.eq (.v 32 31) (.v 64 31)) (.an (.c .eql (.v 32 32) (.v 64 32)) (.an (.c .eql (.v 32 33) (.v 64 33)) (.c .eql (.v 32 34) (.v 64 34)))))) (.an (.eq (.v 32 35) (.v 64 35)) (.an (.eq (.v 32 36) (.v 64 36)) (.an (.c .eql (.v 32 37) (.v 64 37)) (.an (.c .eql (.v 32 38) (.v 64 38)) (.c .eql (.v 32 39) (.v 64 39))))))))))))) (.v 76 0)))),[⟨4,.cells 39 (Qa 0 0 Qb)⟩,⟨8,.cells 46 (Qa 1 0 stK)⟩,⟨36,.cells 37 (Qa 32 0 stK)⟩]⟩]
def Qy7:List Ob:=
 let z0:PX:= .a (Qa 0 0 Qb)
 let z1:PX:= .a (Qa 1 0 stK)
 [.pre [] 0 [(z0,0),(z1,0)],.pre [.f 32 0 [(z0,0),(z1,0)]] 1 [(z0,0),(z1,0)],.pre [.c (.eq (.v 32 0) (.v 64 0)) true,.c (.eq (.v 32 1) (.v 64 1)) true,.c (.c .eql (.v 32 2) (.v 64 2)) true,.c (.c .eql (.v 32 3) (.v 64 3)) true,.c (.c .eql (.v 32 4) (.v 64 4)) true,.c (.eq (.v 32 5) (.v 64 5)) true,.c (.eq (.v 32 6) (.v 64 6)) true,.c (.c .eql (.v 32 7) (.v 64 7)) true,.c (.c .eql (.v 32 8) (.v 64 8)) true,.c (.c .eql (.v 32 9) (.v 64 9)) true,.c (.eq (.v 32 10) (.v 64 10)) true,.c (.eq (.v 32 11) (.v 64 11)) true,.c (.c .eql (.v 32 12) (.v 64 12)) true,.c (.c .eql (.v 32 13) (.v 64 13)) true,.c (.c .eql (.v 32 14) (.v 64 14)) true,.c (.eq (.v 32 15) (.v 64 15)) true,.c (.eq (.v 32 16) (.v 64 16)) true,.c (.c .eql (.v 32 17) (.v 64 17)) true,.c (.c .eql (.v 32 18) (.v 64 18)) true,.c (.c .eql (.v 32 19) (.v 64 19)) true,.c (.eq (.v 32 20) (.v 64 20)) true,.c (.eq (.v 32 21) (.v 64 21)) true,.c (.c .eql (.v 32 22) (.v 64 22)) true,.c (.c .eql (.v 32 23) (.v 64 23)) true,.c (.c .eql (.v 32 24) (.v 64 24)) true,.c (.eq (.v 32 25) (.v 64 25)) true,.c (.eq (.v 32 26) (.v 64 26)) true,.c (.c .eql (.v 32 27) (.v 64 27)) true,.c (.c .eql (.v 32 28) (.v 64 28)) true,.c (.c .eql (.v 32 29) (.v 64 29)) true,.c (.eq (.v 32 30) (.v 64 30)) true,.c (.eq (.v 32 31) (.v 64 31)) true,.c (.c .eql (.v 32 32) (.v 64 32)) true,.c (.c .eql (.v 32 33) (.v 64 33)) true,.c (.c .eql (.v 32 34) (.v 64 34)) true,.c (.eq (.v 32 35) (.v 64 35)) true,.c (.eq (.v 32 36) (.v 64 36)) true,.c (.c .eql (.v 32 37) (.v 64 37)) true,.c (.c .eql (.v 32 38) (.v 64 38)) true,.c (.c .eql (.v 32 39) (.v 64 39)) true,.f 64 1 [(z0,0),(z1,0)],.f 32 0 [(z0,0),(z1,0)]] 2 []]
theorem Qyq:QP Try.prog Qyp 1000 4 5 Try.f5 QxW Qyr=some (Qy6,Qy7):=by kernel_rfl
def QyO:List (Kon Try.prog):= [Xx.kon,QwW.kon,Qvv.kon]
theorem Qy9{s:Nat→Qd}(hz:∀k,8≤k→s k=X2 0):ZN s=s:=by
 funext k
 unfold ZN
 split
 ·rfl
 ·exact(hz k (by omega)).symm
theorem QwV{e:Env}{d:Nat}{i:Ins}(h:e.nm d=nmI (Q9 i)):Q0 (PX.dat e 0 (.a (Qa d 0 Qb)))=i:=by
 rw [Q3]
 exact ZE e d (by show(e.nm d).int=_;rw [h];rfl)
theorem QxY{e:Env}{d:Nat}{s:Nat→Qd}(hz:∀k,8≤k→s k=X2 0)(h:e.nm d=nmB (ZH s) (QU s)):stD (PX.dat e 0 (.a (Qa d 0 stK)))=s:=by
 rw [K7 (A:=s) (by show(e.nm d).int=_;rw [h];rfl) (by show(e.nm d).bool=_;rw [h];rfl),Qy9 hz]
theorem QyP{a b:Bool}(h:a=b):(a==b)=true:=by subst h;exact beq_self_eq_true a
theorem vsaTransfer_walk'(i:Ins)(hi:i.wf)(s:Nat→Qd)(hs:∀k,(s k).wf)(hz:∀k,8≤k→s k=X2 0)(w:World):Calls Try.prog 5 #[i.val,ZT s] w (Ret (.bool true) w):=by
 refine ZK (C:=QyO) (I:= []) Qr rfl Try.func5 Qyq (Kh [nmI (Q9 i),nmB (ZH s) (QU s)]) w rfl (fun r hr=>(List.not_mem_nil hr).elim) _ ?_ ?_
 ·refine⟨?_,?_,?_,trivial⟩
  ·intro e he _
   have h0:e.nm 0=nmI (Q9 i):=he 0 (by decide)
   have h1:e.nm 1=nmB (ZH s) (QU s):=he 1 (by decide)
   show(Q0 (PX.dat e 0 (.a (Qa 0 0 Qb)))).wf∧∀k,(stD (PX.dat e 0 (.a (Qa 1 0 stK))) k).wf
   rw [QwV h0,QxY hz h1]
   exact⟨hi,hs⟩
  ·intro e he _
   have h0:e.nm 0=nmI (Q9 i):=he 0 (by decide)
   have h1:e.nm 1=nmB (ZH s) (QU s):=he 1 (by decide)
   show(Q0 (PX.dat e 0 (.a (Qa 0 0 Qb)))).wf∧∀k,(stD (PX.dat e 0 (.a (Qa 1 0 stK))) k).wf
   rw [QwV h0,QxY hz h1]
   exact⟨hi,hs⟩
  ·intro e he _;trivial
 ·refine⟨?_,trivial⟩
  intro e u he hcd hs
  obtain⟨⟨c1,e1,g1⟩,⟨c2,e2,g2⟩,⟨c3,e3,g3⟩,_⟩:=hcd
  cases e1
  cases e2
  cases e3
  have x1:e.bool 76=fun _=>true:=g1.2
  have x2:e.int 32=e.int 64:=g3.1.trans g2.1.symm
  have x3:e.bool 32=e.bool 64:=g3.2.trans g2.2.symm
  rw [hs]
  simp only [PX.den,LX.den,SX.den,cmI,x1,x2,x3,beq_self_eq_true,decide_true,Bool.and_true]
end Go.Proofs.Yteplnamfpodmlaa.T2
namespace Go.Proofs.Yteplnamfpodmlaa
theorem vsaTransfer_walk(i:Ins)(hi:i.wf)(s:Nat→Qd)(hs:∀k,(s k).wf)(hz:∀k,8≤k→s k=X2 0)(w:World):Calls Try.prog 5 #[i.val,ZT s] w (Ret (.bool true) w):=T2.vsaTransfer_walk' i hi s hs hz w
theorem vsaTransfer_own:ownKnob Try.prog.godebug=none:=by kernel_rfl
set_option maxRecDepth 100000 in
theorem vsaTransfer_lifted(os:Os)(started:os.Started)(H:Type)(enc:TypeId×Value→H) :
 ReturnsInHanded {} Try.checked os 5 .any (Rows.vsaTransferSpec.pre6 enc Try.prog Try.f5 Rows.vsaTransferRow.domain false) (Rows.vsaTransferSpec.post enc Try.prog Try.f5 false true false false):=by
 refine returnsInHanded_of_change (C:=Try.checked) vsaTransfer_own started (by kernel_rfl) Try.func5
  (ChangeSpec.witness6 (enc:=enc) (C:=Try.checked) false ⟨#[],#[.agg #[.int .u32 0,.int .u32 0,.int .i64 0,.int .i64 0,.int .i64 0,.int .i64 0,.int .i64 0,.int .i64 0,.int .i64 0],.agg #[.bool false,.bool false,.int .u32 0,.int .u32 0,.int .u32 0,.bool false,.bool false,.int .u32 0,.int .u32 0,.int .u32 0,.bool false,.bool false,.int .u32 0,.int .u32 0,.int .u32 0,.bool false,.bool false,.int .u32 0,.int .u32 0,.int .u32 0,.bool false,.bool false,.int .u32 0,.int .u32 0,.int .u32 0,.bool false,.bool false,.int .u32 0,.int .u32 0,.int .u32 0,.bool false,.bool false,.int .u32 0,.int .u32 0,.int .u32 0,.bool false,.bool false,.int .u32 0,.int .u32 0,.int .u32 0]],[]⟩ 8 (by kernel_rfl) (by kernel_rfl) (by kernel_rfl) (by kernel_rfl)) ?_
 intro W base args ds gs before hval0 hW hcnd _
 have hval:∀(j:Nat) t v,Try.f5.params[j]?=some t→args[j]?=some v→Value.okWide Try.prog W .any base t v:=hval0
 have hW':=hW
 obtain⟨p,q,hA0,hV,rfl,hfz,hnd⟩:=hW
 have hA:DataW.TrodAll enc Try.prog W 0 (fun _=>true) true Try.f5.params.toList args.toList ds p:=hA0
 have hA1:=hA
 obtain⟨rfl,rfl⟩:=trodVars_none hV
 rw [Try.params5]at hA hval
 obtain⟨v0,vs0,d0,ds0,p0,q0,hargs,hd0,hp0,h0,r0⟩:=trodAll_cons hA
 obtain⟨v1,vs1,d1,ds1,p1,q1,hv1,hd1,hp1,h1,r1⟩:=trodAll_cons r0
 obtain⟨hvn,hdn,hpn⟩:=trodAll_nil r1
 subst hdn hd1 hd0
 obtain rfl:args= #[v0,v1]:=by cases args;simp_all
 clear hargs hvn hv1
 obtain⟨cs0,rfl,l0⟩:=Qwv Qb 6 Try.underlying39 (by kernel_rfl) (by kernel_rfl) (hval 0 39 v0 rfl rfl) h0
 obtain⟨i0,hi0,rfl⟩:=Qx7 l0
 obtain⟨cs1,rfl,l1⟩:=Qwv stK 6 Try.underlying46 (by kernel_rfl) (by kernel_rfl) (hval 1 46 v1 rfl rfl) h1
 obtain⟨s1,hs1,hz1,rfl⟩:=QxZ l1
 simp only [List.append_nil]at hW'
 refine(vsaTransfer_walk i0 hi0 s1 hs1 hz1 W).mono fun e W' hr=>?_
 obtain⟨rfl,hb⟩:=hr
 exact⟨_,rfl,JP (pa:=p) (pv:= []) hW' (fun _ _ _=>(trodAll_cons_mk (shut_bool Try.underlying4 _) trodAll_mk0)) (fun sp hsp=>Jl KV hb _ _ _ _ (by kernel_rfl) hA1 (fun x hx=>hW'.lt x hx) hsp) (fun _ _=>rfl) (by simp)
  hb (ok_one (by kernel_rfl) rfl (okWide_bool_mk Try.underlying4 _))⟩
theorem vsaTransfer_over:Rows.vsaTransferRow.holds Try.pinned (OpenSpec.ofChange Rows.vsaTransferSpec):=
 OpenClaim.holds_of_wide 5 Try.f5 rfl rfl rfl rfl rfl rfl rfl ⟨rfl,rfl,rfl,rfl,rfl⟩ rfl rfl rfl rfl rfl (by kernel_rfl) Try.func5 (by kernel_rfl)
  (of_decide_eq_true (by kernel_rfl)) (by unfold Func.isWrapper;first|(rw [if_pos (by decide+kernel)];kernel_rfl)|(rw [if_neg (by decide+kernel)];exact⟨rfl,rfl⟩))
  (fun os started H enc _=>vsaTransfer_lifted os started H enc)
theorem vsaTransfer_proved:Rows.VsaTransferSaid:=vsaTransfer_over
end Go.Proofs.Yteplnamfpodmlaa
