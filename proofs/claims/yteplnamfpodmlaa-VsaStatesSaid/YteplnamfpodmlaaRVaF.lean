/-
  Part of the proof.
-/
import Derived.Test.YteplnamfpodmlaaRMem
import Derived.Test.YteplnamfpodmlaaRPl14b
import Derived.Test.YteplnamfpodmlaaRVaE
import Derived.Deep.LoopGhost
set_option linter.unusedVariables false
set_option linter.unusedSimpArgs false
set_option maxRecDepth 100000
open Go.ChangeShapes Go.WideShapes Go.ChangeAt Go.RowKit
section
namespace Go.Proofs.Yteplnamfpodmlaa
def Vm(s:Qd)(k:Nat):List Int:=(List.range k).map (Yc s)
theorem Qhs(s:Qd)(k:Nat):Vm s (k+1)=Vm s k ++ [Yc s k]:=by
 unfold Vm;rw [List.range_succ,List.map_append];rfl
theorem Qkr(s:Qd)(k:Nat):(Vm s k).length=k:=by simp [Vm]
theorem QeZ(s:Qd):(Jv s).length=(QO s).toNat:=by simp [Jv]
theorem Qks{w:World}{base:Nat}{s:Qd}{k:Nat}{v v':Value}{w1:World}{x:Int}(hx:x=Yc s k)(h:w1.ownsRow base 23 1 v' (k+1) (QbV (Vm s k) ++ [.int .u32 x])):w1.ownsRow base 23 1 v' (k+1) (QbV (Vm s (k+1))):=by
 rw [Qhs,Qos,←hx];exact h
theorem Qtz{w:World}{base k:Nat}{s:Qd}{v:Value}(h:w.ownsRow base 23 1 v k (QbV (Vm s k))):w.ownsRow base 23 1 v (Vm s k).length (QbV (Vm s k)):=by
 rw [Qkr];exact h
theorem Qkq{s:Qd}(ws:s.wf)(vs:Qq s=true)(hc:QO s≤64)(k:Nat)(hk:(k:Int) < QO s):0≤(k:Int) * s.st∧(k:Int) * s.st < 4294967296∧0≤s.lo+(k:Int) * s.st∧s.lo+(k:Int) * s.st < 4294967296:=by
 have h:=Qnu ws vs k hk hc
 have h2:=Int.mul_nonneg (Int.natCast_nonneg k) ws.2.2.2.2.1
 have h3:=ws.1
 unfold Yc at h
 omega
set_option maxHeartbeats 2000000 in
theorem QxE(n:Qd)(hn:n.wf)(hv:Qq n=true)(hc:QO n≤64)(x:∀w,Calls Try.prog 136 #[n.val] w (Ret (.int .i64 (QO n)) w))(w:World) :
 Calls Try.prog 144 #[n.val] w (YY (Jv n) id w):=by
 have c0:0≤QO n:=by
  rcases QQ hv with rfl|rfl|h
  ·decide
  ·decide
  ·have:=(WZ hn h).1;omega
 have HR:=QF (Qkq hn hv hc)
 obtain⟨L,hL⟩:∃L,L=Jv n:=⟨_,rfl⟩
 have H:Hid (L=Vm n (QO n).toNat):=QF hL
 rw [←hL]
 clear hL
 generalize QO n=N at *
 obtain⟨e,t,lo,hi',st⟩:=n
 obtain⟨l0,l1,h0,h1,s0,s1⟩:=hn
 dsimp only at l0 l1 h0 h1 s0 s1
 obtain⟨i0,hi,hz0,hz1,hz2⟩:=info_parts Qss
 go_enter Try.func144,Try.ntmps144
 go_wp2_with (go_at_call 136;(with_reducible refine(x _).mono ?_);rintro e w1 ⟨rfl,hb1⟩;(have hB:=(Blk.new _ _ _).call hb1);(have hg:=after (w:=w) (by go_grown) hb1))
 have hsz:w.heap.size < w1.heap.size:=hB.lt
 go_loopw [3,5] (fun v i wr=>∃k:Nat,(k:Int)≤N∧i= .int .i64 k∧wr.ownsRow (w.heap.size+1) 23 1 v k (QbV (Vm ⟨e,t,lo,hi',st⟩ k))∧Blk wr w.heap.size 34 (⟨e,t,lo,hi',st⟩:Qd).cs∧Below w.heap.size w wr) (fun _ i _=>(N - intOf i).toNat)
 case atStart=>exact⟨0,by omega,rfl,World.ownsRow_nil _ _ _ _,hB,hg⟩
 case round=>
  obtain⟨k,hk,rfl,hown,hblk,hbel⟩:=hrel
  obtain⟨hcl,hfr⟩:=hblk.walk
  simp only [Qd.cs]at hcl
  have hs:=hblk.lt
  by_cases hlt:(k:Int) < N
  ·obtain⟨p0,p1,p2,p3⟩:=HR.out k hlt
   go_wp2_with (at_builtin;refine wpList_append_own _ rfl _ _ 30 rfl (w.heap.size+1) 23 i0 (.int .u32 0) 1 4 Try.underlying30 hi hz0 hz1 hz2 rfl (by decide) _ _ _ rfl (hown.alloc _) ⟨wr.heap.size,0,none⟩ 1 1 [.int .u32 (lo+(k:Int) * st)] rfl rfl ?c1 ?c2 ?c3 ?c4 ?c5 ?_)
   case c1=>
    intro j u hj
    match j,hj with
    |0,hj=>simp at hj;subst hj;simp [Addr.add]
   case c2=>intro u hu;simp at hu;subst hu;rfl
   case c3=>unfold maxLen;omega
   case c4=>omega
   case c5=>simp;omega
   intro v' w2 hown' hgrow _
   have R1:=Qks (w:=w) (v:= .bool true) (s:=⟨e,t,lo,hi',st⟩) rfl hown'
   have R2:=(hblk.alloc _).grown hgrow (QuJ hown (by omega))
   have R3:=(hbel.alloc (by omega) _).grown hgrow (by simp;omega) (fun q hq=>by have:=QuK hown q hq;omega)
   clear hown' hgrow hown hblk hbel hcl hfr
   go_wp2
   go_roundw
   case rel=>exact⟨k+1,by omega,by go_num,R1,R2,R3⟩
   case measure=>simp [intOf];omega
  ·go_wp2
   have e1:k=N.toNat:=by omega
   subst e1
   rw [H.out]
   go_returns
   have hown2:=Qtz hown
   exact Qsg (mk:=id) hown2 (by omega) hbel rfl
theorem Qyb(s:Qd)(hs:s.wf)(hv:Qq s=true)(hc:QO s≤64)(w:World):Calls Try.prog 144 #[s.val] w (YY (Jv s) id w):=
 QxE s hs hv hc (fun w=>by have:=QvC s hs w;unfold Vl at this;rwa [Zm hv]at this) w
set_option maxHeartbeats 2000000 in
theorem Qey(a n:Qd)(hn:n.wf)(hv:Qq n=true)(hc:QO n≤64)(y:∀w,Calls Try.prog 87 #[a.val] w (Ret n.val w))(x:∀w,Calls Try.prog 121 #[n.val] w (Ret (.int .i64 (QO n)) w))(w:World) :
 Calls Try.prog 122 #[a.val] w (YY (Jv n) (fun v=> .tuple #[v,.int .i64 0]) w):=by
 have c0:0≤QO n:=by
  rcases QQ hv with rfl|rfl|h
  ·decide
  ·decide
  ·have:=(WZ hn h).1;omega
 have HR:=QF (Qkq hn hv hc)
 obtain⟨L,hL⟩:∃L,L=Jv n:=⟨_,rfl⟩
 have H:Hid (L=Vm n (QO n).toNat):=QF hL
 rw [←hL]
 clear hL
 generalize QO n=N at *
 obtain⟨e,t,lo,hi',st⟩:=n
 obtain⟨l0,l1,h0,h1,s0,s1⟩:=hn
 dsimp only at l0 l1 h0 h1 s0 s1
 simp only [Qd.val]at y x
 obtain⟨i0,hi,hz0,hz1,hz2⟩:=info_parts Qss
 go_enter Try.func122,Try.ntmps122
 go_wp2_with (first|(go_at_call 87;(with_reducible refine(y _).mono ?_);rintro e w1 ⟨rfl,hb1⟩;(have hB:=(Blk.new _ _ _).call hb1);obtain⟨hc1,hf1⟩:=hB.walk;(have hg:=after (w:=w) (by go_grown) hb1);(have hs1:=hg.size);(have hz:w.heap.size < w1.heap.size:=hB.lt))|(go_at_call 121;(with_reducible refine(x _).mono ?_);rintro e w2 ⟨rfl,hb2⟩;(have hB2:=(Blk.put (a:=a) hB ⟨e,t,lo,hi',st⟩).call hb2);(have hg2:=after (Qh hg (by omega) ⟨e,t,lo,hi',st⟩) hb2)))
 clear hc1 hf1
 have hsz:w.heap.size < w2.heap.size:=hB2.lt
 go_loopw [5,6,14] (fun v _ i wr=>∃k:Nat,(k:Int)≤N∧i= .int .i64 k∧wr.ownsRow (w.heap.size+1) 23 1 v k (QbV (Vm ⟨e,t,lo,hi',st⟩ k))∧Blk wr w.heap.size 34 (⟨e,t,lo,hi',st⟩:Qd).cs∧Below w.heap.size w wr) (fun _ _ i _=>(N - intOf i).toNat)
 case atStart=>exact⟨0,by omega,rfl,World.ownsRow_nil _ _ _ _,hB2,hg2⟩
 case round=>
  obtain⟨k,hk,rfl,hown,hblk,hbel⟩:=hrel
  obtain⟨hcl,hfr⟩:=hblk.walk
  simp only [Qd.cs]at hcl
  have hs:=hblk.lt
  by_cases hlt:(k:Int) < N
  ·obtain⟨p0,p1,p2,p3⟩:=HR.out k hlt
   go_wp2_with (at_builtin;refine wpList_append_own _ rfl _ _ 30 rfl (w.heap.size+1) 23 i0 (.int .u32 0) 1 4 Try.underlying30 hi hz0 hz1 hz2 rfl (by decide) _ _ _ rfl (hown.alloc _) ⟨wr.heap.size,0,none⟩ 1 1 [.int .u32 (lo+(k:Int) * st)] rfl rfl ?c1 ?c2 ?c3 ?c4 ?c5 ?_)
   case c1=>
    intro j u hj
    match j,hj with
    |0,hj=>simp at hj;subst hj;simp [Addr.add]
   case c2=>intro u hu;simp at hu;subst hu;rfl
   case c3=>unfold maxLen;omega
   case c4=>omega
   case c5=>simp;omega
   intro v' w2 hown' hgrow _
   have R1:=Qks (w:=w) (v:= .bool true) (s:=⟨e,t,lo,hi',st⟩) rfl hown'
   have R2:=(hblk.alloc _).grown hgrow (QuJ hown (by omega))
   have R3:=(hbel.alloc (by omega) _).grown hgrow (by simp;omega) (fun q hq=>by have:=QuK hown q hq;omega)
   clear hown' hgrow hown hblk hbel hcl hfr
   go_wp2
   go_roundw
   case rel=>exact⟨k+1,by omega,by go_num,R1,R2,R3⟩
   case measure=>simp [intOf];omega
  ·go_wp2
   have e1:k=N.toNat:=by omega
   subst e1
   rw [H.out]
   go_returns
   have hown2:=Qtz hown
   exact Qsg (mk:=fun v=> .tuple #[v,.int .i64 0]) hown2 (by omega) hbel rfl
theorem QfB(s:Qd)(hs:s.wf)(hc:Vl s≤64)(w:World):Calls Try.prog 122 #[s.val] w (YY (Jv (ZO s)) (fun v=> .tuple #[v,.int .i64 0]) w):=
 Qey s (ZO s) (QJ hs) (Q2 s) hc (Xu s hs) (fun w=>by have:=QbO (ZO s) (QJ hs) w;unfold Vl at this;rwa [Zm (Q2 s)]at this) w
set_option maxHeartbeats 2000000 in
theorem Qez(a:Qd)(ha:a.wf)(hc:¬Vl a≤64)(w:World):Calls Try.prog 122 #[a.val] w (Ret (.tuple #[.slice none 0 0,.int .i64 6]) w):=by
 have y:=Xu a ha
 have x:=QbO (ZO a) (QJ ha)
 have e:Vl (ZO a)=Vl a:=by unfold Vl;rw [Zm (Q2 a)]
 rw [e]at x
 have hc':64 < Vl a:=by omega
 clear e hc
 generalize Vl a=N at *
 generalize ZO a=n at *
 obtain⟨e,t,lo,hi',st⟩:=n
 simp only [Qd.val]at y x
 go_enter Try.func122,Try.ntmps122
 go_wp2_with (first|(go_at_call 87;(with_reducible refine(y _).mono ?_);rintro e w1 ⟨rfl,hb1⟩;(have hB:=(Blk.new _ _ _).call hb1);obtain⟨hc1,hf1⟩:=hB.walk;(have hg:=after (w:=w) (by go_grown) hb1);(have hs1:=hg.size);(have hz:w.heap.size < w1.heap.size:=hB.lt))|(go_at_call 121;(with_reducible refine(x _).mono ?_);rintro e w2 ⟨rfl,hb2⟩;(have hg2:=after (Qh hg (by omega) ⟨e,t,lo,hi',st⟩) hb2)))
 go_returns
 exact⟨rfl,hg2⟩
end Go.Proofs.Yteplnamfpodmlaa
end
section
namespace Go.Proofs.Yteplnamfpodmlaa
def WI(b:Qd)(l:List Int)(k:Nat):Qd:=(l.take k).foldl (ZU b) Q4
theorem QhU(b:Qd)(l:List Int):WI b l l.length=l.foldl (ZU b) Q4:=by unfold WI;rw [List.take_length]
theorem Qfr(b:Qd)(l:List Int)(k:Nat)(x:Int)(h:l[k]?=some x):WI b l (k+1)=ZU b (WI b l k) x:=by
 unfold WI
 rw [List.take_add_one,h,List.foldl_append];rfl
theorem QnE(b:Qd)(l:List Int)(hl:∀x∈l,0≤x∧x < 4294967296)(k:Nat):(WI b l k).wf∧Qq (WI b l k)=true:=
 QfG b _ _ XW rfl fun x hx=>hl x (List.mem_of_mem_take hx)
theorem QhV{b:Qd}{l:List Int}{k:Nat}{x:Int}(h:l[k]?=some x)(c:Qm b x=true):WI b l (k+1)=Va (WI b l k) (X2 x):=by
 rw [Qfr b l k x h];unfold ZU;rw [c];rfl
theorem QnD{b:Qd}{l:List Int}{k:Nat}{x:Int}(h:l[k]?=some x)(c:Qm b x=false):WI b l (k+1)=WI b l k:=by
 rw [Qfr b l k x h];unfold ZU;rw [c];rfl
set_option maxHeartbeats 4000000 in
theorem Qx5(a b:Qd)(wb:b.wf)(l:List Int)(hl:∀x∈l,0≤x∧x < 4294967296)(hn:l.length≤64)
 (xl:∀w,Calls Try.prog 144 #[a.val] w (YY l id w))
 (xc:∀x w,0≤x→x < 4294967296→Calls Try.prog 99 #[b.val,.int .u32 x] w (Ret (.bool (Qm b x)) w))
 (xj:∀(o:Qd) x w,o.wf→0≤x→x < 4294967296→Calls Try.prog 56 #[o.val,(X2 x).val] w (Ret (Va o (X2 x)).val w)) (w:World) :
 Calls Try.prog 137 #[a.val,b.val] w (Ret (l.foldl (ZU b) Q4).val w):=by
 have HL:=QF hl
 clear hl
 obtain⟨R,hR⟩:∃R,R=l.foldl (ZU b) Q4:=⟨_,rfl⟩
 have H:Hid (R=WI b l l.length):=QF (by rw [hR,QhU])
 rw [←hR]
 clear hR
 go_enter Try.func137,Try.ntmps137
 go_wp2_with (first|(go_at_call 82;(with_reducible refine(QdS _).mono ?_);rintro e w1 ⟨rfl,hb1⟩;(have hA:=(((Blk.new _ _ _).alloc _).alloc _).call hb1);(have hB:=((Blk.new _ _ _).alloc _).call hb1);(have hC:=(Blk.new _ _ _).call hb1);simp only [World.size_alloc]at hB hC;obtain⟨hc,hf⟩:=hA.walk;(have hg:=after (w:=w) (by go_grown) hb1);(have hs:=hg.size);(have hz:w.heap.size+1+1 < w1.heap.size:=hC.lt);(have hz0:w.heap.size < w1.heap.size:=hA.lt);(have hz1:w.heap.size+1 < w1.heap.size:=hB.lt))|(go_at_call 144;(with_reducible refine(xl _).mono ?_);rintro e w2 ⟨A,c,rfl,hr,hb2⟩;(have hD2:=(Blk.new w1 34 Q4.cs).call hb2);(have hB2:=(hB.alloc _).call hb2);(have hC2:=(hC.alloc _).call hb2);(have hg2:=after (hg.alloc hs _) hb2)))
 clear hc hf hA hB hC
 have hr2:Rd w2 (w1.heap.size+1) A l:=by simpa using hr
 clear hr
 go_loopg [7] l.length (fun g i wr=>∃k:Nat,Hid (k+g=l.length)∧k≤l.length∧i= .int .i64 k∧Blk wr (w.heap.size+1) 34 b.cs∧Blk wr (w.heap.size+1+1) 34 QV.cs∧Blk wr w1.heap.size 34 (WI b l k).cs∧Rd wr (w1.heap.size+1) A l∧Below w.heap.size w wr)
 case atStart=>exact⟨0,QF (by omega),by omega,rfl,hB2,hC2,hD2,hr2,hg2⟩
 case round=>
  obtain⟨k,hkg,hk,rfl,hB,hC,hD,hr,hg⟩:=hrel
  clear hB2 hC2 hD2 hr2 hg2
  by_cases hlt:k < l.length
  ·obtain⟨x,hx⟩:∃x,l[k]?=some x:=⟨_,List.getElem?_eq_getElem hlt⟩
   obtain⟨ad,rfl,hlo,hhi,hcell⟩:=hr k x hx
   obtain⟨x0,x1⟩:=HL.out x (List.mem_of_getElem? hx)
   have HX:=QF hx
   clear hx
   obtain⟨hcb,hfb⟩:=hB.walk
   obtain⟨hcd,hfd⟩:=hD.walk
   have hsb:=hB.lt
   have hsd:=hD.lt
   have hsc:=hC.lt
   have O:=QnE b l HL.out k
   generalize hO:WI b l k=o at *
   have HO:=QF hO
   clear hO
   have kg:=hkg.out
   cases hcon:Qm b x
   ·have z:=xc x
    rw [hcon]at z
    have hst:=QF (QnD HX.out hcon)
    clear hcon kg
    go_upto_region 6 with fail
    go_cut [22] (fun s22 wx=>s22= .bool false∧Below wr.heap.size wr wx)
    case first=>
     go_region_with (go_at_call 99;(with_reducible refine(z _ x0 x1).mono ?_);rintro e w3 ⟨rfl,hb3⟩;(have hg3:=after (w:=wr) (by go_grown) hb3))
     all_goals (go_wp2_with fail;go_meet;exact⟨rfl,hg3⟩)
    obtain⟨rfl,hg3⟩:=hcut
    have hB3:=hB.call hg3
    have hC3:=hC.call hg3
    have hD3:=hD.call hg3
    have hr3:=hr.below hg3
    have hg4:=after hg hg3
    clear hcb hfb hcd hfd
    go_wp2
    go_roundg (l.length - (k+1))
    case measure=>have:=hkg.out;omega
    case rel=>exact⟨k+1,QF (by omega),by omega,by go_num,hB3,hC3,by rw [hst.out,HO.out];exact hD3,hr3,hg4⟩
   ·have z:=xc x
    rw [hcon]at z
    have hst:=QF (QhV HX.out hcon)
    clear hcon kg
    obtain⟨J,hJ⟩:∃J,J=Va o (X2 x):=⟨_,rfl⟩
    have zj:∀w,Calls Try.prog 56 #[o.val,.agg #[.bool false,.bool false,.int .u32 x,.int .u32 x,.int .u32 0]] w (Ret J.val w):=fun w=>by rw [hJ];exact xj o x w O.1 x0 x1
    have zc:∀w,Calls Try.prog 58 #[.int .u32 x] w (Ret (.agg #[.bool false,.bool false,.int .u32 x,.int .u32 x,.int .u32 0]) w):=QvA x
    have HJ:Hid (WI b l (k+1)=J):=QF (by rw [hst.out,HO.out,hJ])
    clear hJ hst
    go_upto_region 6 with fail
    go_cut [22] (fun s22 wx=>s22= .bool true∧Below wr.heap.size wr wx)
    case first=>
     go_region_with (go_at_call 99;(with_reducible refine(z _ x0 x1).mono ?_);rintro e w3 ⟨rfl,hb3⟩;(have hg3:=after (w:=wr) (by go_grown) hb3))
     all_goals (go_wp2_with fail;go_meet;exact⟨rfl,hg3⟩)
    obtain⟨rfl,hg3⟩:=hcut
    have hB3:=hB.call hg3
    have hC3:=hC.call hg3
    have hD3:=hD.call hg3
    have hr3:=hr.below hg3
    have hg4:=after hg hg3
    clear hcb hfb hcd hfd
    obtain⟨hcd,hfd⟩:=hD3.walk
    have hs3:=hg3.size
    have hcell3:=(hg3.cell (p:=ad.add k) (by rw [Jc];exact hhi)).trans hcell
    go_upto_region 7 with fail
    go_region_with (first|(go_at_call 58;(with_reducible refine(zc _).mono ?_);rintro e w4 ⟨rfl,hb4⟩;(have hB4:=hB3.drew.call hb4);(have hC4:=hC3.drew.call hb4);(have hD4:=hD3.drew.call hb4);(have hr4:=hr3.drew.below hb4);obtain⟨hcd4,hfd4⟩:=hD4.walk;(have hg5:=after hg4.drew hb4);(have hs5:=hg5.size))|(go_at_call 56;(with_reducible refine(zj _).mono ?_);rintro e w5 ⟨rfl,hb5⟩;(have hB5:=hB4.call hb5);(have hC5:=hC4.call hb5);(have hD5:=hD4.call hb5);(have hr5:=hr4.below hb5);obtain⟨hcd5,hfd5⟩:=hD5.walk;(have hg6:=after hg5 hb5)))
    all_goals
     have hB6:=hB5.put_far (g':=w1.heap.size) (by omega) J
     have hC6:=hC5.put_far (g':=w1.heap.size) (by omega) J
     have hD6:=hD5.put (a:=o) J
     have hr6:=hr5.put (g:=w1.heap.size) (by omega) J
     have hg7:=Qh (g:=w1.heap.size) hg6 (by omega) J
     clear hcd4 hfd4 hcd5 hfd5 hcd hfd
     go_wp2_with fail
     go_roundg (l.length - (k+1))
     case measure=>have:=hkg.out;omega
     case rel=>exact⟨k+1,QF (by omega),by omega,by go_num,hB6,hC6,by rw [HJ.out];exact hD6,hr6,hg7⟩
  ·obtain⟨hcd,hfd⟩:=hD.walk
   have hsd:=hD.lt
   have hsc:=hC.lt
   have e1:k=l.length:=by omega
   obtain⟨hcc,hfc⟩:=hC.walk
   have hh:Blk wr w1.heap.size 34 R.cs:=by rw [H.out,←e1];exact hD
   subst e1
   clear hD hcd hfd
   obtain⟨hcd,hfd⟩:=hh.walk
   go_wp2
   exact bodyPost_ret (v:=R.val) (Qt rfl rfl (hC.put (a:=QV) R)) rfl ⟨rfl,Qh hg (by omega) R⟩
end Go.Proofs.Yteplnamfpodmlaa
end
