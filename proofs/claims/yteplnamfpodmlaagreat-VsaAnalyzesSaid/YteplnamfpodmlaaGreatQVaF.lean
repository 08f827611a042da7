/-
  Part of the proof.
-/
import Derived.Test.YteplnamfpodmlaaGreatQKit
import Derived.Test.YteplnamfpodmlaaGreatQPl14b
import Derived.Test.YteplnamfpodmlaaGreatQVaE
import Derived.Deep.LoopGhost
set_option linter.unusedVariables false
set_option linter.unusedSimpArgs false
set_option maxRecDepth 100000
open Go.ChangeShapes Go.WideShapes Go.ChangeAt Go.RowKit
section
namespace Go.Proofs.YteplnamfpodmlaaGreat
def Kl(s:Qd)(k:Nat):List Int:=(List.range k).map (We s)
theorem Qh1(s:Qd)(k:Nat):Kl s (k+1)=Kl s k ++ [We s k]:=by
 unfold Kl;rw [List.range_succ,List.map_append];rfl
theorem Qk7(s:Qd)(k:Nat):(Kl s k).length=k:=by simp [Kl]
theorem Qbp(s:Qd):(XI s).length=(Q6 s).toNat:=by simp [XI]
theorem QcF{w:World}{base:Nat}{s:Qd}{k:Nat}{v v':Value}{w1:World}{x:Int}(hx:x=We s k)(h:w1.ownsRow base 23 1 v' (k+1) (QaN (Kl s k) ++ [.int .u32 x])):w1.ownsRow base 23 1 v' (k+1) (QaN (Kl s (k+1))):=by
 rw [Qh1,Qov,←hx];exact h
theorem QnS{w:World}{base k:Nat}{s:Qd}{v:Value}(h:w.ownsRow base 23 1 v k (QaN (Kl s k))):w.ownsRow base 23 1 v (Kl s k).length (QaN (Kl s k)):=by
 rw [Qk7];exact h
theorem QcE{s:Qd}(ws:s.wf)(vs:Qx s=true)(hc:Q6 s≤64)(k:Nat)(hk:(k:Int) < Q6 s):0≤(k:Int) * s.st∧(k:Int) * s.st < 4294967296∧0≤s.lo+(k:Int) * s.st∧s.lo+(k:Int) * s.st < 4294967296:=by
 have h:=QnC ws vs k hk hc;have h2:=Int.mul_nonneg (Int.natCast_nonneg k) ws.2.2.2.2.1;have h3:=ws.1;unfold We at h;omega
set_option maxHeartbeats 2000000 in
theorem Qlu(n:Qd)(hn:n.wf)(hv:Qx n=true)(hc:Q6 n≤64)(x:∀w,Calls Tryz.prog 120 #[n.val] w (Ret (.int .i64 (Q6 n)) w))(w:World) :
 Calls Tryz.prog 126 #[n.val] w (KI (XI n) id w):=by
 have c0:0≤Q6 n:=by
  rcases Zc hv with rfl|rfl|h
  ·decide
  ·decide
  ·have:=(WH hn h).1;omega
 have HR:=Qq (QcE hn hv hc);obtain⟨L,hL⟩:∃L,L=XI n:=⟨_,rfl⟩;have H:Hid (L=Kl n (Q6 n).toNat):=Qq hL;rw [←hL];clear hL;generalize Q6 n=N at *;obtain⟨e,t,lo,hi',st⟩:=n;obtain⟨l0,l1,h0,h1,s0,s1⟩:=hn
 dsimp only at l0 l1 h0 h1 s0 s1
 obtain⟨i0,hi,hz0,hz1,hz2⟩:=info_parts Qi6
 go_enter Tryz.func126,Tryz.ntmps126
 go_wp2_with (go_at_call 120;(with_reducible refine(x _).mono ?_);rintro e w1 ⟨rfl,hb1⟩;(have hB:=(Blk.new _ _ _).call hb1);(have hg:=after (w:=w) (by go_grown) hb1))
 have hsz:w.heap.size < w1.heap.size:=hB.lt
 go_loopw [3,5] (fun v i wr=>∃k:Nat,(k:Int)≤N∧i= .int .i64 k∧wr.ownsRow (w.heap.size+1) 23 1 v k (QaN (Kl ⟨e,t,lo,hi',st⟩ k))∧Blk wr w.heap.size 34 (⟨e,t,lo,hi',st⟩:Qd).cs∧Below w.heap.size w wr) (fun _ i _=>(N - intOf i).toNat)
 case atStart=>exact⟨0,by omega,rfl,World.ownsRow_nil _ _ _ _,hB,hg⟩
 case round=>
  obtain⟨k,hk,rfl,hown,hblk,hbel⟩:=hrel;obtain⟨hcl,hfr⟩:=hblk.walk;simp only [Qd.cs]at hcl;have hs:=hblk.lt;by_cases hlt:(k:Int) < N
  ·obtain⟨p0,p1,p2,p3⟩:=HR.out k hlt
   go_wp2_with (at_builtin;refine wpList_append_own _ rfl _ _ 59 rfl (w.heap.size+1) 23 i0 (.int .u32 0) 1 4 Tryz.underlying59 hi hz0 hz1 hz2 rfl (by decide) _ _ _ rfl (hown.alloc _) ⟨wr.heap.size,0,none⟩ 1 1 [.int .u32 (lo+(k:Int) * st)] rfl rfl ?c1 ?c2 ?c3 ?c4 ?c5 ?_)
   case c1=>
    intro j u hj
    match j,hj with
    |0,hj=>simp at hj;subst hj;simp [Addr.add]
   case c2=>intro u hu;simp at hu;subst hu;rfl
   case c3=>unfold maxLen;omega
   case c4=>omega
   case c5=>simp;omega
   intro v' w2 hown' hgrow _;have R1:=QcF (w:=w) (v:= .bool true) (s:=⟨e,t,lo,hi',st⟩) rfl hown';have R2:=(hblk.alloc _).grown hgrow (Qrf hown (by omega))
   have R3:=(hbel.alloc (by omega) _).grown hgrow (by simp;omega) (fun q hq=>by have:=Qrg hown q hq;omega)
   clear hown' hgrow hown hblk hbel hcl hfr
   go_wp2
   go_roundw
   case rel=>exact⟨k+1,by omega,by go_num,R1,R2,R3⟩
   case measure=>simp [intOf];omega
  ·go_wp2
   have e1:k=N.toNat:=by omega
   subst e1;rw [H.out]
   go_returns
   have hown2:=QnS hown;exact Qiy (mk:=id) hown2 (by omega) hbel rfl
theorem QoO(s:Qd)(hs:s.wf)(hv:Qx s=true)(hc:Q6 s≤64)(w:World):Calls Tryz.prog 126 #[s.val] w (KI (XI s) id w):=
 Qlu s hs hv hc (fun w=>by have:=Qau s hs w;unfold JF at this;rwa [Zl hv]at this) w
set_option maxHeartbeats 2000000 in
theorem QdS(a n:Qd)(hn:n.wf)(hv:Qx n=true)(hc:Q6 n≤64)(y:∀w,Calls Tryz.prog 52 #[a.val] w (Ret n.val w))(x:∀w,Calls Tryz.prog 53 #[n.val] w (Ret (.int .i64 (Q6 n)) w))(w:World) :
 Calls Tryz.prog 54 #[a.val] w (KI (XI n) (fun v=> .tuple #[v,.int .i64 0]) w):=by
 have c0:0≤Q6 n:=by
  rcases Zc hv with rfl|rfl|h
  ·decide
  ·decide
  ·have:=(WH hn h).1;omega
 have HR:=Qq (QcE hn hv hc);obtain⟨L,hL⟩:∃L,L=XI n:=⟨_,rfl⟩;have H:Hid (L=Kl n (Q6 n).toNat):=Qq hL;rw [←hL];clear hL;generalize Q6 n=N at *;obtain⟨e,t,lo,hi',st⟩:=n;obtain⟨l0,l1,h0,h1,s0,s1⟩:=hn
 dsimp only at l0 l1 h0 h1 s0 s1
 simp only [Qd.val]at y x;obtain⟨i0,hi,hz0,hz1,hz2⟩:=info_parts Qi6
 go_enter Tryz.func54,Tryz.ntmps54
 go_wp2_with (first|(go_at_call 52;(with_reducible refine(y _).mono ?_);rintro e w1 ⟨rfl,hb1⟩;(have hB:=(Blk.new _ _ _).call hb1);obtain⟨hc1,hf1⟩:=hB.walk;(have hg:=after (w:=w) (by go_grown) hb1);(have hs1:=hg.size);(have hz:w.heap.size < w1.heap.size:=hB.lt))|(go_at_call 53;(with_reducible refine(x _).mono ?_);rintro e w2 ⟨rfl,hb2⟩;(have hB2:=(Blk.put (a:=a) hB ⟨e,t,lo,hi',st⟩).call hb2);(have hg2:=after (Qe hg (by omega) ⟨e,t,lo,hi',st⟩) hb2)))
 clear hc1 hf1;have hsz:w.heap.size < w2.heap.size:=hB2.lt
 go_loopw [5,6,14] (fun v _ i wr=>∃k:Nat,(k:Int)≤N∧i= .int .i64 k∧wr.ownsRow (w.heap.size+1) 23 1 v k (QaN (Kl ⟨e,t,lo,hi',st⟩ k))∧Blk wr w.heap.size 34 (⟨e,t,lo,hi',st⟩:Qd).cs∧Below w.heap.size w wr) (fun _ _ i _=>(N - intOf i).toNat)
 case atStart=>exact⟨0,by omega,rfl,World.ownsRow_nil _ _ _ _,hB2,hg2⟩
 case round=>
  obtain⟨k,hk,rfl,hown,hblk,hbel⟩:=hrel;obtain⟨hcl,hfr⟩:=hblk.walk;simp only [Qd.cs]at hcl;have hs:=hblk.lt;by_cases hlt:(k:Int) < N
  ·obtain⟨p0,p1,p2,p3⟩:=HR.out k hlt
   go_wp2_with (at_builtin;refine wpList_append_own _ rfl _ _ 59 rfl (w.heap.size+1) 23 i0 (.int .u32 0) 1 4 Tryz.underlying59 hi hz0 hz1 hz2 rfl (by decide) _ _ _ rfl (hown.alloc _) ⟨wr.heap.size,0,none⟩ 1 1 [.int .u32 (lo+(k:Int) * st)] rfl rfl ?c1 ?c2 ?c3 ?c4 ?c5 ?_)
   case c1=>
    intro j u hj
    match j,hj with
    |0,hj=>simp at hj;subst hj;simp [Addr.add]
   case c2=>intro u hu;simp at hu;subst hu;rfl
   case c3=>unfold maxLen;omega
   case c4=>omega
   case c5=>simp;omega
   intro v' w2 hown' hgrow _;have R1:=QcF (w:=w) (v:= .bool true) (s:=⟨e,t,lo,hi',st⟩) rfl hown';have R2:=(hblk.alloc _).grown hgrow (Qrf hown (by omega))
   have R3:=(hbel.alloc (by omega) _).grown hgrow (by simp;omega) (fun q hq=>by have:=Qrg hown q hq;omega)
   clear hown' hgrow hown hblk hbel hcl hfr
   go_wp2
   go_roundw
   case rel=>exact⟨k+1,by omega,by go_num,R1,R2,R3⟩
   case measure=>simp [intOf];omega
  ·go_wp2
   have e1:k=N.toNat:=by omega
   subst e1;rw [H.out]
   go_returns
   have hown2:=QnS hown;exact Qiy (mk:=fun v=> .tuple #[v,.int .i64 0]) hown2 (by omega) hbel rfl
theorem Qf2(s:Qd)(hs:s.wf)(hc:JF s≤64)(w:World):Calls Tryz.prog 54 #[s.val] w (KI (XI (Zb s)) (fun v=> .tuple #[v,.int .i64 0]) w):=
 QdS s (Zb s) (Q8 hs) (Qz s) hc (ZS s hs) (fun w=>by have:=Qbm (Zb s) (Q8 hs) w;unfold JF at this;rwa [Zl (Qz s)]at this) w
set_option maxHeartbeats 2000000 in
theorem QdT(a:Qd)(ha:a.wf)(hc:¬JF a≤64)(w:World):Calls Tryz.prog 54 #[a.val] w (Ret (.tuple #[.slice none 0 0,.int .i64 6]) w):=by
 have y:=ZS a ha;have x:=Qbm (Zb a) (Q8 ha);have e:JF (Zb a)=JF a:=by unfold JF;rw [Zl (Qz a)]
 rw [e]at x;have hc':64 < JF a:=by omega
 clear e hc;generalize JF a=N at *;generalize Zb a=n at *;obtain⟨e,t,lo,hi',st⟩:=n;simp only [Qd.val]at y x
 go_enter Tryz.func54,Tryz.ntmps54
 go_wp2_with (first|(go_at_call 52;(with_reducible refine(y _).mono ?_);rintro e w1 ⟨rfl,hb1⟩;(have hB:=(Blk.new _ _ _).call hb1);obtain⟨hc1,hf1⟩:=hB.walk;(have hg:=after (w:=w) (by go_grown) hb1);(have hs1:=hg.size);(have hz:w.heap.size < w1.heap.size:=hB.lt))|(go_at_call 53;(with_reducible refine(x _).mono ?_);rintro e w2 ⟨rfl,hb2⟩;(have hg2:=after (Qe hg (by omega) ⟨e,t,lo,hi',st⟩) hb2)))
 go_returns
 exact⟨rfl,hg2⟩
end Go.Proofs.YteplnamfpodmlaaGreat
end
section
namespace Go.Proofs.YteplnamfpodmlaaGreat
def Yk(b:Qd)(l:List Int)(k:Nat):Qd:=(l.take k).foldl (ZM b) Qt
theorem Qdg(b:Qd)(l:List Int):Yk b l l.length=l.foldl (ZM b) Qt:=by unfold Yk;rw [List.take_length]
theorem Qfe(b:Qd)(l:List Int)(k:Nat)(x:Int)(h:l[k]?=some x):Yk b l (k+1)=ZM b (Yk b l k) x:=by
 unfold Yk;rw [List.take_add_one,h,List.foldl_append];rfl
theorem QfO(b:Qd)(l:List Int)(hl:∀x∈l,0≤x∧x < 4294967296)(k:Nat):(Yk b l k).wf∧Qx (Yk b l k)=true:=
 Qf8 b _ _ Ji rfl fun x hx=>hl x (List.mem_of_mem_take hx)
theorem Qdh{b:Qd}{l:List Int}{k:Nat}{x:Int}(h:l[k]?=some x)(c:Qw b x=true):Yk b l (k+1)=Jp (Yk b l k) (Zs x):=by
 rw [Qfe b l k x h];unfold ZM;rw [c];rfl
theorem QfN{b:Qd}{l:List Int}{k:Nat}{x:Int}(h:l[k]?=some x)(c:Qw b x=false):Yk b l (k+1)=Yk b l k:=by
 rw [Qfe b l k x h];unfold ZM;rw [c];rfl
set_option maxHeartbeats 4000000 in
theorem Qk5(a b:Qd)(wb:b.wf)(l:List Int)(hl:∀x∈l,0≤x∧x < 4294967296)(hn:l.length≤64)
 (xl:∀w,Calls Tryz.prog 126 #[a.val] w (KI l id w))
 (xc:∀x w,0≤x→x < 4294967296→Calls Tryz.prog 113 #[b.val,.int .u32 x] w (Ret (.bool (Qw b x)) w))
 (xj:∀(o:Qd) x w,o.wf→0≤x→x < 4294967296→Calls Tryz.prog 45 #[o.val,(Zs x).val] w (Ret (Jp o (Zs x)).val w)) (w:World) :
 Calls Tryz.prog 121 #[a.val,b.val] w (Ret (l.foldl (ZM b) Qt).val w):=by
 have HL:=Qq hl;clear hl;obtain⟨R,hR⟩:∃R,R=l.foldl (ZM b) Qt:=⟨_,rfl⟩;have H:Hid (R=Yk b l l.length):=Qq (by rw [hR,Qdg])
 rw [←hR];clear hR
 go_enter Tryz.func121,Tryz.ntmps121
 go_wp2_with (first|(go_at_call 18;(with_reducible refine(KB _).mono ?_);rintro e w1 ⟨rfl,hb1⟩;(have hA:=(((Blk.new _ _ _).alloc _).alloc _).call hb1);(have hB:=((Blk.new _ _ _).alloc _).call hb1);(have hC:=(Blk.new _ _ _).call hb1);simp only [World.size_alloc]at hB hC;obtain⟨hc,hf⟩:=hA.walk;(have hg:=after (w:=w) (by go_grown) hb1);(have hs:=hg.size);(have hz:w.heap.size+1+1 < w1.heap.size:=hC.lt);(have hz0:w.heap.size < w1.heap.size:=hA.lt);(have hz1:w.heap.size+1 < w1.heap.size:=hB.lt))|(go_at_call 126;(with_reducible refine(xl _).mono ?_);rintro e w2 ⟨A,c,rfl,hr,hb2⟩;(have hD2:=(Blk.new w1 34 Qt.cs).call hb2);(have hB2:=(hB.alloc _).call hb2);(have hC2:=(hC.alloc _).call hb2);(have hg2:=after (hg.alloc hs _) hb2)))
 clear hc hf hA hB hC;have hr2:Rd w2 (w1.heap.size+1) A l:=by simpa using hr
 clear hr
 go_loopg [7] l.length (fun g i wr=>∃k:Nat,Hid (k+g=l.length)∧k≤l.length∧i= .int .i64 k∧Blk wr (w.heap.size+1) 34 b.cs∧Blk wr (w.heap.size+1+1) 34 Qs.cs∧Blk wr w1.heap.size 34 (Yk b l k).cs∧Rd wr (w1.heap.size+1) A l∧Below w.heap.size w wr)
 case atStart=>exact⟨0,Qq (by omega),by omega,rfl,hB2,hC2,hD2,hr2,hg2⟩
 case round=>
  obtain⟨k,hkg,hk,rfl,hB,hC,hD,hr,hg⟩:=hrel;clear hB2 hC2 hD2 hr2 hg2;by_cases hlt:k < l.length
  ·obtain⟨x,hx⟩:∃x,l[k]?=some x:=⟨_,List.getElem?_eq_getElem hlt⟩;obtain⟨ad,rfl,hlo,hhi,hcell⟩:=hr k x hx;obtain⟨x0,x1⟩:=HL.out x (List.mem_of_getElem? hx);have HX:=Qq hx;clear hx;obtain⟨hcb,hfb⟩:=hB.walk;obtain⟨hcd,hfd⟩:=hD.walk;have hsb:=hB.lt;have hsd:=hD.lt;have hsc:=hC.lt;have O:=QfO b l HL.out k;generalize hO:Yk b l k=o at *;have HO:=Qq hO;clear hO;have kg:=hkg.out;cases hcon:Qw b x
   ·have z:=xc x;rw [hcon]at z;have hst:=Qq (QfN HX.out hcon);clear hcon kg
    go_upto_region 6 with fail
    go_cut [22] (fun s22 wx=>s22= .bool false∧Below wr.heap.size wr wx)
    case first=>
     go_region_with (go_at_call 113;(with_reducible refine(z _ x0 x1).mono ?_);rintro e w3 ⟨rfl,hb3⟩;(have hg3:=after (w:=wr) (by go_grown) hb3))
     all_goals (go_wp2_with fail;go_meet;exact⟨rfl,hg3⟩)
    obtain⟨rfl,hg3⟩:=hcut;have hB3:=hB.call hg3;have hC3:=hC.call hg3;have hD3:=hD.call hg3;have hr3:=hr.below hg3;have hg4:=after hg hg3;clear hcb hfb hcd hfd
    go_wp2
    go_roundg (l.length - (k+1))
    case measure=>have:=hkg.out;omega
    case rel=>exact⟨k+1,Qq (by omega),by omega,by go_num,hB3,hC3,by rw [hst.out,HO.out];exact hD3,hr3,hg4⟩
   ·have z:=xc x;rw [hcon]at z;have hst:=Qq (Qdh HX.out hcon);clear hcon kg;obtain⟨J,hJ⟩:∃J,J=Jp o (Zs x):=⟨_,rfl⟩;have zj:∀w,Calls Tryz.prog 45 #[o.val,.agg #[.bool false,.bool false,.int .u32 x,.int .u32 x,.int .u32 0]] w (Ret J.val w):=fun w=>by rw [hJ];exact xj o x w O.1 x0 x1
    have zc:∀w,Calls Tryz.prog 76 #[.int .u32 x] w (Ret (.agg #[.bool false,.bool false,.int .u32 x,.int .u32 x,.int .u32 0]) w):=YV x;have HJ:Hid (Yk b l (k+1)=J):=Qq (by rw [hst.out,HO.out,hJ])
    clear hJ hst
    go_upto_region 6 with fail
    go_cut [22] (fun s22 wx=>s22= .bool true∧Below wr.heap.size wr wx)
    case first=>
     go_region_with (go_at_call 113;(with_reducible refine(z _ x0 x1).mono ?_);rintro e w3 ⟨rfl,hb3⟩;(have hg3:=after (w:=wr) (by go_grown) hb3))
     all_goals (go_wp2_with fail;go_meet;exact⟨rfl,hg3⟩)
    obtain⟨rfl,hg3⟩:=hcut;have hB3:=hB.call hg3;have hC3:=hC.call hg3;have hD3:=hD.call hg3;have hr3:=hr.below hg3;have hg4:=after hg hg3;clear hcb hfb hcd hfd;obtain⟨hcd,hfd⟩:=hD3.walk;have hs3:=hg3.size;have hcell3:=(hg3.cell (p:=ad.add k) (by rw [X2];exact hhi)).trans hcell
    go_upto_region 7 with fail
    go_region_with (first|(go_at_call 76;(with_reducible refine(zc _).mono ?_);rintro e w4 ⟨rfl,hb4⟩;(have hB4:=hB3.drew.call hb4);(have hC4:=hC3.drew.call hb4);(have hD4:=hD3.drew.call hb4);(have hr4:=hr3.drew.below hb4);obtain⟨hcd4,hfd4⟩:=hD4.walk;(have hg5:=after hg4.drew hb4);(have hs5:=hg5.size))|(go_at_call 45;(with_reducible refine(zj _).mono ?_);rintro e w5 ⟨rfl,hb5⟩;(have hB5:=hB4.call hb5);(have hC5:=hC4.call hb5);(have hD5:=hD4.call hb5);(have hr5:=hr4.below hb5);obtain⟨hcd5,hfd5⟩:=hD5.walk;(have hg6:=after hg5 hb5)))
    all_goals
     have hB6:=hB5.put_far (g':=w1.heap.size) (by omega) J
     have hC6:=hC5.put_far (g':=w1.heap.size) (by omega) J
     have hD6:=hD5.put (a:=o) J;have hr6:=hr5.put (g:=w1.heap.size) (by omega) J
     have hg7:=Qe (g:=w1.heap.size) hg6 (by omega) J
     clear hcd4 hfd4 hcd5 hfd5 hcd hfd
     go_wp2_with fail
     go_roundg (l.length - (k+1))
     case measure=>have:=hkg.out;omega
     case rel=>exact⟨k+1,Qq (by omega),by omega,by go_num,hB6,hC6,by rw [HJ.out];exact hD6,hr6,hg7⟩
  ·obtain⟨hcd,hfd⟩:=hD.walk;have hsd:=hD.lt;have hsc:=hC.lt;have e1:k=l.length:=by omega
   obtain⟨hcc,hfc⟩:=hC.walk;have hh:Blk wr w1.heap.size 34 R.cs:=by rw [H.out,←e1];exact hD
   subst e1;clear hD hcd hfd;obtain⟨hcd,hfd⟩:=hh.walk
   go_wp2
   exact bodyPost_ret (v:=R.val) (Qf rfl rfl (hC.put (a:=Qs) R)) rfl ⟨rfl,Qe hg (by omega) R⟩
end Go.Proofs.YteplnamfpodmlaaGreat
end
