/-
  Part of the proof.
-/
import Derived.Test.YteplnamfpodmlaaGreatQVaF
import Derived.Test.YteplnamfpodmlaaGreatQVal14
import Derived.Test.YteplnamfpodmlaaGreatQSx
import Derived.Deep.LoopGhost
set_option linter.unusedVariables false
set_option linter.unusedSimpArgs false
set_option maxRecDepth 100000
open Go.ChangeShapes Go.WideShapes Go.ChangeAt Go.RowKit
namespace Go.Proofs.YteplnamfpodmlaaGreat
theorem Qo9:Tryz.prog.follows .mixedOrders=true:=by kernel_rfl
def QeX:Con Tryz.prog:= .mk' ⟨32,[],.a Qb,true⟩
 (fun ads=>match ads with| []=>True|_=>False)
 (fun ads=>match ads with| []=>QJ Qt|_=>fun _=>0)
 (fun ads=>match ads with| []=>QO Qt|_=>fun _=>false)
 ⟨_,Tryz.func32,by kernel_rfl,by kernel_rfl⟩ (fun ads w hf hp=>by
   obtain rfl:=Qm hf;exact JZ  w)
theorem Qcg(lo hi st:Int)(h:Zk lo∧Zk hi∧Zk st)(w:World):Calls Tryz.prog 31 #[.int .u32 lo,.int .u32 hi,.int .u32 st] w (Ret (Qj lo hi st).val w):=Z8 lo hi st h.1.1 h.1.2 h.2.1.1 h.2.1.2 h.2.2.1 h.2.2.2 w
def QbX:Con Tryz.prog:= .mk' ⟨31,[.l (some .u32),.l (some .u32),.l (some .u32)],.a Qb,true⟩
 (fun ads=>match ads with| [d1,d2,d3]=>Zk (Q3 d1)∧Zk (Q3 d2)∧Zk (Q3 d3)|_=>False)
 (fun ads=>match ads with| [d1,d2,d3]=>QJ (Qj (Q3 d1) (Q3 d2) (Q3 d3))|_=>fun _=>0)
 (fun ads=>match ads with| [d1,d2,d3]=>QO (Qj (Q3 d1) (Q3 d2) (Q3 d3))|_=>fun _=>false)
 ⟨_,Tryz.func31,by kernel_rfl,by kernel_rfl⟩ (fun ads w hf hp=>by
   obtain⟨d1,_,rfl,f1,hf⟩:=Qg hf;obtain⟨d2,_,rfl,f2,hf⟩:=Qg hf;obtain⟨d3,_,rfl,f3,hf⟩:=Qg hf;obtain rfl:=Qm hf;show Calls _ _ #[d1.val,d2.val,d3.val] w _;rw [QB f1,QB f2,QB f3];exact Qcg (Q3 d1) (Q3 d2) (Q3 d3) hp w)
def QiT:List Sg:= [⟨32,[],.a Qb,true⟩,⟨31,[.l (some .u32),.l (some .u32),.l (some .u32)],.a Qb,true⟩]
def Qcb:St:=⟨QtY 100 [(2,.v (.l (.p 2 0))),(4,.v (.l (.p 3 0))),(12,.v (.l (.n .u32 (.v 1 0)))),(13,.v (.l (.n .u32 (.v 1 1))))],[⟨2,34,[.t (.v 0 0),.t (.b false),.n .u32 (.v 0 2),.n .u32 (.v 0 3),.n .u32 (.v 0 4)]⟩,⟨3,34,[.t (.b false),.t (.b false),.n .u32 (.i 0),.n .u32 (.i 0),.n .u32 (.i 0)]⟩],[],[],4⟩
def Qgx:Cfg:=⟨4,QiT,[]⟩
def QiR:List Lf:=
 let z0:SX:= .cv .u64 (.v 0 4)
 let z1:SX:= .o .add .u64 (.cv .u64 (.v 0 2)) (.o .mul .u64 (.o .quo .u64 (.o .sub .u64 (.o .add .u64 (.cv .u64 (.o .sub .u32 (.v 1 0) (.v 0 2))) z0) (.i 1)) z0) z0)
 let z2:SX:= .c .gtr z1 (.cv .u64 (.v 1 1))
 [⟨[.f 31 0 [],.c z2 true],.v (.a (Qa 31 0 Qb))⟩,⟨[.f 36 1 [.l (.n .u32 (.cv .u32 z1)),.l (.n .u32 (.v 1 1)),.l (.n .u32 (.v 0 4))],.c z2 false],.v (.a (Qa 36 0 Qb))⟩]
def QiS:List Ob:=
 let z0:SX:= .cv .u64 (.v 0 4)
 let z1:SX:= .o .add .u64 (.cv .u64 (.v 0 2)) (.o .mul .u64 (.o .quo .u64 (.o .sub .u64 (.o .add .u64 (.cv .u64 (.o .sub .u32 (.v 1 0) (.v 0 2))) z0) (.i 1)) z0) z0)
 let z2:SX:= .c .gtr z1 (.cv .u64 (.v 1 1))
 [.cl [] (.c .neq z0 (.i 0)),.pre [.c z2 true] 0 [],.pre [.c z2 false] 1 [.l (.n .u32 (.cv .u32 z1)),.l (.n .u32 (.v 1 1)),.l (.n .u32 (.v 0 4))]]
theorem Qgy:Qr4 Tryz.prog Qgx 2000 Tryz.f28 20 Qcb=some (QiR,QiS):=by kernel_rfl
def QtE(s:Qd)(p q:Int)(A B:Nat):Env:=⟨fun d j=>match d with|0=>QJ s j|1=>(match j with|0=>p|_=>q)|_=>0,fun d j=>match d with|0=>QO s j|_=>false,fun d=>match d with|2=>A|_=>B,fun _=>none⟩
theorem Qht(w:World)(t:TypeId)(o:Obj)(cs:Array Value):Blk ((w.alloc o).alloc (.cells cs t)) (w.heap.size+1) t cs:=by
 have:=Blk.new (w.alloc o) t cs;rwa [World.size_alloc]at this
set_option maxRecDepth 100000 in
set_option maxHeartbeats 8000000 in
theorem QoC(a b n m:Qd)(hn:n.wf)(hm:m.wf)(v1:Hid (Qx n=true))(v2:Hid (Qx m=true))(R:Qd)(hR:Hid (VW n m=R))
 (k1:∀w,Calls Tryz.prog 53 #[n.val] w (Ret (.int .i64 (Q6 n)) w))
 (e1:Hid (Q6 n≤64→∀w,Calls Tryz.prog 54 #[n.val] w (KI (XI n) (fun v=> .tuple #[v,.int .i64 0]) w)))
 (e2:Hid (Q6 m≤64→∀w,Calls Tryz.prog 54 #[m.val] w (KI (XI m) (fun v=> .tuple #[v,.int .i64 0]) w)))
 (e3:Hid (¬Q6 m≤64→∀w,Calls Tryz.prog 54 #[m.val] w (Ret (.tuple #[.slice none 0 0,.int .i64 6]) w)))
 (x:∀w,Calls Tryz.prog 52 #[a.val] w (Ret n.val w)) (y:∀w,Calls Tryz.prog 52 #[b.val] w (Ret m.val w)) (w:World) :
 Calls Tryz.prog 28 #[a.val,b.val] w (Ret R.val w):=by
 have wn:=Qq hn;have wm:=Qq hm;obtain⟨n0,n1,n2,n3,n4,n5⟩:=hn;obtain⟨m0,m1,m2,m3,m4,m5⟩:=hm
 go_enter Tryz.func28,Tryz.ntmps28
 go_upto_region 1 with fail
 go_cut [4] (fun s4 wx=>s4= .pointer (some ⟨w.heap.size+1+1,0,none⟩)∧Blk wx w.heap.size 34 n.cs∧Blk wx (w.heap.size+1) 34 m.cs∧Blk wx (w.heap.size+1+1) 34 Qs.cs∧Below w.heap.size w wx)
 case first=>
  go_region_with (first|(go_at_call 52;(with_reducible refine(x _).mono ?_);rintro e w1 ⟨rfl,hb1⟩;(have hA:=(((Blk.new _ _ _).alloc _).alloc _).drew.call hb1);(have hB:=((Blk.new _ _ _).alloc _).drew.call hb1);(have hC:=(Blk.new _ _ _).drew.call hb1);simp only [World.size_alloc]at hB hC;obtain⟨hc,hf⟩:=hA.walk;obtain⟨hc2,hf2⟩:=hB.walk;(have hg:=after (w:=w) (by go_grown) hb1);(have hs1:=hg.size))|(go_at_call 52;(with_reducible refine(y _).mono ?_);rintro e w2 ⟨rfl,hb2⟩;(have hA2:=hA.call hb2);(have hB2:=hB.call hb2);(have hC2:=hC.call hb2);obtain⟨hc3,hf3⟩:=hA2.walk;obtain⟨hc4,hf4⟩:=hB2.walk;(have hg2:=after hg hb2);(have hs2:=hg2.size)))
  all_goals (go_wp2_with fail;go_meet;exact⟨rfl,(Blk.put (a:=a) hA2 n).put_far (by omega) m,(Blk.put_far hB2 (by omega) n).put (a:=b) m,(Blk.put_far hC2 (by omega) n).put_far (by omega) m,Qe (Qe hg2 (by omega) _) (by omega) _⟩)
 obtain⟨rfl,hA,hB,hC,hg⟩:=hcut;obtain⟨hcA,hfA⟩:=hA.walk;obtain⟨hcB,hfB⟩:=hB.walk;obtain⟨hcC,hfC⟩:=hC.walk;have hs:=hg.size;have hz:w.heap.size+1+1 < wc.heap.size:=hC.lt;clear x y;obtain⟨ne,nt,nlo,nhi,nst⟩:=n;obtain⟨me,mt,mlo,mhi,mst⟩:=m
 try dsimp only at *
 simp only [Qd.cs]at hcA hcB hcC;cases mt
 ·cases nt
  ·skip
   go_upto_region 6 with fail
   go_cut [5,6] (fun s5 s6 wx=>∃F O,s5= .pointer (some ⟨F,0,none⟩)∧s6= .pointer (some ⟨O,0,none⟩)∧F≠O∧wc.heap.size≤F∧wc.heap.size≤O∧Blk wx F 34 (⟨ne,false,nlo,nhi,nst⟩:Qd).cs∧Blk wx O 34 (⟨me,false,mlo,mhi,mst⟩:Qd).cs∧Below wc.heap.size wc wx)
   case first=>
    have mkS:∀w',Below wc.heap.size wc w'→((∀o,w'.cell? ⟨w.heap.size,o,none⟩=(#[.bool ne,.bool false,.int .u32 nlo,.int .u32 nhi,.int .u32 nst]:Array Value)[o]?)∧(∀o,w'.cell? ⟨w.heap.size+1,o,none⟩=(#[.bool me,.bool false,.int .u32 mlo,.int .u32 mhi,.int .u32 mst]:Array Value)[o]?)):=fun w' hb=>⟨fun o=>(hA.call hb).walk.1 o,fun o=>(hB.call hb).walk.1 o⟩
    go_region_held3 (fun w'=>(∀o,w'.cell? ⟨w.heap.size,o,none⟩=(#[.bool ne,.bool false,.int .u32 nlo,.int .u32 nhi,.int .u32 nst]:Array Value)[o]?)∧(∀o,w'.cell? ⟨w.heap.size+1,o,none⟩=(#[.bool me,.bool false,.int .u32 mlo,.int .u32 mhi,.int .u32 mst]:Array Value)[o]?))
     (first|exact mkS _ (by go_grown))
     (first|fail)
    all_goals (go_wp2_with fail;go_meet)
    all_goals first
     |exact⟨wc.heap.size,wc.heap.size+1,rfl,rfl,by omega,by omega,by omega,(Blk.new _ _ _).alloc _,Qht _ _ _ _,by go_grown⟩
     |exact⟨wc.heap.size+1,wc.heap.size,rfl,rfl,by omega,by omega,by omega,Qht _ _ _ _,(Blk.new _ _ _).alloc _,by go_grown⟩
   obtain⟨F,O,rfl,rfl,hFO,hF,hO,hbF,hbO,hg2⟩:=hcut;have hA1:=hA.call hg2;have hB1:=hB.call hg2;have hC1:=hC.call hg2;have hg1:=after hg hg2;clear hcA hfA hcB hfB hcC hfC hA hB hC hg hs;obtain⟨hcA,hfA⟩:=hA1.walk;obtain⟨hcB,hfB⟩:=hB1.walk;obtain⟨hcC,hfC⟩:=hC1.walk;obtain⟨hcF,hfF⟩:=hbF.walk;obtain⟨hcO,hfO⟩:=hbO.walk;simp only [Qd.cs]at hcA hcB hcC hcF hcO;have hs:=hg1.size;have hlF:=hbF.lt
   have hlO:=hbO.lt;have hlA:w.heap.size < wc.heap.size:=hA1.lt;have hlB:w.heap.size+1 < wc.heap.size:=hB1.lt;have hlC:w.heap.size+1+1 < wc.heap.size:=hC1.lt;have hOF:O≠F:=Ne.symm hFO;have hAF:w.heap.size≠F:=by omega
   have hAO:w.heap.size≠O:=by omega
   have hBF:w.heap.size+1≠F:=by omega
   have hBO:w.heap.size+1≠O:=by omega
   have hCF:w.heap.size+1+1≠F:=by omega
   have hCO:w.heap.size+1+1≠O:=by omega
   have hFA:F≠w.heap.size:=by omega
   have hOA:O≠w.heap.size:=by omega
   have hFB:F≠w.heap.size+1:=by omega
   have hOB:O≠w.heap.size+1:=by omega
   have hFC:F≠w.heap.size+1+1:=by omega
   have hOC:O≠w.heap.size+1+1:=by omega
   by_cases c1:Q6 ⟨ne,false,nlo,nhi,nst⟩≤64
   ·have R1:Hid (R=(XI ⟨ne,false,nlo,nhi,nst⟩).foldl (ZM ⟨me,false,mlo,mhi,mst⟩) Qt):=Qq (by rw [←hR.out];unfold VW;simp only [Bool.false_eq_true,if_false];rw [if_pos c1];rfl)
    have E1:=e1.out c1;have HL:=Qq (fun x hx=>WI wn.out v1.out c1 x hx)
    have HN:(XI ⟨ne,false,nlo,nhi,nst⟩).length≤64:=by rw [Qbp];omega
    have xc:∀x w,0≤x→x < 4294967296→Calls Tryz.prog 55 #[.agg #[.bool me,.bool false,.int .u32 mlo,.int .u32 mhi,.int .u32 mst],.int .u32 x] w (Ret (.bool (Qw ⟨me,false,mlo,mhi,mst⟩ x)) w):=fun x w x0 x1=>by
     have:=Vh ⟨me,false,mlo,mhi,mst⟩ wm.out x x0 x1 w;unfold K4 at this;rwa [Zl v2.out]at this
    clear e1 e2 e3 hR;generalize XI ⟨ne,false,nlo,nhi,nst⟩=l at *;generalize hK:Qw ⟨me,false,mlo,mhi,mst⟩=K at *;have HK:=Qq hK;clear hK;generalize Q6 ⟨ne,false,nlo,nhi,nst⟩=N at *
    go_wp2_with (first|(go_at_call 53;(with_reducible refine(k1 _).mono ?_);rintro e w3 ⟨rfl,hb3⟩;(have hA3:=hA1.call hb3);(have hB3:=hB1.call hb3);(have hC3:=hC1.call hb3);(have hF3:=hbF.call hb3);(have hO3:=hbO.call hb3);(have hg3:=after hg1 hb3);clear hcA hfA hcB hfB hcC hfC hcF hfF hcO hfO;obtain⟨hcA,hfA⟩:=hA3.walk;obtain⟨hcB,hfB⟩:=hB3.walk;obtain⟨hcC,hfC⟩:=hC3.walk;obtain⟨hcF,hfF⟩:=hF3.walk;obtain⟨hcO,hfO⟩:=hO3.walk;simp only [Qd.cs]at hcA hcB hcC hcF hcO)|(go_at_call 54;(with_reducible refine(E1 _).mono ?_);rintro e w4 ⟨A,c,rfl,hr,hb4⟩;(have hC4:=hC3.call hb4);(have hO4:=hO3.call hb4);(have hg4:=after hg3 hb4);(have hr4:RdU w4 w4.heap.size A l:=Rd.up (lo:=(w3).heap.size) hr);clear hcA hfA hcB hfB hcC hfC hcF hfF hcO hfO)|(go_at_call 32;(with_reducible refine(JZ _).mono ?_);rintro e w5 ⟨rfl,hb5⟩;(have hC5:=(hC4.call hb5).alloc (.cells Qt.cs 34));(have hO5:=(hO4.call hb5).alloc (.cells Qt.cs 34));(have hD5:=Blk.new w5 34 Qt.cs);(have hz5:=hb5.size);(have hr5:=(hr4.below hb5 (Nat.le_refl _)).alloc (.cells Qt.cs 34) hz5);(have hg5:=(after hg4 hb5).alloc (after hg4 hb5).size (.cells Qt.cs 34));(have hzO:=hO4.lt);(have hzC:=hC4.lt)))
    go_loopg [11,44] l.length (fun g s11 i wr=>∃k:Nat,Hid (k+g=l.length)∧k≤l.length∧i= .int .i64 k∧Blk wr O 34 (⟨me,false,mlo,mhi,mst⟩:Qd).cs∧Blk wr (w.heap.size+1+1) 34 Qs.cs∧Blk wr w5.heap.size 34 (Yk ⟨me,false,mlo,mhi,mst⟩ l k).cs∧RdU wr w4.heap.size A l∧Below w.heap.size w wr)
    case atStart=>exact⟨0,Qq (by omega),by omega,rfl,hO5,hC5,hD5,hr5,hg5⟩
    case round=>
     clear hO5 hC5 hD5 hr5 hg5 hA1 hB1 hC1 hbF hbO hC3 hO3 hC4 hO4 hr4 hr;obtain⟨k,hkg,hk,rfl,hO5,hC5,hD5,hr5,hg5⟩:=hrel;obtain⟨hcO,hfO⟩:=hO5.walk;obtain⟨hcD,hfD⟩:=hD5.walk;have hsO:=hO5.lt;have hsD:=hD5.lt;have hsC:=hC5.lt;simp only [Qd.cs]at hcO;by_cases hlt:k < l.length
     ·obtain⟨x,hx⟩:∃x,l[k]?=some x:=⟨_,List.getElem?_eq_getElem hlt⟩;obtain⟨ad,rfl,hhi,hcell⟩:=hr5 k x hx;obtain⟨x0,x1,_⟩:=HL.out x (List.mem_of_getElem? hx);have OK:=QfO ⟨me,false,mlo,mhi,mst⟩ l (fun x hx=>⟨(HL.out x hx).1,(HL.out x hx).2.1⟩) k
      have HX:=Qq hx;clear hx;generalize hO':Yk ⟨me,false,mlo,mhi,mst⟩ l k=o at *;have HO:=Qq hO';clear hO';cases hcon:K x
      ·have z:=xc x;rw [hcon]at z;have hst:=Qq (QfN HX.out (by rw [HK.out];exact hcon))
       clear hcon
       go_wp2_with (go_at_call 55;(with_reducible refine(z _ x0 x1).mono ?_);rintro e w6 ⟨rfl,hb6⟩;(have hO6:=hO5.call hb6);(have hC6:=hC5.call hb6);(have hD6:=hD5.call hb6);(have hr6:=hr5.below hb6 (by omega));(have hg6:=after hg5 hb6))
       go_roundg (l.length - (k+1))
       case measure=>have:=hkg.out;omega
       case rel=>exact⟨k+1,Qq (by have:=hkg.out;omega),by omega,by go_num,hO6,hC6,by rw [hst.out,HO.out];exact hD6,hr6,hg6⟩
      ·have z:=xc x;rw [hcon]at z;have hst:=Qq (Qdh HX.out (by rw [HK.out];exact hcon))
       clear hcon;obtain⟨J,hJ⟩:∃J,J=Jp o (Zs x):=⟨_,rfl⟩;have zj:∀w,Calls Tryz.prog 56 #[o.val,.agg #[.bool false,.bool false,.int .u32 x,.int .u32 x,.int .u32 0]] w (Ret J.val w):=fun w=>by rw [hJ];exact QaP o (Zs x) OK.1 (WQ x0 x1) w
       have zc:∀w,Calls Tryz.prog 29 #[.int .u32 x] w (Ret (.agg #[.bool false,.bool false,.int .u32 x,.int .u32 x,.int .u32 0]) w):=WG x;have HJ:Hid (Yk ⟨me,false,mlo,mhi,mst⟩ l (k+1)=J):=Qq (by rw [hst.out,HO.out,hJ])
       clear hJ hst
       go_wp2_with (go_at_call 55;(with_reducible refine(z _ x0 x1).mono ?_);rintro e w6 ⟨rfl,hb6⟩;(have hO6:=hO5.call hb6);(have hC6:=hC5.call hb6);(have hD6:=hD5.call hb6);(have hr6:=hr5.below hb6 (by omega));(have hg6:=after hg5 hb6);clear hcO hfO hcD hfD;obtain⟨hcD,hfD⟩:=hD6.walk)
       go_region_with (first|(go_at_call 29;(with_reducible refine(zc _).mono ?_);rintro e w7 ⟨rfl,hb7⟩;(have hO7:=hO6.drew.call hb7);(have hC7:=hC6.drew.call hb7);(have hD7:=hD6.drew.call hb7);(have hr7:=hr6.drew.below hb7 (by have:=hD6.lt;simp;omega));obtain⟨hcD7,hfD7⟩:=hD7.walk;(have hg7:=after hg6.drew hb7);(have hs7:=hg7.size))|(go_at_call 56;(with_reducible refine(zj _).mono ?_);rintro e w8 ⟨rfl,hb8⟩;(have hO8:=hO7.call hb8);(have hC8:=hC7.call hb8);(have hD8:=hD7.call hb8);(have hr8:=hr7.below hb8 (by have:=hD7.lt;omega));obtain⟨hcD8,hfD8⟩:=hD8.walk;(have hg8:=after hg7 hb8)))
       all_goals
        have hO9:=hO8.put_far (g':=w5.heap.size) (by omega) J
        have hC9:=hC8.put_far (g':=w5.heap.size) (by omega) J
        have hD9:=hD8.put (a:=o) J;have hr9:=hr8.put (g:=w5.heap.size) (by omega) J
        have hg9:=Qe (g:=w5.heap.size) hg8 (by omega) J
        clear hcD7 hfD7 hcD8 hfD8 hcD hfD
        go_wp2_with fail
        go_roundg (l.length - (k+1))
        case measure=>have:=hkg.out;omega
        case rel=>exact⟨k+1,Qq (by have:=hkg.out;omega),by omega,by go_num,hO9,hC9,by rw [HJ.out];exact hD9,hr9,hg9⟩
     ·have e1:k=l.length:=by omega
      have hh:Blk wr w5.heap.size 34 R.cs:=by rw [R1.out,←Qdg,←e1];exact hD5
      subst e1;clear hD5 hcD hfD;obtain⟨hcD,hfD⟩:=hh.walk;obtain⟨hcC,hfC⟩:=hC5.walk
      go_wp2
      exact bodyPost_ret (v:=R.val) (Qf rfl rfl (hC5.put (a:=Qs) R)) rfl ⟨rfl,Qe hg5 (by omega) R⟩
   ·have c1':64 < Q6 ⟨ne,false,nlo,nhi,nst⟩:=by omega
    have HN:=Qq c1;clear c1
    go_upto_if 31 with ((go_at_call 53;(with_reducible refine(k1 _).mono ?_);rintro e w3 ⟨rfl,hb3⟩;(have hA3:=hA1.call hb3);(have hB3:=hB1.call hb3);(have hC3:=hC1.call hb3);(have hF3:=hbF.call hb3);(have hO3:=hbO.call hb3);(have hg3:=after hg1 hb3);clear hcA hfA hcB hfB hcC hfC hcF hfF hcO hfO;obtain⟨hcA,hfA⟩:=hA3.walk;obtain⟨hcB,hfB⟩:=hB3.walk;obtain⟨hcC,hfC⟩:=hC3.walk;obtain⟨hcF,hfF⟩:=hF3.walk;obtain⟨hcO,hfO⟩:=hO3.walk;simp only [Qd.cs]at hcA hcB hcC hcF hcO))
    have hsz3:=hg3.size
    go_cut [5] (fun s5 wx=>s5= .pointer (some ⟨F,0,none⟩)∧Blk wx F 34 (⟨me,false,mlo,mhi,mst⟩:Qd).cs∧Blk wx O 34 (⟨ne,false,nlo,nhi,nst⟩:Qd).cs∧Blk wx w.heap.size 34 (⟨ne,false,nlo,nhi,nst⟩:Qd).cs∧Blk wx (w.heap.size+1) 34 (⟨me,false,mlo,mhi,mst⟩:Qd).cs∧Blk wx (w.heap.size+1+1) 34 Qs.cs∧Below w.heap.size w wx)
    case first=>
     go_wp2_with fail
     go_region
     all_goals (go_wp2_with fail;go_meet)
     all_goals first
      |exact⟨rfl,(Blk.put_far (Blk.put (a:=⟨ne,false,nlo,nhi,nst⟩) hF3 ⟨me,false,mlo,mhi,mst⟩) hFO ⟨ne,false,nlo,nhi,nst⟩).drew,(Blk.put (a:=⟨me,false,mlo,mhi,mst⟩) (Blk.put_far hO3 (Ne.symm hFO) ⟨me,false,mlo,mhi,mst⟩) ⟨ne,false,nlo,nhi,nst⟩).drew,(Blk.put_far (Blk.put_far hA3 (by omega) ⟨me,false,mlo,mhi,mst⟩) (by omega) ⟨ne,false,nlo,nhi,nst⟩).drew,(Blk.put_far (Blk.put_far hB3 (by omega) ⟨me,false,mlo,mhi,mst⟩) (by omega) ⟨ne,false,nlo,nhi,nst⟩).drew,(Blk.put_far (Blk.put_far hC3 (by omega) ⟨me,false,mlo,mhi,mst⟩) (by omega) ⟨ne,false,nlo,nhi,nst⟩).drew,(Qe (Qe hg3 (by omega) ⟨me,false,mlo,mhi,mst⟩) (by omega) ⟨ne,false,nlo,nhi,nst⟩).drew⟩
      |exact⟨rfl,(Blk.put (a:=⟨ne,false,nlo,nhi,nst⟩) (Blk.put_far hF3 hFO ⟨ne,false,nlo,nhi,nst⟩) ⟨me,false,mlo,mhi,mst⟩).drew,(Blk.put_far (Blk.put (a:=⟨me,false,mlo,mhi,mst⟩) hO3 ⟨ne,false,nlo,nhi,nst⟩) (Ne.symm hFO) ⟨me,false,mlo,mhi,mst⟩).drew,(Blk.put_far (Blk.put_far hA3 (by omega) ⟨ne,false,nlo,nhi,nst⟩) (by omega) ⟨me,false,mlo,mhi,mst⟩).drew,(Blk.put_far (Blk.put_far hB3 (by omega) ⟨ne,false,nlo,nhi,nst⟩) (by omega) ⟨me,false,mlo,mhi,mst⟩).drew,(Blk.put_far (Blk.put_far hC3 (by omega) ⟨ne,false,nlo,nhi,nst⟩) (by omega) ⟨me,false,mlo,mhi,mst⟩).drew,(Qe (Qe hg3 (by omega) ⟨ne,false,nlo,nhi,nst⟩) (by omega) ⟨me,false,mlo,mhi,mst⟩).drew⟩
    clear hA1 hB1 hC1 hbF hbO hA3 hB3 hC3 hF3 hO3 hg3 hcA hfA hcB hfB hcC hfC hcF hfF hcO hfO hg1 hg2 hsz3 hb3;obtain⟨rfl,hF3,hO3,hA3,hB3,hC3,hg3⟩:=hcut;have hA1:=hA3;have hB1:=hB3;have hC1:=hC3;have hbF:=hF3;have hbO:=hO3;obtain⟨hcA,hfA⟩:=hA3.walk;obtain⟨hcB,hfB⟩:=hB3.walk;obtain⟨hcC,hfC⟩:=hC3.walk;obtain⟨hcF,hfF⟩:=hF3.walk;obtain⟨hcO,hfO⟩:=hO3.walk;simp only [Qd.cs]at hcA hcB hcC hcF hcO
    by_cases c2:Q6 ⟨me,false,mlo,mhi,mst⟩≤64
    ·have R1:Hid (R=(XI ⟨me,false,mlo,mhi,mst⟩).foldl (ZM ⟨ne,false,nlo,nhi,nst⟩) Qt):=Qq (by rw [←hR.out];unfold VW;simp only [Bool.false_eq_true,if_false];rw [if_neg (by have:=HN.out;omega),if_pos c2];rfl)
     have E2:=e2.out c2;have HL:=Qq (fun x hx=>WI wm.out v2.out c2 x hx)
     have HN2:(XI ⟨me,false,mlo,mhi,mst⟩).length≤64:=by rw [Qbp];omega
     have xc:∀x w,0≤x→x < 4294967296→Calls Tryz.prog 55 #[.agg #[.bool ne,.bool false,.int .u32 nlo,.int .u32 nhi,.int .u32 nst],.int .u32 x] w (Ret (.bool (Qw ⟨ne,false,nlo,nhi,nst⟩ x)) w):=fun x w x0 x1=>by
      have:=Vh ⟨ne,false,nlo,nhi,nst⟩ wn.out x x0 x1 w;unfold K4 at this;rwa [Zl v1.out]at this
     clear e1 e2 e3 hR c2 c1' HN;generalize XI ⟨me,false,mlo,mhi,mst⟩=l at *;generalize hK:Qw ⟨ne,false,nlo,nhi,nst⟩=K at *;have HK:=Qq hK;clear hK
     go_wp2_with (first|(go_at_call 54;(with_reducible refine(E2 _).mono ?_);rintro e w4 ⟨A,c,rfl,hr,hb4⟩;(have hC4:=hC3.call hb4);(have hO4:=hO3.call hb4);(have hg4:=after hg3 hb4);(have hr4:RdU w4 w4.heap.size A l:=Rd.up (lo:=(wc).heap.size) hr);clear hcA hfA hcB hfB hcC hfC hcF hfF hcO hfO)|(go_at_call 32;(with_reducible refine(JZ _).mono ?_);rintro e w5 ⟨rfl,hb5⟩;(have hC5:=(hC4.call hb5).alloc (.cells Qt.cs 34));(have hO5:=(hO4.call hb5).alloc (.cells Qt.cs 34));(have hD5:=Blk.new w5 34 Qt.cs);(have hz5:=hb5.size);(have hr5:=(hr4.below hb5 (Nat.le_refl _)).alloc (.cells Qt.cs 34) hz5);(have hg5:=(after hg4 hb5).alloc (after hg4 hb5).size (.cells Qt.cs 34));(have hzO:=hO4.lt);(have hzC:=hC4.lt)))
     go_loopg [11,44] l.length (fun g s11 i wr=>∃k:Nat,Hid (k+g=l.length)∧k≤l.length∧i= .int .i64 k∧Blk wr O 34 (⟨ne,false,nlo,nhi,nst⟩:Qd).cs∧Blk wr (w.heap.size+1+1) 34 Qs.cs∧Blk wr w5.heap.size 34 (Yk ⟨ne,false,nlo,nhi,nst⟩ l k).cs∧RdU wr w4.heap.size A l∧Below w.heap.size w wr)
     case atStart=>exact⟨0,Qq (by omega),by omega,rfl,hO5,hC5,hD5,hr5,hg5⟩
     case round=>
      clear hO5 hC5 hD5 hr5 hg5 hA1 hB1 hC1 hbF hbO hC3 hO3 hC4 hO4 hr4 hr;obtain⟨k,hkg,hk,rfl,hO5,hC5,hD5,hr5,hg5⟩:=hrel;obtain⟨hcO,hfO⟩:=hO5.walk;obtain⟨hcD,hfD⟩:=hD5.walk;have hsO:=hO5.lt;have hsD:=hD5.lt;have hsC:=hC5.lt;simp only [Qd.cs]at hcO;by_cases hlt:k < l.length
      ·obtain⟨x,hx⟩:∃x,l[k]?=some x:=⟨_,List.getElem?_eq_getElem hlt⟩;obtain⟨ad,rfl,hhi,hcell⟩:=hr5 k x hx;obtain⟨x0,x1,_⟩:=HL.out x (List.mem_of_getElem? hx);have OK:=QfO ⟨ne,false,nlo,nhi,nst⟩ l (fun x hx=>⟨(HL.out x hx).1,(HL.out x hx).2.1⟩) k
       have HX:=Qq hx;clear hx;generalize hO':Yk ⟨ne,false,nlo,nhi,nst⟩ l k=o at *;have HO:=Qq hO';clear hO';cases hcon:K x
       ·have z:=xc x;rw [hcon]at z;have hst:=Qq (QfN HX.out (by rw [HK.out];exact hcon))
        clear hcon
        go_wp2_with (go_at_call 55;(with_reducible refine(z _ x0 x1).mono ?_);rintro e w6 ⟨rfl,hb6⟩;(have hO6:=hO5.call hb6);(have hC6:=hC5.call hb6);(have hD6:=hD5.call hb6);(have hr6:=hr5.below hb6 (by omega));(have hg6:=after hg5 hb6))
        go_roundg (l.length - (k+1))
        case measure=>have:=hkg.out;omega
        case rel=>exact⟨k+1,Qq (by have:=hkg.out;omega),by omega,by go_num,hO6,hC6,by rw [hst.out,HO.out];exact hD6,hr6,hg6⟩
       ·have z:=xc x;rw [hcon]at z;have hst:=Qq (Qdh HX.out (by rw [HK.out];exact hcon))
        clear hcon;obtain⟨J,hJ⟩:∃J,J=Jp o (Zs x):=⟨_,rfl⟩;have zj:∀w,Calls Tryz.prog 56 #[o.val,.agg #[.bool false,.bool false,.int .u32 x,.int .u32 x,.int .u32 0]] w (Ret J.val w):=fun w=>by rw [hJ];exact QaP o (Zs x) OK.1 (WQ x0 x1) w
        have zc:∀w,Calls Tryz.prog 29 #[.int .u32 x] w (Ret (.agg #[.bool false,.bool false,.int .u32 x,.int .u32 x,.int .u32 0]) w):=WG x;have HJ:Hid (Yk ⟨ne,false,nlo,nhi,nst⟩ l (k+1)=J):=Qq (by rw [hst.out,HO.out,hJ])
        clear hJ hst
        go_wp2_with (go_at_call 55;(with_reducible refine(z _ x0 x1).mono ?_);rintro e w6 ⟨rfl,hb6⟩;(have hO6:=hO5.call hb6);(have hC6:=hC5.call hb6);(have hD6:=hD5.call hb6);(have hr6:=hr5.below hb6 (by omega));(have hg6:=after hg5 hb6);clear hcO hfO hcD hfD;obtain⟨hcD,hfD⟩:=hD6.walk)
        go_region_with (first|(go_at_call 29;(with_reducible refine(zc _).mono ?_);rintro e w7 ⟨rfl,hb7⟩;(have hO7:=hO6.drew.call hb7);(have hC7:=hC6.drew.call hb7);(have hD7:=hD6.drew.call hb7);(have hr7:=hr6.drew.below hb7 (by have:=hD6.lt;simp;omega));obtain⟨hcD7,hfD7⟩:=hD7.walk;(have hg7:=after hg6.drew hb7);(have hs7:=hg7.size))|(go_at_call 56;(with_reducible refine(zj _).mono ?_);rintro e w8 ⟨rfl,hb8⟩;(have hO8:=hO7.call hb8);(have hC8:=hC7.call hb8);(have hD8:=hD7.call hb8);(have hr8:=hr7.below hb8 (by have:=hD7.lt;omega));obtain⟨hcD8,hfD8⟩:=hD8.walk;(have hg8:=after hg7 hb8)))
        all_goals
         have hO9:=hO8.put_far (g':=w5.heap.size) (by omega) J
         have hC9:=hC8.put_far (g':=w5.heap.size) (by omega) J
         have hD9:=hD8.put (a:=o) J;have hr9:=hr8.put (g:=w5.heap.size) (by omega) J
         have hg9:=Qe (g:=w5.heap.size) hg8 (by omega) J
         clear hcD7 hfD7 hcD8 hfD8 hcD hfD
         go_wp2_with fail
         go_roundg (l.length - (k+1))
         case measure=>have:=hkg.out;omega
         case rel=>exact⟨k+1,Qq (by have:=hkg.out;omega),by omega,by go_num,hO9,hC9,by rw [HJ.out];exact hD9,hr9,hg9⟩
      ·have e1:k=l.length:=by omega
       have hh:Blk wr w5.heap.size 34 R.cs:=by rw [R1.out,←Qdg,←e1];exact hD5
       subst e1;clear hD5 hcD hfD;obtain⟨hcD,hfD⟩:=hh.walk;obtain⟨hcC,hfC⟩:=hC5.walk
       go_wp2
       exact bodyPost_ret (v:=R.val) (Qf rfl rfl (hC5.put (a:=Qs) R)) rfl ⟨rfl,Qe hg5 (by omega) R⟩
    ·have E3:=e3.out (by omega)
     have L:=Qfa (a:=⟨ne,false,nlo,nhi,nst⟩) (b:=⟨me,false,mlo,mhi,mst⟩) rfl rfl (by have:=HN.out;omega) c2
     rw [hR.out]at L
     dsimp only at L
     have LL:=Qq L;clear L;have sa:=(Qcq wn.out v1.out (by have:=HN.out;omega) rfl).2
     have st0:0 < nst:=by dsimp only at sa;omega
     have WN:=wn;clear e1 e2 e3 hR c2 c1' HN sa
     go_upto_region 19 with (go_at_call 54;(with_reducible refine(E3 _).mono ?_);rintro e w4 ⟨rfl,hb4⟩;(have hA4:=hA3.call hb4);(have hB4:=hB3.call hb4);(have hC4:=hC3.call hb4);(have hg4:=after hg3 hb4);clear hcA hfA hcB hfB hcC hfC hcF hfF hcO hfO;obtain⟨hcA,hfA⟩:=hA4.walk;obtain⟨hcB,hfB⟩:=hB4.walk;obtain⟨hcC,hfC⟩:=hC4.walk;simp only [Qd.cs]at hcA hcB hcC)
     go_cut [12,13] (fun s12 s13 wx=>∃p q:Int,s12= .int .u32 p∧s13= .int .u32 q∧Hid (p=if nlo < mlo then mlo else nlo)∧Hid (q=if nhi < mhi then nhi else mhi)∧Blk wx w.heap.size 34 (⟨ne,false,nlo,nhi,nst⟩:Qd).cs∧Blk wx (w.heap.size+1+1) 34 Qs.cs∧Below w.heap.size w wx)
     case first=>
      go_quiet (fail)
      all_goals go_wp2
      all_goals go_meet
      all_goals exact⟨_,_,rfl,rfl,Qq (by omega),Qq (by omega),Xm hA4 _,Xm hC4 _,Qn hg4 _⟩
     obtain⟨p,q,rfl,rfl,hp,hq,hA5,hC5,hg5⟩:=hcut;clear hcA hfA hcB hfB hcC hfC hA4 hB4 hC4 hg4;obtain⟨hcA,hfA⟩:=hA5.walk;obtain⟨hcC,hfC⟩:=hC5.walk;simp only [Qd.cs]at hcA hcC;have hzC:=hC5.lt;have p0:nlo≤p:=by have:=hp.out;omega
     have p1:p < 4294967296:=by have:=hp.out;omega
     have q0:0≤q:=by have:=hq.out;omega
     have q1:q < 4294967296:=by have:=hq.out;omega
     have R1:Hid (R=Qj (XD ⟨ne,false,nlo,nhi,nst⟩ p) q nst):=Qq (by rw [hp.out,hq.out];exact LL.out)
     have F:=QcJ WN.out (by dsimp only;omega) p p0 p1
     unfold XD at F R1
     dsimp only at F R1
     obtain⟨f1,f2,_,f3,f4,f5,f6⟩:=F;clear hp hq LL;obtain⟨X,hX⟩:∃X,X=(p - nlo+nst - 1) / nst:=⟨_,rfl⟩;rw [←hX]at f1 f2 f3 f4 f5 f6 R1;have HX:=Qq hX;clear hX;have st1:nst≠0:=by omega
     have EE:IntKind.u32.wrap (p - nlo)=p - nlo∧IntKind.u64.wrap (p - nlo)=p - nlo∧IntKind.u64.wrap nst=nst∧IntKind.u64.wrap nlo=nlo∧IntKind.u64.wrap (p - nlo+nst)=p - nlo+nst∧IntKind.u64.wrap (p - nlo+nst - 1)=p - nlo+nst - 1∧IntKind.u64.wrap ((p - nlo+nst - 1).tdiv nst)=X∧IntKind.u64.wrap (X * nst)=X * nst∧IntKind.u64.wrap (nlo+X * nst)=nlo+X * nst:=
      ⟨IntWalk.u32_in _ ⟨by omega,by omega⟩,IntWalk.u64_in _ ⟨by omega,by omega⟩,IntWalk.u64_in _ ⟨by omega,by omega⟩,IntWalk.u64_in _ ⟨by omega,by omega⟩,IntWalk.u64_in _ ⟨by omega,by omega⟩,IntWalk.u64_in _ ⟨by omega,by omega⟩,(IntWalk.u64_quo (p - nlo+nst - 1) nst ⟨by omega,by omega,by omega⟩).trans HX.out.symm,IntWalk.u64_in _ ⟨by omega,by omega⟩,IntWalk.u64_in _ ⟨by omega,by omega⟩⟩
     obtain⟨e1,e2,e3,e4,e5,e6,e7,e8,e9⟩:=EE
     go_wp2_with fail
     refine Ql8 (C:= [QeX,QbX]) (I:= []) Qo9 rfl (n:=20) (by kernel_rfl) Qgy (by assumption) (QtE ⟨ne,false,nlo,nhi,nst⟩ p q w.heap.size (w.heap.size+1+1))
      ⟨rfl,?_,?_,List.pairwise_pair.2 ?_,fun r hr=>(List.not_mem_nil hr).elim,hg5,fun r hr=>(List.not_mem_nil hr).elim,Env.agr_refl _ _⟩ ?_ ?_
     ·delta Qcb
      dsimp only
      refine QoS (by rfl) ?_
      exact⟨⟨_,rfl,rfl⟩,⟨_,rfl,rfl⟩,⟨_,rfl,rfl⟩,⟨_,rfl,rfl⟩,trivial⟩
     ·intro b hb;rcases List.mem_cons.1 hb with rfl|hb
      ·exact⟨Nat.le_refl _,hA5⟩
      ·obtain rfl:=List.mem_singleton.1 hb;exact⟨by show w.heap.size≤w.heap.size+1+1;omega,hC5⟩
     ·show w.heap.size≠w.heap.size+1+1;omega
     ·refine⟨?_,?_,?_,trivial⟩
      all_goals
       intro e he hc;have h00:e.int 0=QJ ⟨ne,false,nlo,nhi,nst⟩:=(he 0 (by decide)).1
       have h10:e.int 1 0=p:=by rw [(he 1 (by decide)).1];rfl
       have h11:e.int 1 1=q:=by rw [(he 1 (by decide)).1];rfl
       have u1:IntKind.u64.wrap q=q:=IntWalk.u64_in _ ⟨by omega,by omega⟩
      ·simp only [SX.den,cmI,h00,QJ,e3]
       simpa using st1
      ·trivial
      ·simp only [QC,Cd.holds,SX.den,cmI,arI,h00,h10,h11,QJ,e1,e2,e3,e4,e5,e6,e7,e8,e9,u1]at hc;have c3:¬q < nlo+X * nst:=by simpa using hc.1
       have u2:IntKind.u32.wrap (nlo+X * nst)=nlo+X * nst:=IntWalk.u32_in _ ⟨by omega,by omega⟩
       show Zk _∧Zk _∧Zk _;simp only [PX.dat,Q3,Yw,LX.den,PX.den,SX.den,arI,h00,h10,h11,QJ,e1,e2,e3,e4,e5,e6,e7,e8,e9,u2];exact⟨⟨by omega,by omega⟩,⟨q0,q1⟩,⟨n4,n5⟩⟩
     ·refine⟨?_,?_,trivial⟩
      all_goals
       intro e u he hc hs;have h00:e.int 0=QJ ⟨ne,false,nlo,nhi,nst⟩:=(he 0 (by decide)).1
       have h10:e.int 1 0=p:=by rw [(he 1 (by decide)).1];rfl
       have h11:e.int 1 1=q:=by rw [(he 1 (by decide)).1];rfl
       have u1:IntKind.u64.wrap q=q:=IntWalk.u64_in _ ⟨by omega,by omega⟩
       simp only [QC,Cd.holds,SX.den,cmI,arI,h00,h10,h11,QJ,List.map_cons,List.map_nil,QbX,QeX,Q1,List.getElem?_cons_zero,List.getElem?_cons_succ,Option.some.injEq,exists_eq_left',Qy,e1,e2,e3,e4,e5,e6,e7,e8,e9,u1,decide_eq_true_eq,decide_eq_false_iff_not]at hc;rw [Jh hs];rw [R1.out];unfold Qj
      ·rw [if_pos hc.2.1,KJ,Qk hc.1.1 hc.1.2]
      ·have c3:=hc.2.1;have u2:IntKind.u32.wrap (nlo+X * nst)=nlo+X * nst:=IntWalk.u32_in _ ⟨by omega,by omega⟩
       rw [u2]at hc;rw [KJ,Qk hc.1.1 hc.1.2];rfl
  ·have HR:R=⟨me,false,mlo,mhi,mst⟩:=by rw [←hR.out];rfl
   subst HR
   go_wp2
   exact bodyPost_ret (v:=Qd.val ⟨me,false,mlo,mhi,mst⟩) (Qf rfl rfl (hC.put (a:=Qs) ⟨me,false,mlo,mhi,mst⟩)) rfl ⟨rfl,Qe hg (by omega) ⟨me,false,mlo,mhi,mst⟩⟩
 ·have HR:R=⟨ne,nt,nlo,nhi,nst⟩:=by rw [←hR.out];rfl
  subst HR
  go_wp2
  exact bodyPost_ret (v:=Qd.val ⟨ne,nt,nlo,nhi,nst⟩) (Qf rfl rfl (hC.put (a:=Qs) ⟨ne,nt,nlo,nhi,nst⟩)) rfl ⟨rfl,Qe hg (by omega) ⟨ne,nt,nlo,nhi,nst⟩⟩
end Go.Proofs.YteplnamfpodmlaaGreat
