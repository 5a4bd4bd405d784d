/-
  Part 9 of the proof: FracA.
-/
import Derived.Test.YtfgmdhjmgdccdaaGreatJ8
set_option linter.unusedSimpArgs false
set_option linter.unusedVariables false
set_option maxHeartbeats 8000000
namespace Go.Proofs.YtfgmdhjmgdccdaaGreat
open Go.RowKit Gus
abbrev frC (n:Int) (m:Nat):List Value:= [.int .u64 (lowN (sz n)),.string (bigS (sz n)),.bool (ng n),.int .u64 (lowN m),.string (bigS m)]
abbrev frV (n:Int) (m:Nat):Value:= .agg #[.int .u64 (lowN (sz n)),.string (bigS (sz n)),.bool (ng n),.int .u64 (lowN m),.string (bigS m)]
theorem info_Frac:(Tryz.prog.info? 59).map (·.size)=some 5:=by kernel_rfl
set_option maxRecDepth 20000 in
set_option maxHeartbeats 400000 in
theorem fr_whole (n:Int) (w:World):Calls Tryz.prog 67 #[intV n] w (Ret w (frV n 0)):=by
 have e0:((lowN 0:Nat):Int)=0:=by rw [lowN_small (by omega)];rfl
 have e1:bigS 0=⟨#[]⟩:=bigS_small (by omega)
 unfold intV frV
 rw [e0,e1]
 clear e0 e1
 go_enter Tryz.func67,Tryz.ntmps67
 go_wp2
 refine ret_row (g:=w.heap.size+1) (cs:= [.int .u64 (lowN (sz n)),.string (bigS (sz n)),.bool (ng n),.int .u64 0,.string ⟨#[]⟩]) Tryz.results67 rfl ?_ Tryz.underlying59 rfl info_Frac rfl ⟨rfl,?_⟩
 ·(with_reducible (repeat' (first|(refine VB.new' ?_;exact(by first|omega|(simp;done)|(simp;omega)))|apply VB.put2|apply VB.put3|apply VB.put5|refine VB.drew ?_|refine VB.far ?_ ?_ _|refine VB.alloc ?_ _|omega|(simp;done)|(simp;omega))))
 ·(with_reducible (repeat' (first|exact Gr.refl _ _|refine Gr.drew ?_|refine Gr.setCell ?_ ?_ _|refine Gr.alloc ?_ ?_ _|omega|(simp;done)|(simp;omega))))
set_option maxRecDepth 20000 in
set_option maxHeartbeats 400000 in
theorem fr_den (n:Int) (m:Nat) (w:World) (hm:wl m≤549755813888):Calls Tryz.prog 82 #[frV n m] w (Ret w (natV (m+1))):=by
 have hO:=Lh (nats_Of (n:=1) (by omega))
 have hA:=Lh (fun w=>nats_Add m 1 w hm (by have:=wl_lt64 (n:=1) (by omega);omega))
 clear hm
 unfold frV
 go_enter Tryz.func82,Tryz.ntmps82
 go_wp2_with fail
 go_region_held3 (fun w'=>w'.cell? ⟨w.heap.size,3,none⟩=some (.int .u64 (lowN m))∧w'.cell? ⟨w.heap.size,4,none⟩=some (.string (bigS m)))
  (first|(simp [go_sem, *];done))
  (first|((go_at_call 106;refine(hO.out _).mono ?_;rintro e w1 ⟨rfl,hg1⟩;(try (with_reducible replace hg1:=Gr.of_drew hg1));have hsz1:=hg1.size;(try simp at hsz1);(try (have hz1_2:w.heap.size+1+1<w1.heap.size:=(by omega)));(try (have hz1_3:w.heap.size+1+1+1<w1.heap.size:=(by omega)));(try (have hz1_4:w.heap.size+1+1+1+1<w1.heap.size:=(by omega)));have hp1_1_0:w.heap.size<w1.heap.size+1:=(by omega);have hp1_1_1:w.heap.size+1<w1.heap.size+1:=(by omega);have hp1_2_0:w.heap.size<w1.heap.size+1+1:=(by omega);have hp1_2_1:w.heap.size+1<w1.heap.size+1+1:=(by omega);have hz1_0:w.heap.size<w1.heap.size:=(by omega);have hz1_1:w.heap.size+1<w1.heap.size:=(by omega);obtain ⟨hc1,hf1⟩:=hg1.cells;have HG1:=Lh hg1;clear hg1))|((go_at_call 125;refine(hA.out _).mono ?_;rintro e w2 ⟨rfl,hg2⟩;(try (with_reducible replace hg2:=Gr.of_drew hg2));have hsz2:=hg2.size;(try simp at hsz2);(try (have hz2_2:w.heap.size+1+1<w2.heap.size:=(by omega)));(try (have hz2_3:w.heap.size+1+1+1<w2.heap.size:=(by omega)));(try (have hz2_4:w.heap.size+1+1+1+1<w2.heap.size:=(by omega)));have hp2_1_0:w.heap.size<w2.heap.size+1:=(by omega);have hp2_1_1:w.heap.size+1<w2.heap.size+1:=(by omega);have hp2_2_0:w.heap.size<w2.heap.size+1+1:=(by omega);have hp2_2_1:w.heap.size+1<w2.heap.size+1+1:=(by omega);have hz2_0:w.heap.size<w2.heap.size:=(by omega);have hz2_1:w.heap.size+1<w2.heap.size:=(by omega);obtain ⟨hc2,hf2⟩:=hg2.cells;have HG2:=Lh hg2;clear hg2)))
 go_wp2
 refine ret_row (g:=w.heap.size+1) Tryz.results82 rfl (VB.set (cs:= [.int .u64 0,.string ⟨#[]⟩]) ?_ ([.int .u64 (lowN (m+1)),.string (bigS (m+1))]) rfl) Tryz.underlying53 rfl info_Nat rfl ⟨rfl,?_⟩
 ·(with_reducible (repeat' (first|(refine VB.new' ?_;exact(by first|omega|(simp;done)|(simp;omega)))|apply VB.put2|apply VB.put3|apply VB.put5|refine VB.drew ?_|refine VB.far ?_ ?_ _|refine VB.alloc ?_ _|refine VB.gr ?_ HG1.out ?_|refine VB.gr ?_ HG2.out ?_|omega|(simp;done)|(simp;omega))))
 ·(with_reducible (repeat' (first|exact Gr.refl _ _|refine Gr.drew ?_|refine Gr.setCell ?_ ?_ _|refine Gr.alloc ?_ ?_ _|refine Gr.trans ?_ (Gr.mono HG1.out ?_)|refine Gr.trans ?_ (Gr.mono HG2.out ?_)|omega|(simp;done)|(simp;omega))))
theorem sgd_false (n:Nat):sgd false n=n:=rfl
set_option maxRecDepth 20000 in
set_option maxHeartbeats 400000 in
theorem fr_signed (n:Int) (m:Nat) (w:World) (hm:wl m≤549755813888):Calls Tryz.prog 85 #[frV n m] w (Ret w (intV ((m+1:Nat):Int))):=by
 have hO:=Lh (fun w=>fr_den n m w hm)
 have hA:=Lh (ints_From' (sgd_false (m+1)))
 clear hm
 generalize ((m+1:Nat):Int)=r at *
 generalize m+1=k at *
 unfold frV
 go_enter Tryz.func85,Tryz.ntmps85
 go_wp2_with fail
 (refine(hO.out _).mono ?_;rintro e w1 ⟨rfl,hg1⟩;(try (with_reducible replace hg1:=Gr.of_drew hg1));have hsz1:=hg1.size;(try simp at hsz1);(try (have hz1_2:w.heap.size+1+1<w1.heap.size:=(by omega)));(try (have hz1_3:w.heap.size+1+1+1<w1.heap.size:=(by omega)));(try (have hz1_4:w.heap.size+1+1+1+1<w1.heap.size:=(by omega)));have hp1_1_0:w.heap.size<w1.heap.size+1:=(by omega);have hp1_1_1:w.heap.size+1<w1.heap.size+1:=(by omega);have hp1_2_0:w.heap.size<w1.heap.size+1+1:=(by omega);have hp1_2_1:w.heap.size+1<w1.heap.size+1+1:=(by omega);have hz1_0:w.heap.size<w1.heap.size:=(by omega);have hz1_1:w.heap.size+1<w1.heap.size:=(by omega);obtain ⟨hc1,hf1⟩:=hg1.cells;have HG1:=Lh hg1;clear hg1)
 go_wp2_with fail
 (refine(hA.out _).mono ?_;rintro e w2 ⟨rfl,hg2⟩;(try (with_reducible replace hg2:=Gr.of_drew hg2));have hsz2:=hg2.size;(try simp at hsz2);(try (have hz2_2:w.heap.size+1+1<w2.heap.size:=(by omega)));(try (have hz2_3:w.heap.size+1+1+1<w2.heap.size:=(by omega)));(try (have hz2_4:w.heap.size+1+1+1+1<w2.heap.size:=(by omega)));have hp2_1_0:w.heap.size<w2.heap.size+1:=(by omega);have hp2_1_1:w.heap.size+1<w2.heap.size+1:=(by omega);have hp2_2_0:w.heap.size<w2.heap.size+1+1:=(by omega);have hp2_2_1:w.heap.size+1<w2.heap.size+1+1:=(by omega);have hz2_0:w.heap.size<w2.heap.size:=(by omega);have hz2_1:w.heap.size+1<w2.heap.size:=(by omega);obtain ⟨hc2,hf2⟩:=hg2.cells;have HG2:=Lh hg2;clear hg2)
 go_wp2
 refine ret_row (g:=w.heap.size+1) Tryz.results85 rfl (VB.set (cs:= [.int .u64 0,.string ⟨#[]⟩,.bool false]) ?_ (intC r) rfl) Tryz.underlying57 rfl info_Int rfl ⟨rfl,?_⟩
 ·(with_reducible (repeat' (first|(refine VB.new' ?_;exact(by first|omega|(simp;done)|(simp;omega)))|apply VB.put2|apply VB.put3|apply VB.put5|refine VB.drew ?_|refine VB.far ?_ ?_ _|refine VB.alloc ?_ _|refine VB.gr ?_ HG1.out ?_|refine VB.gr ?_ HG2.out ?_|omega|(simp;done)|(simp;omega))))
 ·(with_reducible (repeat' (first|exact Gr.refl _ _|refine Gr.drew ?_|refine Gr.setCell ?_ ?_ _|refine Gr.alloc ?_ ?_ _|refine Gr.trans ?_ (Gr.mono HG1.out ?_)|refine Gr.trans ?_ (Gr.mono HG2.out ?_)|omega|(simp;done)|(simp;omega))))
set_option maxRecDepth 20000 in
set_option maxHeartbeats 400000 in
theorem fr_Whole (n:Int) (m:Nat) (w:World):Calls Tryz.prog 78 #[frV n m] w (Ret w (.bool (decide (m=0)))):=by
 have hq:=nat_eq0 m
 unfold frV
 go_enter Tryz.func78,Tryz.ntmps78
 go_wp2
 go_ret
 exact⟨rfl,by(with_reducible (repeat' (first|exact Gr.refl _ _|refine Gr.drew ?_|refine Gr.setCell ?_ ?_ _|refine Gr.alloc ?_ ?_ _|omega|(simp;done)|(simp;omega))))⟩
def lwN (n:Int) (d:Nat):Int:=sgd (decide (sgnI n<0)) (sz n / Nat.gcd (sz n) d)
def lwD (n:Int) (d:Nat):Nat:=d / Nat.gcd (sz n) d - 1
structure LowP (w wx:World) (n:Int) (d gb pb g p:Nat):Prop where
 n:VB wx w.heap.size (intC n)
 d:VB wx (w.heap.size+1) [.int .u64 (lowN d),.string (bigS d)]
 o:VB wx (w.heap.size+1+1) [.int .u64 0,.string ⟨#[]⟩,.bool false,.int .u64 0,.string ⟨#[]⟩]
 g:VB wx gb [.int .u64 (lowN g),.string (bigS g)]
 p:VB wx pb [.int .u64 (lowN p),.string (bigS p)]
 far:w.heap.size+1+1<gb
 far2:w.heap.size+1+1<pb
 gr:Gr w.heap.size w wx
structure LowS (w wx:World) (n:Int) (d gb g:Nat):Prop where
 n:VB wx w.heap.size (intC n)
 d:VB wx (w.heap.size+1) [.int .u64 (lowN d),.string (bigS d)]
 o:VB wx (w.heap.size+1+1) [.int .u64 0,.string ⟨#[]⟩,.bool false,.int .u64 0,.string ⟨#[]⟩]
 g:VB wx gb [.int .u64 (lowN g),.string (bigS g)]
 far:w.heap.size+1+1<gb
 gr:Gr w.heap.size w wx
theorem LowP.turn {w wc wx:World} {n:Int} {d gb pb g p qb q:Nat} (h:LowP w wc n d gb pb g p) (hg:Gr wc.heap.size wc wx) (hq:VB wx qb [.int .u64 (lowN q),.string (bigS q)]) (hf:w.heap.size+1+1<qb):LowP w wx n d qb pb q p:=
 ⟨h.n.gr hg h.n.lt,h.d.gr hg h.d.lt,h.o.gr hg h.o.lt,hq,h.p.gr hg h.p.lt,hf,h.far2,h.gr.trans (hg.mono (Nat.le_of_lt h.n.lt))⟩
theorem LowP.put {w W wx:World} {n:Int} {d gb pb g p:Nat} (h:LowP w W n d gb pb g p) (hg:Gr W.heap.size W wx) (hne:pb≠gb) (r:Nat):
  LowP w ((wx.setCell ⟨gb,0,none⟩ (.int .u64 (lowN r))).setCell ⟨gb,1,none⟩ (.string (bigS r))) n d gb pb r p:=by
 have hf:=h.far
 refine⟨((h.n.gr hg h.n.lt).far (by show gb≠_;omega) _).far (by show gb≠_;omega) _,((h.d.gr hg h.d.lt).far (by show gb≠_;omega) _).far (by show gb≠_;omega) _,((h.o.gr hg h.o.lt).far (by show gb≠_;omega) _).far (by show gb≠_;omega) _,
  VB.put2 (h.g.gr hg h.g.lt),((h.p.gr hg h.p.lt).far (by show gb≠_;omega) _).far (by show gb≠_;omega) _,hf,h.far2,?_⟩
 have hn:=h.n.lt
 exact((h.gr.trans (hg.mono (Nat.le_of_lt hn))).setCell (by show _≤gb;omega) _).setCell (by show _≤gb;omega) _
theorem LowP.drew {w wx:World} {n:Int} {d gb pb g p:Nat} (h:LowP w wx n d gb pb g p):LowP w wx.drew n d gb pb g p:=
 ⟨h.n.drew,h.d.drew,h.o.drew,h.g.drew,h.p.drew,h.far,h.far2,h.gr.drew⟩
theorem LowS.next {w wc wx:World} {n:Int} {d gb pb g p:Nat} (h:LowS w wc n d gb g) (hg:Gr wc.heap.size wc wx) (hp:VB wx pb [.int .u64 (lowN p),.string (bigS p)]) (hf:w.heap.size+1+1<pb):LowP w wx n d gb pb g p:=
 ⟨h.n.gr hg h.n.lt,h.d.gr hg h.d.lt,h.o.gr hg h.o.lt,h.g.gr hg h.g.lt,hp,h.far,hf,h.gr.trans (hg.mono (Nat.le_of_lt h.n.lt))⟩
set_option maxRecDepth 20000 in
set_option maxHeartbeats 4000000 in
theorem fr_lowest (n:Int) (d:Nat) (w:World) (hn:wl (sz n)≤549755813888) (hd:wl d≤549755813888) (h0:0<d):Calls Tryz.prog 80 #[intV n,natV d] w (Ret w (frV (lwN n d) (lwD n d))):=by
 obtain ⟨g,hg⟩:∃g,g=Nat.gcd (sz n) d:=⟨_,rfl⟩
 have hg0:0<g:=by rw [hg];exact Nat.gcd_pos_of_pos_right _ h0
 have hgd:g≤d:=by rw [hg];exact Nat.gcd_le_right _ h0
 have hgl:=Nat.le_trans (wl_mono hgd) hd
 have hd1:1≤d / g:=Nat.div_pos hgd hg0
 have hA:=Lh (ints_Abs n)
 have hG:=Lh (fun w=>nats_Gcd (sz n) d w hn hd)
 have hP:=Lh (fun w=>nats_Div (sz n) g w hn hgl hg0)
 have hQ:=Lh (fun w=>nats_Div d g w hd hgl hg0)
 have hO:=Lh (nats_Of (n:=1) (by omega))
 have hS:=Lh (fun w=>nats_Sub (a:=d / g) (b:=1) w (Nat.le_trans (wl_mono (Nat.div_le_self d g)) hd) hd1)
 have hI:=Lh (ints_Sign n)
 have hF:=Lh (ints_From' (s:=decide (sgnI n<0)) (n:=sz n / g) (z:=lwN n d) (by rw [hg];rfl))
 have hD:d / g - 1=lwD n d:=by rw [hg];rfl
 rw [←hg]at hG
 rw [hD]at hS
 clear hn hd h0 hg hg0 hgd hgl hd1 hD
 generalize sgnI n=c at *
 unfold intV natV frV
 generalize lwN n d=rn at *
 generalize lwD n d=rd at *
 generalize sz n / g=p at *
 generalize sz n % g=p' at *
 generalize d / g=q at *
 generalize d % g=q' at *
 go_enter Tryz.func80,Tryz.ntmps80
 go_upto_region 2 with fail
 go_cut [5] (fun v wx=> ∃gb,v= .pointer (some ⟨gb,0,none⟩)∧LowS w wx n d gb g)
 case first=>
  go_region_held3 (fun w'=>w'.cell? ⟨w.heap.size,0,none⟩=some (.int .u64 (lowN (sz n)))∧w'.cell? ⟨w.heap.size,1,none⟩=some (.string (bigS (sz n)))∧w'.cell? ⟨w.heap.size,2,none⟩=some (.bool (ng n))∧w'.cell? ⟨w.heap.size+1,0,none⟩=some (.int .u64 (lowN d))∧w'.cell? ⟨w.heap.size+1,1,none⟩=some (.string (bigS d)))
   (first|(simp [go_sem, *];done))
   (first|((go_at_call 107;refine(hA.out _).mono ?_;rintro e w1 ⟨rfl,hg1⟩;(try (with_reducible replace hg1:=Gr.of_drew hg1));have hsz1:=hg1.size;(try simp at hsz1);(try (have hz1_3:w.heap.size+1+1+1<w1.heap.size:=(by omega)));(try (have hz1_4:w.heap.size+1+1+1+1<w1.heap.size:=(by omega)));(try (have hz1_5:w.heap.size+1+1+1+1+1<w1.heap.size:=(by omega)));have hp1_1_0:w.heap.size<w1.heap.size+1:=(by omega);have hp1_1_1:w.heap.size+1<w1.heap.size+1:=(by omega);have hp1_1_2:w.heap.size+1+1<w1.heap.size+1:=(by omega);have hp1_2_0:w.heap.size<w1.heap.size+1+1:=(by omega);have hp1_2_1:w.heap.size+1<w1.heap.size+1+1:=(by omega);have hp1_2_2:w.heap.size+1+1<w1.heap.size+1+1:=(by omega);have hz1_0:w.heap.size<w1.heap.size:=(by omega);have hz1_1:w.heap.size+1<w1.heap.size:=(by omega);have hz1_2:w.heap.size+1+1<w1.heap.size:=(by omega);obtain ⟨hc1,hf1⟩:=hg1.cells;have HG1:=Lh hg1;clear hg1))|((go_at_call 118;refine(hG.out _).mono ?_;rintro e w2 ⟨rfl,hg2⟩;(try (with_reducible replace hg2:=Gr.of_drew hg2));have hsz2:=hg2.size;(try simp at hsz2);(try (have hz2_3:w.heap.size+1+1+1<w2.heap.size:=(by omega)));(try (have hz2_4:w.heap.size+1+1+1+1<w2.heap.size:=(by omega)));(try (have hz2_5:w.heap.size+1+1+1+1+1<w2.heap.size:=(by omega)));have hp2_1_0:w.heap.size<w2.heap.size+1:=(by omega);have hp2_1_1:w.heap.size+1<w2.heap.size+1:=(by omega);have hp2_1_2:w.heap.size+1+1<w2.heap.size+1:=(by omega);have hp2_2_0:w.heap.size<w2.heap.size+1+1:=(by omega);have hp2_2_1:w.heap.size+1<w2.heap.size+1+1:=(by omega);have hp2_2_2:w.heap.size+1+1<w2.heap.size+1+1:=(by omega);have hz2_0:w.heap.size<w2.heap.size:=(by omega);have hz2_1:w.heap.size+1<w2.heap.size:=(by omega);have hz2_2:w.heap.size+1+1<w2.heap.size:=(by omega);obtain ⟨hc2,hf2⟩:=hg2.cells;have HG2:=Lh hg2;clear hg2)))
  all_goals
   go_wp2_with fail
   go_meet
   refine⟨_,rfl,?_,?_,?_,?_,?_,?_⟩
   ·(with_reducible (repeat' (first|(refine VB.new' ?_;exact(by first|omega|(simp;done)|(simp;omega)))|apply VB.put2|apply VB.put3|apply VB.put5|refine VB.drew ?_|refine VB.far ?_ ?_ _|refine VB.alloc ?_ _|refine VB.gr ?_ HG1.out ?_|refine VB.gr ?_ HG2.out ?_|omega|(simp;done)|(simp;omega))))
   ·(with_reducible (repeat' (first|(refine VB.new' ?_;exact(by first|omega|(simp;done)|(simp;omega)))|apply VB.put2|apply VB.put3|apply VB.put5|refine VB.drew ?_|refine VB.far ?_ ?_ _|refine VB.alloc ?_ _|refine VB.gr ?_ HG1.out ?_|refine VB.gr ?_ HG2.out ?_|omega|(simp;done)|(simp;omega))))
   ·(with_reducible (repeat' (first|(refine VB.new' ?_;exact(by first|omega|(simp;done)|(simp;omega)))|apply VB.put2|apply VB.put3|apply VB.put5|refine VB.drew ?_|refine VB.far ?_ ?_ _|refine VB.alloc ?_ _|refine VB.gr ?_ HG1.out ?_|refine VB.gr ?_ HG2.out ?_|omega|(simp;done)|(simp;omega))))
   ·(with_reducible (repeat' (first|(refine VB.new' ?_;exact(by first|omega|(simp;done)|(simp;omega)))|apply VB.put2|apply VB.put3|apply VB.put5|refine VB.drew ?_|refine VB.far ?_ ?_ _|refine VB.alloc ?_ _|refine VB.gr ?_ HG1.out ?_|refine VB.gr ?_ HG2.out ?_|omega|(simp;done)|(simp;omega))))
   ·exact(by first|omega|(simp;done)|(simp;omega))
   ·(with_reducible (repeat' (first|exact Gr.refl _ _|refine Gr.drew ?_|refine Gr.setCell ?_ ?_ _|refine Gr.alloc ?_ ?_ _|refine Gr.trans ?_ (Gr.mono HG1.out ?_)|refine Gr.trans ?_ (Gr.mono HG2.out ?_)|omega|(simp;done)|(simp;omega))))
 case rest=>
  obtain ⟨gb,rfl,hl⟩:=hcut
  obtain ⟨n0,n1,n2,_,_,_⟩:=hl.n.three
  obtain ⟨g0,g1,_,_⟩:=hl.g.two
  have hzc_0:=hl.n.lt
  have hzc_1:=hl.d.lt
  have hzc_2:=hl.o.lt
  have hzc_g:=hl.g.lt
  have hfar:=hl.far
  have hyc_0:gb<wc.heap.size:=(by omega);(try (have hzc_3:w.heap.size+1+1+1<wc.heap.size:=(by omega)));(try (have hzc_4:w.heap.size+1+1+1+1<wc.heap.size:=(by omega)));(try (have hzc_5:w.heap.size+1+1+1+1+1<wc.heap.size:=(by omega)));have hpc_1_0:w.heap.size<wc.heap.size+1:=(by omega);have hpc_1_1:w.heap.size+1<wc.heap.size+1:=(by omega);have hpc_1_2:w.heap.size+1+1<wc.heap.size+1:=(by omega);have hpc_1_3:gb<wc.heap.size+1:=(by omega);have hpc_2_0:w.heap.size<wc.heap.size+1+1:=(by omega);have hpc_2_1:w.heap.size+1<wc.heap.size+1+1:=(by omega);have hpc_2_2:w.heap.size+1+1<wc.heap.size+1+1:=(by omega);have hpc_2_3:gb<wc.heap.size+1+1:=(by omega);have hzc_0:w.heap.size<wc.heap.size:=(by omega);have hzc_1:w.heap.size+1<wc.heap.size:=(by omega);have hzc_2:w.heap.size+1+1<wc.heap.size:=(by omega)
  have hn:=hl.n
  have hg:=hl.g
  have HL:=Lh hl
  have HGR:=Lh hl.gr
  clear hl
  go_upto_region 3 with fail
  go_cut [6] (fun v wx=> ∃pb,v= .pointer (some ⟨pb,0,none⟩)∧LowP w wx n d gb pb g p)
  case first=>
   go_region_held3 (fun w'=>w'.cell? ⟨w.heap.size,0,none⟩=some (.int .u64 (lowN (sz n)))∧w'.cell? ⟨w.heap.size,1,none⟩=some (.string (bigS (sz n)))∧w'.cell? ⟨w.heap.size,2,none⟩=some (.bool (ng n))∧w'.cell? ⟨gb,0,none⟩=some (.int .u64 (lowN g))∧w'.cell? ⟨gb,1,none⟩=some (.string (bigS g)))
    (first|(simp [go_sem, *];done))
    (first|((go_at_call 107;refine(hA.out _).mono ?_;rintro e w1 ⟨rfl,hg1⟩;(try (with_reducible replace hg1:=Gr.of_drew hg1));have hsz1:=hg1.size;(try simp at hsz1);(try (have hq1_0:wc.heap.size<w1.heap.size:=(by omega)));(try (have hq1_1:wc.heap.size+1<w1.heap.size:=(by omega)));have hy1_0:gb<w1.heap.size:=(by omega);(try (have hz1_3:w.heap.size+1+1+1<w1.heap.size:=(by omega)));(try (have hz1_4:w.heap.size+1+1+1+1<w1.heap.size:=(by omega)));(try (have hz1_5:w.heap.size+1+1+1+1+1<w1.heap.size:=(by omega)));have hp1_1_0:w.heap.size<w1.heap.size+1:=(by omega);have hp1_1_1:w.heap.size+1<w1.heap.size+1:=(by omega);have hp1_1_2:w.heap.size+1+1<w1.heap.size+1:=(by omega);have hp1_1_3:gb<w1.heap.size+1:=(by omega);have hp1_2_0:w.heap.size<w1.heap.size+1+1:=(by omega);have hp1_2_1:w.heap.size+1<w1.heap.size+1+1:=(by omega);have hp1_2_2:w.heap.size+1+1<w1.heap.size+1+1:=(by omega);have hp1_2_3:gb<w1.heap.size+1+1:=(by omega);have hz1_0:w.heap.size<w1.heap.size:=(by omega);have hz1_1:w.heap.size+1<w1.heap.size:=(by omega);have hz1_2:w.heap.size+1+1<w1.heap.size:=(by omega);obtain ⟨hc1,hf1⟩:=hg1.cells;have HG1:=Lh hg1;clear hg1))|((go_at_call 119;refine(hP.out _).mono ?_;rintro e w2 ⟨rfl,hg2⟩;(try (with_reducible replace hg2:=Gr.of_drew hg2));have hsz2:=hg2.size;(try simp at hsz2);(try (have hq2_0:wc.heap.size<w2.heap.size:=(by omega)));(try (have hq2_1:wc.heap.size+1<w2.heap.size:=(by omega)));(try (have hq2_2:w1.heap.size<w2.heap.size:=(by omega)));(try (have hq2_3:w1.heap.size+1<w2.heap.size:=(by omega)));have hy2_0:gb<w2.heap.size:=(by omega);(try (have hz2_3:w.heap.size+1+1+1<w2.heap.size:=(by omega)));(try (have hz2_4:w.heap.size+1+1+1+1<w2.heap.size:=(by omega)));(try (have hz2_5:w.heap.size+1+1+1+1+1<w2.heap.size:=(by omega)));have hp2_1_0:w.heap.size<w2.heap.size+1:=(by omega);have hp2_1_1:w.heap.size+1<w2.heap.size+1:=(by omega);have hp2_1_2:w.heap.size+1+1<w2.heap.size+1:=(by omega);have hp2_1_3:gb<w2.heap.size+1:=(by omega);have hp2_2_0:w.heap.size<w2.heap.size+1+1:=(by omega);have hp2_2_1:w.heap.size+1<w2.heap.size+1+1:=(by omega);have hp2_2_2:w.heap.size+1+1<w2.heap.size+1+1:=(by omega);have hp2_2_3:gb<w2.heap.size+1+1:=(by omega);have hz2_0:w.heap.size<w2.heap.size:=(by omega);have hz2_1:w.heap.size+1<w2.heap.size:=(by omega);have hz2_2:w.heap.size+1+1<w2.heap.size:=(by omega);obtain ⟨hc2,hf2⟩:=hg2.cells;have HG2:=Lh hg2;clear hg2)))
   all_goals
    go_wp2_with fail
    go_meet
    refine⟨_,rfl,HL.out.next ?_ ?_ ?_⟩
    ·(with_reducible (repeat' (first|exact Gr.refl _ _|refine Gr.drew ?_|refine Gr.setCell ?_ ?_ _|refine Gr.alloc ?_ ?_ _|refine Gr.trans ?_ (Gr.mono HG2.out ?_)|refine Gr.trans ?_ (Gr.mono HG1.out ?_)|omega|(simp;done)|(simp;omega))))
    ·(with_reducible (repeat' (first|(refine VB.new' ?_;exact(by first|omega|(simp;done)|(simp;omega)))|apply VB.put2|apply VB.put3|apply VB.put5|refine VB.drew ?_|refine VB.far ?_ ?_ _|refine VB.alloc ?_ _|refine VB.gr ?_ HG2.out ?_|refine VB.gr ?_ HG1.out ?_|omega|(simp;done)|(simp;omega))))
    ·exact(by first|omega|(simp;done)|(simp;omega))
  case rest=>
   clear n0 n1 n2 g0 g1 hfar hn hg
   obtain ⟨pb,rfl,hl⟩:=hcut
   obtain ⟨n0,n1,n2,_,_,_⟩:=hl.n.three
   obtain ⟨d0,d1,_,_⟩:=hl.d.two
   obtain ⟨g0,g1,_,_⟩:=hl.g.two
   obtain ⟨p0,p1,_,_⟩:=hl.p.two
   have hzc_0:=hl.n.lt
   have hzc_1:=hl.d.lt
   have hzc_2:=hl.o.lt
   have hzc_g:=hl.g.lt
   have hzc_p:=hl.p.lt
   have hn:=hl.n
   have hp:=hl.p
   have HL:=Lh hl
   have HGR:=Lh hl.gr
   have hyc_0:gb<wc.heap.size:=(by omega);have hyc_1:pb<wc.heap.size:=(by omega);(try (have hzc_3:w.heap.size+1+1+1<wc.heap.size:=(by omega)));(try (have hzc_4:w.heap.size+1+1+1+1<wc.heap.size:=(by omega)));(try (have hzc_5:w.heap.size+1+1+1+1+1<wc.heap.size:=(by omega)));have hpc_1_0:w.heap.size<wc.heap.size+1:=(by omega);have hpc_1_1:w.heap.size+1<wc.heap.size+1:=(by omega);have hpc_1_2:w.heap.size+1+1<wc.heap.size+1:=(by omega);have hpc_1_3:gb<wc.heap.size+1:=(by omega);have hpc_1_4:pb<wc.heap.size+1:=(by omega);have hpc_2_0:w.heap.size<wc.heap.size+1+1:=(by omega);have hpc_2_1:w.heap.size+1<wc.heap.size+1+1:=(by omega);have hpc_2_2:w.heap.size+1+1<wc.heap.size+1+1:=(by omega);have hpc_2_3:gb<wc.heap.size+1+1:=(by omega);have hpc_2_4:pb<wc.heap.size+1+1:=(by omega);have hzc_0:w.heap.size<wc.heap.size:=(by omega);have hzc_1:w.heap.size+1<wc.heap.size:=(by omega);have hzc_2:w.heap.size+1+1<wc.heap.size:=(by omega)
   clear hl
   have hfar:=HL.out.far
   have hfar2:=HL.out.far2
   go_wp2_with fail
   (refine(hQ.out _).mono ?_;rintro e w1 ⟨rfl,hg1⟩;(try (with_reducible replace hg1:=Gr.of_drew hg1));have hsz1:=hg1.size;(try simp at hsz1);have hy1_0:gb<w1.heap.size:=(by omega);have hy1_1:pb<w1.heap.size:=(by omega);(try (have hz1_3:w.heap.size+1+1+1<w1.heap.size:=(by omega)));(try (have hz1_4:w.heap.size+1+1+1+1<w1.heap.size:=(by omega)));(try (have hz1_5:w.heap.size+1+1+1+1+1<w1.heap.size:=(by omega)));have hp1_1_0:w.heap.size<w1.heap.size+1:=(by omega);have hp1_1_1:w.heap.size+1<w1.heap.size+1:=(by omega);have hp1_1_2:w.heap.size+1+1<w1.heap.size+1:=(by omega);have hp1_1_3:gb<w1.heap.size+1:=(by omega);have hp1_1_4:pb<w1.heap.size+1:=(by omega);have hp1_2_0:w.heap.size<w1.heap.size+1+1:=(by omega);have hp1_2_1:w.heap.size+1<w1.heap.size+1+1:=(by omega);have hp1_2_2:w.heap.size+1+1<w1.heap.size+1+1:=(by omega);have hp1_2_3:gb<w1.heap.size+1+1:=(by omega);have hp1_2_4:pb<w1.heap.size+1+1:=(by omega);have hz1_0:w.heap.size<w1.heap.size:=(by omega);have hz1_1:w.heap.size+1<w1.heap.size:=(by omega);have hz1_2:w.heap.size+1+1<w1.heap.size:=(by omega);obtain ⟨hc1,hf1⟩:=hg1.cells;have HG1:=Lh hg1;clear hg1)
   go_wp2_with fail
   clear d0 d1 g0 g1
   have hne1:w.heap.size≠w1.heap.size:=by omega
   have hne2:pb≠w1.heap.size:=by omega
   have hne3:w.heap.size+1+1≠w1.heap.size:=by omega
   have hls:LowP w ((w1.alloc (.cells #[.int .u64 (lowN q),.string (bigS q)] 53)).alloc (.cells #[.int .u64 (lowN q'),.string (bigS q')] 53)) n d w1.heap.size pb q p:=by
    refine HL.out.turn ?_ ?_ ?_
    ·(with_reducible (repeat' (first|exact Gr.refl _ _|refine Gr.drew ?_|refine Gr.setCell ?_ ?_ _|refine Gr.alloc ?_ ?_ _|refine Gr.trans ?_ (Gr.mono HG1.out ?_)|omega|(simp;done)|(simp;omega))))
    ·(with_reducible (repeat' (first|(refine VB.new' ?_;exact(by first|omega|(simp;done)|(simp;omega)))|apply VB.put2|apply VB.put3|apply VB.put5|refine VB.drew ?_|refine VB.far ?_ ?_ _|refine VB.alloc ?_ _|refine VB.gr ?_ HG1.out ?_|omega|(simp;done)|(simp;omega))))
    ·exact(by first|omega|(simp;done)|(simp;omega))
   have HLS:=Lh hls
   clear hls
   go_upto_region 5 with fail
   go_cut [9] (fun v wx=>v= .pointer (some ⟨w1.heap.size,0,none⟩)∧LowP w wx n d w1.heap.size pb rd p)
   case first=>
    go_region_with (first|((go_at_call 106;refine(hO.out _).mono ?_;rintro e w2 ⟨rfl,hg2⟩;(try (with_reducible replace hg2:=Gr.of_drew hg2));have hsz2:=hg2.size;(try simp at hsz2);have hy2_0:w1.heap.size<w2.heap.size:=(by omega);have hy2_1:pb<w2.heap.size:=(by omega);(try (have hz2_3:w.heap.size+1+1+1<w2.heap.size:=(by omega)));(try (have hz2_4:w.heap.size+1+1+1+1<w2.heap.size:=(by omega)));(try (have hz2_5:w.heap.size+1+1+1+1+1<w2.heap.size:=(by omega)));have hp2_1_0:w.heap.size<w2.heap.size+1:=(by omega);have hp2_1_1:w.heap.size+1<w2.heap.size+1:=(by omega);have hp2_1_2:w.heap.size+1+1<w2.heap.size+1:=(by omega);have hp2_1_3:w1.heap.size<w2.heap.size+1:=(by omega);have hp2_1_4:pb<w2.heap.size+1:=(by omega);have hp2_2_0:w.heap.size<w2.heap.size+1+1:=(by omega);have hp2_2_1:w.heap.size+1<w2.heap.size+1+1:=(by omega);have hp2_2_2:w.heap.size+1+1<w2.heap.size+1+1:=(by omega);have hp2_2_3:w1.heap.size<w2.heap.size+1+1:=(by omega);have hp2_2_4:pb<w2.heap.size+1+1:=(by omega);have hz2_0:w.heap.size<w2.heap.size:=(by omega);have hz2_1:w.heap.size+1<w2.heap.size:=(by omega);have hz2_2:w.heap.size+1+1<w2.heap.size:=(by omega);obtain ⟨hc2,hf2⟩:=hg2.cells;have HG2:=Lh hg2;clear hg2))|((go_at_call 120;refine(hS.out _).mono ?_;rintro e w3 ⟨rfl,hg3⟩;(try (with_reducible replace hg3:=Gr.of_drew hg3));have hsz3:=hg3.size;(try simp at hsz3);have hy3_0:w1.heap.size<w3.heap.size:=(by omega);have hy3_1:pb<w3.heap.size:=(by omega);(try (have hz3_3:w.heap.size+1+1+1<w3.heap.size:=(by omega)));(try (have hz3_4:w.heap.size+1+1+1+1<w3.heap.size:=(by omega)));(try (have hz3_5:w.heap.size+1+1+1+1+1<w3.heap.size:=(by omega)));have hp3_1_0:w.heap.size<w3.heap.size+1:=(by omega);have hp3_1_1:w.heap.size+1<w3.heap.size+1:=(by omega);have hp3_1_2:w.heap.size+1+1<w3.heap.size+1:=(by omega);have hp3_1_3:w1.heap.size<w3.heap.size+1:=(by omega);have hp3_1_4:pb<w3.heap.size+1:=(by omega);have hp3_2_0:w.heap.size<w3.heap.size+1+1:=(by omega);have hp3_2_1:w.heap.size+1<w3.heap.size+1+1:=(by omega);have hp3_2_2:w.heap.size+1+1<w3.heap.size+1+1:=(by omega);have hp3_2_3:w1.heap.size<w3.heap.size+1+1:=(by omega);have hp3_2_4:pb<w3.heap.size+1+1:=(by omega);have hz3_0:w.heap.size<w3.heap.size:=(by omega);have hz3_1:w.heap.size+1<w3.heap.size:=(by omega);have hz3_2:w.heap.size+1+1<w3.heap.size:=(by omega);obtain ⟨hc3,hf3⟩:=hg3.cells;have HG3:=Lh hg3;clear hg3)))
    all_goals
     go_wp2_with fail
     go_meet
     refine⟨rfl,?_⟩
     first
      | exact LowP.put HLS.out (by(with_reducible (repeat' (first|exact Gr.refl _ _|refine Gr.drew ?_|refine Gr.setCell ?_ ?_ _|refine Gr.alloc ?_ ?_ _|refine Gr.trans ?_ (Gr.mono HG3.out ?_)|refine Gr.trans ?_ (Gr.mono HG2.out ?_)|omega|(simp;done)|(simp;omega))))) hne2 rd
      | exact(LowP.put HLS.out (by(with_reducible (repeat' (first|exact Gr.refl _ _|refine Gr.drew ?_|refine Gr.setCell ?_ ?_ _|refine Gr.alloc ?_ ?_ _|refine Gr.trans ?_ (Gr.mono HG3.out ?_)|refine Gr.trans ?_ (Gr.mono HG2.out ?_)|omega|(simp;done)|(simp;omega))))) hne2 rd).drew
   case rest=>
    clear n0 n1 n2 p0 p1 hn hp HGR HL HLS hc1 hf1
    obtain ⟨rfl,hl⟩:=hcut
    obtain ⟨n0,n1,n2,_,_,_⟩:=hl.n.three
    obtain ⟨q0,q1,_,_⟩:=hl.g.two
    obtain ⟨p0,p1,_,_⟩:=hl.p.two
    obtain ⟨o0,o1,o2,o3,o4,of0,of1,of2,of3,of4⟩:=hl.o.five
    generalize w1.heap.size=qb at *
    have hzc_0:=hl.n.lt
    have hzc_1:=hl.d.lt
    have hzc_2:=hl.o.lt
    have hzc_q:=hl.g.lt
    have hzc_p:=hl.p.lt
    have HL:=Lh hl
    have HGR:=Lh hl.gr
    have ho:=hl.o
    clear hl
    go_wp2_with fail
    go_region_held3 (fun w'=>w'.cell? ⟨w.heap.size,0,none⟩=some (.int .u64 (lowN (sz n)))∧w'.cell? ⟨w.heap.size,1,none⟩=some (.string (bigS (sz n)))∧w'.cell? ⟨w.heap.size,2,none⟩=some (.bool (ng n))∧w'.cell? ⟨qb,0,none⟩=some (.int .u64 (lowN rd))∧w'.cell? ⟨qb,1,none⟩=some (.string (bigS rd))∧w'.cell? ⟨pb,0,none⟩=some (.int .u64 (lowN p))∧w'.cell? ⟨pb,1,none⟩=some (.string (bigS p)))
     (first|(simp [go_sem, *];done))
     (first|((go_at_call 121;refine(hI.out _).mono ?_;rintro e w4 ⟨rfl,hg4⟩;(try (with_reducible replace hg4:=Gr.of_drew hg4));have hsz4:=hg4.size;(try simp at hsz4);have hy4_0:qb<w4.heap.size:=(by omega);have hy4_1:pb<w4.heap.size:=(by omega);(try (have hz4_3:w.heap.size+1+1+1<w4.heap.size:=(by omega)));(try (have hz4_4:w.heap.size+1+1+1+1<w4.heap.size:=(by omega)));(try (have hz4_5:w.heap.size+1+1+1+1+1<w4.heap.size:=(by omega)));have hp4_1_0:w.heap.size<w4.heap.size+1:=(by omega);have hp4_1_1:w.heap.size+1<w4.heap.size+1:=(by omega);have hp4_1_2:w.heap.size+1+1<w4.heap.size+1:=(by omega);have hp4_1_3:qb<w4.heap.size+1:=(by omega);have hp4_1_4:pb<w4.heap.size+1:=(by omega);have hp4_2_0:w.heap.size<w4.heap.size+1+1:=(by omega);have hp4_2_1:w.heap.size+1<w4.heap.size+1+1:=(by omega);have hp4_2_2:w.heap.size+1+1<w4.heap.size+1+1:=(by omega);have hp4_2_3:qb<w4.heap.size+1+1:=(by omega);have hp4_2_4:pb<w4.heap.size+1+1:=(by omega);have hz4_0:w.heap.size<w4.heap.size:=(by omega);have hz4_1:w.heap.size+1<w4.heap.size:=(by omega);have hz4_2:w.heap.size+1+1<w4.heap.size:=(by omega);obtain ⟨hc4,hf4⟩:=hg4.cells;have HG4:=Lh hg4;clear hg4))|((go_at_call 105;refine(hF.out _).mono ?_;rintro e w5 ⟨rfl,hg5⟩;(try (with_reducible replace hg5:=Gr.of_drew hg5));have hsz5:=hg5.size;(try simp at hsz5);have hy5_0:qb<w5.heap.size:=(by omega);have hy5_1:pb<w5.heap.size:=(by omega);(try (have hz5_3:w.heap.size+1+1+1<w5.heap.size:=(by omega)));(try (have hz5_4:w.heap.size+1+1+1+1<w5.heap.size:=(by omega)));(try (have hz5_5:w.heap.size+1+1+1+1+1<w5.heap.size:=(by omega)));have hp5_1_0:w.heap.size<w5.heap.size+1:=(by omega);have hp5_1_1:w.heap.size+1<w5.heap.size+1:=(by omega);have hp5_1_2:w.heap.size+1+1<w5.heap.size+1:=(by omega);have hp5_1_3:qb<w5.heap.size+1:=(by omega);have hp5_1_4:pb<w5.heap.size+1:=(by omega);have hp5_2_0:w.heap.size<w5.heap.size+1+1:=(by omega);have hp5_2_1:w.heap.size+1<w5.heap.size+1+1:=(by omega);have hp5_2_2:w.heap.size+1+1<w5.heap.size+1+1:=(by omega);have hp5_2_3:qb<w5.heap.size+1+1:=(by omega);have hp5_2_4:pb<w5.heap.size+1+1:=(by omega);have hz5_0:w.heap.size<w5.heap.size:=(by omega);have hz5_1:w.heap.size+1<w5.heap.size:=(by omega);have hz5_2:w.heap.size+1+1<w5.heap.size:=(by omega);obtain ⟨hc5,hf5⟩:=hg5.cells;have HG5:=Lh hg5;clear hg5)))
    go_wp2
    refine ret_row (g:=w.heap.size+1+1) Tryz.results80 rfl (VB.set (cs:= [.int .u64 0,.string ⟨#[]⟩,.bool false,.int .u64 0,.string ⟨#[]⟩]) ?_ (frC rn rd) rfl) Tryz.underlying59 rfl info_Frac rfl ⟨rfl,?_⟩
    ·(with_reducible (repeat' (first|(refine VB.new' ?_;exact(by first|omega|(simp;done)|(simp;omega)))|apply VB.put2|apply VB.put3|apply VB.put5|refine VB.drew ?_|refine VB.far ?_ ?_ _|refine VB.alloc ?_ _|exact ho|refine VB.gr ?_ HG5.out ?_|refine VB.gr ?_ HG4.out ?_|omega|(simp;done)|(simp;omega))))
    ·(with_reducible (repeat' (first|exact Gr.refl _ _|refine Gr.drew ?_|refine Gr.setCell ?_ ?_ _|refine Gr.alloc ?_ ?_ _|refine Gr.trans ?_ (Gr.mono HG5.out ?_)|refine Gr.trans ?_ (Gr.mono HG4.out ?_)|refine Gr.trans ?_ (Gr.mono HGR.out ?_)|omega|(simp;done)|(simp;omega))))
end Go.Proofs.YtfgmdhjmgdccdaaGreat
