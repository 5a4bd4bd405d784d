/-
  Part 38 of the proof: FluE.
-/
import Derived.Test.YtfgmdhjmgdccdaaGreatJ35
import Derived.Test.YtfgmdhjmgdccdaaGreatJ36
import Derived.Test.YtfgmdhjmgdccdaaGreatJ33
set_option linter.unusedSimpArgs false
set_option linter.unusedVariables false
set_option maxHeartbeats 8000000
namespace Go.Proofs.YtfgmdhjmgdccdaaGreat
open Go.RowKit Gus Go.Maps
theorem info_PP:(Tryz.prog.info? 47).map (·.size)=some 2:=by kernel_rfl
theorem run_idxB (vx vy:Nat→Value) {n:Nat} (hn:n<3) (w:World):(Instr.index 151 (.agg #[vx 0,vy 0,vx 1,vy 1,vx 2,vy 2]) (.int .i64 (n:Int))).run Tryz.prog w= .ok (.agg #[vx n,vy n]) w:=by
 have hu:Tryz.prog.underlying 151=some (.array 3 47):=by kernel_rfl
 have hu2:Tryz.prog.underlying 47=some (.array 2 46):=by kernel_rfl
 have hs1:Tryz.t47.size=2:=by kernel_rfl
 rcases(show n=0∨n=1∨n=2 by omega)with rfl|rfl|rfl
 all_goals
  show _=_
  simp [Instr.index,run_underlying hu,run_underlying hu2,Go.part,Go.isAgg,hs1,asIntOf]
set_option maxRecDepth 20000 in
theorem field_raw (x:Nat→Part) (V:List Rat) (sr ou:Nat→Rat) (bx by_ sx sy ax ay:Nat→List T) (j gv cv:Nat) (vp vt vs:Value) (w:World) (hV:SR qC 5 59 w 0 (.slice (some ⟨gv,0,none⟩) V.length cv) V) (hx:∀k,k<3→(x k).1<V.length) (hax:ax 0= []) (hay:ay 0= []) (hB:∀W,Gr w.heap.size w W→Calls Tryz.prog 76 #[.agg #[vp,vt,vs],.int .i64 (j:Int)] W (fun e w'=> ∃x0 y0 x1 y1 x2 y2:Value,e= .returned (.agg #[x0,y0,x1,y1,x2,y2])∧PL w' W.heap.size x0 (bx 0)∧PL w' W.heap.size y0 (by_ 0)∧PL w' W.heap.size x1 (bx 1)∧PL w' W.heap.size y1 (by_ 1)∧PL w' W.heap.size x2 (bx 2)∧PL w' W.heap.size y2 (by_ 2)∧Gr W.heap.size W w')) (hI:∀k,k<3→∀W,Calls Tryz.prog 28 #[.int .i64 (x k).2] W (Ret W (fracV (sr k)))) (hM:∀k q,k<3→V[(x k).1]? =some q→∀W,Calls Tryz.prog 37 #[fracV (sr k),fracV q] W (Ret W (fracV (ou k)))) (hSX:∀k,k<3→∀v W,PL W 0 v (bx k)→Calls Tryz.prog 17 #[v,fracV (ou k)] W (RetP W (sx k))) (hAX:∀k,k<3→∀v u W,PL W 0 v (ax k)→PL W 0 u (sx k)→Calls Tryz.prog 13 #[v,u] W (RetP W (ax (k+1)))) (hSY:∀k,k<3→∀v W,PL W 0 v (by_ k)→Calls Tryz.prog 17 #[v,fracV (ou k)] W (RetP W (sy k))) (hAY:∀k,k<3→∀v u W,PL W 0 v (ay k)→PL W 0 u (sy k)→Calls Tryz.prog 13 #[v,u] W (RetP W (ay (k+1)))):
  Calls Tryz.prog 33 #[.agg #[vp,vt,vs,.slice (some ⟨gv,0,none⟩) V.length cv],.agg #[.int .i64 ((x 0).1:Int),.int .i64 ((x 0).2),.int .i64 ((x 1).1:Int),.int .i64 ((x 1).2),.int .i64 ((x 2).1:Int),.int .i64 ((x 2).2)],.int .i64 (j:Int)] w (fun e w'=> ∃u v:Value,e= .returned (.agg #[u,v])∧PL w' w.heap.size u (ax 3)∧PL w' w.heap.size v (ay 3)∧Gr w.heap.size w w'):=by
 have HB:=Lh hB
 have HI:=Lh hI
 have HM:=Lh hM
 have HSX:=Lh hSX
 have HAX:=Lh hAX
 have HSY:=Lh hSY
 have HAY:=Lh hAY
 clear hB hI hM hSX hAX hSY hAY
 have HV:=Lh hV
 have HX:=Lh hx
 have HAX0:=Lh hax
 have HAY0:=Lh hay
 have hgv:=(SR.own_lt hV (g:=gv) rfl).2
 clear hV hx hax hay
 go_enter Tryz.func33,Tryz.ntmps33
 go_wp2_with fail
 refine(HB.out _ (by exact gzz)).mono ?_
 rintro e w1 ⟨x0,y0,x1,y1,x2,y2,rfl,p0,p1,p2,p3,p4,p5,hg1⟩
 have hsz1:=hg1.size
 (try simp at hsz1)
 have HF1:=Lh ((show VB (((w.alloc (.cells #[vp,vt,vs,.slice (some ⟨gv,0,none⟩) V.length cv] 39)).alloc (.cells #[.int .i64 ((x 0).1:Int),.int .i64 ((x 0).2),.int .i64 ((x 1).1:Int),.int .i64 ((x 1).2),.int .i64 ((x 2).1:Int),.int .i64 ((x 2).2)] 99)).alloc (.cells #[.slice none 0 0,.slice none 0 0] 47)) w.heap.size [vp,vt,vs,.slice (some ⟨gv,0,none⟩) V.length cv]from by exact vbb).gr hg1 (by first|omega|(simp;done)|(simp;omega)))
 have HP1:=Lh ((show VB (((w.alloc (.cells #[vp,vt,vs,.slice (some ⟨gv,0,none⟩) V.length cv] 39)).alloc (.cells #[.int .i64 ((x 0).1:Int),.int .i64 ((x 0).2),.int .i64 ((x 1).1:Int),.int .i64 ((x 1).2),.int .i64 ((x 2).1:Int),.int .i64 ((x 2).2)] 99)).alloc (.cells #[.slice none 0 0,.slice none 0 0] 47)) (w.heap.size+1) (p3C x)from(show VB (((w.alloc (.cells #[vp,vt,vs,.slice (some ⟨gv,0,none⟩) V.length cv] 39)).alloc (.cells #[.int .i64 ((x 0).1:Int),.int .i64 ((x 0).2),.int .i64 ((x 1).1:Int),.int .i64 ((x 1).2),.int .i64 ((x 2).1:Int),.int .i64 ((x 2).2)] 99)).alloc (.cells #[.slice none 0 0,.slice none 0 0] 47)) (w.heap.size+1) [.int .i64 ((x 0).1:Int),.int .i64 ((x 0).2),.int .i64 ((x 1).1:Int),.int .i64 ((x 1).2),.int .i64 ((x 2).1:Int),.int .i64 ((x 2).2)]from by exact vbb)).gr hg1 (by first|omega|(simp;done)|(simp;omega)))
 have HR1:=Lh ((show VB (((w.alloc (.cells #[vp,vt,vs,.slice (some ⟨gv,0,none⟩) V.length cv] 39)).alloc (.cells #[.int .i64 ((x 0).1:Int),.int .i64 ((x 0).2),.int .i64 ((x 1).1:Int),.int .i64 ((x 1).2),.int .i64 ((x 2).1:Int),.int .i64 ((x 2).2)] 99)).alloc (.cells #[.slice none 0 0,.slice none 0 0] 47)) (w.heap.size+1+1) [.slice none 0 0,.slice none 0 0]from by exact vbb).gr hg1 (by first|omega|(simp;done)|(simp;omega)))
 have HG1:=Lh (show Gr w.heap.size w w1 from(show Gr w.heap.size w (((w.alloc (.cells #[vp,vt,vs,.slice (some ⟨gv,0,none⟩) V.length cv] 39)).alloc (.cells #[.int .i64 ((x 0).1:Int),.int .i64 ((x 0).2),.int .i64 ((x 1).1:Int),.int .i64 ((x 1).2),.int .i64 ((x 2).1:Int),.int .i64 ((x 2).2)] 99)).alloc (.cells #[.slice none 0 0,.slice none 0 0] 47))from by exact gzz).trans (hg1.mono (by first|omega|(simp;done)|(simp;omega))))
 have HVX:=Lh (show ∃f:Nat→Value,f 0=x0∧f 1=x1∧f 2=x2 from⟨fun n=>if n=0 then x0 else if n=1 then x1 else x2,rfl,rfl,rfl⟩)
 have HVY:=Lh (show ∃f:Nat→Value,f 0=y0∧f 1=y1∧f 2=y2 from⟨fun n=>if n=0 then y0 else if n=1 then y1 else y2,rfl,rfl,rfl⟩)
 obtain ⟨vx,rfl,rfl,rfl⟩:=HVX.out
 obtain ⟨vy,rfl,rfl,rfl⟩:=HVY.out
 have HPB1:=Lh (show ∀n,n<3→PL w1 (w.heap.size+1+1+1) (vx n) (bx n)∧PL w1 (w.heap.size+1+1+1) (vy n) (by_ n)from fun n hn=>by
  (try simp at p0 p1 p2 p3 p4 p5)
  rcases(show n=0∨n=1∨n=2 by omega)with rfl|rfl|rfl
  ·exact⟨p0,p1⟩
  ·exact⟨p2,p3⟩
  ·exact⟨p4,p5⟩)
 clear p0 p1 p2 p3 p4 p5 hg1 HB HVX HVY
 have hs1:w.heap.size+1+1+1≤w1.heap.size:=by omega
 clear hsz1
 go_wp2_with fail
 go_loopw [14] (fun s wr=> ∃(k:Nat) (gx gy:Value),k≤3∧s= .int .i64 k∧Hid (VB wr (w.heap.size+1+1) [gx,gy])∧Hid (PL wr (w.heap.size+1+1+1) gx (ax k)∧PL wr (w.heap.size+1+1+1) gy (ay k))∧Hid (VB wr w.heap.size [vp,vt,vs,.slice (some ⟨gv,0,none⟩) V.length cv])∧Hid (VB wr (w.heap.size+1) (p3C x))∧Hid (∀n,n<3→PL wr (w.heap.size+1+1+1) (vx n) (bx n)∧PL wr (w.heap.size+1+1+1) (vy n) (by_ n))∧Hid (Gr w.heap.size w wr)∧w.heap.size+1+1+1≤wr.heap.size) (fun s _=>3 - (intOf s).toNat)
 case atStart=>exact⟨0,_,_,by omega,rfl,HR1,Lh ⟨by rw [HAX0.out];exact SL.nil,by rw [HAY0.out];exact SL.nil⟩,HF1,HP1,HPB1,HG1,hs1⟩
 case round=>
  clear HR1 HF1 HP1 HPB1 HG1 hs1
  obtain ⟨k,gx,gy,hk,rfl,HR,HA,HF,HP,HPB,HG,hsr⟩:=hrel
  by_cases hk3:k<3
  ·have q0:(k:Int)<3:=by omega
   have hIX:=run_idxB vx vy hk3
   obtain ⟨av,cx,ex⟩:=(HPB.out k hk3).1.at
   obtain ⟨aw,cy,ey⟩:=(HPB.out k hk3).2.at
   rw [ex,ey]at hIX
   obtain ⟨e,he⟩:∃q,(x k).1=q:=⟨_,rfl⟩
   obtain ⟨s,hs⟩:∃q,(x k).2=q:=⟨_,rfl⟩
   have hel:e<V.length:=he ▸ HX.out k hk3
   obtain ⟨q,hq⟩:∃q,V[e]=q:=⟨_,rfl⟩
   have hqi:(e:Int)<(V.length:Int):=by omega
   have H1:=Lh (hs ▸ HI.out k hk3)
   have H2:=Lh (HM.out k q hk3 (by rw [he,List.getElem?_eq_getElem hel,hq]))
   have H3:=Lh (HSX.out k hk3)
   have H4:=Lh (HAX.out k hk3)
   have H5:=Lh (HSY.out k hk3)
   have H6:=Lh (HAY.out k hk3)
   have HPK:=Lh (HPB.out k hk3)
   rw [ex,ey]at HPK
   have HE8:=Lh (And.intro ex ey)
   clear ex ey
   have HES:=Lh (And.intro he hs)
   clear he hs
   obtain ⟨oo,hoo⟩:∃r,ou k=r:=⟨_,rfl⟩
   rw [hoo]at H2 H3 H5
   obtain ⟨s9,hs9⟩:∃r,sr k=r:=⟨_,rfl⟩
   rw [hs9]at H1 H2
   obtain ⟨A1,hA1⟩:∃r,ax (k+1)=r:=⟨_,rfl⟩
   obtain ⟨A2,hA2⟩:∃r,ay (k+1)=r:=⟨_,rfl⟩
   rw [hA1]at H4
   rw [hA2]at H6
   replace hA1:=Lh hA1
   replace hA2:=Lh hA2
   clear hoo hs9
   obtain ⟨g',cap',e4,_,_,_,hsh,hRV⟩:=HV.out.block (by intro e9;rw [e9]at hel;simp at hel)
   cases e4
   have hgl:=hsh.lt
   have HRV:=Lh hRV
   have HQ:=Lh hq
   clear hsh hRV
   have hgr:gv<wr.heap.size:=by have:=HG.out.size;omega
   clear hq
   go_upto_region 4 with fail
   have HB3:=Lh (show VB (wr.alloc (.cells #[.slice av (bx k).length cx,.slice aw (by_ k).length cy] 47)) wr.heap.size [.slice av (bx k).length cx,.slice aw (by_ k).length cy]from by exact vbb)
   have HR3:=Lh (show VB (wr.alloc (.cells #[.slice av (bx k).length cx,.slice aw (by_ k).length cy] 47)) (w.heap.size+1+1) [gx,gy]from HR.out.alloc _)
   have HF3:=Lh (show VB (wr.alloc (.cells #[.slice av (bx k).length cx,.slice aw (by_ k).length cy] 47)) (w.heap.size) [vp,vt,vs,.slice (some ⟨gv,0,none⟩) V.length cv]from HF.out.alloc _)
   have HP3:=Lh (show VB (wr.alloc (.cells #[.slice av (bx k).length cx,.slice aw (by_ k).length cy] 47)) (w.heap.size+1) (p3C x)from HP.out.alloc _)
   have HG3:=Lh (show Gr wr.heap.size wr (wr.alloc (.cells #[.slice av (bx k).length cx,.slice aw (by_ k).length cy] 47))from by exact gzz)
   have hz3:(wr.alloc (.cells #[.slice av (bx k).length cx,.slice aw (by_ k).length cy] 47)).heap.size=wr.heap.size+1:=by simp
   generalize (wr.alloc (.cells #[.slice av (bx k).length cx,.slice aw (by_ k).length cy] 47))=w3 at *
   have z0:=HP3.out.c _ _ (p3C_g0 x hk3)
   have z1:=HP3.out.c _ _ (p3C_g1 x hk3)
   rw [HES.out.1]at z0
   rw [HES.out.2]at z1
   have z2:=HF3.out.c 3 _ rfl
   obtain ⟨a3,a4,a5,a6,a7⟩:=(HRV.out.gr (HG.out.trans (HG3.out.mono (by have:=HG.out.size;omega))) hgl).fQ hel HQ.out
   obtain ⟨kb,hkb⟩:∃r,wr.heap.size=r:=⟨_,rfl⟩
   rw [hkb]at HB3 ⊢
   clear hIX HE8
   have h0k:w.heap.size+1+1<kb:=by omega
   have hgk:gv<kb:=by omega
   have hk8:kb<w3.heap.size:=by omega
   have h08:w.heap.size+1+1<w3.heap.size:=by omega
   have h18:gv<w3.heap.size:=by omega
   clear hz3
   go_cut [9] (fun s9 wx=> ∃g9:Nat,s9= .pointer (some ⟨g9,0,none⟩)∧VB wx g9 [.int .u64 (lowN (sz oo.num)),.string (bigS (sz oo.num)),.bool (ng oo.num),.int .u64 (lowN (fm oo)),.string (bigS (fm oo))]∧w3.heap.size≤g9∧Gr w3.heap.size w3 wx)
   case first=>
    have h1a:w.heap.size+1<kb:=by omega
    have h1b:w.heap.size<kb:=by omega
    have h1c:w.heap.size+1<w3.heap.size:=by omega
    have h1d:w.heap.size<w3.heap.size:=by omega
    refine wp_region_held_drew (S:=(fun w'=>w'.cell? ⟨w.heap.size+1,k*2,none⟩=some (.int .i64 (e:Int))∧w'.cell? ⟨w.heap.size+1,k*2+1,none⟩=some (.int .i64 s)∧w'.cell? ⟨w.heap.size,3,none⟩=some (.slice (some ⟨gv,0,none⟩) V.length cv)∧w'.cell? ⟨gv,e*5,none⟩=some (.int .u64 (lowN (sz q.num)))∧w'.cell? ⟨gv,e*5+1,none⟩=some (.string (bigS (sz q.num)))∧w'.cell? ⟨gv,e*5+2,none⟩=some (.bool (ng q.num))∧w'.cell? ⟨gv,e*5+3,none⟩=some (.int .u64 (lowN (fm q)))∧w'.cell? ⟨gv,e*5+4,none⟩=some (.string (bigS (fm q))))) (by kernel_rfl) ?_ (fun hHeld=>?_)
    ·simp [go_sem, *]
    refine tq 0 18 (.int .i64 (k:Int)) ?_
    refine tq 1 19 (.pointer (some ⟨w.heap.size+1,k*2,none⟩)) ?_
    refine tq 2 20 (.pointer (some ⟨w.heap.size+1,k*2+1,none⟩)) ?_
    refine tq 3 21 (.int .i64 s) ?_
    refine tq 5 23 (.pointer (some ⟨w.heap.size,3,none⟩)) ?_
    refine tq 6 24 (.slice (some ⟨gv,0,none⟩) V.length cv) ?_
    refine tq 7 25 (.int .i64 (k:Int)) ?_
    refine tq 8 26 (.pointer (some ⟨w.heap.size+1,k*2,none⟩)) ?_
    refine tq 9 27 (.pointer (some ⟨w.heap.size+1,k*2,none⟩)) ?_
    refine tq 10 28 (.int .i64 (e:Int)) ?_
    refine tq 11 29 (.pointer (some ⟨gv,e*5,none⟩)) ?_
    refine tq 12 30 (fracV q) ?_
    refine rdZ 4 14 (fun K hK=>?_) (fun K hK=>?_)
    ·go_simp
     (refine rtt (H1.out _) fun w4 hsz4 hc4 hf4 HG4=>?_;(try simp at hsz4);have hy4_0:kb<w4.heap.size:=(by omega);have hy4_1:gv<w4.heap.size:=(by omega);have hy4_2:w.heap.size+1<w4.heap.size:=(by omega);have hy4_3:w.heap.size<w4.heap.size:=(by omega))
     refine kO hK fun hQ1=>?_
     clear hK K hHeld
     refine rdZ 13 14 (fun K hK=>?_) (fun K hK=>?_)
     ·go_simp
      (refine rtt (H2.out _) fun w5 hsz5 hc5 hf5 HG5=>?_;(try simp at hsz5);have hy5_0:kb<w5.heap.size:=(by omega);have hy5_1:gv<w5.heap.size:=(by omega);have hy5_2:w.heap.size+1<w5.heap.size:=(by omega);have hy5_3:w.heap.size<w5.heap.size:=(by omega))
      refine kO hK fun hQ2=>?_
      clear hK K hQ1
      refine rd 14 (fun K hK=>?_)
      go_simp
      refine kO hK fun hQ3=>?_
      clear hK K hQ2
      refine rd 15 (fun K hK=>?_)
      go_simp
      refine kO hK fun hQ4=>?_
      clear hK K hQ3
      refine wpAnyH_done (by kernel_rfl) ?_ _
      go_wp2_with fail
      go_meet
      refine⟨w5.heap.size,rfl,by(with_reducible (repeat' (first|(refine VB.new' ?_;exact(by first|omega|(simp;done)|(simp;omega)))|apply VB.put2|apply VB.put3|apply VB.put5|refine VB.drew ?_|refine VB.far ?_ ?_ _|refine VB.alloc ?_ _|refine VB.gr ?_ HG5.out ?_|refine VB.gr ?_ HG4.out ?_|omega|(simp;done)|(simp;omega)))),by omega,by(with_reducible (repeat' (first|exact Gr.refl _ _|refine Gr.drew ?_|refine Gr.setCell ?_ ?_ _|refine Gr.alloc ?_ ?_ _|refine Gr.trans ?_ (Gr.mono HG5.out ?_)|refine Gr.trans ?_ (Gr.mono HG4.out ?_)|omega|(simp;done)|(simp;omega))))⟩
     ·go_simp
      refine kO hK fun hQ2=>?_
      clear hK K hQ1
      refine rd 13 (fun K hK=>?_)
      go_simp
      (refine rtt (H2.out _) fun w5 hsz5 hc5 hf5 HG5=>?_;(try simp at hsz5);have hy5_0:kb<w5.heap.size:=(by omega);have hy5_1:gv<w5.heap.size:=(by omega);have hy5_2:w.heap.size+1<w5.heap.size:=(by omega);have hy5_3:w.heap.size<w5.heap.size:=(by omega);have hy5_4:w4.heap.size<w5.heap.size:=(by omega))
      refine kO hK fun hQ3=>?_
      clear hK K hQ2
      refine rd 15 (fun K hK=>?_)
      go_simp
      refine kO hK fun hQ4=>?_
      clear hK K hQ3
      refine wpAnyH_done (by kernel_rfl) ?_ _
      go_wp2_with fail
      go_meet
      refine⟨w4.heap.size,rfl,by(with_reducible (repeat' (first|(refine VB.new' ?_;exact(by first|omega|(simp;done)|(simp;omega)))|apply VB.put2|apply VB.put3|apply VB.put5|refine VB.drew ?_|refine VB.far ?_ ?_ _|refine VB.alloc ?_ _|refine VB.gr ?_ HG5.out ?_|refine VB.gr ?_ HG4.out ?_|omega|(simp;done)|(simp;omega)))),by omega,by(with_reducible (repeat' (first|exact Gr.refl _ _|refine Gr.drew ?_|refine Gr.setCell ?_ ?_ _|refine Gr.alloc ?_ ?_ _|refine Gr.trans ?_ (Gr.mono HG5.out ?_)|refine Gr.trans ?_ (Gr.mono HG4.out ?_)|omega|(simp;done)|(simp;omega))))⟩
    ·go_simp
     refine kO hK fun hQ1=>?_
     clear hK K hHeld
     refine rd 4 (fun K hK=>?_)
     go_simp
     (refine rtt (H1.out _) fun w4 hsz4 hc4 hf4 HG4=>?_;(try simp at hsz4);have hy4_0:kb<w4.heap.size:=(by omega);have hy4_1:gv<w4.heap.size:=(by omega);have hy4_2:w.heap.size+1<w4.heap.size:=(by omega);have hy4_3:w.heap.size<w4.heap.size:=(by omega);have hy4_4:w3.heap.size<w4.heap.size:=(by omega))
     refine kO hK fun hQ2=>?_
     clear hK K hQ1
     refine rd 13 (fun K hK=>?_)
     go_simp
     (refine rtt (H2.out _) fun w5 hsz5 hc5 hf5 HG5=>?_;(try simp at hsz5);have hy5_0:kb<w5.heap.size:=(by omega);have hy5_1:gv<w5.heap.size:=(by omega);have hy5_2:w.heap.size+1<w5.heap.size:=(by omega);have hy5_3:w.heap.size<w5.heap.size:=(by omega);have hy5_4:w3.heap.size<w5.heap.size:=(by omega))
     refine kO hK fun hQ3=>?_
     clear hK K hQ2
     refine rd 15 (fun K hK=>?_)
     go_simp
     refine kO hK fun hQ4=>?_
     clear hK K hQ3
     refine wpAnyH_done (by kernel_rfl) ?_ _
     go_wp2_with fail
     go_meet
     refine⟨w3.heap.size,rfl,by(with_reducible (repeat' (first|(refine VB.new' ?_;exact(by first|omega|(simp;done)|(simp;omega)))|apply VB.put2|apply VB.put3|apply VB.put5|refine VB.drew ?_|refine VB.far ?_ ?_ _|refine VB.alloc ?_ _|refine VB.gr ?_ HG5.out ?_|refine VB.gr ?_ HG4.out ?_|omega|(simp;done)|(simp;omega)))),by omega,by(with_reducible (repeat' (first|exact Gr.refl _ _|refine Gr.drew ?_|refine Gr.setCell ?_ ?_ _|refine Gr.alloc ?_ ?_ _|refine Gr.trans ?_ (Gr.mono HG5.out ?_)|refine Gr.trans ?_ (Gr.mono HG4.out ?_)|omega|(simp;done)|(simp;omega))))⟩
   case rest=>
    obtain ⟨wx,hw9⟩:∃r,r=wc:=⟨_,rfl⟩
    subst hw9
    obtain ⟨g9,rfl,hV9,hg9,hgx⟩:=hcut
    have hszx:=hgx.size
    have HRx:=Lh (HR3.out.gr hgx (by omega))
    have HFx:=Lh (HF3.out.gr hgx (by omega))
    have HPx:=Lh (HP3.out.gr hgx (by omega))
    have HBx:=Lh (HB3.out.gr hgx (by omega))
    have HV9:=Lh hV9
    have HGX:=Lh (show Gr kb wr wx from hkb ▸ HG3.out.trans (hgx.mono (by omega)))
    have hl9:=hV9.lt
    have HAx:=Lh (And.intro (HA.out.1.gr (hkb ▸ HGX.out)) (HA.out.2.gr (hkb ▸ HGX.out)))
    have HPBx:=Lh (show ∀n,n<3→PL wx (w.heap.size+1+1+1) (vx n) (bx n)∧PL wx (w.heap.size+1+1+1) (vy n) (by_ n)from fun n hn=>⟨(HPB.out n hn).1.gr (hkb ▸ HGX.out),(HPB.out n hn).2.gr (hkb ▸ HGX.out)⟩)
    have HPKx:=Lh (And.intro (HPK.out.1.gr (hkb ▸ HGX.out)) (HPK.out.2.gr (hkb ▸ HGX.out)))
    have HG9:=Lh (HG.out.trans (HGX.out.mono (by omega)))
    clear hV9 hgx HR3 HF3 HP3 HB3 HR HF HP HA HPB HPK HG HG3 z0 z1 z2 a3 a4 a5 a6 a7 H1 H2 HGX
    have hk9:kb<wx.heap.size:=by omega
    have h09:w.heap.size+1+1<wx.heap.size:=by omega
    have hne9:g9≠kb:=by omega
    obtain ⟨agx,cgx,rfl⟩:=HAx.out.1.at
    obtain ⟨agy,cgy,rfl⟩:=HAx.out.2.at
    go_upto_region 5 with fail
    have y0:=HRx.out.c 0 _ rfl
    have y1:=HBx.out.c 0 _ rfl
    obtain ⟨v0,v1,v2,v3,v4,-⟩:=HV9.out.five
    refine wp_region_L 8 (S:=(fun w'=>w'.cell? ⟨w.heap.size+1+1,0,none⟩=some (.slice agx (ax k).length cgx)∧w'.cell? ⟨kb,0,none⟩=some (.slice av (bx k).length cx)∧w'.cell? ⟨g9,0,none⟩=some (.int .u64 (lowN (sz oo.num)))∧w'.cell? ⟨g9,1,none⟩=some (.string (bigS (sz oo.num)))∧w'.cell? ⟨g9,2,none⟩=some (.bool (ng oo.num))∧w'.cell? ⟨g9,3,none⟩=some (.int .u64 (lowN (fm oo)))∧w'.cell? ⟨g9,4,none⟩=some (.string (bigS (fm oo))))) (by kernel_rfl) ?_ (fun hHeld=>?_)
    ·simp [go_sem, *]
    refine tkL 0 (some 32) (.pointer (some ⟨w.heap.size+1+1,0,none⟩)) ?_
    try simp only [pS]
    refine tkL 1 (some 33) (.slice agx (ax k).length cgx) ?_
    try simp only [pS]
    refine tkL 2 (some 34) (.pointer (some ⟨kb,0,none⟩)) ?_
    try simp only [pS]
    refine tkL 3 (some 35) (.slice av (bx k).length cx) ?_
    try simp only [pS]
    refine tkL 4 (some 36) (fracV oo) ?_
    try simp only [pS]
    refine rdL 5 (fun K hK=>?_)
    go_simp
    (refine rtp (H3.out _ _ ((HPKx.out.1.mono (Nat.zero_le _)).gr (by exact gzz))) fun w21 v21 HS21 hsz21 hc21 hf21 HG21=>?_;(try simp at hsz21);have hy21_0:kb<w21.heap.size:=(by omega);have hy21_1:g9<w21.heap.size:=(by omega);have hy21_2:w.heap.size+1+1<w21.heap.size:=(by omega))
    refine kO hK fun hQ1=>?_
    clear hK K hHeld
    refine rdL 6 (fun K hK=>?_)
    go_simp
    (refine rtp (H4.out _ _ _ ((HAx.out.1.mono (Nat.zero_le _)).gr (by exact gcc HG21 gzz)) (HS21.out.mono (Nat.zero_le _))) fun w22 v22 HS22 hsz22 hc22 hf22 HG22=>?_;(try simp at hsz22);have hy22_0:kb<w22.heap.size:=(by omega);have hy22_1:g9<w22.heap.size:=(by omega);have hy22_2:w.heap.size+1+1<w22.heap.size:=(by omega))
    refine kO hK fun hQ2=>?_
    clear hK K hQ1
    obtain ⟨a22,c22,rfl⟩:=HS22.out.at
    refine tkL 7 (some 39) (.pointer (some ⟨w.heap.size+1+1,0,none⟩)) ?_
    try simp only [pS]
    have hy0:=HRx.out.c 0 _ rfl
    have hy1:=HRx.out.f 0 (by simp)
    refine rdE 8 (fun K hK=>?_)
    go_simp
    (try dsimp only)
    refine hK.out _ _ ?_
    clear hK K
    try simp only [pS]
    refine AnyL.done (by kernel_rfl) ?_ _
    have HGWp:=Lh (show Gr wx.heap.size wx w22 from by exact gcc HG22 (gcc HG21 gzz))
    have hsp:(w22.setCell ⟨w.heap.size+1+1,0,none⟩ (.slice a22 (A1).length c22)).heap.size=w22.heap.size:=by simp
    have HRp:=Lh (show VB (w22.setCell ⟨w.heap.size+1+1,0,none⟩ (.slice a22 (A1).length c22)) (w.heap.size+1+1) [.slice a22 (A1).length c22,.slice agy (ay k).length cgy]from(HRx.out.gr HGWp.out (by omega)).one 0 _ (by simp))
    have HFp:=Lh (show VB (w22.setCell ⟨w.heap.size+1+1,0,none⟩ (.slice a22 (A1).length c22)) (w.heap.size) [vp,vt,vs,.slice (some ⟨gv,0,none⟩) V.length cv]from(HFx.out.gr HGWp.out (by omega)).far (by first|omega|(simp;done)|(simp;omega)) _)
    have HPp:=Lh (show VB (w22.setCell ⟨w.heap.size+1+1,0,none⟩ (.slice a22 (A1).length c22)) (w.heap.size+1) (p3C x)from(HPx.out.gr HGWp.out (by omega)).far (by first|omega|(simp;done)|(simp;omega)) _)
    have HBp:=Lh (show VB (w22.setCell ⟨w.heap.size+1+1,0,none⟩ (.slice a22 (A1).length c22)) (kb) [.slice av (bx k).length cx,.slice aw (by_ k).length cy]from(HBx.out.gr HGWp.out (by omega)).far (by first|omega|(simp;done)|(simp;omega)) _)
    have HVp:=Lh (show VB (w22.setCell ⟨w.heap.size+1+1,0,none⟩ (.slice a22 (A1).length c22)) (g9) [.int .u64 (lowN (sz oo.num)),.string (bigS (sz oo.num)),.bool (ng oo.num),.int .u64 (lowN (fm oo)),.string (bigS (fm oo))]from(HV9.out.gr HGWp.out (by omega)).far (by first|omega|(simp;done)|(simp;omega)) _)
    have HNp:=Lh (show PL (w22.setCell ⟨w.heap.size+1+1,0,none⟩ (.slice a22 (A1).length c22)) (w.heap.size+1+1+1) (.slice a22 (A1).length c22) (A1)from SL.far (HS22.out.mono (by omega)) (by simp) _)
    have HOp:=Lh (show PL (w22.setCell ⟨w.heap.size+1+1,0,none⟩ (.slice a22 (A1).length c22)) (w.heap.size+1+1+1) (.slice agy (ay k).length cgy) (ay k)from SL.far (HAx.out.2.gr HGWp.out) (by simp) _)
    have HPBp:=Lh (show ∀n,n<3→PL (w22.setCell ⟨w.heap.size+1+1,0,none⟩ (.slice a22 (A1).length c22)) (w.heap.size+1+1+1) (vx n) (bx n)∧PL (w22.setCell ⟨w.heap.size+1+1,0,none⟩ (.slice a22 (A1).length c22)) (w.heap.size+1+1+1) (vy n) (by_ n)from fun n hn=>⟨((HPBx.out n hn).1.gr HGWp.out).far (by simp) _,((HPBx.out n hn).2.gr HGWp.out).far (by simp) _⟩)
    have HGp:=Lh (show Gr w.heap.size w (w22.setCell ⟨w.heap.size+1+1,0,none⟩ (.slice a22 (A1).length c22))from Gr.setCell (HG9.out.trans (HGWp.out.mono (by omega))) (by first|omega|(simp;done)|(simp;omega)) _)
    have HPKp:=Lh (show PL (w22.setCell ⟨w.heap.size+1+1,0,none⟩ (.slice a22 (A1).length c22)) (w.heap.size+1+1+1) (.slice aw (by_ k).length cy) (by_ k)from SL.far (HPKx.out.2.gr HGWp.out) (by simp) _)
    generalize (w22.setCell ⟨w.heap.size+1+1,0,none⟩ (.slice a22 (A1).length c22))=wp at *
    have hkwp:kb<wp.heap.size:=by omega
    have h0wp:w.heap.size+1+1<wp.heap.size:=by omega
    have h9wp:g9<wp.heap.size:=by omega
    clear hy0 hy1 y0 y1 v0 v1 v2 v3 v4 HGWp HG21 hc21 hf21 HS21 hsz21 HG22 hc22 hf22 HS22 hsz22
    clear HRx HFx HPx HBx HV9 HAx HPBx HPKx HG9
    go_upto_region 6 with fail
    have y0:=HRp.out.c 1 _ rfl
    have y1:=HBp.out.c 1 _ rfl
    obtain ⟨v0,v1,v2,v3,v4,-⟩:=HVp.out.five
    refine wp_region_L 8 (S:=(fun w'=>w'.cell? ⟨w.heap.size+1+1,1,none⟩=some (.slice agy (ay k).length cgy)∧w'.cell? ⟨kb,1,none⟩=some (.slice aw (by_ k).length cy)∧w'.cell? ⟨g9,0,none⟩=some (.int .u64 (lowN (sz oo.num)))∧w'.cell? ⟨g9,1,none⟩=some (.string (bigS (sz oo.num)))∧w'.cell? ⟨g9,2,none⟩=some (.bool (ng oo.num))∧w'.cell? ⟨g9,3,none⟩=some (.int .u64 (lowN (fm oo)))∧w'.cell? ⟨g9,4,none⟩=some (.string (bigS (fm oo))))) (by kernel_rfl) ?_ (fun hHeld=>?_)
    ·simp [go_sem, *]
    refine tkL 0 (some 40) (.pointer (some ⟨w.heap.size+1+1,1,none⟩)) ?_
    try simp only [pS]
    refine tkL 1 (some 41) (.slice agy (ay k).length cgy) ?_
    try simp only [pS]
    refine tkL 2 (some 42) (.pointer (some ⟨kb,1,none⟩)) ?_
    try simp only [pS]
    refine tkL 3 (some 43) (.slice aw (by_ k).length cy) ?_
    try simp only [pS]
    refine tkL 4 (some 44) (fracV oo) ?_
    try simp only [pS]
    refine rdL 5 (fun K hK=>?_)
    go_simp
    (refine rtp (H5.out _ _ ((HPKp.out.mono (Nat.zero_le _)).gr (by exact gzz))) fun w31 v31 HS31 hsz31 hc31 hf31 HG31=>?_;(try simp at hsz31);have hy31_0:kb<w31.heap.size:=(by omega);have hy31_1:g9<w31.heap.size:=(by omega);have hy31_2:w.heap.size+1+1<w31.heap.size:=(by omega))
    refine kO hK fun hQ1=>?_
    clear hK K hHeld
    refine rdL 6 (fun K hK=>?_)
    go_simp
    (refine rtp (H6.out _ _ _ ((HOp.out.mono (Nat.zero_le _)).gr (by exact gcc HG31 gzz)) (HS31.out.mono (Nat.zero_le _))) fun w32 v32 HS32 hsz32 hc32 hf32 HG32=>?_;(try simp at hsz32);have hy32_0:kb<w32.heap.size:=(by omega);have hy32_1:g9<w32.heap.size:=(by omega);have hy32_2:w.heap.size+1+1<w32.heap.size:=(by omega))
    refine kO hK fun hQ2=>?_
    clear hK K hQ1
    obtain ⟨a32,c32,rfl⟩:=HS32.out.at
    refine tkL 7 (some 47) (.pointer (some ⟨w.heap.size+1+1,1,none⟩)) ?_
    try simp only [pS]
    have hy0:=HRp.out.c 1 _ rfl
    have hy1:=HRp.out.f 1 (by simp)
    refine rdE 8 (fun K hK=>?_)
    go_simp
    (try dsimp only)
    refine hK.out _ _ ?_
    clear hK K
    try simp only [pS]
    refine AnyL.done (by kernel_rfl) ?_ _
    have HGWq:=Lh (show Gr wp.heap.size wp w32 from by exact gcc HG32 (gcc HG31 gzz))
    have hsq:(w32.setCell ⟨w.heap.size+1+1,1,none⟩ (.slice a32 (A2).length c32)).heap.size=w32.heap.size:=by simp
    have HRq:=Lh (show VB (w32.setCell ⟨w.heap.size+1+1,1,none⟩ (.slice a32 (A2).length c32)) (w.heap.size+1+1) [.slice a22 A1.length c22,.slice a32 (A2).length c32]from(HRp.out.gr HGWq.out (by omega)).one 1 _ (by simp))
    have HFq:=Lh (show VB (w32.setCell ⟨w.heap.size+1+1,1,none⟩ (.slice a32 (A2).length c32)) (w.heap.size) [vp,vt,vs,.slice (some ⟨gv,0,none⟩) V.length cv]from(HFp.out.gr HGWq.out (by omega)).far (by first|omega|(simp;done)|(simp;omega)) _)
    have HPq:=Lh (show VB (w32.setCell ⟨w.heap.size+1+1,1,none⟩ (.slice a32 (A2).length c32)) (w.heap.size+1) (p3C x)from(HPp.out.gr HGWq.out (by omega)).far (by first|omega|(simp;done)|(simp;omega)) _)
    have HBq:=Lh (show VB (w32.setCell ⟨w.heap.size+1+1,1,none⟩ (.slice a32 (A2).length c32)) (kb) [.slice av (bx k).length cx,.slice aw (by_ k).length cy]from(HBp.out.gr HGWq.out (by omega)).far (by first|omega|(simp;done)|(simp;omega)) _)
    have HVq:=Lh (show VB (w32.setCell ⟨w.heap.size+1+1,1,none⟩ (.slice a32 (A2).length c32)) (g9) [.int .u64 (lowN (sz oo.num)),.string (bigS (sz oo.num)),.bool (ng oo.num),.int .u64 (lowN (fm oo)),.string (bigS (fm oo))]from(HVp.out.gr HGWq.out (by omega)).far (by first|omega|(simp;done)|(simp;omega)) _)
    have HNq:=Lh (show PL (w32.setCell ⟨w.heap.size+1+1,1,none⟩ (.slice a32 (A2).length c32)) (w.heap.size+1+1+1) (.slice a32 (A2).length c32) (A2)from SL.far (HS32.out.mono (by omega)) (by simp) _)
    have HOq:=Lh (show PL (w32.setCell ⟨w.heap.size+1+1,1,none⟩ (.slice a32 (A2).length c32)) (w.heap.size+1+1+1) (.slice a22 A1.length c22) (A1)from SL.far (HNp.out.gr HGWq.out) (by simp) _)
    have HPBq:=Lh (show ∀n,n<3→PL (w32.setCell ⟨w.heap.size+1+1,1,none⟩ (.slice a32 (A2).length c32)) (w.heap.size+1+1+1) (vx n) (bx n)∧PL (w32.setCell ⟨w.heap.size+1+1,1,none⟩ (.slice a32 (A2).length c32)) (w.heap.size+1+1+1) (vy n) (by_ n)from fun n hn=>⟨((HPBp.out n hn).1.gr HGWq.out).far (by simp) _,((HPBp.out n hn).2.gr HGWq.out).far (by simp) _⟩)
    have HGq:=Lh (show Gr w.heap.size w (w32.setCell ⟨w.heap.size+1+1,1,none⟩ (.slice a32 (A2).length c32))from Gr.setCell (HGp.out.trans (HGWq.out.mono (by omega))) (by first|omega|(simp;done)|(simp;omega)) _)
    generalize (w32.setCell ⟨w.heap.size+1+1,1,none⟩ (.slice a32 (A2).length c32))=wq at *
    have hkwq:kb<wq.heap.size:=by omega
    have h0wq:w.heap.size+1+1<wq.heap.size:=by omega
    have h9wq:g9<wq.heap.size:=by omega
    clear hy0 hy1 y0 y1 v0 v1 v2 v3 v4 HGWq HG31 hc31 hf31 HS31 hsz31 HG32 hc32 hf32 HS32 hsz32
    have hk1:IntKind.i64.wrap ((k:Int)+1)=(k:Int)+1:=wrap64_id (by omega) (by omega)
    go_wp2
    go_roundw
    case rel=>exact⟨k+1,_,_,by omega,by go_num,HRq,Lh ⟨by rw [hA1.out];exact HOq.out,by rw [hA2.out];exact HNq.out⟩,HFq,HPq,HPBq,HGq,by omega⟩
    case measure=>simp [intOf];omega
  ·have hk33:k=3:=by omega
   subst hk33
   obtain ⟨b1,b2⟩:=HA.out
   obtain ⟨agx,cgx,rfl⟩:=b1.at
   obtain ⟨agy,cgy,rfl⟩:=b2.at
   have c0:=HR.out.c 0 _ rfl
   have c1:=HR.out.c 1 _ rfl
   have e0:=HR.out.f 0 (by simp)
   have e1:=HR.out.f 1 (by simp)
   go_wp2
   have hfs:=fun (u:Value) (l:List T) (h:PL wr (w.heap.size+1+1+1) u l)=>(SL.fars (show w.heap.size+1+1<w.heap.size+1+1+1 by omega) [.slice agx (ax 3).length cgx,.slice agy (ay 3).length cgy] 0 h).mono (show w.heap.size≤w.heap.size+1+1+1 by omega)
   refine ret_row (w:=wr.setCells (w.heap.size+1+1) 0 [.slice agx (ax 3).length cgx,.slice agy (ay 3).length cgy]) (g:=w.heap.size+1+1) Tryz.results33 rfl (VB.set (cs:= [.slice agx (ax 3).length cgx,.slice agy (ay 3).length cgy]) HR.out [.slice agx (ax 3).length cgx,.slice agy (ay 3).length cgy] rfl) Tryz.underlying47 rfl info_PP rfl ⟨_,_,rfl,hfs _ _ b1,hfs _ _ b2,?_⟩
   exact Gr.sets (show w.heap.size≤w.heap.size+1+1 by omega) [.slice agx (ax 3).length cgx,.slice agy (ay 3).length cgy] 0 HG.out
end Go.Proofs.YtfgmdhjmgdccdaaGreat
