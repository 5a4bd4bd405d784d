/-
  Part 48 of the proof: OwR.
-/
import Derived.Test.YtfgmdhjmgdccdaaGreatJ47
set_option linter.unusedSimpArgs false
set_option linter.unusedVariables false
set_option maxHeartbeats 8000000
namespace Go.Proofs.YtfgmdhjmgdccdaaGreat
open Go.RowKit Gus Go.Maps
theorem nd {a b:Nat} {P:Prop} (e:¬a≤b:=by decide):a≤b→P:=fun h=>absurd h e
theorem gd {a b c:Nat} {w w':World} {v:Value} {l:List T} (h:a≤b→PL w 0 v l) (hg:Gr w.heap.size w w') (e:a≤b:=by decide):a≤c→PL w' 0 v l:=fun _=>(h e).gr hg
theorem six {w:World} {g:Nat} {a b c d e f:Value} (h:VB w g [a,b,c,d,e,f]):w.cell? ⟨g,0,none⟩=some a∧w.cell? ⟨g,1,none⟩=some b∧w.cell? ⟨g,2,none⟩=some c∧w.cell? ⟨g,3,none⟩=some d∧w.cell? ⟨g,4,none⟩=some e∧w.cell? ⟨g,5,none⟩=some f:=⟨h.c 0 _ rfl,h.c 1 _ rfl,h.c 2 _ rfl,h.c 3 _ rfl,h.c 4 _ rfl,h.c 5 _ rfl⟩
def firstW:Code→Code
 | .seq a _=>firstW a
 | c=>c
set_option maxRecDepth 20000 in
theorem own_reg {x0 x1 x2 x3 x4 x6 x7 x8 x9 x10 x11 x12 x13 x14 x15 x16 x17 x18 x19 x20 x21 x22 x23 x24 x25 x26 x27 x28 x29 x30 x31 x32 x33 x34 x35 x36 x37 x38 x39 x40 x41 x42 x43 x44 x45 x46 x47 x48 x49 x50 x51 x52 x53 x54 x55 x56 x57 x58 x59 x60 x61 x62 x63 x64 x65 x66 x67 x68 x69 x70 x71 x72 x73 x74 x75 x76 x77 x78 x79 x80 x81 x82 x83 x84 x85 x86 x87 x88 x89 x90 x91 x92 x93 x94 x95 x96 x97 x98 x99 x100 x101 x102 x103 x104 x105 x106 x107 x108 x109 x110 x111 x112 x113 x114 x115 x116 x117 x118 x119 x120 x121 x122 x123 x124 x125 x126 x127 x128 x129 x130 x131 x132 x133 x134 x135 x136 x137 x138 x139 x140 x141 x142 x143 x144 x145 x146 x147 x148 x149 x150 x151 x152 x153 x154 x155 x156:Value} {K:Act→World→Prop} {w w0:World} {bq e0 e1 e2:Nat} {k0 k1 k2:Int} {r0 r1 r2:Rat} {CX CY XL YL SX SY OX OY:List T} (A0:Hid (∀W,Calls Tryz.prog 23 #[.agg #[.int .i64 k0,.int .u32 (e0:Int)]] W (Ret W (fracV r0)))) (A1:Hid (∀W,Calls Tryz.prog 23 #[.agg #[.int .i64 k1,.int .u32 (e1:Int)]] W (Ret W (fracV r1)))) (A2:Hid (∀W,Calls Tryz.prog 23 #[.agg #[.int .i64 k2,.int .u32 (e2:Int)]] W (Ret W (fracV r2)))) (N0:Hid (∀W,Calls Tryz.prog 19 #[fracV r0] W (RetP W CX))) (N1:Hid (∀W,Calls Tryz.prog 19 #[fracV r1] W (RetP W CY))) (X0:Hid (∀W,Calls Tryz.prog 24 #[] W (RetP W XL))) (Y0:Hid (∀W,Calls Tryz.prog 25 #[] W (RetP W YL))) (S0:Hid (∀v W,PL W 0 v XL→Calls Tryz.prog 17 #[v,fracV r2] W (RetP W SX))) (S1:Hid (∀v W,PL W 0 v YL→Calls Tryz.prog 17 #[v,fracV r2] W (RetP W SY))) (B0:Hid (∀v u W,PL W 0 v CX→PL W 0 u SX→Calls Tryz.prog 13 #[v,u] W (RetP W OX))) (B1:Hid (∀v u W,PL W 0 v CY→PL W 0 u SY→Calls Tryz.prog 13 #[v,u] W (RetP W OY))) (hq:VB w0 bq [.int .i64 k0,.int .u32 (e0:Int),.int .i64 k1,.int .u32 (e1:Int),.int .i64 k2,.int .u32 (e2:Int)])
  (hK0:∀(gw:Nat) (b0 b1:Option Addr) (t0 t1:Nat) (z75 z76 z77 z78 z79 z80 z81 z82 z83 z84 z85 z86 z87 z88 z89 z90 z91 z92 z93 z94 z95:Value) (wx:World),VB wx gw [.slice b0 OX.length t0,.slice b1 OY.length t1]→PL wx 0 (.slice b0 OX.length t0) OX→PL wx 0 (.slice b1 OY.length t1) OY→w0.heap.size≤gw→Gr w0.heap.size w0 wx→K {tmps:=(x0 :: x1 :: x2 :: x3 :: x4 :: .pointer (some ⟨bq,0,none⟩) :: x6 :: x7 :: x8 :: x9 :: x10 :: x11 :: x12 :: x13 :: .pointer (some ⟨gw,0,none⟩) :: x15 :: x16 :: x17 :: x18 :: x19 :: x20 :: x21 :: x22 :: x23 :: x24 :: x25 :: x26 :: x27 :: x28 :: x29 :: x30 :: x31 :: x32 :: x33 :: x34 :: x35 :: x36 :: x37 :: x38 :: x39 :: x40 :: x41 :: x42 :: x43 :: x44 :: x45 :: x46 :: x47 :: x48 :: x49 :: x50 :: x51 :: x52 :: x53 :: x54 :: x55 :: x56 :: x57 :: x58 :: x59 :: x60 :: x61 :: x62 :: x63 :: x64 :: x65 :: x66 :: x67 :: x68 :: x69 :: x70 :: x71 :: x72 :: x73 :: x74 :: z75 :: z76 :: z77 :: z78 :: z79 :: z80 :: z81 :: z82 :: z83 :: z84 :: z85 :: z86 :: z87 :: z88 :: z89 :: z90 :: z91 :: z92 :: z93 :: z94 :: z95 :: x96 :: x97 :: x98 :: x99 :: x100 :: x101 :: x102 :: x103 :: x104 :: x105 :: x106 :: x107 :: x108 :: x109 :: x110 :: x111 :: x112 :: x113 :: x114 :: x115 :: x116 :: x117 :: x118 :: x119 :: x120 :: x121 :: x122 :: x123 :: x124 :: x125 :: x126 :: x127 :: x128 :: x129 :: x130 :: x131 :: x132 :: x133 :: x134 :: x135 :: x136 :: x137 :: x138 :: x139 :: x140 :: x141 :: x142 :: x143 :: x144 :: x145 :: x146 :: x147 :: x148 :: x149 :: x150 :: x151 :: x152 :: x153 :: x154 :: x155 :: x156 :: []).toArray,defers:= []} wx):
  Code.wp Tryz.prog (firstW (tailW 10 (Tryz.f4.body.getD .skip))) (Exit.then K (bodyPost Tryz.prog Tryz.f4 (Ret w (.bool true)))) {tmps:=(x0 :: x1 :: x2 :: x3 :: x4 :: .pointer (some ⟨bq,0,none⟩) :: x6 :: x7 :: x8 :: x9 :: x10 :: x11 :: x12 :: x13 :: x14 :: x15 :: x16 :: x17 :: x18 :: x19 :: x20 :: x21 :: x22 :: x23 :: x24 :: x25 :: x26 :: x27 :: x28 :: x29 :: x30 :: x31 :: x32 :: x33 :: x34 :: x35 :: x36 :: x37 :: x38 :: x39 :: x40 :: x41 :: x42 :: x43 :: x44 :: x45 :: x46 :: x47 :: x48 :: x49 :: x50 :: x51 :: x52 :: x53 :: x54 :: x55 :: x56 :: x57 :: x58 :: x59 :: x60 :: x61 :: x62 :: x63 :: x64 :: x65 :: x66 :: x67 :: x68 :: x69 :: x70 :: x71 :: x72 :: x73 :: x74 :: x75 :: x76 :: x77 :: x78 :: x79 :: x80 :: x81 :: x82 :: x83 :: x84 :: x85 :: x86 :: x87 :: x88 :: x89 :: x90 :: x91 :: x92 :: x93 :: x94 :: x95 :: x96 :: x97 :: x98 :: x99 :: x100 :: x101 :: x102 :: x103 :: x104 :: x105 :: x106 :: x107 :: x108 :: x109 :: x110 :: x111 :: x112 :: x113 :: x114 :: x115 :: x116 :: x117 :: x118 :: x119 :: x120 :: x121 :: x122 :: x123 :: x124 :: x125 :: x126 :: x127 :: x128 :: x129 :: x130 :: x131 :: x132 :: x133 :: x134 :: x135 :: x136 :: x137 :: x138 :: x139 :: x140 :: x141 :: x142 :: x143 :: x144 :: x145 :: x146 :: x147 :: x148 :: x149 :: x150 :: x151 :: x152 :: x153 :: x154 :: x155 :: x156 :: []).toArray,defers:= []} w0:=by
 have c0:=hq.c 0 _ rfl
 have c1:=hq.c 1 _ rfl
 have c2:=hq.c 2 _ rfl
 have c3:=hq.c 3 _ rfl
 have c4:=hq.c 4 _ rfl
 have c5:=hq.c 5 _ rfl
 have HK:=Lh hK0
 have HQ:=Lh hq
 have hlq:=hq.lt
 clear hK0 hq
 refine wp_region_held_drew (S:=(fun w'=>w'.cell? ⟨bq,0,none⟩=some (.int .i64 k0)∧w'.cell? ⟨bq,1,none⟩=some (.int .u32 (e0:Int))∧w'.cell? ⟨bq,2,none⟩=some (.int .i64 k1)∧w'.cell? ⟨bq,3,none⟩=some (.int .u32 (e1:Int))∧w'.cell? ⟨bq,4,none⟩=some (.int .i64 k2)∧w'.cell? ⟨bq,5,none⟩=some (.int .u32 (e2:Int)))) (by kernel_rfl) ?_ (fun hHeld=>?_)
 ·simp [go_sem, *]
 refine tq 0 75 (.pointer (some ⟨bq,0,none⟩)) ?_
 refine tq 1 76 (.agg #[.int .i64 k0,.int .u32 (e0:Int)]) ?_
 refine tq 5 80 (.pointer (some ⟨bq,4,none⟩)) ?_
 refine tq 6 81 (.agg #[.int .i64 k2,.int .u32 (e2:Int)]) ?_
 refine tq 10 85 (.pointer (some ⟨bq,2,none⟩)) ?_
 refine tq 11 86 (.agg #[.int .i64 k1,.int .u32 (e1:Int)]) ?_
 refine tq 15 90 (.pointer (some ⟨bq,4,none⟩)) ?_
 refine tq 16 91 (.agg #[.int .i64 k2,.int .u32 (e2:Int)]) ?_
 clear c0 c1 c2 c3 c4 c5
 obtain ⟨F,hF⟩:∃F:Value→Value→Value→Value→Value→Value→Value→Value→Value→Value→Value→Value→Value→Value→Act,F=fun y y0 y1 y2 y3 y4 y5 y6 y7 y8 y9 y10 y11 y12=> {tmps:=(x0 :: x1 :: x2 :: x3 :: x4 :: .pointer (some ⟨bq,0,none⟩) :: x6 :: x7 :: x8 :: x9 :: x10 :: x11 :: x12 :: x13 :: y :: x15 :: x16 :: x17 :: x18 :: x19 :: x20 :: x21 :: x22 :: x23 :: x24 :: x25 :: x26 :: x27 :: x28 :: x29 :: x30 :: x31 :: x32 :: x33 :: x34 :: x35 :: x36 :: x37 :: x38 :: x39 :: x40 :: x41 :: x42 :: x43 :: x44 :: x45 :: x46 :: x47 :: x48 :: x49 :: x50 :: x51 :: x52 :: x53 :: x54 :: x55 :: x56 :: x57 :: x58 :: x59 :: x60 :: x61 :: x62 :: x63 :: x64 :: x65 :: x66 :: x67 :: x68 :: x69 :: x70 :: x71 :: x72 :: x73 :: x74 :: .pointer (some ⟨bq,0,none⟩) :: .agg #[.int .i64 k0,.int .u32 (e0:Int)] :: y0 :: y1 :: y2 :: .pointer (some ⟨bq,4,none⟩) :: .agg #[.int .i64 k2,.int .u32 (e2:Int)] :: y3 :: y4 :: y5 :: .pointer (some ⟨bq,2,none⟩) :: .agg #[.int .i64 k1,.int .u32 (e1:Int)] :: y6 :: y7 :: y8 :: .pointer (some ⟨bq,4,none⟩) :: .agg #[.int .i64 k2,.int .u32 (e2:Int)] :: y9 :: y10 :: y11 :: y12 :: x96 :: x97 :: x98 :: x99 :: x100 :: x101 :: x102 :: x103 :: x104 :: x105 :: x106 :: x107 :: x108 :: x109 :: x110 :: x111 :: x112 :: x113 :: x114 :: x115 :: x116 :: x117 :: x118 :: x119 :: x120 :: x121 :: x122 :: x123 :: x124 :: x125 :: x126 :: x127 :: x128 :: x129 :: x130 :: x131 :: x132 :: x133 :: x134 :: x135 :: x136 :: x137 :: x138 :: x139 :: x140 :: x141 :: x142 :: x143 :: x144 :: x145 :: x146 :: x147 :: x148 :: x149 :: x150 :: x151 :: x152 :: x153 :: x154 :: x155 :: x156 :: []).toArray,defers:= []}:=⟨_,rfl⟩
 refine(chainA (al:=21) (e:= #[true,true,true,true,true,true,true,true,true,true,true,true,true,true,true,true,true,true,true,true,true,true,false]) (fuel:=1) (I:=fun k o a w'=> ∃y y0 y1 y2 y3 y4 y5 y6 y7 y8 y9 y10 y11 y12,a=F y y0 y1 y2 y3 y4 y5 y6 y7 y8 y9 y10 y11 y12∧(match o with|none=>True|some g=>y= .pointer (some ⟨g,0,none⟩)∧VB w' g [.slice none 0 0,.slice none 0 0]∧w0.heap.size≤g∧(6≤k→y5.ownBlock≠some g)∧(12≤k→y11.ownBlock≠some g))∧VB w' bq [.int .i64 k0,.int .u32 (e0:Int),.int .i64 k1,.int .u32 (e1:Int),.int .i64 k2,.int .u32 (e2:Int)]∧Gr w0.heap.size w0 w'∧(1≤k→y0=fracV r0)∧(2≤k→PL w' 0 y1 CX)∧(3≤k→PL w' 0 y2 XL)∧(4≤k→y3=fracV r2)∧(5≤k→PL w' 0 y4 SX)∧(6≤k→PL w' 0 y5 OX)∧(7≤k→y6=fracV r1)∧(8≤k→PL w' 0 y7 CY)∧(9≤k→PL w' 0 y8 YL)∧(10≤k→y9=fracV r2)∧(11≤k→PL w' 0 y10 SY)∧(12≤k→PL w' 0 y11 OY)∧(13≤k→y12= .agg #[y5,y11])) (fun k a w' hI=>?_) [2,3,4,7,8,9,12,13,14,17,18,19,20] 0 #[true,true,false,false,false,true,true,false,false,false,true,true,false,false,false,true,true,false,false,false,false,true,false] _ ⟨fun o a w' hI=>?_,fun o a w' hI=>?_,fun o a w' hI=>?_,fun o a w' hI=>?_,fun o a w' hI=>?_,fun o a w' hI=>?_,fun o a w' hI=>?_,fun o a w' hI=>?_,fun o a w' hI=>?_,fun o a w' hI=>?_,fun o a w' hI=>?_,fun o a w' hI=>?_,fun o a w' hI=>?_,trivial⟩ (by kernel_rfl) (fun g a w' hI=>?_)).2 _ _ ⟨_,_,_,_,_,_,_,_,_,_,_,_,_,_,by subst hF;rfl,trivial,HQ.out.drew,(Gr.refl _ _).drew,nd,nd,nd,nd,nd,nd,nd,nd,nd,nd,nd,nd,nd⟩
 all_goals subst hF
 ·obtain ⟨y,y0,y1,y2,y3,y4,y5,y6,y7,y8,y9,y10,y11,y12,rfl,hA,hV,hg,h0,h1,h2,h3,h4,h5,h6,h7,h8,h9,h10,h11,h12⟩:=hI
  have hl:=hg.size
  refine opS (fun K1 hK1=>?_)
  go_simp
  have hgr:Gr w'.heap.size w' (w'.alloc (.cells #[.slice none 0 0,.slice none 0 0] 47)):=by exact gzz
  have hW:=hV.alloc (.cells #[.slice none 0 0,.slice none 0 0] 47)
  try simp only [pS]
  exact hK1.out _ _ ⟨six hW,w'.heap.size,_,y0,y1,y2,y3,y4,y5,y6,y7,y8,y9,y10,y11,y12,rfl,⟨rfl,VB.new' rfl,hl,fun h e=>Nat.lt_irrefl _ (SL.own_lt (h5 h) e),fun h e=>Nat.lt_irrefl _ (SL.own_lt (h11 h) e)⟩,hW,hg.trans (hgr.mono hl),h0,fun h=>(h1 h).gr hgr,fun h=>(h2 h).gr hgr,h3,fun h=>(h4 h).gr hgr,fun h=>(h5 h).gr hgr,h6,fun h=>(h7 h).gr hgr,fun h=>(h8 h).gr hgr,h9,fun h=>(h10 h).gr hgr,fun h=>(h11 h).gr hgr,h12⟩
 ·obtain ⟨y,y0,y1,y2,y3,y4,y5,y6,y7,y8,y9,y10,y11,y12,rfl,hA,hV,hg,h0,h1,h2,h3,h4,h5,h6,h7,h8,h9,h10,h11,h12⟩:=hI
  have hl:=hg.size
  refine opS (fun K1 hK1=>?_)
  go_simp
  refine(A0.out _).mono ?_
  rintro e w2 ⟨rfl,hg2⟩
  (try dsimp only)
  try simp only [pS]
  have hW:=hV.gr hg2 hV.lt
  exact hK1.out _ _ ⟨six hW,y,_,y1,y2,y3,y4,y5,y6,y7,y8,y9,y10,y11,y12,rfl,by cases o with|none=>trivial|some g=>exact⟨hA.1,hA.2.1.gr hg2 hA.2.1.lt,hA.2.2.1,nd,nd⟩,hW,hg.trans (hg2.mono hl),fun _=>rfl,nd,nd,nd,nd,nd,nd,nd,nd,nd,nd,nd,nd⟩
 ·obtain ⟨y,y0,y1,y2,y3,y4,y5,y6,y7,y8,y9,y10,y11,y12,rfl,hA,hV,hg,h0,h1,h2,h3,h4,h5,h6,h7,h8,h9,h10,h11,h12⟩:=hI
  have hl:=hg.size
  obtain rfl:=h0 (by decide)
  refine opS (fun K1 hK1=>?_)
  go_simp
  refine(N0.out _).mono ?_
  rintro e w2 ⟨v,rfl,hS,hg2⟩
  (try dsimp only)
  try simp only [pS]
  have hW:=hV.gr hg2 hV.lt
  exact hK1.out _ _ ⟨six hW,y,_,_,y2,y3,y4,y5,y6,y7,y8,y9,y10,y11,y12,rfl,by cases o with|none=>trivial|some g=>exact⟨hA.1,hA.2.1.gr hg2 hA.2.1.lt,hA.2.2.1,nd,nd⟩,hW,hg.trans (hg2.mono hl),fun _=>rfl,fun _=>hS.mono (Nat.zero_le _),nd,nd,nd,nd,nd,nd,nd,nd,nd,nd,nd⟩
 ·obtain ⟨y,y0,y1,y2,y3,y4,y5,y6,y7,y8,y9,y10,y11,y12,rfl,hA,hV,hg,h0,h1,h2,h3,h4,h5,h6,h7,h8,h9,h10,h11,h12⟩:=hI
  have hl:=hg.size
  obtain rfl:=h0 (by decide)
  refine opS (fun K1 hK1=>?_)
  go_simp
  refine(X0.out _).mono ?_
  rintro e w2 ⟨v,rfl,hS,hg2⟩
  (try dsimp only)
  try simp only [pS]
  have hW:=hV.gr hg2 hV.lt
  exact hK1.out _ _ ⟨six hW,y,_,y1,_,y3,y4,y5,y6,y7,y8,y9,y10,y11,y12,rfl,by cases o with|none=>trivial|some g=>exact⟨hA.1,hA.2.1.gr hg2 hA.2.1.lt,hA.2.2.1,nd,nd⟩,hW,hg.trans (hg2.mono hl),fun _=>rfl,gd h1 hg2,fun _=>hS.mono (Nat.zero_le _),nd,nd,nd,nd,nd,nd,nd,nd,nd,nd⟩
 ·obtain ⟨y,y0,y1,y2,y3,y4,y5,y6,y7,y8,y9,y10,y11,y12,rfl,hA,hV,hg,h0,h1,h2,h3,h4,h5,h6,h7,h8,h9,h10,h11,h12⟩:=hI
  have hl:=hg.size
  obtain rfl:=h0 (by decide)
  refine opS (fun K1 hK1=>?_)
  go_simp
  refine(A2.out _).mono ?_
  rintro e w2 ⟨rfl,hg2⟩
  (try dsimp only)
  try simp only [pS]
  have hW:=hV.gr hg2 hV.lt
  exact hK1.out _ _ ⟨six hW,y,_,y1,y2,_,y4,y5,y6,y7,y8,y9,y10,y11,y12,rfl,by cases o with|none=>trivial|some g=>exact⟨hA.1,hA.2.1.gr hg2 hA.2.1.lt,hA.2.2.1,nd,nd⟩,hW,hg.trans (hg2.mono hl),fun _=>rfl,gd h1 hg2,gd h2 hg2,fun _=>rfl,nd,nd,nd,nd,nd,nd,nd,nd,nd⟩
 ·obtain ⟨y,y0,y1,y2,y3,y4,y5,y6,y7,y8,y9,y10,y11,y12,rfl,hA,hV,hg,h0,h1,h2,h3,h4,h5,h6,h7,h8,h9,h10,h11,h12⟩:=hI
  have hl:=hg.size
  obtain rfl:=h0 (by decide)
  obtain rfl:=h3 (by decide)
  refine opS (fun K1 hK1=>?_)
  go_simp
  refine(S0.out _ _ (h2 (by decide))).mono ?_
  rintro e w2 ⟨v,rfl,hS,hg2⟩
  (try dsimp only)
  try simp only [pS]
  have hW:=hV.gr hg2 hV.lt
  exact hK1.out _ _ ⟨six hW,y,_,y1,y2,_,_,y5,y6,y7,y8,y9,y10,y11,y12,rfl,by cases o with|none=>trivial|some g=>exact⟨hA.1,hA.2.1.gr hg2 hA.2.1.lt,hA.2.2.1,nd,nd⟩,hW,hg.trans (hg2.mono hl),fun _=>rfl,gd h1 hg2,gd h2 hg2,fun _=>rfl,fun _=>hS.mono (Nat.zero_le _),nd,nd,nd,nd,nd,nd,nd,nd⟩
 ·obtain ⟨y,y0,y1,y2,y3,y4,y5,y6,y7,y8,y9,y10,y11,y12,rfl,hA,hV,hg,h0,h1,h2,h3,h4,h5,h6,h7,h8,h9,h10,h11,h12⟩:=hI
  have hl:=hg.size
  obtain rfl:=h0 (by decide)
  obtain rfl:=h3 (by decide)
  refine opS (fun K1 hK1=>?_)
  go_simp
  refine(B0.out _ _ _ (h1 (by decide)) (h4 (by decide))).mono ?_
  rintro e w2 ⟨v,rfl,hS,hg2⟩
  (try dsimp only)
  try simp only [pS]
  have hW:=hV.gr hg2 hV.lt
  exact hK1.out _ _ ⟨six hW,y,_,y1,y2,_,y4,_,y6,y7,y8,y9,y10,y11,y12,rfl,by cases o with|none=>trivial|some g=>exact⟨hA.1,hA.2.1.gr hg2 hA.2.1.lt,hA.2.2.1,fun _ e=>by have:=SL.own_ge hS e;have:=hA.2.1.lt;omega,nd⟩,hW,hg.trans (hg2.mono hl),fun _=>rfl,gd h1 hg2,gd h2 hg2,fun _=>rfl,gd h4 hg2,fun _=>hS.mono (Nat.zero_le _),nd,nd,nd,nd,nd,nd,nd⟩
 ·obtain ⟨y,y0,y1,y2,y3,y4,y5,y6,y7,y8,y9,y10,y11,y12,rfl,hA,hV,hg,h0,h1,h2,h3,h4,h5,h6,h7,h8,h9,h10,h11,h12⟩:=hI
  have hl:=hg.size
  obtain rfl:=h0 (by decide)
  obtain rfl:=h3 (by decide)
  refine opS (fun K1 hK1=>?_)
  go_simp
  refine(A1.out _).mono ?_
  rintro e w2 ⟨rfl,hg2⟩
  (try dsimp only)
  try simp only [pS]
  have hW:=hV.gr hg2 hV.lt
  exact hK1.out _ _ ⟨six hW,y,_,y1,y2,_,y4,y5,_,y7,y8,y9,y10,y11,y12,rfl,by cases o with|none=>trivial|some g=>exact⟨hA.1,hA.2.1.gr hg2 hA.2.1.lt,hA.2.2.1,fun _=>hA.2.2.2.1 (by decide),nd⟩,hW,hg.trans (hg2.mono hl),fun _=>rfl,gd h1 hg2,gd h2 hg2,fun _=>rfl,gd h4 hg2,gd h5 hg2,fun _=>rfl,nd,nd,nd,nd,nd,nd⟩
 ·obtain ⟨y,y0,y1,y2,y3,y4,y5,y6,y7,y8,y9,y10,y11,y12,rfl,hA,hV,hg,h0,h1,h2,h3,h4,h5,h6,h7,h8,h9,h10,h11,h12⟩:=hI
  have hl:=hg.size
  obtain rfl:=h0 (by decide)
  obtain rfl:=h3 (by decide)
  obtain rfl:=h6 (by decide)
  refine opS (fun K1 hK1=>?_)
  go_simp
  refine(N1.out _).mono ?_
  rintro e w2 ⟨v,rfl,hS,hg2⟩
  (try dsimp only)
  try simp only [pS]
  have hW:=hV.gr hg2 hV.lt
  exact hK1.out _ _ ⟨six hW,y,_,y1,y2,_,y4,y5,_,_,y8,y9,y10,y11,y12,rfl,by cases o with|none=>trivial|some g=>exact⟨hA.1,hA.2.1.gr hg2 hA.2.1.lt,hA.2.2.1,fun _=>hA.2.2.2.1 (by decide),nd⟩,hW,hg.trans (hg2.mono hl),fun _=>rfl,gd h1 hg2,gd h2 hg2,fun _=>rfl,gd h4 hg2,gd h5 hg2,fun _=>rfl,fun _=>hS.mono (Nat.zero_le _),nd,nd,nd,nd,nd⟩
 ·obtain ⟨y,y0,y1,y2,y3,y4,y5,y6,y7,y8,y9,y10,y11,y12,rfl,hA,hV,hg,h0,h1,h2,h3,h4,h5,h6,h7,h8,h9,h10,h11,h12⟩:=hI
  have hl:=hg.size
  obtain rfl:=h0 (by decide)
  obtain rfl:=h3 (by decide)
  obtain rfl:=h6 (by decide)
  refine opS (fun K1 hK1=>?_)
  go_simp
  refine(Y0.out _).mono ?_
  rintro e w2 ⟨v,rfl,hS,hg2⟩
  (try dsimp only)
  try simp only [pS]
  have hW:=hV.gr hg2 hV.lt
  exact hK1.out _ _ ⟨six hW,y,_,y1,y2,_,y4,y5,_,y7,_,y9,y10,y11,y12,rfl,by cases o with|none=>trivial|some g=>exact⟨hA.1,hA.2.1.gr hg2 hA.2.1.lt,hA.2.2.1,fun _=>hA.2.2.2.1 (by decide),nd⟩,hW,hg.trans (hg2.mono hl),fun _=>rfl,gd h1 hg2,gd h2 hg2,fun _=>rfl,gd h4 hg2,gd h5 hg2,fun _=>rfl,gd h7 hg2,fun _=>hS.mono (Nat.zero_le _),nd,nd,nd,nd⟩
 ·obtain ⟨y,y0,y1,y2,y3,y4,y5,y6,y7,y8,y9,y10,y11,y12,rfl,hA,hV,hg,h0,h1,h2,h3,h4,h5,h6,h7,h8,h9,h10,h11,h12⟩:=hI
  have hl:=hg.size
  obtain rfl:=h0 (by decide)
  obtain rfl:=h3 (by decide)
  obtain rfl:=h6 (by decide)
  refine opS (fun K1 hK1=>?_)
  go_simp
  refine(A2.out _).mono ?_
  rintro e w2 ⟨rfl,hg2⟩
  (try dsimp only)
  try simp only [pS]
  have hW:=hV.gr hg2 hV.lt
  exact hK1.out _ _ ⟨six hW,y,_,y1,y2,_,y4,y5,_,y7,y8,_,y10,y11,y12,rfl,by cases o with|none=>trivial|some g=>exact⟨hA.1,hA.2.1.gr hg2 hA.2.1.lt,hA.2.2.1,fun _=>hA.2.2.2.1 (by decide),nd⟩,hW,hg.trans (hg2.mono hl),fun _=>rfl,gd h1 hg2,gd h2 hg2,fun _=>rfl,gd h4 hg2,gd h5 hg2,fun _=>rfl,gd h7 hg2,gd h8 hg2,fun _=>rfl,nd,nd,nd⟩
 ·obtain ⟨y,y0,y1,y2,y3,y4,y5,y6,y7,y8,y9,y10,y11,y12,rfl,hA,hV,hg,h0,h1,h2,h3,h4,h5,h6,h7,h8,h9,h10,h11,h12⟩:=hI
  have hl:=hg.size
  obtain rfl:=h0 (by decide)
  obtain rfl:=h3 (by decide)
  obtain rfl:=h6 (by decide)
  obtain rfl:=h9 (by decide)
  refine opS (fun K1 hK1=>?_)
  go_simp
  refine(S1.out _ _ (h8 (by decide))).mono ?_
  rintro e w2 ⟨v,rfl,hS,hg2⟩
  (try dsimp only)
  try simp only [pS]
  have hW:=hV.gr hg2 hV.lt
  exact hK1.out _ _ ⟨six hW,y,_,y1,y2,_,y4,y5,_,y7,y8,_,_,y11,y12,rfl,by cases o with|none=>trivial|some g=>exact⟨hA.1,hA.2.1.gr hg2 hA.2.1.lt,hA.2.2.1,fun _=>hA.2.2.2.1 (by decide),nd⟩,hW,hg.trans (hg2.mono hl),fun _=>rfl,gd h1 hg2,gd h2 hg2,fun _=>rfl,gd h4 hg2,gd h5 hg2,fun _=>rfl,gd h7 hg2,gd h8 hg2,fun _=>rfl,fun _=>hS.mono (Nat.zero_le _),nd,nd⟩
 ·obtain ⟨y,y0,y1,y2,y3,y4,y5,y6,y7,y8,y9,y10,y11,y12,rfl,hA,hV,hg,h0,h1,h2,h3,h4,h5,h6,h7,h8,h9,h10,h11,h12⟩:=hI
  have hl:=hg.size
  obtain rfl:=h0 (by decide)
  obtain rfl:=h3 (by decide)
  obtain rfl:=h6 (by decide)
  obtain rfl:=h9 (by decide)
  refine opS (fun K1 hK1=>?_)
  go_simp
  refine(B1.out _ _ _ (h7 (by decide)) (h10 (by decide))).mono ?_
  rintro e w2 ⟨v,rfl,hS,hg2⟩
  (try dsimp only)
  try simp only [pS]
  have hW:=hV.gr hg2 hV.lt
  exact hK1.out _ _ ⟨six hW,y,_,y1,y2,_,y4,y5,_,y7,y8,_,y10,_,y12,rfl,by cases o with|none=>trivial|some g=>exact⟨hA.1,hA.2.1.gr hg2 hA.2.1.lt,hA.2.2.1,fun _=>hA.2.2.2.1 (by decide),fun _ e=>by have:=SL.own_ge hS e;have:=hA.2.1.lt;omega⟩,hW,hg.trans (hg2.mono hl),fun _=>rfl,gd h1 hg2,gd h2 hg2,fun _=>rfl,gd h4 hg2,gd h5 hg2,fun _=>rfl,gd h7 hg2,gd h8 hg2,fun _=>rfl,gd h10 hg2,fun _=>hS.mono (Nat.zero_le _),nd⟩
 ·obtain ⟨y,y0,y1,y2,y3,y4,y5,y6,y7,y8,y9,y10,y11,y12,rfl,hA,hV,hg,h0,h1,h2,h3,h4,h5,h6,h7,h8,h9,h10,h11,h12⟩:=hI
  obtain rfl:=h0 (by decide)
  obtain rfl:=h3 (by decide)
  obtain rfl:=h6 (by decide)
  obtain rfl:=h9 (by decide)
  obtain ⟨a5,c5,rfl⟩:=(h5 (by decide)).at
  obtain ⟨a11,c11,rfl⟩:=(h11 (by decide)).at
  refine opS (fun K1 hK1=>?_)
  go_simp
  (try dsimp only)
  try simp only [pS]
  exact hK1.out _ _ ⟨six hV,y,_,y1,y2,_,y4,_,_,y7,y8,_,y10,_,_,rfl,by cases o with|none=>trivial|some g=>exact⟨hA.1,hA.2.1.gr (Gr.refl _ _) hA.2.1.lt,hA.2.2.1,fun _=>hA.2.2.2.1 (by decide),fun _=>hA.2.2.2.2 (by decide)⟩,hV,hg,fun _=>rfl,fun _=>h1 (by decide),fun _=>h2 (by decide),fun _=>rfl,fun _=>h4 (by decide),fun _=>h5 (by decide),fun _=>rfl,fun _=>h7 (by decide),fun _=>h8 (by decide),fun _=>rfl,fun _=>h10 (by decide),fun _=>h11 (by decide),fun _=>rfl⟩
 ·obtain ⟨y,y0,y1,y2,y3,y4,y5,y6,y7,y8,y9,y10,y11,y12,rfl,⟨rfl,hZ,hge⟩,hV,hg,h0,h1,h2,h3,h4,h5,h6,h7,h8,h9,h10,h11,h12⟩:=hI
  obtain rfl:=h0 (by decide)
  obtain rfl:=h3 (by decide)
  obtain rfl:=h6 (by decide)
  obtain rfl:=h9 (by decide)
  have h5':=h5 (by decide)
  have h11':=h11 (by decide)
  obtain ⟨a5,c5,rfl⟩:=h5'.at
  obtain ⟨a11,c11,rfl⟩:=h11'.at
  obtain rfl:=h12 (by decide)
  obtain ⟨hge,n5,n11⟩:=hge
  replace n5:=n5 (by decide)
  replace n11:=n11 (by decide)
  clear h1 h2 h4 h5 h7 h8 h10 h11
  have hne:bq≠g:=by omega
  have hSS:w'.cell? ⟨bq,0,none⟩=some (.int .i64 k0)∧w'.cell? ⟨bq,1,none⟩=some (.int .u32 (e0:Int))∧w'.cell? ⟨bq,2,none⟩=some (.int .i64 k1)∧w'.cell? ⟨bq,3,none⟩=some (.int .u32 (e1:Int))∧w'.cell? ⟨bq,4,none⟩=some (.int .i64 k2)∧w'.cell? ⟨bq,5,none⟩=some (.int .u32 (e2:Int)):=six hV
  obtain ⟨q0,q1,q2,q3⟩:=hZ.two
  refine rd 22 (fun K1 hK1=>?_)
  go_simp
  have hW:=(hV.far (p:=⟨g,0,none⟩) (Ne.symm hne) (.slice a5 OX.length c5)).far (p:=⟨g,1,none⟩) (Ne.symm hne) (.slice a11 OY.length c11)
  try simp only [pS]
  refine hK1.out _ _ (six hW) (fun _=>?_)
  refine wpAnyH_done (by kernel_rfl) ?_ _
  have KP:∀ {v:Value} {l:List T},PL w' 0 v l→v.ownBlock≠some g→PL ((w'.setCell ⟨g,0,none⟩ (.slice a5 OX.length c5)).setCell ⟨g,1,none⟩ (.slice a11 OY.length c11)) 0 v l:=fun h hn=>(Kp.sets w' g 0 [.slice a5 OX.length c5,.slice a11 OY.length c11]).sl h (fun g' e e2=>hn (e.trans e2))
  exact HK.out g _ _ _ _ _ _ _ _ _ _ _ _ _ _ _ _ _ _ _ _ _ _ _ _ _ _ hZ.put2 (KP h5' n5) (KP h11' n11) hge (((hg.setCell (p:=⟨g,0,none⟩) hge _)).setCell (p:=⟨g,1,none⟩) hge _)
end Go.Proofs.YtfgmdhjmgdccdaaGreat
