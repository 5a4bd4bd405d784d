/-
  Part 41 of the proof: OnA OnB.
-/
import Derived.Test.YtjijceliboaeaaaGreatDoorJ40
import Derived.Test.YtjijceliboaeaaaGreatDoorShelfI
import Derived.Shelf.Slices.In.SortNone
set_option linter.unusedSimpArgs false
set_option linter.unusedVariables false
namespace Go.Proofs.YtjijceliboaeaaaGreatDoor
open Go.RowKit Gus Go.Maps Go.Sort
open Go.WideElems (rg)
noncomputable def kB:TypeId:=((Tryz.prog.underlying 126).bind fun| .map k _=>some k|_=>none).getD 0
theorem under_B:Tryz.prog.underlying 126=some (.map kB 4):=by kernel_rfl
theorem under_kB:Tryz.prog.underlying kB=some (.int .i64):=by kernel_rfl
theorem keyed_B:Keyed Tryz.prog kB:=int_keyed under_kB
theorem keyOf_B {k:Int} (h:(Lit.int .i64 k).wf=true):keyOf Tryz.prog kB (.int .i64 k)=some (.int .i64 k):=keyOf_int_mk under_kB h
abbrev onE (k:Nat):Value×Value:=(.int .i64 (k:Int),.bool true)
abbrev MIB (w:World) (b:Nat) (L:List Nat):Prop:=MI Tryz.prog kB w b (L.map onE)
theorem insert_perm {H:Type} (x:Lit×DataW H):∀l:List (Lit×DataW H),(DataW.insert x l).Perm (x :: l)
 | []=>List.Perm.refl _
 | y :: r=>by
  unfold DataW.insert
  split
  ·exact List.Perm.refl _
  ·exact((insert_perm x r).cons y).trans (List.Perm.swap x y r)
theorem inserts_perm {H:Type}:∀l:List (Lit×DataW H),(l.foldr DataW.insert []).Perm l
 | []=>List.Perm.refl _
 | x :: r=>(insert_perm x _).trans ((inserts_perm r).cons x)
set_option maxRecDepth 20000 in
theorem mi_keys {w:World} {b:Nat} {L:List Nat} (h:MIB w b L) (hL:∀k∈L,k<9223372036854775808):∃D:DataW Unit,w.ownsMap Tryz.prog kB R0 b L.length D∧(intKeys D).Perm (L.map fun k:Nat=>(k:Int))∧Maps.size D=L.length:=by
 obtain ⟨es,clock,hb,F,hl⟩:=h
 have hsz:es.toList.length=L.length:=by have:=congrArg List.length hl;simpa [kvs] using this
 refine⟨.map ((es.toList.map (rg Tryz.prog kB R0)).foldr DataW.insert []),⟨es,clock,hb,F,by simpa using Nat.le_of_eq hsz,rfl⟩,?_,?_⟩
 ·refine((inserts_perm _).map _).trans ?_
  rw [List.map_map]
  have e:es.toList.map ((fun p:Lit×DataW Unit=>Go.intOf p.1)∘rg Tryz.prog kB R0)=L.map fun k:Nat=>(k:Int):=by
   have h2:L.map (fun k:Nat=>(k:Int))=(L.map onE).map fun p=>match p.1 with| .int _ a=>a|_=>0:=by rw [List.map_map];rfl
   rw [h2,←hl,kvs,List.map_map]
   refine List.map_congr_left fun x hx=>?_
   have hm:(x.key,x.val)∈L.map onE:=by rw [←hl];exact List.mem_map.2 ⟨x,hx,rfl⟩
   obtain ⟨k,hk,hke⟩:=List.mem_map.1 hm
   injection hke with e1 e2
   have hw:=keyOf_B (k:=(k:Int)) (wf_nat (hL k hk))
   have hr:Go.WideElems.rd Tryz.prog kB R0 x=some (.int .i64 (k:Int),.agg []):=by
    unfold Go.WideElems.rd
    rw [←e1,hw]
    rfl
   show Go.intOf (rg Tryz.prog kB R0 x).1=_
   unfold rg
   rw [hr]
   show _=match x.key with| .int _ a=>a|_=>0
   rw [←e1]
   rfl
  rw [e]
 ·rw [Maps.size_eq,length_sorted]
  simpa using hsz
theorem sortsI (m:Nat):AnyZI.SortsIn Tryz.prog Tryz.sortedI_ren Fence.wide m:=
 ⟨fun blk off cap ss W hH hblk hsz=>callsIn_wide.2 (Tryz.slices_Sort_int blk off cap ss W hH hblk hsz),fun p cap W=>callsIn_wide.2 (Any.slices_Sort_int_none Tryz.lays189 p cap W)⟩
theorem keys_Call (mb:Option Nat) (W:World):Calls Tryz.prog 61 #[.map mb] W fun e w'=>e= .returned (.func (.func 93) #[] #[.pointer (some ⟨W.heap.size,0,none⟩)])∧w'=W.alloc (.cells #[.map mb] 126):=
 (callsIn_wide (n:=5)).1 (AnyZI.keys_in Tryz.keysI Fence.wide 5 trivial rfl mb W)
theorem flat_one (R:List Nat):R.flatMap iC=R.map fun k:Nat=>Value.int .i64 (k:Int):=by
 induction R with
 | nil=>rfl
 | cons x r ih=>rw [List.flatMap_cons,ih];rfl
theorem nat_of_int (l:List Int) (L:List Nat) (h:l.Perm (L.map fun k:Nat=>(k:Int))):∃R:List Nat,l=R.map (fun k:Nat=>(k:Int))∧R.Perm L:=by
 refine⟨l.map Int.toNat,?_,?_⟩
 ·rw [List.map_map]
  refine(List.map_id l).symm.trans (List.map_congr_left fun x hx=>?_)
  obtain ⟨k,_,hk⟩:=List.mem_map.1 (h.subset hx)
  simp only [id,Function.comp,←hk,Int.toNat_natCast]
 ·have:=h.map Int.toNat
  rw [List.map_map]at this
  have e:(L.map (Int.toNat∘fun k:Nat=>(k:Int)))=L:=(List.map_congr_left fun k _=>by simp [Function.comp]).trans (List.map_id L)
  rwa [e]at this
set_option maxRecDepth 20000 in
set_option maxHeartbeats 1000000 in
theorem sorted_Call (b:Nat) (L:List Nat) (w:World) (hM:MIB w b L) (hL:∀k∈L,k<9223372036854775808) (hn:L.length≤1000000):
  Calls Tryz.prog 60 #[.func (.func 93) #[] #[.pointer (some ⟨w.heap.size,0,none⟩)]] (w.alloc (.cells #[.map (some b)] 126)) (fun e w'=> ∃(v:Value) (R:List Nat),e= .returned v∧R.Perm L∧R.Pairwise (· ≤·)∧SL iC 1 3 w' (w.heap.size+1) v R∧Below (w.heap.size+1) (w.alloc (.cells #[.map (some b)] 126)) w'):=by
 obtain ⟨D,hown,hperm,hsz⟩:=mi_keys hM hL
 have hbl:=hown.lt
 have hseq:SeqGives Fence.wide 2 Tryz.prog 93 #[.pointer (some ⟨w.heap.size,0,none⟩)] encZ (fun ss=>ss.Perm (intKeys D)) (Maps.size D) (w.alloc (.cells #[.map (some b)] 126)):=
  AnyZI.keys_gives (ρ:=Tryz.keysI_ren) {Tryz.keysI with} Fence.wide _ trivial rfl (by omega) w.heap.size b L.length D _ (by simp) (by simp) (by
   obtain ⟨es,clock,hb,Ft,hs,hD⟩:=hown
   exact⟨es,clock,(Below.heap_alloc _ _ b hbl).trans hb,Ft,hs,hD⟩)
 have cS:=AnyZI.sorted_in Tryz.sortedI Fence.wide 5 trivial trivial trivial trivial rfl (by omega) (sortsI _) (enters_of Tryz.func92 (by kernel_rfl) rfl) 93 #[.pointer (some ⟨w.heap.size,0,none⟩)] trivial (enters_of Tryz.func93 (by kernel_rfl) rfl) _ _ (by rw [hsz];simp [maxLen];omega) (by rw [hsz];omega) _ hseq
 refine((callsIn_wide (n:=5)).1 cS).mono ?_
 rintro e w' ⟨v,ss,rfl,hS,hrow,hnil,hb⟩
 have hz:(w.alloc (.cells #[.map (some b)] 126)).heap.size=w.heap.size+1:=by simp
 rw [hz]at hrow hb
 have hp2:(ss.mergeSort fun x y=>decide (x≤y)).Perm (L.map fun k:Nat=>(k:Int)):=(List.mergeSort_perm _ _).trans (hS.trans hperm)
 obtain ⟨R,hR,hRL⟩:=nat_of_int _ L hp2
 have hlen:ss.length=R.length:=by rw [(hS.trans hperm).length_eq,hRL.length_eq,List.length_map]
 refine⟨v,R,rfl,hRL,?_,SL.of_own ?_ iC_len,hb⟩
 ·have hs:=List.pairwise_mergeSort (le:=fun x y:Int=>decide (x≤y)) (fun a b c h1 h2=>by simp at *;omega) (fun a b=>by simp;omega) ss
  rw [hR,List.pairwise_map]at hs
  exact hs.imp (fun {a b} h=>by simpa using h)
 ·rw [flat_one,←hlen]
  have e:(ss.mergeSort fun x y=>decide (x≤y)).map encZ=R.map fun k:Nat=>Value.int .i64 (k:Int):=by rw [hR,List.map_map];rfl
  rw [←e]
  exact hrow
end Go.Proofs.YtjijceliboaeaaaGreatDoor
namespace Go.Proofs.YtjijceliboaeaaaGreatDoor
open Go.RowKit Gus Go.Maps
def ins (L:List Nat) (k:Nat):List Nat:=if k∈L then L else L++ [k]
def insAll (L xs:List Nat):List Nat:=xs.foldl ins L
theorem ins_len (L:List Nat) (k:Nat):(ins L k).length≤L.length+1:=by unfold ins;split<;>simp
theorem insAll_len (L xs:List Nat):(insAll L xs).length≤L.length+xs.length:=by
 induction xs generalizing L with
 | nil=>exact Nat.le_refl _
 | cons x r ih=>have:=ih (ins L x);have:=ins_len L x;simp only [insAll,List.foldl_cons,List.length_cons]at *;omega
theorem mem_ins (L:List Nat) (k x:Nat):x∈ins L k↔x∈L∨x=k:=by
 unfold ins
 split
 ·rename_i h
  exact⟨.inl,fun h2=>h2.elim id (fun e=>e ▸ h)⟩
 ·simp
theorem mem_insAll (L xs:List Nat) (x:Nat):x∈insAll L xs↔x∈L∨x∈xs:=by
 induction xs generalizing L with
 | nil=>simp [insAll]
 | cons y r ih=>
  have:=ih (ins L y)
  simp only [insAll,List.foldl_cons]at *
  rw [this,mem_ins,List.mem_cons,or_assoc]
theorem insAll_snoc (L xs:List Nat) (x:Nat):insAll L (xs++ [x])=ins (insAll L xs) x:=by simp [insAll,List.foldl_append]
theorem MI.add {w:World} {b:Nat} {L:List Nat} (h:MIB w b L) (k:Nat) (hk:k<9223372036854775808) (hL:L.length<1000000):
  ∃w',(Instr.mapUpdate 126 (.map (some b)) (.int .i64 (k:Int)) (.bool true)).run Tryz.prog w= .ok () w'∧MIB w' b (ins L k)∧Kp w w' (some b)∧w'.heap.size=w.heap.size:=by
 have hkey:=keyOf_B (k:=(k:Int)) (wf_nat hk)
 by_cases hm:k∈L
 ·obtain ⟨j,hj,he⟩:=List.getElem_of_mem hm
  have hget:(L.map onE)[j]? =some (.int .i64 (k:Int),.bool true):=by rw [List.getElem?_map,List.getElem?_eq_getElem hj,he];rfl
  obtain ⟨w',hr,hm',hkp,hs⟩:=MI.upd_old (val:= .bool true) h keyed_B under_B hkey hget (by simp [maxLen];omega)
  refine⟨w',hr,?_,hkp,hs⟩
  have e:(L.map onE).set j (.int .i64 (k:Int),.bool true)=L.map onE:=by
   refine List.ext_getElem? fun i=>?_
   rw [List.getElem?_set]
   split
   ·rename_i hi;subst hi
    rw [if_pos (by simpa using hj),hget]
   ·rfl
  rw [e]at hm'
  show MI _ _ _ _ ((ins L k).map onE)
  rw [ins,if_pos hm]
  exact hm'
 ·obtain ⟨w',hr,hm',hkp,hs⟩:=MI.upd_new (val:= .bool true) h keyed_B under_B hkey (fun p hp e=>by
   obtain ⟨x,hx,rfl⟩:=List.mem_map.1 hp
   have:(x:Int)=(k:Int):=by simpa using e
   exact hm ((show x=k by omega) ▸ hx)) (by simp [maxLen];omega)
  refine⟨w',hr,?_,hkp,hs⟩
  show MI _ _ _ _ ((ins L k).map onE)
  rw [ins,if_neg hm,List.map_append]
  exact hm'
def sideD (o n:Nat) (l:List (Int×Int)) (s:Tri):List Nat:=sideL o n l.length s.1 s.2.1 (pairNo l ((min s.1 s.2.1:Nat):Int) ((max s.1 s.2.1:Nat):Int)).toNat
def onS (o n:Nat) (l:List (Int×Int)) (ls:List Tri):List Nat:=ls.foldl (fun L s=>insAll L (sideD o n l s)) []
theorem onS_snoc (o n:Nat) (l:List (Int×Int)) (ls:List Tri) (s:Tri):onS o n l (ls++ [s])=insAll (onS o n l ls) (sideD o n l s):=by simp [onS,List.foldl_append]
theorem sideD_len (o n:Nat) (l:List (Int×Int)) (s:Tri):(sideD o n l s).length≤3:=by unfold sideD sideL;split<;>simp
theorem onS_len (o n:Nat) (l:List (Int×Int)) (ls:List Tri):(onS o n l ls).length≤3*ls.length:=by
 have:∀(ls:List Tri) (L:List Nat),(ls.foldl (fun L s=>insAll L (sideD o n l s)) L).length≤L.length+3*ls.length:=by
  intro ls
  induction ls with
  | nil=>intro L;exact Nat.le_refl _
  | cons s r ih=>
   intro L
   have h1:=ih (insAll L (sideD o n l s));have h2:=insAll_len L (sideD o n l s);have h3:=sideD_len o n l s
   simp only [List.foldl_cons,List.length_cons]at *
   omega
 have h:=this ls []
 simpa [onS] using h
theorem mem_onS (o n:Nat) (l:List (Int×Int)) (ls:List Tri) (x:Nat):x∈onS o n l ls↔∃s∈ls,x∈sideD o n l s:=by
 have:∀(ls:List Tri) (L:List Nat),x∈ls.foldl (fun L s=>insAll L (sideD o n l s)) L↔x∈L∨∃s∈ls,x∈sideD o n l s:=by
  intro ls
  induction ls with
  | nil=>intro L;simp
  | cons s r ih=>
   intro L
   simp only [List.foldl_cons,ih,mem_insAll,List.mem_cons,exists_eq_or_imp,or_assoc]
 have h:=this ls []
 simpa [onS] using h
theorem sideD_lt {o n:Nat} {l:List (Int×Int)} {s:Tri} (h1:s.1<1000000) (h2:s.2.1<1000000) (hn:n≤1000000) (hk:(pairNo l ((min s.1 s.2.1:Nat):Int) ((max s.1 s.2.1:Nat):Int)).toNat≤1000000):∀x∈sideD o n l s,x<9223372036854775808:=by
 intro x hx
 unfold sideD sideL at hx
 split at hx<;>simp at hx<;>omega
def goodS (l:List (Int×Int)) (s:Tri):Prop:=s.1<1000000∧s.2.1<1000000∧∃k:Nat,k<l.length∧pairNo l ((min s.1 s.2.1:Nat):Int) ((max s.1 s.2.1:Nat):Int)=(k:Int)
set_option maxRecDepth 20000 in
set_option maxHeartbeats 8000000 in
theorem df_On (o n:Nat) (x y z vs:Value) (l:List (Int×Int)) (ls:List Tri) (w:World) (ho:o=1∨o=2) (hS:SR i2C 2 85 w 0 z l) (hQ:SR triC 3 79 w 0 vs ls) (hl:l.length≤1000000) (hn:n≤1000000) (hln:o=2→l.length≤n) (hls:ls.length≤200000) (hg:∀s∈ls,goodS l s):
  Calls Tryz.prog 34 #[tabV o n x y z,vs] w (fun e w'=> ∃(v:Value) (R:List Nat),e= .returned v∧R.Perm (onS o n l ls)∧R.Pairwise (· ≤·)∧IR w' w.heap.size v R∧Below w.heap.size w w'):=by
 obtain ⟨av,cv,rfl⟩:=hQ.at
 obtain ⟨az,cz,rfl⟩:=hS.at
 have HLN:=Lib.hid hln
 clear hln
 have HQ:=Lib.hid hQ
 have HS:=Lib.hid hS
 have HGS:=Lib.hid hg
 have hmm:= @run_makeMap Tryz.prog
 clear hQ hS hg
 go_enter Tryz.func34,Tryz.ntmps34
 go_wp2
 have HT0:=Lib.hid (show VB ((w.alloc (.cells #[.int .i64 (o:Int),.int .i64 (n:Int),x,y,.slice az l.length cz] 36)).alloc (.map #[] 0)) w.heap.size [.int .i64 (o:Int),.int .i64 (n:Int),x,y,.slice az l.length cz]from by(with_reducible (repeat' (first|(refine VB.new' ?_;exact(by first|omega|(simp;done)|(simp;omega)))|apply VB.put2|apply VB.put3|apply VB.put5|refine VB.drew ?_|refine VB.far ?_ ?_ _|refine VB.alloc ?_ _|omega|(simp;done)|(simp;omega)))))
 have HM0:=Lib.hid (show MIB ((w.alloc (.cells #[.int .i64 (o:Int),.int .i64 (n:Int),x,y,.slice az l.length cz] 36)).alloc (.map #[] 0)) (w.heap.size+1) []from MI.new' _ _ _ (by simp))
 clear hmm
 go_loopw [15] (fun s wr=> ∃i:Nat,i≤ls.length∧s= .int .i64 i∧Hid (MIB wr (w.heap.size+1) (onS o n l (ls.take i)))∧Hid (VB wr w.heap.size [.int .i64 (o:Int),.int .i64 (n:Int),x,y,.slice az l.length cz])∧Hid (Gr w.heap.size w wr)) (fun s _=>ls.length - (intOf s).toNat)
 case atStart=>exact⟨0,Nat.zero_le _,rfl,HM0,HT0,Lib.hid (by(with_reducible (repeat' (first|exact Gr.refl _ _|refine Gr.drew ?_|refine Gr.setCell ?_ ?_ _|refine Gr.alloc ?_ ?_ _|omega|(simp;done)|(simp;omega)))))⟩
 case round=>
  clear HM0 HT0
  obtain ⟨i,hi,rfl,HM,HT,HG⟩:=hrel
  have hsz:=HG.out.size
  obtain ⟨L,hL⟩:∃q,onS o n l (ls.take i)=q:=⟨_,rfl⟩
  have hLn:L.length≤600000:=by have:=onS_len o n l (ls.take i);rw [hL]at this;simp at this;omega
  rw [hL]at HM
  replace hL:=Lib.hid hL
  have hml:=HM.out.lt
  have htl:=HT.out.lt
  by_cases hlt:i<ls.length
  ·have q0:(i:Int)<(ls.length:Int):=by omega
   have hi0:(0:Int)≤(i:Int):=by omega
   obtain ⟨s,hs⟩:∃s,ls[i]=s:=⟨_,rfl⟩
   obtain ⟨g1,g2,k,hkl,hk⟩:=HGS.out s (hs ▸ List.getElem_mem hlt)
   obtain ⟨D,hD⟩:∃q,sideD o n l s=q:=⟨_,rfl⟩
   have hDn:D.length≤3:=by rw [←hD];exact sideD_len o n l s
   have hDl:Hid (∀x∈D,x<9223372036854775808):=Lib.hid (by rw [←hD];exact sideD_lt g1 g2 hn (by rw [hk];omega))
   have HSD:=Lib.hid (fun (W:World) (hW:Gr w.heap.size w W)=>(show Calls Tryz.prog 32 #[tabV o n x y (.slice az l.length cz),.int .i64 (s.1:Int),.int .i64 (s.2.1:Int)] W (fun e w'=> ∃v,e= .returned (.tuple #[v,.int .i64 0])∧IR w' W.heap.size v D∧Gr W.heap.size W w')from by
    have h:=df_Side o n x y (.slice az l.length cz) l s.1 s.2.1 k W ho (HS.out.gr hW) hl hn HLN.out hkl hk
    have e:sideL o n l.length s.1 s.2.1 k=D:=by rw [←hD,sideD,hk,Int.toNat_natCast]
    rwa [e]at h))
   have hnext:Hid (onS o n l (ls.take (i+1))=insAll L D):=Lib.hid (by rw [List.take_add_one,List.getElem?_eq_getElem hlt,hs];simp only [Option.toList_some];rw [onS_snoc,hL.out,hD])
   obtain ⟨g,cap',e4,_,_,_,hsh,hR⟩:=(HQ.out.gr HG.out).block (by intro e;rw [e]at hlt;simp at hlt)
   injection e4 with e4 _ e5
   subst e4 e5
   obtain ⟨u0,u1,u2⟩:=hR.fTri hlt hs
   have hgl:=hsh.lt
   clear hR hsh hs hD hk
   obtain ⟨t0,t1,t2,t3,t4,-⟩:=HT.out.five
   go_upto_region 5 with fail
   go_wp2_with fail
   refine(HSD.out _ (by(with_reducible (repeat' (first|exact Gr.refl _ _|refine Gr.drew ?_|refine Gr.setCell ?_ ?_ _|refine Gr.alloc ?_ ?_ _|refine Gr.trans ?_ (Gr.mono HG.out ?_)|omega|(simp;done)|(simp;omega)))))).mono ?_
   rintro e w2 ⟨v,rfl,hV,hg2⟩
   have hsz2:=hg2.size
   (try simp at hsz2)
   obtain ⟨hV1,av2,rfl⟩:=hV
   have HV:=Lib.hid hV1
   have HT2:=Lib.hid (VB.gr (HT.out.alloc _:VB (wr.alloc (.cells #[.int .i64 (s.1:Int),.int .i64 (s.2.1:Int),.int .i64 (s.2.2:Int)] 79)) w.heap.size _) hg2 (by simp;omega))
   have HM2:=Lib.hid (show MIB w2 (w.heap.size+1) L from(show MIB (wr.alloc (.cells #[.int .i64 (s.1:Int),.int .i64 (s.2.1:Int),.int .i64 (s.2.2:Int)] 79)) (w.heap.size+1) L from HM.out.gr (B:=wr.heap.size) (by(with_reducible (repeat' (first|exact Gr.refl _ _|refine Gr.drew ?_|refine Gr.setCell ?_ ?_ _|refine Gr.alloc ?_ ?_ _|omega|(simp;done)|(simp;omega))))) hml).gr hg2 (by simp;omega))
   have HG2:=Lib.hid (show Gr w.heap.size w w2 from(show Gr w.heap.size w (wr.alloc (.cells #[.int .i64 (s.1:Int),.int .i64 (s.2.1:Int),.int .i64 (s.2.2:Int)] 79))from by(with_reducible (repeat' (first|exact Gr.refl _ _|refine Gr.drew ?_|refine Gr.setCell ?_ ?_ _|refine Gr.alloc ?_ ?_ _|refine Gr.trans ?_ (Gr.mono HG.out ?_)|omega|(simp;done)|(simp;omega))))).trans (hg2.mono (by simp;omega)))
   clear hV1 hg2 u0 u1 u2 t0 t1 t2 t3 t4
   have hwv:w.heap.size+1<wr.heap.size:=hml
   have hq0:wr.heap.size<w2.heap.size:=by omega
   go_wp2
   obtain ⟨wo,hwo⟩:∃q,q=wr:=⟨_,rfl⟩
   subst hwo
   have hgv:Hid (∀g,(Value.slice av2 D.length D.length).ownBlock=some g→w.heap.size+1<g∧g<w2.heap.size):=Lib.hid (fun g e=>by have:=HV.out.own_lt e;simp at this;omega)
   go_loopw [32] (fun s wq=> ∃j:Nat,j≤D.length∧s= .int .i64 j∧Hid (MIB wq (w.heap.size+1) (insAll L (D.take j)))∧Hid (Kp w2 wq (some (w.heap.size+1)))) (fun s _=>D.length - (intOf s).toNat)
   case atStart=>exact⟨0,Nat.zero_le _,rfl,HM2,Lib.hid ((Gr.refl _ _).kp _)⟩
   case round=>
    clear HM2
    obtain ⟨j,hj,rfl,HMJ,HK⟩:=hrel
    have hszj:=HK.out.g.size
    obtain ⟨LJ,hLJ⟩:∃q,insAll L (D.take j)=q:=⟨_,rfl⟩
    have hLJn:LJ.length≤700000:=by have:=insAll_len L (D.take j);rw [hLJ]at this;simp at this;omega
    rw [hLJ]at HMJ
    replace hLJ:=Lib.hid hLJ
    by_cases hltj:j<D.length
    ·have q2:(j:Int)<(D.length:Int):=by omega
     have hj0:(0:Int)≤(j:Int):=by omega
     obtain ⟨d,hd⟩:∃d,D[j]=d:=⟨_,rfl⟩
     have hdl:=hDl.out d (hd ▸ List.getElem_mem hltj)
     have hnxj:Hid (insAll L (D.take (j+1))=ins LJ d):=Lib.hid (by rw [List.take_add_one,List.getElem?_eq_getElem hltj,hd];simp only [Option.toList_some];rw [insAll_snoc,hLJ.out])
     obtain ⟨g3,cap',e4,_,_,_,hsh,hR⟩:=HV.out.block (by intro e;rw [e]at hltj;simp at hltj)
     injection e4 with e4 _ e5
     subst e4
     have h3:=hgv.out g3 rfl
     have u0:=hR.fI hltj hd
     rw [←HK.out.cell (b:=g3) (o:=j) h3.2 (fun e=>by have:=Option.some.inj e;omega)]at u0
     have HADD:=Lib.hid (MI.add HMJ.out d hdl (by omega))
     clear hR hsh hd hdl e5
     go_wp2_with (at_mapUpdate;refine wpM_upd _ (b:=w.heap.size+1) rfl _ _ _ rfl rfl HADD.out ?_;rintro w3 ⟨hmi3,hkp3,hsz3⟩;have HMI3:=Lib.hid hmi3;have HKP3:=Lib.hid hkp3;clear hmi3 hkp3)
     go_roundw
     case rel=>exact⟨j+1,by omega,by go_num,Lib.hid (by rw [hnxj.out];exact HMI3.out),Lib.hid (HK.out.trans HKP3.out)⟩
     case measure=>simp [intOf];omega
    ·have hjl:j=D.length:=by omega
     subst hjl
     have hnx2:Hid (onS o n l (ls.take (i+1))=LJ):=Lib.hid (by rw [hnext.out,←hLJ.out,List.take_length])
     go_wp2
     go_roundw
     case rel=>exact⟨i+1,by omega,by go_num,Lib.hid (by rw [hnx2.out];exact HMJ.out),Lib.hid (HT2.out.kp HK.out (fun e=>by have:=Option.some.inj e;omega)),Lib.hid (HG2.out.trans (HK.out.gr (fun b e=>by have:=Option.some.inj e;omega) (by omega)))⟩
     case measure=>simp [intOf];omega
  ·have hil:i=ls.length:=by omega
   subst hil
   have hL2:=hL.out
   rw [List.take_length]at hL2
   have hLP:=Lib.hid hL2
   have hLx:∀k∈L,k<9223372036854775808:=by
    intro k hk
    rw [←hL2,mem_onS]at hk
    obtain ⟨s,hs,hx⟩:=hk
    obtain ⟨g1,g2,k2,hkl,hk2⟩:=HGS.out s hs
    exact sideD_lt g1 g2 hn (by rw [hk2];omega) k hx
   have HLX:=Lib.hid hLx
   clear hL2 hLx
   go_wp2_with fail
   refine(keys_Call _ _).mono ?_
   rintro e w5 ⟨rfl,rfl⟩
   go_wp2_with fail
   refine(sorted_Call (w.heap.size+1) L wr HM.out HLX.out (by omega)).mono ?_
   rintro e w6 ⟨v,R,rfl,hR,hRs,hS6,hb6⟩
   obtain ⟨a6,c6,rfl⟩:=hS6.at
   have HS6:=Lib.hid hS6
   have HB6:=Lib.hid hb6
   have HR6:=Lib.hid (And.intro hR hRs)
   have hc6:=hS6.sr.cap
   unfold maxLen at hc6
   clear hS6 hb6 hR hRs
   go_wp2_with fail
   refine(clipV_I a6 R.length c6 w6 hc6.2.1 (by omega)).mono ?_
   rintro e w7 ⟨rfl,hg7⟩
   have HG7:=Lib.hid hg7
   clear hg7
   go_wp2
   go_ret
   have hz6:=HB6.out.size
   (try simp at hz6)
   refine⟨_,R,rfl,hLP.out ▸ HR6.out.1,HR6.out.2,⟨(HS6.out.sr.clip.gr HG7.out).mono (by omega),_,rfl⟩,?_⟩
   exact((HG.out.below.trans ((Below.refl _ _).alloc (by omega) _)).trans (HB6.out.mono (by omega))).trans (HG7.out.below.mono (by omega))
end Go.Proofs.YtjijceliboaeaaaGreatDoor
