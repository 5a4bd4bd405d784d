/-
  Part 46 of the proof: Grn GrT.
-/
import Derived.Test.YtfgmdhjmgdccdaaGreatJ35
import Derived.Test.YtfgmdhjmgdccdaaGreatJ44
import Derived.Test.YtfgmdhjmgdccdaaGreatJ40
set_option linter.unusedSimpArgs false
set_option linter.unusedVariables false
set_option maxHeartbeats 8000000
namespace Go.Proofs.YtfgmdhjmgdccdaaGreat
open Go.RowKit Gus Go.Maps
def shw (a b c:Rat) (f:Nat→Nat→Rat):Nat→Nat→Rat:=fun i j=>a*f (i+1) j+b*f i (j+1)+c*f i j
def shwN (a b c:Rat):Nat→(Nat→Nat→Rat)→Nat→Nat→Rat
 | 0,f=>f
 | n+1,f=>shwN a b c n (shw a b c f)
theorem wt_mul_lin (f:Nat→Nat→Rat) (a b c:Rat) (x:List T):wt f (mulL x (linL a b c))=wt (shw a b c f) x:=by
 rw [wt_mulL]
 congr 1
 funext i j
 rw [wt_linL]
 rfl
theorem wt_pow_lin (a b c:Rat):∀(n:Nat) (f:Nat→Nat→Rat),wt f (powL (linL a b c) n)=shwN a b c n f 0 0
 | 0,f=>wt_pow0 f _
 | n+1,f=>by
  show wt f (mulL (powL (linL a b c) n) (linL a b c))=_
  rw [wt_mul_lin,wt_pow_lin a b c n]
  rfl
theorem shwN_at (a b c:Rat):∀(n:Nat) (f:Nat→Nat→Rat) (i j:Nat),shwN a b c n (fun p q=>f (i+p) (j+q)) 0 0=shwN a b c n f i j
 | 0,f,i,j=>rfl
 | n+1,f,i,j=>by
  show shwN a b c n (shw a b c fun p q=>f (i+p) (j+q)) 0 0=shwN a b c n (shw a b c f) i j
  rw [←shwN_at a b c n (shw a b c f) i j]
  rfl
theorem wt_lin2 (f:Nat→Nat→Rat) (a b c a' b' c':Rat) (i j:Nat):wt f (mulL (powL (linL a b c) i) (powL (linL a' b' c') j))=shwN a b c i (shwN a' b' c' j f) 0 0:=by
 rw [wt_mulL,wt_pow_lin]
 congr 1
 funext p q
 rw [wt_pow_lin,shwN_at]
theorem om_v:om 0 0=1 / 2∧om 1 0=1 / 6∧om 0 1=1 / 6∧om 2 0=1 / 12∧om 1 1=1 / 24∧om 0 2=1 / 12∧om 3 0=1 / 20∧om 2 1=1 / 60∧om 1 2=1 / 60∧om 0 3=1 / 20:=by decide+kernel
def tg (P Q R:Pt) (i j:Nat):Rat:=shwN (Q.x - P.x) (R.x - P.x) P.x i (shwN (Q.y - P.y) (R.y - P.y) P.y j om) 0 0
def sgP (A B:Pt) (i j:Nat):Rat:=shwN (B.x - A.x) 0 A.x i (shwN (B.y - A.y) 0 A.y j fun i _=>psi i) 0 0
theorem psi_n:psi 0=1∧psi 1=1 / 2∧psi 2=1 / 3∧psi 3=1 / 4∧psi 4=1 / 5:=by decide+kernel
theorem grx_00 (P Q R:Pt):(Q.y - P.y)*sgP P Q 0 0+(R.y - Q.y)*sgP Q R 0 0+(P.y - R.y)*sgP R P 0 0=0:=by
 obtain ⟨h0,h1,h2,h3,h4⟩:=psi_n
 simp only [sgP,shwN,shw,h0,h1,h2,h3,h4,Nat.zero_add,Nat.reduceAdd]
 (try grind)
theorem gry_00 (P Q R:Pt):(Q.x - P.x)*sgP P Q 0 0+(R.x - Q.x)*sgP Q R 0 0+(P.x - R.x)*sgP R P 0 0=0:=by
 obtain ⟨h0,h1,h2,h3,h4⟩:=psi_n
 simp only [sgP,shwN,shw,h0,h1,h2,h3,h4,Nat.zero_add,Nat.reduceAdd]
 (try grind)
theorem gra_00 (P Q:Pt):sgP Q P 0 0=sgP P Q 0 0:=by
 obtain ⟨h0,h1,h2,h3,h4⟩:=psi_n
 simp only [sgP,shwN,shw,h0,h1,h2,h3,h4,Nat.zero_add,Nat.reduceAdd]
 (try grind)
theorem grx_10 (P Q R:Pt):(Q.y - P.y)*sgP P Q 1 0+(R.y - Q.y)*sgP Q R 1 0+(P.y - R.y)*sgP R P 1 0=twice P Q R*(1*tg P Q R 0 0):=by
 obtain ⟨h0,h1,h2,h3,h4⟩:=psi_n
 obtain ⟨o0,o1,o2,o3,o4,o5,o6,o7,o8,o9⟩:=om_v
 rw [twice_e]
 simp only [sgP,tg,shwN,shw,o0,o1,o2,o3,o4,o5,o6,o7,o8,o9,h0,h1,h2,h3,h4,Nat.zero_add,Nat.reduceAdd]
 (try grind)
theorem gry_10 (P Q R:Pt):(Q.x - P.x)*sgP P Q 1 0+(R.x - Q.x)*sgP Q R 1 0+(P.x - R.x)*sgP R P 1 0=0:=by
 obtain ⟨h0,h1,h2,h3,h4⟩:=psi_n
 simp only [sgP,shwN,shw,h0,h1,h2,h3,h4,Nat.zero_add,Nat.reduceAdd]
 (try grind)
theorem gra_10 (P Q:Pt):sgP Q P 1 0=sgP P Q 1 0:=by
 obtain ⟨h0,h1,h2,h3,h4⟩:=psi_n
 simp only [sgP,shwN,shw,h0,h1,h2,h3,h4,Nat.zero_add,Nat.reduceAdd]
 (try grind)
theorem grx_01 (P Q R:Pt):(Q.y - P.y)*sgP P Q 0 1+(R.y - Q.y)*sgP Q R 0 1+(P.y - R.y)*sgP R P 0 1=0:=by
 obtain ⟨h0,h1,h2,h3,h4⟩:=psi_n
 simp only [sgP,shwN,shw,h0,h1,h2,h3,h4,Nat.zero_add,Nat.reduceAdd]
 (try grind)
theorem gry_01 (P Q R:Pt):(Q.x - P.x)*sgP P Q 0 1+(R.x - Q.x)*sgP Q R 0 1+(P.x - R.x)*sgP R P 0 1= - (twice P Q R*(1*tg P Q R 0 0)):=by
 obtain ⟨h0,h1,h2,h3,h4⟩:=psi_n
 obtain ⟨o0,o1,o2,o3,o4,o5,o6,o7,o8,o9⟩:=om_v
 rw [twice_e]
 simp only [sgP,tg,shwN,shw,o0,o1,o2,o3,o4,o5,o6,o7,o8,o9,h0,h1,h2,h3,h4,Nat.zero_add,Nat.reduceAdd]
 (try grind)
theorem gra_01 (P Q:Pt):sgP Q P 0 1=sgP P Q 0 1:=by
 obtain ⟨h0,h1,h2,h3,h4⟩:=psi_n
 simp only [sgP,shwN,shw,h0,h1,h2,h3,h4,Nat.zero_add,Nat.reduceAdd]
 (try grind)
theorem grx_20 (P Q R:Pt):(Q.y - P.y)*sgP P Q 2 0+(R.y - Q.y)*sgP Q R 2 0+(P.y - R.y)*sgP R P 2 0=twice P Q R*(2*tg P Q R 1 0):=by
 obtain ⟨h0,h1,h2,h3,h4⟩:=psi_n
 obtain ⟨o0,o1,o2,o3,o4,o5,o6,o7,o8,o9⟩:=om_v
 rw [twice_e]
 simp only [sgP,tg,shwN,shw,o0,o1,o2,o3,o4,o5,o6,o7,o8,o9,h0,h1,h2,h3,h4,Nat.zero_add,Nat.reduceAdd]
 (try grind)
theorem gry_20 (P Q R:Pt):(Q.x - P.x)*sgP P Q 2 0+(R.x - Q.x)*sgP Q R 2 0+(P.x - R.x)*sgP R P 2 0=0:=by
 obtain ⟨h0,h1,h2,h3,h4⟩:=psi_n
 simp only [sgP,shwN,shw,h0,h1,h2,h3,h4,Nat.zero_add,Nat.reduceAdd]
 (try grind)
theorem gra_20 (P Q:Pt):sgP Q P 2 0=sgP P Q 2 0:=by
 obtain ⟨h0,h1,h2,h3,h4⟩:=psi_n
 simp only [sgP,shwN,shw,h0,h1,h2,h3,h4,Nat.zero_add,Nat.reduceAdd]
 (try grind)
theorem grx_11 (P Q R:Pt):(Q.y - P.y)*sgP P Q 1 1+(R.y - Q.y)*sgP Q R 1 1+(P.y - R.y)*sgP R P 1 1=twice P Q R*(1*tg P Q R 0 1):=by
 obtain ⟨h0,h1,h2,h3,h4⟩:=psi_n
 obtain ⟨o0,o1,o2,o3,o4,o5,o6,o7,o8,o9⟩:=om_v
 rw [twice_e]
 simp only [sgP,tg,shwN,shw,o0,o1,o2,o3,o4,o5,o6,o7,o8,o9,h0,h1,h2,h3,h4,Nat.zero_add,Nat.reduceAdd]
 (try grind)
theorem gry_11 (P Q R:Pt):(Q.x - P.x)*sgP P Q 1 1+(R.x - Q.x)*sgP Q R 1 1+(P.x - R.x)*sgP R P 1 1= - (twice P Q R*(1*tg P Q R 1 0)):=by
 obtain ⟨h0,h1,h2,h3,h4⟩:=psi_n
 obtain ⟨o0,o1,o2,o3,o4,o5,o6,o7,o8,o9⟩:=om_v
 rw [twice_e]
 simp only [sgP,tg,shwN,shw,o0,o1,o2,o3,o4,o5,o6,o7,o8,o9,h0,h1,h2,h3,h4,Nat.zero_add,Nat.reduceAdd]
 (try grind)
theorem gra_11 (P Q:Pt):sgP Q P 1 1=sgP P Q 1 1:=by
 obtain ⟨h0,h1,h2,h3,h4⟩:=psi_n
 simp only [sgP,shwN,shw,h0,h1,h2,h3,h4,Nat.zero_add,Nat.reduceAdd]
 (try grind)
theorem grx_02 (P Q R:Pt):(Q.y - P.y)*sgP P Q 0 2+(R.y - Q.y)*sgP Q R 0 2+(P.y - R.y)*sgP R P 0 2=0:=by
 obtain ⟨h0,h1,h2,h3,h4⟩:=psi_n
 simp only [sgP,shwN,shw,h0,h1,h2,h3,h4,Nat.zero_add,Nat.reduceAdd]
 (try grind)
theorem gry_02 (P Q R:Pt):(Q.x - P.x)*sgP P Q 0 2+(R.x - Q.x)*sgP Q R 0 2+(P.x - R.x)*sgP R P 0 2= - (twice P Q R*(2*tg P Q R 0 1)):=by
 obtain ⟨h0,h1,h2,h3,h4⟩:=psi_n
 obtain ⟨o0,o1,o2,o3,o4,o5,o6,o7,o8,o9⟩:=om_v
 rw [twice_e]
 simp only [sgP,tg,shwN,shw,o0,o1,o2,o3,o4,o5,o6,o7,o8,o9,h0,h1,h2,h3,h4,Nat.zero_add,Nat.reduceAdd]
 (try grind)
theorem gra_02 (P Q:Pt):sgP Q P 0 2=sgP P Q 0 2:=by
 obtain ⟨h0,h1,h2,h3,h4⟩:=psi_n
 simp only [sgP,shwN,shw,h0,h1,h2,h3,h4,Nat.zero_add,Nat.reduceAdd]
 (try grind)
theorem grx_30 (P Q R:Pt):(Q.y - P.y)*sgP P Q 3 0+(R.y - Q.y)*sgP Q R 3 0+(P.y - R.y)*sgP R P 3 0=twice P Q R*(3*tg P Q R 2 0):=by
 obtain ⟨h0,h1,h2,h3,h4⟩:=psi_n
 obtain ⟨o0,o1,o2,o3,o4,o5,o6,o7,o8,o9⟩:=om_v
 rw [twice_e]
 simp only [sgP,tg,shwN,shw,o0,o1,o2,o3,o4,o5,o6,o7,o8,o9,h0,h1,h2,h3,h4,Nat.zero_add,Nat.reduceAdd]
 (try grind)
theorem gry_30 (P Q R:Pt):(Q.x - P.x)*sgP P Q 3 0+(R.x - Q.x)*sgP Q R 3 0+(P.x - R.x)*sgP R P 3 0=0:=by
 obtain ⟨h0,h1,h2,h3,h4⟩:=psi_n
 simp only [sgP,shwN,shw,h0,h1,h2,h3,h4,Nat.zero_add,Nat.reduceAdd]
 (try grind)
theorem gra_30 (P Q:Pt):sgP Q P 3 0=sgP P Q 3 0:=by
 obtain ⟨h0,h1,h2,h3,h4⟩:=psi_n
 simp only [sgP,shwN,shw,h0,h1,h2,h3,h4,Nat.zero_add,Nat.reduceAdd]
 (try grind)
theorem grx_21 (P Q R:Pt):(Q.y - P.y)*sgP P Q 2 1+(R.y - Q.y)*sgP Q R 2 1+(P.y - R.y)*sgP R P 2 1=twice P Q R*(2*tg P Q R 1 1):=by
 obtain ⟨h0,h1,h2,h3,h4⟩:=psi_n
 obtain ⟨o0,o1,o2,o3,o4,o5,o6,o7,o8,o9⟩:=om_v
 rw [twice_e]
 simp only [sgP,tg,shwN,shw,o0,o1,o2,o3,o4,o5,o6,o7,o8,o9,h0,h1,h2,h3,h4,Nat.zero_add,Nat.reduceAdd]
 (try grind)
theorem gry_21 (P Q R:Pt):(Q.x - P.x)*sgP P Q 2 1+(R.x - Q.x)*sgP Q R 2 1+(P.x - R.x)*sgP R P 2 1= - (twice P Q R*(1*tg P Q R 2 0)):=by
 obtain ⟨h0,h1,h2,h3,h4⟩:=psi_n
 obtain ⟨o0,o1,o2,o3,o4,o5,o6,o7,o8,o9⟩:=om_v
 rw [twice_e]
 simp only [sgP,tg,shwN,shw,o0,o1,o2,o3,o4,o5,o6,o7,o8,o9,h0,h1,h2,h3,h4,Nat.zero_add,Nat.reduceAdd]
 (try grind)
theorem gra_21 (P Q:Pt):sgP Q P 2 1=sgP P Q 2 1:=by
 obtain ⟨h0,h1,h2,h3,h4⟩:=psi_n
 simp only [sgP,shwN,shw,h0,h1,h2,h3,h4,Nat.zero_add,Nat.reduceAdd]
 (try grind)
theorem grx_12 (P Q R:Pt):(Q.y - P.y)*sgP P Q 1 2+(R.y - Q.y)*sgP Q R 1 2+(P.y - R.y)*sgP R P 1 2=twice P Q R*(1*tg P Q R 0 2):=by
 obtain ⟨h0,h1,h2,h3,h4⟩:=psi_n
 obtain ⟨o0,o1,o2,o3,o4,o5,o6,o7,o8,o9⟩:=om_v
 rw [twice_e]
 simp only [sgP,tg,shwN,shw,o0,o1,o2,o3,o4,o5,o6,o7,o8,o9,h0,h1,h2,h3,h4,Nat.zero_add,Nat.reduceAdd]
 (try grind)
theorem gry_12 (P Q R:Pt):(Q.x - P.x)*sgP P Q 1 2+(R.x - Q.x)*sgP Q R 1 2+(P.x - R.x)*sgP R P 1 2= - (twice P Q R*(2*tg P Q R 1 1)):=by
 obtain ⟨h0,h1,h2,h3,h4⟩:=psi_n
 obtain ⟨o0,o1,o2,o3,o4,o5,o6,o7,o8,o9⟩:=om_v
 rw [twice_e]
 simp only [sgP,tg,shwN,shw,o0,o1,o2,o3,o4,o5,o6,o7,o8,o9,h0,h1,h2,h3,h4,Nat.zero_add,Nat.reduceAdd]
 (try grind)
theorem gra_12 (P Q:Pt):sgP Q P 1 2=sgP P Q 1 2:=by
 obtain ⟨h0,h1,h2,h3,h4⟩:=psi_n
 simp only [sgP,shwN,shw,h0,h1,h2,h3,h4,Nat.zero_add,Nat.reduceAdd]
 (try grind)
theorem grx_03 (P Q R:Pt):(Q.y - P.y)*sgP P Q 0 3+(R.y - Q.y)*sgP Q R 0 3+(P.y - R.y)*sgP R P 0 3=0:=by
 obtain ⟨h0,h1,h2,h3,h4⟩:=psi_n
 simp only [sgP,shwN,shw,h0,h1,h2,h3,h4,Nat.zero_add,Nat.reduceAdd]
 (try grind)
theorem gry_03 (P Q R:Pt):(Q.x - P.x)*sgP P Q 0 3+(R.x - Q.x)*sgP Q R 0 3+(P.x - R.x)*sgP R P 0 3= - (twice P Q R*(3*tg P Q R 0 2)):=by
 obtain ⟨h0,h1,h2,h3,h4⟩:=psi_n
 obtain ⟨o0,o1,o2,o3,o4,o5,o6,o7,o8,o9⟩:=om_v
 rw [twice_e]
 simp only [sgP,tg,shwN,shw,o0,o1,o2,o3,o4,o5,o6,o7,o8,o9,h0,h1,h2,h3,h4,Nat.zero_add,Nat.reduceAdd]
 (try grind)
theorem gra_03 (P Q:Pt):sgP Q P 0 3=sgP P Q 0 3:=by
 obtain ⟨h0,h1,h2,h3,h4⟩:=psi_n
 simp only [sgP,shwN,shw,h0,h1,h2,h3,h4,Nat.zero_add,Nat.reduceAdd]
 (try grind)
theorem grx_40 (P Q R:Pt):(Q.y - P.y)*sgP P Q 4 0+(R.y - Q.y)*sgP Q R 4 0+(P.y - R.y)*sgP R P 4 0=twice P Q R*(4*tg P Q R 3 0):=by
 obtain ⟨h0,h1,h2,h3,h4⟩:=psi_n
 obtain ⟨o0,o1,o2,o3,o4,o5,o6,o7,o8,o9⟩:=om_v
 rw [twice_e]
 simp only [sgP,tg,shwN,shw,o0,o1,o2,o3,o4,o5,o6,o7,o8,o9,h0,h1,h2,h3,h4,Nat.zero_add,Nat.reduceAdd]
 (try grind)
theorem gry_40 (P Q R:Pt):(Q.x - P.x)*sgP P Q 4 0+(R.x - Q.x)*sgP Q R 4 0+(P.x - R.x)*sgP R P 4 0=0:=by
 obtain ⟨h0,h1,h2,h3,h4⟩:=psi_n
 simp only [sgP,shwN,shw,h0,h1,h2,h3,h4,Nat.zero_add,Nat.reduceAdd]
 (try grind)
theorem gra_40 (P Q:Pt):sgP Q P 4 0=sgP P Q 4 0:=by
 obtain ⟨h0,h1,h2,h3,h4⟩:=psi_n
 simp only [sgP,shwN,shw,h0,h1,h2,h3,h4,Nat.zero_add,Nat.reduceAdd]
 (try grind)
theorem grx_31 (P Q R:Pt):(Q.y - P.y)*sgP P Q 3 1+(R.y - Q.y)*sgP Q R 3 1+(P.y - R.y)*sgP R P 3 1=twice P Q R*(3*tg P Q R 2 1):=by
 obtain ⟨h0,h1,h2,h3,h4⟩:=psi_n
 obtain ⟨o0,o1,o2,o3,o4,o5,o6,o7,o8,o9⟩:=om_v
 rw [twice_e]
 simp only [sgP,tg,shwN,shw,o0,o1,o2,o3,o4,o5,o6,o7,o8,o9,h0,h1,h2,h3,h4,Nat.zero_add,Nat.reduceAdd]
 (try grind)
theorem gry_31 (P Q R:Pt):(Q.x - P.x)*sgP P Q 3 1+(R.x - Q.x)*sgP Q R 3 1+(P.x - R.x)*sgP R P 3 1= - (twice P Q R*(1*tg P Q R 3 0)):=by
 obtain ⟨h0,h1,h2,h3,h4⟩:=psi_n
 obtain ⟨o0,o1,o2,o3,o4,o5,o6,o7,o8,o9⟩:=om_v
 rw [twice_e]
 simp only [sgP,tg,shwN,shw,o0,o1,o2,o3,o4,o5,o6,o7,o8,o9,h0,h1,h2,h3,h4,Nat.zero_add,Nat.reduceAdd]
 (try grind)
theorem gra_31 (P Q:Pt):sgP Q P 3 1=sgP P Q 3 1:=by
 obtain ⟨h0,h1,h2,h3,h4⟩:=psi_n
 simp only [sgP,shwN,shw,h0,h1,h2,h3,h4,Nat.zero_add,Nat.reduceAdd]
 (try grind)
theorem grx_22 (P Q R:Pt):(Q.y - P.y)*sgP P Q 2 2+(R.y - Q.y)*sgP Q R 2 2+(P.y - R.y)*sgP R P 2 2=twice P Q R*(2*tg P Q R 1 2):=by
 obtain ⟨h0,h1,h2,h3,h4⟩:=psi_n
 obtain ⟨o0,o1,o2,o3,o4,o5,o6,o7,o8,o9⟩:=om_v
 rw [twice_e]
 simp only [sgP,tg,shwN,shw,o0,o1,o2,o3,o4,o5,o6,o7,o8,o9,h0,h1,h2,h3,h4,Nat.zero_add,Nat.reduceAdd]
 (try grind)
theorem gry_22 (P Q R:Pt):(Q.x - P.x)*sgP P Q 2 2+(R.x - Q.x)*sgP Q R 2 2+(P.x - R.x)*sgP R P 2 2= - (twice P Q R*(2*tg P Q R 2 1)):=by
 obtain ⟨h0,h1,h2,h3,h4⟩:=psi_n
 obtain ⟨o0,o1,o2,o3,o4,o5,o6,o7,o8,o9⟩:=om_v
 rw [twice_e]
 simp only [sgP,tg,shwN,shw,o0,o1,o2,o3,o4,o5,o6,o7,o8,o9,h0,h1,h2,h3,h4,Nat.zero_add,Nat.reduceAdd]
 (try grind)
theorem gra_22 (P Q:Pt):sgP Q P 2 2=sgP P Q 2 2:=by
 obtain ⟨h0,h1,h2,h3,h4⟩:=psi_n
 simp only [sgP,shwN,shw,h0,h1,h2,h3,h4,Nat.zero_add,Nat.reduceAdd]
 (try grind)
theorem grx_13 (P Q R:Pt):(Q.y - P.y)*sgP P Q 1 3+(R.y - Q.y)*sgP Q R 1 3+(P.y - R.y)*sgP R P 1 3=twice P Q R*(1*tg P Q R 0 3):=by
 obtain ⟨h0,h1,h2,h3,h4⟩:=psi_n
 obtain ⟨o0,o1,o2,o3,o4,o5,o6,o7,o8,o9⟩:=om_v
 rw [twice_e]
 simp only [sgP,tg,shwN,shw,o0,o1,o2,o3,o4,o5,o6,o7,o8,o9,h0,h1,h2,h3,h4,Nat.zero_add,Nat.reduceAdd]
 (try grind)
theorem gry_13 (P Q R:Pt):(Q.x - P.x)*sgP P Q 1 3+(R.x - Q.x)*sgP Q R 1 3+(P.x - R.x)*sgP R P 1 3= - (twice P Q R*(3*tg P Q R 1 2)):=by
 obtain ⟨h0,h1,h2,h3,h4⟩:=psi_n
 obtain ⟨o0,o1,o2,o3,o4,o5,o6,o7,o8,o9⟩:=om_v
 rw [twice_e]
 simp only [sgP,tg,shwN,shw,o0,o1,o2,o3,o4,o5,o6,o7,o8,o9,h0,h1,h2,h3,h4,Nat.zero_add,Nat.reduceAdd]
 (try grind)
theorem gra_13 (P Q:Pt):sgP Q P 1 3=sgP P Q 1 3:=by
 obtain ⟨h0,h1,h2,h3,h4⟩:=psi_n
 simp only [sgP,shwN,shw,h0,h1,h2,h3,h4,Nat.zero_add,Nat.reduceAdd]
 (try grind)
theorem grx_04 (P Q R:Pt):(Q.y - P.y)*sgP P Q 0 4+(R.y - Q.y)*sgP Q R 0 4+(P.y - R.y)*sgP R P 0 4=0:=by
 obtain ⟨h0,h1,h2,h3,h4⟩:=psi_n
 simp only [sgP,shwN,shw,h0,h1,h2,h3,h4,Nat.zero_add,Nat.reduceAdd]
 (try grind)
theorem gry_04 (P Q R:Pt):(Q.x - P.x)*sgP P Q 0 4+(R.x - Q.x)*sgP Q R 0 4+(P.x - R.x)*sgP R P 0 4= - (twice P Q R*(4*tg P Q R 0 3)):=by
 obtain ⟨h0,h1,h2,h3,h4⟩:=psi_n
 obtain ⟨o0,o1,o2,o3,o4,o5,o6,o7,o8,o9⟩:=om_v
 rw [twice_e]
 simp only [sgP,tg,shwN,shw,o0,o1,o2,o3,o4,o5,o6,o7,o8,o9,h0,h1,h2,h3,h4,Nat.zero_add,Nat.reduceAdd]
 (try grind)
theorem gra_04 (P Q:Pt):sgP Q P 0 4=sgP P Q 0 4:=by
 obtain ⟨h0,h1,h2,h3,h4⟩:=psi_n
 simp only [sgP,shwN,shw,h0,h1,h2,h3,h4,Nat.zero_add,Nat.reduceAdd]
 (try grind)
end Go.Proofs.YtfgmdhjmgdccdaaGreat
namespace Go.Proofs.YtfgmdhjmgdccdaaGreat
open Go.RowKit Gus Go.Maps
def D4 (l:List T):Prop:= ∀t∈l,t.i+t.j≤4
theorem wt_congr4 {f g:Nat→Nat→Rat} (h:∀i j,i+j≤4→f i j=g i j):∀ {l:List T},D4 l→wt f l=wt g l
 | [],_=>rfl
 | t :: r,hl=>by
  show t.c*f t.i t.j+wt f r=t.c*g t.i t.j+wt g r
  rw [h t.i t.j (hl t (by simp)),wt_congr4 h (fun x hx=>hl x (by simp [hx]))]
theorem wt_lc3 (f g h:Nat→Nat→Rat) (a b c:Rat):∀l:List T,wt (fun i j=>a*f i j+b*g i j+c*h i j) l=a*wt f l+b*wt g l+c*wt h l
 | []=>by show(0:Rat)=a*0+b*0+c*0;grind
 | t :: r=>by
  show t.c*(a*f t.i t.j+b*g t.i t.j+c*h t.i t.j)+wt _ r=a*(t.c*f t.i t.j+wt f r)+b*(t.c*g t.i t.j+wt g r)+c*(t.c*h t.i t.j+wt h r)
  rw [wt_lc3 f g h a b c r]
  grind
theorem wt_sm (f:Nat→Nat→Rat) (a:Rat):∀l:List T,wt (fun i j=>a*f i j) l=a*wt f l
 | []=>by show(0:Rat)=a*0;grind
 | t :: r=>by
  show t.c*(a*f t.i t.j)+wt _ r=a*(t.c*f t.i t.j+wt f r)
  rw [wt_sm f a r]
  grind
theorem sg_P (A B:Pt):sg A.x A.y (B.x - A.x) (B.y - A.y)=sgP A B:=by
 funext i j
 unfold sg sgP
 rw [wt_lin2]
theorem flow_P (gx gy:List T) (A B:Pt):flowV gx gy A B=(B.y - A.y)*wt (sgP A B) gx - (B.x - A.x)*wt (sgP A B) gy:=by
 unfold flowV
 rw [seg_wt,seg_wt,sg_P]
theorem sumT_wt (l:List T):sumT l=wt om l:=by
 have key:∀(l:List T) (a:Rat),l.foldl (fun acc t=>acc+t.c*om t.i t.j) a=a+wt om l:=by
  intro l
  induction l with
  | nil=>intro a;show a=a+0;grind
  | cons t r ih=>
   intro a
   rw [List.foldl_cons,ih]
   show _=a+(t.c*om t.i t.j+wt _ r)
   grind
 unfold sumT
 rw [key]
 grind
def intT (p:List T) (a b c:Pt):Rat:=twice a b c*sumT (shiftL p (b.x - a.x) (c.x - a.x) a.x (b.y - a.y) (c.y - a.y) a.y)
theorem tri_P (p:List T) (P Q R:Pt):intT p P Q R=twice P Q R*wt (tg P Q R) p:=by
 unfold intT shiftL
 rw [sumT_wt,wt_shift,wt_gat]
 congr 2
 funext i j
 unfold tg
 rw [wt_lin2]
theorem cases4 {f g:Nat→Nat→Rat} (h:f 0 0=g 0 0∧f 1 0=g 1 0∧f 0 1=g 0 1∧f 2 0=g 2 0∧f 1 1=g 1 1∧f 0 2=g 0 2∧f 3 0=g 3 0∧f 2 1=g 2 1∧f 1 2=g 1 2∧f 0 3=g 0 3∧f 4 0=g 4 0∧f 3 1=g 3 1∧f 2 2=g 2 2∧f 1 3=g 1 3∧f 0 4=g 0 4):∀i j,i+j≤4→f i j=g i j:=by
 obtain ⟨h0,h1,h2,h3,h4,h5,h6,h7,h8,h9,ha,hb,hc,hd,he⟩:=h
 intro i j hij
 rcases(show(i=0∧j=0)∨(i=1∧j=0)∨(i=0∧j=1)∨(i=2∧j=0)∨(i=1∧j=1)∨(i=0∧j=2)∨(i=3∧j=0)∨(i=2∧j=1)∨(i=1∧j=2)∨(i=0∧j=3)∨(i=4∧j=0)∨(i=3∧j=1)∨(i=2∧j=2)∨(i=1∧j=3)∨(i=0∧j=4) by omega)with⟨rfl,rfl⟩|⟨rfl,rfl⟩|⟨rfl,rfl⟩|⟨rfl,rfl⟩|⟨rfl,rfl⟩|⟨rfl,rfl⟩|⟨rfl,rfl⟩|⟨rfl,rfl⟩|⟨rfl,rfl⟩|⟨rfl,rfl⟩|⟨rfl,rfl⟩|⟨rfl,rfl⟩|⟨rfl,rfl⟩|⟨rfl,rfl⟩|⟨rfl,rfl⟩
 ·exact h0
 ·exact h1
 ·exact h2
 ·exact h3
 ·exact h4
 ·exact h5
 ·exact h6
 ·exact h7
 ·exact h8
 ·exact h9
 ·exact ha
 ·exact hb
 ·exact hc
 ·exact hd
 ·exact he
theorem flow_anti {gx gy:List T} (hx:D4 gx) (hy:D4 gy) (P Q:Pt):flowV gx gy Q P= - flowV gx gy P Q:=by
 have e:∀i j,i+j≤4→sgP Q P i j=sgP P Q i j:=cases4 ⟨gra_00 P Q,gra_10 P Q,gra_01 P Q,gra_20 P Q,gra_11 P Q,gra_02 P Q,gra_30 P Q,gra_21 P Q,gra_12 P Q,gra_03 P Q,gra_40 P Q,gra_31 P Q,gra_22 P Q,gra_13 P Q,gra_04 P Q⟩
 rw [flow_P,flow_P,wt_congr4 e hx,wt_congr4 e hy]
 grind
theorem z4 (a b:Rat):a*(((0:Nat):Int):Rat)*b=0:=by
 show a*0*b=0
 grind
theorem green {gx gy:List T} (hx:D4 gx) (hy:D4 gy) (P Q R:Pt):flowV gx gy P Q+flowV gx gy Q R+flowV gx gy R P=intT (addL (dxL gx) (dyL gy)) P Q R:=by
 have n0:(((0:Nat):Int):Rat)=0:=rfl
 have n1:(((1:Nat):Int):Rat)=1:=rfl
 have n2:(((2:Nat):Int):Rat)=2:=rfl
 have n3:(((3:Nat):Int):Rat)=3:=rfl
 have n4:(((4:Nat):Int):Rat)=4:=rfl
 have ex:∀i j,i+j≤4→(Q.y - P.y)*sgP P Q i j+(R.y - Q.y)*sgP Q R i j+(P.y - R.y)*sgP R P i j=twice P Q R*(((i:Int):Rat)*tg P Q R (i - 1) j):=
  cases4 (f:=fun i j=>(Q.y - P.y)*sgP P Q i j+(R.y - Q.y)*sgP Q R i j+(P.y - R.y)*sgP R P i j) (g:=fun i j=>twice P Q R*(((i:Int):Rat)*tg P Q R (i - 1) j)) (by
   simp only [n0,n1,n2,n3,n4,Nat.zero_sub,Nat.sub_self,Nat.reduceSub,Rat.zero_mul,Rat.mul_zero,Rat.one_mul,grx_00,grx_10,grx_01,grx_20,grx_11,grx_02,grx_30,grx_21,grx_12,grx_03,grx_40,grx_31,grx_22,grx_13,grx_04]
   simp only [Rat.one_mul,and_self])
 have ey:∀i j,i+j≤4→(Q.x - P.x)*sgP P Q i j+(R.x - Q.x)*sgP Q R i j+(P.x - R.x)*sgP R P i j= - twice P Q R*(((j:Int):Rat)*tg P Q R i (j - 1)):=
  cases4 (f:=fun i j=>(Q.x - P.x)*sgP P Q i j+(R.x - Q.x)*sgP Q R i j+(P.x - R.x)*sgP R P i j) (g:=fun i j=> - twice P Q R*(((j:Int):Rat)*tg P Q R i (j - 1))) (by
   simp only [n0,n1,n2,n3,n4,Nat.zero_sub,Nat.sub_self,Nat.reduceSub,Rat.zero_mul,Rat.mul_zero,Rat.neg_mul,gry_00,gry_10,gry_01,gry_20,gry_11,gry_02,gry_30,gry_21,gry_12,gry_03,gry_40,gry_31,gry_22,gry_13,gry_04]
   simp only [Rat.one_mul,and_self])
 have hX:=wt_congr4 ex hx
 have hY:=wt_congr4 ey hy
 rw [wt_lc3,wt_sm]at hX hY
 rw [flow_P,flow_P,flow_P,tri_P,wt_addL,wt_dxL,wt_dyL]
 grind
end Go.Proofs.YtfgmdhjmgdccdaaGreat
