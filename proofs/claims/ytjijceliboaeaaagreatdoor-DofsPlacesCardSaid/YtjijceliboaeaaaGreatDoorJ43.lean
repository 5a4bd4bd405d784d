/-
  Part 43 of the proof: ShP.
-/
import Derived.Test.YtjijceliboaeaaaGreatDoorJ40
import Derived.Shelf.Slices.In.SortNone
set_option linter.unusedSimpArgs false
set_option linter.unusedVariables false
namespace Go.Proofs.YtjijceliboaeaaaGreatDoor
open Go.RowKit Gus Go.Maps
def rowC (p:Nat→Bool):Nat→Nat
 | 0=>0
 | b+1=>rowC p b+if p b then 1 else 0
def pairsC (f:Nat→Nat→Bool) (m:Nat):Nat→Nat
 | 0=>0
 | a+1=>pairsC f m a+rowC (f a) m
def crn (t:Tri) (a:Nat):Nat:= [t.1,t.2.1,t.2.2].getD a 0
def cornersN (t u:Tri):Nat:=pairsC (fun a b=>crn t a == crn u b) 3 3
def sharedN (r s:List Nat):Nat:=pairsC (fun a b=>r.getD a 0 == s.getD b 0) s.length r.length
def wantN (o c:Nat):Nat:=if o=2 then [0,1,3,6].getD c 0 else c
def blaw (a00 a01 a02 a10 a11 a12 a20 a21 a22:Bool):Bool:=(a00 && a01) || (a00 && a10) || (a00 && a02) || (a00 && a20) || (a01 && a02) || (a10 && a20) || (a10 && a11) || (a01 && a11) || (a10 && a12) || (a01 && a21) || (a11 && a12) || (a11 && a21) || (a20 && a21) || (a02 && a12) || (a20 && a22) || (a02 && a22) || (a21 && a22) || (a12 && a22) || decide (((((((((((((if a00=true then 1 else 0)+(if a01=true then 1 else 0))+(if a02=true then 1 else 0))+(if false=true then 1 else 0))+(if false=true then 1 else 0))+(if false=true then 1 else 0))+((((((if a10=true then 1 else 0)+(if a11=true then 1 else 0))+(if a12=true then 1 else 0))+(if false=true then 1 else 0))+(if false=true then 1 else 0))+(if false=true then 1 else 0)))+((((((if a20=true then 1 else 0)+(if a21=true then 1 else 0))+(if a22=true then 1 else 0))+(if false=true then 1 else 0))+(if false=true then 1 else 0))+(if false=true then 1 else 0)))+((((((if false=true then 1 else 0)+(if false=true then 1 else 0))+(if false=true then 1 else 0))+(if (a11 && a22 || a12 && a21)=true then 1 else 0))+(if (a12 && a20 || a10 && a22)=true then 1 else 0))+(if (a10 && a21 || a11 && a20)=true then 1 else 0)))+((((((if false=true then 1 else 0)+(if false=true then 1 else 0))+(if false=true then 1 else 0))+(if (a21 && a02 || a22 && a01)=true then 1 else 0))+(if (a22 && a00 || a20 && a02)=true then 1 else 0))+(if (a20 && a01 || a21 && a00)=true then 1 else 0)))+((((((if false=true then 1 else 0)+(if false=true then 1 else 0))+(if false=true then 1 else 0))+(if (a01 && a12 || a02 && a11)=true then 1 else 0))+(if (a02 && a10 || a00 && a12)=true then 1 else 0))+(if (a00 && a11 || a01 && a10)=true then 1 else 0))):Nat)= [0,1,3,6].getD (((((if a00=true then 1 else 0)+(if a01=true then 1 else 0))+(if a02=true then 1 else 0))+(((if a10=true then 1 else 0)+(if a11=true then 1 else 0))+(if a12=true then 1 else 0)))+(((if a20=true then 1 else 0)+(if a21=true then 1 else 0))+(if a22=true then 1 else 0))) 0)
end Go.Proofs.YtjijceliboaeaaaGreatDoor
