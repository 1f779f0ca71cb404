/- Own work: part 39 of the proof of FnEvents. -/
import Derived.Test.YtfdnolfnbmnafaaGreatEngAL
set_option linter.unusedSimpArgs false
set_option linter.unusedVariables false
namespace Go.Eng
theorem AFC (cs:List V) (off:Nat):Iy cs off 1=(cs[off]?).map fun v=> [v]:=by
 unfold Iy
 by_cases h:off+1≤cs.length
 ·rw[if_pos h,List.getElem?_eq_getElem (by omega)]
  rw[List.drop_eq_getElem_cons (by omega),List.take_succ_cons,List.take_zero]
  rfl
 ·rw[if_neg h,List.getElem?_eq_none (by omega)]
  rfl
section
variable {α:Type} {f:α→List V} {e:Nat}
theorem O0 (hf:∀x,(f x).length=e) (xs:List α):(xs.flatMap f).length=xs.length*e:=by
 induction xs with
 | nil=>simp
 | cons x xs ih=>simp only[List.flatMap_cons,List.length_append,hf,ih,List.length_cons];rw[Nat.add_mul];omega
theorem AbW (hf:∀x,(f x).length=e) (xs:List α) (i:Nat):(xs.flatMap f).drop (i*e)=(xs.drop i).flatMap f:=by
 induction xs generalizing i with
 | nil=>simp
 | cons x xs ih=>
  cases i with
  | zero=>simp
  | succ i=>
   simp only[List.flatMap_cons,List.drop_succ_cons]
   rw[←ih i,List.drop_append,hf]
   have h1:(f x).length≤(i+1)*e:=by rw[hf,Nat.add_mul];omega
   rw[List.drop_eq_nil_of_le h1,List.nil_append]
   congr 1
   rw[Nat.add_mul];omega
theorem QD (hf:∀x,(f x).length=e) {xs:List α} {i:Nat} (hi:i<xs.length):Iy (xs.flatMap f) (i*e) e=some (f xs[i]):=by
 unfold Iy
 have hl:=O0 hf xs
 have:i*e+e≤xs.length*e:=by
  have:=Nat.mul_le_mul_right e (show i+1≤xs.length by omega)
  rw[Nat.add_mul]at this;omega
 rw[hl,if_pos this,AbW hf,List.drop_eq_getElem_cons hi,List.flatMap_cons]
 congr 1
 have h2:=hf xs[i]
 rw[←h2,List.take_left]
theorem Bc (hf:∀x,(f x).length=e) {xs:List α} {i o:Nat} (hi:i<xs.length) (ho:o<e):(xs.flatMap f)[i*e+o]? =(f xs[i])[o]? :=by
 rw[←List.getElem?_drop,AbW hf,List.drop_eq_getElem_cons hi,List.flatMap_cons,List.getElem?_append_left (by rw[hf];exact ho)]
end
end Go.Eng
