/- Plain laws of fractions and of beliefs. -/
import Derived.Test.YthckjidmpbiccaaGreatDoorOwnMOne
set_option linter.unusedVariables false
set_option linter.unusedSimpArgs false
set_option linter.all false
namespace Go.Own
abbrev Fr:=Int×Int
def mst:Nat:=1073741824
def okF (f:Fr):Bool:=decide (1≤f.2)&&decide (f.2≤mst)&&decide (-mst≤f.1)&&decide (f.1≤mst)&&decide (f.1.natAbs.gcd f.2.natAbs=1)
theorem iI {f:Fr}:okF f=true↔1≤f.2∧f.2≤mst∧-mst≤f.1∧f.1≤mst∧f.1.natAbs.gcd f.2.natAbs=1:=by
 unfold okF;simp only [Bool.and_eq_true,decide_eq_true_eq,and_assoc]
def qY (a b:Fr):Int:=if a.1*b.2<b.1*a.2 then -1 else if b.1*a.2<a.1*b.2 then 1 else 0
end Go.Own
