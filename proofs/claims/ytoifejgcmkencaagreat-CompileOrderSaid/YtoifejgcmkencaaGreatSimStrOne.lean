/- Sim: the strings that the facts name. Printed by a program (compact.py). -/
import Derived.Test.YtoifejgcmkencaaGreatSimW3And
set_option linter.unusedVariables false
set_option linter.unusedSimpArgs false
set_option linter.all false
namespace Go.Proofs.YtoifejgcmkencaaGreat
open Go Go.Sim
def z0:V := .str 1 120
def z1:V := .str 1 115
def z2:V := .str 1 97
def z3:V := .str 8 8387235695293260140
def z4:V := .str 4 1852143732
def z5:V := .str 4 1953658213
def z6:V := .str 4 1685022067
def z7:V := .str 5 465557741932
def Z0:V:=i6 0
def Z1:V:=i6 1
def Z2:V:=i6 4
def Z3:V:=i6 2
def Z4:V:=i6 5
def Z5:V:=i6 3
def Z6:V:=i6 6
def Z7:V:=sn 1 2 7
def Z8:V:=sc 2 3 0 6 6
def Z9:V:=sn 3 2 1
def Za:V:=sn 4 2 1
def Zb:V:=sn 6 2 2
def Zc:V:=sc 8 1 0 1 1
def Zd:V:=sc 9 1 0 1 1
def Ze:V:=sc 10 1 0 1 1
def Zf:V:=sc 7 1 0 1 1
def Zg:V:=sc 11 1 0 2 2
def Zh:V:=sc 12 1 0 1 1
def Zi:V := .agg [Z7,Z8]
def Y0:FO:=bk 2 [z1,.aJ]
def Y1:FO:=bk 1 [Z2]
def Y2:FO:=bk 4 [z0,.aJ,z2,.aJ]
def Y3:FO:=bk 1 [Z0]
def Y4:FO:=bk 1 [Z1]
def Y5:FO:=bk 2 [Z2,Z4]
def Y6:FO:=bk 18 [Z0,Zf,.aJ,Z1,.aJ,Zc,Z1,Zd,.aJ,Z3,Ze,.aJ,Z5,Zg,.aJ,Z6,Zh,.aJ]
def Y7:FO:=bk 2 [z0,.aJ]
end Go.Proofs.YtoifejgcmkencaaGreat
