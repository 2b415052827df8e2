/- Sim: facts of function 130 ((*gameplayer/compile.compiler).outputs). Printed by a program (SimF3.lean). -/
import Derived.Test.YtpmapognbdiahaaGreatDoorSimDA9And
set_option linter.all false
namespace Go.Proofs.YtpmapognbdiahaaGreatDoor
open Go Go.Sim
noncomputable def VA:List Fact:=[⟨[Z1x,(pt 7)],[(6,bk 6 [(sn 8 2 30),(sn 9 3 20),(sc 10 1 0 30 30),(sn 11 3 20),(.map ⟨12⟩),(.map ⟨13⟩)]),(7,bk 11 [.aj,Z1c,(sn 15 2 6),(sn 16 3 6),.aj,.aj,.aj,.aj,.aj,Z0,bt]),(8,bk 60 [z21,.aj,z17,Z39,z5,Z3i,z5,Z2t,z5,Z3j,z5,Z2q,z5,Z1d,z13,Z18,z13,Z1y,z0,Z1f,z0,Z19,z0,Z1g,z0,Z1a,z0,Z1h,z0,Z3e,z3,Z3a,z3,Z25,z3,Z3b,z3,Z2h,z3,Z3c,z3,Z2i,z18,Z6w,z18,(sn 38 2 2),z1,(sn 39 2 2),z1,(sn 40 2 2),z1,(sn 41 2 2),z1,Z41,z1,Z42,z1,Z3k,z20,Z3l]),(12,.map 3 [(Zk,Z2),(Zn,Z5),(Z1l,Z8),(Zi,Z6),(Zj,Zb),(Zs,Zf),(Z1w,Zo),(Zq,Zk),(Z11,Zn),(Z2m,Z1l),(Z1e,Zi),(Z32,Zj),(Z1,Z1),(Zf,Z1),(Zo,Z1),(Z6,Z6),(Zb,Zb),(Z0,Zf),(Z5,Zk),(Z8,Zn),(Z2,Zq),(Z38,Z2m),(Z2p,Z2),(Z1n,Zb),(Z1q,Z6),(Z1r,Z6),(Z1s,Z6),(Z1m,Zb),(Z1t,Zb),(Z2b,Z1e)]),(14,Ym),(15,bk 12 [z19,.aj,z12,Z3m,z12,Z3n,z2,Z4k,z2,Z50,z2,Z43]),(16,bk 18 [Z0,z14,.aj,Z0,z9,Z3o,Z0,z9,Z3f,Z1,z14,.aj,Z1,z11,Z30,Z1,z11,Z2w]),(18,Y5),(19,bk 2 [z12,Z2y]),(20,Y2q),(21,bk 2 [z2,Z23]),(22,Y1x),(37,Yf),(38,Yj),(39,Y8),(40,Y4p),(41,Y4q),(42,Y6),(43,Y3v),(44,Y2z),(45,Ye),(46,Y0),(47,Y1),(48,Y2),(49,Y3),(50,Y4),(51,Y0),(52,Y1),(53,Y0),(54,Y1),(55,Y0),(56,Y1),(57,Y3),(58,Y4),(59,Y0),(60,Y1),(61,Y0),(62,Y1)],63,(.tup []),[7],[6,8,12,14,15,16,18,19,20,21,22,37,38,39,40,41,42,43,44,45,46,47,48,49,50,51,52,53,54,55,56,57,58,59,60,61,62],[(7,bk 11 [.aj,Z1c,(sn 15 2 6),(sn 16 3 6),.aj,(sn 856 1 6),(sn 2771 1 6),(sn 3415 5 2),(sn 3765 5 1),Zf,bt]),(856,Yy),(2771,Yz),(3415,Y10),(3765,Y11)],3781⟩]
theorem dA13_0_ok:List.all VA (bZ T Xa 6 1000 1000 130)=true:=by kernel_rfl
noncomputable def W9:Nat→Option FC:=ovl T 6 130 U1 (VA) Xa
set_option maxRecDepth 100000 in
theorem aav (w0:WM):dY Tryz.prog T w0 6 W9:=dD (aaw w0) (aP hT (aaw w0) (agG w0 6) dA13_0_ok) (agG w0 6)
end Go.Proofs.YtpmapognbdiahaaGreatDoor
