/- Sim: facts of function 204 (gameplayer/ground.Valid). Printed by a program (SimF3.lean). -/
import Derived.Test.YtpmapognbdiahaaGreatDoorSimDA3One
set_option linter.all false
namespace Go.Proofs.YtpmapognbdiahaaGreatDoor
open Go Go.Sim
noncomputable def ads:List Fact:=[⟨[Z7u],[(6,Y4k),(7,bk 60 [Z0,(sn 37 1 1),.aj,Z1,.aj,.aj,Z2,(sn 38 1 2),.aj,Z2,Z5p,.aj,Z5,(sn 40 1 1),.aj,Z8,Z5q,.aj,Z6,Z5r,.aj,Zb,Z5s,.aj,Zf,.aj,.aj,Zo,.aj,.aj,Z38,Z5t,Z5u,Z2p,Z5v,.aj,Z1n,Z5w,.aj,Z1q,Z5x,.aj,Z1r,Z5y,.aj,Z1s,Z5z,.aj,Z1m,Z60,.aj,Z1t,Z61,.aj,Z2b,Z62,.aj,Z2b,Z63,.aj]),(8,Y2p),(9,Y5),(10,Y2q),(11,Y2r),(12,Y1x),(13,Y2s),(14,Y9),(15,Ya),(16,Y5),(17,bk 2 [z12,Z2r]),(18,Y2t),(19,Y1e),(20,Y14),(21,Yv),(22,Y8),(23,Y4l),(24,Y2u),(25,Y6),(26,Y4m),(27,Y2v),(28,Yf),(29,Yj),(30,Y8),(31,Y4n),(32,Y2w),(33,Y6),(34,Y1y),(35,Y2x),(36,Ye),(37,Yq),(38,Y1f),(39,Y1g),(40,Yr),(41,Ys),(42,Yg),(43,Yh),(44,Yq),(45,Yt),(46,Yt),(47,Yh),(48,Yg),(49,Yg),(50,Yg),(51,Yh),(52,Yh),(53,Yr),(54,Ys),(55,Y2),(56,Y0),(57,Y1),(58,Y3),(59,Y4),(60,Y0),(61,Y1),(62,Y2),(63,Y3),(64,Y4),(65,Y0),(66,Y1),(67,Y0),(68,Y1),(69,Y0),(70,Y1),(71,Y0),(72,Y1)],73,bt,[],[6,7,8,9,10,11,12,13,14,15,16,17,18,19,20,21,22,23,24,25,26,27,28,29,30,31,32,33,34,35,36,37,38,39,40,41,42,43,44,45,46,47,48,49,50,51,52,53,54,55,56,57,58,59,60,61,62,63,64,65,66,67,68,69,70,71,72],[],1794⟩]
theorem dA4_0_ok:List.all ads (bZ T agQ 6 1000 1000 204)=true:=by kernel_rfl
noncomputable def Gv:Nat→Option FC:=ovl T 6 204 UU (ads) agQ
set_option maxRecDepth 100000 in
theorem IQ (w0:WM):dY Tryz.prog T w0 6 Gv:=dD (ahs w0) (aP hT (ahs w0) (agC w0 6) dA4_0_ok) (agC w0 6)
end Go.Proofs.YtpmapognbdiahaaGreatDoor
