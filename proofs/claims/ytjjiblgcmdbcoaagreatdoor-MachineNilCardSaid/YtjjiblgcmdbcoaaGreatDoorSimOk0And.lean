/- Sim: the check of each function. Printed by a program (simtab3.py). -/
import Derived.Test.YtjjiblgcmdbcoaaGreatDoorSimTabOne
import Derived.Test.YtjjiblgcmdbcoaaGreatDoorSimW3And
set_option linter.unusedVariables false
set_option linter.unusedSimpArgs false
set_option linter.all false
namespace Go.Proofs.YtjjiblgcmdbcoaaGreatDoor
open Go Go.Sim

theorem k2 : okB Tryz.f2 an2 = true := by kernel_rfl
theorem k3 : okB Tryz.f3 an3 = true := by kernel_rfl
theorem k4 : okB Tryz.f4 an4 = true := by kernel_rfl
theorem k5 : okB Tryz.f5 an5 = true := by kernel_rfl
theorem k6 : okB Tryz.f6 an6 = true := by kernel_rfl
theorem k7 : okB Tryz.f7 an7 = true := by kernel_rfl
theorem k8 : okB Tryz.f8 an8 = true := by kernel_rfl
theorem k9 : okB Tryz.f9 an9 = true := by kernel_rfl
theorem k10 : okB Tryz.f10 an10 = true := by kernel_rfl
theorem k11 : okB Tryz.f11 an11 = true := by kernel_rfl
theorem k12 : okB Tryz.f12 an12 = true := by kernel_rfl
theorem k13 : okB Tryz.f13 an13 = true := by kernel_rfl
theorem k14 : okB Tryz.f14 an14 = true := by kernel_rfl
theorem k15 : okB Tryz.f15 an15 = true := by kernel_rfl
theorem k16 : okB Tryz.f16 an16 = true := by kernel_rfl
theorem k17 : okB Tryz.f17 an17 = true := by kernel_rfl
theorem k18 : okB Tryz.f18 an18 = true := by kernel_rfl
theorem k19 : okB Tryz.f19 an19 = true := by kernel_rfl
theorem k20 : okB Tryz.f20 an20 = true := by kernel_rfl
theorem k21 : okB Tryz.f21 an21 = true := by kernel_rfl
theorem k22 : okB Tryz.f22 an22 = true := by kernel_rfl
theorem k23 : okB Tryz.f23 an23 = true := by kernel_rfl
theorem k24 : okB Tryz.f24 an24 = true := by kernel_rfl
theorem k25 : okB Tryz.f25 an25 = true := by kernel_rfl
theorem k26 : okB Tryz.f26 an26 = true := by kernel_rfl
theorem k27 : okB Tryz.f27 an27 = true := by kernel_rfl
theorem k28 : okB Tryz.f28 an28 = true := by kernel_rfl
theorem k29 : okB Tryz.f29 an29 = true := by kernel_rfl
theorem k30 : okB Tryz.f30 an30 = true := by kernel_rfl
theorem k31 : okB Tryz.f31 an31 = true := by kernel_rfl
theorem k32 : okB Tryz.f32 an32 = true := by kernel_rfl
theorem k33 : okB Tryz.f33 an33 = true := by kernel_rfl
theorem k34 : okB Tryz.f34 an34 = true := by kernel_rfl
theorem k35 : okB Tryz.f35 an35 = true := by kernel_rfl
theorem k36 : okB Tryz.f36 an36 = true := by kernel_rfl
theorem k37 : okB Tryz.f37 an37 = true := by kernel_rfl
theorem k38 : okB Tryz.f38 an38 = true := by kernel_rfl
theorem k39 : okB Tryz.f39 an39 = true := by kernel_rfl
theorem k40 : okB Tryz.f40 an40 = true := by kernel_rfl
theorem k41 : okB Tryz.f41 an41 = true := by kernel_rfl
theorem k42 : okB Tryz.f42 an42 = true := by kernel_rfl
theorem k43 : okB Tryz.f43 an43 = true := by kernel_rfl
theorem k44 : okB Tryz.f44 an44 = true := by kernel_rfl
theorem k45 : okB Tryz.f45 an45 = true := by kernel_rfl
theorem k46 : okB Tryz.f46 an46 = true := by kernel_rfl
theorem k47 : okB Tryz.f47 an47 = true := by kernel_rfl
theorem k48 : okB Tryz.f48 an48 = true := by kernel_rfl
theorem k49 : okB Tryz.f49 an49 = true := by kernel_rfl
theorem k50 : okB Tryz.f50 an50 = true := by kernel_rfl
theorem k51 : okB Tryz.f51 an51 = true := by kernel_rfl
theorem k52 : okB Tryz.f52 an52 = true := by kernel_rfl
theorem k53 : okB Tryz.f53 an53 = true := by kernel_rfl
theorem k54 : okB Tryz.f54 an54 = true := by kernel_rfl
theorem k55 : okB Tryz.f55 an55 = true := by kernel_rfl
theorem k56 : okB Tryz.f56 an56 = true := by kernel_rfl
theorem k57 : okB Tryz.f57 an57 = true := by kernel_rfl
theorem k58 : okB Tryz.f58 an58 = true := by kernel_rfl
theorem k59 : okB Tryz.f59 an59 = true := by kernel_rfl
theorem k60 : okB Tryz.f60 an60 = true := by kernel_rfl
theorem k61 : okB Tryz.f61 an61 = true := by kernel_rfl
end Go.Proofs.YtjjiblgcmdbcoaaGreatDoor

/- Sim: the check of each function. Printed by a program (simtab3.py). -/
namespace Go.Proofs.YtjjiblgcmdbcoaaGreatDoor
open Go Go.Sim

theorem k62 : okB Tryz.f62 an62 = true := by kernel_rfl
theorem k63 : okB Tryz.f63 an63 = true := by kernel_rfl
theorem k64 : okB Tryz.f64 an64 = true := by kernel_rfl
theorem k65 : okB Tryz.f65 an65 = true := by kernel_rfl
theorem k66 : okB Tryz.f66 an66 = true := by kernel_rfl
theorem k67 : okB Tryz.f67 an67 = true := by kernel_rfl
theorem k68 : okB Tryz.f68 an68 = true := by kernel_rfl
theorem k69 : okB Tryz.f69 an69 = true := by kernel_rfl
theorem k70 : okB Tryz.f70 an70 = true := by kernel_rfl
theorem k71 : okB Tryz.f71 an71 = true := by kernel_rfl
theorem k72 : okB Tryz.f72 an72 = true := by kernel_rfl
theorem k73 : okB Tryz.f73 an73 = true := by kernel_rfl
theorem k74 : okB Tryz.f74 an74 = true := by kernel_rfl
theorem k75 : okB Tryz.f75 an75 = true := by kernel_rfl
theorem k76 : okB Tryz.f76 an76 = true := by kernel_rfl
theorem k77 : okB Tryz.f77 an77 = true := by kernel_rfl
theorem k78 : okB Tryz.f78 an78 = true := by kernel_rfl
theorem k79 : okB Tryz.f79 an79 = true := by kernel_rfl
theorem k80 : okB Tryz.f80 an80 = true := by kernel_rfl
theorem k81 : okB Tryz.f81 an81 = true := by kernel_rfl
theorem k82 : okB Tryz.f82 an82 = true := by kernel_rfl
theorem k83 : okB Tryz.f83 an83 = true := by kernel_rfl
theorem k84 : okB Tryz.f84 an84 = true := by kernel_rfl
theorem k85 : okB Tryz.f85 an85 = true := by kernel_rfl
theorem k86 : okB Tryz.f86 an86 = true := by kernel_rfl
theorem k87 : okB Tryz.f87 an87 = true := by kernel_rfl
theorem k88 : okB Tryz.f88 an88 = true := by kernel_rfl
theorem k89 : okB Tryz.f89 an89 = true := by kernel_rfl
theorem k90 : okB Tryz.f90 an90 = true := by kernel_rfl
theorem k91 : okB Tryz.f91 an91 = true := by kernel_rfl
theorem k92 : okB Tryz.f92 an92 = true := by kernel_rfl
theorem k93 : okB Tryz.f93 an93 = true := by kernel_rfl
theorem k94 : okB Tryz.f94 an94 = true := by kernel_rfl
theorem k95 : okB Tryz.f95 an95 = true := by kernel_rfl
theorem k96 : okB Tryz.f96 an96 = true := by kernel_rfl
theorem k98 : okB Tryz.f98 an98 = true := by kernel_rfl
theorem k99 : okB Tryz.f99 an99 = true := by kernel_rfl
theorem k100 : okB Tryz.f100 an100 = true := by kernel_rfl
theorem k101 : okB Tryz.f101 an101 = true := by kernel_rfl
theorem k102 : okB Tryz.f102 an102 = true := by kernel_rfl
theorem k103 : okB Tryz.f103 an103 = true := by kernel_rfl
theorem k104 : okB Tryz.f104 an104 = true := by kernel_rfl
theorem k105 : okB Tryz.f105 an105 = true := by kernel_rfl
theorem k106 : okB Tryz.f106 an106 = true := by kernel_rfl
theorem k107 : okB Tryz.f107 an107 = true := by kernel_rfl
theorem k108 : okB Tryz.f108 an108 = true := by kernel_rfl
theorem k109 : okB Tryz.f109 an109 = true := by kernel_rfl
theorem k110 : okB Tryz.f110 an110 = true := by kernel_rfl
theorem k111 : okB Tryz.f111 an111 = true := by kernel_rfl
theorem k112 : okB Tryz.f112 an112 = true := by kernel_rfl
theorem k113 : okB Tryz.f113 an113 = true := by kernel_rfl
theorem k114 : okB Tryz.f114 an114 = true := by kernel_rfl
theorem k115 : okB Tryz.f115 an115 = true := by kernel_rfl
theorem k116 : okB Tryz.f116 an116 = true := by kernel_rfl
theorem k117 : okB Tryz.f117 an117 = true := by kernel_rfl
theorem k118 : okB Tryz.f118 an118 = true := by kernel_rfl
theorem k119 : okB Tryz.f119 an119 = true := by kernel_rfl
theorem k120 : okB Tryz.f120 an120 = true := by kernel_rfl
theorem k121 : okB Tryz.f121 an121 = true := by kernel_rfl
theorem k122 : okB Tryz.f122 an122 = true := by kernel_rfl
end Go.Proofs.YtjjiblgcmdbcoaaGreatDoor

/- Sim: the check of each function. Printed by a program (simtab3.py). -/
namespace Go.Proofs.YtjjiblgcmdbcoaaGreatDoor
open Go Go.Sim

theorem k123 : okB Tryz.f123 an123 = true := by kernel_rfl
theorem k124 : okB Tryz.f124 an124 = true := by kernel_rfl
theorem k125 : okB Tryz.f125 an125 = true := by kernel_rfl
theorem k126 : okB Tryz.f126 an126 = true := by kernel_rfl
theorem k127 : okB Tryz.f127 an127 = true := by kernel_rfl
theorem k128 : okB Tryz.f128 an128 = true := by kernel_rfl
theorem k129 : okB Tryz.f129 an129 = true := by kernel_rfl
theorem k130 : okB Tryz.f130 an130 = true := by kernel_rfl
theorem k131 : okB Tryz.f131 an131 = true := by kernel_rfl
theorem k132 : okB Tryz.f132 an132 = true := by kernel_rfl
theorem k133 : okB Tryz.f133 an133 = true := by kernel_rfl
theorem k134 : okB Tryz.f134 an134 = true := by kernel_rfl
theorem k135 : okB Tryz.f135 an135 = true := by kernel_rfl
theorem k136 : okB Tryz.f136 an136 = true := by kernel_rfl
theorem k137 : okB Tryz.f137 an137 = true := by kernel_rfl
theorem k138 : okB Tryz.f138 an138 = true := by kernel_rfl
theorem k139 : okB Tryz.f139 an139 = true := by kernel_rfl
theorem k140 : okB Tryz.f140 an140 = true := by kernel_rfl
theorem k141 : okB Tryz.f141 an141 = true := by kernel_rfl
theorem k142 : okB Tryz.f142 an142 = true := by kernel_rfl
theorem k143 : okB Tryz.f143 an143 = true := by kernel_rfl
theorem k144 : okB Tryz.f144 an144 = true := by kernel_rfl
theorem k145 : okB Tryz.f145 an145 = true := by kernel_rfl
theorem k146 : okB Tryz.f146 an146 = true := by kernel_rfl
theorem k147 : okB Tryz.f147 an147 = true := by kernel_rfl
theorem k148 : okB Tryz.f148 an148 = true := by kernel_rfl
theorem k149 : okB Tryz.f149 an149 = true := by kernel_rfl
theorem k150 : okB Tryz.f150 an150 = true := by kernel_rfl
theorem k151 : okB Tryz.f151 an151 = true := by kernel_rfl
theorem k152 : okB Tryz.f152 an152 = true := by kernel_rfl
theorem k153 : okB Tryz.f153 an153 = true := by kernel_rfl
theorem k154 : okB Tryz.f154 an154 = true := by kernel_rfl
theorem k155 : okB Tryz.f155 an155 = true := by kernel_rfl
theorem k156 : okB Tryz.f156 an156 = true := by kernel_rfl
theorem k157 : okB Tryz.f157 an157 = true := by kernel_rfl
theorem k158 : okB Tryz.f158 an158 = true := by kernel_rfl
theorem k159 : okB Tryz.f159 an159 = true := by kernel_rfl
theorem k160 : okB Tryz.f160 an160 = true := by kernel_rfl
theorem k161 : okB Tryz.f161 an161 = true := by kernel_rfl
theorem k162 : okB Tryz.f162 an162 = true := by kernel_rfl
theorem k163 : okB Tryz.f163 an163 = true := by kernel_rfl
theorem k164 : okB Tryz.f164 an164 = true := by kernel_rfl
theorem k165 : okB Tryz.f165 an165 = true := by kernel_rfl
theorem k166 : okB Tryz.f166 an166 = true := by kernel_rfl
theorem k167 : okB Tryz.f167 an167 = true := by kernel_rfl
theorem k168 : okB Tryz.f168 an168 = true := by kernel_rfl
theorem k169 : okB Tryz.f169 an169 = true := by kernel_rfl
theorem k170 : okB Tryz.f170 an170 = true := by kernel_rfl
theorem k171 : okB Tryz.f171 an171 = true := by kernel_rfl
theorem k172 : okB Tryz.f172 an172 = true := by kernel_rfl
theorem k173 : okB Tryz.f173 an173 = true := by kernel_rfl
theorem k174 : okB Tryz.f174 an174 = true := by kernel_rfl
theorem k175 : okB Tryz.f175 an175 = true := by kernel_rfl
theorem k176 : okB Tryz.f176 an176 = true := by kernel_rfl
theorem k177 : okB Tryz.f177 an177 = true := by kernel_rfl
theorem k178 : okB Tryz.f178 an178 = true := by kernel_rfl
theorem k179 : okB Tryz.f179 an179 = true := by kernel_rfl
theorem k180 : okB Tryz.f180 an180 = true := by kernel_rfl
theorem k181 : okB Tryz.f181 an181 = true := by kernel_rfl
theorem k182 : okB Tryz.f182 an182 = true := by kernel_rfl
end Go.Proofs.YtjjiblgcmdbcoaaGreatDoor

/- Sim: the check of each function. Printed by a program (simtab3.py). -/
namespace Go.Proofs.YtjjiblgcmdbcoaaGreatDoor
open Go Go.Sim

theorem k183 : okB Tryz.f183 an183 = true := by kernel_rfl
theorem k184 : okB Tryz.f184 an184 = true := by kernel_rfl
theorem k185 : okB Tryz.f185 an185 = true := by kernel_rfl
theorem k186 : okB Tryz.f186 an186 = true := by kernel_rfl
theorem k187 : okB Tryz.f187 an187 = true := by kernel_rfl
theorem k188 : okB Tryz.f188 an188 = true := by kernel_rfl
theorem k189 : okB Tryz.f189 an189 = true := by kernel_rfl
theorem k190 : okB Tryz.f190 an190 = true := by kernel_rfl
theorem k191 : okB Tryz.f191 an191 = true := by kernel_rfl
theorem k192 : okB Tryz.f192 an192 = true := by kernel_rfl
theorem k193 : okB Tryz.f193 an193 = true := by kernel_rfl
theorem k194 : okB Tryz.f194 an194 = true := by kernel_rfl
theorem k195 : okB Tryz.f195 an195 = true := by kernel_rfl
theorem k196 : okB Tryz.f196 an196 = true := by kernel_rfl
theorem k197 : okB Tryz.f197 an197 = true := by kernel_rfl
theorem k198 : okB Tryz.f198 an198 = true := by kernel_rfl
theorem k199 : okB Tryz.f199 an199 = true := by kernel_rfl
theorem k200 : okB Tryz.f200 an200 = true := by kernel_rfl
theorem k201 : okB Tryz.f201 an201 = true := by kernel_rfl
theorem k202 : okB Tryz.f202 an202 = true := by kernel_rfl
theorem k203 : okB Tryz.f203 an203 = true := by kernel_rfl
theorem k204 : okB Tryz.f204 an204 = true := by kernel_rfl
theorem k205 : okB Tryz.f205 an205 = true := by kernel_rfl
theorem k206 : okB Tryz.f206 an206 = true := by kernel_rfl
theorem k207 : okB Tryz.f207 an207 = true := by kernel_rfl
theorem k208 : okB Tryz.f208 an208 = true := by kernel_rfl
theorem k209 : okB Tryz.f209 an209 = true := by kernel_rfl
theorem k210 : okB Tryz.f210 an210 = true := by kernel_rfl
theorem k211 : okB Tryz.f211 an211 = true := by kernel_rfl
theorem k212 : okB Tryz.f212 an212 = true := by kernel_rfl
theorem k214 : okB Tryz.f214 an214 = true := by kernel_rfl
theorem k215 : okB Tryz.f215 an215 = true := by kernel_rfl
theorem k216 : okB Tryz.f216 an216 = true := by kernel_rfl
theorem k217 : okB Tryz.f217 an217 = true := by kernel_rfl
theorem k218 : okB Tryz.f218 an218 = true := by kernel_rfl
theorem k219 : okB Tryz.f219 an219 = true := by kernel_rfl
theorem k220 : okB Tryz.f220 an220 = true := by kernel_rfl
theorem k221 : okB Tryz.f221 an221 = true := by kernel_rfl
theorem k222 : okB Tryz.f222 an222 = true := by kernel_rfl
theorem k223 : okB Tryz.f223 an223 = true := by kernel_rfl
theorem k224 : okB Tryz.f224 an224 = true := by kernel_rfl
theorem k225 : okB Tryz.f225 an225 = true := by kernel_rfl
theorem k226 : okB Tryz.f226 an226 = true := by kernel_rfl
theorem k227 : okB Tryz.f227 an227 = true := by kernel_rfl
theorem k228 : okB Tryz.f228 an228 = true := by kernel_rfl
theorem k229 : okB Tryz.f229 an229 = true := by kernel_rfl
theorem k230 : okB Tryz.f230 an230 = true := by kernel_rfl
theorem k231 : okB Tryz.f231 an231 = true := by kernel_rfl
theorem k232 : okB Tryz.f232 an232 = true := by kernel_rfl
theorem k233 : okB Tryz.f233 an233 = true := by kernel_rfl
theorem k234 : okB Tryz.f234 an234 = true := by kernel_rfl
theorem k235 : okB Tryz.f235 an235 = true := by kernel_rfl
theorem k236 : okB Tryz.f236 an236 = true := by kernel_rfl
theorem k238 : okB Tryz.f238 an238 = true := by kernel_rfl
theorem k239 : okB Tryz.f239 an239 = true := by kernel_rfl
theorem k240 : okB Tryz.f240 an240 = true := by kernel_rfl
theorem k241 : okB Tryz.f241 an241 = true := by kernel_rfl
theorem k242 : okB Tryz.f242 an242 = true := by kernel_rfl
theorem k243 : okB Tryz.f243 an243 = true := by kernel_rfl
theorem k244 : okB Tryz.f244 an244 = true := by kernel_rfl
end Go.Proofs.YtjjiblgcmdbcoaaGreatDoor

/- Sim: the check of each function. Printed by a program (simtab3.py). -/
namespace Go.Proofs.YtjjiblgcmdbcoaaGreatDoor
open Go Go.Sim

theorem k245 : okB Tryz.f245 an245 = true := by kernel_rfl
theorem k246 : okB Tryz.f246 an246 = true := by kernel_rfl
theorem k247 : okB Tryz.f247 an247 = true := by kernel_rfl
theorem k248 : okB Tryz.f248 an248 = true := by kernel_rfl
theorem k249 : okB Tryz.f249 an249 = true := by kernel_rfl
theorem k251 : okB Tryz.f251 an251 = true := by kernel_rfl
theorem k252 : okB Tryz.f252 an252 = true := by kernel_rfl
theorem k253 : okB Tryz.f253 an253 = true := by kernel_rfl
theorem k254 : okB Tryz.f254 an254 = true := by kernel_rfl
theorem k255 : okB Tryz.f255 an255 = true := by kernel_rfl
theorem k256 : okB Tryz.f256 an256 = true := by kernel_rfl
theorem k257 : okB Tryz.f257 an257 = true := by kernel_rfl
theorem k258 : okB Tryz.f258 an258 = true := by kernel_rfl
theorem k259 : okB Tryz.f259 an259 = true := by kernel_rfl
theorem k260 : okB Tryz.f260 an260 = true := by kernel_rfl
theorem k261 : okB Tryz.f261 an261 = true := by kernel_rfl
theorem k262 : okB Tryz.f262 an262 = true := by kernel_rfl
theorem k263 : okB Tryz.f263 an263 = true := by kernel_rfl
theorem k264 : okB Tryz.f264 an264 = true := by kernel_rfl
theorem k265 : okB Tryz.f265 an265 = true := by kernel_rfl
theorem k266 : okB Tryz.f266 an266 = true := by kernel_rfl
theorem k267 : okB Tryz.f267 an267 = true := by kernel_rfl
theorem k268 : okB Tryz.f268 an268 = true := by kernel_rfl
theorem k269 : okB Tryz.f269 an269 = true := by kernel_rfl
theorem k270 : okB Tryz.f270 an270 = true := by kernel_rfl
theorem k271 : okB Tryz.f271 an271 = true := by kernel_rfl
theorem k272 : okB Tryz.f272 an272 = true := by kernel_rfl
theorem k273 : okB Tryz.f273 an273 = true := by kernel_rfl
theorem k274 : okB Tryz.f274 an274 = true := by kernel_rfl
theorem k275 : okB Tryz.f275 an275 = true := by kernel_rfl
theorem k276 : okB Tryz.f276 an276 = true := by kernel_rfl
theorem k277 : okB Tryz.f277 an277 = true := by kernel_rfl
theorem k278 : okB Tryz.f278 an278 = true := by kernel_rfl
theorem k279 : okB Tryz.f279 an279 = true := by kernel_rfl
theorem k280 : okB Tryz.f280 an280 = true := by kernel_rfl
theorem k281 : okB Tryz.f281 an281 = true := by kernel_rfl
theorem k282 : okB Tryz.f282 an282 = true := by kernel_rfl
theorem k283 : okB Tryz.f283 an283 = true := by kernel_rfl
theorem k284 : okB Tryz.f284 an284 = true := by kernel_rfl
theorem k285 : okB Tryz.f285 an285 = true := by kernel_rfl
theorem k286 : okB Tryz.f286 an286 = true := by kernel_rfl
theorem k287 : okB Tryz.f287 an287 = true := by kernel_rfl
theorem k288 : okB Tryz.f288 an288 = true := by kernel_rfl
theorem k289 : okB Tryz.f289 an289 = true := by kernel_rfl
theorem k290 : okB Tryz.f290 an290 = true := by kernel_rfl
theorem k291 : okB Tryz.f291 an291 = true := by kernel_rfl
theorem k292 : okB Tryz.f292 an292 = true := by kernel_rfl
theorem k293 : okB Tryz.f293 an293 = true := by kernel_rfl
theorem k294 : okB Tryz.f294 an294 = true := by kernel_rfl
theorem k295 : okB Tryz.f295 an295 = true := by kernel_rfl
theorem k296 : okB Tryz.f296 an296 = true := by kernel_rfl
theorem k297 : okB Tryz.f297 an297 = true := by kernel_rfl
theorem k298 : okB Tryz.f298 an298 = true := by kernel_rfl
theorem k299 : okB Tryz.f299 an299 = true := by kernel_rfl
theorem k300 : okB Tryz.f300 an300 = true := by kernel_rfl
theorem k301 : okB Tryz.f301 an301 = true := by kernel_rfl
theorem k302 : okB Tryz.f302 an302 = true := by kernel_rfl
theorem k303 : okB Tryz.f303 an303 = true := by kernel_rfl
theorem k304 : okB Tryz.f304 an304 = true := by kernel_rfl
theorem k305 : okB Tryz.f305 an305 = true := by kernel_rfl
end Go.Proofs.YtjjiblgcmdbcoaaGreatDoor

/- Sim: the check of each function. Printed by a program (simtab3.py). -/
namespace Go.Proofs.YtjjiblgcmdbcoaaGreatDoor
open Go Go.Sim

theorem k331 : okB Tryz.f331 an331 = true := by kernel_rfl
end Go.Proofs.YtjjiblgcmdbcoaaGreatDoor
