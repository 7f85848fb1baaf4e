/- Texts of this claim, put together. -/
import Derived.Test.YtmpmbnmldmpmiaaGreatDoorSimH
import Derived.Test.YtmpmbnmldmpmiaaGreatDoorProg
import Derived.Test.YtmpmbnmldmpmiaaGreatDoorSimT
set_option linter.unusedVariables false
set_option maxRecDepth 100000
namespace Go.Proofs.YtmpmbnmldmpmiaaGreatDoor.Sim
open Go
noncomputable def tree : Tree := .node (.node (.node (.node (.node (.node (.node (.node (.leaf) 12 Tryz.f12 (.leaf)) 13 Tryz.f13 (.leaf)) 14 Tryz.f14 (.node (.node (.leaf) 17 Tryz.f17 (.leaf)) 18 Tryz.f18 (.leaf))) 20 Tryz.f20 (.node (.node (.node (.leaf) 22 Tryz.f22 (.leaf)) 24 Tryz.f24 (.leaf)) 26 Tryz.f26 (.node (.node (.leaf) 28 Tryz.f28 (.leaf)) 30 Tryz.f30 (.leaf)))) 33 Tryz.f33 (.node (.node (.node (.node (.leaf) 34 Tryz.f34 (.leaf)) 39 Tryz.f39 (.leaf)) 45 Tryz.f45 (.node (.node (.leaf) 46 Tryz.f46 (.leaf)) 47 Tryz.f47 (.leaf))) 48 Tryz.f48 (.node (.node (.node (.leaf) 49 Tryz.f49 (.leaf)) 50 Tryz.f50 (.leaf)) 51 Tryz.f51 (.node (.leaf) 52 Tryz.f52 (.leaf))))) 53 Tryz.f53 (.node (.node (.node (.node (.node (.leaf) 54 Tryz.f54 (.leaf)) 55 Tryz.f55 (.leaf)) 56 Tryz.f56 (.node (.node (.leaf) 59 Tryz.f59 (.leaf)) 60 Tryz.f60 (.leaf))) 62 Tryz.f62 (.node (.node (.node (.leaf) 63 Tryz.f63 (.leaf)) 64 Tryz.f64 (.leaf)) 65 Tryz.f65 (.node (.node (.leaf) 66 Tryz.f66 (.leaf)) 67 Tryz.f67 (.leaf)))) 68 Tryz.f68 (.node (.node (.node (.node (.leaf) 73 Tryz.f73 (.leaf)) 74 Tryz.f74 (.leaf)) 76 Tryz.f76 (.node (.node (.leaf) 77 Tryz.f77 (.leaf)) 83 Tryz.f83 (.leaf))) 86 Tryz.f86 (.node (.node (.node (.leaf) 90 Tryz.f90 (.leaf)) 91 Tryz.f91 (.leaf)) 92 Tryz.f92 (.node (.leaf) 93 Tryz.f93 (.leaf)))))) 94 Tryz.f94 (.node (.node (.node (.node (.node (.node (.leaf) 95 Tryz.f95 (.leaf)) 96 Tryz.f96 (.leaf)) 97 Tryz.f97 (.node (.node (.leaf) 98 Tryz.f98 (.leaf)) 99 Tryz.f99 (.leaf))) 100 Tryz.f100 (.node (.node (.node (.leaf) 101 Tryz.f101 (.leaf)) 102 Tryz.f102 (.leaf)) 103 Tryz.f103 (.node (.node (.leaf) 104 Tryz.f104 (.leaf)) 105 Tryz.f105 (.leaf)))) 106 Tryz.f106 (.node (.node (.node (.node (.leaf) 107 Tryz.f107 (.leaf)) 108 Tryz.f108 (.leaf)) 109 Tryz.f109 (.node (.node (.leaf) 110 Tryz.f110 (.leaf)) 113 Tryz.f113 (.leaf))) 114 Tryz.f114 (.node (.node (.node (.leaf) 116 Tryz.f116 (.leaf)) 119 Tryz.f119 (.leaf)) 120 Tryz.f120 (.node (.leaf) 121 Tryz.f121 (.leaf))))) 122 Tryz.f122 (.node (.node (.node (.node (.node (.leaf) 123 Tryz.f123 (.leaf)) 128 Tryz.f128 (.leaf)) 129 Tryz.f129 (.node (.node (.leaf) 130 Tryz.f130 (.leaf)) 131 Tryz.f131 (.leaf))) 132 Tryz.f132 (.node (.node (.node (.leaf) 133 Tryz.f133 (.leaf)) 134 Tryz.f134 (.leaf)) 135 Tryz.f135 (.node (.leaf) 136 Tryz.f136 (.leaf)))) 138 Tryz.f138 (.node (.node (.node (.node (.leaf) 141 Tryz.f141 (.leaf)) 142 Tryz.f142 (.leaf)) 143 Tryz.f143 (.node (.node (.leaf) 153 Tryz.f153 (.leaf)) 154 Tryz.f154 (.leaf))) 155 Tryz.f155 (.node (.node (.node (.leaf) 156 Tryz.f156 (.leaf)) 157 Tryz.f157 (.leaf)) 158 Tryz.f158 (.node (.leaf) 159 Tryz.f159 (.leaf))))))) 160 Tryz.f160 (.node (.node (.node (.node (.node (.node (.node (.leaf) 161 Tryz.f161 (.leaf)) 162 Tryz.f162 (.leaf)) 164 Tryz.f164 (.node (.node (.leaf) 165 Tryz.f165 (.leaf)) 166 Tryz.f166 (.leaf))) 167 Tryz.f167 (.node (.node (.node (.leaf) 168 Tryz.f168 (.leaf)) 169 Tryz.f169 (.leaf)) 170 Tryz.f170 (.node (.node (.leaf) 171 Tryz.f171 (.leaf)) 172 Tryz.f172 (.leaf)))) 173 Tryz.f173 (.node (.node (.node (.node (.leaf) 174 Tryz.f174 (.leaf)) 175 Tryz.f175 (.leaf)) 176 Tryz.f176 (.node (.node (.leaf) 177 Tryz.f177 (.leaf)) 178 Tryz.f178 (.leaf))) 179 Tryz.f179 (.node (.node (.node (.leaf) 180 Tryz.f180 (.leaf)) 181 Tryz.f181 (.leaf)) 182 Tryz.f182 (.node (.leaf) 183 Tryz.f183 (.leaf))))) 184 Tryz.f184 (.node (.node (.node (.node (.node (.leaf) 185 Tryz.f185 (.leaf)) 186 Tryz.f186 (.leaf)) 187 Tryz.f187 (.node (.node (.leaf) 188 Tryz.f188 (.leaf)) 189 Tryz.f189 (.leaf))) 191 Tryz.f191 (.node (.node (.node (.leaf) 192 Tryz.f192 (.leaf)) 194 Tryz.f194 (.leaf)) 195 Tryz.f195 (.node (.leaf) 196 Tryz.f196 (.leaf)))) 197 Tryz.f197 (.node (.node (.node (.node (.leaf) 198 Tryz.f198 (.leaf)) 199 Tryz.f199 (.leaf)) 200 Tryz.f200 (.node (.node (.leaf) 201 Tryz.f201 (.leaf)) 202 Tryz.f202 (.leaf))) 203 Tryz.f203 (.node (.node (.node (.leaf) 205 Tryz.f205 (.leaf)) 207 Tryz.f207 (.leaf)) 208 Tryz.f208 (.node (.leaf) 209 Tryz.f209 (.leaf)))))) 210 Tryz.f210 (.node (.node (.node (.node (.node (.node (.leaf) 211 Tryz.f211 (.leaf)) 213 Tryz.f213 (.leaf)) 216 Tryz.f216 (.node (.node (.leaf) 217 Tryz.f217 (.leaf)) 218 Tryz.f218 (.leaf))) 219 Tryz.f219 (.node (.node (.node (.leaf) 220 Tryz.f220 (.leaf)) 221 Tryz.f221 (.leaf)) 222 Tryz.f222 (.node (.node (.leaf) 223 Tryz.f223 (.leaf)) 224 Tryz.f224 (.leaf)))) 225 Tryz.f225 (.node (.node (.node (.node (.leaf) 226 Tryz.f226 (.leaf)) 227 Tryz.f227 (.leaf)) 228 Tryz.f228 (.node (.node (.leaf) 229 Tryz.f229 (.leaf)) 230 Tryz.f230 (.leaf))) 231 Tryz.f231 (.node (.node (.node (.leaf) 232 Tryz.f232 (.leaf)) 233 Tryz.f233 (.leaf)) 234 Tryz.f234 (.node (.leaf) 235 Tryz.f235 (.leaf))))) 236 Tryz.f236 (.node (.node (.node (.node (.node (.leaf) 237 Tryz.f237 (.leaf)) 238 Tryz.f238 (.leaf)) 239 Tryz.f239 (.node (.node (.leaf) 240 Tryz.f240 (.leaf)) 241 Tryz.f241 (.leaf))) 242 Tryz.f242 (.node (.node (.node (.leaf) 243 Tryz.f243 (.leaf)) 244 Tryz.f244 (.leaf)) 245 Tryz.f245 (.node (.leaf) 246 Tryz.f246 (.leaf)))) 247 Tryz.f247 (.node (.node (.node (.node (.leaf) 248 Tryz.f248 (.leaf)) 249 Tryz.f249 (.leaf)) 250 Tryz.f250 (.node (.node (.leaf) 251 Tryz.f251 (.leaf)) 252 Tryz.f252 (.leaf))) 253 Tryz.f253 (.node (.node (.node (.leaf) 254 Tryz.f254 (.leaf)) 255 Tryz.f255 (.leaf)) 256 Tryz.f256 (.node (.leaf) 257 Tryz.f257 (.leaf)))))))
theorem tree_ok : tree.All fun k F => Tryz.prog.funcs[k]? = some F ∧ (F.name == "runtime.NumGoroutine") = false := ⟨⟨⟨⟨⟨⟨⟨⟨⟨⟩, ⟨Tryz.func12, by decide +kernel⟩, ⟨⟩⟩, ⟨Tryz.func13, by decide +kernel⟩, ⟨⟩⟩, ⟨Tryz.func14, by decide +kernel⟩, ⟨⟨⟨⟩, ⟨Tryz.func17, by decide +kernel⟩, ⟨⟩⟩, ⟨Tryz.func18, by decide +kernel⟩, ⟨⟩⟩⟩, ⟨Tryz.func20, by decide +kernel⟩, ⟨⟨⟨⟨⟩, ⟨Tryz.func22, by decide +kernel⟩, ⟨⟩⟩, ⟨Tryz.func24, by decide +kernel⟩, ⟨⟩⟩, ⟨Tryz.func26, by decide +kernel⟩, ⟨⟨⟨⟩, ⟨Tryz.func28, by decide +kernel⟩, ⟨⟩⟩, ⟨Tryz.func30, by decide +kernel⟩, ⟨⟩⟩⟩⟩, ⟨Tryz.func33, by decide +kernel⟩, ⟨⟨⟨⟨⟨⟩, ⟨Tryz.func34, by decide +kernel⟩, ⟨⟩⟩, ⟨Tryz.func39, by decide +kernel⟩, ⟨⟩⟩, ⟨Tryz.func45, by decide +kernel⟩, ⟨⟨⟨⟩, ⟨Tryz.func46, by decide +kernel⟩, ⟨⟩⟩, ⟨Tryz.func47, by decide +kernel⟩, ⟨⟩⟩⟩, ⟨Tryz.func48, by decide +kernel⟩, ⟨⟨⟨⟨⟩, ⟨Tryz.func49, by decide +kernel⟩, ⟨⟩⟩, ⟨Tryz.func50, by decide +kernel⟩, ⟨⟩⟩, ⟨Tryz.func51, by decide +kernel⟩, ⟨⟨⟩, ⟨Tryz.func52, by decide +kernel⟩, ⟨⟩⟩⟩⟩⟩, ⟨Tryz.func53, by decide +kernel⟩, ⟨⟨⟨⟨⟨⟨⟩, ⟨Tryz.func54, by decide +kernel⟩, ⟨⟩⟩, ⟨Tryz.func55, by decide +kernel⟩, ⟨⟩⟩, ⟨Tryz.func56, by decide +kernel⟩, ⟨⟨⟨⟩, ⟨Tryz.func59, by decide +kernel⟩, ⟨⟩⟩, ⟨Tryz.func60, by decide +kernel⟩, ⟨⟩⟩⟩, ⟨Tryz.func62, by decide +kernel⟩, ⟨⟨⟨⟨⟩, ⟨Tryz.func63, by decide +kernel⟩, ⟨⟩⟩, ⟨Tryz.func64, by decide +kernel⟩, ⟨⟩⟩, ⟨Tryz.func65, by decide +kernel⟩, ⟨⟨⟨⟩, ⟨Tryz.func66, by decide +kernel⟩, ⟨⟩⟩, ⟨Tryz.func67, by decide +kernel⟩, ⟨⟩⟩⟩⟩, ⟨Tryz.func68, by decide +kernel⟩, ⟨⟨⟨⟨⟨⟩, ⟨Tryz.func73, by decide +kernel⟩, ⟨⟩⟩, ⟨Tryz.func74, by decide +kernel⟩, ⟨⟩⟩, ⟨Tryz.func76, by decide +kernel⟩, ⟨⟨⟨⟩, ⟨Tryz.func77, by decide +kernel⟩, ⟨⟩⟩, ⟨Tryz.func83, by decide +kernel⟩, ⟨⟩⟩⟩, ⟨Tryz.func86, by decide +kernel⟩, ⟨⟨⟨⟨⟩, ⟨Tryz.func90, by decide +kernel⟩, ⟨⟩⟩, ⟨Tryz.func91, by decide +kernel⟩, ⟨⟩⟩, ⟨Tryz.func92, by decide +kernel⟩, ⟨⟨⟩, ⟨Tryz.func93, by decide +kernel⟩, ⟨⟩⟩⟩⟩⟩⟩, ⟨Tryz.func94, by decide +kernel⟩, ⟨⟨⟨⟨⟨⟨⟨⟩, ⟨Tryz.func95, by decide +kernel⟩, ⟨⟩⟩, ⟨Tryz.func96, by decide +kernel⟩, ⟨⟩⟩, ⟨Tryz.func97, by decide +kernel⟩, ⟨⟨⟨⟩, ⟨Tryz.func98, by decide +kernel⟩, ⟨⟩⟩, ⟨Tryz.func99, by decide +kernel⟩, ⟨⟩⟩⟩, ⟨Tryz.func100, by decide +kernel⟩, ⟨⟨⟨⟨⟩, ⟨Tryz.func101, by decide +kernel⟩, ⟨⟩⟩, ⟨Tryz.func102, by decide +kernel⟩, ⟨⟩⟩, ⟨Tryz.func103, by decide +kernel⟩, ⟨⟨⟨⟩, ⟨Tryz.func104, by decide +kernel⟩, ⟨⟩⟩, ⟨Tryz.func105, by decide +kernel⟩, ⟨⟩⟩⟩⟩, ⟨Tryz.func106, by decide +kernel⟩, ⟨⟨⟨⟨⟨⟩, ⟨Tryz.func107, by decide +kernel⟩, ⟨⟩⟩, ⟨Tryz.func108, by decide +kernel⟩, ⟨⟩⟩, ⟨Tryz.func109, by decide +kernel⟩, ⟨⟨⟨⟩, ⟨Tryz.func110, by decide +kernel⟩, ⟨⟩⟩, ⟨Tryz.func113, by decide +kernel⟩, ⟨⟩⟩⟩, ⟨Tryz.func114, by decide +kernel⟩, ⟨⟨⟨⟨⟩, ⟨Tryz.func116, by decide +kernel⟩, ⟨⟩⟩, ⟨Tryz.func119, by decide +kernel⟩, ⟨⟩⟩, ⟨Tryz.func120, by decide +kernel⟩, ⟨⟨⟩, ⟨Tryz.func121, by decide +kernel⟩, ⟨⟩⟩⟩⟩⟩, ⟨Tryz.func122, by decide +kernel⟩, ⟨⟨⟨⟨⟨⟨⟩, ⟨Tryz.func123, by decide +kernel⟩, ⟨⟩⟩, ⟨Tryz.func128, by decide +kernel⟩, ⟨⟩⟩, ⟨Tryz.func129, by decide +kernel⟩, ⟨⟨⟨⟩, ⟨Tryz.func130, by decide +kernel⟩, ⟨⟩⟩, ⟨Tryz.func131, by decide +kernel⟩, ⟨⟩⟩⟩, ⟨Tryz.func132, by decide +kernel⟩, ⟨⟨⟨⟨⟩, ⟨Tryz.func133, by decide +kernel⟩, ⟨⟩⟩, ⟨Tryz.func134, by decide +kernel⟩, ⟨⟩⟩, ⟨Tryz.func135, by decide +kernel⟩, ⟨⟨⟩, ⟨Tryz.func136, by decide +kernel⟩, ⟨⟩⟩⟩⟩, ⟨Tryz.func138, by decide +kernel⟩, ⟨⟨⟨⟨⟨⟩, ⟨Tryz.func141, by decide +kernel⟩, ⟨⟩⟩, ⟨Tryz.func142, by decide +kernel⟩, ⟨⟩⟩, ⟨Tryz.func143, by decide +kernel⟩, ⟨⟨⟨⟩, ⟨Tryz.func153, by decide +kernel⟩, ⟨⟩⟩, ⟨Tryz.func154, by decide +kernel⟩, ⟨⟩⟩⟩, ⟨Tryz.func155, by decide +kernel⟩, ⟨⟨⟨⟨⟩, ⟨Tryz.func156, by decide +kernel⟩, ⟨⟩⟩, ⟨Tryz.func157, by decide +kernel⟩, ⟨⟩⟩, ⟨Tryz.func158, by decide +kernel⟩, ⟨⟨⟩, ⟨Tryz.func159, by decide +kernel⟩, ⟨⟩⟩⟩⟩⟩⟩⟩, ⟨Tryz.func160, by decide +kernel⟩, ⟨⟨⟨⟨⟨⟨⟨⟨⟩, ⟨Tryz.func161, by decide +kernel⟩, ⟨⟩⟩, ⟨Tryz.func162, by decide +kernel⟩, ⟨⟩⟩, ⟨Tryz.func164, by decide +kernel⟩, ⟨⟨⟨⟩, ⟨Tryz.func165, by decide +kernel⟩, ⟨⟩⟩, ⟨Tryz.func166, by decide +kernel⟩, ⟨⟩⟩⟩, ⟨Tryz.func167, by decide +kernel⟩, ⟨⟨⟨⟨⟩, ⟨Tryz.func168, by decide +kernel⟩, ⟨⟩⟩, ⟨Tryz.func169, by decide +kernel⟩, ⟨⟩⟩, ⟨Tryz.func170, by decide +kernel⟩, ⟨⟨⟨⟩, ⟨Tryz.func171, by decide +kernel⟩, ⟨⟩⟩, ⟨Tryz.func172, by decide +kernel⟩, ⟨⟩⟩⟩⟩, ⟨Tryz.func173, by decide +kernel⟩, ⟨⟨⟨⟨⟨⟩, ⟨Tryz.func174, by decide +kernel⟩, ⟨⟩⟩, ⟨Tryz.func175, by decide +kernel⟩, ⟨⟩⟩, ⟨Tryz.func176, by decide +kernel⟩, ⟨⟨⟨⟩, ⟨Tryz.func177, by decide +kernel⟩, ⟨⟩⟩, ⟨Tryz.func178, by decide +kernel⟩, ⟨⟩⟩⟩, ⟨Tryz.func179, by decide +kernel⟩, ⟨⟨⟨⟨⟩, ⟨Tryz.func180, by decide +kernel⟩, ⟨⟩⟩, ⟨Tryz.func181, by decide +kernel⟩, ⟨⟩⟩, ⟨Tryz.func182, by decide +kernel⟩, ⟨⟨⟩, ⟨Tryz.func183, by decide +kernel⟩, ⟨⟩⟩⟩⟩⟩, ⟨Tryz.func184, by decide +kernel⟩, ⟨⟨⟨⟨⟨⟨⟩, ⟨Tryz.func185, by decide +kernel⟩, ⟨⟩⟩, ⟨Tryz.func186, by decide +kernel⟩, ⟨⟩⟩, ⟨Tryz.func187, by decide +kernel⟩, ⟨⟨⟨⟩, ⟨Tryz.func188, by decide +kernel⟩, ⟨⟩⟩, ⟨Tryz.func189, by decide +kernel⟩, ⟨⟩⟩⟩, ⟨Tryz.func191, by decide +kernel⟩, ⟨⟨⟨⟨⟩, ⟨Tryz.func192, by decide +kernel⟩, ⟨⟩⟩, ⟨Tryz.func194, by decide +kernel⟩, ⟨⟩⟩, ⟨Tryz.func195, by decide +kernel⟩, ⟨⟨⟩, ⟨Tryz.func196, by decide +kernel⟩, ⟨⟩⟩⟩⟩, ⟨Tryz.func197, by decide +kernel⟩, ⟨⟨⟨⟨⟨⟩, ⟨Tryz.func198, by decide +kernel⟩, ⟨⟩⟩, ⟨Tryz.func199, by decide +kernel⟩, ⟨⟩⟩, ⟨Tryz.func200, by decide +kernel⟩, ⟨⟨⟨⟩, ⟨Tryz.func201, by decide +kernel⟩, ⟨⟩⟩, ⟨Tryz.func202, by decide +kernel⟩, ⟨⟩⟩⟩, ⟨Tryz.func203, by decide +kernel⟩, ⟨⟨⟨⟨⟩, ⟨Tryz.func205, by decide +kernel⟩, ⟨⟩⟩, ⟨Tryz.func207, by decide +kernel⟩, ⟨⟩⟩, ⟨Tryz.func208, by decide +kernel⟩, ⟨⟨⟩, ⟨Tryz.func209, by decide +kernel⟩, ⟨⟩⟩⟩⟩⟩⟩, ⟨Tryz.func210, by decide +kernel⟩, ⟨⟨⟨⟨⟨⟨⟨⟩, ⟨Tryz.func211, by decide +kernel⟩, ⟨⟩⟩, ⟨Tryz.func213, by decide +kernel⟩, ⟨⟩⟩, ⟨Tryz.func216, by decide +kernel⟩, ⟨⟨⟨⟩, ⟨Tryz.func217, by decide +kernel⟩, ⟨⟩⟩, ⟨Tryz.func218, by decide +kernel⟩, ⟨⟩⟩⟩, ⟨Tryz.func219, by decide +kernel⟩, ⟨⟨⟨⟨⟩, ⟨Tryz.func220, by decide +kernel⟩, ⟨⟩⟩, ⟨Tryz.func221, by decide +kernel⟩, ⟨⟩⟩, ⟨Tryz.func222, by decide +kernel⟩, ⟨⟨⟨⟩, ⟨Tryz.func223, by decide +kernel⟩, ⟨⟩⟩, ⟨Tryz.func224, by decide +kernel⟩, ⟨⟩⟩⟩⟩, ⟨Tryz.func225, by decide +kernel⟩, ⟨⟨⟨⟨⟨⟩, ⟨Tryz.func226, by decide +kernel⟩, ⟨⟩⟩, ⟨Tryz.func227, by decide +kernel⟩, ⟨⟩⟩, ⟨Tryz.func228, by decide +kernel⟩, ⟨⟨⟨⟩, ⟨Tryz.func229, by decide +kernel⟩, ⟨⟩⟩, ⟨Tryz.func230, by decide +kernel⟩, ⟨⟩⟩⟩, ⟨Tryz.func231, by decide +kernel⟩, ⟨⟨⟨⟨⟩, ⟨Tryz.func232, by decide +kernel⟩, ⟨⟩⟩, ⟨Tryz.func233, by decide +kernel⟩, ⟨⟩⟩, ⟨Tryz.func234, by decide +kernel⟩, ⟨⟨⟩, ⟨Tryz.func235, by decide +kernel⟩, ⟨⟩⟩⟩⟩⟩, ⟨Tryz.func236, by decide +kernel⟩, ⟨⟨⟨⟨⟨⟨⟩, ⟨Tryz.func237, by decide +kernel⟩, ⟨⟩⟩, ⟨Tryz.func238, by decide +kernel⟩, ⟨⟩⟩, ⟨Tryz.func239, by decide +kernel⟩, ⟨⟨⟨⟩, ⟨Tryz.func240, by decide +kernel⟩, ⟨⟩⟩, ⟨Tryz.func241, by decide +kernel⟩, ⟨⟩⟩⟩, ⟨Tryz.func242, by decide +kernel⟩, ⟨⟨⟨⟨⟩, ⟨Tryz.func243, by decide +kernel⟩, ⟨⟩⟩, ⟨Tryz.func244, by decide +kernel⟩, ⟨⟩⟩, ⟨Tryz.func245, by decide +kernel⟩, ⟨⟨⟩, ⟨Tryz.func246, by decide +kernel⟩, ⟨⟩⟩⟩⟩, ⟨Tryz.func247, by decide +kernel⟩, ⟨⟨⟨⟨⟨⟩, ⟨Tryz.func248, by decide +kernel⟩, ⟨⟩⟩, ⟨Tryz.func249, by decide +kernel⟩, ⟨⟩⟩, ⟨Tryz.func250, by decide +kernel⟩, ⟨⟨⟨⟩, ⟨Tryz.func251, by decide +kernel⟩, ⟨⟩⟩, ⟨Tryz.func252, by decide +kernel⟩, ⟨⟩⟩⟩, ⟨Tryz.func253, by decide +kernel⟩, ⟨⟨⟨⟨⟩, ⟨Tryz.func254, by decide +kernel⟩, ⟨⟩⟩, ⟨Tryz.func255, by decide +kernel⟩, ⟨⟩⟩, ⟨Tryz.func256, by decide +kernel⟩, ⟨⟨⟩, ⟨Tryz.func257, by decide +kernel⟩, ⟨⟩⟩⟩⟩⟩⟩⟩⟩
noncomputable def exts (f : FuncId) : Option (Array Value → Sem Value) := if f = 80 then some (Extern.MathFloatBits.float64frombits) else if f = 81 then some (Extern.MathFloatBits.float64bits) else if f = 82 then some (Extern.MathFloor.toIntegral "math.archTrunc" .zero) else if f = 124 then some (Extern.BytealgCompare.compare) else if f = 140 then some (Extern.MathFloor.toIntegral "math.archCeil" .up) else if f = 190 then some (Extern.MathFloor.toIntegral "math.archFloor" .down) else if f = 193 then some (Extern.BytealgIndex.index) else if f = 204 then some (Extern.BytealgCount.count) else if f = 212 then some (Extern.BytealgIndexByte.indexByte) else if f = 214 then some (Extern.MathFloatBits.float32bits) else if f = 215 then some (Extern.MathFloatBits.float64bits) else none
theorem exts_ok : ∀ f e, exts f = some e → ∀ args w, (callFunc f args).run Tryz.prog w = (do pure (.value (← e args)) : Sem Next).run Tryz.prog w := by
  intro f e h args w
  unfold exts at h
  split at h
  · rename_i hf
    subst hf
    cases h
    exact ext_run Tryz.func80 rfl rfl rfl rfl args w
  split at h
  · rename_i hf
    subst hf
    cases h
    exact ext_run Tryz.func81 rfl rfl rfl rfl args w
  split at h
  · rename_i hf
    subst hf
    cases h
    exact ext_run Tryz.func82 rfl rfl rfl rfl args w
  split at h
  · rename_i hf
    subst hf
    cases h
    exact ext_run Tryz.func124 rfl rfl rfl rfl args w
  split at h
  · rename_i hf
    subst hf
    cases h
    exact ext_run Tryz.func140 rfl rfl rfl rfl args w
  split at h
  · rename_i hf
    subst hf
    cases h
    exact ext_run Tryz.func190 rfl rfl rfl rfl args w
  split at h
  · rename_i hf
    subst hf
    cases h
    exact ext_run Tryz.func193 rfl rfl rfl rfl args w
  split at h
  · rename_i hf
    subst hf
    cases h
    exact ext_run Tryz.func204 rfl rfl rfl rfl args w
  split at h
  · rename_i hf
    subst hf
    cases h
    exact ext_run Tryz.func212 rfl rfl rfl rfl args w
  split at h
  · rename_i hf
    subst hf
    cases h
    exact ext_run Tryz.func214 rfl rfl rfl rfl args w
  split at h
  · rename_i hf
    subst hf
    cases h
    exact ext_run Tryz.func215 rfl rfl rfl rfl args w
  cases h
def idfs (f : FuncId) : Bool := Nat.beq f 163
theorem idfs_ok : ∀ f, idfs f = true → ∀ x w, (callFunc f #[x]).run Tryz.prog w = .ok (.value x) w := by
  intro f h x w
  unfold idfs at h
  have := Nat.eq_of_beq_eq_true h
  subst this
  rw [ext_run (e := Extern.AbiNoEscape.same) Tryz.func163 rfl rfl rfl rfl #[x] w]
  rfl
def mnzs (f : FuncId) : Option TypeId := bif Nat.beq f 206 then some 5 else none
theorem mnzs_ok : ∀ f e, mnzs f = some e → ∀ (n : Int) w, 0 ≤ n → n ≤ 1000000 → ∃ (c : Nat) (w' : World), n.toNat ≤ c ∧ ∃ l : List Value, l.length = c ∧ w'.heap = w.heap ∧ w'.os = w.os ∧ w'.tape = w.tape ∧ w'.output = w.output ∧ (callFunc f #[.int .i64 n]).run Tryz.prog w = .ok (.value (.slice (some ⟨w.heap.size, 0, none⟩) n.toNat c)) (w'.alloc (.cells l.toArray e)) := by
  intro f e h n w h0 h1
  unfold mnzs at h
  cases hf : Nat.beq f 206 with
  | false => rw [hf] at h; cases h
  | true =>
    rw [hf] at h
    cases h
    have := Nat.eq_of_beq_eq_true hf
    subst this
    exact mnz_run Tryz.func206 rfl rfl rfl rfl (t := 77) rfl (by kernel_rfl) n w h0 h1
noncomputable def env : Env Tryz.prog := ⟨tree.get, exts, idfs, mnzs, fun f F h => tree.get_all tree_ok h, exts_ok, idfs_ok, mnzs_ok⟩
end Go.Proofs.YtmpmbnmldmpmiaaGreatDoor.Sim
set_option maxRecDepth 100000
namespace Go.Proofs.YtmpmbnmldmpmiaaGreatDoor.Sim
open Go Go.RowKit
def isTrue : V → Bool
  | .s (.bool b) => b
  | _ => false
theorem head_eval : ((callX Tryz.prog T env (drawX Tryz.prog T) 100000 1000 12 [] ⟨[], 0, 0⟩).map fun x => isTrue x.1) = some true := by decide +kernel
end Go.Proofs.YtmpmbnmldmpmiaaGreatDoor.Sim
set_option maxRecDepth 100000
namespace Go.Proofs.YtmpmbnmldmpmiaaGreatDoor.Sim
open Go Go.RowKit
theorem isTrue_rel {ν : Val} {v : V} {u : Value} (h : isTrue v = true) (hr : V.rel ν v u) : u = .bool true := by
  cases v with
  | s x =>
    cases x with
    | bool b =>
      simp only [isTrue] at h
      subst h
      simpa [V.rel] using hr
    | _ => cases h
  | _ => cases h
theorem head_calls {w : World} (hT : Tab T w) : Calls Tryz.prog 12 #[] w fun e w' => e = .returned (.bool true) ∧ Below w.heap.size w w' := by
  have h := head_eval
  cases hx : callX Tryz.prog T env (drawX Tryz.prog T) 100000 1000 12 [] ⟨[], 0, 0⟩ with
  | none => rw [hx] at h; cases h
  | some x =>
    rw [hx] at h
    obtain ⟨v, S'⟩ := x
    simp only [Option.map_some, Option.some.injEq] at h
    refine (callX_calls Tryz.prog T env (by kernel_rfl) hT _ _ hx (us := []) (by simp [V.rels]) (by rw [Tryz.func12]; rfl)).mono ?_
    rintro e w' ⟨u, ν, rfl, hr, hb⟩
    exact ⟨by rw [isTrue_rel h hr], hb⟩
end Go.Proofs.YtmpmbnmldmpmiaaGreatDoor.Sim
namespace Go.Proofs.YtmpmbnmldmpmiaaGreatDoor.A
open Go Go.RowKit
end Go.Proofs.YtmpmbnmldmpmiaaGreatDoor.A
