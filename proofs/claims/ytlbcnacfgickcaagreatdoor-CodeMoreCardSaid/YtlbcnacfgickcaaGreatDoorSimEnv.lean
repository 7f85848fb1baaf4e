/- The functions that the closed calls reach, for the machine over closed values. -/
import Derived.Test.YtlbcnacfgickcaaGreatDoorSimH
import Derived.Test.YtlbcnacfgickcaaGreatDoorProg
set_option linter.unusedVariables false
set_option maxRecDepth 100000
namespace Go.Proofs.YtlbcnacfgickcaaGreatDoor.Sim
open Go
noncomputable def tree : Tree := .node (.node (.node (.node (.node (.node (.node (.node (.leaf) 8 Tryz.f8 (.leaf)) 9 Tryz.f9 (.leaf)) 10 Tryz.f10 (.node (.leaf) 11 Tryz.f11 (.leaf))) 12 Tryz.f12 (.node (.node (.node (.leaf) 16 Tryz.f16 (.leaf)) 18 Tryz.f18 (.leaf)) 20 Tryz.f20 (.node (.leaf) 21 Tryz.f21 (.leaf)))) 22 Tryz.f22 (.node (.node (.node (.node (.leaf) 23 Tryz.f23 (.leaf)) 24 Tryz.f24 (.leaf)) 25 Tryz.f25 (.node (.leaf) 31 Tryz.f31 (.leaf))) 32 Tryz.f32 (.node (.node (.leaf) 33 Tryz.f33 (.leaf)) 34 Tryz.f34 (.node (.leaf) 35 Tryz.f35 (.leaf))))) 36 Tryz.f36 (.node (.node (.node (.node (.node (.leaf) 37 Tryz.f37 (.leaf)) 40 Tryz.f40 (.leaf)) 41 Tryz.f41 (.node (.leaf) 42 Tryz.f42 (.leaf))) 43 Tryz.f43 (.node (.node (.node (.leaf) 44 Tryz.f44 (.leaf)) 45 Tryz.f45 (.leaf)) 46 Tryz.f46 (.node (.leaf) 47 Tryz.f47 (.leaf)))) 48 Tryz.f48 (.node (.node (.node (.node (.leaf) 49 Tryz.f49 (.leaf)) 50 Tryz.f50 (.leaf)) 51 Tryz.f51 (.node (.leaf) 60 Tryz.f60 (.leaf))) 61 Tryz.f61 (.node (.node (.leaf) 62 Tryz.f62 (.leaf)) 63 Tryz.f63 (.node (.leaf) 64 Tryz.f64 (.leaf)))))) 65 Tryz.f65 (.node (.node (.node (.node (.node (.node (.leaf) 66 Tryz.f66 (.leaf)) 69 Tryz.f69 (.leaf)) 70 Tryz.f70 (.node (.leaf) 71 Tryz.f71 (.leaf))) 72 Tryz.f72 (.node (.node (.node (.leaf) 73 Tryz.f73 (.leaf)) 74 Tryz.f74 (.leaf)) 82 Tryz.f82 (.node (.leaf) 84 Tryz.f84 (.leaf)))) 85 Tryz.f85 (.node (.node (.node (.node (.leaf) 86 Tryz.f86 (.leaf)) 87 Tryz.f87 (.leaf)) 88 Tryz.f88 (.node (.leaf) 93 Tryz.f93 (.leaf))) 94 Tryz.f94 (.node (.node (.leaf) 95 Tryz.f95 (.leaf)) 96 Tryz.f96 (.node (.leaf) 101 Tryz.f101 (.leaf))))) 102 Tryz.f102 (.node (.node (.node (.node (.node (.leaf) 103 Tryz.f103 (.leaf)) 104 Tryz.f104 (.leaf)) 105 Tryz.f105 (.node (.leaf) 106 Tryz.f106 (.leaf))) 107 Tryz.f107 (.node (.node (.node (.leaf) 108 Tryz.f108 (.leaf)) 109 Tryz.f109 (.leaf)) 110 Tryz.f110 (.node (.leaf) 113 Tryz.f113 (.leaf)))) 114 Tryz.f114 (.node (.node (.node (.node (.leaf) 115 Tryz.f115 (.leaf)) 116 Tryz.f116 (.leaf)) 120 Tryz.f120 (.node (.leaf) 121 Tryz.f121 (.leaf))) 122 Tryz.f122 (.node (.node (.leaf) 123 Tryz.f123 (.leaf)) 124 Tryz.f124 (.node (.leaf) 125 Tryz.f125 (.leaf))))))) 126 Tryz.f126 (.node (.node (.node (.node (.node (.node (.node (.leaf) 127 Tryz.f127 (.leaf)) 131 Tryz.f131 (.leaf)) 132 Tryz.f132 (.node (.leaf) 133 Tryz.f133 (.leaf))) 134 Tryz.f134 (.node (.node (.node (.leaf) 135 Tryz.f135 (.leaf)) 136 Tryz.f136 (.leaf)) 137 Tryz.f137 (.node (.leaf) 138 Tryz.f138 (.leaf)))) 139 Tryz.f139 (.node (.node (.node (.node (.leaf) 140 Tryz.f140 (.leaf)) 143 Tryz.f143 (.leaf)) 145 Tryz.f145 (.node (.leaf) 146 Tryz.f146 (.leaf))) 147 Tryz.f147 (.node (.node (.leaf) 148 Tryz.f148 (.leaf)) 149 Tryz.f149 (.node (.leaf) 150 Tryz.f150 (.leaf))))) 151 Tryz.f151 (.node (.node (.node (.node (.node (.leaf) 152 Tryz.f152 (.leaf)) 153 Tryz.f153 (.leaf)) 154 Tryz.f154 (.node (.leaf) 155 Tryz.f155 (.leaf))) 156 Tryz.f156 (.node (.node (.node (.leaf) 157 Tryz.f157 (.leaf)) 158 Tryz.f158 (.leaf)) 159 Tryz.f159 (.node (.leaf) 160 Tryz.f160 (.leaf)))) 161 Tryz.f161 (.node (.node (.node (.node (.leaf) 162 Tryz.f162 (.leaf)) 163 Tryz.f163 (.leaf)) 164 Tryz.f164 (.node (.leaf) 165 Tryz.f165 (.leaf))) 166 Tryz.f166 (.node (.node (.leaf) 168 Tryz.f168 (.leaf)) 169 Tryz.f169 (.node (.leaf) 171 Tryz.f171 (.leaf)))))) 172 Tryz.f172 (.node (.node (.node (.node (.node (.node (.leaf) 175 Tryz.f175 (.leaf)) 176 Tryz.f176 (.leaf)) 177 Tryz.f177 (.node (.leaf) 178 Tryz.f178 (.leaf))) 179 Tryz.f179 (.node (.node (.node (.leaf) 180 Tryz.f180 (.leaf)) 181 Tryz.f181 (.leaf)) 182 Tryz.f182 (.node (.leaf) 183 Tryz.f183 (.leaf)))) 184 Tryz.f184 (.node (.node (.node (.node (.leaf) 185 Tryz.f185 (.leaf)) 186 Tryz.f186 (.leaf)) 187 Tryz.f187 (.node (.leaf) 189 Tryz.f189 (.leaf))) 190 Tryz.f190 (.node (.node (.leaf) 191 Tryz.f191 (.leaf)) 192 Tryz.f192 (.node (.leaf) 193 Tryz.f193 (.leaf))))) 194 Tryz.f194 (.node (.node (.node (.node (.node (.leaf) 195 Tryz.f195 (.leaf)) 196 Tryz.f196 (.leaf)) 197 Tryz.f197 (.node (.leaf) 198 Tryz.f198 (.leaf))) 199 Tryz.f199 (.node (.node (.node (.leaf) 200 Tryz.f200 (.leaf)) 201 Tryz.f201 (.leaf)) 202 Tryz.f202 (.node (.leaf) 203 Tryz.f203 (.leaf)))) 204 Tryz.f204 (.node (.node (.node (.node (.leaf) 205 Tryz.f205 (.leaf)) 206 Tryz.f206 (.leaf)) 207 Tryz.f207 (.node (.leaf) 208 Tryz.f208 (.leaf))) 209 Tryz.f209 (.node (.node (.leaf) 210 Tryz.f210 (.leaf)) 211 Tryz.f211 (.node (.leaf) 212 Tryz.f212 (.leaf)))))))
theorem tree_ok : tree.All fun k F => Tryz.prog.funcs[k]? = some F ∧ (F.name == "runtime.NumGoroutine") = false := ⟨⟨⟨⟨⟨⟨⟨⟨⟨⟩, ⟨Tryz.func8, by decide +kernel⟩, ⟨⟩⟩, ⟨Tryz.func9, by decide +kernel⟩, ⟨⟩⟩, ⟨Tryz.func10, by decide +kernel⟩, ⟨⟨⟩, ⟨Tryz.func11, by decide +kernel⟩, ⟨⟩⟩⟩, ⟨Tryz.func12, by decide +kernel⟩, ⟨⟨⟨⟨⟩, ⟨Tryz.func16, by decide +kernel⟩, ⟨⟩⟩, ⟨Tryz.func18, by decide +kernel⟩, ⟨⟩⟩, ⟨Tryz.func20, by decide +kernel⟩, ⟨⟨⟩, ⟨Tryz.func21, by decide +kernel⟩, ⟨⟩⟩⟩⟩, ⟨Tryz.func22, by decide +kernel⟩, ⟨⟨⟨⟨⟨⟩, ⟨Tryz.func23, by decide +kernel⟩, ⟨⟩⟩, ⟨Tryz.func24, by decide +kernel⟩, ⟨⟩⟩, ⟨Tryz.func25, by decide +kernel⟩, ⟨⟨⟩, ⟨Tryz.func31, by decide +kernel⟩, ⟨⟩⟩⟩, ⟨Tryz.func32, by decide +kernel⟩, ⟨⟨⟨⟩, ⟨Tryz.func33, by decide +kernel⟩, ⟨⟩⟩, ⟨Tryz.func34, by decide +kernel⟩, ⟨⟨⟩, ⟨Tryz.func35, by decide +kernel⟩, ⟨⟩⟩⟩⟩⟩, ⟨Tryz.func36, by decide +kernel⟩, ⟨⟨⟨⟨⟨⟨⟩, ⟨Tryz.func37, by decide +kernel⟩, ⟨⟩⟩, ⟨Tryz.func40, by decide +kernel⟩, ⟨⟩⟩, ⟨Tryz.func41, by decide +kernel⟩, ⟨⟨⟩, ⟨Tryz.func42, by decide +kernel⟩, ⟨⟩⟩⟩, ⟨Tryz.func43, by decide +kernel⟩, ⟨⟨⟨⟨⟩, ⟨Tryz.func44, by decide +kernel⟩, ⟨⟩⟩, ⟨Tryz.func45, by decide +kernel⟩, ⟨⟩⟩, ⟨Tryz.func46, by decide +kernel⟩, ⟨⟨⟩, ⟨Tryz.func47, by decide +kernel⟩, ⟨⟩⟩⟩⟩, ⟨Tryz.func48, by decide +kernel⟩, ⟨⟨⟨⟨⟨⟩, ⟨Tryz.func49, by decide +kernel⟩, ⟨⟩⟩, ⟨Tryz.func50, by decide +kernel⟩, ⟨⟩⟩, ⟨Tryz.func51, by decide +kernel⟩, ⟨⟨⟩, ⟨Tryz.func60, by decide +kernel⟩, ⟨⟩⟩⟩, ⟨Tryz.func61, by decide +kernel⟩, ⟨⟨⟨⟩, ⟨Tryz.func62, by decide +kernel⟩, ⟨⟩⟩, ⟨Tryz.func63, by decide +kernel⟩, ⟨⟨⟩, ⟨Tryz.func64, by decide +kernel⟩, ⟨⟩⟩⟩⟩⟩⟩, ⟨Tryz.func65, by decide +kernel⟩, ⟨⟨⟨⟨⟨⟨⟨⟩, ⟨Tryz.func66, by decide +kernel⟩, ⟨⟩⟩, ⟨Tryz.func69, by decide +kernel⟩, ⟨⟩⟩, ⟨Tryz.func70, by decide +kernel⟩, ⟨⟨⟩, ⟨Tryz.func71, by decide +kernel⟩, ⟨⟩⟩⟩, ⟨Tryz.func72, by decide +kernel⟩, ⟨⟨⟨⟨⟩, ⟨Tryz.func73, by decide +kernel⟩, ⟨⟩⟩, ⟨Tryz.func74, by decide +kernel⟩, ⟨⟩⟩, ⟨Tryz.func82, by decide +kernel⟩, ⟨⟨⟩, ⟨Tryz.func84, by decide +kernel⟩, ⟨⟩⟩⟩⟩, ⟨Tryz.func85, by decide +kernel⟩, ⟨⟨⟨⟨⟨⟩, ⟨Tryz.func86, by decide +kernel⟩, ⟨⟩⟩, ⟨Tryz.func87, by decide +kernel⟩, ⟨⟩⟩, ⟨Tryz.func88, by decide +kernel⟩, ⟨⟨⟩, ⟨Tryz.func93, by decide +kernel⟩, ⟨⟩⟩⟩, ⟨Tryz.func94, by decide +kernel⟩, ⟨⟨⟨⟩, ⟨Tryz.func95, by decide +kernel⟩, ⟨⟩⟩, ⟨Tryz.func96, by decide +kernel⟩, ⟨⟨⟩, ⟨Tryz.func101, by decide +kernel⟩, ⟨⟩⟩⟩⟩⟩, ⟨Tryz.func102, by decide +kernel⟩, ⟨⟨⟨⟨⟨⟨⟩, ⟨Tryz.func103, by decide +kernel⟩, ⟨⟩⟩, ⟨Tryz.func104, by decide +kernel⟩, ⟨⟩⟩, ⟨Tryz.func105, by decide +kernel⟩, ⟨⟨⟩, ⟨Tryz.func106, by decide +kernel⟩, ⟨⟩⟩⟩, ⟨Tryz.func107, by decide +kernel⟩, ⟨⟨⟨⟨⟩, ⟨Tryz.func108, by decide +kernel⟩, ⟨⟩⟩, ⟨Tryz.func109, by decide +kernel⟩, ⟨⟩⟩, ⟨Tryz.func110, by decide +kernel⟩, ⟨⟨⟩, ⟨Tryz.func113, by decide +kernel⟩, ⟨⟩⟩⟩⟩, ⟨Tryz.func114, by decide +kernel⟩, ⟨⟨⟨⟨⟨⟩, ⟨Tryz.func115, by decide +kernel⟩, ⟨⟩⟩, ⟨Tryz.func116, by decide +kernel⟩, ⟨⟩⟩, ⟨Tryz.func120, by decide +kernel⟩, ⟨⟨⟩, ⟨Tryz.func121, by decide +kernel⟩, ⟨⟩⟩⟩, ⟨Tryz.func122, by decide +kernel⟩, ⟨⟨⟨⟩, ⟨Tryz.func123, by decide +kernel⟩, ⟨⟩⟩, ⟨Tryz.func124, by decide +kernel⟩, ⟨⟨⟩, ⟨Tryz.func125, by decide +kernel⟩, ⟨⟩⟩⟩⟩⟩⟩⟩, ⟨Tryz.func126, by decide +kernel⟩, ⟨⟨⟨⟨⟨⟨⟨⟨⟩, ⟨Tryz.func127, by decide +kernel⟩, ⟨⟩⟩, ⟨Tryz.func131, by decide +kernel⟩, ⟨⟩⟩, ⟨Tryz.func132, by decide +kernel⟩, ⟨⟨⟩, ⟨Tryz.func133, by decide +kernel⟩, ⟨⟩⟩⟩, ⟨Tryz.func134, by decide +kernel⟩, ⟨⟨⟨⟨⟩, ⟨Tryz.func135, by decide +kernel⟩, ⟨⟩⟩, ⟨Tryz.func136, by decide +kernel⟩, ⟨⟩⟩, ⟨Tryz.func137, by decide +kernel⟩, ⟨⟨⟩, ⟨Tryz.func138, by decide +kernel⟩, ⟨⟩⟩⟩⟩, ⟨Tryz.func139, by decide +kernel⟩, ⟨⟨⟨⟨⟨⟩, ⟨Tryz.func140, by decide +kernel⟩, ⟨⟩⟩, ⟨Tryz.func143, by decide +kernel⟩, ⟨⟩⟩, ⟨Tryz.func145, by decide +kernel⟩, ⟨⟨⟩, ⟨Tryz.func146, by decide +kernel⟩, ⟨⟩⟩⟩, ⟨Tryz.func147, by decide +kernel⟩, ⟨⟨⟨⟩, ⟨Tryz.func148, by decide +kernel⟩, ⟨⟩⟩, ⟨Tryz.func149, by decide +kernel⟩, ⟨⟨⟩, ⟨Tryz.func150, by decide +kernel⟩, ⟨⟩⟩⟩⟩⟩, ⟨Tryz.func151, by decide +kernel⟩, ⟨⟨⟨⟨⟨⟨⟩, ⟨Tryz.func152, by decide +kernel⟩, ⟨⟩⟩, ⟨Tryz.func153, by decide +kernel⟩, ⟨⟩⟩, ⟨Tryz.func154, by decide +kernel⟩, ⟨⟨⟩, ⟨Tryz.func155, by decide +kernel⟩, ⟨⟩⟩⟩, ⟨Tryz.func156, by decide +kernel⟩, ⟨⟨⟨⟨⟩, ⟨Tryz.func157, by decide +kernel⟩, ⟨⟩⟩, ⟨Tryz.func158, by decide +kernel⟩, ⟨⟩⟩, ⟨Tryz.func159, by decide +kernel⟩, ⟨⟨⟩, ⟨Tryz.func160, by decide +kernel⟩, ⟨⟩⟩⟩⟩, ⟨Tryz.func161, by decide +kernel⟩, ⟨⟨⟨⟨⟨⟩, ⟨Tryz.func162, by decide +kernel⟩, ⟨⟩⟩, ⟨Tryz.func163, by decide +kernel⟩, ⟨⟩⟩, ⟨Tryz.func164, by decide +kernel⟩, ⟨⟨⟩, ⟨Tryz.func165, by decide +kernel⟩, ⟨⟩⟩⟩, ⟨Tryz.func166, by decide +kernel⟩, ⟨⟨⟨⟩, ⟨Tryz.func168, by decide +kernel⟩, ⟨⟩⟩, ⟨Tryz.func169, by decide +kernel⟩, ⟨⟨⟩, ⟨Tryz.func171, by decide +kernel⟩, ⟨⟩⟩⟩⟩⟩⟩, ⟨Tryz.func172, by decide +kernel⟩, ⟨⟨⟨⟨⟨⟨⟨⟩, ⟨Tryz.func175, by decide +kernel⟩, ⟨⟩⟩, ⟨Tryz.func176, by decide +kernel⟩, ⟨⟩⟩, ⟨Tryz.func177, by decide +kernel⟩, ⟨⟨⟩, ⟨Tryz.func178, by decide +kernel⟩, ⟨⟩⟩⟩, ⟨Tryz.func179, by decide +kernel⟩, ⟨⟨⟨⟨⟩, ⟨Tryz.func180, by decide +kernel⟩, ⟨⟩⟩, ⟨Tryz.func181, by decide +kernel⟩, ⟨⟩⟩, ⟨Tryz.func182, by decide +kernel⟩, ⟨⟨⟩, ⟨Tryz.func183, by decide +kernel⟩, ⟨⟩⟩⟩⟩, ⟨Tryz.func184, by decide +kernel⟩, ⟨⟨⟨⟨⟨⟩, ⟨Tryz.func185, by decide +kernel⟩, ⟨⟩⟩, ⟨Tryz.func186, by decide +kernel⟩, ⟨⟩⟩, ⟨Tryz.func187, by decide +kernel⟩, ⟨⟨⟩, ⟨Tryz.func189, by decide +kernel⟩, ⟨⟩⟩⟩, ⟨Tryz.func190, by decide +kernel⟩, ⟨⟨⟨⟩, ⟨Tryz.func191, by decide +kernel⟩, ⟨⟩⟩, ⟨Tryz.func192, by decide +kernel⟩, ⟨⟨⟩, ⟨Tryz.func193, by decide +kernel⟩, ⟨⟩⟩⟩⟩⟩, ⟨Tryz.func194, by decide +kernel⟩, ⟨⟨⟨⟨⟨⟨⟩, ⟨Tryz.func195, by decide +kernel⟩, ⟨⟩⟩, ⟨Tryz.func196, by decide +kernel⟩, ⟨⟩⟩, ⟨Tryz.func197, by decide +kernel⟩, ⟨⟨⟩, ⟨Tryz.func198, by decide +kernel⟩, ⟨⟩⟩⟩, ⟨Tryz.func199, by decide +kernel⟩, ⟨⟨⟨⟨⟩, ⟨Tryz.func200, by decide +kernel⟩, ⟨⟩⟩, ⟨Tryz.func201, by decide +kernel⟩, ⟨⟩⟩, ⟨Tryz.func202, by decide +kernel⟩, ⟨⟨⟩, ⟨Tryz.func203, by decide +kernel⟩, ⟨⟩⟩⟩⟩, ⟨Tryz.func204, by decide +kernel⟩, ⟨⟨⟨⟨⟨⟩, ⟨Tryz.func205, by decide +kernel⟩, ⟨⟩⟩, ⟨Tryz.func206, by decide +kernel⟩, ⟨⟩⟩, ⟨Tryz.func207, by decide +kernel⟩, ⟨⟨⟩, ⟨Tryz.func208, by decide +kernel⟩, ⟨⟩⟩⟩, ⟨Tryz.func209, by decide +kernel⟩, ⟨⟨⟨⟩, ⟨Tryz.func210, by decide +kernel⟩, ⟨⟩⟩, ⟨Tryz.func211, by decide +kernel⟩, ⟨⟨⟩, ⟨Tryz.func212, by decide +kernel⟩, ⟨⟩⟩⟩⟩⟩⟩⟩⟩
noncomputable def exts (f : FuncId) : Option (Array Value → Sem Value) := if f = 92 then some Extern.MathFloatBits.float64bits else if f = 144 then some Extern.MathFloatBits.float64frombits else if f = 167 then some Extern.BytealgCount.count else if f = 170 then some Extern.BytealgIndex.index else if f = 173 then some Extern.MathFloatBits.float32bits else if f = 174 then some Extern.MathFloatBits.float64bits else if f = 188 then some Extern.BytealgIndexByte.indexByte else none
theorem exts_ok : ∀ f e, exts f = some e → ∀ args w, (callFunc f args).run Tryz.prog w = (do pure (.value (← e args)) : Sem Next).run Tryz.prog w := by
  intro f e h args w
  unfold exts at h
  split at h
  · rename_i hf
    subst hf
    cases h
    exact ext_run Tryz.func92 rfl rfl rfl rfl args w
  split at h
  · rename_i hf
    subst hf
    cases h
    exact ext_run Tryz.func144 rfl rfl rfl rfl args w
  split at h
  · rename_i hf
    subst hf
    cases h
    exact ext_run Tryz.func167 rfl rfl rfl rfl args w
  split at h
  · rename_i hf
    subst hf
    cases h
    exact ext_run Tryz.func170 rfl rfl rfl rfl args w
  split at h
  · rename_i hf
    subst hf
    cases h
    exact ext_run Tryz.func173 rfl rfl rfl rfl args w
  split at h
  · rename_i hf
    subst hf
    cases h
    exact ext_run Tryz.func174 rfl rfl rfl rfl args w
  split at h
  · rename_i hf
    subst hf
    cases h
    exact ext_run Tryz.func188 rfl rfl rfl rfl args w
  cases h
def idfs (f : FuncId) : Bool := Nat.beq f 83
theorem idfs_ok : ∀ f, idfs f = true → ∀ x w, (callFunc f #[x]).run Tryz.prog w = .ok (.value x) w := by
  intro f h x w
  unfold idfs at h
  have := Nat.eq_of_beq_eq_true h
  subst this
  rw [ext_run (e := Extern.AbiNoEscape.same) Tryz.func83 rfl rfl rfl rfl #[x] w]
  rfl
def mnzs (f : FuncId) : Option TypeId := bif Nat.beq f 128 then some 5 else none
theorem mnzs_ok : ∀ f e, mnzs f = some e → ∀ (n : Int) w, 0 ≤ n → n ≤ 1000000 → ∃ (c : Nat) (w' : World), n.toNat ≤ c ∧ ∃ l : List Value, l.length = c ∧ w'.heap = w.heap ∧ w'.os = w.os ∧ w'.tape = w.tape ∧ w'.output = w.output ∧ (callFunc f #[.int .i64 n]).run Tryz.prog w = .ok (.value (.slice (some ⟨w.heap.size, 0, none⟩) n.toNat c)) (w'.alloc (.cells l.toArray e)) := by
  intro f e h n w h0 h1
  unfold mnzs at h
  cases hf : Nat.beq f 128 with
  | false => rw [hf] at h; cases h
  | true =>
    rw [hf] at h
    cases h
    have := Nat.eq_of_beq_eq_true hf
    subst this
    exact mnz_run Tryz.func128 rfl rfl rfl rfl (t := 69) rfl (by kernel_rfl) n w h0 h1
noncomputable def env : Env Tryz.prog := ⟨tree.get, exts, idfs, mnzs, fun f F h => tree.get_all tree_ok h, exts_ok, idfs_ok, mnzs_ok⟩
end Go.Proofs.YtlbcnacfgickcaaGreatDoor.Sim
