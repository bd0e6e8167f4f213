/- It is the program's code. -/
import Derived.Test.YthljpgljbpdmjaaGreatDoorChecked
import Derived.KernelRfl
import Derived.Test.YthljpgljbpdmjaaGreatDoorE2
import Derived.Test.YthljpgljbpdmjaaGreatDoorIr15e
set_option linter.unusedVariables false
set_option linter.unusedSimpArgs false
set_option linter.unnecessarySimpa false
namespace Go.Proofs.H15e
open Go Go.Eng
set_option maxRecDepth 1000000
theorem ok6 : FunOk Tryz.prog 6 F6 := ⟨Tryz.f6, _, hintF Hn6, K6, [], Tryz.func6, by kernel_rfl, rfl, by kernel_rfl, by kernel_rfl⟩
theorem ok10 : FunOk Tryz.prog 10 F10 := ⟨Tryz.f10, _, hintF Hn10, K10, [], Tryz.func10, by kernel_rfl, rfl, by kernel_rfl, by kernel_rfl⟩
theorem ok11 : FunOk Tryz.prog 11 F11 := ⟨Tryz.f11, _, hintF Hn11, K11, [], Tryz.func11, by kernel_rfl, rfl, by kernel_rfl, by kernel_rfl⟩
theorem ok25 : FunOk Tryz.prog 25 F25 := ⟨Tryz.f25, _, hintF Hn25, K25, [], Tryz.func25, by kernel_rfl, rfl, by kernel_rfl, by kernel_rfl⟩
theorem ok26 : FunOk Tryz.prog 26 F26 := ⟨Tryz.f26, _, hintF Hn26, K26, [], Tryz.func26, by kernel_rfl, rfl, by kernel_rfl, by kernel_rfl⟩
theorem ok20 : FunOk Tryz.prog 20 F20 := ⟨Tryz.f20, _, hintF Hn20, K20, [], Tryz.func20, by kernel_rfl, rfl, by kernel_rfl, by kernel_rfl⟩
theorem ok21 : FunOk Tryz.prog 21 F21 := ⟨Tryz.f21, _, hintF Hn21, K21, [], Tryz.func21, by kernel_rfl, rfl, by kernel_rfl, by kernel_rfl⟩
theorem ok8 : FunOk Tryz.prog 8 F8 := ⟨Tryz.f8, _, hintF Hn8, K8, [], Tryz.func8, by kernel_rfl, rfl, by kernel_rfl, by kernel_rfl⟩
theorem ok12 : FunOk Tryz.prog 12 F12 := ⟨Tryz.f12, _, hintF Hn12, K12, [], Tryz.func12, by kernel_rfl, rfl, by kernel_rfl, by kernel_rfl⟩
theorem ok18 : FunOk Tryz.prog 18 F18 := ⟨Tryz.f18, _, hintF Hn18, K18, [], Tryz.func18, by kernel_rfl, rfl, by kernel_rfl, by kernel_rfl⟩
theorem ok15 : FunOk Tryz.prog 15 F15 := ⟨Tryz.f15, _, hintF Hn15, K15, [], Tryz.func15, by kernel_rfl, rfl, by kernel_rfl, by kernel_rfl⟩
theorem ok41 : FunOk Tryz.prog 41 F41 := ⟨Tryz.f41, _, hintF Hn41, K41, [], Tryz.func41, by kernel_rfl, rfl, by kernel_rfl, by kernel_rfl⟩
theorem ok42 : FunOk Tryz.prog 42 F42 := ⟨Tryz.f42, _, hintF Hn42, K42, [], Tryz.func42, by kernel_rfl, rfl, by kernel_rfl, by kernel_rfl⟩
theorem ok43 : FunOk Tryz.prog 43 F43 := ⟨Tryz.f43, _, hintF Hn43, K43, [], Tryz.func43, by kernel_rfl, rfl, by kernel_rfl, by kernel_rfl⟩
theorem ok45 : FunOk Tryz.prog 45 F45 := ⟨Tryz.f45, _, hintF Hn45, K45, [], Tryz.func45, by kernel_rfl, rfl, by kernel_rfl, by kernel_rfl⟩
theorem ok46 : FunOk Tryz.prog 46 F46 := ⟨Tryz.f46, _, hintF Hn46, K46, [], Tryz.func46, by kernel_rfl, rfl, by kernel_rfl, by kernel_rfl⟩
theorem ok14 : FunOk Tryz.prog 14 F14 := ⟨Tryz.f14, _, hintF Hn14, K14, [], Tryz.func14, by kernel_rfl, rfl, by kernel_rfl, by kernel_rfl⟩
theorem ok17 : FunOk Tryz.prog 17 F17 := ⟨Tryz.f17, _, hintF Hn17, K17, [], Tryz.func17, by kernel_rfl, rfl, by kernel_rfl, by kernel_rfl⟩
theorem ok39 : FunOk Tryz.prog 39 F39 := ⟨Tryz.f39, _, hintF Hn39, K39, [], Tryz.func39, by kernel_rfl, rfl, by kernel_rfl, by kernel_rfl⟩
theorem ok27 : FunOk Tryz.prog 27 F27 := ⟨Tryz.f27, _, hintF Hn27, K27, [], Tryz.func27, by kernel_rfl, rfl, by kernel_rfl, by kernel_rfl⟩
theorem ok28 : FunOk Tryz.prog 28 F28 := ⟨Tryz.f28, _, hintF Hn28, K28, [], Tryz.func28, by kernel_rfl, rfl, by kernel_rfl, by kernel_rfl⟩
theorem ok29 : FunOk Tryz.prog 29 F29 := ⟨Tryz.f29, _, hintF Hn29, K29, [], Tryz.func29, by kernel_rfl, rfl, by kernel_rfl, by kernel_rfl⟩
theorem ok30 : FunOk Tryz.prog 30 F30 := ⟨Tryz.f30, _, hintF Hn30, K30, [], Tryz.func30, by kernel_rfl, rfl, by kernel_rfl, by kernel_rfl⟩
theorem ok40 : FunOk Tryz.prog 40 F40 := ⟨Tryz.f40, _, hintF Hn40, K40, [], Tryz.func40, by kernel_rfl, rfl, by kernel_rfl, by kernel_rfl⟩
theorem ok38 : FunOk Tryz.prog 38 F38 := ⟨Tryz.f38, _, hintF Hn38, K38, [], Tryz.func38, by kernel_rfl, rfl, by kernel_rfl, by kernel_rfl⟩
theorem ok44 : FunOk Tryz.prog 44 F44 := ⟨Tryz.f44, _, hintF Hn44, K44, [], Tryz.func44, by kernel_rfl, rfl, by kernel_rfl, by kernel_rfl⟩
theorem ok50 : FunOk Tryz.prog 50 F50 := ⟨Tryz.f50, _, hintF Hn50, K50, [], Tryz.func50, by kernel_rfl, rfl, by kernel_rfl, by kernel_rfl⟩
theorem ok51 : FunOk Tryz.prog 51 F51 := ⟨Tryz.f51, _, hintF Hn51, K51, [], Tryz.func51, by kernel_rfl, rfl, by kernel_rfl, by kernel_rfl⟩
theorem ok52 : FunOk Tryz.prog 52 F52 := ⟨Tryz.f52, _, hintF Hn52, K52, [], Tryz.func52, by kernel_rfl, rfl, by kernel_rfl, by kernel_rfl⟩
theorem ok53 : FunOk Tryz.prog 53 F53 := ⟨Tryz.f53, _, hintF Hn53, K53, [], Tryz.func53, by kernel_rfl, rfl, by kernel_rfl, by kernel_rfl⟩
theorem ok54 : FunOk Tryz.prog 54 F54 := ⟨Tryz.f54, _, hintF Hn54, K54, [], Tryz.func54, by kernel_rfl, rfl, by kernel_rfl, by kernel_rfl⟩
theorem ok55 : FunOk Tryz.prog 55 F55 := ⟨Tryz.f55, _, hintF Hn55, K55, [], Tryz.func55, by kernel_rfl, rfl, by kernel_rfl, by kernel_rfl⟩
theorem ok58 : FunOk Tryz.prog 58 F58 := ⟨Tryz.f58, _, hintF Hn58, K58, [], Tryz.func58, by kernel_rfl, rfl, by kernel_rfl, by kernel_rfl⟩
theorem ok59 : FunOk Tryz.prog 59 F59 := ⟨Tryz.f59, _, hintF Hn59, K59, [], Tryz.func59, by kernel_rfl, rfl, by kernel_rfl, by kernel_rfl⟩
theorem ok69 : FunOk Tryz.prog 69 F69 := ⟨Tryz.f69, _, hintF Hn69, K69, [], Tryz.func69, by kernel_rfl, rfl, by kernel_rfl, by kernel_rfl⟩
theorem ok68 : FunOk Tryz.prog 68 F68 := ⟨Tryz.f68, _, hintF Hn68, K68, [], Tryz.func68, by kernel_rfl, rfl, by kernel_rfl, by kernel_rfl⟩
theorem ok70 : FunOk Tryz.prog 70 F70 := ⟨Tryz.f70, _, hintF Hn70, K70, [], Tryz.func70, by kernel_rfl, rfl, by kernel_rfl, by kernel_rfl⟩
theorem ok71 : FunOk Tryz.prog 71 F71 := ⟨Tryz.f71, _, hintF Hn71, K71, [], Tryz.func71, by kernel_rfl, rfl, by kernel_rfl, by kernel_rfl⟩
theorem ok72 : FunOk Tryz.prog 72 F72 := ⟨Tryz.f72, _, hintF Hn72, K72, [], Tryz.func72, by kernel_rfl, rfl, by kernel_rfl, by kernel_rfl⟩
theorem ok62 : FunOk Tryz.prog 62 F62 := ⟨Tryz.f62, _, hintF Hn62, K62, [], Tryz.func62, by kernel_rfl, rfl, by kernel_rfl, by kernel_rfl⟩
theorem ok73 : FunOk Tryz.prog 73 F73 := ⟨Tryz.f73, _, hintF Hn73, K73, [], Tryz.func73, by kernel_rfl, rfl, by kernel_rfl, by kernel_rfl⟩
theorem ok75 : FunOk Tryz.prog 75 F75 := ⟨Tryz.f75, _, hintF Hn75, K75, [], Tryz.func75, by kernel_rfl, rfl, by kernel_rfl, by kernel_rfl⟩
theorem ok84 : FunOk Tryz.prog 84 F84 := ⟨Tryz.f84, _, hintF Hn84, K84, [], Tryz.func84, by kernel_rfl, rfl, by kernel_rfl, by kernel_rfl⟩
theorem ok85 : FunOk Tryz.prog 85 F85 := ⟨Tryz.f85, _, hintF Hn85, K85, [], Tryz.func85, by kernel_rfl, rfl, by kernel_rfl, by kernel_rfl⟩
theorem ok86 : FunOk Tryz.prog 86 F86 := ⟨Tryz.f86, _, hintF Hn86, K86, [], Tryz.func86, by kernel_rfl, rfl, by kernel_rfl, by kernel_rfl⟩
theorem ok87 : FunOk Tryz.prog 87 F87 := ⟨Tryz.f87, _, hintF Hn87, K87, [], Tryz.func87, by kernel_rfl, rfl, by kernel_rfl, by kernel_rfl⟩
theorem ok88 : FunOk Tryz.prog 88 F88 := ⟨Tryz.f88, _, hintF Hn88, K88, [], Tryz.func88, by kernel_rfl, rfl, by kernel_rfl, by kernel_rfl⟩
theorem ok89 : FunOk Tryz.prog 89 F89 := ⟨Tryz.f89, _, hintF Hn89, K89, [], Tryz.func89, by kernel_rfl, rfl, by kernel_rfl, by kernel_rfl⟩
theorem ok90 : FunOk Tryz.prog 90 F90 := ⟨Tryz.f90, _, hintF Hn90, K90, [], Tryz.func90, by kernel_rfl, rfl, by kernel_rfl, by kernel_rfl⟩
theorem ok109 : FunOk Tryz.prog 109 F109 := ⟨Tryz.f109, _, hintF Hn109, K109, [], Tryz.func109, by kernel_rfl, rfl, by kernel_rfl, by kernel_rfl⟩
theorem ok108 : FunOk Tryz.prog 108 F108 := ⟨Tryz.f108, _, hintF Hn108, K108, [], Tryz.func108, by kernel_rfl, rfl, by kernel_rfl, by kernel_rfl⟩
theorem ok110 : FunOk Tryz.prog 110 F110 := ⟨Tryz.f110, _, hintF Hn110, K110, [], Tryz.func110, by kernel_rfl, rfl, by kernel_rfl, by kernel_rfl⟩
theorem ok111 : FunOk Tryz.prog 111 F111 := ⟨Tryz.f111, _, hintF Hn111, K111, [], Tryz.func111, by kernel_rfl, rfl, by kernel_rfl, by kernel_rfl⟩
theorem ok74 : FunOk Tryz.prog 74 F74 := ⟨Tryz.f74, _, hintF Hn74, K74, [], Tryz.func74, by kernel_rfl, rfl, by kernel_rfl, by kernel_rfl⟩
theorem ok112 : FunOk Tryz.prog 112 F112 := ⟨Tryz.f112, _, hintF Hn112, K112, [], Tryz.func112, by kernel_rfl, rfl, by kernel_rfl, by kernel_rfl⟩
theorem ok113 : FunOk Tryz.prog 113 F113 := ⟨Tryz.f113, _, hintF Hn113, K113, [], Tryz.func113, by kernel_rfl, rfl, by kernel_rfl, by kernel_rfl⟩
theorem ok133 : FunOk Tryz.prog 133 F133 := ⟨Tryz.f133, _, hintF Hn133, K133, [], Tryz.func133, by kernel_rfl, rfl, by kernel_rfl, by kernel_rfl⟩
theorem ok134 : FunOk Tryz.prog 134 F134 := ⟨Tryz.f134, _, hintF Hn134, K134, [], Tryz.func134, by kernel_rfl, rfl, by kernel_rfl, by kernel_rfl⟩
theorem ok135 : FunOk Tryz.prog 135 F135 := ⟨Tryz.f135, _, hintF Hn135, K135, [], Tryz.func135, by kernel_rfl, rfl, by kernel_rfl, by kernel_rfl⟩
theorem ok151 : FunOk Tryz.prog 151 F151 := ⟨Tryz.f151, _, hintF Hn151, K151, [], Tryz.func151, by kernel_rfl, rfl, by kernel_rfl, by kernel_rfl⟩
theorem ok153 : FunOk Tryz.prog 153 F153 := ⟨Tryz.f153, _, hintF Hn153, K153, [], Tryz.func153, by kernel_rfl, rfl, by kernel_rfl, by kernel_rfl⟩
theorem ok164 : FunOk Tryz.prog 164 F164 := ⟨Tryz.f164, _, hintF Hn164, K164, [], Tryz.func164, by kernel_rfl, rfl, by kernel_rfl, by kernel_rfl⟩
theorem ok165 : FunOk Tryz.prog 165 F165 := ⟨Tryz.f165, _, hintF Hn165, K165, [], Tryz.func165, by kernel_rfl, rfl, by kernel_rfl, by kernel_rfl⟩
theorem ok169 : FunOk Tryz.prog 169 F169 := ⟨Tryz.f169, _, hintF Hn169, K169, [], Tryz.func169, by kernel_rfl, rfl, by kernel_rfl, by kernel_rfl⟩
theorem ok170 : FunOk Tryz.prog 170 F170 := ⟨Tryz.f170, _, hintF Hn170, K170, [], Tryz.func170, by kernel_rfl, rfl, by kernel_rfl, by kernel_rfl⟩
theorem ok171 : FunOk Tryz.prog 171 F171 := ⟨Tryz.f171, _, hintF Hn171, K171, [], Tryz.func171, by kernel_rfl, rfl, by kernel_rfl, by kernel_rfl⟩
theorem ok172 : FunOk Tryz.prog 172 F172 := ⟨Tryz.f172, _, hintF Hn172, K172, [], Tryz.func172, by kernel_rfl, rfl, by kernel_rfl, by kernel_rfl⟩
theorem ok174 : FunOk Tryz.prog 174 F174 := ⟨Tryz.f174, _, hintF Hn174, K174, [], Tryz.func174, by kernel_rfl, rfl, by kernel_rfl, by kernel_rfl⟩
theorem ok173 : FunOk Tryz.prog 173 F173 := ⟨Tryz.f173, _, hintF Hn173, K173, [], Tryz.func173, by kernel_rfl, rfl, by kernel_rfl, by kernel_rfl⟩
theorem ok175 : FunOk Tryz.prog 175 F175 := ⟨Tryz.f175, _, hintF Hn175, K175, [], Tryz.func175, by kernel_rfl, rfl, by kernel_rfl, by kernel_rfl⟩
theorem ok176 : FunOk Tryz.prog 176 F176 := ⟨Tryz.f176, _, hintF Hn176, K176, [], Tryz.func176, by kernel_rfl, rfl, by kernel_rfl, by kernel_rfl⟩
theorem ok184 : FunOk Tryz.prog 184 F184 := ⟨Tryz.f184, _, hintF Hn184, K184, [], Tryz.func184, by kernel_rfl, rfl, by kernel_rfl, by kernel_rfl⟩
theorem ok183 : FunOk Tryz.prog 183 F183 := ⟨Tryz.f183, _, hintF Hn183, K183, [], Tryz.func183, by kernel_rfl, rfl, by kernel_rfl, by kernel_rfl⟩
theorem ok185 : FunOk Tryz.prog 185 F185 := ⟨Tryz.f185, _, hintF Hn185, K185, [], Tryz.func185, by kernel_rfl, rfl, by kernel_rfl, by kernel_rfl⟩
theorem ok187 : FunOk Tryz.prog 187 F187 := ⟨Tryz.f187, _, hintF Hn187, K187, [], Tryz.func187, by kernel_rfl, rfl, by kernel_rfl, by kernel_rfl⟩
theorem ok189 : FunOk Tryz.prog 189 F189 := ⟨Tryz.f189, _, hintF Hn189, K189, [], Tryz.func189, by kernel_rfl, rfl, by kernel_rfl, by kernel_rfl⟩
theorem ok195 : FunOk Tryz.prog 195 F195 := ⟨Tryz.f195, _, hintF Hn195, K195, [], Tryz.func195, by kernel_rfl, rfl, by kernel_rfl, by kernel_rfl⟩
theorem ok198 : FunOk Tryz.prog 198 F198 := ⟨Tryz.f198, _, hintF Hn198, K198, [], Tryz.func198, by kernel_rfl, rfl, by kernel_rfl, by kernel_rfl⟩
theorem ok199 : FunOk Tryz.prog 199 F199 := ⟨Tryz.f199, _, hintF Hn199, K199, [], Tryz.func199, by kernel_rfl, rfl, by kernel_rfl, by kernel_rfl⟩
theorem ok211 : FunOk Tryz.prog 211 F211 := ⟨Tryz.f211, _, hintF Hn211, K211, [], Tryz.func211, by kernel_rfl, rfl, by kernel_rfl, by kernel_rfl⟩
theorem ok212 : FunOk Tryz.prog 212 F212 := ⟨Tryz.f212, _, hintF Hn212, K212, [], Tryz.func212, by kernel_rfl, rfl, by kernel_rfl, by kernel_rfl⟩
theorem ok221 : FunOk Tryz.prog 221 F221 := ⟨Tryz.f221, _, hintF Hn221, K221, [], Tryz.func221, by kernel_rfl, rfl, by kernel_rfl, by kernel_rfl⟩
theorem ok182 : FunOk Tryz.prog 182 F182 := ⟨Tryz.f182, _, hintF Hn182, K182, [], Tryz.func182, by kernel_rfl, rfl, by kernel_rfl, by kernel_rfl⟩
theorem ok193 : FunOk Tryz.prog 193 F193 := ⟨Tryz.f193, _, hintF Hn193, K193, [], Tryz.func193, by kernel_rfl, rfl, by kernel_rfl, by kernel_rfl⟩
theorem ok194 : FunOk Tryz.prog 194 F194 := ⟨Tryz.f194, _, hintF Hn194, K194, [], Tryz.func194, by kernel_rfl, rfl, by kernel_rfl, by kernel_rfl⟩
theorem ok205 : FunOk Tryz.prog 205 F205 := ⟨Tryz.f205, _, hintF Hn205, K205, [], Tryz.func205, by kernel_rfl, rfl, by kernel_rfl, by kernel_rfl⟩
theorem tab_ok : ∀ (l : List (Nat × Fun)), (∀ p ∈ l, FunOk Tryz.prog p.1 p.2) → ∀ f F, lookF l f = some F → FunOk Tryz.prog f F
  | [], _, f, F, h => by simp [lookF] at h
  | (i, G) :: l, hl, f, F, h => by
    simp only [lookF] at h
    split at h
    · rename_i e; subst e; cases h; exact hl (_, _) List.mem_cons_self
    · exact tab_ok l (fun p hp => hl p (by simp [hp])) f F h
theorem tab_all : ∀ p ∈ tab, FunOk Tryz.prog p.1 p.2 := by
  intro p hp
  simp only [tab, List.mem_cons, List.not_mem_nil, or_false] at hp
  rcases hp with rfl | rfl | rfl | rfl | rfl | rfl | rfl | rfl | rfl | rfl | rfl | rfl | rfl | rfl | rfl | rfl | rfl | rfl | rfl | rfl | rfl | rfl | rfl | rfl | rfl | rfl | rfl | rfl | rfl | rfl | rfl | rfl | rfl | rfl | rfl | rfl | rfl | rfl | rfl | rfl | rfl | rfl | rfl | rfl | rfl | rfl | rfl | rfl | rfl | rfl | rfl | rfl | rfl | rfl | rfl | rfl | rfl | rfl | rfl | rfl | rfl | rfl | rfl | rfl | rfl | rfl | rfl | rfl | rfl | rfl | rfl | rfl | rfl | rfl | rfl | rfl | rfl | rfl | rfl | rfl | rfl | rfl | rfl
  · exact ok6
  · exact ok10
  · exact ok11
  · exact ok25
  · exact ok26
  · exact ok20
  · exact ok21
  · exact ok8
  · exact ok12
  · exact ok18
  · exact ok15
  · exact ok41
  · exact ok42
  · exact ok43
  · exact ok45
  · exact ok46
  · exact ok14
  · exact ok17
  · exact ok39
  · exact ok27
  · exact ok28
  · exact ok29
  · exact ok30
  · exact ok40
  · exact ok44
  · exact ok50
  · exact ok51
  · exact ok52
  · exact ok53
  · exact ok54
  · exact ok55
  · exact ok59
  · exact ok69
  · exact ok68
  · exact ok71
  · exact ok72
  · exact ok62
  · exact ok73
  · exact ok75
  · exact ok84
  · exact ok85
  · exact ok86
  · exact ok87
  · exact ok88
  · exact ok89
  · exact ok90
  · exact ok109
  · exact ok108
  · exact ok110
  · exact ok111
  · exact ok74
  · exact ok112
  · exact ok113
  · exact ok133
  · exact ok134
  · exact ok135
  · exact ok151
  · exact ok153
  · exact ok164
  · exact ok165
  · exact ok169
  · exact ok170
  · exact ok171
  · exact ok172
  · exact ok174
  · exact ok173
  · exact ok175
  · exact ok176
  · exact ok184
  · exact ok183
  · exact ok185
  · exact ok187
  · exact ok189
  · exact ok195
  · exact ok198
  · exact ok199
  · exact ok211
  · exact ok212
  · exact ok221
  · exact ok182
  · exact ok193
  · exact ok194
  · exact ok205
end Go.Proofs.H15e
